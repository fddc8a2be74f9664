import PyProof.Rows.All
import Wide.All
import OpenK.AllK
import Wide.FinOn
import HandS.ForMost
import HandS.Spec
import HandS.Dict
import KE.KDictKeyed
import HandS.Exc
import HandS.TryMany
import HandS.CallSlots
import HandS.Defaults
import HandS.Flow
import HandS.Deep
import HandS.Lambda
import HandS.ExcInit
import KE.KDflt
import HandS.SuiteRaise
import HandS.Star
import HandS.Iter
import KE.GoesEnum
import KE.GoesMore
import HandS.ReplaceLit
import HandS.TupAny
import HandS.Codes
import HandS.Text
import HandS.More
import HandS.IsInst
import HandS.FStr
import HandS.TupMul
import HandS.Strs
import HandS.Set
import HandS.OwnEq
import HandS.Zip
import HandS.SetFor
import HandS.RaiseMore
import HandS.Property
import HandS.Nested
import KE.KSuper
import HandS.CallRecv
import HandS.ClsMeth
import KE.KExcInit
import PyProof.ExcBaseAll.LookupError
import PyProof.ExcBaseAll.IndexError
import HandS.HotCalls
import HandS.HeadWalk
import HandS.ExcIs
import HandS.ExcField
import KE.KTryMore
import HandS.Style
import KE.KFmtOwn
import HandS.NoneIn
import HandS.TryOnly
import KE.KUnpackStar
import HandS.DictComp
import HandS.Small
import HandS.ExcInitHot
import HandS.RaiseFrom
import HandS.SortKw
import HandS.Conv
import HandS.SetKeys
import KE.DataMinMax
import KE.SortData
import HandS.SetBool
import HandS.HeadEnd
import HandS.ReplaceDef
import HandS.HeadHook4
import HandS.EndTab
import HandS.Head2
import HandS.Head0
import HandS.Head1
import HandS.HeadHook1
import HandS.HeadHook2
import PySem.Challenge.RW_samesight_k01_errors_by_themselves
set_option Elab.async false
set_option linter.all false
set_option maxRecDepth 100000
section
set_option maxHeartbeats 4000000
namespace Mi
open PySem PySem.Spec PyProof.Rows L2
inductive D where
 | non | bl (b:Bool) | int (i:Int) | str (s:Str) | tup (xs:List D) | ref (a:Nat) | ty (n:String) | glo (k:Nat) | fzl (xs:List D) | clo (j:Nat)
inductive O where
 | lst (xs:List D)
 | ins (c:Nat) (fs:List (Nat×D))
 | dct (kvs:List (Key×D))
 | ktp (xs:List D)
 | nd (kvs:List (D×D))
 | exn (c k:Nat)                         -- an error,the number of its attributes' dict
 | xdt (fs:List (Nat×D))
abbrev MH:=List O
inductive Res (α:Type) where
 | ok (a:α) (L:MH)
 | exc (c:Nat) (fs:List (Nat×D)) (L:MH)
 | stk
abbrev M (α:Type):=MH→Res α
@[reducible] def ret {α:Type} (a:α):M α:=fun L=>.ok a L
def Dy (φ:Heap→Prop):Prop:=∃d,∀h:Heap, φ h→∃(o:Obj) (es:Array DictEntry) (ep:Nat),h.get? d=some o∧o.data=.dict es ep
structure Ev (m:List Addr) (H:Hp) (m':List Addr) (H':Hp):Prop where
 pre:m <+: m'
 tup:∀b xs,H b=some (.tup xs)→H' b=some (.tup xs)
 frz:∀b o u,H b=some (.frz o u)→H' b=some (.frz o u)
 ext:∀b φ,¬ Dy φ→H b=some (.ext φ)→H' b=some (.ext φ)
structure LamD where
 params:Arguments
 body:Expr
 scope:Scope
 dfl:Bool
structure G where
 K:PySem.W.Frag
 an:Nat→Str
 cad:Nat→Addr
 gad:Nat→Addr
 tabs:List (Addr×Str):=[]
 lams:List LamD:=[]
 cl:List (Str×Addr):=[]
 lq:Str:=Str.empty
 fr:Addr→Bool:=fun _=>false
 fz:List Addr→Hp→Prop:=fun _ _=>True
 fzs:∀ {m m':List Addr} {H H':Hp},Ev m H m' H'→fz m H→fz m' H':=by exact fun _ _=>trivial
 w:World:=PySem.W.aWorld 1
end Mi
end
section
set_option maxHeartbeats 4000000
namespace Mi
open PySem PySem.Spec L2
inductive BOp where
 | add | sub | mul | fdiv | mod | pow
 deriving DecidableEq
def mapO {α β:Type} (f:α→Option β):List α→Option (List β)
 | []=>some []
 | x::xs=>(f x).bind fun y=>(mapO f xs).map (y::·)
inductive Bi where
 | len | all | any | abs | int1 | list1 | tuple1 | str1 | sum
 deriving DecidableEq
inductive Bm where
 | join | append | insert | split | part | starts | ends | ext | lindex
 deriving DecidableEq
inductive Ty where
 | bt (n:String) | own (c:Nat)
 deriving DecidableEq
inductive Tag where
 | non | bl | int | str | lst | tup | ins (c:Nat)
 deriving DecidableEq
mutual
inductive Ex where
 | var (i:Nat) | cint (i:Int) | cstr (s:Str) | cbl (b:Bool) | cnon | gcon (k:Nat)
 | bop (o:BOp) (a b:Ex) | neg (a:Ex)
 | cmp (o:CmpOp) (a b:Ex) | isn (a:Ex) | nisn (a:Ex) | isb (neg:Bool) (a:Ex) (p:Bool) | chain (o p:CmpOp) (a b c:Ex)
 | and (a b:Ex) | or (a b:Ex) | not (a:Ex) | ife (c a b:Ex)
 | tup (es:Exs) | lst (es:Exs)
 | ix (a i:Ex) | sl (a:Ex) (lo hi:Ox)
 | call (f:Nat) (es:Exs) (ks:List Nat) (kes:Exs)
 | meth (o:Ex) (n:Nat) (es:Exs) (ks:List Nat) (kes:Exs)
 | make (c:Nat) (es:Exs) (ks:List Nat) (kes:Exs)
 | mkS (c:Nat) (a:Ex) (ks:List Nat) (kes:Exs) | mkT (c:Nat) (a:Ex) (es:Exs) (ks:List Nat) (kes:Exs)
 | attr (o:Ex) (n:Nat)
 | bi (b:Bi) (es:Exs) | bm (b:Bm) (o:Ex) (es:Exs)
 | isin (a:Ex) (ts:List Ty)
 | fstr (es:Exs)
 | eqo (neg:Bool) (a b:Ex) | eql (neg:Bool) (a b:Ex) | ino (neg:Bool) (a b:Ex) | repro (a:Ex) | clsc (c n:Nat) | lens (a:Ex)
 | srt (a:Ex) | dpr (a:Ex) | ktu (a:Ex) | tix (a i:Ex) | dix (a i:Ex) | din (neg:Bool) (a d:Ex) | nix (a i:Ex) | nin (neg:Bool) (a d:Ex) | dnil | kix (k:Nat) (i:Ex) | kin (neg:Bool) (k:Nat) (a:Ex)
 | dc (kx vx:Ex) (t:Tg) (it:It) (ifs:Ox) (own:List Nat)
 | lc (e:Ex) (t:Tg) (it:It) (ifs:Ox) (own:List Nat) | lct (j:Nat) (es:Exs) (t:Tg) (it:It) (ifs:Ox) (own:List Nat)
 | maxd (a i:Ex) | ddsp (kvs:List (Str×D)) | kget (k:Nat) (i:Ex) (d:D) | rev (a:Ex) | lensc (e:Ex) (t:Tg) (it:It) (ifs:Ox) (own:List Nat) | upp (a:Ex) | leno (a:Ex) | stat (c n:Nat) (es:Exs) (ks:List Nat) (kes:Exs) | dget (a i d:Ex) | unk (a:Ex) | sdf (a i d:Ex)
 | srs2 (e:Ex) (t:Tg) (it:It) (ifs:Ox) (own:List Nat) (t1:Tg) (it1:It) (ifs1:Ox) (vs1:List Nat) | lc2 (e:Ex) (t:Tg) (it:It) (ifs:Ox) (own:List Nat) (t1:Tg) (it1:It) (ifs1:Ox) (vs1:List Nat)
 | srsi (e:Ex) (t:Tg) (it:It) (ifs:Ox) (own:List Nat)
 | mkx (c:Nat) (es:Exs) (ks:List Nat) (kn:List Str) (kes:Exs) | atx (o:Ex) (n:Nat) | isx (a:Ex) (t:Ty)
 | lrng (a:Ex) | lam (j:Nat) | try1 (a:Ex) (es:Exs) | tries (a:Ex) (es:Exs)
 | bad
inductive Exs where
 | nil | cons (e:Ex) (r:Exs) | star (e:Ex)
inductive Ox where
 | none | some (e:Ex)
inductive It where
 | seq (e:Ex) | rng1 (e:Ex) | rng2 (a b:Ex) | enum (e:Ex) | zip (a b:Ex) | enz (a b:Ex) | zip3 (a b c:Ex) | bad
inductive Tg where
 | var (i:Nat) | tup (ts:Tgs) | star (ts:Tgs) | sfst (ts:Tgs) | sub (o i:Ex) | dsub (o i:Ex) | nsub (o i:Ex) | attr (o:Ex) (n:Nat) | bad
inductive Tgs where
 | nil | cons (t:Tg) (r:Tgs)
end
mutual
inductive Sm where
 | asg (t:Tg) (e:Ex) | par (is:List Nat) (es:Exs) | aug (i:Nat) (o:BOp) (e:Ex)
 | expr (e:Ex) | ret (e:Ex) | retn | doc
 | ife (c:Ex) (a b:Sms) | fr (t:Tg) (it:It) (b:Sms) | whl (c:Ex) (b:Sms)
 | pass | brk | cont | bad
 | raise (c:Nat) (es:Exs)
 | tryq (c:Nat) (b:Sms)
 | tryr (cs:List Nat) (b:Sms) (c:Nat) (xs:List (Nat×Option Nat)) | tryk (cs:List Nat) (b:Sms) (d:D)
 | supE (d n:Nat) (es:Exs) (ks:List Nat) (kes:Exs) | supR (d n:Nat) (es:Exs) (ks:List Nat) (kes:Exs) (e:Ex)
inductive Sms where
 | nil | cons (s:Sm) (r:Sms) | repR (i:Nat) (o:Ex) (y z y' z' c:Str) (r:Sms)
end
structure Fd where
 ps:List Nat          -- the parameters' names (numbers of names)
 np:Nat               -- so many may be positional
 ns:Nat               -- slots
 dfl:List (Option D)  -- a default for each parameter,if any
 body:Sms
 va:Bool:=false     -- the last name takes what is left over
structure Tb where
 fn:Nat→Option Fd
 con:Nat→Option D
 meth:Nat→Nat→Option Nat
 prop:Nat→Nat→Option Nat
 ccon:Nat→Nat→Option D
 noat:Nat→Nat→Bool
 init:Nat→Option Nat
 kit:Tag→Ty→Option Bool
 sup:Nat→Nat→Nat→Option Nat
 eqf:Nat→Tag→Option Nat
 rpf:Nat→Option Nat
 clc:Nat→Nat→Option D
 kd:Nat→Option (List (Str×D)):=fun _=>none
 stat:Nat→Nat→Option Nat:=fun _ _=>none
 lnf:Nat→Option Nat:=fun _=>none
 cnf:Nat→Option Nat:=fun _=>none
 exm:Nat→List Nat→Option Bool:=fun _ _=>none                -- whether a clause of classes names a class
 fre:Nat→Option Bool:=fun _=>none                             -- whether a class's errors are raised where nothing is handled
 exi:Nat→List D→Option (List (Nat×D)):=fun _ _=>none      -- a new error's fields
 tryx:Nat→List (Nat×D)→Option D:=fun _ _=>none            -- what _law_try gives for an error
 exp:Nat→List Str:=fun _=>[]                                  -- the parameters of an error's __init__
 kix:Nat→Ty→Option Bool:=fun _ _=>none                      -- isinstance of an error
 xat:Nat→Nat→Bool:=fun _ _=>false                           -- an attribute of an error
def zbi:Tgs→Nat
 | .nil=>0
 | .cons _ r=>zbi r+1
end Mi
end
section
namespace Mi
open PySem PySem.Spec L2
def suB1 (cn:List Str) (an:Nat→Str) (vis:Str→Bool) (q:Nat×Option Nat):Expr→Bool
 | .Name x _=>decide (cn[q.1]?=some x)&&vis x&&!(x==("__debug__":Str))&&!(x==("__classdict__":Str))&&decide (q.2=none)
 | .Attribute (.Name x _) a _=>decide (cn[q.1]?=some x)&&vis x&&!(x==("__debug__":Str))&&!(x==("__classdict__":Str))&&(match q.2 with
   | some n=>decide (a=an n)
   | none=>false)
 | _=>false
def suB (cn:List Str) (an:Nat→Str) (vis:Str→Bool):List (Nat×Option Nat)→List Expr→Bool
 | [],[]=>true
 | q::qs,e::es=>suB1 cn an vis q e&&suB cn an vis qs es
 | _,_=>false
def cstB (d:D):Expr→Bool
 | .Constant .none _ _=>(match d with
   | .non=>true
   | _=>false)
 | .Constant (.bool b) _ _=>(match d with
   | .bl b'=>decide (b=b')
   | _=>false)
 | _=>false
end Mi
end
section
set_option maxHeartbeats 4000000
namespace Mi
open PySem PySem.Spec PyProof.Rows L2
def opOf:BOp→Operator
 | .add=>.Add | .sub=>.Sub | .mul=>.Mult | .fdiv=>.FloorDiv | .mod=>.Mod | .pow=>.Pow
end Mi
end
section
set_option maxHeartbeats 4000000
namespace Mi
open PySem PySem.Spec PyProof.Rows L2
def noStar:Expr→Bool
 | .Starred ..=>false
 | _=>true
def zcN:Expr→Bool
 | .UnaryOp .Not _ _=>false
 | .BoolOp ..=>false
 | .IfExp ..=>false
 | .Compare ..=>false
 | _=>true
def zbc:Expr→Bool
 | .Slice ..=>false
 | _=>true
def zfz:Expr→Bool
 | .ListComp ..=>false
 | .SetComp ..=>false
 | .DictComp ..=>false
 | _=>true
def zaS:Expr→Bool
 | .Set ..=>false
 | _=>true
def zbV:Expr→Bool
 | .Call (.Name id _) [] [] _=>id != ("super":Str)
 | _=>true
structure Nm where
 fn:Nat→Str
 cn:Nat→Str
 kn:Nat→Str
 dn:Nat→Str:=fun _=>Str.empty
end Mi
end
section
set_option maxHeartbeats 4000000
namespace Mi
open PySem PySem.Spec PyProof.Rows L2
inductive Bs where
 | ve | le | ie
def Bs.n:Bs→String
 | .ve=>"ValueError" | .le=>"LookupError" | .ie=>"IndexError"
def Bs.new:Bs→String
 | .ve=>"ValueError.__new__" | .le=>"LookupError.__new__" | .ie=>"IndexError.__new__"
def Bs.ini:Bs→String
 | .ve=>"ValueError.__init__" | .le=>"LookupError.__init__" | .ie=>"IndexError.__init__"
def Bs.tl:Bs→List Value
 | .ve=>[.type "ValueError",.type "Exception",.type "BaseException",.type "object"]
 | .le=>[.type "LookupError",.type "Exception",.type "BaseException",.type "object"]
 | .ie=>[.type "IndexError",.type "LookupError",.type "Exception",.type "BaseException",.type "object"]
end Mi
namespace Mi.OB
open PySem PySem.W PySem.Calls PyProof.Rows PySem.HandSPX PySem.OEX
end Mi.OB
namespace Mi
open PySem PySem.Spec PyProof.Rows L2
end Mi
end
section
set_option maxHeartbeats 4000000
namespace Mi
open PySem PySem.Spec PyProof.Rows L2
inductive ExS where
 | par (i:Nat) | con (s:Str)
 deriving DecidableEq
def exsD (ds:List D):Nat ⊕ Str→Option D
 | .inl i=>ds[i]?
 | .inr s=>some (.str s)
def exF (fl:List (Nat×(Nat ⊕ Str))) (np:Nat) (ds:List D):Option (List (Nat×D)):=if ds.length=np then mapO (fun q=>(exsD ds q.2).map fun d=>(q.1,d)) fl else none
def srcS:Nat ⊕ Str→ExS
 | .inl i=>.par i
 | .inr s=>.con s
end Mi
end
section
set_option maxHeartbeats 4000000
namespace Mi
open PySem PySem.Spec PyProof.Rows L2
def tagV (g:G):Tag→Value
 | .non=>.type "NoneType" | .bl=>.type "bool" | .int=>.type "int" | .str=>.type "str" | .lst=>.type "list" | .tup=>.type "tuple"
 | .ins c=>.ref (g.cad c)
def zcC (g:G):Ty→Value
 | .bt n=>.type n
 | .own c=>.ref (g.cad c)
structure Cf where
 nm:Nm
 an:Nat→Str
 glob:List Nat
 blt:List Str
 cls:List Nat
 exs:List (Nat×Nat×List (Nat×(Nat ⊕ Str))):=[]   -- classes of errors: parameters,fields
 lams:List LamD:=[]                                    -- the law's lambdas
 ftry:Nat:=0
 ftries:Nat:=0
end Mi
end
section
set_option maxHeartbeats 4000000
namespace Mi
open PySem PySem.Spec PyProof.Rows L2
section
variable {g:G} {T:Tb} {cf:Cf} {dt:Nat→FuncData} {C:Nat→List D→M D} {k:Nat} {X:Cx} {W:WX}
variable {a b i:Ex} {ea eb ei:Expr} {pos:Pos} {es:Exs} {xs:List Expr}
def zat:List Keyword→Option (List Str)
 | []=>some []
 | ⟨some n,_,_⟩::r=>(zat r).map (n::·)
 | ⟨none,_,_⟩::_=>none
end
end Mi
end
section
set_option maxHeartbeats 4000000
namespace Mi
open PySem PySem.Spec PyProof.Rows L2
def fewB (es:List Expr) (kws:List Keyword) (apos pos:Pos):Bool:=decide (es.length+kws.length+1 < 30)&&(apos.endLine==pos.line)
end Mi
end
section
set_option maxHeartbeats 4000000
namespace Mi
open PySem PySem.Spec PyProof.Rows L2
section
variable {g:G} {T:Tb} {cf:Cf} {dt:Nat→FuncData} {C:Nat→List D→M D} {k:Nat} {X:Cx} {W:WX}
variable {a b i o:Ex} {ea eb eo:Expr} {pos apos p:Pos} {es:Exs} {xs:List Expr}
def biN:Bi→Str
 | .len=>"len" | .all=>"all" | .any=>"any" | .abs=>"abs" | .int1=>"int" | .list1=>"list" | .tuple1=>"tuple" | .str1=>"str" | .sum=>"sum"
def bmN:Bm→Str
 | .join=>"join" | .append=>"append" | .insert=>"insert" | .split=>"split" | .part=>"partition" | .starts=>"startswith" | .ends=>"endswith" | .ext=>"extend" | .lindex=>"index"
def zfy:List String:=["int", "str", "bool", "list", "tuple", "ValueError", "LookupError", "IndexError", "KeyError"]
end
end Mi
end
section
set_option maxHeartbeats 4000000
namespace Mi
open PySem PySem.Spec PyProof.Rows L2
section
variable {g:G} {T:Tb} {cf:Cf} {dt:Nat→FuncData} {C:Nat→List D→M D} {k:Nat} {X:Cx} {W:WX} {tg:Expr}
variable {a b i o:Ex} {ea eb eo:Expr} {pos apos p:Pos} {es:Exs} {xs:List Expr}
def zaj:Expr→Bool
 | .Starred ..=>false
 | _=>true
variable {t:Tg} {ts:Tgs} {vs:List Nat}
end
end Mi
end
section
set_option maxHeartbeats 4000000
namespace Mi
open PySem PySem.Spec PyProof.Rows L2 L2H
abbrev Rows:=List (List Str×List Str)
def hit (codes:List Str) (code:Str):Bool:=codes.any fun c=>c==code
def atB (en n:Str):Expr→Bool
 | .Attribute (.Name x _) a _=>decide (x=en)&&decide (a=n)
 | _=>false
def elB (en:Str):List Str→List Expr→Bool
 | [],[]=>true
 | n::ns,e::es=>atB en n e&&elB en ns es
 | _,_=>false
def cdB:List Str→List Expr→Bool
 | [],[]=>true
 | c::cs,.Constant (.str x) _ _::es=>decide (c=x)&&cdB cs es
 | _,_=>false
def rowB (en:Str) (r:List Str×List Str):Stmt→Bool
 | .If (.Compare l [op] [x] _) [.Return (some (.Tuple es _ _)) _] [] _=>atB en "code" l&&elB en r.2 es&&(match op,x with
   | .Eq,.Constant (.str c) _ _=>decide (r.1=[c])
   | .In,.Tuple cs _ _=>cdB r.1 cs&&decide (r.1.length≤1000)
   | _,_=>false)
 | _=>false
def zoE (en:Str):Rows→List Stmt→Bool
 | [],[.Return (some (.Tuple [] _ _)) _]=>true
 | r::rs,s::ss=>rowB en r s&&zoE en rs ss
 | _,_=>false
end Mi
end
section
set_option maxHeartbeats 4000000
namespace Mi
open PySem PySem.Spec PyProof.Rows L2
section
variable {X:Cx} {P:Program} {w:World} {K:PySem.W.Frag} {mg:Str→Option Value} {base:Heap}
def zic (N:List Str) (q:Str×Nat):Stmt→Bool
 | .Assign [.Attribute (.Name s _) f _] (.Name x _) _=>decide (f=q.1)&&decide (N[0]?=some s)&&decide (N[q.2]?=some x)&&!(s==("__debug__":Str))&&!(s==("__classdict__":Str))&&!(x==("__debug__":Str))&&!(x==("__classdict__":Str))
 | _=>false
def zgT (N:List Str):List (Str×Nat)→List Stmt→Bool
 | [],[]=>true
 | q::qs,s::ss=>zic N q s&&zgT N qs ss
 | _,_=>false
end
def zh3 (bk:Bs) (N:List Str) (f:Str):List Stmt→Bool
 | [.Expr (.Call (.Attribute (.Name b _) m ap) [.Name s ps,.Name x px] [] cp) _,st]=>fewB [.Name s ps,.Name x px] [] ap cp&&decide (b=Str.ofString bk.n)&&decide (m="__init__")&&decide (N=[s,x])&&!(s==("__debug__":Str))&&!(s==("__classdict__":Str))&&!(x==("__debug__":Str))&&!(x==("__classdict__":Str))&&zic N (f,1) st
 | _=>false
def conB (bk:Bs) (N:List Str) (f code:Str):List Stmt→Bool
 | [.Expr (.Call (.Attribute (.Name b _) m ap) [.Name s ps,.Constant (.str z) zj zp] [] cp) _,.Assign [.Attribute (.Name s2 _) f2 _] (.Constant (.str c) _ _) _]=>fewB [.Name s ps,.Constant (.str z) zj zp] [] ap cp&&decide (b=Str.ofString bk.n)&&decide (m="__init__")&&decide (N=[s])&&!(s==("__debug__":Str))&&!(s==("__classdict__":Str))&&decide (s2=s)&&decide (f2=f)&&decide (c=code)
 | _=>false
def derB (N:List Str) (B code:Str) (qs:List (Str×Nat)):List Stmt→Bool
 | .Expr (.Call (.Attribute (.Name b _) m ap) [.Name s ps,.Constant (.str c) j jp] [] cp) _::ss=>fewB [.Name s ps,.Constant (.str c) j jp] [] ap cp&&decide (b=B)&&!(b==("__debug__":Str))&&decide (m="__init__")&&decide (c=code)&&decide (N[0]?=some s)&&!(s==("__debug__":Str))&&!(s==("__classdict__":Str))&&zgT N qs ss&&qs.all (fun q=>decide (1≤q.2))&&decide (qs.length≤100)
 | _=>false
section
variable {P:Program} {w:World} {K:PySem.W.Frag} {mg:Str→Option Value} {base:Heap} {x qual:Str} {params:Arguments} {body:List Stmt} {scope:Scope} {f:Addr} {fd:FuncData} {N:List Str}
def derF (f code:Str) (qs:List (Str×Nat)):List (Str×ExS):=(qs.map fun q=>(q.1,ExS.par (q.2 - 1))).reverse++[(f,.con code)]
end
end Mi
end
section
set_option maxHeartbeats 4000000
namespace Mi
open PySem PySem.Spec PyProof.Rows L2
def eqs (x y:Str):Bool:=decide (x=y)
section
variable {g:G} {T:Tb} {cf:Cf} {dt:Nat→FuncData} {C:Nat→List D→M D} {k wf:Nat} {X:Cx} {W:WX} {tg:Expr}
variable {a b i o e d:Ex} {ea eb ei eo ed:Expr} {pos apos p:Pos} {es:Exs} {xs:List Expr}
def repE (eo:Expr) (y z y' z' x:Str) (e:Expr):Bool:=match e with
 | .Call (.Attribute (.Call (.Attribute (.Call (.Attribute o r1 a1) [.Constant (.str u1) _ _,.Constant (.str v1) _ _] [] p1) r2 a2) [.Constant (.str u2) _ _,.Constant (.str v2) _ _] [] p2) r3 a3) [.Constant (.str w) _ _] [] p3=>
  eqs r1 "replace"&&eqs r2 "replace"&&eqs r3 "split"&&eqs u1 y&&eqs v1 z&&eqs u2 y'&&eqs v2 z'&&eqs w x&&!(y==z)&&!(y'==z')&&(a1.endLine==p1.line)&&(a2.endLine==p2.line)&&(a3.endLine==p3.line)
 | _=>false
def repO (e:Expr):Expr:=match e with
 | .Call (.Attribute (.Call (.Attribute (.Call (.Attribute o _ _) _ _ _) _ _) _ _ _) _ _) _ _ _=>o
 | e=>e
end
end Mi
end
section
set_option maxHeartbeats 4000000
namespace Mi
open PySem PySem.Spec PyProof.Rows L2
def ngB (x:Str):Bool:=!(x==("__debug__":Str))&&!(x==("__classdict__":Str))
def lkB (sc:Scope) (x:Str) (k:NameKind):Bool:=decide (sc.names.lookup x=some k)
def tryB (N:List Str) (sc:Scope) (x1 x2 x3 fl:Str):List Stmt→Bool
 | [.Try [.Return (some (.Tuple [.Constant (.str e0) _ _,.Call (.Name a _) [] [] _] _ _)) _]
     [.ExceptHandler (some (.Tuple [.Name y1 _,.Name y2 _,.Name y3 _] _ _)) (some en) [.Return (some (.Tuple [.Attribute (.Name e1 _) cd _,.Call (.Name f _) [.Name e2 _] [] _] _ _)) _] _] [] [] _]=>
  decide (e0="")&&decide (N[0]?=some a)&&decide (N[1]?=some en)&&decide (e1=en)&&decide (e2=en)&&decide (cd="code")&&decide (f=fl)&&decide (y1=x1)&&decide (y2=x2)&&decide (y3=x3)&&
  (ngB a&&ngB en&&ngB fl&&ngB x1&&ngB x2&&ngB x3)&&(lkB sc a .local&&lkB sc en .local&&lkB sc fl .globalImplicit&&lkB sc x1 .globalImplicit&&lkB sc x2 .globalImplicit&&lkB sc x3 .globalImplicit)
 | _=>false
end Mi
end
section
set_option maxHeartbeats 4000000
namespace Mi
open PySem PySem.Spec PyProof.Rows L2
section
variable {g:G} {T:Tb} {cf:Cf} {dt:Nat→FuncData} {C:Nat→List D→M D} {k wf:Nat}
structure Cn where
 N:List Str
 sc:Scope
 fn:Str→Bool
 lw:Bool
abbrev celB (scope:Scope):Str→Bool:=fun x=>scope.names.lookup x==some .cell
end
end Mi
end
section
set_option maxHeartbeats 8000000
namespace Mi
open PySem PySem.Spec PyProof.Rows L2
def visB (cn:Cn) (x:Str):Bool:=match cn.sc.names.lookup x with
 | some .local=>true
 | some .cell=>true
 | some .free=>true
 | _=>false
def locB (cn:Cn) (x:Str):Bool:=match cn.sc.names.lookup x with
 | some .local=>true
 | some .cell=>cn.fn x
 | _=>false
def zcd (cn:Cn) (x:Str):Bool:=match cn.sc.names.lookup x with
 | some .local=>true
 | _=>false
def glB (cn:Cn) (x:Str):Bool:=match cn.sc.names.lookup x with
 | some .globalImplicit=>true
 | _=>false
def ndB (x:Str):Bool:=!(x==("__debug__":Str))
def ncB (x:Str):Bool:=!(x==("__classdict__":Str))
def zqZ (cn:Cn):Expr→Bool
 | .Name x _=>!zcd cn x
 | _=>true
def zib (cn:Cn) (tg e:Expr):Bool:=match tg,e with
 | .Tuple ts _ _,.Tuple vs _ _=>!(ts.length==2||ts.length==3)||vs.length != ts.length||ts.any (zqZ cn)
 | .List _ _,.Tuple _ _ _=>false
 | _,_=>true
def zlG (x y:Str) (px py:Pos) (vs:List Expr):Bool:=decide (px.line=py.line)&&!(x==y)&&!(vs.any fun | .Starred ..=>true | _=>false)&&!(vs.all (foldedForSure 8))&&!(vs.all (constantsAlone 8))
def zk4 (x y z:Str) (px py pz:Pos) (vs:List Expr):Bool:=decide (px.line=py.line)&&decide (px.line=pz.line)&&!(x==y)&&!(x==z)&&!(y==z)&&!(vs.any fun | .Starred ..=>true | _=>false)&&!(vs.all (foldedForSure 8))&&!(vs.all (constantsAlone 8))
def tyB (cf:Cf) (cn:Cn):Ty→Expr→Bool
 | .bt n,.Name x _=>eqs x (Str.ofString n)&&zfy.contains n&&glB cn x&&cf.blt.contains x
 | .own c,.Name x _=>eqs x (cf.nm.cn c)&&cf.cls.contains c&&glB cn x&&ndB x
 | _,_=>false
def tysB (cf:Cf) (cn:Cn):List Ty→List Expr→Bool
 | [],[]=>true
 | t::ts,e::es=>noStar e&&tyB cf cn t e&&tysB cf cn ts es
 | _,_=>false
def zdA:Expr→Bool
 | .Tuple ..=>true
 | _=>false
def ownP (N:List Str) (own:List Nat):List (Str×Nat):=own.map fun v=>(N.getD v Str.empty,v)
variable (cf:Cf) (T:Tb)
mutual
def chkE:Ex→Cn→Bool→Expr→BoolOp→List Expr→Bool
 | .var i,cn,tm,x,_,r=>(match x,r with
   | .Name y _,[]=>decide (cn.N[i]?=some y)&&visB cn y&&ndB y&&ncB y
   | _,_=>false)
 | .cint i,cn,tm,x,_,r=>(match x,r with
   | .Constant (.int j) _ _,[]=>decide (i=j)
   | _,_=>false)
 | .cstr s,cn,tm,x,_,r=>(match x,r with
   | .Constant (.str t) _ _,[]=>eqs s t
   | _,_=>false)
 | .cbl a,cn,tm,x,_,r=>(match x,r with
   | .Constant (.bool b) _ _,[]=>decide (a=b)
   | _,_=>false)
 | .cnon,cn,tm,x,_,r=>(match x,r with
   | .Constant .none _ _,[]=>true
   | _,_=>false)
 | .gcon k,cn,tm,x,_,r=>false
 | .bop o a b,cn,tm,x,_,r=>(match x,r with
   | .BinOp l op r _,[]=>decide (op=opOf o)&&chkE a cn false l .And []&&chkE b cn false r .And []
   | _,_=>false)
 | .neg a,cn,tm,x,_,r=>(match x,r with
   | .UnaryOp .USub y _,[]=>chkE a cn false y .And []
   | _,_=>false)
 | .cmp o a b,cn,tm,x,_,r=>(match x,r with
   | .Compare l [p] [r] _,[]=>decide (o=p)&&zaS r&&chkE a cn false l .And []&&chkE b cn false r .And []
   | _,_=>false)
 | .isn a,cn,tm,x,_,r=>(match x,r with
   | .Compare l [.Is] [.Constant .none _ _] _,[]=>chkE a cn false l .And []
   | _,_=>false)
 | .nisn a,cn,tm,x,_,r=>false
 | .isb ng a p,cn,tm,x,_,r=>false
 | .chain o p a b c,cn,tm,x,_,r=>(match x,r with
   | .Compare l [o',p'] [r,q] _,[]=>decide (o=o')&&decide (p=p')&&zaS q&&chkE a cn false l .And []&&chkE b cn false r .And []&&chkE c cn false q .And []
   | _,_=>false)
 | .and a b,cn,tm,x,op,r=>(match r with
   | []=>(match x with
     | .BoolOp .And (y::z::rest) _=>chkE a cn tm y .And []&&chkE b cn tm z .And rest
     | _=>false)
   | z::rest=>decide (op=.And)&&chkE a cn tm x .And []&&chkE b cn tm z .And rest)
 | .or a b,cn,tm,x,op,r=>(match r with
   | []=>(match x with
     | .BoolOp .Or (y::z::rest) _=>chkE a cn tm y .And []&&chkE b cn tm z .Or rest
     | _=>false)
   | z::rest=>decide (op=.Or)&&chkE a cn tm x .And []&&chkE b cn tm z .Or rest)
 | .not a,cn,tm,x,_,r=>(match x,r with
   | .UnaryOp .Not y _,[]=>chkE a cn tm y .And []
   | _,_=>false)
 | .ife c a b,cn,tm,x,_,r=>(match x,r with
   | .IfExp t y z _,[]=>!tm&&chkE c cn true t .And []&&chkE a cn false y .And []&&chkE b cn false z .And []
   | _,_=>false)
 | .tup es,cn,tm,x,_,r=>(match x,r with
   | .Tuple xs _ _,[]=>chkAS es cn xs
   | _,_=>false)
 | .lst es,cn,tm,x,_,r=>(match x,r with
   | .List xs _,[]=>chkAS es cn xs
   | _,_=>false)
 | .sl a lo hi,cn,tm,x,_,r=>(match x,r with
   | .Subscript y (.Slice l h none _) _,[]=>chkE a cn false y .And []&&chkO lo cn l&&chkO hi cn h
   | _,_=>false)
 | .ix a i,cn,tm,x,_,r=>(match x,r with
   | .Subscript y z _,[]=>zbc z&&chkE a cn false y .And []&&chkE i cn false z .And []
   | _,_=>false)
 | .call f es ks kes,cn,tm,x,_,r=>(match x,r with
   | .Call (.Name y _) xs kws _,[]=>eqs y (cf.nm.fn f)&&(T.fn f).isSome&&cf.glob.contains f&&glB cn y&&ndB y&&decide ks.Nodup&&decide (zat kws=some (ks.map cf.an))&&chkA es cn xs&&chkK kes cn kws
   | _,_=>false)
 | .make f es ks kes,cn,tm,x,_,r=>false
 | .mkS f a ks kes,cn,tm,x,_,r=>false
 | .mkT f a es ks kes,cn,tm,x,_,r=>false
 | .meth o n es ks kes,cn,tm,x,_,r=>false
 | .mkx f es ks kn kes,cn,tm,x,_,r=>(match x,r,cf.exs.lookup f with
   | .Call (.Name y _) xs kws _,[],some _=>eqs y (cf.nm.cn f)&&cf.cls.contains f&&glB cn y&&ndB y&&decide ks.Nodup&&decide (zat kws=some (ks.map cf.an))&&decide (ks.map cf.an=kn)&&chkA es cn xs&&chkK kes cn kws
   | _,_,_=>false)
 | .atx o n,cn,tm,x,_,r=>(match x,r with
   | .Attribute eo a _,[]=>eqs a (cf.an n)&&zbV eo&&chkE o cn false eo .And []
   | _,_=>false)
 | .isx a t,cn,tm,x,_,r=>(match x,r with
   | .Call (.Name y _) [ea,et] [] _,[]=>eqs y "isinstance"&&glB cn y&&cf.blt.contains y&&noStar ea&&noStar et&&chkE a cn false ea .And []&&tyB cf cn t et
   | _,_=>false)
 | .attr o n,cn,tm,x,_,r=>false
 | .bi b es,cn,tm,x,_,r=>(match x,r with
   | .Call (.Name y _) (ea::xs) [] _,[]=>eqs y (biN b)&&glB cn y&&cf.blt.contains y&&chkA es cn (ea::xs)
   | _,_=>false)
 | .bm b o es,cn,tm,x,_,r=>(match x,r with
   | .Call (.Attribute eo a apos) (ea::xs) [] pos,[]=>eqs a (bmN b)&&zbV eo&&fewB (ea::xs) [] apos pos&&chkE o cn false eo .And []&&chkA es cn (ea::xs)
   | _,_=>false)
 | .isin a ts,cn,tm,x,_,r=>(match x,r with
   | .Call (.Name y _) [ea,et] [] _,[]=>eqs y "isinstance"&&glB cn y&&cf.blt.contains y&&noStar ea&&chkE a cn false ea .And []&&(match et with
     | .Tuple ets _ _=>!ts.isEmpty&&decide (ts.length≤30)&&tysB cf cn ts ets
     | et=>(match ts with
       | [t]=>noStar et&&tyB cf cn t et
       | _=>false))
   | _,_=>false)
 | .fstr es,cn,tm,x,_,r=>false
 | .lrng a,cn,tm,x,_,r=>(match x,r with
   | .Call (.Name f _) [.Call (.Name f2 _) [y] [] _] [] _,[]=>eqs f "list"&&eqs f2 "range"&&glB cn f&&glB cn f2&&cf.blt.contains f&&cf.blt.contains f2&&noStar y&&chkE a cn false y .And []
   | _,_=>false)
 | .lens a,cn,tm,x,_,r=>false
 | .srt a,cn,tm,x,_,r=>false
 | .dpr a,cn,tm,x,_,r=>false
 | .ktu a,cn,tm,x,_,r=>false
 | .tix o i,cn,tm,x,_,r=>false
 | .eqo ng a b,cn,tm,x,_,r=>false
 | .eql ng a b,cn,tm,x,_,r=>false
 | .ino ng a b,cn,tm,x,_,r=>false
 | .repro a,cn,tm,x,_,r=>false
 | .clsc c m,cn,tm,x,_,r=>false
 | .dix a i,cn,tm,x,_,r=>false
 | .din ng a d,cn,tm,x,_,r=>false
 | .nix a i,cn,tm,x,_,r=>false
 | .nin ng a d,cn,tm,x,_,r=>false
 | .dnil,cn,tm,x,_,r=>false
 | .kix k i,cn,tm,x,_,r=>false
 | .kin ng k a,cn,tm,x,_,r=>false
 | .dc kx vx t it oi own,cn,tm,x,_,r=>(match x,r with
   | .DictComp ekx evx [⟨tg,iter,ifs,0⟩] scope _,[]=>zaS iter&&chkI it cn tg iter&&blkC cn.N cn.sc scope (ownP cn.N own)&&chkG t ⟨cn.N,relS scope cn.sc,celB scope,false⟩ own tg&&chkE kx ⟨cn.N,relS scope cn.sc,celB scope,false⟩ false ekx .And []&&chkE vx ⟨cn.N,relS scope cn.sc,celB scope,false⟩ false evx .And []&&chkQ oi ⟨cn.N,relS scope cn.sc,celB scope,false⟩ ifs
   | _,_=>false)
 | .lc e t it oi own,cn,tm,x,_,r=>(match x,r with
   | .ListComp elt [⟨tg,iter,ifs,0⟩] scope _,[]=>zaS iter&&chkI it cn tg iter&&blkC cn.N cn.sc scope (ownP cn.N own)&&chkG t ⟨cn.N,relS scope cn.sc,celB scope,false⟩ own tg&&chkE e ⟨cn.N,relS scope cn.sc,celB scope,false⟩ false elt .And []&&chkQ oi ⟨cn.N,relS scope cn.sc,celB scope,false⟩ ifs
   | _,_=>false)
 | .lct j es t it oi own,cn,tm,x,_,r=>false
 | .maxd a i,cn,tm,x,_,r=>false
 | .ddsp kvs,cn,tm,x,_,r=>false
 | .rev a,cn,tm,x,_,r=>false
 | .kget k i d,cn,tm,x,_,r=>false
 | .dget a i d,cn,tm,x,_,r=>false
 | .sdf a i d,cn,tm,x,_,r=>false
 | .lensc e t it oi own,cn,tm,x,_,r=>false
 | .srsi e t it oi own,cn,tm,x,_,r=>false
 | .srs2 e t it oi own t1 it1 oi1 vs1,cn,tm,x,_,r=>false
 | .lc2 e t it oi own t1 it1 oi1 vs1,cn,tm,x,_,r=>(match x,r with
   | .ListComp elt [⟨tg,iter,ifs,0⟩,⟨tg1,iter1,ifs1,0⟩] scope _,[]=>zaS iter&&zaS iter1&&vs1.all (own.contains ·)&&chkI it cn tg iter&&blkC cn.N cn.sc scope (ownP cn.N own)&&chkG t ⟨cn.N,relS scope cn.sc,celB scope,false⟩ own tg&&chkQ oi ⟨cn.N,relS scope cn.sc,celB scope,false⟩ ifs&&chkI it1 ⟨cn.N,relS scope cn.sc,celB scope,false⟩ tg1 iter1&&chkG t1 ⟨cn.N,relS scope cn.sc,celB scope,false⟩ vs1 tg1&&chkQ oi1 ⟨cn.N,relS scope cn.sc,celB scope,false⟩ ifs1&&chkE e ⟨cn.N,relS scope cn.sc,celB scope,false⟩ false elt .And []
   | _,_=>false)
 | .leno a,cn,tm,x,_,r=>false
 | .unk a,cn,_,x,_,r=>(match r with
   | []=>zcN x&&chkE a cn false x .And []
   | _=>false)
 | .upp a,cn,tm,x,_,r=>false
 | .stat f n es ks kes,cn,tm,x,_,r=>false
 | .lam j,cn,tm,x,_,r=>false
 | .try1 a es,cn,tm,x,_,r=>false
 | .tries a es,cn,tm,x,_,r=>false
 | .bad,_,_,_,_,_=>true
def chkAS:Exs→Cn→List Expr→Bool
 | .nil,_,xs=>xs.isEmpty
 | .star e,cn,xs=>(match xs with
   | [.Starred x _]=>chkE e cn false x .And []
   | _=>false)
 | .cons e r,cn,xs=>(match xs with
   | x::xs=>noStar x&&chkE e cn false x .And []&&chkAS r cn xs
   | []=>false)
def chkA:Exs→Cn→List Expr→Bool
 | .nil,_,xs=>xs.isEmpty
 | .star _,_,_=>false
 | .cons e r,cn,xs=>(match xs with
   | x::xs=>noStar x&&chkE e cn false x .And []&&chkA r cn xs
   | []=>false)
def chkK:Exs→Cn→List Keyword→Bool
 | .nil,_,xs=>xs.isEmpty
 | .star _,_,_=>false
 | .cons e r,cn,xs=>(match xs with
   | ⟨_,x,_⟩::xs=>chkE e cn false x .And []&&chkK r cn xs
   | []=>false)
def chkO:Ox→Cn→Option Expr→Bool
 | .none,_,x=>x.isNone
 | .some e,cn,x=>(match x with
   | some x=>chkE e cn false x .And []
   | none=>false)
def chkQ:Ox→Cn→List Expr→Bool
 | .none,_,xs=>xs.isEmpty
 | .some e,cn,xs=>(match xs with
   | [x]=>chkE e cn true x .And []
   | _=>false)
def chkI:It→Cn→Expr→Expr→Bool
 | .seq a,cn,_,x=>chkE a cn false x .And []
 | .rng1 a,cn,_,x=>(match x with
   | .Call (.Name f _) [x] [] _=>eqs f "range"&&glB cn f&&cf.blt.contains f&&noStar x&&chkE a cn false x .And []
   | _=>false)
 | .rng2 a b,cn,_,x=>(match x with
   | .Call (.Name f _) [x,y] [] _=>eqs f "range"&&glB cn f&&cf.blt.contains f&&noStar x&&noStar y&&chkE a cn false x .And []&&chkE b cn false y .And []
   | _=>false)
 | .enum a,cn,t,x=>zdA t&&(match x with
   | .Call (.Name f _) [x] [] _=>eqs f "enumerate"&&glB cn f&&cf.blt.contains f&&noStar x&&chkE a cn false x .And []
   | _=>false)
 | .zip a b,cn,t,x=>zdA t&&(match x with
   | .Call (.Name f _) [x,y] [] _=>eqs f "zip"&&glB cn f&&cf.blt.contains f&&noStar x&&noStar y&&chkE a cn false x .And []&&chkE b cn false y .And []
   | _=>false)
 | .enz a b,cn,t,x=>zdA t&&(match x with
   | .Call (.Name f _) [.Call (.Name f2 _) [x,y] [] _] [] _=>eqs f "enumerate"&&glB cn f&&cf.blt.contains f&&eqs f2 "zip"&&glB cn f2&&cf.blt.contains f2&&noStar x&&noStar y&&chkE a cn false x .And []&&chkE b cn false y .And []
   | _=>false)
 | .zip3 a b c,cn,t,x=>zdA t&&(match x with
   | .Call (.Name f _) [x,y,z] [] _=>eqs f "zip"&&glB cn f&&cf.blt.contains f&&noStar x&&noStar y&&noStar z&&chkE a cn false x .And []&&chkE b cn false y .And []&&chkE c cn false z .And []
   | _=>false)
 | .bad,_,_,_=>true
def chkG:Tg→Cn→List Nat→Expr→Bool
 | .var i,cn,vs,x=>(match x with
   | .Name x _=>decide (cn.N[i]?=some x)&&locB cn x&&vs.contains i
   | _=>false)
 | .tup ts,cn,vs,x=>(match x with
   | .Tuple es _ _=>decide (es.length=zbi ts)&&es.all zaj&&chkGs ts cn vs es
   | _=>false)
 | .star ts,cn,vs,x=>(match x with
   | .Tuple es _ _=>(match es.getLast? with
     | some (.Starred te _)=>decide (es.dropLast.length+1=zbi ts)&&es.dropLast.all zaj&&zaj te&&chkGs ts cn vs (es.dropLast++[te])
     | _=>false)
   | _=>false)
 | .sfst ts,cn,vs,x=>(match x with
   | .Tuple (.Starred te _::es) _ _=>decide (es.length+1=zbi ts)&&es.all zaj&&zaj te&&chkGs ts cn vs (te::es)
   | _=>false)
 | .sub o i,cn,_,x=>(match x with
   | .Subscript a b _=>zbc b&&chkE o cn false a .And []&&chkE i cn false b .And []
   | _=>false)
 | .dsub o i,cn,_,x=>(match x with
   | .Subscript a b _=>zbc b&&chkE o cn false a .And []&&chkE i cn false b .And []
   | _=>false)
 | .nsub o i,cn,_,x=>(match x with
   | .Subscript a b _=>zbc b&&chkE o cn false a .And []&&chkE i cn false b .And []
   | _=>false)
 | .attr o n,cn,_,x=>(match x with
   | .Attribute eo a _=>eqs a (cf.an n)&&chkE o cn false eo .And []
   | _=>false)
 | .bad,_,_,_=>true
def chkGs:Tgs→Cn→List Nat→List Expr→Bool
 | .nil,_,_,xs=>xs.isEmpty
 | .cons t r,cn,vs,xs=>(match xs with
   | x::xs=>zaj x&&chkG t cn vs x&&chkGs r cn vs xs
   | []=>false)
end
def allS (cn:Cn):List Nat:=List.range cn.N.length
def asgB (t:Tg) (e:Ex) (cn:Cn) (tg x:Expr) (pos:Pos):Bool:=match e,x with
 | .lc e' t' it oi own,.ListComp elt gens scope lpos=>(match tg with
   | .Name y py=>(match t with
     | .var j=>if zcd cn y&&decide (py.line=lpos.line)&&!(scope.names.any fun (n,k)=>n==y&&(k==.local||k==.cell)) then decide (cn.N[j]?=some y)&&chkE cf T e cn false x .And [] else if decide (cn.sc.names.lookup y=some .cell) then chkG cf T t cn (allS cn) tg&&chkE cf T e cn false x .And [] else false
     | _=>false)
   | _=>zaj tg&&chkG cf T t cn (allS cn) tg&&chkE cf T e cn false x .And [])
 | .dc kx vx t' it oi own,.DictComp ekx evx gens scope lpos=>(match tg with
   | .Name y py=>(match t with
     | .var j=>if zcd cn y&&decide (py.line=lpos.line)&&!(scope.names.any fun (n,k)=>n==y&&(k==.local||k==.cell)) then decide (cn.N[j]?=some y)&&chkE cf T e cn false x .And [] else false
     | _=>false)
   | _=>false)
 | .lc2 e' t' it oi own t1 it1 oi1 vs1,.ListComp elt gens scope lpos=>(match tg with
   | .Name y py=>(match t with
     | .var j=>if zcd cn y&&decide (py.line=lpos.line)&&!(scope.names.any fun (n,k)=>n==y&&(k==.local||k==.cell)) then decide (cn.N[j]?=some y)&&chkE cf T e cn false x .And [] else false
     | _=>false)
   | _=>false)
 | e,x=>zfz x&&zib cn tg x&&zaj tg&&chkG cf T t cn (allS cn) tg&&chkE cf T e cn false x .And []
def clB (cf:Cf) (cn:Cn) (cs:List Nat) (he:Expr):Bool:=match cs,he with
 | [c],.Name y _=>eqs y (cf.nm.cn c)&&cf.cls.contains c&&glB cn y&&ndB y
 | [c,d],.Tuple [.Name y _,.Name z _] _ _=>eqs y (cf.nm.cn c)&&cf.cls.contains c&&glB cn y&&ndB y&&eqs z (cf.nm.cn d)&&cf.cls.contains d&&glB cn z&&ndB z
 | _,_=>false
mutual
def chkS:Sm→Cn→Stmt→Bool
 | .asg t e,cn,s=>(match s with
   | .Assign [tg] x pos=>asgB cf T t e cn tg x pos
   | _=>false)
 | .par is es,cn,s=>(match s with
   | .Assign [.Tuple [.Name x px,.Name y py] _ _] (.Tuple [a,b] _ _) _=>(match is with
     | [i,j]=>decide (cn.N[i]?=some x)&&decide (cn.N[j]?=some y)&&decide (i≠j)&&zcd cn x&&zcd cn y&&zlG x y px py [a,b]&&chkA cf T es cn [a,b]
     | _=>false)
   | .Assign [.Tuple [.Name x px,.Name y py,.Name z pz] _ _] (.Tuple [a,b,c] _ _) _=>(match is with
     | [i,j,l]=>decide (cn.N[i]?=some x)&&decide (cn.N[j]?=some y)&&decide (cn.N[l]?=some z)&&decide (i≠j)&&decide (i≠l)&&decide (j≠l)&&zcd cn x&&zcd cn y&&zcd cn z&&zk4 x y z px py pz [a,b,c]&&chkA cf T es cn [a,b,c]
     | _=>false)
   | _=>false)
 | .aug i o e,cn,s=>(match s with
   | .AugAssign (.Name x _) op y _=>decide (op=opOf o)&&(decide (o=.add)||decide (o=.sub))&&decide (cn.N[i]?=some x)&&locB cn x&&chkE cf T e cn false y .And []
   | _=>false)
 | .expr e,cn,s=>(match s with
   | .Expr x _=>zfz x&&chkE cf T e cn false x .And []
   | _=>false)
 | .ret e,cn,s=>(match s with
   | .Return (some x) _=>chkE cf T e cn false x .And []
   | _=>false)
 | .retn,_,s=>(match s with
   | .Return none _=>true
   | _=>false)
 | .doc,_,s=>(match s with
   | .Expr (.Constant (.str _) _ _) _=>true
   | _=>false)
 | .ife c a b,cn,s=>(match s with
   | .If x y z _=>chkE cf T c cn true x .And []&&chkSs a cn y&&chkSs b cn z
   | _=>false)
 | .fr t it b,cn,s=>(match s with
   | .For tg iter body [] _=>zaS iter&&chkI cf T it cn tg iter&&chkG cf T t cn (allS cn) tg&&chkSs b cn body
   | _=>false)
 | .whl c b,cn,s=>(match s with
   | .While x body [] _=>chkE cf T c cn true x .And []&&chkSs b cn body
   | _=>false)
 | .pass,_,s=>(match s with
   | .Pass _=>true
   | _=>false)
 | .brk,_,s=>(match s with
   | .Break _=>true
   | _=>false)
 | .cont,_,s=>(match s with
   | .Continue _=>true
   | _=>false)
 | .supE _ _ _ _ _,_,_=>false
 | .supR _ _ _ _ _ _,_,_=>false
 | .raise c es,cn,s=>(match s,cf.exs.lookup c with
   | .Raise (some (.Call (.Name y _) xs [] _)) none _,some _=>eqs y (cf.nm.cn c)&&cf.cls.contains c&&glB cn y&&ndB y&&chkA cf T es cn xs
   | _,_=>false)
 | .tryq c b,cn,s=>(match s with
   | .Try body [.ExceptHandler (some (.Name y _)) none (_::_) _] [] [] _=>eqs y (cf.nm.cn c)&&cf.cls.contains c&&glB cn y&&ndB y&&!cn.lw&&chkSs b cn body
   | _=>false)
 | .tryr cs b c2 xs,cn,s=>(match s,cf.exs.lookup c2 with
   | .Try body [.ExceptHandler (some he) none [.Raise (some (.Call (.Name y _) es [] _)) (some (.Constant .none _ _)) _] _] [] [] _,some _=>clB cf cn cs he&&eqs y (cf.nm.cn c2)&&cf.cls.contains c2&&glB cn y&&ndB y&&suB cn.N cf.an (visB cn) xs es&&!es.isEmpty&&!cn.lw&&chkSs b cn body
   | _,_=>false)
 | .tryk cs b d,cn,s=>(match s with
   | .Try body [.ExceptHandler (some he) none [.Return (some e) _] _] [] [] _=>clB cf cn cs he&&cstB d e&&!cn.lw&&chkSs b cn body
   | _=>false)
 | .bad,_,_=>true
def chkSs:Sms→Cn→List Stmt→Bool
 | .nil,_,xs=>xs.isEmpty
 | .repR _ _ _ _ _ _ _ _,_,_=>false
 | .cons s r,cn,xs=>(match xs with
   | x::xs=>chkS s cn x&&chkSs r cn xs
   | []=>false)
end
def chkT (cf:Cf) (T:Tb) (s:Sms) (cn:Cn) (st:List Stmt):Bool:=match s,st with
 | .repR i o y z y' z' c r,.Assign [.Name x _] e _::xs=>decide (cn.N[i]?=some x)&&locB cn x&&zfz e&&repE (repO e) y z y' z' c e&&zbV (repO e)&&chkE cf T o cn false (repO e) .And []&&chkSs cf T r cn xs
 | _,_=>false
def zqW:Sms→Bool
 | .repR _ _ _ _ _ _ _ _=>true
 | _=>false
def zoF (cf:Cf) (n:Nat):Bool:=!(cf.an n==("__class__":Str))
def zix (cf:Cf) (T:Tb) (n:Nat) (es:Exs) (ks:List Nat) (kes:Exs) (cn:Cn):Expr→Bool
 | .Call (.Attribute (.Call (.Name y _) [] [] _) a apos) xs kws pos=>eqs y "super"&&eqs a (cf.an n)&&zoF cf n&&fewB xs kws apos pos&&decide ks.Nodup&&decide (zat kws=some (ks.map cf.an))&&chkA cf T es cn xs&&chkK cf T kes cn kws
 | _=>false
def zlw (cf:Cf) (T:Tb) (d:Nat) (s:Sm) (cn:Cn) (st:Stmt):Bool:=match s with
 | .supE d' n es ks kes=>decide (d'=d)&&(match st with
   | .Expr x _=>zix cf T n es ks kes cn x
   | _=>false)
 | .supR d' n es ks kes e=>decide (d'=d)&&(match st with
   | .Return (some (.BoolOp .Or (x::y::rest) _)) _=>zix cf T n es ks kes cn x&&chkE cf T e cn false y .Or rest
   | _=>false)
 | s=>chkS cf T s cn st
def chkB (cf:Cf) (T:Tb) (d:Nat):Sms→Cn→List Stmt→Bool
 | .nil,_,xs=>xs.isEmpty
 | .repR _ _ _ _ _ _ _ _,_,_=>false
 | .cons s r,cn,xs=>(match xs with
   | x::xs=>zlw cf T d s cn x&&chkB cf T d r cn xs
   | []=>false)
end Mi
end
section
set_option maxHeartbeats 8000000
namespace Mi
open PySem PySem.Spec PyProof.Rows L2
structure Xb where
 b:Bs
 c:Nat
 d:He.DefD
 N:List Str
 f:Str
structure Xc where
 c:Nat
 d:He.DefD
 N:List Str
 code:Str
 qs:List (Str×Nat)
 np:Nat
 fl:List (Nat×(Nat ⊕ Str))
 ix:Nat                                    -- its base,a place in xb
structure Xn where
 b:Bs
 c:Nat
 d:He.DefD
 N:List Str
 f:Str
 code:Str
structure Rw where
 fns:List (Fd×He.DefD×List Str)
 cns:List Str
 kns:List (Str×D)
 ans:List Str
 mths:List ((Nat×Nat)×Nat)
 ccons:List ((Nat×Nat)×D)
 noats:List (Nat×Nat)
 inits:List (Nat×Nat)
 kits:List ((Tag×Ty)×Bool)
 blts:List Str
 sups:List ((Nat×Nat×Nat)×Nat)     -- (an instance's class,the def's class,name): what super() finds
 sfns:List (Nat×Nat)                   -- a def that says super(): its class
 file:Str
 props:List ((Nat×Nat)×Nat):=[]    -- (class,name): the property's function
 pfns:List Nat:=[]                     -- the defs that are properties
 eqs:List ((Nat×Tag)×Nat):=[]      -- (class,the other's type): the own __eq__
 rps:List (Nat×Nat):=[]              -- a class: its own __repr__
 clcs:List ((Nat×Nat)×D):=[]       -- (class,name): a constant read from the class
 kds:List (Str×List (Str×D)):=[]   -- the written dicts with text keys
 xb:List Xb:=[]                        -- the errors' bases
 xcs:List Xc:=[]                       -- the errors
 cts:List (Nat×Nat):=[]              -- a class: its own __contains__
 lns:List (Nat×Nat):=[]              -- a class: its own __len__
 stats:List ((Nat×Nat)×Nat):=[]    -- (class,name): the staticmethod's function
 lams:List LamD:=[]
 exms:List ((Nat×List Nat)×Bool):=[]   -- (class,clause): whether it names it
 frs:List (Nat×Bool):=[]             -- a class of errors: raised where nothing is handled,or also elsewhere
 ftry:Nat:=0
 ftries:Nat:=0
 ncode:Nat:=0                          -- the number of the name code
 nrows:List (List Str×List Nat):=[]  -- what the law reads of an error
 fld:Option (He.DefD×List Str):=none -- the law's reading of an error
 tcs:Str×Str×Str:=(Str.empty,Str.empty,Str.empty)  -- the classes that the law catches
 lw:Option (Fd×He.DefD×List Str):=none    -- the law's def,with lambdas
 kixs:List ((Nat×Ty)×Bool):=[]     -- isinstance of an error of a class
 xats:List (Nat×Nat):=[]             -- (a class of errors,an attribute that is read)
 xvb:Bool:=false                       -- errors of the bases are made
 xns:List Xn:=[]                       -- the errors made of nothing
def zpQ:List (List Str×List Nat)→Str→List Nat
 | [],_=>[]
 | r::rs,code=>if hit r.1 code then r.2 else zpQ rs code
def gloD (x:Str):D:=if x="ALWAYS"∨x="NO_WISH" then .tup [.str "true"] else .non
def dvD:He.Dv→D
 | .glo x=>gloD x
 | .bl b=>.bl b
 | .int i=>.int i
 | .str s=>.str s
 | .adr _=>.tup []
 | _=>.non
def dvOk:He.Dv→Bool
 | .non=>true
 | .bl _=>true
 | .int _=>true
 | .str _=>true
 | .adr _=>true
 | .glo _=>true
 | _=>false
def zcm (d:He.DefD):List (Option D):=
 List.replicate (d.params.args.length - d.dfl.length) none++d.dfl.map (fun v=>some (dvD v))++d.params.kwonlyargs.map fun a=>(d.kwd.lookup a.arg).map dvD
def Rw.an (R:Rw) (i:Nat):Str:=match R.ans[i]? with
 | some s=>s
 | none=>⟨#[2000000+i]⟩
def zr3 (K:PySem.W.Frag) (p:Addr):Addr:=match PySem.W.recIn K p "property" with
 | some (.ref a::_)=>a
 | _=>match PySem.W.recIn K p "staticmethod" with
  | some (.ref a::_)=>a
  | _=>0
def adC (K:PySem.W.Frag) (b:Bool) (p:Str×Option Str):Addr:=if b then zr3 K (He.fAd K p) else He.fAd K p
def Rw.fad (R:Rw) (K:PySem.W.Frag) (f:Nat):Addr:=match R.fns[f]? with
 | some q=>adC K (R.pfns.contains f) q.2.1.at_
 | none=>0
def Rw.g (R:Rw) (K:PySem.W.Frag):G where
 K:=K
 an:=R.an
 cad c:=He.ga K (R.cns.getD c Str.empty)
 gad f:=R.fad K f
 fr a:=R.frs.any fun q=>q.2&&decide (a=He.ga K (R.cns.getD q.1 Str.empty))
def Rw.T (R:Rw):Tb where
 fn f:=R.fns[f]?.map (·.1)
 con k:=R.kns[k]?.map (·.2)
 meth c n:=R.mths.lookup (c,n)
 prop c n:=R.props.lookup (c,n)
 ccon c n:=R.ccons.lookup (c,n)
 noat c n:=R.noats.contains (c,n)
 init c:=R.inits.lookup c
 kit t y:=R.kits.lookup (t,y)
 sup c d n:=R.sups.lookup (c,d,n)
 eqf c t:=R.eqs.lookup (c,t)
 rpf c:=R.rps.lookup c
 clc c n:=R.clcs.lookup (c,n)
 lnf c:=R.lns.lookup c
 cnf c:=R.cts.lookup c
 stat c n:=R.stats.lookup (c,n)
 exm c cs:=R.exms.lookup (c,cs)
 fre c:=R.frs.lookup c
 kd k:=R.kds[k]?.map (·.2)
 exi c:=match R.xcs.find? fun x=>x.c==c with
  | some x=>exF x.fl x.np
  | none=>if R.xvb&&R.xb.any fun b=>b.c==c then exF [(R.ncode,.inl 0)] 1 else (match R.xns.find? fun x=>x.c==c with
    | some x=>exF [(R.ncode,.inr x.code)] 0
    | none=>fun _=>none)
 exp c:=match R.xcs.find? fun x=>x.c==c with
  | some x=>x.N.tail
  | none=>(match R.xb.find? fun b=>b.c==c with
    | some b=>b.N.tail
    | none=>[])
 kix c t:=R.kixs.lookup (c,t)
 xat c n:=R.xats.contains (c,n)
 tryx c fs:=if R.xcs.any fun x=>x.c==c then (match fs.lookup R.ncode with
   | some (.str code)=>(mapO (fun n=>fs.lookup n) (zpQ R.nrows code)).map fun ds=>.tup [.str code,.tup ds]
   | _=>none) else none
def Rw.glob (R:Rw):List Nat:=(List.range R.fns.length).filter fun f=>match R.fns[f]? with
 | some q=>q.2.1.at_.2.isNone
 | none=>false
def Rw.cf (R:Rw):Cf where
 nm := { fn := fun f => match R.fns[f]? with
           | some q=>q.2.1.at_.1
           | none=>Str.empty
         cn:=fun c=>R.cns.getD c Str.empty
         kn:=fun k=>match R.kns[k]? with
           | some q=>q.1
           | none=>Str.empty
         dn:=fun k=>match R.kds[k]? with
           | some q=>q.1
           | none=>Str.empty }
 an:=R.an
 glob:=R.glob
 blt:=R.blts
 cls:=List.range R.cns.length
 exs:=(R.xcs.map fun x=>(x.c,x.np,x.fl))++(if R.xvb then R.xb.map fun b=>(b.c,1,[(R.ncode,.inl 0)]) else [])++R.xns.map fun x=>(x.c,0,[(R.ncode,.inr x.code)])
 lams:=R.lams
 ftry:=R.ftry
 ftries:=R.ftries
def anB (R:Rw):Bool:=decide R.ans.Nodup&&R.ans.all fun s=>match s.cps[0]? with
 | some c=>decide (c < 2000000)
 | none=>true
def parB (R:Rw) (fd:Fd) (d:He.DefD):Bool:=match d.params with
 | ⟨[],as,va,ko,_,none,_⟩=>(match va with
   | none=>!fd.va&&decide (fd.ps.map R.an=as.map (·.arg)++ko.map (·.arg))
   | some v=>fd.va&&decide (fd.ps.map R.an=as.map (·.arg)++ko.map (·.arg)++[v.arg]))&&
  decide (fd.np=as.length)&&decide ((as.map (·.arg)++ko.map (·.arg)).Nodup)&&decide (d.dfl.length≤as.length)&&d.dfl.all dvOk&&d.kwd.all fun q=>dvOk q.2
 | _=>false
def ziz (N P:List Str) (sc:Scope):Bool:=(match sc.kind with
    | .function=>true
    | _=>false)&&!sc.isCoroutine&&!sc.isGenerator&&decide N.Nodup&&decide (N.take P.length=P)&&(P.all fun x=>match sc.names.lookup x with
      | some .local=>true
      | some .cell=>true
      | _=>false)&&sc.names.all fun y=>match y.2 with
   | .free=>false
   | _=>true
def supB (R:Rw) (d:Nat) (q:Fd×He.DefD×List Str):Bool:=NdefX.nscB q.2.2 (q.1.ps.map R.an) ["__class__"] q.2.1.scope&&(match q.2.1.scope.names.lookup ("super":Str) with
    | some .globalImplicit=>true
    | _=>false)&&(match q.2.1.params.args with
    | a::_=>decide (q.2.2[0]?=some a.arg)
    | []=>false)&&!q.1.ps.isEmpty&&R.blts.contains "super"&&chkB R.cf R.T d q.1.body ⟨q.2.2,q.2.1.scope,fun _=>false,false⟩ q.2.1.body
def fnB (R:Rw) (f:Nat) (q:Fd×He.DefD×List Str):Bool:=parB R q.1 q.2.1&&decide (q.2.2.length=q.1.ns)&&(match R.sfns.lookup f with
    | some d=>supB R d q
    | none=>ziz q.2.2 (q.1.ps.map R.an) q.2.1.scope&&(if zqW q.1.body then !q.1.ps.isEmpty&&(q.2.1.scope.names.all fun y=>!decide (y.2=.cell))&&chkT R.cf R.T q.1.body ⟨q.2.2,q.2.1.scope,fun _=>true,false⟩ q.2.1.body else chkSs R.cf R.T q.1.body ⟨q.2.2,q.2.1.scope,fun _=>true,false⟩ q.2.1.body))
def allB (R:Rw):Nat→List (Fd×He.DefD×List Str)→Bool
 | _,[]=>true
 | f,q::qs=>fnB R f q&&allB R (f+1) qs
def Rw.ok (R:Rw):Bool:=anB R&&allB R 0 R.fns
mutual
def kval (K:PySem.W.Frag):Nat→D→Value→Bool
 | _,.non,.none=>true
 | _,.bl b,.bool c=>decide (b=c)
 | _,.int i,.int j _=>decide (i=j)
 | _,.str s,.str t _=>decide (s=t)
 | n+1,.tup ds,.ref a=>(match K.lookup a with
   | some ⟨.type c,none,.seq its _,_⟩=>decide (c="tuple")&&decide (its.size≤16777216)&&kvals K n ds its.toList
   | _=>false)
 | n+1,.fzl ds,.ref a=>(match K.lookup a with
   | some ⟨.type c,none,.seq its _,_⟩=>decide (c="list")&&decide (its.size≤16777216)&&kvals K n ds its.toList
   | _=>false)
 | _,_,_=>false
def kvals (K:PySem.W.Frag):Nat→List D→List Value→Bool
 | _,[],[]=>true
 | n,d::ds,u::us=>kval K n d u&&kvals K n ds us
 | _,_,_=>false
end
def adrB (K:PySem.W.Frag):He.Dv→Bool
 | .adr p=>kval K 8 (.tup []) (.ref (p K))
 | .glo x=>kval K 8 (gloD x) (.ref (He.ga K x))
 | _=>true
def eqA (a:Option (Option Value)) (b:Addr):Bool:=match a with
 | some (some (.ref c))=>decide (c=b)
 | _=>false
def eqI (a:Option (Option Value)) (b:String):Bool:=match a with
 | some (some (.builtin c))=>decide (c=b)
 | _=>false
def eqN (a:Option (Option Value)):Bool:=match a with
 | some none=>true
 | _=>false
def clsB (K:PySem.W.Frag) (C:Addr):Bool:=PySem.W.plainGet K C Str.empty&&PySem.W.hasDictIn K C&&PySem.W.plainOver K C&&eqI (PySem.W.findIn K (.ref C) "__setattr__") "object.__setattr__"
def eqB (a:Option Bool) (b:Bool):Bool:=match a with
 | some c=>c==b
 | none=>false
def insB (K:PySem.W.Frag) (C:Addr):Bool:=clsB K C&&eqI (PySem.W.findIn K (.ref C) "__class__") "object.__class__"&&eqI (PySem.W.specialIn K (.builtin "object.__class__") "__get__") "getset_descriptor.__get__"&&eqB (PySem.W.takesIn K (.builtin "object.__class__")) true&&eqB (PySem.W.mroIn K C (.type "object")) true
def tyFn (K:PySem.W.Frag) (a:Addr):Bool:=match PySem.W.typeIn K (.ref a) with
 | some (.type t)=>decide (t="function")
 | _=>false
def ziw (file:Str) (K:PySem.W.Frag) (d:He.DefD) (D:Addr):Bool:=PySem.W.keepIn K (.ref (He.fAd K d.at_))&&(match K.lookup (He.fAd K d.at_) with
  | some ⟨_,_,.func fd,_⟩=>PySem.W.codeIn K fd.code d.qual&&He.dflB K fd.defaults (d.dvs K)&&He.kwdB K fd.kwdefaults (d.kws K)&&(match fd.closure with
    | [(_,cc)]=>(match K.lookup cc with
      | some ⟨_,_,.cell (some (.ref b)),_⟩=>decide (b=D)
      | _=>false)
    | _=>false)&&(match fd.code with
    | .ref c=>(match K.lookup c with
      | some ⟨_,_,.fields vs,_⟩=>(match (vs[2]?:Option Value) with
        | some (Value.str f _)=>decide (f=file)
        | _=>false)
      | _=>false)
    | _=>false)
  | _=>false)
abbrev FnC:Type:=Option (Str×Str×Arguments×FuncBody×Scope×Addr×List Str×Addr)
def fnC (K:PySem.W.Frag) (b:Bool) (p:Str×Option Str):FnC:=match K.lookup (adC K b p) with
 | some ⟨_,_,.func fd,_⟩=>some (fd.name,fd.qualname,fd.params,fd.body,fd.scope,fd.globals,fd.closure.map (·.1),fd.builtins)
 | _=>none
def valC (q:Bool×He.DefD):FnC:=some (q.2.name,q.2.qual,q.2.params,.stmts q.2.body,q.2.scope,mainGlobals,if q.1 then [] else ["__class__"],builtinsNs)
def zgz (K:PySem.W.Frag) (d:He.DefD) (a:Addr):Bool:=PySem.W.keepIn K (.ref a)&&(match K.lookup a with
  | some ⟨_,_,.func fd,_⟩=>PySem.W.codeIn K fd.code d.qual&&He.dflB K fd.defaults (d.dvs K)&&He.kwdB K fd.kwdefaults (d.kws K)
  | _=>false)
abbrev AlM:Type:=He.AlT×Bool×List FnC
abbrev frM (g:Addr→Option Obj) (n:List Addr):PySem.W.Frag:=He.frT g n
def obsM (n:List Addr) (fa:List He.Fa) (fn:List He.DefD) (sc:List (Bool×He.DefD)) (ts:List He.Tab) (tf:List He.Defn) (ex:PySem.W.Frag→Bool) (g:Addr→Option Obj):AlM:=(He.obsT fa fn ts (frM g n),ex (frM g n)&&He.tabsB g tf (frM g n),sc.map fun d=>fnC (frM g n) d.1 d.2.at_)
def valM (fn:List He.DefD) (sc:List (Bool×He.DefD)) (ts:List He.Tab) (w:World):AlM:=(He.valT fn ts w,true,sc.map valC)
structure zpE (fa:List He.Fa) (fn:List He.DefD) (sc:List (Bool×He.DefD)) (ts:List He.Tab) (tf:List He.Defn) (ex:PySem.W.Frag→Bool) (w:World) (h:Heap) (K:PySem.W.Frag):Prop where
 t:He.SaysT fa fn ts w K
 more:ex K=true
 sups:∀d∈sc,fnC K d.1 d.2.at_=valC d
 hd:∀p∈tf,PySem.W.codeHdIn K (He.cT K p).1 (He.cT K p).2=true
 out:∀p∈tf,K.lookup (He.cT K p).2=none
 empty:∀p∈tf,h.get? (He.cT K p).2=some { cls:=.none,data:=.fields #[] }
theorem zlq {n:List Addr} {fa:List He.Fa} {fn:List He.DefD} {sc:List (Bool×He.DefD)} {ts:List He.Tab} {tf:List He.Defn} {ex:PySem.W.Frag→Bool} {w:World} {h:Heap} (e:obsM n fa fn sc ts tf ex h.get?=valM fn sc ts w):zpE fa fn sc ts tf ex w h (frM h.get? n):=by
 have e2:(ex (frM h.get? n)&&He.tabsB h.get? tf (frM h.get? n))=true:=congrArg (fun z:AlM=>z.2.1) e
 obtain ⟨h1,h2⟩:=Bool.and_eq_true_iff.mp e2
 have key:∀p∈tf,PySem.W.codeHdIn (frM h.get? n) (He.cT (frM h.get? n) p).1 (He.cT (frM h.get? n) p).2=true∧∃o,h.get? (He.cT (frM h.get? n) p).2=some o∧He.emptyTab o=true:=fun p hp=>by
  obtain ⟨h3,h4⟩:=Bool.and_eq_true_iff.mp (List.all_eq_true.mp h2 p hp)
  refine ⟨h3, ?_⟩
  cases q:h.get? (He.cT (frM h.get? n) p).2 with
  | none=>
   rw [q] at h4
   cases h4
  | some o=>
   rw [q] at h4
   exact ⟨o,rfl,h4⟩
 refine ⟨congrArg (fun z:AlM=>z.1) e,h1,fun d hd=>?_,fun p hp=>(key p hp).1,fun p hp=>?_,fun p hp=>?_⟩
 ·have e3:(sc.map fun d=>fnC (frM h.get? n) d.1 d.2.at_)=sc.map valC:=congrArg (fun z:AlM=>z.2.2) e
  obtain ⟨i,hi,ei⟩:=List.mem_iff_getElem.mp hd
  have e4:(sc.map fun d=>fnC (frM h.get? n) d.1 d.2.at_)[i]?=(sc.map valC)[i]?:=by rw [e3]
  rw [List.getElem?_map,List.getElem?_map,List.getElem?_eq_getElem hi,ei] at e4
  exact Option.some.inj e4
 ·obtain ⟨_,o,q,z⟩:=key p hp
  exact He.frT_none q z
 ·obtain ⟨_,o,q,z⟩:=key p hp
  rw [q,He.emptyTab_eq z]
def zmC (n:List Addr) (fa:List He.Fa) (fn:List He.DefD) (sc:List (Bool×He.DefD)) (ts:List He.Tab) (tf:List He.Defn) (ex:PySem.W.Frag→Bool):PySem.W.Hook where
 α:=AlM
 obs:=fun s=>obsM n fa fn sc ts tf ex s.heap.get?
 val:=fun w=>valM fn sc ts w
 says:=fun w h=>∃K:PySem.W.Frag,K.In h∧zpE fa fn sc ts tf ex w h K
 of:=fun _ _ e=>⟨_,He.frT_in,zlq e⟩
 keeps:=fun _ _ _ ⟨K,hK,c⟩ k=>⟨K,PySem.W.Frag.In.keeps hK k,⟨c.t,c.more,c.sups,c.hd,c.out,fun p hp=>k _ _ (c.empty p hp)⟩⟩
theorem zoa {n:List Addr} {fa:List He.Fa} {fn:List He.DefD} {sc:List (Bool×He.DefD)} {ts:List He.Tab} {tf:List He.Defn} {ex:PySem.W.Frag→Bool} {g:Addr→Option Obj} {s:Shared} (h:∀a,g a=s.heap.get? a):obsM n fa fn sc ts tf ex g=(zmC n fa fn sc ts tf ex).obs s:=by
 have e:g=s.heap.get?:=funext h
 rw [e]<;>rfl
def zlh (K:PySem.W.Frag) (d:Addr) (ks:List Str):Bool:=match K.lookup d with
 | some ⟨_,_,.dict es _,_⟩=>es.toList.all fun e=>match e.key with
  | .str x _=>ks.any fun k=>k==x
  | _=>false
 | _=>false
def Rw.tabs (R:Rw):List He.Tab:=R.kds.map fun q=>((fun K=>He.ga K q.1),q.2.map (·.1))
def zlN (K:PySem.W.Frag) (C:Addr) (m:Str) (f:Addr):Bool:=(match PySem.W.typeIn K (.ref C) with
    | some mc=>PySem.W.readsIn K C mc&&eqI (PySem.W.specialIn K (.ref C) "__getattribute__") "type.__getattribute__"&&(match PySem.W.findCls K (.ref C) mc m with
      | some (.get (.builtin z) (.ref p) .none (.ref D))=>decide (z="staticmethod.__get__")&&decide (D=C)&&(match PySem.W.recIn K p "staticmethod" with
        | some (.ref a::_)=>decide (a=f)
        | _=>false)
      | _=>false)
    | none=>false)&&PySem.W.keepIn K (.ref f)
def rowK (R:Rw) (K:PySem.W.Frag):Bool:=
 ((List.range R.fns.length).all fun f=>match R.fns[f]? with
   | some q=>!q.2.1.at_.2.isNone||eqA (PySem.W.nsIn K mainGlobals q.2.1.at_.1) (R.fad K f)
   | none=>true)&&
 (R.cns.all fun x=>eqA (PySem.W.nsIn K mainGlobals x) (He.ga K x))&&
 (R.kns.all fun q=>match PySem.W.nsIn K mainGlobals q.1 with
   | some (some u)=>kval K 8 q.2 u
   | _=>false)&&
 (R.blts.all fun x=>eqN (PySem.W.nsIn K mainGlobals x))&&
 (R.mths.all fun q=>clsB K ((R.g K).cad q.1.1)&&eqA (PySem.W.findIn K (.ref ((R.g K).cad q.1.1)) (R.an q.1.2)) (R.fad K q.2)&&PySem.W.isFn K (.ref (R.fad K q.2))&&PySem.W.keepIn K (.ref (R.fad K q.2)))&&
 (R.ccons.all fun q=>clsB K ((R.g K).cad q.1.1)&&!(PySem.W.copiedNames.contains (R.an q.1.2))&&(match PySem.W.findIn K (.ref ((R.g K).cad q.1.1)) (R.an q.1.2) with
   | some (some u)=>kval K 8 q.2 u&&eqN (PySem.W.specialIn K u "__get__")
   | _=>false))&&
 (R.noats.all fun q=>clsB K ((R.g K).cad q.1)&&eqN (PySem.W.findIn K (.ref ((R.g K).cad q.1)) (R.an q.2)))&&
 (R.inits.all fun q=>PySem.W.makesIn K ((R.g K).cad q.1)&&eqA (PySem.W.findIn K (.ref ((R.g K).cad q.1)) "__init__") (R.fad K q.2)&&PySem.W.isFn K (.ref (R.fad K q.2))&&PySem.W.keepIn K (.ref ((R.g K).cad q.1)))&&
 (R.kits.all fun q=>eqB (PySem.W.kitOne K (tagV (R.g K) q.1.1) (zcC (R.g K) q.1.2)) q.2&&(match q.1.1 with
   | .ins c=>insB K ((R.g K).cad c)
   | _=>true))&&
 (R.sups.all fun q=>eqB (PySem.W.mroIn K ((R.g K).cad q.1.1) (.ref ((R.g K).cad q.1.2.1))) true&&eqA (PySem.W.ks_superIn K ((R.g K).cad q.1.1) ((R.g K).cad q.1.2.1) (R.an q.1.2.2)) (R.fad K q.2)&&tyFn K (R.fad K q.2)&&eqN (PySem.W.nsIn K cStatics "thirdparty.any")&&PySem.W.fnIn K (R.fad K q.2))&&
 (R.sfns.all fun q=>!R.pfns.contains q.1&&(PySem.W.clsIn K ((R.g K).cad q.2)).isSome&&(match R.fns[q.1]? with
   | some z=>ziw R.file K z.2.1 ((R.g K).cad q.2)
   | none=>false))&&
 (R.props.all fun q=>clsB K ((R.g K).cad q.1.1)&&(match PySem.W.findIn K (.ref ((R.g K).cad q.1.1)) (R.an q.1.2) with
   | some (some (.ref p))=>eqI (PySem.W.specialIn K (.ref p) "__get__") "property.__get__"&&eqB (PySem.W.takesIn K (.ref p)) true&&(match PySem.W.recIn K p "property" with
     | some (.ref a::_)=>decide (a=R.fad K q.2)
     | _=>false)
   | _=>false))&&
 (R.eqs.all fun q=>PySem.W.notFirst K ((R.g K).cad q.1.1) (tagV (R.g K) q.1.2)&&eqA (PySem.W.findIn K (.ref ((R.g K).cad q.1.1)) "__eq__") (R.fad K q.2)&&PySem.W.isFn K (.ref (R.fad K q.2))&&eqI (PySem.W.findIn K (.ref ((R.g K).cad q.1.1)) "__ne__") "object.__ne__"&&eqB (PySem.W.mroIn K ((R.g K).cad q.1.1) (.type "object")) true&&(match q.1.2 with
   | .ins b=>insB K ((R.g K).cad b)
   | _=>true))&&
 ((R.rps.all fun q=>eqA (PySem.W.findIn K (.ref ((R.g K).cad q.1)) "__repr__") (R.fad K q.2)&&PySem.W.isFn K (.ref (R.fad K q.2)))&&((R.lns.all fun q=>eqA (PySem.W.findIn K (.ref ((R.g K).cad q.1)) "__len__") (R.fad K q.2)&&PySem.W.isFn K (.ref (R.fad K q.2)))&&R.cts.all fun q=>eqA (PySem.W.findIn K (.ref ((R.g K).cad q.1)) "__contains__") (R.fad K q.2)&&PySem.W.isFn K (.ref (R.fad K q.2))))&&
 ((R.clcs.all fun q=>match PySem.W.typeIn K (.ref ((R.g K).cad q.1.1)) with
   | some mc=>PySem.W.readsIn K ((R.g K).cad q.1.1) mc&&eqI (PySem.W.specialIn K (.ref ((R.g K).cad q.1.1)) "__getattribute__") "type.__getattribute__"&&(match PySem.W.findCls K (.ref ((R.g K).cad q.1.1)) mc (R.an q.1.2) with
     | some (.val u)=>kval K 8 q.2 u
     | _=>false)
   | none=>false)&&R.stats.all fun q=>zlN K ((R.g K).cad q.1.1) (R.an q.1.2) (R.fad K q.2))&&
 (R.fns.all fun q=>q.2.1.dfl.all (adrB K)&&q.2.1.kwd.all fun p=>adrB K p.2)&&
 (R.kds.all fun q=>(eqA (PySem.W.nsIn K mainGlobals q.1) (He.ga K q.1)&&q.2.all fun p=>match PySem.W.nsIn K (He.ga K q.1) p.1 with
   | some (some u)=>kval K 8 p.2 u
   | _=>false)&&zlh K (He.ga K q.1) (q.2.map (·.1)))&&
 (R.pfns.all fun f=>match R.fns[f]? with
   | some z=>zgz K z.2.1 (R.fad K f)
   | none=>false)
def zfr (N P:List Str) (d:He.DefD):Bool:=d.dfl.isEmpty&&d.kwd.isEmpty&&ziz N P d.scope&&decide P.Nodup&&(match d.params with
  | ⟨[],as,none,[],[],none,[]⟩=>decide (as.map (·.arg)=P)
  | _=>false)
def glSc (sc:Scope) (x:Str):Bool:=match sc.names.lookup x with
 | some .globalImplicit=>true
 | _=>false
def Rw.rows (R:Rw):Rows:=R.nrows.map fun q=>(q.1,q.2.map R.an)
def xbOk (R:Rw) (b:Xb):Bool:=zfr b.N b.N b.d&&zh3 b.b b.N b.f b.d.body&&glSc b.d.scope (Str.ofString b.b.n)&&R.blts.contains (Str.ofString b.b.n)&&decide (b.c < R.cns.length)
def xcOk (R:Rw) (b:Xb) (x:Xc):Bool:=zfr x.N x.N x.d&&derB x.N (R.cns.getD b.c Str.empty) x.code x.qs x.d.body&&glSc x.d.scope (R.cns.getD b.c Str.empty)&&decide (x.np=x.N.length - 1)&&decide (x.np≤100)&&decide ((x.fl.map fun q=>(R.an q.1,srcS q.2))=derF b.f x.code x.qs)&&decide (R.xcs.find? (fun y=>y.c==x.c) |>.isSome)
def xnOk (R:Rw) (x:Xn):Bool:=zfr x.N x.N x.d&&conB x.b x.N x.f x.code x.d.body&&glSc x.d.scope (Str.ofString x.b.n)&&R.blts.contains (Str.ofString x.b.n)&&decide (R.an R.ncode=x.f)&&(R.xcs.find? fun y=>y.c==x.c).isNone&&(R.xb.find? fun y=>y.c==x.c).isNone&&(match R.xns.find? fun y=>y.c==x.c with
  | some y=>decide (y.code=x.code)
  | none=>false)
def xvOk (R:Rw):Bool:=R.xns.all (xnOk R)&&(!R.xvb||R.xb.all fun b=>decide (R.an R.ncode=b.f)&&(R.xcs.find? fun x=>x.c==b.c).isNone&&(match R.xb.find? fun y=>y.c==b.c with
  | some y=>decide (y.N=b.N)
  | none=>false))
def Rw.xok (R:Rw):Bool:=xvOk R&&R.xb.all (xbOk R)&&R.xcs.all fun x=>match R.xb[x.ix]? with
 | some b=>xcOk R b x
 | none=>false
def oexB (bk:Bs) (K:PySem.W.Frag) (C:Addr):Bool:=(match K.lookup C with
  | some ⟨.type t,_,.cls cd,sl⟩=>decide (t="type")&&(match cd.mro,sl.toList with
    | .ref C'::bm,[_,_,_,_,some (.builtin n),_]=>decide (C'=C)&&decide (n=bk.new)&&!cd.hasDel&&cd.hasDict&&PySem.W.excTail bk.tl bm
    | _,_=>false)
  | _=>false)&&eqI (PySem.W.findIn K (.ref C) "__setattr__") "object.__setattr__"&&eqB (PySem.W.subIn K (.ref C) (.type "BaseException")) true&&(match PySem.W.typeIn K (.ref C) with
    | some (.type t)=>decide (t="type")
    | _=>false)&&PySem.W.keepIn K (.ref C)
def xbK (R:Rw) (K:PySem.W.Frag) (b:Xb):Bool:=(match PySem.W.findCls K (.type b.b.n) (.type "type") "__init__" with
      | some (.val (.builtin z))=>decide (z=b.b.ini)
      | _=>false)&&(match PySem.W.typeIn K (.ref ((R.g K).cad b.c)) with
      | some mc=>PySem.W.readsIn K ((R.g K).cad b.c) mc&&eqI (PySem.W.specialIn K (.ref ((R.g K).cad b.c)) "__getattribute__") "type.__getattribute__"&&(match PySem.W.findCls K (.ref ((R.g K).cad b.c)) mc "__init__" with
        | some (.val (.ref z))=>decide (z=He.fAd K b.d.at_)
        | _=>false)
      | none=>false)
def xcK (R:Rw) (K:PySem.W.Frag) (b:Xb) (x:Xc):Bool:=oexB b.b K ((R.g K).cad x.c)&&(x.fl.all fun q=>eqN (PySem.W.findIn K (.ref ((R.g K).cad x.c)) (R.an q.1)))&&eqA (PySem.W.findIn K (.ref ((R.g K).cad x.c)) "__init__") (He.fAd K x.d.at_)&&tyFn K (He.fAd K x.d.at_)
def xmK (R:Rw) (K:PySem.W.Frag):Bool:=(R.exms.all fun q=>eqB (PySem.W.exmAny K (.ref ((R.g K).cad q.1.1)) (q.1.2.map fun x=>.ref ((R.g K).cad x))) q.2)&&R.frs.all fun q=>decide ((R.g K).fr ((R.g K).cad q.1)=q.2)
def exB (K:PySem.W.Frag) (D:Addr):Bool:=eqI (PySem.W.findIn K (.ref D) "__getattribute__") "BaseException.__getattribute__"&&eqN (PySem.W.findIn K (.ref D) "__getattr__")&&eqB (PySem.W.subIn K (.ref D) (.type "BaseException")) true&&PySem.W.hasDictIn K D&&eqI (PySem.W.findIn K (.ref D) "__class__") "object.__class__"&&
 eqI (PySem.W.specialIn K (.builtin "object.__class__") "__get__") "getset_descriptor.__get__"&&eqB (PySem.W.takesIn K (.builtin "object.__class__")) true&&eqB (PySem.W.mroIn K D (.type "object")) true
def xnK (R:Rw) (K:PySem.W.Frag) (x:Xn):Bool:=(match PySem.W.findCls K (.type x.b.n) (.type "type") "__init__" with
      | some (.val (.builtin z))=>decide (z=x.b.ini)
      | _=>false)&&oexB x.b K ((R.g K).cad x.c)&&eqN (PySem.W.findIn K (.ref ((R.g K).cad x.c)) x.f)&&eqA (PySem.W.findIn K (.ref ((R.g K).cad x.c)) "__init__") (He.fAd K x.d.at_)&&tyFn K (He.fAd K x.d.at_)
def xvK (R:Rw) (K:PySem.W.Frag):Bool:=R.xns.all (xnK R K)&&((R.kixs.all fun q=>exB K ((R.g K).cad q.1.1)&&eqB (PySem.W.kitOne K (.ref ((R.g K).cad q.1.1)) (zcC (R.g K) q.1.2)) q.2)&&(R.xats.all fun q=>xfB K ((R.g K).cad q.1)&&eqN (PySem.W.findIn K (.ref ((R.g K).cad q.1)) (R.an q.2)))&&
  (!R.xvb||R.xb.all fun b=>oexB b.b K ((R.g K).cad b.c)&&eqN (PySem.W.findIn K (.ref ((R.g K).cad b.c)) b.f)&&eqA (PySem.W.findIn K (.ref ((R.g K).cad b.c)) "__init__") (He.fAd K b.d.at_)&&tyFn K (He.fAd K b.d.at_)))
def rowX (R:Rw) (K:PySem.W.Frag):Bool:=xmK R K&&xvK R K&&(R.xb.all (xbK R K)&&R.xcs.all fun x=>match R.xb[x.ix]? with
  | some b=>xcK R K b x
  | none=>false)
end Mi
end
section
set_option maxHeartbeats 2000000
namespace Mi
open PySem PySem.Spec PyProof.Rows PySem.W L2 HandSHeadRun
section
variable {r:OpenRow} {q:Program} {as:List Addr} {fa:List He.Fa} {fn:List He.DefD} {sc:List (Bool×He.DefD)} {ts:List He.Tab} {tf:List He.Defn} {e1 e2:PySem.W.Frag→Bool} {M:Nat} {loose:List PySem.Str} {w:World} {os:OsState}
noncomputable abbrev endR (r:OpenRow) (M:Nat) (w:World) (os:OsState):Option SharedT:=endF (stepQ (denQ tabQ) r.prog w) M r.prog w os
def zmB (r:OpenRow) (q:Program) (M:Nat) (loose:List PySem.Str) (w:World):Prop:=∀os,(endR r M w os).map (fun s=>(looksF r.prog (boot_heap w.params) s.abs,seenQ q loose (importedModules r.prog.main.body) (fun s=>xlAt q [] s&&recOk r.toRowW.records s) s.abs))=some (true,openGood q loose)
def znt (r:OpenRow) (as:List Addr) (fa:List He.Fa) (fn:List He.DefD) (ts:List He.Tab) (M:Nat) (w:World):Prop:=∀os,(endR r M w os).map (fun s=>He.obsT fa fn ts (frM (getT s) as))=some (He.valT fn ts w)
def zmw (r:OpenRow) (as:List Addr) (fn:List He.DefD) (M:Nat) (w:World):Prop:=∀os,(endR r M w os).map (fun s=>He.obsD [] fn (frM (getT s) as))=some (He.valD fn)
def pEx (r:OpenRow) (as:List Addr) (e1:PySem.W.Frag→Bool) (M:Nat) (w:World):Prop:=∀os,(endR r M w os).map (fun s=>e1 (frM (getT s) as))=some true
def pSc (r:OpenRow) (as:List Addr) (e2:PySem.W.Frag→Bool) (sc:List (Bool×He.DefD)) (tf:List He.Defn) (M:Nat) (w:World):Prop:=∀os,(endR r M w os).map (fun s=>(e2 (frM (getT s) as)&&He.tabsB (getT s) tf (frM (getT s) as),sc.map fun d=>fnC (frM (getT s) as) d.1 d.2.at_))=some (true,sc.map valC)
theorem zjO (k:Nat) (h1:zmB r q M loose w) (h2:znt r as fa (fn.take k) ts M w) (h3:zmw r as (fn.drop k) M w) (h4:pEx r as e1 M w) (h5:pSc r as e2 sc tf M w):
  RunEq r q (zmC as fa fn sc ts tf fun K=>e1 K&&e2 K) (fun s=>obsM as fa fn sc ts tf (fun K=>e1 K&&e2 K) (getT s)) M loose w:=by
 intro os
 have h1:=h1 os
 have h2:=h2 os
 have h3:=h3 os
 have h4:=h4 os
 have h5:=h5 os
 cases e:endR r M w os with
 | none=>rw [e] at h1; cases h1
 | some s=>
  rw [e] at h1 h2 h3 h4 h5
  have e0:endF (stepQ (denQ tabQ) r.prog w) M r.prog w os=some s:=e
  rw [e0]
  simp only [Option.map_some,Option.some.injEq,Prod.mk.injEq] at h1 h4 h5
  have h2:He.obsT fa (fn.take k) ts (frM (getT s) as)=He.valT (fn.take k) ts w:=Option.some.inj h2
  have h3:He.obsD [] (fn.drop k) (frM (getT s) as)=He.valD (fn.drop k):=Option.some.inj h3
  have hT:He.obsT fa fn ts (frM (getT s) as)=He.valT fn ts w:=by
   unfold He.obsT He.valT at h2 ⊢
   obtain ⟨a1,a2⟩:=Prod.mk.injEq .. ▸ h2
   rw [a2]
   congr 1
   unfold He.obsD He.valD at a1 h3 ⊢
   obtain ⟨b1,b2⟩:=Prod.mk.injEq .. ▸ a1
   obtain ⟨c1,c2⟩:=Prod.mk.injEq .. ▸ h3
   obtain ⟨b3,b4⟩:=Bool.and_eq_true_iff.mp b1
   obtain ⟨_,c4⟩:=Bool.and_eq_true_iff.mp c1
   have e1:(fn.all fun d=>d.ok (frM (getT s) as))=true:=by
    rw [← List.take_append_drop k fn,List.all_append,b4,c4]
    rfl
   have e2:(fn.map fun d=>He.fnW (frM (getT s) as) d.at_)=fn.map He.DefD.val:=by
    rw [← List.take_append_drop k fn,List.map_append,List.map_append,b2,c2]
   rw [b3,e1,e2]
   rfl
  have hO:obsM as fa fn sc ts tf (fun K=>e1 K&&e2 K) (getT s)=valM fn sc ts w:=by
   unfold obsM valM
   obtain ⟨d1,d2⟩:=h5
   obtain ⟨d3,d4⟩:=Bool.and_eq_true_iff.mp d1
   have hx:((fun K=>e1 K&&e2 K) (frM (getT s) as)&&He.tabsB (getT s) tf (frM (getT s) as))=true:=by
    show ((e1 (frM (getT s) as)&&e2 (frM (getT s) as))&&He.tabsB (getT s) tf (frM (getT s) as))=true
    rw [h4,d3,d4]
    rfl
   rw [hT,d2,hx]
  show some (looksF r.prog (boot_heap w.params) s.abs,HandSHeadRun.seenQ q loose (importedModules r.prog.main.body) (fun s=>xlAt q [] s&&recOk r.toRowW.records s) s.abs,obsM as fa fn sc ts tf (fun K=>e1 K&&e2 K) (getT s))=some (true,openGood q loose,valM fn sc ts w)
  rw [hO,h1.1,h1.2]
theorem zmF (h1:pEx r as e1 M w) (h2:pEx r as e2 M w):pEx r as (fun K=>e1 K&&e2 K) M w:=fun os=>by
 have h1:=h1 os
 have h2:=h2 os
 cases e:endR r M w os with
 | none=>rw [e] at h1; cases h1
 | some s=>
  rw [e] at h1 h2
  have h1:e1 (frM (getT s) as)=true:=Option.some.inj h1
  have h2:e2 (frM (getT s) as)=true:=Option.some.inj h2
  show some (e1 (frM (getT s) as)&&e2 (frM (getT s) as))=some true
  rw [h1,h2]
  rfl
theorem om2 {α β γ:Type} {o:Option α} {f:α→β} {g:α→γ} {b:β} {c:γ} (e:o.map (fun s=>(f s,g s))=some (b,c)):o.map f=some b∧o.map g=some c:=by
 cases o with
 | none=>cases e
 | some s=>
  simp only [Option.map_some,Option.some.injEq,Prod.mk.injEq] at e ⊢
  exact e
def pAB (r:OpenRow) (as:List Addr) (fa:List He.Fa) (fn fm:List He.DefD) (ts:List He.Tab) (M:Nat) (w:World):Prop:=∀os,(endR r M w os).map (fun s=>(He.obsT fa fn ts (frM (getT s) as),He.obsD [] fm (frM (getT s) as)))=some (He.valT fn ts w,He.valD fm)
def pLG (r:OpenRow) (q:Program) (as:List Addr) (e1:PySem.W.Frag→Bool) (M:Nat) (loose:List PySem.Str) (w:World):Prop:=∀os,(endR r M w os).map (fun s=>((looksF r.prog (boot_heap w.params) s.abs,seenQ q loose (importedModules r.prog.main.body) (fun s=>xlAt q [] s&&recOk r.toRowW.records s) s.abs),e1 (frM (getT s) as)))=some ((true,openGood q loose),true)
def pED (r:OpenRow) (as:List Addr) (e0 e2:PySem.W.Frag→Bool) (sc:List (Bool×He.DefD)) (tf:List He.Defn) (M:Nat) (w:World):Prop:=∀os,(endR r M w os).map (fun s=>(e0 (frM (getT s) as),(e2 (frM (getT s) as)&&He.tabsB (getT s) tf (frM (getT s) as),sc.map fun d=>fnC (frM (getT s) as) d.1 d.2.at_)))=some (true,(true,sc.map valC))
theorem pAB.a {fm:List He.DefD} (h:pAB r as fa fn fm ts M w):znt r as fa fn ts M w:=fun os=>(om2 (h os)).1
theorem pAB.b {fm:List He.DefD} (h:pAB r as fa fn fm ts M w):zmw r as fm M w:=fun os=>(om2 (h os)).2
theorem pLG.l (h:pLG r q as e1 M loose w):zmB r q M loose w:=fun os=>(om2 (h os)).1
theorem pLG.g (h:pLG r q as e1 M loose w):pEx r as e1 M w:=fun os=>(om2 (h os)).2
theorem pED.e {e0:PySem.W.Frag→Bool} (h:pED r as e0 e2 sc tf M w):pEx r as e0 M w:=fun os=>(om2 (h os)).1
theorem pED.d {e0:PySem.W.Frag→Bool} (h:pED r as e0 e2 sc tf M w):pSc r as e2 sc tf M w:=fun os=>(om2 (h os)).2
end
def zlK (R:Rw) (K:PySem.W.Frag):Bool:=
 ((List.range R.fns.length).all fun f=>match R.fns[f]? with
   | some q=>!q.2.1.at_.2.isNone||eqA (PySem.W.nsIn K mainGlobals q.2.1.at_.1) (R.fad K f)
   | none=>true)&&
 (R.cns.all fun x=>eqA (PySem.W.nsIn K mainGlobals x) (He.ga K x))&&
 (R.kns.all fun q=>match PySem.W.nsIn K mainGlobals q.1 with
   | some (some u)=>kval K 8 q.2 u
   | _=>false)&&
 (R.blts.all fun x=>eqN (PySem.W.nsIn K mainGlobals x))&&
 (R.mths.all fun q=>clsB K ((R.g K).cad q.1.1)&&eqA (PySem.W.findIn K (.ref ((R.g K).cad q.1.1)) (R.an q.1.2)) (R.fad K q.2)&&PySem.W.isFn K (.ref (R.fad K q.2))&&PySem.W.keepIn K (.ref (R.fad K q.2)))&&
 (R.ccons.all fun q=>clsB K ((R.g K).cad q.1.1)&&!(PySem.W.copiedNames.contains (R.an q.1.2))&&(match PySem.W.findIn K (.ref ((R.g K).cad q.1.1)) (R.an q.1.2) with
   | some (some u)=>kval K 8 q.2 u&&eqN (PySem.W.specialIn K u "__get__")
   | _=>false))&&
 (R.noats.all fun q=>clsB K ((R.g K).cad q.1)&&eqN (PySem.W.findIn K (.ref ((R.g K).cad q.1)) (R.an q.2)))&&
 (R.inits.all fun q=>PySem.W.makesIn K ((R.g K).cad q.1)&&eqA (PySem.W.findIn K (.ref ((R.g K).cad q.1)) "__init__") (R.fad K q.2)&&PySem.W.isFn K (.ref (R.fad K q.2))&&PySem.W.keepIn K (.ref ((R.g K).cad q.1)))&&
 (R.kits.all fun q=>eqB (PySem.W.kitOne K (tagV (R.g K) q.1.1) (zcC (R.g K) q.1.2)) q.2&&(match q.1.1 with
   | .ins c=>insB K ((R.g K).cad c)
   | _=>true))
def zmO (R:Rw) (K:PySem.W.Frag):Bool:=
 (R.sups.all fun q=>eqB (PySem.W.mroIn K ((R.g K).cad q.1.1) (.ref ((R.g K).cad q.1.2.1))) true&&eqA (PySem.W.ks_superIn K ((R.g K).cad q.1.1) ((R.g K).cad q.1.2.1) (R.an q.1.2.2)) (R.fad K q.2)&&tyFn K (R.fad K q.2)&&eqN (PySem.W.nsIn K cStatics "thirdparty.any")&&PySem.W.fnIn K (R.fad K q.2))&&
 (R.sfns.all fun q=>!R.pfns.contains q.1&&(PySem.W.clsIn K ((R.g K).cad q.2)).isSome&&(match R.fns[q.1]? with
   | some z=>ziw R.file K z.2.1 ((R.g K).cad q.2)
   | none=>false))&&
 (R.props.all fun q=>clsB K ((R.g K).cad q.1.1)&&(match PySem.W.findIn K (.ref ((R.g K).cad q.1.1)) (R.an q.1.2) with
   | some (some (.ref p))=>eqI (PySem.W.specialIn K (.ref p) "__get__") "property.__get__"&&eqB (PySem.W.takesIn K (.ref p)) true&&(match PySem.W.recIn K p "property" with
     | some (.ref a::_)=>decide (a=R.fad K q.2)
     | _=>false)
   | _=>false))&&
 (R.eqs.all fun q=>PySem.W.notFirst K ((R.g K).cad q.1.1) (tagV (R.g K) q.1.2)&&eqA (PySem.W.findIn K (.ref ((R.g K).cad q.1.1)) "__eq__") (R.fad K q.2)&&PySem.W.isFn K (.ref (R.fad K q.2))&&eqI (PySem.W.findIn K (.ref ((R.g K).cad q.1.1)) "__ne__") "object.__ne__"&&eqB (PySem.W.mroIn K ((R.g K).cad q.1.1) (.type "object")) true&&(match q.1.2 with
   | .ins b=>insB K ((R.g K).cad b)
   | _=>true))&&
 ((R.rps.all fun q=>eqA (PySem.W.findIn K (.ref ((R.g K).cad q.1)) "__repr__") (R.fad K q.2)&&PySem.W.isFn K (.ref (R.fad K q.2)))&&((R.lns.all fun q=>eqA (PySem.W.findIn K (.ref ((R.g K).cad q.1)) "__len__") (R.fad K q.2)&&PySem.W.isFn K (.ref (R.fad K q.2)))&&R.cts.all fun q=>eqA (PySem.W.findIn K (.ref ((R.g K).cad q.1)) "__contains__") (R.fad K q.2)&&PySem.W.isFn K (.ref (R.fad K q.2))))&&
 ((R.clcs.all fun q=>match PySem.W.typeIn K (.ref ((R.g K).cad q.1.1)) with
   | some mc=>PySem.W.readsIn K ((R.g K).cad q.1.1) mc&&eqI (PySem.W.specialIn K (.ref ((R.g K).cad q.1.1)) "__getattribute__") "type.__getattribute__"&&(match PySem.W.findCls K (.ref ((R.g K).cad q.1.1)) mc (R.an q.1.2) with
     | some (.val u)=>kval K 8 q.2 u
     | _=>false)
   | none=>false)&&R.stats.all fun q=>zlN K ((R.g K).cad q.1.1) (R.an q.1.2) (R.fad K q.2))&&
 (R.fns.all fun q=>q.2.1.dfl.all (adrB K)&&q.2.1.kwd.all fun p=>adrB K p.2)&&
 (R.kds.all fun q=>(eqA (PySem.W.nsIn K mainGlobals q.1) (He.ga K q.1)&&q.2.all fun p=>match PySem.W.nsIn K (He.ga K q.1) p.1 with
   | some (some u)=>kval K 8 p.2 u
   | _=>false)&&zlh K (He.ga K q.1) (q.2.map (·.1)))&&
 (R.pfns.all fun f=>match R.fns[f]? with
   | some z=>zgz K z.2.1 (R.fad K f)
   | none=>false)
theorem zmG (a b1 b2 b3 b4 b5 b6 b7 b8 b9:Bool):((((((((((a&&b1)&&b2)&&b3)&&b4)&&b5)&&b6)&&b7)&&b8)&&b9))=(a&&((((((((b1&&b2)&&b3)&&b4)&&b5)&&b6)&&b7)&&b8)&&b9)):=by
 simp only [Bool.and_assoc]
theorem zlg (R:Rw):rowK R=fun K=>zlK R K&&zmO R K:=by
 funext K
 exact zmG (zlK R K) _ _ _ _ _ _ _ _ _
end Mi
end
section
set_option maxHeartbeats 0
namespace Row
open PySem PySem.Spec PyProof.Rows L2 Mi
def top (i:Nat):Stmt:=PySem.Challenge.pw_samesight_k01_errors_by_themselves.main.body.getD i (.Pass ⟨0,0,0,0⟩)
def cls (i j:Nat):Stmt:=match top i with
 | .ClassDef _ _ _ body _ _ _ _ _ _ _=>body.getD j (.Pass ⟨0,0,0,0⟩)
 | s=>s
def zhs:List Str:=["_law_e"]
def zaa:Sms:=(.cons (.ife (.cmp .In (.atx (.var 0) 0) (.tup (.cons (.cstr "InvalidName") (.cons (.cstr "DuplicateName") (.cons (.cstr "InvalidSlot") (.cons (.cstr "Unseen") (.cons (.cstr "InvalidNote") (.cons (.cstr "WrongKind") (.cons (.cstr "UnknownName") .nil))))))))) (.cons (.ret (.tup (.cons (.atx (.var 0) 1) .nil))) .nil) .nil) (.cons (.ife (.cmp .In (.atx (.var 0) 0) (.tup (.cons (.cstr "InvalidAction") (.cons (.cstr "Blocked") .nil)))) (.cons (.ret (.tup (.cons (.atx (.var 0) 1) (.cons (.atx (.var 0) 2) .nil)))) .nil) .nil) (.cons (.ife (.cmp .Eq (.atx (.var 0) 0) (.cstr "InvalidCondition")) (.cons (.ret (.tup (.cons (.atx (.var 0) 3) .nil))) .nil) .nil) (.cons (.ife (.cmp .Eq (.atx (.var 0) 0) (.cstr "InvalidModel")) (.cons (.ret (.tup (.cons (.atx (.var 0) 2) .nil))) .nil) .nil) (.cons (.ife (.cmp .In (.atx (.var 0) 0) (.tup (.cons (.cstr "InvalidText") (.cons (.cstr "InvalidState") (.cons (.cstr "InvalidStep") .nil))))) (.cons (.ret (.tup (.cons (.atx (.var 0) 4) .nil))) .nil) .nil) (.cons (.ife (.cmp .In (.atx (.var 0) 0) (.tup (.cons (.cstr "InvalidAnswer") (.cons (.cstr "InvalidLimit") .nil)))) (.cons (.ret (.tup (.cons (.atx (.var 0) 5) .nil))) .nil) .nil) (.cons (.ife (.cmp .Eq (.atx (.var 0) 0) (.cstr "InUse")) (.cons (.ret (.tup (.cons (.atx (.var 0) 6) .nil))) .nil) .nil) (.cons (.ife (.cmp .Eq (.atx (.var 0) 0) (.cstr "Breaks")) (.cons (.ret (.tup (.cons (.atx (.var 0) 6) (.cons (.atx (.var 0) 7) .nil)))) .nil) .nil) (.cons (.ife (.cmp .Eq (.atx (.var 0) 0) (.cstr "TooWide")) (.cons (.ret (.tup (.cons (.atx (.var 0) 8) .nil))) .nil) .nil) (.cons (.ife (.cmp .Eq (.atx (.var 0) 0) (.cstr "Full")) (.cons (.ret (.tup (.cons (.atx (.var 0) 9) .nil))) .nil) .nil) (.cons (.ife (.cmp .Eq (.atx (.var 0) 0) (.cstr "Aborted")) (.cons (.ret (.tup (.cons (.atx (.var 0) 4) (.cons (.atx (.var 0) 7) .nil)))) .nil) .nil) (.cons (.ife (.cmp .Eq (.atx (.var 0) 0) (.cstr "InvalidPage")) (.cons (.ret (.tup (.cons (.atx (.var 0) 10) .nil))) .nil) .nil) (.cons (.ret (.tup .nil)) .nil)))))))))))))
def zeI:He.DefD:=⟨("_law_field",none), "_law_field", "_law_field",defArgs (top 34),defBody (top 34),defScope (top 34),[],[]⟩
def zcn:Fd:=⟨[11],1,1,[none],zaa,false⟩
abbrev zht:Nat:=0
def zhm:List Str:=["_law_script", "_law_seed", "_law_cell"]
def zdg:Sms:=(.cons (.asg (.var 1) (.cint 5630)) (.cons (.fr (.var 2) (.seq (.sl (.var 0) .none (.some (.cint 63)))) (.cons (.asg (.var 1) (.bop .mod (.bi .int1 (.cons (.bop .add (.bop .add (.bop .mul (.var 1) (.cint 45179)) (.bop .mod (.bi .int1 (.cons (.var 2) .nil)) (.cint 2147483543))) (.cint 37)) .nil)) (.cint 2147483563))) .nil)) (.cons (.ret (.lst (.cons (.bi .list1 (.cons (.sl (.var 0) .none (.some (.cint 63))) .nil)) (.cons (.cint 0) (.cons (.cint 0) (.cons (.var 1) (.cons (.cint 0) .nil))))))) .nil)))
def zeH:He.DefD:=⟨("_law_draws",none), "_law_draws", "_law_draws",defArgs (top 35),defBody (top 35),defScope (top 35),[],[]⟩
def zbn:Fd:=⟨[12],1,3,[none],zdg,false⟩
abbrev zg9:Nat:=1
def zh4:List Str:=["_law_bag", "_law_sides", "_law_cell", "_law_digit", "_law_seed"]
def zeM:Sms:=(.cons (.asg (.sub (.var 0) (.cint 4)) (.bop .add (.ix (.var 0) (.cint 4)) (.cint 1))) (.cons (.ife (.and (.cmp .Eq (.ix (.var 0) (.cint 2)) (.cint 0)) (.cmp .Lt (.ix (.var 0) (.cint 1)) (.bi .len (.cons (.ix (.var 0) (.cint 0)) .nil)))) (.cons (.asg (.tup (.cons (.var 2) (.cons (.sub (.var 0) (.cint 1)) .nil))) (.tup (.cons (.ix (.ix (.var 0) (.cint 0)) (.ix (.var 0) (.cint 1))) (.cons (.bop .add (.ix (.var 0) (.cint 1)) (.cint 1)) .nil)))) (.cons (.ife (.cmp .GtE (.var 2) (.bop .pow (.cint 10) (.cint 18))) (.cons (.asg (.sub (.var 0) (.cint 2)) (.var 2)) .nil) .nil) (.cons (.asg (.sub (.var 0) (.cint 3)) (.bop .mod (.bi .int1 (.cons (.bop .add (.bop .add (.bop .mul (.ix (.var 0) (.cint 3)) (.cint 39227)) (.bop .mul (.bop .mod (.bi .int1 (.cons (.var 2) .nil)) (.cint 2147483543)) (.cint 40343))) (.cint 47)) .nil)) (.cint 2147483563))) .nil))) .nil) (.cons (.ife (.cmp .Gt (.ix (.var 0) (.cint 2)) (.cint 0)) (.cons (.asg (.tup (.cons (.var 3) (.cons (.sub (.var 0) (.cint 2)) .nil))) (.tup (.cons (.bop .mod (.bi .int1 (.cons (.ix (.var 0) (.cint 2)) .nil)) (.var 1)) (.cons (.bop .fdiv (.ix (.var 0) (.cint 2)) (.var 1)) .nil)))) (.cons (.ret (.var 3)) .nil)) .nil) (.cons (.asg (.var 4) (.ix (.var 0) (.cint 3))) (.cons (.asg (.sub (.var 0) (.cint 3)) (.bop .mod (.bi .int1 (.cons (.bop .add (.bop .add (.bop .add (.bop .pow (.var 4) (.cint 3)) (.bop .mul (.var 4) (.cint 38543))) (.bop .mul (.ix (.var 0) (.cint 4)) (.cint 1299721))) (.cint 65269)) .nil)) (.cint 2147483563))) (.cons (.ret (.bop .mod (.bi .int1 (.cons (.bop .add (.bop .fdiv (.ix (.var 0) (.cint 3)) (.cint 97)) (.bop .mul (.bop .mod (.bi .int1 (.cons (.ix (.var 0) (.cint 3)) .nil)) (.cint 7927)) (.cint 67))) .nil)) (.var 1))) .nil))))))
def zfa:He.DefD:=⟨("_law_pull",none), "_law_pull", "_law_pull",defArgs (top 36),defBody (top 36),defScope (top 36),[],[]⟩
def zbP:Fd:=⟨[13,14],2,5,[none,none],zeM,false⟩
abbrev zfv:Nat:=2
def zi7:List Str:=["_law_bag", "_law_rows"]
def zfi:Sms:=(.cons (.ret (.ix (.var 1) (.call 2 (.cons (.var 0) (.cons (.bi .len (.cons (.var 1) .nil)) .nil)) [] .nil))) .nil)
def zgf:He.DefD:=⟨("_law_any",none), "_law_any", "_law_any",defArgs (top 37),defBody (top 37),defScope (top 37),[],[]⟩
def zcf:Fd:=⟨[13,15],2,2,[none,none],zfi,false⟩
abbrev ziV:Nat:=3
def zg3:List Str:=["_law_bag", "_law_rows", "_law_found", "_law_row"]
def zdj:Sms:=(.cons (.asg (.var 2) (.lst .nil)) (.cons (.fr (.var 3) (.seq (.var 1)) (.cons (.expr (.bm .insert (.var 2) (.cons (.call 2 (.cons (.var 0) (.cons (.bop .add (.bi .len (.cons (.var 2) .nil)) (.cint 1)) .nil)) [] .nil) (.cons (.var 3) .nil)))) .nil)) (.cons (.ret (.var 2)) .nil)))
def zeP:He.DefD:=⟨("_law_mixed",none), "_law_mixed", "_law_mixed",defArgs (top 38),defBody (top 38),defScope (top 38),[],[]⟩
def zbr:Fd:=⟨[13,15],2,4,[none,none],zdj,false⟩
abbrev zgX:Nat:=4
def zhJ:List Str:=["_law_a", "_law_b", "_law_same", "_law_c", "_law_d"]
def zeC:Sms:=(.cons (.ife (.isin (.var 1) [.bt "list",.bt "tuple"]) (.cons (.asg (.var 2) (.and (.cmp .Eq (.isin (.var 0) [.bt "list"]) (.isin (.var 1) [.bt "list"])) (.cmp .Eq (.isin (.var 0) [.bt "tuple"]) (.isin (.var 1) [.bt "tuple"])))) (.cons (.ret (.and (.var 2) (.and (.cmp .Eq (.bi .len (.cons (.var 0) .nil)) (.bi .len (.cons (.var 1) .nil))) (.bi .all (.cons (.lc (.call 5 (.cons (.var 3) (.cons (.var 4) .nil)) [] .nil) (.tup (.cons (.var 3) (.cons (.var 4) .nil))) (.zip (.var 0) (.var 1)) .none [3,4]) .nil))))) .nil)) .nil) (.cons (.ife (.or (.isn (.var 0)) (.or (.isn (.var 1)) (.cmp .NotEq (.isin (.var 0) [.bt "bool"]) (.isin (.var 1) [.bt "bool"])))) (.cons (.ret (.and (.isn (.var 0)) (.isn (.var 1)))) .nil) .nil) (.cons (.ret (.and (.cmp .Eq (.isin (.var 0) [.bt "int"]) (.isin (.var 1) [.bt "int"])) (.and (.cmp .Eq (.isin (.var 0) [.bt "str"]) (.isin (.var 1) [.bt "str"])) (.cmp .Eq (.var 0) (.var 1))))) .nil)))
def ze7:He.DefD:=⟨("_law_like",none), "_law_like", "_law_like",defArgs (top 39),defBody (top 39),defScope (top 39),[],[]⟩
def zbM:Fd:=⟨[16,17],2,5,[none,none],zeC,false⟩
abbrev zfu:Nat:=5
def zjJ:List Str:=["_law_bag", "_law_near"]
def ze9:Sms:=(.cons (.asg (.var 1) (.call 2 (.cons (.var 0) (.cons (.bop .pow (.cint 10) (.cint 9)) .nil)) [] .nil)) (.cons (.ret (.call 3 (.cons (.var 0) (.cons (.lst (.cons (.cint 0) (.cons (.cint 1) (.cons (.neg (.cint 1)) (.cons (.cint 2) (.cons (.bop .sub (.var 1) (.bop .pow (.cint 10) (.cint 8))) (.cons (.call 2 (.cons (.var 0) (.cons (.cint 9) .nil)) [] .nil) (.cons (.bop .sub (.var 1) (.bop .pow (.cint 10) (.cint 59))) (.cons (.bop .sub (.bop .sub (.bop .pow (.cint 10) (.cint 60)) (.cint 1)) (.var 1)) .nil))))))))) .nil)) [] .nil)) .nil))
def zgg:He.DefD:=⟨("_law_far",none), "_law_far", "_law_far",defArgs (top 40),defBody (top 40),defScope (top 40),[],[]⟩
def zcc:Fd:=⟨[13],1,2,[none],ze9,false⟩
abbrev zjC:Nat:=6
def zhp:List Str:=["_law_e", "_law_found"]
def zds:Sms:=(.cons (.asg (.var 1) (.lst (.cons (.isx (.var 0) (.own 2)) (.cons (.isx (.var 0) (.own 3)) (.cons (.isx (.var 0) (.own 4)) .nil))))) (.cons (.asg (.var 1) (.bop .add (.var 1) (.lst (.cons (.isx (.var 0) (.own 5)) (.cons (.isx (.var 0) (.own 6)) (.cons (.isx (.var 0) (.own 7)) .nil)))))) (.cons (.asg (.var 1) (.bop .add (.var 1) (.lst (.cons (.isx (.var 0) (.own 8)) (.cons (.isx (.var 0) (.own 9)) (.cons (.isx (.var 0) (.own 10)) .nil)))))) (.cons (.asg (.var 1) (.bop .add (.var 1) (.lst (.cons (.isx (.var 0) (.own 11)) (.cons (.isx (.var 0) (.own 12)) (.cons (.isx (.var 0) (.own 13)) .nil)))))) (.cons (.asg (.var 1) (.bop .add (.var 1) (.lst (.cons (.isx (.var 0) (.own 14)) (.cons (.isx (.var 0) (.own 15)) (.cons (.isx (.var 0) (.own 16)) .nil)))))) (.cons (.asg (.var 1) (.bop .add (.var 1) (.lst (.cons (.isx (.var 0) (.own 17)) (.cons (.isx (.var 0) (.own 18)) (.cons (.isx (.var 0) (.own 19)) .nil)))))) (.cons (.asg (.var 1) (.bop .add (.var 1) (.lst (.cons (.isx (.var 0) (.own 20)) (.cons (.isx (.var 0) (.own 21)) (.cons (.isx (.var 0) (.own 22)) .nil)))))) (.cons (.asg (.var 1) (.bop .add (.var 1) (.lst (.cons (.isx (.var 0) (.own 23)) (.cons (.isx (.var 0) (.own 24)) (.cons (.isx (.var 0) (.own 25)) .nil)))))) (.cons (.asg (.var 1) (.bop .add (.var 1) (.lst (.cons (.isx (.var 0) (.own 26)) (.cons (.isx (.var 0) (.own 27)) (.cons (.isx (.var 0) (.own 28)) (.cons (.isx (.var 0) (.own 29)) .nil))))))) (.cons (.ret (.bop .add (.var 1) (.lst (.cons (.isx (.var 0) (.own 30)) (.cons (.isx (.var 0) (.own 31)) .nil))))) .nil))))))))))
def zeA:He.DefD:=⟨("_law_flags",none), "_law_flags", "_law_flags",defArgs (top 41),defBody (top 41),defScope (top 41),[],[]⟩
def zbp:Fd:=⟨[11],1,2,[none],zds,false⟩
abbrev zhu:Nat:=7
def zgV:List Str:=["_law_e", "_law_found"]
def zdx:Sms:=(.cons (.asg (.var 1) (.lst (.cons (.isx (.var 0) (.own 0)) (.cons (.isx (.var 0) (.bt "ValueError")) (.cons (.isx (.var 0) (.own 1)) .nil))))) (.cons (.ret (.bop .add (.var 1) (.lst (.cons (.isx (.var 0) (.bt "LookupError")) (.cons (.isx (.var 0) (.bt "IndexError")) (.cons (.isx (.var 0) (.bt "KeyError")) .nil)))))) .nil))
def zeL:He.DefD:=⟨("_law_bases",none), "_law_bases", "_law_bases",defArgs (top 42),defBody (top 42),defScope (top 42),[],[]⟩
def zbo:Fd:=⟨[11],1,2,[none],zdx,false⟩
abbrev zg4:Nat:=8
def zg6:List Str:=["_law_words"]
def zgn:Sms:=(.cons (.asg (.var 0) (.cstr "InvalidName DuplicateName InvalidWords InvalidSlot InvalidCondition InvalidText InvalidAction")) (.cons (.asg (.var 0) (.bop .add (.var 0) (.cstr " InvalidModel InvalidState InvalidSight InvalidStep Blocked InvalidAnswer Unseen InvalidPrices"))) (.cons (.asg (.var 0) (.bop .add (.var 0) (.cstr " InvalidNote InvalidLimit TooWide NotReached NotOpen NotAlike InvalidCommand WrongKind InUse Breaks"))) (.cons (.ret (.bm .split (.bop .add (.var 0) (.cstr " Aborted Full InvalidPage UnknownName NothingLeft")) (.cons (.cstr " ") .nil))) .nil))))
def zeB:He.DefD:=⟨("_law_codes",none), "_law_codes", "_law_codes",defArgs (top 43),defBody (top 43),defScope (top 43),[],[]⟩
def zdp:Fd:=⟨[],0,1,[],zgn,false⟩
abbrev zeG:Nat:=9
def zgs:List Str:=["_law_one", "_law_two", "_law_found"]
def zcZ:Sms:=(.cons (.asg (.var 2) (.lst (.cons (.mkx 2 (.cons (.var 0) .nil) [] [] .nil) (.cons (.mkx 3 (.cons (.var 0) .nil) [] [] .nil) (.cons (.mkx 4 .nil [] [] .nil) (.cons (.mkx 5 (.cons (.var 0) .nil) [] [] .nil) (.cons (.mkx 6 (.cons (.var 0) .nil) [] [] .nil) .nil))))))) (.cons (.asg (.var 2) (.bop .add (.var 2) (.lst (.cons (.mkx 7 (.cons (.var 0) .nil) [] [] .nil) (.cons (.mkx 8 .nil [2,1] ["part", "name"] (.cons (.var 1) (.cons (.var 0) .nil))) (.cons (.mkx 9 (.cons (.var 0) .nil) [] [] .nil) (.cons (.mkx 10 (.cons (.var 0) .nil) [] [] .nil) .nil))))))) (.cons (.asg (.var 2) (.bop .add (.var 2) (.lst (.cons (.mkx 11 .nil [] [] .nil) (.cons (.mkx 12 (.cons (.var 0) .nil) [] [] .nil) (.cons (.mkx 13 (.cons (.var 0) (.cons (.var 1) .nil)) [] [] .nil) (.cons (.mkx 14 (.cons (.var 0) .nil) [] [] .nil) (.cons (.mkx 15 (.cons (.var 0) .nil) [] [] .nil) .nil)))))))) (.cons (.asg (.var 2) (.bop .add (.var 2) (.lst (.cons (.mkx 16 .nil [] [] .nil) (.cons (.mkx 17 (.cons (.var 0) .nil) [] [] .nil) (.cons (.mkx 18 .nil [5] ["given"] (.cons (.var 0) .nil)) (.cons (.mkx 19 (.cons (.var 0) .nil) [] [] .nil) (.cons (.mkx 20 .nil [] [] .nil) (.cons (.mkx 21 .nil [] [] .nil) .nil))))))))) (.cons (.asg (.var 2) (.bop .add (.var 2) (.lst (.cons (.mkx 22 .nil [] [] .nil) (.cons (.mkx 23 .nil [] [] .nil) (.cons (.mkx 24 (.cons (.var 0) .nil) [] [] .nil) (.cons (.mkx 25 .nil [6] ["user"] (.cons (.var 0) .nil)) (.cons (.mkx 26 .nil [7,6] ["why", "user"] (.cons (.var 1) (.cons (.var 0) .nil))) .nil)))))))) (.cons (.ret (.bop .add (.var 2) (.lst (.cons (.mkx 27 (.cons (.var 0) (.cons (.var 1) .nil)) [] [] .nil) (.cons (.mkx 28 .nil [9] ["limit"] (.cons (.var 0) .nil)) (.cons (.mkx 29 (.cons (.var 0) .nil) [] [] .nil) (.cons (.mkx 30 .nil [1] ["name"] (.cons (.var 0) .nil)) (.cons (.mkx 31 .nil [] [] .nil) .nil)))))))) .nil))))))
def zdu:He.DefD:=⟨("_law_errors",none), "_law_errors", "_law_errors",defArgs (top 44),defBody (top 44),defScope (top 44),[],[]⟩
def zbe:Fd:=⟨[18,19],2,3,[none,none],zcZ,false⟩
abbrev zgj:Nat:=10
def zop:List Str:=["_law_script", "_law_bag", "_law_turn", "_law_one", "_law_two", "_law_errors_now", "_law_codes_here", "_law_k", "_law_e", "_law_due", "_law_bases_here", "_law_j"]
def zml:Sms:=(.cons (.asg (.var 1) (.call 1 (.cons (.var 0) .nil) [] .nil)) (.cons (.fr (.var 2) (.rng1 (.cint 3)) (.cons (.par [3,4] (.cons (.call 3 (.cons (.var 1) (.cons (.lst (.cons (.cstr "a") (.cons (.cstr "") (.cons (.tup (.cons (.cint 1) (.cons (.cint 2) .nil))) (.cons .cnon (.cons (.call 6 (.cons (.var 1) .nil) [] .nil) .nil)))))) .nil)) [] .nil) (.cons (.call 6 (.cons (.var 1) .nil) [] .nil) .nil))) (.cons (.par [5,6] (.cons (.call 10 (.cons (.var 3) (.cons (.var 4) .nil)) [] .nil) (.cons (.call 9 .nil [] .nil) .nil))) (.cons (.fr (.var 7) (.seq (.call 4 (.cons (.var 1) (.cons (.lrng (.cint 30)) .nil)) [] .nil)) (.cons (.asg (.var 8) (.ix (.var 5) (.var 7))) (.cons (.asg (.var 9) (.ife (.cmp .In (.ix (.var 6) (.var 7)) (.tup (.cons (.cstr "InvalidAction") (.cons (.cstr "Blocked") (.cons (.cstr "Breaks") (.cons (.cstr "Aborted") .nil)))))) (.tup (.cons (.var 3) (.cons (.var 4) .nil))) (.tup (.cons (.var 3) .nil)))) (.cons (.asg (.var 9) (.ife (.cmp .In (.ix (.var 6) (.var 7)) (.tup (.cons (.cstr "InvalidWords") (.cons (.cstr "InvalidSight") (.cons (.cstr "InvalidPrices") (.cons (.cstr "NotReached") (.cons (.cstr "NotOpen") (.cons (.cstr "NotAlike") (.cons (.cstr "InvalidCommand") (.cons (.cstr "NothingLeft") .nil)))))))))) (.tup .nil) (.var 9))) (.cons (.asg (.var 10) (.lst (.cons (.cmp .Lt (.var 7) (.cint 28)) (.cons (.cmp .Lt (.var 7) (.cint 28)) (.cons (.cmp .Eq (.var 7) (.cint 28)) (.cons (.cmp .Gt (.var 7) (.cint 27)) (.cons (.cmp .Eq (.var 7) (.cint 29)) (.cons (.cbl false) .nil)))))))) (.cons (.ife (.not (.call 5 (.cons (.lst (.cons (.atx (.var 8) 0) (.cons (.call 0 (.cons (.var 8) .nil) [] .nil) (.cons (.call 7 (.cons (.var 8) .nil) [] .nil) (.cons (.call 8 (.cons (.var 8) .nil) [] .nil) .nil))))) (.cons (.lst (.cons (.ix (.var 6) (.var 7)) (.cons (.var 9) (.cons (.lc (.cmp .Eq (.var 11) (.var 7)) (.var 11) (.rng1 (.cint 30)) .none [11]) (.cons (.var 10) .nil))))) .nil)) [] .nil)) (.cons (.ret (.cbl false)) .nil) .nil) .nil)))))) .nil)))) (.cons (.ret (.call 5 (.cons (.lst (.cons (.atx (.mkx 0 (.cons (.cstr "some") .nil) [] [] .nil) 0) (.cons (.atx (.mkx 1 (.cons (.cstr "other") .nil) [] [] .nil) 0) .nil))) (.cons (.lst (.cons (.cstr "some") (.cons (.cstr "other") .nil))) .nil)) [] .nil)) .nil)))
def znO:He.DefD:=⟨("law",none), "law", "law",defArgs (top 45),defBody (top 45),defScope (top 45),[],[]⟩
def zhA:Fd:=⟨[12],1,12,[none],zml,false⟩
abbrev zh7:Nat:=11
def zbf:He.DefD:=⟨("SightError",some "__init__"), "__init__", "SightError.__init__",defArgs (cls 1 0),defBody (cls 1 0),defScope (cls 1 0),[],[]⟩
def zcE:List Str:=["self", "code"]
def zbU:He.DefD:=⟨("Missing",some "__init__"), "__init__", "Missing.__init__",defArgs (cls 2 0),defBody (cls 2 0),defScope (cls 2 0),[],[]⟩
def zdk:List Str:=["self", "code"]
def za9:He.DefD:=⟨("InvalidName",some "__init__"), "__init__", "InvalidName.__init__",defArgs (cls 3 0),defBody (cls 3 0),defScope (cls 3 0),[],[]⟩
def zcu:List Str:=["self", "name"]
def zaP:He.DefD:=⟨("DuplicateName",some "__init__"), "__init__", "DuplicateName.__init__",defArgs (cls 4 0),defBody (cls 4 0),defScope (cls 4 0),[],[]⟩
def zb9:List Str:=["self", "name"]
def zaT:He.DefD:=⟨("InvalidWords",some "__init__"), "__init__", "InvalidWords.__init__",defArgs (cls 5 0),defBody (cls 5 0),defScope (cls 5 0),[],[]⟩
def zcl:List Str:=["self"]
def za5:He.DefD:=⟨("InvalidSlot",some "__init__"), "__init__", "InvalidSlot.__init__",defArgs (cls 6 0),defBody (cls 6 0),defScope (cls 6 0),[],[]⟩
def zcw:List Str:=["self", "name"]
def zaF:He.DefD:=⟨("InvalidCondition",some "__init__"), "__init__", "InvalidCondition.__init__",defArgs (cls 7 0),defBody (cls 7 0),defScope (cls 7 0),[],[]⟩
def zbJ:List Str:=["self", "path"]
def za3:He.DefD:=⟨("InvalidText",some "__init__"), "__init__", "InvalidText.__init__",defArgs (cls 8 0),defBody (cls 8 0),defScope (cls 8 0),[],[]⟩
def zcx:List Str:=["self", "at"]
def zaO:He.DefD:=⟨("InvalidAction",some "__init__"), "__init__", "InvalidAction.__init__",defArgs (cls 9 0),defBody (cls 9 0),defScope (cls 9 0),[],[]⟩
def zb6:List Str:=["self", "name", "part"]
def zaY:He.DefD:=⟨("InvalidModel",some "__init__"), "__init__", "InvalidModel.__init__",defArgs (cls 10 0),defBody (cls 10 0),defScope (cls 10 0),[],[]⟩
def zco:List Str:=["self", "part"]
def za2:He.DefD:=⟨("InvalidState",some "__init__"), "__init__", "InvalidState.__init__",defArgs (cls 11 0),defBody (cls 11 0),defScope (cls 11 0),[],[]⟩
def zcj:List Str:=["self", "at"]
def zaQ:He.DefD:=⟨("InvalidSight",some "__init__"), "__init__", "InvalidSight.__init__",defArgs (cls 12 0),defBody (cls 12 0),defScope (cls 12 0),[],[]⟩
def zce:List Str:=["self"]
def za7:He.DefD:=⟨("InvalidStep",some "__init__"), "__init__", "InvalidStep.__init__",defArgs (cls 13 0),defBody (cls 13 0),defScope (cls 13 0),[],[]⟩
def zcB:List Str:=["self", "at"]
def zbO:He.DefD:=⟨("Blocked",some "__init__"), "__init__", "Blocked.__init__",defArgs (cls 14 0),defBody (cls 14 0),defScope (cls 14 0),[],[]⟩
def zdh:List Str:=["self", "name", "part"]
def zaM:He.DefD:=⟨("InvalidAnswer",some "__init__"), "__init__", "InvalidAnswer.__init__",defArgs (cls 15 0),defBody (cls 15 0),defScope (cls 15 0),[],[]⟩
def zb2:List Str:=["self", "given"]
def zca:He.DefD:=⟨("Unseen",some "__init__"), "__init__", "Unseen.__init__",defArgs (cls 16 0),defBody (cls 16 0),defScope (cls 16 0),[],[]⟩
def zd0:List Str:=["self", "name"]
def zaN:He.DefD:=⟨("InvalidPrices",some "__init__"), "__init__", "InvalidPrices.__init__",defArgs (cls 17 0),defBody (cls 17 0),defScope (cls 17 0),[],[]⟩
def zb5:List Str:=["self"]
def za6:He.DefD:=⟨("InvalidNote",some "__init__"), "__init__", "InvalidNote.__init__",defArgs (cls 18 0),defBody (cls 18 0),defScope (cls 18 0),[],[]⟩
def zcA:List Str:=["self", "name"]
def za0:He.DefD:=⟨("InvalidLimit",some "__init__"), "__init__", "InvalidLimit.__init__",defArgs (cls 19 0),defBody (cls 19 0),defScope (cls 19 0),[],[]⟩
def zch:List Str:=["self", "given"]
def zbT:He.DefD:=⟨("TooWide",some "__init__"), "__init__", "TooWide.__init__",defArgs (cls 20 0),defBody (cls 20 0),defScope (cls 20 0),[],[]⟩
def zdB:List Str:=["self", "most"]
def zbj:He.DefD:=⟨("NotReached",some "__init__"), "__init__", "NotReached.__init__",defArgs (cls 21 0),defBody (cls 21 0),defScope (cls 21 0),[],[]⟩
def zcG:List Str:=["self"]
def zbS:He.DefD:=⟨("NotOpen",some "__init__"), "__init__", "NotOpen.__init__",defArgs (cls 22 0),defBody (cls 22 0),defScope (cls 22 0),[],[]⟩
def zdo:List Str:=["self"]
def zbD:He.DefD:=⟨("NotAlike",some "__init__"), "__init__", "NotAlike.__init__",defArgs (cls 23 0),defBody (cls 23 0),defScope (cls 23 0),[],[]⟩
def zc0:List Str:=["self"]
def zaK:He.DefD:=⟨("InvalidCommand",some "__init__"), "__init__", "InvalidCommand.__init__",defArgs (cls 24 0),defBody (cls 24 0),defScope (cls 24 0),[],[]⟩
def zbW:List Str:=["self"]
def zbl:He.DefD:=⟨("WrongKind",some "__init__"), "__init__", "WrongKind.__init__",defArgs (cls 25 0),defBody (cls 25 0),defScope (cls 25 0),[],[]⟩
def zcX:List Str:=["self", "name"]
def zcq:He.DefD:=⟨("InUse",some "__init__"), "__init__", "InUse.__init__",defArgs (cls 26 0),defBody (cls 26 0),defScope (cls 26 0),[],[]⟩
def zeT:List Str:=["self", "user"]
def zb7:He.DefD:=⟨("Breaks",some "__init__"), "__init__", "Breaks.__init__",defArgs (cls 27 0),defBody (cls 27 0),defScope (cls 27 0),[],[]⟩
def zdQ:List Str:=["self", "user", "why"]
def zbN:He.DefD:=⟨("Aborted",some "__init__"), "__init__", "Aborted.__init__",defArgs (cls 28 0),defBody (cls 28 0),defScope (cls 28 0),[],[]⟩
def zdi:List Str:=["self", "at", "why"]
def zcH:He.DefD:=⟨("Full",some "__init__"), "__init__", "Full.__init__",defArgs (cls 29 0),defBody (cls 29 0),defScope (cls 29 0),[],[]⟩
def zfe:List Str:=["self", "limit"]
def zba:He.DefD:=⟨("InvalidPage",some "__init__"), "__init__", "InvalidPage.__init__",defArgs (cls 30 0),defBody (cls 30 0),defScope (cls 30 0),[],[]⟩
def zcy:List Str:=["self", "line"]
def za4:He.DefD:=⟨("UnknownName",some "__init__"), "__init__", "UnknownName.__init__",defArgs (cls 31 0),defBody (cls 31 0),defScope (cls 31 0),[],[]⟩
def zcv:List Str:=["self", "name"]
def za8:He.DefD:=⟨("NothingLeft",some "__init__"), "__init__", "NothingLeft.__init__",defArgs (cls 32 0),defBody (cls 32 0),defScope (cls 32 0),[],[]⟩
def zct:List Str:=["self"]
@[reducible] def anL0:List Str:=["code", "name", "part", "path", "at", "given", "user", "why", "most", "limit", "line", "_law_e", "_law_script", "_law_bag", "_law_sides", "_law_rows", "_law_a", "_law_b", "_law_one", "_law_two"]
def R:Rw where
 fns:=[(zcn,zeI,zhs),(zbn,zeH,zhm),(zbP,zfa,zh4),(zcf,zgf,zi7),(zbr,zeP,zg3),(zbM,ze7,zhJ),(zcc,zgg,zjJ),(zbp,zeA,zhp),(zbo,zeL,zgV),(zdp,zeB,zg6),(zbe,zdu,zgs),(zhA,znO,zop)]
 cns:=["SightError", "Missing", "InvalidName", "DuplicateName", "InvalidWords", "InvalidSlot", "InvalidCondition", "InvalidText", "InvalidAction", "InvalidModel", "InvalidState", "InvalidSight", "InvalidStep", "Blocked", "InvalidAnswer", "Unseen", "InvalidPrices", "InvalidNote", "InvalidLimit", "TooWide", "NotReached", "NotOpen", "NotAlike", "InvalidCommand", "WrongKind", "InUse", "Breaks", "Aborted", "Full", "InvalidPage", "UnknownName", "NothingLeft"]
 kns:=[]
 ans:=anL0
 mths:=[]
 ccons:=[]
 noats:=[]
 inits:=[]
 kits:=[((.non,.bt "bool"),false),((.non,.bt "int"),false),((.non,.bt "list"),false),((.non,.bt "str"),false),((.non,.bt "tuple"),false),((.bl,.bt "bool"),true),((.bl,.bt "int"),true),((.bl,.bt "list"),false),((.bl,.bt "str"),false),((.bl,.bt "tuple"),false),((.int,.bt "bool"),false),((.int,.bt "int"),true),((.int,.bt "list"),false),((.int,.bt "str"),false),((.int,.bt "tuple"),false),((.str,.bt "bool"),false),((.str,.bt "int"),false),((.str,.bt "list"),false),((.str,.bt "str"),true),((.str,.bt "tuple"),false),((.lst,.bt "bool"),false),((.lst,.bt "int"),false),((.lst,.bt "list"),true),((.lst,.bt "str"),false),((.lst,.bt "tuple"),false),((.tup,.bt "bool"),false),((.tup,.bt "int"),false),((.tup,.bt "list"),false),((.tup,.bt "str"),false),((.tup,.bt "tuple"),true)]
 blts:=["int", "list", "len", "tuple", "isinstance", "all", "zip", "bool", "str", "ValueError", "LookupError", "IndexError", "KeyError", "range"]
 sups:=[]
 sfns:=[]
 file:=PySem.Challenge.pw_samesight_k01_errors_by_themselves.main.file
 props:=[]
 pfns:=[]
 eqs:=[]
 rps:=[]
 cts:=[]
 lns:=[]
 clcs:=[]
 stats:=[]
 kds:=[]
 xb:=[⟨.ve,0,zbf,zcE, "code"⟩,⟨.le,1,zbU,zdk, "code"⟩]
 xcs:=[⟨2,za9,zcu, "InvalidName",[("name",1)],1,[(1,.inl 0),(0,.inr "InvalidName")],0⟩,⟨3,zaP,zb9, "DuplicateName",[("name",1)],1,[(1,.inl 0),(0,.inr "DuplicateName")],0⟩,⟨4,zaT,zcl, "InvalidWords",[],0,[(0,.inr "InvalidWords")],0⟩,⟨5,za5,zcw, "InvalidSlot",[("name",1)],1,[(1,.inl 0),(0,.inr "InvalidSlot")],0⟩,⟨6,zaF,zbJ, "InvalidCondition",[("path",1)],1,[(3,.inl 0),(0,.inr "InvalidCondition")],0⟩,⟨7,za3,zcx, "InvalidText",[("at",1)],1,[(4,.inl 0),(0,.inr "InvalidText")],0⟩,⟨8,zaO,zb6, "InvalidAction",[("name",1),("part",2)],2,[(2,.inl 1),(1,.inl 0),(0,.inr "InvalidAction")],0⟩,⟨9,zaY,zco, "InvalidModel",[("part",1)],1,[(2,.inl 0),(0,.inr "InvalidModel")],0⟩,⟨10,za2,zcj, "InvalidState",[("at",1)],1,[(4,.inl 0),(0,.inr "InvalidState")],0⟩,⟨11,zaQ,zce, "InvalidSight",[],0,[(0,.inr "InvalidSight")],0⟩,⟨12,za7,zcB, "InvalidStep",[("at",1)],1,[(4,.inl 0),(0,.inr "InvalidStep")],0⟩,⟨13,zbO,zdh, "Blocked",[("name",1),("part",2)],2,[(2,.inl 1),(1,.inl 0),(0,.inr "Blocked")],0⟩,⟨14,zaM,zb2, "InvalidAnswer",[("given",1)],1,[(5,.inl 0),(0,.inr "InvalidAnswer")],0⟩,⟨15,zca,zd0, "Unseen",[("name",1)],1,[(1,.inl 0),(0,.inr "Unseen")],0⟩,⟨16,zaN,zb5, "InvalidPrices",[],0,[(0,.inr "InvalidPrices")],0⟩,⟨17,za6,zcA, "InvalidNote",[("name",1)],1,[(1,.inl 0),(0,.inr "InvalidNote")],0⟩,⟨18,za0,zch, "InvalidLimit",[("given",1)],1,[(5,.inl 0),(0,.inr "InvalidLimit")],0⟩,⟨19,zbT,zdB, "TooWide",[("most",1)],1,[(8,.inl 0),(0,.inr "TooWide")],0⟩,⟨20,zbj,zcG, "NotReached",[],0,[(0,.inr "NotReached")],0⟩,⟨21,zbS,zdo, "NotOpen",[],0,[(0,.inr "NotOpen")],0⟩,⟨22,zbD,zc0, "NotAlike",[],0,[(0,.inr "NotAlike")],0⟩,⟨23,zaK,zbW, "InvalidCommand",[],0,[(0,.inr "InvalidCommand")],0⟩,⟨24,zbl,zcX, "WrongKind",[("name",1)],1,[(1,.inl 0),(0,.inr "WrongKind")],0⟩,⟨25,zcq,zeT, "InUse",[("user",1)],1,[(6,.inl 0),(0,.inr "InUse")],0⟩,⟨26,zb7,zdQ, "Breaks",[("user",1),("why",2)],2,[(7,.inl 1),(6,.inl 0),(0,.inr "Breaks")],0⟩,⟨27,zbN,zdi, "Aborted",[("at",1),("why",2)],2,[(7,.inl 1),(4,.inl 0),(0,.inr "Aborted")],0⟩,⟨28,zcH,zfe, "Full",[("limit",1)],1,[(9,.inl 0),(0,.inr "Full")],0⟩,⟨29,zba,zcy, "InvalidPage",[("line",1)],1,[(10,.inl 0),(0,.inr "InvalidPage")],0⟩,⟨30,za4,zcv, "UnknownName",[("name",1)],1,[(1,.inl 0),(0,.inr "UnknownName")],1⟩]
 xns:=[⟨.ie,31,za8,zct, "code", "NothingLeft"⟩]
 kixs:=[((2,(.own 27)),false),((2,(.own 13)),false),((2,(.own 26)),false),((2,(.own 3)),false),((2,(.own 28)),false),((2,(.own 25)),false),((2,(.bt "IndexError")),false),((2,(.own 8)),false),((2,(.own 14)),false),((2,(.own 23)),false),((2,(.own 6)),false),((2,(.own 18)),false),((2,(.own 9)),false),((2,(.own 2)),true),((2,(.own 17)),false),((2,(.own 29)),false),((2,(.own 16)),false),((2,(.own 11)),false),((2,(.own 5)),false),((2,(.own 10)),false),((2,(.own 12)),false),((2,(.own 7)),false),((2,(.own 4)),false),((2,(.bt "KeyError")),false),((2,(.bt "LookupError")),false),((2,(.own 1)),false),((2,(.own 22)),false),((2,(.own 21)),false),((2,(.own 20)),false),((2,(.own 31)),false),((2,(.own 0)),true),((2,(.own 19)),false),((2,(.own 30)),false),((2,(.own 15)),false),((2,(.bt "ValueError")),true),((2,(.own 24)),false),((3,(.own 27)),false),((3,(.own 13)),false),((3,(.own 26)),false),((3,(.own 3)),true),((3,(.own 28)),false),((3,(.own 25)),false),((3,(.bt "IndexError")),false),((3,(.own 8)),false),((3,(.own 14)),false),((3,(.own 23)),false),((3,(.own 6)),false),((3,(.own 18)),false),((3,(.own 9)),false),((3,(.own 2)),false),((3,(.own 17)),false),((3,(.own 29)),false),((3,(.own 16)),false),((3,(.own 11)),false),((3,(.own 5)),false),((3,(.own 10)),false),((3,(.own 12)),false),((3,(.own 7)),false),((3,(.own 4)),false),((3,(.bt "KeyError")),false),((3,(.bt "LookupError")),false),((3,(.own 1)),false),((3,(.own 22)),false),((3,(.own 21)),false),((3,(.own 20)),false),((3,(.own 31)),false),((3,(.own 0)),true),((3,(.own 19)),false),((3,(.own 30)),false),((3,(.own 15)),false),((3,(.bt "ValueError")),true),((3,(.own 24)),false),((4,(.own 27)),false),((4,(.own 13)),false),((4,(.own 26)),false),((4,(.own 3)),false),((4,(.own 28)),false),((4,(.own 25)),false),((4,(.bt "IndexError")),false),((4,(.own 8)),false),((4,(.own 14)),false),((4,(.own 23)),false),((4,(.own 6)),false),((4,(.own 18)),false),((4,(.own 9)),false),((4,(.own 2)),false),((4,(.own 17)),false),((4,(.own 29)),false),((4,(.own 16)),false),((4,(.own 11)),false),((4,(.own 5)),false),((4,(.own 10)),false),((4,(.own 12)),false),((4,(.own 7)),false),((4,(.own 4)),true),((4,(.bt "KeyError")),false),((4,(.bt "LookupError")),false),((4,(.own 1)),false),((4,(.own 22)),false),((4,(.own 21)),false),((4,(.own 20)),false),((4,(.own 31)),false),((4,(.own 0)),true),((4,(.own 19)),false),((4,(.own 30)),false),((4,(.own 15)),false),((4,(.bt "ValueError")),true),((4,(.own 24)),false),((5,(.own 27)),false),((5,(.own 13)),false),((5,(.own 26)),false),((5,(.own 3)),false),((5,(.own 28)),false),((5,(.own 25)),false),((5,(.bt "IndexError")),false),((5,(.own 8)),false),((5,(.own 14)),false),((5,(.own 23)),false),((5,(.own 6)),false),((5,(.own 18)),false),((5,(.own 9)),false),((5,(.own 2)),false),((5,(.own 17)),false),((5,(.own 29)),false),((5,(.own 16)),false),((5,(.own 11)),false),((5,(.own 5)),true),((5,(.own 10)),false),((5,(.own 12)),false),((5,(.own 7)),false),((5,(.own 4)),false),((5,(.bt "KeyError")),false),((5,(.bt "LookupError")),false),((5,(.own 1)),false),((5,(.own 22)),false),((5,(.own 21)),false),((5,(.own 20)),false),((5,(.own 31)),false),((5,(.own 0)),true),((5,(.own 19)),false),((5,(.own 30)),false),((5,(.own 15)),false),((5,(.bt "ValueError")),true),((5,(.own 24)),false),((6,(.own 27)),false),((6,(.own 13)),false),((6,(.own 26)),false),((6,(.own 3)),false),((6,(.own 28)),false),((6,(.own 25)),false),((6,(.bt "IndexError")),false),((6,(.own 8)),false),((6,(.own 14)),false),((6,(.own 23)),false),((6,(.own 6)),true),((6,(.own 18)),false),((6,(.own 9)),false),((6,(.own 2)),false),((6,(.own 17)),false),((6,(.own 29)),false),((6,(.own 16)),false),((6,(.own 11)),false),((6,(.own 5)),false),((6,(.own 10)),false),((6,(.own 12)),false),((6,(.own 7)),false),((6,(.own 4)),false),((6,(.bt "KeyError")),false),((6,(.bt "LookupError")),false),((6,(.own 1)),false),((6,(.own 22)),false),((6,(.own 21)),false),((6,(.own 20)),false),((6,(.own 31)),false),((6,(.own 0)),true),((6,(.own 19)),false),((6,(.own 30)),false),((6,(.own 15)),false),((6,(.bt "ValueError")),true),((6,(.own 24)),false),((7,(.own 27)),false),((7,(.own 13)),false),((7,(.own 26)),false),((7,(.own 3)),false),((7,(.own 28)),false),((7,(.own 25)),false),((7,(.bt "IndexError")),false),((7,(.own 8)),false),((7,(.own 14)),false),((7,(.own 23)),false),((7,(.own 6)),false),((7,(.own 18)),false),((7,(.own 9)),false),((7,(.own 2)),false),((7,(.own 17)),false),((7,(.own 29)),false),((7,(.own 16)),false),((7,(.own 11)),false),((7,(.own 5)),false),((7,(.own 10)),false),((7,(.own 12)),false),((7,(.own 7)),true),((7,(.own 4)),false),((7,(.bt "KeyError")),false),((7,(.bt "LookupError")),false),((7,(.own 1)),false),((7,(.own 22)),false),((7,(.own 21)),false),((7,(.own 20)),false),((7,(.own 31)),false),((7,(.own 0)),true),((7,(.own 19)),false),((7,(.own 30)),false),((7,(.own 15)),false),((7,(.bt "ValueError")),true),((7,(.own 24)),false),((8,(.own 27)),false),((8,(.own 13)),false),((8,(.own 26)),false),((8,(.own 3)),false),((8,(.own 28)),false),((8,(.own 25)),false),((8,(.bt "IndexError")),false),((8,(.own 8)),true),((8,(.own 14)),false),((8,(.own 23)),false),((8,(.own 6)),false),((8,(.own 18)),false),((8,(.own 9)),false),((8,(.own 2)),false),((8,(.own 17)),false),((8,(.own 29)),false),((8,(.own 16)),false),((8,(.own 11)),false),((8,(.own 5)),false),((8,(.own 10)),false),((8,(.own 12)),false),((8,(.own 7)),false),((8,(.own 4)),false),((8,(.bt "KeyError")),false),((8,(.bt "LookupError")),false),((8,(.own 1)),false),((8,(.own 22)),false),((8,(.own 21)),false),((8,(.own 20)),false),((8,(.own 31)),false),((8,(.own 0)),true),((8,(.own 19)),false),((8,(.own 30)),false),((8,(.own 15)),false),((8,(.bt "ValueError")),true),((8,(.own 24)),false),((9,(.own 27)),false),((9,(.own 13)),false),((9,(.own 26)),false),((9,(.own 3)),false),((9,(.own 28)),false),((9,(.own 25)),false),((9,(.bt "IndexError")),false),((9,(.own 8)),false),((9,(.own 14)),false),((9,(.own 23)),false),((9,(.own 6)),false),((9,(.own 18)),false),((9,(.own 9)),true),((9,(.own 2)),false),((9,(.own 17)),false),((9,(.own 29)),false),((9,(.own 16)),false),((9,(.own 11)),false),((9,(.own 5)),false),((9,(.own 10)),false),((9,(.own 12)),false),((9,(.own 7)),false),((9,(.own 4)),false),((9,(.bt "KeyError")),false),((9,(.bt "LookupError")),false),((9,(.own 1)),false),((9,(.own 22)),false),((9,(.own 21)),false),((9,(.own 20)),false),((9,(.own 31)),false),((9,(.own 0)),true),((9,(.own 19)),false),((9,(.own 30)),false),((9,(.own 15)),false),((9,(.bt "ValueError")),true),((9,(.own 24)),false),((10,(.own 27)),false),((10,(.own 13)),false),((10,(.own 26)),false),((10,(.own 3)),false),((10,(.own 28)),false),((10,(.own 25)),false),((10,(.bt "IndexError")),false),((10,(.own 8)),false),((10,(.own 14)),false),((10,(.own 23)),false),((10,(.own 6)),false),((10,(.own 18)),false),((10,(.own 9)),false),((10,(.own 2)),false),((10,(.own 17)),false),((10,(.own 29)),false),((10,(.own 16)),false),((10,(.own 11)),false),((10,(.own 5)),false),((10,(.own 10)),true),((10,(.own 12)),false),((10,(.own 7)),false),((10,(.own 4)),false),((10,(.bt "KeyError")),false),((10,(.bt "LookupError")),false),((10,(.own 1)),false),((10,(.own 22)),false),((10,(.own 21)),false),((10,(.own 20)),false),((10,(.own 31)),false),((10,(.own 0)),true),((10,(.own 19)),false),((10,(.own 30)),false),((10,(.own 15)),false),((10,(.bt "ValueError")),true),((10,(.own 24)),false),((11,(.own 27)),false),((11,(.own 13)),false),((11,(.own 26)),false),((11,(.own 3)),false),((11,(.own 28)),false),((11,(.own 25)),false),((11,(.bt "IndexError")),false),((11,(.own 8)),false),((11,(.own 14)),false),((11,(.own 23)),false),((11,(.own 6)),false),((11,(.own 18)),false),((11,(.own 9)),false),((11,(.own 2)),false),((11,(.own 17)),false),((11,(.own 29)),false),((11,(.own 16)),false),((11,(.own 11)),true),((11,(.own 5)),false),((11,(.own 10)),false),((11,(.own 12)),false),((11,(.own 7)),false),((11,(.own 4)),false),((11,(.bt "KeyError")),false),((11,(.bt "LookupError")),false),((11,(.own 1)),false),((11,(.own 22)),false),((11,(.own 21)),false),((11,(.own 20)),false),((11,(.own 31)),false),((11,(.own 0)),true),((11,(.own 19)),false),((11,(.own 30)),false),((11,(.own 15)),false),((11,(.bt "ValueError")),true),((11,(.own 24)),false),((12,(.own 27)),false),((12,(.own 13)),false),((12,(.own 26)),false),((12,(.own 3)),false),((12,(.own 28)),false),((12,(.own 25)),false),((12,(.bt "IndexError")),false),((12,(.own 8)),false),((12,(.own 14)),false),((12,(.own 23)),false),((12,(.own 6)),false),((12,(.own 18)),false),((12,(.own 9)),false),((12,(.own 2)),false),((12,(.own 17)),false),((12,(.own 29)),false),((12,(.own 16)),false),((12,(.own 11)),false),((12,(.own 5)),false),((12,(.own 10)),false),((12,(.own 12)),true),((12,(.own 7)),false),((12,(.own 4)),false),((12,(.bt "KeyError")),false),((12,(.bt "LookupError")),false),((12,(.own 1)),false),((12,(.own 22)),false),((12,(.own 21)),false),((12,(.own 20)),false),((12,(.own 31)),false),((12,(.own 0)),true),((12,(.own 19)),false),((12,(.own 30)),false),((12,(.own 15)),false),((12,(.bt "ValueError")),true),((12,(.own 24)),false),((13,(.own 27)),false),((13,(.own 13)),true),((13,(.own 26)),false),((13,(.own 3)),false),((13,(.own 28)),false),((13,(.own 25)),false),((13,(.bt "IndexError")),false),((13,(.own 8)),false),((13,(.own 14)),false),((13,(.own 23)),false),((13,(.own 6)),false),((13,(.own 18)),false),((13,(.own 9)),false),((13,(.own 2)),false),((13,(.own 17)),false),((13,(.own 29)),false),((13,(.own 16)),false),((13,(.own 11)),false),((13,(.own 5)),false),((13,(.own 10)),false),((13,(.own 12)),false),((13,(.own 7)),false),((13,(.own 4)),false),((13,(.bt "KeyError")),false),((13,(.bt "LookupError")),false),((13,(.own 1)),false),((13,(.own 22)),false),((13,(.own 21)),false),((13,(.own 20)),false),((13,(.own 31)),false),((13,(.own 0)),true),((13,(.own 19)),false),((13,(.own 30)),false),((13,(.own 15)),false),((13,(.bt "ValueError")),true),((13,(.own 24)),false),((14,(.own 27)),false),((14,(.own 13)),false),((14,(.own 26)),false),((14,(.own 3)),false),((14,(.own 28)),false),((14,(.own 25)),false),((14,(.bt "IndexError")),false),((14,(.own 8)),false),((14,(.own 14)),true),((14,(.own 23)),false),((14,(.own 6)),false),((14,(.own 18)),false),((14,(.own 9)),false),((14,(.own 2)),false),((14,(.own 17)),false),((14,(.own 29)),false),((14,(.own 16)),false),((14,(.own 11)),false),((14,(.own 5)),false),((14,(.own 10)),false),((14,(.own 12)),false),((14,(.own 7)),false),((14,(.own 4)),false),((14,(.bt "KeyError")),false),((14,(.bt "LookupError")),false),((14,(.own 1)),false),((14,(.own 22)),false),((14,(.own 21)),false),((14,(.own 20)),false),((14,(.own 31)),false),((14,(.own 0)),true),((14,(.own 19)),false),((14,(.own 30)),false),((14,(.own 15)),false),((14,(.bt "ValueError")),true),((14,(.own 24)),false),((15,(.own 27)),false),((15,(.own 13)),false),((15,(.own 26)),false),((15,(.own 3)),false),((15,(.own 28)),false),((15,(.own 25)),false),((15,(.bt "IndexError")),false),((15,(.own 8)),false),((15,(.own 14)),false),((15,(.own 23)),false),((15,(.own 6)),false),((15,(.own 18)),false),((15,(.own 9)),false),((15,(.own 2)),false),((15,(.own 17)),false),((15,(.own 29)),false),((15,(.own 16)),false),((15,(.own 11)),false),((15,(.own 5)),false),((15,(.own 10)),false),((15,(.own 12)),false),((15,(.own 7)),false),((15,(.own 4)),false),((15,(.bt "KeyError")),false),((15,(.bt "LookupError")),false),((15,(.own 1)),false),((15,(.own 22)),false),((15,(.own 21)),false),((15,(.own 20)),false),((15,(.own 31)),false),((15,(.own 0)),true),((15,(.own 19)),false),((15,(.own 30)),false),((15,(.own 15)),true),((15,(.bt "ValueError")),true),((15,(.own 24)),false),((16,(.own 27)),false),((16,(.own 13)),false),((16,(.own 26)),false),((16,(.own 3)),false),((16,(.own 28)),false),((16,(.own 25)),false),((16,(.bt "IndexError")),false),((16,(.own 8)),false),((16,(.own 14)),false),((16,(.own 23)),false),((16,(.own 6)),false),((16,(.own 18)),false),((16,(.own 9)),false),((16,(.own 2)),false),((16,(.own 17)),false),((16,(.own 29)),false),((16,(.own 16)),true),((16,(.own 11)),false),((16,(.own 5)),false),((16,(.own 10)),false),((16,(.own 12)),false),((16,(.own 7)),false),((16,(.own 4)),false),((16,(.bt "KeyError")),false),((16,(.bt "LookupError")),false),((16,(.own 1)),false),((16,(.own 22)),false),((16,(.own 21)),false),((16,(.own 20)),false),((16,(.own 31)),false),((16,(.own 0)),true),((16,(.own 19)),false),((16,(.own 30)),false),((16,(.own 15)),false),((16,(.bt "ValueError")),true),((16,(.own 24)),false),((17,(.own 27)),false),((17,(.own 13)),false),((17,(.own 26)),false),((17,(.own 3)),false),((17,(.own 28)),false),((17,(.own 25)),false),((17,(.bt "IndexError")),false),((17,(.own 8)),false),((17,(.own 14)),false),((17,(.own 23)),false),((17,(.own 6)),false),((17,(.own 18)),false),((17,(.own 9)),false),((17,(.own 2)),false),((17,(.own 17)),true),((17,(.own 29)),false),((17,(.own 16)),false),((17,(.own 11)),false),((17,(.own 5)),false),((17,(.own 10)),false),((17,(.own 12)),false),((17,(.own 7)),false),((17,(.own 4)),false),((17,(.bt "KeyError")),false),((17,(.bt "LookupError")),false),((17,(.own 1)),false),((17,(.own 22)),false),((17,(.own 21)),false),((17,(.own 20)),false),((17,(.own 31)),false),((17,(.own 0)),true),((17,(.own 19)),false),((17,(.own 30)),false),((17,(.own 15)),false),((17,(.bt "ValueError")),true),((17,(.own 24)),false),((18,(.own 27)),false),((18,(.own 13)),false),((18,(.own 26)),false),((18,(.own 3)),false),((18,(.own 28)),false),((18,(.own 25)),false),((18,(.bt "IndexError")),false),((18,(.own 8)),false),((18,(.own 14)),false),((18,(.own 23)),false),((18,(.own 6)),false),((18,(.own 18)),true),((18,(.own 9)),false),((18,(.own 2)),false),((18,(.own 17)),false),((18,(.own 29)),false),((18,(.own 16)),false),((18,(.own 11)),false),((18,(.own 5)),false),((18,(.own 10)),false),((18,(.own 12)),false),((18,(.own 7)),false),((18,(.own 4)),false),((18,(.bt "KeyError")),false),((18,(.bt "LookupError")),false),((18,(.own 1)),false),((18,(.own 22)),false),((18,(.own 21)),false),((18,(.own 20)),false),((18,(.own 31)),false),((18,(.own 0)),true),((18,(.own 19)),false),((18,(.own 30)),false),((18,(.own 15)),false),((18,(.bt "ValueError")),true),((18,(.own 24)),false),((19,(.own 27)),false),((19,(.own 13)),false),((19,(.own 26)),false),((19,(.own 3)),false),((19,(.own 28)),false),((19,(.own 25)),false),((19,(.bt "IndexError")),false),((19,(.own 8)),false),((19,(.own 14)),false),((19,(.own 23)),false),((19,(.own 6)),false),((19,(.own 18)),false),((19,(.own 9)),false),((19,(.own 2)),false),((19,(.own 17)),false),((19,(.own 29)),false),((19,(.own 16)),false),((19,(.own 11)),false),((19,(.own 5)),false),((19,(.own 10)),false),((19,(.own 12)),false),((19,(.own 7)),false),((19,(.own 4)),false),((19,(.bt "KeyError")),false),((19,(.bt "LookupError")),false),((19,(.own 1)),false),((19,(.own 22)),false),((19,(.own 21)),false),((19,(.own 20)),false),((19,(.own 31)),false),((19,(.own 0)),true),((19,(.own 19)),true),((19,(.own 30)),false),((19,(.own 15)),false),((19,(.bt "ValueError")),true),((19,(.own 24)),false),((20,(.own 27)),false),((20,(.own 13)),false),((20,(.own 26)),false),((20,(.own 3)),false),((20,(.own 28)),false),((20,(.own 25)),false),((20,(.bt "IndexError")),false),((20,(.own 8)),false),((20,(.own 14)),false),((20,(.own 23)),false),((20,(.own 6)),false),((20,(.own 18)),false),((20,(.own 9)),false),((20,(.own 2)),false),((20,(.own 17)),false),((20,(.own 29)),false),((20,(.own 16)),false),((20,(.own 11)),false),((20,(.own 5)),false),((20,(.own 10)),false),((20,(.own 12)),false),((20,(.own 7)),false),((20,(.own 4)),false),((20,(.bt "KeyError")),false),((20,(.bt "LookupError")),false),((20,(.own 1)),false),((20,(.own 22)),false),((20,(.own 21)),false),((20,(.own 20)),true),((20,(.own 31)),false),((20,(.own 0)),true),((20,(.own 19)),false),((20,(.own 30)),false),((20,(.own 15)),false),((20,(.bt "ValueError")),true),((20,(.own 24)),false),((21,(.own 27)),false),((21,(.own 13)),false),((21,(.own 26)),false),((21,(.own 3)),false),((21,(.own 28)),false),((21,(.own 25)),false),((21,(.bt "IndexError")),false),((21,(.own 8)),false),((21,(.own 14)),false),((21,(.own 23)),false),((21,(.own 6)),false),((21,(.own 18)),false),((21,(.own 9)),false),((21,(.own 2)),false),((21,(.own 17)),false),((21,(.own 29)),false),((21,(.own 16)),false),((21,(.own 11)),false),((21,(.own 5)),false),((21,(.own 10)),false),((21,(.own 12)),false),((21,(.own 7)),false),((21,(.own 4)),false),((21,(.bt "KeyError")),false),((21,(.bt "LookupError")),false),((21,(.own 1)),false),((21,(.own 22)),false),((21,(.own 21)),true),((21,(.own 20)),false),((21,(.own 31)),false),((21,(.own 0)),true),((21,(.own 19)),false),((21,(.own 30)),false),((21,(.own 15)),false),((21,(.bt "ValueError")),true),((21,(.own 24)),false),((22,(.own 27)),false),((22,(.own 13)),false),((22,(.own 26)),false),((22,(.own 3)),false),((22,(.own 28)),false),((22,(.own 25)),false),((22,(.bt "IndexError")),false),((22,(.own 8)),false),((22,(.own 14)),false),((22,(.own 23)),false),((22,(.own 6)),false),((22,(.own 18)),false),((22,(.own 9)),false),((22,(.own 2)),false),((22,(.own 17)),false),((22,(.own 29)),false),((22,(.own 16)),false),((22,(.own 11)),false),((22,(.own 5)),false),((22,(.own 10)),false),((22,(.own 12)),false),((22,(.own 7)),false),((22,(.own 4)),false),((22,(.bt "KeyError")),false),((22,(.bt "LookupError")),false),((22,(.own 1)),false),((22,(.own 22)),true),((22,(.own 21)),false),((22,(.own 20)),false),((22,(.own 31)),false),((22,(.own 0)),true),((22,(.own 19)),false),((22,(.own 30)),false),((22,(.own 15)),false),((22,(.bt "ValueError")),true),((22,(.own 24)),false),((23,(.own 27)),false),((23,(.own 13)),false),((23,(.own 26)),false),((23,(.own 3)),false),((23,(.own 28)),false),((23,(.own 25)),false),((23,(.bt "IndexError")),false),((23,(.own 8)),false),((23,(.own 14)),false),((23,(.own 23)),true),((23,(.own 6)),false),((23,(.own 18)),false),((23,(.own 9)),false),((23,(.own 2)),false),((23,(.own 17)),false),((23,(.own 29)),false),((23,(.own 16)),false),((23,(.own 11)),false),((23,(.own 5)),false),((23,(.own 10)),false),((23,(.own 12)),false),((23,(.own 7)),false),((23,(.own 4)),false),((23,(.bt "KeyError")),false),((23,(.bt "LookupError")),false),((23,(.own 1)),false),((23,(.own 22)),false),((23,(.own 21)),false),((23,(.own 20)),false),((23,(.own 31)),false),((23,(.own 0)),true),((23,(.own 19)),false),((23,(.own 30)),false),((23,(.own 15)),false),((23,(.bt "ValueError")),true),((23,(.own 24)),false),((24,(.own 27)),false),((24,(.own 13)),false),((24,(.own 26)),false),((24,(.own 3)),false),((24,(.own 28)),false),((24,(.own 25)),false),((24,(.bt "IndexError")),false),((24,(.own 8)),false),((24,(.own 14)),false),((24,(.own 23)),false),((24,(.own 6)),false),((24,(.own 18)),false),((24,(.own 9)),false),((24,(.own 2)),false),((24,(.own 17)),false),((24,(.own 29)),false),((24,(.own 16)),false),((24,(.own 11)),false),((24,(.own 5)),false),((24,(.own 10)),false),((24,(.own 12)),false),((24,(.own 7)),false),((24,(.own 4)),false),((24,(.bt "KeyError")),false),((24,(.bt "LookupError")),false),((24,(.own 1)),false),((24,(.own 22)),false),((24,(.own 21)),false),((24,(.own 20)),false),((24,(.own 31)),false),((24,(.own 0)),true),((24,(.own 19)),false),((24,(.own 30)),false),((24,(.own 15)),false),((24,(.bt "ValueError")),true),((24,(.own 24)),true),((25,(.own 27)),false),((25,(.own 13)),false),((25,(.own 26)),false),((25,(.own 3)),false),((25,(.own 28)),false),((25,(.own 25)),true),((25,(.bt "IndexError")),false),((25,(.own 8)),false),((25,(.own 14)),false),((25,(.own 23)),false),((25,(.own 6)),false),((25,(.own 18)),false),((25,(.own 9)),false),((25,(.own 2)),false),((25,(.own 17)),false),((25,(.own 29)),false),((25,(.own 16)),false),((25,(.own 11)),false),((25,(.own 5)),false),((25,(.own 10)),false),((25,(.own 12)),false),((25,(.own 7)),false),((25,(.own 4)),false),((25,(.bt "KeyError")),false),((25,(.bt "LookupError")),false),((25,(.own 1)),false),((25,(.own 22)),false),((25,(.own 21)),false),((25,(.own 20)),false),((25,(.own 31)),false),((25,(.own 0)),true),((25,(.own 19)),false),((25,(.own 30)),false),((25,(.own 15)),false),((25,(.bt "ValueError")),true),((25,(.own 24)),false),((26,(.own 27)),false),((26,(.own 13)),false),((26,(.own 26)),true),((26,(.own 3)),false),((26,(.own 28)),false),((26,(.own 25)),false),((26,(.bt "IndexError")),false),((26,(.own 8)),false),((26,(.own 14)),false),((26,(.own 23)),false),((26,(.own 6)),false),((26,(.own 18)),false),((26,(.own 9)),false),((26,(.own 2)),false),((26,(.own 17)),false),((26,(.own 29)),false),((26,(.own 16)),false),((26,(.own 11)),false),((26,(.own 5)),false),((26,(.own 10)),false),((26,(.own 12)),false),((26,(.own 7)),false),((26,(.own 4)),false),((26,(.bt "KeyError")),false),((26,(.bt "LookupError")),false),((26,(.own 1)),false),((26,(.own 22)),false),((26,(.own 21)),false),((26,(.own 20)),false),((26,(.own 31)),false),((26,(.own 0)),true),((26,(.own 19)),false),((26,(.own 30)),false),((26,(.own 15)),false),((26,(.bt "ValueError")),true),((26,(.own 24)),false),((27,(.own 27)),true),((27,(.own 13)),false),((27,(.own 26)),false),((27,(.own 3)),false),((27,(.own 28)),false),((27,(.own 25)),false),((27,(.bt "IndexError")),false),((27,(.own 8)),false),((27,(.own 14)),false),((27,(.own 23)),false),((27,(.own 6)),false),((27,(.own 18)),false),((27,(.own 9)),false),((27,(.own 2)),false),((27,(.own 17)),false),((27,(.own 29)),false),((27,(.own 16)),false),((27,(.own 11)),false),((27,(.own 5)),false),((27,(.own 10)),false),((27,(.own 12)),false),((27,(.own 7)),false),((27,(.own 4)),false),((27,(.bt "KeyError")),false),((27,(.bt "LookupError")),false),((27,(.own 1)),false),((27,(.own 22)),false),((27,(.own 21)),false),((27,(.own 20)),false),((27,(.own 31)),false),((27,(.own 0)),true),((27,(.own 19)),false),((27,(.own 30)),false),((27,(.own 15)),false),((27,(.bt "ValueError")),true),((27,(.own 24)),false),((28,(.own 27)),false),((28,(.own 13)),false),((28,(.own 26)),false),((28,(.own 3)),false),((28,(.own 28)),true),((28,(.own 25)),false),((28,(.bt "IndexError")),false),((28,(.own 8)),false),((28,(.own 14)),false),((28,(.own 23)),false),((28,(.own 6)),false),((28,(.own 18)),false),((28,(.own 9)),false),((28,(.own 2)),false),((28,(.own 17)),false),((28,(.own 29)),false),((28,(.own 16)),false),((28,(.own 11)),false),((28,(.own 5)),false),((28,(.own 10)),false),((28,(.own 12)),false),((28,(.own 7)),false),((28,(.own 4)),false),((28,(.bt "KeyError")),false),((28,(.bt "LookupError")),false),((28,(.own 1)),false),((28,(.own 22)),false),((28,(.own 21)),false),((28,(.own 20)),false),((28,(.own 31)),false),((28,(.own 0)),true),((28,(.own 19)),false),((28,(.own 30)),false),((28,(.own 15)),false),((28,(.bt "ValueError")),true),((28,(.own 24)),false),((29,(.own 27)),false),((29,(.own 13)),false),((29,(.own 26)),false),((29,(.own 3)),false),((29,(.own 28)),false),((29,(.own 25)),false),((29,(.bt "IndexError")),false),((29,(.own 8)),false),((29,(.own 14)),false),((29,(.own 23)),false),((29,(.own 6)),false),((29,(.own 18)),false),((29,(.own 9)),false),((29,(.own 2)),false),((29,(.own 17)),false),((29,(.own 29)),true),((29,(.own 16)),false),((29,(.own 11)),false),((29,(.own 5)),false),((29,(.own 10)),false),((29,(.own 12)),false),((29,(.own 7)),false),((29,(.own 4)),false),((29,(.bt "KeyError")),false),((29,(.bt "LookupError")),false),((29,(.own 1)),false),((29,(.own 22)),false),((29,(.own 21)),false),((29,(.own 20)),false),((29,(.own 31)),false),((29,(.own 0)),true),((29,(.own 19)),false),((29,(.own 30)),false),((29,(.own 15)),false),((29,(.bt "ValueError")),true),((29,(.own 24)),false),((30,(.own 27)),false),((30,(.own 13)),false),((30,(.own 26)),false),((30,(.own 3)),false),((30,(.own 28)),false),((30,(.own 25)),false),((30,(.bt "IndexError")),false),((30,(.own 8)),false),((30,(.own 14)),false),((30,(.own 23)),false),((30,(.own 6)),false),((30,(.own 18)),false),((30,(.own 9)),false),((30,(.own 2)),false),((30,(.own 17)),false),((30,(.own 29)),false),((30,(.own 16)),false),((30,(.own 11)),false),((30,(.own 5)),false),((30,(.own 10)),false),((30,(.own 12)),false),((30,(.own 7)),false),((30,(.own 4)),false),((30,(.bt "KeyError")),false),((30,(.bt "LookupError")),true),((30,(.own 1)),true),((30,(.own 22)),false),((30,(.own 21)),false),((30,(.own 20)),false),((30,(.own 31)),false),((30,(.own 0)),false),((30,(.own 19)),false),((30,(.own 30)),true),((30,(.own 15)),false),((30,(.bt "ValueError")),false),((30,(.own 24)),false),((31,(.own 27)),false),((31,(.own 13)),false),((31,(.own 26)),false),((31,(.own 3)),false),((31,(.own 28)),false),((31,(.own 25)),false),((31,(.bt "IndexError")),true),((31,(.own 8)),false),((31,(.own 14)),false),((31,(.own 23)),false),((31,(.own 6)),false),((31,(.own 18)),false),((31,(.own 9)),false),((31,(.own 2)),false),((31,(.own 17)),false),((31,(.own 29)),false),((31,(.own 16)),false),((31,(.own 11)),false),((31,(.own 5)),false),((31,(.own 10)),false),((31,(.own 12)),false),((31,(.own 7)),false),((31,(.own 4)),false),((31,(.bt "KeyError")),false),((31,(.bt "LookupError")),true),((31,(.own 1)),false),((31,(.own 22)),false),((31,(.own 21)),false),((31,(.own 20)),false),((31,(.own 31)),true),((31,(.own 0)),false),((31,(.own 19)),false),((31,(.own 30)),false),((31,(.own 15)),false),((31,(.bt "ValueError")),false),((31,(.own 24)),false)]
 xats:=[(2,1),(2,0),(3,1),(3,0),(4,0),(5,1),(5,0),(6,3),(6,0),(7,4),(7,0),(8,1),(8,2),(8,0),(9,2),(9,0),(10,4),(10,0),(11,0),(12,4),(12,0),(13,1),(13,2),(13,0),(14,5),(14,0),(15,1),(15,0),(16,0),(17,1),(17,0),(18,5),(18,0),(19,8),(19,0),(20,0),(21,0),(22,0),(23,0),(24,1),(24,0),(25,6),(25,0),(26,6),(26,7),(26,0),(27,4),(27,7),(27,0),(28,9),(28,0),(29,10),(29,0),(30,1),(30,0),(31,0),(0,0),(1,0)]
 xvb:=true
 ncode:=0
def nms0:List PySem.Str:=["__name__", "SightError", "Missing", "InvalidName", "DuplicateName", "InvalidWords", "InvalidSlot", "InvalidCondition", "InvalidText", "InvalidAction", "InvalidModel", "InvalidState", "InvalidSight", "InvalidStep", "Blocked", "InvalidAnswer", "Unseen", "InvalidPrices", "InvalidNote", "InvalidLimit", "TooWide", "NotReached", "NotOpen", "NotAlike", "InvalidCommand"]
def nms1:List PySem.Str:=["WrongKind", "InUse", "Breaks", "Aborted", "Full", "InvalidPage", "UnknownName", "NothingLeft", "_law_field", "_law_draws", "_law_pull", "_law_any", "_law_mixed", "_law_like", "_law_far", "_law_flags", "_law_bases", "_law_codes", "_law_errors"]
def nms:List PySem.Str:=nms0++nms1
abbrev RL:PySem.W.OpenRow:=PySem.W.OpenLaw.row PySem.Challenge.rw_samesight_k01_errors_by_themselves
def xds:List He.DefD:=[zbf,zbU,za9,zaP,zaT,za5,zaF,za3,zaO,zaY,za2,zaQ,za7,zbO,zaM,zca,zaN,za6,za0,zbT,zbj,zbS,zbD,zaK,zbl,zcq,zb7,zbN,zcH,zba,za4,za8]
def fnl:List He.DefD:=(R.fns.zipIdx.filter fun z=>(R.sfns.lookup z.2).isNone&&!R.pfns.contains z.2).map (fun z=>z.1.2.1)++xds
def exA:PySem.W.Frag→Bool:=rowK R
def exC:PySem.W.Frag→Bool:=rowX R
abbrev exB:PySem.W.Frag→Bool:=fun K=>exA K&&exC K
def tfs:List He.Defn:=[]
def fns:List (Bool×He.DefD):=(R.fns.zipIdx.filter fun z=>(R.sfns.lookup z.2).isSome||R.pfns.contains z.2).map fun z=>(R.pfns.contains z.2,z.1.2.1)
def adr0:List Addr:=[3,31,30,51,50,71,70,90,89,109,108,128,127,147,146,166,165,185,184,204,203,223,222,242,241,261,260,280,279,299,298,318,317,337,336,356,355,375,374,394,393,413,412,432,431,451,450,470,469,489,488,508,507,527,526,546,545,565,564,584]
def adr1:List Addr:=[583,603,602,622,621,632,631,639,638,646,645,653,652,660,659,665,664,672,671,679,678,686,685,693,692,700,699,705,704,28,27,48,47,68,67,87,86,106,105,125,124,144,143,163,162,182,181,201,200,220,219,239,238,258,257,277,276,296,295,315]
def adr2:List Addr:=[314,334,333,353,352,372,371,391,390,410,409,429,428,448,447,467,466,486,485,505,504,524,523,543,542,562,561,581,580,600,599,619,618,630,637,644,651,658,663,670,677,684,691,698,703,26,46,66,85,104,123,142,161,180,199,218,237,256,275,294]
def adr3:List Addr:=[313,332,351,370,389,408,427,446,465,484,503,522,541,560,579,598,617,6,4,0,29,32,49,52,69,88,107,126,145,164,183,202,221,240,259,278,297,316,335,354,373,392,411,430,449,468,487,506,525,544,563,582,601,620,623,626,628,629,633,635]
def adr4:List Addr:=[636,640,642,643,647,649,650,654,656,657,661,666,668,669,673,675,676,680,682,683,687,689,690,694,696,697,701,22,24,25,42,44,45,62,64,65,81,83,84,100,102,103,119,121,122,138,140,141,157,159,160,176,178,179,195,197,198,214,216,217]
def adr5:List Addr:=[233,235,236,252,254,255,271,273,274,290,292,293,309,311,312,328,330,331,347,349,350,366,368,369,385,387,388,404,406,407,423,425,426,442,444,445,461,463,464,480,482,483,499,501,502,518,520,521,537,539,540,556,558,559,575,577,578,594,596,597]
def adr6:List Addr:=[613,615,616,2]
def adr:List Addr:=adr0++adr1++adr2++adr3++adr4++adr5++adr6
abbrev hk:PySem.W.Hook:=zmC adr [.glo "law"] fnl fns R.tabs tfs exB
def ob (s:PySem.W.SharedT):AlM:=obsM adr [.glo "law"] fnl fns R.tabs tfs exB (HandSHeadRun.getT s)
theorem zr5 (s:PySem.W.SharedT):ob s=hk.obs s.abs:=zoa (HandSHeadRun.getT_eq s)
theorem run3 (w:World):pAB RL adr [.glo "law"] (fnl.take 22) (fnl.drop 22) R.tabs 8250 w:=fun os=>by kernel_rfl
theorem run5 (w:World):pLG RL (PySem.W.view RL.prog [45]) adr (zmO R) 8250 nms w:=fun os=>by kernel_rfl
theorem run4 (w:World):pED RL adr (zlK R) exC fns tfs 8250 w:=fun os=>by kernel_rfl
theorem runl (w:World):zmB RL (PySem.W.view RL.prog [45]) 8250 nms w:=(run5 w).l
theorem runa (w:World):znt RL adr [.glo "law"] (fnl.take 22) R.tabs 8250 w:=(run3 w).a
theorem runb (w:World):zmw RL adr (fnl.drop 22) 8250 w:=(run3 w).b
theorem rune (w:World):pEx RL adr (zlK R) 8250 w:=(run4 w).e
theorem rung (w:World):pEx RL adr (zmO R) 8250 w:=(run5 w).g
theorem rund (w:World):pSc RL adr exC fns tfs 8250 w:=(run4 w).d
theorem runc (w:World):pEx RL adr exA 8250 w:=by
 unfold exA
 rw [zlg]
 exact zmF (rune w) (rung w)
theorem run (w:World):HandSHeadRun.RunEq RL (PySem.W.view RL.prog [45]) hk ob 8250 nms w:=zjO 22 (runl w) (runa w) (runb w) (runc w) (rund w)
end Row
section
set_option maxHeartbeats 0
open PySem PySem.W PySem.Calls PyProof.Rows
theorem Row.hdTop (hc:WalkO (view (OpenLaw.row PySem.Challenge.rw_samesight_k01_errors_by_themselves).prog [45]) Row.nms (XL (view (OpenLaw.row PySem.Challenge.rw_samesight_k01_errors_by_themselves).prog [45]) []) Row.hk.says (OpenLaw.row PySem.Challenge.rw_samesight_k01_errors_by_themselves).toRowW (HandSHeadRun.topDef (OpenLaw.row PySem.Challenge.rw_samesight_k01_errors_by_themselves).prog 45) [] fun f vs=>call f vs):PySem.Challenge.rw_samesight_k01_errors_by_themselves.Holds:=by
 w_on; o_law
 refine HandSHeadRun.head_any (r:=OpenLaw.row PySem.Challenge.rw_samesight_k01_errors_by_themselves) (q:=view (OpenLaw.row PySem.Challenge.rw_samesight_k01_errors_by_themselves).prog [45]) (H:=Row.hk) (ob:=Row.ob) (M:=8250) (loose:=Row.nms) (d:=HandSHeadRun.topDef (OpenLaw.row PySem.Challenge.rw_samesight_k01_errors_by_themselves).prog 45) (kwd:=[]) Row.zr5
  (by kernel_rfl) (fun s=>by kernel_rfl) Row.run (by kernel_rfl) (by kernel_rfl) (by kernel_rfl) (by rfl) (by first | assumption | decide +kernel) (by decide +kernel) ⟨rfl,rfl,rfl,rfl,rfl,by decide +kernel⟩ ?hw ?hc
 case hw=>w_witness2
 case hc=>exact hc
end
namespace Row
open PySem PySem.Spec PyProof.Rows L2 Mi
theorem ok:R.ok=true:=by decide +kernel
theorem xok:R.xok=true:=by decide +kernel
theorem zgr:zcn.dfl=zcm zeI:=by kernel_rfl
theorem zgx:zbn.dfl=zcm zeH:=by kernel_rfl
theorem zhj:zbP.dfl=zcm zfa:=by kernel_rfl
theorem zhG:zcf.dfl=zcm zgf:=by kernel_rfl
theorem zgB:zbr.dfl=zcm zeP:=by kernel_rfl
theorem zhn:zbM.dfl=zcm ze7:=by kernel_rfl
theorem zhD:zcc.dfl=zcm zgg:=by kernel_rfl
theorem zgR:zbp.dfl=zcm zeA:=by kernel_rfl
theorem zgm:zbo.dfl=zcm zeL:=by kernel_rfl
theorem zgS:zdp.dfl=zcm zeB:=by kernel_rfl
theorem zfD:zbe.dfl=zcm zdu:=by kernel_rfl
theorem zoL:zhA.dfl=zcm znO:=by kernel_rfl
theorem dfl:∀z∈R.fns,z.1.dfl=zcm z.2.1:=by
 intro z hz
 simp only [R,List.mem_cons,List.not_mem_nil,or_false] at hz
 rcases hz with rfl | rfl | rfl | rfl | rfl | rfl | rfl | rfl | rfl | rfl | rfl | rfl
 ·exact zgr
 ·exact zgx
 ·exact zhj
 ·exact zhG
 ·exact zgB
 ·exact zhn
 ·exact zhD
 ·exact zgR
 ·exact zgm
 ·exact zgS
 ·exact zfD
 ·exact zoL
end Row
end
section
set_option maxHeartbeats 4000000
namespace Mi
open PySem PySem.Spec PyProof.Rows L2
section
variable {P:Program} {w:World} {K:PySem.W.Frag} {H H':Hp} {h:Heap} {a b:Addr}
inductive NKV (K:PySem.W.Frag) (H:Hp):NestedKey→V→Prop
 | none:NKV K H .none .non
 | bl (b:Bool):NKV K H (.num (if b=true then 1 else 0)) (.bl b)
 | int (i:Int):NKV K H (.num i) (.int i)
 | str (x:Str):NKV K H (.text x) (.str x)
 | tup {ks:List NestedKey} {vs:List V} {a:Addr} (h:SqT K H a vs) (l:ks.length=vs.length) (r:∀(i:Nat) (k:NestedKey) (v:V),ks[i]?=some k→vs[i]?=some v→NKV K H k v):NKV K H (.tup ks) (.ref a)
theorem zeK {h:Heap}:∀ {ks:List NestedKey} {us:List Value},ks.length=us.length→(∀(i:Nat) (k:NestedKey) (u:Value),ks[i]?=some k→us[i]?=some u→NestedIs h k u)→NestedAll h ks us
 | [],[],_,_=>.nil
 | [],_::_,l,_=>by cases l
 | _::_,[],l,_=>by cases l
 | k::ks,u::us,l,r=>.cons (r 0 k u rfl rfl) (zeK (by simpa using l) fun i k' u' e1 e2=>r (i+1) k' u' (by simpa using e1) (by simpa using e2))
theorem zkx:∀ {vs:List V} {us:List Value} {i:Nat} {u:Value},Vals vs us→us[i]?=some u→∃v,vs[i]?=some v∧RelV v u
 | _,_,i,u,.nil,e=>by simp at e
 | _,_,0,u,.cons h r,e=>by
  simp only [List.getElem?_cons_zero,Option.some.injEq] at e
  subst e
  exact ⟨_,rfl,h⟩
 | _,_,i+1,u,.cons h r,e=>by
  simp only [List.getElem?_cons_succ] at e ⊢
  exact zkx r e
theorem zij:∀ {vs:List V} {us:List Value},Vals vs us→vs.length=us.length
 | _,_,.nil=>rfl
 | _,_,.cons h r=>congrArg (·+1) (zij r)
theorem NKV.is (ok:HOk P w H h) (KX:K.In h) {k:NestedKey} {v:V} (n:NKV K H k v):∀ {u:Value},RelV v u→NestedIs h k u:=by
 induction n with
 | none=>
  intro u r
  obtain rfl:u=Value.none:=r
  exact .none
 | bl b=>
  intro u r
  obtain rfl:u=Value.bool b:=r
  exact .bool rfl
 | int i=>
  intro u r
  obtain ⟨t,rfl⟩:∃t,u=Value.int i t:=r
  exact .int i t
 | str x=>
  intro u r
  obtain ⟨t,rfl⟩:∃t,u=Value.str x t:=r
  exact .text x t
 | @tup ks vs a q l r ih=>
  intro u ru
  obtain rfl:u=Value.ref a:=ru
  obtain ⟨its,o,n,r1,h1,h2,h3⟩:=sqT_at ok KX q
  refine .tup h1 h2 h3 (zeK ?_ fun i k u e1 e2=>?_)
  ·rw [l,zij r1]
  ·have e2:its[i]?=some u:=e2
   obtain ⟨v,e3,rv⟩:=zkx r1 e2
   exact ih i k v e1 e3 rv
inductive KN:List (NestedKey×Addr×V)→List (NestedKey×Addr×Value)→Prop
 | nil:KN [] []
 | cons {k:NestedKey} {b:Addr} {v:V} {u:Value} {xs:List (NestedKey×Addr×V)} {ys:List (NestedKey×Addr×Value)} (h:RelV v u) (r:KN xs ys):KN ((k,b,v)::xs) ((k,b,u)::ys)
theorem KN.length {xs:List (NestedKey×Addr×V)} {ys:List (NestedKey×Addr×Value)} (h:KN xs ys):xs.length=ys.length:=by
 induction h with
 | nil=>rfl
 | cons h r ih=>simp [ih]
theorem KN.keys {xs:List (NestedKey×Addr×V)} {ys:List (NestedKey×Addr×Value)} (h:KN xs ys):xs.map (·.1)=ys.map (·.1):=by
 induction h with
 | nil=>rfl
 | cons h r ih=>simp [ih]
theorem KN.mem {xs:List (NestedKey×Addr×V)} {ys:List (NestedKey×Addr×Value)} (h:KN xs ys):∀y∈ys,∃x∈xs,x.1=y.1∧x.2.1=y.2.1:=by
 induction h with
 | nil=>exact fun y hy=>by cases hy
 | cons h r ih=>
  intro y hy
  rcases List.mem_cons.mp hy with rfl | hy
  ·exact ⟨_,List.mem_cons_self ..,rfl,rfl⟩
  ·obtain ⟨x,hx,e⟩:=ih y hy
   exact ⟨x,List.mem_cons_of_mem _ hx,e⟩
def valN (xs:List (NestedKey×Addr×V)) (k:NestedKey):Option V:=(xs.find? fun x=>decide (x.1=k)).map (·.2.2)
def zev (xs:List (NestedKey×Addr×V)) (k:NestedKey) (b:Addr) (v:V):List (NestedKey×Addr×V):=
 if (valN xs k).isSome then xs.map fun x=>if x.1=k then (x.1,x.2.1,v) else x else xs++[(k,b,v)]
theorem KN.val {xs:List (NestedKey×Addr×V)} {ys:List (NestedKey×Addr×Value)} (h:KN xs ys) (k:NestedKey):(valN xs k=none∧atKey ys k=none)∨∃v b u,valN xs k=some v∧atKey ys k=some (b,u)∧RelV v u:=by
 induction h with
 | nil=>exact .inl ⟨rfl,rfl⟩
 | @cons k' b v u xs ys h r ih=>
  unfold valN atKey at ih ⊢
  rw [List.find?_cons,List.find?_cons]
  by_cases e:k'=k
  ·simp only [e,decide_true,Option.map_some]
   exact .inr ⟨v,b,u,rfl,rfl,h⟩
  ·simp only [e,decide_false]
   exact ih
theorem KN.repl {xs:List (NestedKey×Addr×V)} {ys:List (NestedKey×Addr×Value)} (h:KN xs ys) (k:NestedKey) {v:V} {u:Value} (rv:RelV v u):KN (xs.map fun x=>if x.1=k then (x.1,x.2.1,v) else x) (ys.map (putAt k u)):=by
 induction h with
 | nil=>exact .nil
 | @cons k' b v' u' xs ys h r ih=>
  simp only [List.map_cons,putAt]
  by_cases e:k'=k
  ·simp only [e,if_true]
   exact .cons rv ih
  ·simp only [e,if_false]
   exact .cons h ih
theorem KN.app {xs xs':List (NestedKey×Addr×V)} {ys ys':List (NestedKey×Addr×Value)} (h:KN xs ys) (h':KN xs' ys'):KN (xs++xs') (ys++ys'):=by
 induction h with
 | nil=>exact h'
 | cons h r ih=>exact .cons h ih
theorem KN.put {xs:List (NestedKey×Addr×V)} {ys:List (NestedKey×Addr×Value)} (h:KN xs ys) (k:NestedKey) (b:Addr) {v:V} {u:Value} (rv:RelV v u):KN (zev xs k b v) (storedH ys k b u):=by
 unfold zev storedH
 rcases h.val k with ⟨e1,e2⟩ | ⟨v',b',u',e1,e2,_⟩
 ·simp only [e1,e2,Option.isSome_none,Bool.false_eq_true,if_false]
  exact h.app (.cons rv .nil)
 ·simp only [e1,e2,Option.isSome_some,if_true]
  exact h.repl k rv
def DN (w:World) (a:Addr) (xs:List (NestedKey×Addr×V)):HO:=.ext fun h=>(a==sysModules)=false∧∃ys,KN xs ys∧∃(o:Obj) (es:Array DictEntry) (ep:Nat),h.get? a=some o∧o.ExactDict∧o.data=.dict es ep∧es.toList=ys.map fun x=>(⟨x.1.hash w,.ref x.2.1,x.2.2⟩:DictEntry)
structure NdOk (K:PySem.W.Frag) (H:Hp) (a:Addr) (xs:List (NestedKey×Addr×V)):Prop where
 nd:(xs.map (·.1)).Nodup
 sz:xs.length≤sizeLine
 ks:∀x∈xs,NKV K H x.1 (.ref x.2.1)∧x.1.depth≤8
theorem zsa {xs:List (NestedKey×Addr×V)} (ok:HOk P w H h) (KX:K.In h) (e:H a=some (DN w a xs)) (n:NdOk K H a xs):(a==sysModules)=false∧∃ys,KN xs ys∧h.DictOfH (nestedKind P w) a ys:=by
 have z:=show ObjOk P w H h a (DN w a xs) from ok a _ e
 obtain ⟨⟨hd,ys,kn,o,es,ep,h1,h2,h3,h4⟩,_,_⟩:=z
 refine ⟨hd,ys,kn,o,es,ep,h1,h2,h3,h4,fun y hy=>?_,by rw [← kn.keys]; exact n.nd⟩
 obtain ⟨x,hx,e1,e2⟩:=kn.mem y hy
 obtain ⟨k1,k2⟩:=n.ks x hx
 refine ⟨?_,by rw [← e1]; exact k2⟩
 rw [← e1, ← e2]
 exact k1.is ok KX rfl
theorem zph {xs:List (NestedKey×Addr×V)} {ys:List (NestedKey×Addr×Value)} (hd:(a==sysModules)=false) (kn:KN xs ys) (d:h.DictOfH (nestedKind P w) a ys):ObjOk P w H' h a (DN w a xs):=by
 obtain ⟨o,es,ep,h1,h2,h3,h4,_,_⟩:=d
 refine ⟨⟨hd,ys,kn,o,es,ep,h1,h2,h3,h4⟩,⟨o,h1⟩,fun g1 g2 ⟨hd,zs,kz,o',es',ep',q1,q2,q3,q4⟩ st=>⟨hd,zs,kz,o',es',ep',st _ q1,q2,q3,q4⟩⟩
theorem zjX {xs:List (NestedKey×Addr×V)} {k:NestedKey} {b:Addr} {v:V}:(zev xs k b v).length≤xs.length+1:=by
 unfold zev
 split
 ·rw [List.length_map]; omega
 ·simp
end
section
variable {X:Cx} {pins:List (Addr×Obj)} {σ:L2.St} {H:Hp} {s:Shared} {a b:Addr} {v:V} {r:Value} {A:Around} {E:Value→Shared→Prop} {xs:List (NestedKey×Addr×V)} {k:NestedKey}
theorem zjN (hu:X.A.units+65 < cLine):(nestedKind X.prog X.w).room X.A.in1:=by
 show X.A.units+1+8 < cLine
 omega
theorem ziP {Q:Unit→Shared→Prop} (hu:X.A.units+65 < cLine) (I:Inv X pins σ H s) (e:H a=some (DN X.w a xs)) (n:NdOk X.K H a xs) (nk:NKV X.K H k (.ref b)) (kd:k.depth≤8) (rv:RelV v r) (h:∀s',Inv X pins σ (upd H a (DN X.w a (zev xs k b v))) s'→Q () s'):
  wpAny (model X.prog X.w) X.A (setItem (.ref a) (.ref b) r) Q E s:=by
 obtain ⟨hd,ys,kn,d⟩:=zsa I.hok I.kIn e n
 have hz:ys.length≤sizeLine:=by rw [← kn.length]; exact n.sz
 refine wpAny_setItem_heap (hsz:=hz) (zjN hu) ⟨nk.is I.hok I.kIn rfl,kd⟩ d fun h' d' hs=>h _ ?_
 obtain ⟨o,_,_,hq,_⟩:=id d'
 exact d_write I (by rw [e]; exact True.intro) hs ⟨o,hq⟩ (zph hd (kn.put k b rv) d')
theorem zrP {P:Program} {w:World} {H:Hp} {h:Heap} (ok:HOk P w H h) (e:H a=some (.dK [])):(a==sysModules)=false∧h.DictOfH (nestedKind P w) a []:=by
 obtain ⟨_,hd,vs,rel,o,es,ep,h1,h2,h3,hk,hp,hn⟩:=dk_of ok e
 have hv:vs=[]:=by
  have:∀vs,KV ([]:List (Key×V)) vs→vs=[]:=fun vs r=>by cases r; rfl
  exact this _ rel
 subst hv
 have hl:∀l,PySem.Pairs (mixKind P w) l ([]:List (Key×Value))→l=[]:=fun l r=>by cases r; rfl
 exact ⟨hd,o,es,ep,h1,h2,h3,hl _ hp,(fun x hx=>by cases hx),List.nodup_nil⟩
def NPut (w:World) (K:PySem.W.Frag) (H:Hp) (a:Addr) (y v:V) (H':Hp):Prop:=∃k b,y=.ref b∧NKV K H k (.ref b)∧k.depth≤8∧((∃xs,H a=some (DN w a xs)∧NdOk K H a xs∧H'=upd H a (DN w a (zev xs k b v)))∨(H a=some (.dK [])∧H'=upd H a (DN w a [(k,b,v)])))
theorem zpo {H':Hp} {y:V} {u:Value} {Q:Unit→Shared→Prop} (hu:X.A.units+65 < cLine) (I:Inv X pins σ H s) (g:NPut X.w X.K H a y v H') (ry:RelV y u) (rv:RelV v r) (h:∀s',Inv X pins σ H' s'→Q () s'):
  wpAny (model X.prog X.w) X.A (setItem (.ref a) u r) Q E s:=by
 obtain ⟨k,b,rfl,nk,kd,⟨xs,e,n,rfl⟩ | ⟨e,rfl⟩⟩:=g
 ·obtain rfl:u=Value.ref b:=ry
  exact ziP hu I e n nk kd rv h
 ·obtain rfl:u=Value.ref b:=ry
  obtain ⟨hd,d⟩:=zrP I.hok e
  refine wpAny_setItem_heap (hsz:=Nat.zero_le _) (zjN hu) ⟨nk.is I.hok I.kIn rfl,kd⟩ d fun h' d' hs=>h _ ?_
  obtain ⟨o,_,_,hq,_⟩:=id d'
  have e2:storedH ([]:List (NestedKey×Addr×Value)) k b r=[(k,b,r)]:=rfl
  rw [e2] at d'
  exact d_write I (by rw [e]; exact True.intro) hs ⟨o,hq⟩ (zph hd (.cons rv .nil) d')
end
end Mi
end
section
set_option maxHeartbeats 4000000
namespace Mi
open PySem PySem.Spec PyProof.Rows L2
mutual
def nkD:D→Option NestedKey
 | .non=>some .none
 | .bl b=>some (.num (if b=true then 1 else 0))
 | .int i=>some (.num i)
 | .str x=>some (.text x)
 | .tup xs=>(nkDs xs).map .tup
 | _=>none
def nkDs:List D→Option (List NestedKey)
 | []=>some []
 | x::xs=>(nkD x).bind fun k=>(nkDs xs).map (k::·)
end
def nkK (d:D):Option NestedKey:=match d with
 | .tup _=>(nkD d).bind fun k=>if k.depth≤8 then some k else none
 | _=>none
def vlN (kvs:List (D×D)) (k:NestedKey):Option D:=(kvs.find? fun p=>decide (nkK p.1=some k)).map (·.2)
def ptN (kvs:List (D×D)) (i:D) (k:NestedKey) (d:D):List (D×D):=
 if (vlN kvs k).isSome then kvs.map fun p=>if nkK p.1=some k then (p.1,d) else p else kvs++[(i,d)]
def Res.bind {α β:Type} (r:Res α) (f:α→M β):Res β:=match r with
 | .ok a L=>f a L
 | .exc c fs L=>.exc c fs L
 | .stk=>.stk
def bnd {α β:Type} (m:M α) (f:α→M β):M β:=fun L=>(m L).bind f
def zas {α:Type}:M α:=fun _=>.stk
def must {α:Type} (o:Option α):M α:=match o with
 | some a=>ret a
 | none=>zas
def Res.quiet {α:Type} (r:Res α):Res α:=match r with
 | .ok a L=>.ok a L
 | _=>.stk
def oneH (c:Addr) (o:Obj):Heap:=⟨(Array.replicate c { cls:=.none,data:=.freed }).push o,{}⟩
theorem zgU (c:Addr) {o:Obj} (hf:o.data≠.freed):(oneH c o).get? c=some o:=by
 unfold oneH Heap.get?
 have e:((Array.replicate c ({ cls:=.none,data:=.freed }:Obj)).push o)[c]?=some o:=by
  have:=Array.getElem?_push_size (xs:=Array.replicate c ({ cls:=.none,data:=.freed }:Obj)) (x:=o)
  rwa [Array.size_replicate] at this
 simp only [e]
 obtain ⟨a,b,d,sl⟩:=o
 cases d<;>first | rfl | exact absurd rfl hf
theorem zmx {c d:Addr} {o:Obj} (h:d≠c):(oneH c o).get? d=none:=by
 unfold oneH Heap.get?
 have e:((Array.replicate c ({ cls:=.none,data:=.freed }:Obj)).push o)[d]?=if d < c then some { cls:=.none,data:=.freed } else none:=by
  rw [Array.getElem?_push]
  rw [Array.size_replicate,if_neg h,Array.getElem?_replicate]
 by_cases q:d < c
 ·simp only [e,if_pos q]
 ·simp only [e,if_neg q]
theorem zkD {φ:Heap→Prop} (c:Addr) (o:Obj) (hf:o.data≠.freed) (hd:∀es ep,o.data≠.dict es ep) (h:φ (oneH c o)):¬ Dy φ:=fun ⟨d,k⟩=>by
 obtain ⟨o',es,ep,e1,e2⟩:=k _ h
 by_cases q:d=c
 ·rw [q,zgU c hf] at e1
  cases e1
  exact hd _ _ e2
 ·rw [zmx q] at e1
  cases e1
theorem zkS {c:Addr} {q:Str} {φ:Heap→Prop} (e:LamX.CodeO c q=.ext φ):¬ Dy φ:=by
 unfold LamX.CodeO at e
 have e:=HO.ext.inj e
 subst e
 refine zkD c { cls:=.none,data:=.fields #[.none,.str q 0] } (by intro z; cases z) (fun _ _ z=>by cases z) ⟨_,_,0,zgU c (by intro z; cases z),rfl,rfl⟩
theorem zoG {a C:Addr} {d:Option Addr} {φ:Heap→Prop} (e:exo a C d=.ext φ):¬ Dy φ:=by
 unfold exo at e
 have e:=HO.ext.inj e
 subst e
 exact zkD a { cls:=.ref C,dict:=d,data:=.fields #[.ref 0,.none,.none,.none,.bool false,.none] } (by intro z; cases z) (fun _ _ z=>by cases z) ⟨0,zgU a (by intro z; cases z)⟩
theorem zpN {a:Addr} {fs:List (Str×V)} {φ:Heap→Prop} (e:exd a fs=.ext φ):Dy φ:=by
 unfold exd at e
 have e:=HO.ext.inj e
 subst e
 exact ⟨a,fun h ⟨mA,⟨o,es,ep,h1,h2,_⟩,_⟩=>⟨o,es,ep,h1,h2⟩⟩
theorem zru {w:World} {a:Addr} {xs:List (NestedKey×Addr×V)} {φ:Heap→Prop} (e:DN w a xs=.ext φ):Dy φ:=by
 unfold DN at e
 have e:=HO.ext.inj e
 subst e
 exact ⟨a,fun h ⟨_,ys,_,o,es,ep,h1,_,h2,_⟩=>⟨o,es,ep,h1,h2⟩⟩
def Kp:HO→Prop
 | .tup _=>True
 | .frz _ _=>True
 | .ext φ=>¬ Dy φ
 | .tbl _=>True
 | _=>False
theorem zpq {w:World} {a:Addr} {xs:List (NestedKey×Addr×V)}:¬ Kp (DN w a xs):=fun k=>k (zru rfl)
theorem zkC {H H':Hp} {P:Addr} {q:Str} (k:∀b o,H b=some o→Kp o→H' b=some o) (t:LamX.TabS H P q):LamX.TabS H' P q:=by
 obtain ⟨ps,h1,h2,h3⟩:=t
 refine ⟨ps,k _ _ h1 trivial,h2,fun pos cv hc=>?_⟩
 obtain ⟨c,e1,e2⟩:=h3 pos cv hc
 exact ⟨c,e1,k _ _ e2 (zkS (c:=c) (q:=q) rfl)⟩
theorem Ev.of {m m':List Addr} {H H':Hp} (p:m <+: m') (k:∀b o,H b=some o→Kp o→H' b=some o):Ev m H m' H':=
 ⟨p,fun b xs h=>k b _ h trivial,fun b o u h=>k b _ h trivial,fun b φ n h=>k b _ h n⟩
theorem zhw {H H':Hp} {T:List (Addr×Str)} (k:∀b o,H b=some o→Kp o→H' b=some o) (t:LamX.Tabs T H):LamX.Tabs T H':=fun p hp=>zkC k (t p hp)
theorem Ev.refl (m:List Addr) (H:Hp):Ev m H m H:=.of List.prefix_rfl fun _ _ h _=>h
theorem Ev.trans {m m' m'':List Addr} {H H' H'':Hp} (a:Ev m H m' H') (b:Ev m' H' m'' H''):Ev m H m'' H'':=
 ⟨a.pre.trans b.pre,fun c xs h=>b.tup c xs (a.tup c xs h),fun c o u h=>b.frz c o u (a.frz c o u h),fun c φ n h=>b.ext c φ n (a.ext c φ n h)⟩
def FzL (K:PySem.W.Frag) (H:Hp) (a:Addr) (xs:List V):Prop:=
 (∃o,H a=some (.frz o (.lst xs)))∨
  ∃(o:Obj) (its:Array Value) (n:Nat),K.lookup a=some o∧o.cls=.type "list"∧o.dict=none∧o.data=.seq its n∧its.size≤sizeLine∧Vals xs its.toList
theorem FzL.sqL {K:PySem.W.Frag} {H:Hp} {a:Addr} {xs:List V} (h:FzL K H a xs):SqL K H a xs:=h.elim (fun z=>.inl (.inr z)) .inr
def LamO (q:Str) (cl:List (Str×Addr)) (l:LamD) (f c':Addr) (dV:Value):HO:=.ext fun h=>∃(pm ctv doc:Value),h.get? f=some (PySem.W.kdv_obj "<lambda>" q l.params (.expr l.body) l.scope (cloFrom cl l.scope.names []) dV doc pm c' ctv)
theorem zmk {q:Str} {cl:List (Str×Addr)} {l:LamD} {f c':Addr} {dV:Value} {φ:Heap→Prop} (e:LamO q cl l f c' dV=.ext φ):¬ Dy φ:=by
 unfold LamO at e
 have e:=HO.ext.inj e
 subst e
 exact zkD f (PySem.W.kdv_obj "<lambda>" q l.params (.expr l.body) l.scope (cloFrom cl l.scope.names []) dV .none .none c' .none) (by unfold PySem.W.kdv_obj; intro z; cases z) (fun _ _=>by unfold PySem.W.kdv_obj; intro z; cases z) ⟨.none,.none,.none,zgU f (by unfold PySem.W.kdv_obj; intro z; cases z)⟩
def CloAt (g:G) (H:Hp) (j:Nat) (f:Addr):Prop:=(∃(l:LamD) (c':Addr) (dV:Value),g.lams[j]?=some l∧H f=some (LamO g.lq g.cl l f c' dV)∧H c'=some (LamX.CodeO c' g.lq)∧
  ((l.dfl=false∧dV=.none)∨(l.dfl=true∧∃t,dV=.ref t∧H t=some (.tup [.int 0]))))∨∃(q:Str) (cl:List (Str×Addr)) (l:LamD) (c':Addr) (dV:Value),(j=g.lams.length+f∧g.lams≠[])∧H f=some (LamO q cl l f c' dV)
section
variable (g:G) (m:List Addr) (H:Hp)
mutual
inductive RelD:D→V→Prop where
 | non:RelD .non .non
 | bl (b:Bool):RelD (.bl b) (.bl b)
 | int (i:Int):RelD (.int i) (.int i)
 | str (s:Str):RelD (.str s) (.str s)
 | ty (n:String):RelD (.ty n) (.ty n)
 | ref {n:Nat} {a:Addr} (h:m[n]?=some a):RelD (.ref n) (.ref a)
 | glo (k:Nat):RelD (.glo k) (.ref (g.gad k))
 | tup {ds:List D} {vs:List V} {a:Addr} (h:SqT g.K H a vs) (r:RelDs ds vs):RelD (.tup ds) (.ref a)
 | fzl {ds:List D} {vs:List V} {a:Addr} (h:FzL g.K H a vs) (r:RelDs ds vs):RelD (.fzl ds) (.ref a)
 | clo {j:Nat} {f:Addr} (h:CloAt g H j f):RelD (.clo j) (.ref f)
inductive RelDs:List D→List V→Prop where
 | nil:RelDs [] []
 | cons {d:D} {v:V} {ds:List D} {vs:List V} (h:RelD d v) (r:RelDs ds vs):RelDs (d::ds) (v::vs)
end
inductive RelF:List (Nat×D)→List (Str×V)→Prop where
 | nil:RelF [] []
 | cons {a:Nat} {d:D} {v:V} {fs:List (Nat×D)} {vs:List (Str×V)} (h:RelD g m H d v) (r:RelF fs vs):RelF ((a,d)::fs) ((g.an a,v)::vs)
inductive RelK:List (Key×D)→List (Key×V)→Prop where
 | nil:RelK [] []
 | cons {k:Key} {d:D} {v:V} {kvs:List (Key×D)} {vs:List (Key×V)} (h:RelD g m H d v) (r:RelK kvs vs):RelK ((k,d)::kvs) ((k,v)::vs)
inductive RelN:List (D×D)→List (NestedKey×Addr×V)→Prop where
 | nil:RelN [] []
 | cons {i d:D} {k:NestedKey} {b:Addr} {v:V} {kvs:List (D×D)} {xs:List (NestedKey×Addr×V)} (e:nkK i=some k) (hi:RelD g m H i (.ref b)) (h:RelD g m H d v) (r:RelN kvs xs):RelN ((i,d)::kvs) ((k,b,v)::xs)
def RelO (a:Addr):O→Prop
 | .dct kvs=>∃vs,H a=some (.dK vs)∧RelK g m H kvs vs
 | .lst ds=>∃vs,H a=some (.lst vs)∧RelDs g m H ds vs
 | .ktp ds=>∃(o:Obj) (vs:List V),H a=some (.frz o (.tup vs))∧(o.cls=.type "tuple"∧o.dict=none)∧RelDs g m H ds vs
 | .ins c fs=>∃dx vfs,H a=some (.ins (g.cad c) dx vfs)∧RelF g m H fs vfs
 | .nd kvs=>∃xs,H a=some (DN g.w a xs)∧((xs.map (·.1)).Nodup∧xs.length≤sizeLine)∧RelN g m H kvs xs
 | .exn c k=>∃dx,m[k]?=some dx∧H a=some (exo a (g.cad c) (some dx))
 | .xdt fs=>∃vfs,H a=some (exd a vfs)∧RelF g m H fs vfs
end
structure HRel (g:G) (m:List Addr) (L:MH) (H:Hp):Prop where
 len:m.length=L.length
 nd:m.Nodup
 live:∀a∈m,H a≠none
 obj:∀(n:Nat) (o:O) (a:Addr),L[n]?=some o→m[n]?=some a→RelO g m H a o
 tabs:LamX.Tabs g.tabs H
 fz:g.fz m H
theorem Ev.get {m m':List Addr} {H H':Hp} (e:Ev m H m' H') {n:Nat} {a:Addr} (h:m[n]?=some a):m'[n]?=some a:=by
 obtain ⟨t,rfl⟩:=e.pre
 rw [List.getElem?_append_left (List.getElem?_eq_some_iff.mp h).1]
 exact h
theorem Ev.rdT {m m':List Addr} {H H':Hp} (e:Ev m H m' H') {a:Addr} {xs:List V} (h:Rd H a (.tup xs)):Rd H' a (.tup xs):=by
 rcases h with h | ⟨o,h⟩
 ·exact .inl (e.tup _ _ h)
 ·exact .inr ⟨o,e.frz _ _ _ h⟩
theorem Ev.fzL {K:PySem.W.Frag} {m m':List Addr} {H H':Hp} (e:Ev m H m' H') {a:Addr} {xs:List V} (h:FzL K H a xs):FzL K H' a xs:=by
 rcases h with ⟨o,h⟩ | h
 ·exact .inl ⟨o,e.frz _ _ _ h⟩
 ·exact .inr h
theorem Ev.sqT {K:PySem.W.Frag} {m m':List Addr} {H H':Hp} (e:Ev m H m' H') {a:Addr} {xs:List V} (h:SqT K H a xs):SqT K H' a xs:=by
 rcases h with h | h
 ·exact .inl (e.rdT h)
 ·exact .inr h
theorem Ev.clo {g:G} {m m':List Addr} {H H':Hp} (e:Ev m H m' H') {j:Nat} {f:Addr} (h:CloAt g H j f):CloAt g H' j f:=by
 rcases h with ⟨l,c',dV,h1,h2,h3,h4⟩ | ⟨q,cl,l,c',dV,h1,h2⟩
 case inr=>exact .inr ⟨q,cl,l,c',dV,h1,e.ext _ _ (zmk (q:=q) (cl:=cl) (l:=l) (f:=f) (c':=c') (dV:=dV) rfl) h2⟩
 refine .inl ⟨l,c',dV,h1,e.ext _ _ (zmk (q:=g.lq) (cl:=g.cl) (l:=l) (f:=f) (c':=c') (dV:=dV) rfl) h2,e.ext _ _ (zkS (c:=c') (q:=g.lq) rfl) h3, ?_⟩
 rcases h4 with h4 | ⟨h4,t,h5,h6⟩
 ·exact .inl h4
 ·exact .inr ⟨h4,t,h5,e.tup _ _ h6⟩
section
variable {g:G} {m m':List Addr} {H H':Hp}
mutual
theorem RelD.mono (e:Ev m H m' H'):∀ {d:D} {v:V},RelD g m H d v→RelD g m' H' d v
 | _,_,.non=>.non
 | _,_,.bl b=>.bl b
 | _,_,.int i=>.int i
 | _,_,.str s=>.str s
 | _,_,.ty n=>.ty n
 | _,_,.ref h=>.ref (e.get h)
 | _,_,.glo k=>.glo k
 | _,_,.tup h r=>.tup (e.sqT h) (RelDs.mono e r)
 | _,_,.fzl h r=>.fzl (e.fzL h) (RelDs.mono e r)
 | _,_,.clo h=>.clo (e.clo h)
theorem RelDs.mono (e:Ev m H m' H'):∀ {ds:List D} {vs:List V},RelDs g m H ds vs→RelDs g m' H' ds vs
 | _,_,.nil=>.nil
 | _,_,.cons h r=>.cons (RelD.mono e h) (RelDs.mono e r)
end
theorem RelF.mono (e:Ev m H m' H'):∀ {fs:List (Nat×D)} {vs:List (Str×V)},RelF g m H fs vs→RelF g m' H' fs vs
 | _,_,.nil=>.nil
 | _,_,.cons h r=>.cons (h.mono e) (RelF.mono e r)
theorem RelK.mono (e:Ev m H m' H'):∀ {kvs:List (Key×D)} {vs:List (Key×V)},RelK g m H kvs vs→RelK g m' H' kvs vs
 | _,_,.nil=>.nil
 | _,_,.cons h r=>.cons (h.mono e) (RelK.mono e r)
theorem RelN.mono (e:Ev m H m' H'):∀ {kvs:List (D×D)} {xs:List (NestedKey×Addr×V)},RelN g m H kvs xs→RelN g m' H' kvs xs
 | _,_,.nil=>.nil
 | _,_,.cons q hi h r=>.cons q (hi.mono e) (h.mono e) (RelN.mono e r)
theorem RelK.length:∀ {kvs:List (Key×D)} {vs:List (Key×V)},RelK g m H kvs vs→kvs.length=vs.length
 | _,_,.nil=>rfl
 | _,_,.cons _ r=>congrArg (·+1) (RelK.length r)
theorem RelDs.length:∀ {ds:List D} {vs:List V},RelDs g m H ds vs→ds.length=vs.length
 | _,_,.nil=>rfl
 | _,_,.cons _ r=>congrArg (·+1) (RelDs.length r)
theorem RelDs.get:∀ {ds:List D} {vs:List V} {i:Nat} {d:D},RelDs g m H ds vs→ds[i]?=some d→∃v,vs[i]?=some v∧RelD g m H d v
 | _,_,_,_,.nil,h=>by simp at h
 | _,_,0,_,.cons h r,e=>by
  cases (show some _=some _ from by simpa using e)
  exact ⟨_,rfl,h⟩
 | _,_,i+1,d,.cons h r,e=>by
  obtain ⟨v,h1,h2⟩:=RelDs.get (i:=i) (d:=d) r (by simpa using e)
  exact ⟨v,by simpa using h1,h2⟩
theorem RelDs.append:∀ {ds es:List D} {vs ws:List V},RelDs g m H ds vs→RelDs g m H es ws→RelDs g m H (ds++es) (vs++ws)
 | _,_,_,_,.nil,s=>s
 | _,_,_,_,.cons h r,s=>.cons h (RelDs.append r s)
theorem RelDs.set:∀ {ds:List D} {vs:List V} {d:D} {v:V} (i:Nat),RelD g m H d v→RelDs g m H ds vs→RelDs g m H (ds.set i d) (vs.set i v)
 | _,_,_,_,_,_,.nil=>.nil
 | _,_,_,_,0,q,.cons _ r=>.cons q r
 | _,_,_,_,i+1,q,.cons h r=>.cons h (RelDs.set i q r)
theorem RelDs.drop:∀ {ds:List D} {vs:List V} (n:Nat),RelDs g m H ds vs→RelDs g m H (ds.drop n) (vs.drop n)
 | _,_,0,r=>r
 | _,_,_+1,.nil=>.nil
 | _,_,n+1,.cons _ r=>RelDs.drop n r
theorem RelDs.take:∀ {ds:List D} {vs:List V} (n:Nat),RelDs g m H ds vs→RelDs g m H (ds.take n) (vs.take n)
 | _,_,0,_=>.nil
 | _,_,_+1,.nil=>.nil
 | _,_,n+1,.cons h r=>.cons h (RelDs.take n r)
theorem RelDs.reverse:∀ {ds:List D} {vs:List V},RelDs g m H ds vs→RelDs g m H ds.reverse vs.reverse
 | _,_,.nil=>.nil
 | _,_,.cons h r=>by
  rw [List.reverse_cons,List.reverse_cons]
  exact (RelDs.reverse r).append (.cons h .nil)
theorem RelDs.ints:∀ {ns:List Int},RelDs g m H (ns.map D.int) (ns.map V.int)
 | []=>.nil
 | _::_=>.cons (.int _) RelDs.ints
theorem RelF.lookup (an:∀a b,g.an a=g.an b→a=b):∀ {fs:List (Nat×D)} {vs:List (Str×V)} {a:Nat} {d:D},RelF g m H fs vs→fs.lookup a=some d→∃v,vs.lookup (g.an a)=some v∧RelD g m H d v
 | _,_,_,_,.nil,e=>by cases e
 | (b,_)::_,_,a,d,.cons h r,e=>by
  rw [List.lookup_cons] at e ⊢
  by_cases q:a=b
  ·subst q
   rw [beq_self_eq_true] at e ⊢
   cases e
   exact ⟨_,rfl,h⟩
  ·rw [beq_eq_false_iff_ne.mpr q] at e
   rw [beq_eq_false_iff_ne.mpr fun z=>q (an _ _ z)]
   exact RelF.lookup an r e
theorem RelF.length:∀ {fs:List (Nat×D)} {vs:List (Str×V)},RelF g m H fs vs→fs.length=vs.length
 | _,_,.nil=>rfl
 | _,_,.cons _ r=>congrArg (·+1) (RelF.length r)
def putN (a:Nat) (d:D):List (Nat×D)→List (Nat×D)
 | []=>[(a,d)]
 | (b,e)::r=>if b=a then (b,d)::r else (b,e)::putN a d r
end
end Mi
end
section
set_option maxHeartbeats 4000000
namespace Mi
open PySem PySem.Spec PyProof.Rows L2
def frC (fr:Addr→Bool):Value→Bool
 | .ref a=>fr a
 | _=>false
structure TakesM (fr:Addr→Bool) (X:Cx) (W:WX):Prop where
 n:L2N.Takes X W
 o:L2.Takes X (fun c d σ H=>frC fr c=false∧W c d σ H)
def CXM (fr:Addr→Bool) (P:Program) (w:World):CXT:=fun outer H s E u s'=>
 L2N.CX P w outer H s E u s'∨L2.CX P w outer H s (fun c d H'=>frC fr c=false∧E c d H') u s'
section
variable {fr:Addr→Bool} {X:Cx} {W W':WX} {E:XK}
theorem TakesM.imp (t:TakesM fr X W) (h:∀c d σ H,W' c d σ H→W c d σ H):TakesM fr X W':=⟨t.n.imp h,t.o.imp fun c d σ H z=>⟨z.1,h c d σ H z.2⟩⟩
theorem zoo {B:Heap} {l:List Env} {a:Addr} {cls:Value} {d:Option Addr} {L:Addr} {h:Heap} (x:Sky B l a (L2N.Zn cls d) L h):Sky B l a (Zc cls d) L h:=by
 rcases x with ⟨h1,h2,h3,oe,vs,h4,h5,h6⟩ | x | x
 ·exact .inl ⟨h1,h2,h3,oe,vs,h4,h5.zc,h6⟩
 ·exact .inr (.inl (L2H.flyingZ_imp (fun o z=>z.zc) x))
 ·refine .inr (.inr ?_)
  exact ⟨x.1,x.2.1,x.2.2.1,L2H.tracedZ_imp (fun o z=>z.zc) x.2.2.2⟩
theorem zr4 {u:Value} {s':Shared} (x:L2N.XE X W u s'):L2.XE X W u s':=by
 obtain ⟨a,B,sI,pins, σ,H,cls,d,e,I,nb,up,sky,na,os,ag,w⟩:=x
 exact ⟨a,B,sI,pins, σ,H,cls,d,e,I,nb,up,zoo sky,na,os,ag,w⟩
theorem zkj (t:L2.Takes X W):TakesM fr X W:=⟨fun u s' x=>t u s' (zr4 x),t.imp fun _ _ _ _ z=>z.2⟩
theorem zfj:TakesM fr X (fun _ _ _ _=>False):=zkj takes_none5
theorem zcR (hs:X.stack=X.env::X.outer) (hf:X.env.frame=some X.env.locals) (hex:X.ex=[]) {E₁:Value→Shared→Prop}
  (hx:X.xe=fun e s'=>wpAny (model X.prog X.w) X.A (leaving X.env e) (fun _ s''=>CXM fr X.prog X.w X.outer X.H_0 X.s_0 E e s'') E₁ s'):TakesM fr X (fun cls d _ H=>E cls d H):=by
 refine ⟨fun u s' x=>?_,fun u s' x=>?_⟩
 ·rw [hx]
  exact wpAny_mono (L2N.XE.leave (W:=fun cls d _ H=>E cls d H) (E:=E) hs hf hex (fun _ _ _ _ h=>h) x) (fun _ _ h=>.inl h) fun _ _ z=>z
 ·rw [hx]
  exact wpAny_mono (L2.XE.leave (W:=fun cls d _ H=>frC fr cls=false∧E cls d H) (E:=fun cls d H=>frC fr cls=false∧E cls d H) hs hf hex (fun _ _ _ _ h=>h) x) (fun _ _ h=>.inr h) fun _ _ z=>z
theorem TakesM.call {pins:List (Addr×Obj)} {σ:L2.St} {H:Hp} {s:Shared} {e:Value} {s':Shared} (tk:TakesM fr X W) (I:Inv X pins σ H s) (hW:∀cls d H',E cls d H'→W cls d σ H') (c:CXM fr X.prog X.w X.stack H s E e s'):X.xe e s':=by
 rcases c with c | c
 ·exact tk.n e s' (L2N.XE.of_call I hW c)
 ·exact tk.o e s' (L2.XE.of_call I (fun cls d H' z=>⟨z.1,hW cls d H' z.2⟩) c)
theorem zox {P:Program} {w:World}:StX.CXUp (CXM fr P w):=by
 intro outer s H s2 H2 E e s' un kp ho z
 rcases z with ⟨a,B,H',cls,d,ea,fl,hok,ub,na,os,ag,he⟩ | z
 ·have tb:∀b ps,H b=some (.tbl ps)→∃more,H' b=some (.tbl (ps++more)):=fun b ps q=>by
   obtain ⟨x1,y1⟩:=un.tbls b ps q
   obtain ⟨x2,y2⟩:=ub.tbls b _ y1
   exact ⟨x1++x2,by rw [y2,Array.append_assoc]⟩
  exact .inl ⟨a,B,H',cls,d,ea,fl,hok,⟨fun b o q n=>ub.keep b o (kp b o q) (un.free b o q n (by simp)),fun b o q=>ub.slot b o (kp b o q),fun b o q n=>ub.free b o (kp b o q) (un.free b o q n (by simp)),fun b o q=>ub.there b o (kp b o q),fun b xs q=>ub.tups b xs (un.tups b xs q),fun b o xs q=>ub.frzs b o xs (un.frzs b o xs q),tb⟩,na,os.trans ho,ag,he⟩
 ·exact .inr (StX.cxUp outer s H s2 H2 _ e s' un kp ho z)
theorem CXM.none {P:Program} {w:World} {outer:List Env} {H:Hp} {s:Shared} {e:Value} {s':Shared} (c:CXM fr P w outer H s (fun _ _ _=>False) e s'):False:=by
 rcases c with ⟨_,_,_,_,_,_,_,_,_,_,_,_,z⟩ | ⟨_,_,_,_,_,_,_,_,_,_,_,_,z⟩
 ·exact z
 ·exact z.2
end
end Mi
end
section
set_option maxHeartbeats 4000000
namespace PySem
set_option maxHeartbeats 1000000 in
theorem zh2 {v:Value} {o:Obj} {H:Heap→Prop} (B:Begins v o H):
  Meets (Builtin.«enumerate.__new__» ⟨[.type "enumerate",v],[]⟩) (fun _ R s=>H s.heap∧
    R (.ok (.ret (.ref (s.heap.push o).objs.size))) { s with heap:=(s.heap.push o).push { cls:=.type "enumerate",data:=.fields #[.none,.bool false,.ref s.heap.objs.size,rawInt 0,.none,.none] } }):=
 .of_wp fun prog w A R s h=>by
  obtain ⟨hp,g,d,tk,os⟩:=s; obtain ⟨h1,h⟩:=h
  have hsub:=sub_enumerate
  have q1:∀ {A':Around} {E:Value→Shared→Prop} {Q:Value→Shared→Prop},Q (.ref hp.objs.size) ⟨hp.push o,g,d,tk,os⟩→wpAny (model prog w) A' (pyIter v) Q E ⟨hp,g,d,tk,os⟩:=
   fun q=>B.iter prog w _ _ ⟨hp,g,d,tk,os⟩ _ h1 q
  wp_walk using q1
  refine wpAny_stack_any fun st=>wpAny_pure ?_
  split
  ·rename_i c _ _ _ _ _
   cases (c==Value.type "enumerate")
   ·wp_walk using q1
    exact ⟨_,rfl,h⟩
   ·wp_walk using q1
    exact ⟨_,rfl,h⟩
  ·wp_walk using q1
   exact ⟨_,rfl,h⟩
section
variable {prog:Program} {w:World} {A:Around} {E:Value→Shared→Prop} {s:Shared}
theorem zha {v:Value} {o:Obj} {H:Heap→Prop} {Q:Value→Shared→Prop} (B:Begins v o H) (h1:H s.heap)
  (h:∀h',IsEnum h' (s.heap.objs.size+1) s.heap.objs.size 0 .none→h'.get? s.heap.objs.size=some o→h'.objs.size=s.heap.objs.size+2→
    (∀b o,s.heap.get? b=some o→h'.get? b=some o)→Q (.ref (s.heap.objs.size+1)) { s with heap:=h' }):
  wpAny (model prog w) A (call (.type "enumerate") [v]) Q E s:=by
 refine callType_new F.called_enumerate (by decide) (F.typeCall_enumerate_1 _) (F.newCall_enumerate_1 _) (fun obj=>F.args_object_init_2 obj _) F.entry_enumerate_new
  (zh2 B) ⟨h1, ?_⟩
 have hz:(s.heap.push o).objs.size=s.heap.objs.size+1:=Heap.size_push ..
 show _∧_
 rw [hz]
 have he:IsEnum ((s.heap.push o).push { cls:=.type "enumerate",data:=.fields #[.none,.bool false,.ref s.heap.objs.size,rawInt 0,.none,.none] }) (s.heap.objs.size+1) s.heap.objs.size 0 .none:=by
  have:=Heap.get?_push_size (s.heap.push o) (o:={ cls:=.type "enumerate",data:=.fields #[.none,.bool false,.ref s.heap.objs.size,rawInt 0,.none,.none] }) rfl
  rw [hz] at this; exact this
 refine ⟨⟨_,he,rfl⟩,h _ he (Heap.get?_push_of_some _ (Heap.get?_push_size _ B.free)) (by rw [Heap.size_push,hz]) fun b o x=>Heap.get?_push_of_some _ (Heap.get?_push_of_some _ x)⟩
end
end PySem
namespace Mi
open PySem PySem.Spec PyProof.Rows L2
def IteT (K:PySem.W.Frag) (a:Addr):L2.It:=
 ⟨fun i H=>∃(xs:List V) (x:V),SqT K H a xs∧xs[i]?=some x,fun i H v H'=>∃T x,v=.ref T∧H T=none∧H'=upd H T (.tup [.int (i:Nat),x])∧∀xs,SqT K H a xs→xs[i]?=some x,fun i H=>∃xs:List V,SqT K H a xs∧xs.length≤i⟩
theorem zjl {P:Program} {w:World} {K:PySem.W.Frag} {elts:List Expr} {kk:Nat} {tpos:Pos} (a e it:Addr) (hai:a≠it) (hae:e≠a):
  Turn P w K (.Tuple elts kk tpos) (IteT K a) [e,it] e (fun i h=>(∃old,IsEnum h e it ((i:Nat):Int) old)∧h.IsTupleIter it a i∧e≠it) where
 mem:=by simp
 obj:=fun i h st b hb=>by
  obtain ⟨⟨old,he⟩,⟨o,ho,hc,hd⟩,_⟩:=st
  have e':b=e∨b=it:=by simpa using hb
  rcases e' with z | z
  ·rw [z]; exact ⟨_,he,fun v q=>nomatch q⟩
  ·rw [z]; exact ⟨o,ho,fun v q=>by rw [hd] at q; cases q⟩
 keep:=fun i h h' st k=>let ⟨⟨old,he⟩,hi,hne⟩:=st; ⟨⟨old,k e (by simp) _ he⟩,hi.at fun o q=>k it (by simp) o q,hne⟩
 item:=by
  intro X hP hw hK hc i pins s σ H E I hf st hg
  subst hP hw hK
  obtain ⟨⟨old,he⟩,hit,hne⟩:=st
  obtain ⟨xs,x,hq,hx⟩:=hg
  obtain ⟨its,rv,p,hz⟩:=I.tuple hq
  obtain ⟨u,hu,ru⟩:=rv.get hx
  have hel:e < s.heap.objs.size:=Heap.lt_size he
  have hil:it < s.heap.objs.size:=by obtain ⟨_,q,_⟩:=hit; exact Heap.lt_size q
  have hT0:s.heap.IsTuple a its.toArray:=p
  have hi:i < its.toArray.size:=by
   have:=(List.getElem?_eq_some_iff.mp hu).1
   simpa using this
  have D:=Draws.tuple (prog:=X.prog) (w:=X.w) (A:=X.A.in1) (I.ok.hd hc) it a hai its.toArray
  refine wpAny_pyNext_enum_itemD D he ⟨hit,hT0⟩ hi hne (by simp [hne,hae]) fun x' h' tk hP ho hit' hT hsz hk=>?_
  have ex:x'=u:=by
   have hP:its.toArray[i]?=some x':=hP
   simp only [List.getElem?_toArray] at hP
   rw [hu] at hP
   exact (Option.some.inj hP).symm
  subst ex
  refine ⟨_,rfl,wpAny_letOwnedTupleGo_enum (s:={ s with heap:=h',toks:=tk+1 }) ho fun h'' he' sb=>?_⟩
  have hT2:h''.get? s.heap.objs.size=some { cls:=.type "tuple",data:=.seq #[.int i tk,x'] }:=(sb.2 _ (Nat.ne_of_gt hel)).trans hT
  have new:ObjOk X.prog X.w (upd H s.heap.objs.size (.tup [.int (i:Nat),x])) h'' s.heap.objs.size (.tup [.int (i:Nat),x]):=
   ⟨by show 2≤sizeLine; decide,[.int i tk,x'],.cons ⟨_,rfl⟩ (.cons ru .nil),⟨_,hT2,rfl,_,rfl⟩⟩
  have I1:Inv X pins σ (upd H s.heap.objs.size (.tup [.int (i:Nat),x])) { s with heap:=h'',toks:=tk+1 }:=
   I.turnedNew (ch:=[e,it]) (fun b ob hb q=>(sb.2 b (fun z=>hb (by simp [z]))).trans (hk b ob (fun z=>hb (by simp [z])) (fun z=>hb (by simp [z])) q)) hf (Nat.le_refl _) new
  refine ⟨.ref s.heap.objs.size,_,I1,rfl,⟨_,x,rfl,I.hok.fresh (Nat.le_refl _),rfl,fun ys hy=>by rw [I.tuple_inj hy hq]; exact hx⟩,⟨⟨x', ?_⟩,hit'.1.at fun o q=>(sb.2 it (Ne.symm hne)).trans q,hne⟩,fun b hb=>?_⟩
  ·have e1:((i+1:Nat):Int)=(i:Int)+1:=by omega
   rw [e1]; exact he'
  ·have hb':b < s.heap.objs.size:=by
    have e':b=e∨b=it:=by simpa using hb
    rcases e' with z | z
    ·rw [z]; exact hel
    ·rw [z]; exact hil
   rw [upd_ne (Nat.ne_of_lt hb')]
   exact (hf b hb).1
 done:=by
  intro X hP hw hK hc i pins s σ H E I hf st hg
  subst hP hw hK
  obtain ⟨⟨old,he⟩,hit,hne⟩:=st
  obtain ⟨xs,hq,hx⟩:=hg
  obtain ⟨its,rv,p,hz⟩:=I.tuple hq
  obtain ⟨f0,f1,f2,f3,f4,f5⟩:=hf it (by simp)
  have hl:=rv.length
  have hTy:s.TypeIs (.ref e) "enumerate":=⟨_,he,rfl⟩
  unfold pyNext
  refine wpAny_bind (wpAny_attempt (wpAny_callSpecial?_slot (name:=Str.ofString "__next__") hTy F.slot_enumerate_next
    (wpAny_call_entry F.slot_enumerate_next hTy F.entry_enumerate_next ?_ (F.args_enumerate_next_1 _))))
  show wpAny _ _ (field (.ref e) 2 >>= _) _ _ _
  refine wpAny_bind (wpAny_field he rfl (x:=.ref it) rfl ?_)
  refine wpAny_bind (wpAny_nextOf_tuple_end (I.ok.hd hc) hit (show s.heap.IsTuple a its.toArray from p) (by simp; omega) fun h' x eb hx'=>?_)
  obtain ⟨o,ho,hc'⟩:=hx'
  refine wpAny_bind (wpAny_isInstance (T:="StopIteration") (b:=true) ⟨o,ho,hc'⟩ isSubtype_stop ?_)
  exact wpAny_pure ⟨rfl,I.turned (t':=s.toks) (fun b o hb q=>eb b o hb q) f0 f1 f3 f4 f5⟩
 self:=fun A i s Q E st h=>let ⟨⟨_,he⟩,_⟩:=st; wpAny_pyIter_enum he h
def zoX (K:PySem.W.Frag) (ta:TA):TI:=fun σ H R=>ta σ H fun vs H1=>∃a xs,vs=[.ref a]∧((SqL K H1 a xs∧R (Ite K a) H1)∨(SqT K H1 a xs∧R (IteT K a) H1))
theorem zkW {X:Cx} {e:Expr} {ta:TA} {p pos tpos:Pos} {elts:List Expr} {kk:Nat} (hg:Gl X "enumerate") (hm:X.mg "enumerate"=none) (ha:PA X [e] ta) (hs:starEach [e] X.env=[(false,eval e X.env)]:=by rfl):
  PI X (.Tuple elts kk tpos) (.Call (.Name "enumerate" p) [e] [] pos) (zoX X.K ta):=by
 refine ⟨fun pins s σ H R I h=>?_⟩
 refine Call_ (ld_blt I hg hm boot_enumerate (PyProof.Rows.callWith_type1 (thn (ha.run pos pins s σ H _ I h) fun us s1 ⟨vs,H1,I1,r1,q1⟩=>?_) hs rfl))
 obtain ⟨a,xs,ex,q1⟩:=q1
 subst ex
 have fp:∀b∈[s1.heap.objs.size+1,s1.heap.objs.size],s1.heap.objs.size≤b:=fun b hb=>by
  have e':b=s1.heap.objs.size+1∨b=s1.heap.objs.size:=by simpa using hb
  rcases e' with z | z
  ·rw [z]; exact Nat.le_add_right _ _
  ·rw [z]; exact Nat.le_refl _
 cases r1 with
 | cons r rr=>
  cases rr
  cases r
  rcases q1 with ⟨hq,q⟩ | ⟨hq,q⟩
  ·obtain ⟨its,rv,p',hz⟩:=I1.list hq
   refine call_enumerate_list p'.isList fun h' he hit hsz hk=>wpAny_pyIter_enum he ?_
   have I2:Inv X pins σ H1 { s1 with heap:=h' }:=I1.kept (t':=s1.toks) hk
   exact ⟨s1.heap.objs.size+1,[s1.heap.objs.size+1,s1.heap.objs.size],_,_,H1,rfl,I2,turn_enum a (s1.heap.objs.size+1) s1.heap.objs.size,⟨⟨.none,he⟩,hit,Nat.succ_ne_self _⟩,fun b hb=>I1.fpOk (fp b hb) (I1.hok.fresh (fp b hb)),q⟩
  ·obtain ⟨its,rv,p',hz⟩:=I1.tuple hq
   have hT0:s1.heap.IsTuple a its.toArray:=p'
   have hal:a < s1.heap.objs.size:=by obtain ⟨_,q,_⟩:=p'; exact Heap.lt_size q
   refine zha (begins_tuple a its.toArray) hT0 fun h' he hit hsz hk=>wpAny_pyIter_enum he ?_
   have I2:Inv X pins σ H1 { s1 with heap:=h' }:=I1.kept (t':=s1.toks) hk
   exact ⟨s1.heap.objs.size+1,[s1.heap.objs.size+1,s1.heap.objs.size],_,_,H1,rfl,I2,zjl a (s1.heap.objs.size+1) s1.heap.objs.size (Nat.ne_of_lt hal) (Nat.ne_of_gt (Nat.lt_succ_of_lt hal)),⟨⟨.none,he⟩,⟨_,hit,rfl,rfl⟩,Nat.succ_ne_self _⟩,fun b hb=>I1.fpOk (fp b hb) (I1.hok.fresh (fp b hb)),q⟩
end Mi
end
section
set_option maxHeartbeats 4000000
namespace Mi
open PySem PySem.Spec PyProof.Rows L2
section
variable {g:G} {m m':List Addr} {L L':MH} {H H':Hp} {a p:Addr} {o:O} {ho:HO} {n:Nat}
theorem RelO.mono (e:Ev m H m' H') (h:H' a=H a) (r:RelO g m H a o):RelO g m' H' a o:=by
 cases o with
 | lst ds=>
  obtain ⟨vs,h1,h2⟩:=r
  exact ⟨vs,h.trans h1,h2.mono e⟩
 | ins c fs=>
  obtain ⟨dx,vfs,h1,h2⟩:=r
  exact ⟨dx,vfs,h.trans h1,h2.mono e⟩
 | dct kvs=>
  obtain ⟨vs,h1,h2⟩:=r
  exact ⟨vs,h.trans h1,h2.mono e⟩
 | ktp kvs=>
  obtain ⟨ob,vs,h1,h0,h2⟩:=r
  exact ⟨ob,vs,h.trans h1,h0,h2.mono e⟩
 | nd kvs=>
  obtain ⟨xs,h1,h0,h2⟩:=r
  exact ⟨xs,h.trans h1,h0,h2.mono e⟩
 | exn c k=>
  obtain ⟨dx,h1,h2⟩:=r
  exact ⟨dx,e.get h1,h.trans h2⟩
 | xdt fs=>
  obtain ⟨vfs,h1,h2⟩:=r
  exact ⟨vfs,h.trans h1,h2.mono e⟩
theorem Ev.upd_free (hp:H p=none):Ev m H m (upd H p ho):=
 .of List.prefix_rfl fun b o h _=>by rw [upd_ne (ne_of_none h hp)]; exact h
theorem zhv {T:List (Addr×Str)} (hp:H p=none) (t:LamX.Tabs T H):LamX.Tabs T (upd H p ho):=zhw (fun b o h _=>by rw [upd_ne (ne_of_none h hp)]; exact h) t
theorem HRel.kp (h:HRel g m L H) (e:m[n]?=some a):∀o,H a=some o→¬ Kp o∨(∃ob vs,o=.frz ob (.tup vs))∨∃C d,o=exo a C d:=fun o q=>by
 have hl:n < L.length:=by rw [← h.len]; exact (List.getElem?_eq_some_iff.mp e).1
 have z:=h.obj n _ a (List.getElem?_eq_getElem hl) e
 revert z
 generalize L[n]=x
 intro z
 cases x with
 | lst ds=>obtain ⟨vs,h1,_⟩:=z; rw [h1] at q; cases q; exact .inl id
 | ins c fs=>obtain ⟨dx,vfs,h1,_⟩:=z; rw [h1] at q; cases q; exact .inl id
 | dct kvs=>obtain ⟨vs,h1,_⟩:=z; rw [h1] at q; cases q; exact .inl id
 | ktp kvs=>obtain ⟨ob,vs,h1,_⟩:=z; rw [h1] at q; cases q; exact .inr (.inl ⟨_,_,rfl⟩)
 | nd kvs=>obtain ⟨xs,h1,_⟩:=z; rw [h1] at q; cases q; exact .inl zpq
 | exn c k=>obtain ⟨dx,_,h1⟩:=z; rw [h1] at q; cases q; exact .inr (.inr ⟨_,_,rfl⟩)
 | xdt fs=>obtain ⟨vfs,h1,_⟩:=z; rw [h1] at q; cases q; exact .inl fun k=>k (zpN (a:=a) (fs:=vfs) rfl)
theorem HRel.addr (h:HRel g m L H) (e:L[n]?=some o):∃a,m[n]?=some a∧a∈m∧RelO g m H a o:=by
 have hl:n < m.length:=by rw [h.len]; exact (List.getElem?_eq_some_iff.mp e).1
 exact ⟨m[n],List.getElem?_eq_getElem hl,List.getElem_mem hl,h.obj n o _ e (List.getElem?_eq_getElem hl)⟩
theorem HRel.keep (h:HRel g m L H) (e:Ev m H m H') (k:∀a∈m,H' a=H a) (t:LamX.Tabs g.tabs H'):HRel g m L H':=
 ⟨h.len,h.nd,fun a ha z=>h.live a ha (by rw [← k a ha]; exact z),fun n o a e1 e2=>(h.obj n o a e1 e2).mono e (k a (List.mem_of_getElem? e2)),t,g.fzs e h.fz⟩
theorem HRel.laid (h:HRel g m L H) (hp:H p=none):HRel g m L (upd H p ho):=
 h.keep (Ev.upd_free hp) (fun a ha=>upd_ne fun e=>h.live a ha (by rw [e]; exact hp)) (zhv hp h.tabs)
theorem Ev.push (hp:H p=none):Ev m H (m++[p]) (upd H p ho):=
 ⟨List.prefix_append _ _,(Ev.upd_free (m:=m) hp).tup,(Ev.upd_free (m:=m) hp).frz,(Ev.upd_free (m:=m) hp).ext⟩
theorem zao {α:Type} (l:List α) (x:α):(l++[x])[l.length]?=some x:=by simp
theorem HRel.push (h:HRel g m L H) (hp:H p=none) (new:RelO g (m++[p]) (upd H p ho) p o):HRel g (m++[p]) (L++[o]) (upd H p ho):=by
 have hpm:p∉m:=fun z=>h.live p z hp
 refine ⟨by simp [h.len], ?_,fun a ha=>?_,fun n o' a e1 e2=>?_,zhv hp h.tabs,g.fzs (Ev.push hp) h.fz⟩
 ·refine List.nodup_append.mpr ⟨h.nd,by simp,fun a ha b hb=>?_⟩
  have e:b=p:=by simpa using hb
  rw [e]
  exact fun z=>hpm (by rw [← z]; exact ha)
 ·rcases List.mem_append.mp ha with ha | ha
  ·rw [upd_ne fun e=>hpm (by rw [← e]; exact ha)]
   exact h.live a ha
  ·have e:a=p:=by simpa using ha
   rw [e,upd_same]
   exact fun z=>by cases z
 ·by_cases hn:n < L.length
  ·rw [List.getElem?_append_left hn] at e1
   rw [List.getElem?_append_left (by rw [h.len]; exact hn)] at e2
   exact (h.obj n o' a e1 e2).mono (Ev.push hp) (upd_ne fun e=>hpm (by rw [← e]; exact List.mem_of_getElem? e2))
  ·have hlt:=(List.getElem?_eq_some_iff.mp e1).1
   rw [List.length_append,List.length_singleton] at hlt
   have en:n=L.length:=by omega
   subst en
   rw [zao] at e1
   rw [← h.len,zao] at e2
   cases e1
   cases e2
   exact new
theorem HRel.set (h:HRel g m L H) (e0:m[n]?=some a) (ev:Ev m H m (upd H a ho)) (new:RelO g m (upd H a ho) a o):HRel g m (L.set n o) (upd H a ho):=by
 refine ⟨by simp [h.len],h.nd,fun b hb=>?_,fun k o' b e1 e2=>?_,zhw (fun b o hb k=>?_) h.tabs,g.fzs ev h.fz⟩
 rotate_left
 rotate_left
 ·by_cases q:b=a
  ·subst q
   rcases h.kp e0 o hb with z | ⟨ob,vs,z⟩ | ⟨C,d,z⟩
   ·exact absurd k z
   ·subst z
    exact ev.frz _ _ _ hb
   ·subst z
    exact ev.ext _ _ (zoG (a:=b) (C:=C) (d:=d) rfl) hb
  ·rw [upd_ne q]
   exact hb
 ·by_cases q:b=a
  ·rw [q,upd_same]
   exact fun z=>by cases z
  ·rw [upd_ne q]
   exact h.live b hb
 ·by_cases q:k=n
  ·subst q
   rw [e0] at e2
   cases e2
   have hlt:k < L.length:=by
    have:=(List.getElem?_eq_some_iff.mp e1).1
    simpa using this
   rw [List.getElem?_set_self hlt] at e1
   cases e1
   exact new
  ·rw [List.getElem?_set_ne (Ne.symm q)] at e1
   have nb:b≠a:=fun z=>q (by
     rw [z] at e2
     exact (List.getElem?_inj (List.getElem?_eq_some_iff.mp e2).1 h.nd).mp (e2.trans e0.symm))
   exact (h.obj k o' b e1 e2).mono ev (upd_ne nb)
theorem Ev.write (h1:∀o,H a=some o→¬ Kp o):Ev m H m (upd H a ho):=
 .of List.prefix_rfl fun b o h q=>by
  rw [upd_ne fun e=>h1 o (by rw [← e]; exact h) q]
  exact h
theorem Ev.write_lst {xs:List V} (h:H a=some (.lst xs)):Ev m H m (upd H a ho):=Ev.write fun o z=>by rw [h] at z; cases z; exact id
theorem Ev.write_dct {xs:List (Key×V)} (h:H a=some (.dK xs)):Ev m H m (upd H a ho):=Ev.write fun o z=>by rw [h] at z; cases z; exact id
theorem Ev.write_ins {C dx:Addr} {fs:List (Str×V)} (h:H a=some (.ins C dx fs)):Ev m H m (upd H a ho):=Ev.write fun o z=>by rw [h] at z; cases z; exact id
end
abbrev Loc:=List (Option D)
structure LRel (g:G) (m:List Addr) (H:Hp) (ρ:Loc) (σ:L2.St):Prop where
 len:ρ.length=σ.length
 get:∀(i:Nat) (d:D), ρ[i]?=some (some d)→∃v, σ[i]?=some (some v)∧RelD g m H d v
section
variable {g:G} {m m':List Addr} {H H':Hp} {ρ:Loc} {σ:L2.St}
theorem LRel.mono (e:Ev m H m' H') (h:LRel g m H ρ σ):LRel g m' H' ρ σ:=⟨h.len,fun i d q=>by
  obtain ⟨v,h1,h2⟩:=h.get i d q
  exact ⟨v,h1,h2.mono e⟩⟩
theorem LRel.set (h:LRel g m H ρ σ) (i:Nat) {d:D} {v:V} (r:RelD g m H d v):LRel g m H (ρ.set i (some d)) (σ.set i (some v)):=by
 refine ⟨by simp [h.len],fun j e q=>?_⟩
 by_cases hj:j=i
 ·subst hj
  have hlt:j < ρ.length:=by simpa using (List.getElem?_eq_some_iff.mp q).1
  rw [List.getElem?_set_self hlt] at q
  cases q
  exact ⟨v,List.getElem?_set_self (by rw [← h.len]; exact hlt),r⟩
 ·rw [List.getElem?_set_ne (Ne.symm hj)] at q ⊢
  exact h.get j e q
theorem LRel.clear (h:LRel g m H ρ σ) (i:Nat):LRel g m H (ρ.set i none) (σ.set i none):=by
 refine ⟨by simp [h.len],fun j e q=>?_⟩
 by_cases hj:j=i
 ·subst hj
  have hlt:j < ρ.length:=by simpa using (List.getElem?_eq_some_iff.mp q).1
  rw [List.getElem?_set_self hlt] at q
  cases q
 ·rw [List.getElem?_set_ne (Ne.symm hj)] at q ⊢
  exact h.get j e q
def zaA (ρ:Loc):List Nat→Loc
 | []=>ρ
 | v::vs=>(zaA ρ vs).set v none
theorem LRel.wipe (h:LRel g m H ρ σ):∀vs:List Nat,LRel g m H (zaA ρ vs) (L2.wipe σ vs)
 | []=>h
 | v::vs=>(LRel.wipe h vs).clear v
theorem LRel.start {ds:List D} {vs:List V} {N:List Str} (r:RelDs g m H ds vs):LRel g m H (ds.map some++List.replicate (N.length - ds.length) none) (L2.start N vs):=by
 have hl:=r.length
 refine ⟨by unfold L2.start; simp [hl],fun i d q=>?_⟩
 by_cases hi:i < ds.length
 ·rw [List.getElem?_append_left (by simpa using hi),List.getElem?_map] at q
  cases e:ds[i]? with
  | none=>rw [e] at q; cases q
  | some d'=>
   rw [e] at q
   cases q
   obtain ⟨v,h1,h2⟩:=r.get e
   refine ⟨v, ?_,h2⟩
   unfold L2.start
   rw [List.getElem?_append_left (by rw [List.length_map, ← hl]; exact hi),List.getElem?_map,h1]
   rfl
 ·rw [List.getElem?_append_right (by simpa using hi),List.getElem?_replicate] at q
  split at q<;>cases q
end
def XR (g:G) (m:List Addr) (H:Hp) (fs:List (Nat×D)) (dx:Addr):Prop:=∃vfs,H dx=some (.xd vfs)∧RelF g m H fs vfs
def Post {α β:Type} (g:G) (E:XK) (R:List Addr→Hp→α→β→Prop) (m:List Addr) (H:Hp) (r:Res α) (Q:β→Hp→Prop):Prop:=match r with
 | .ok d L'=>∀m' H' v,Ev m H m' H'→HRel g m' L' H'→R m' H' d v→Q v H'
 | .exc c fs L'=>∀m' H' dx,Ev m H m' H'→HRel g m' L' H'→XR g m' H' fs dx→E (.ref (g.cad c)) (some dx) H'
 | .stk=>False
section
variable {α β γ δ:Type} {g:G} {E:XK} {R:List Addr→Hp→α→β→Prop} {R':List Addr→Hp→γ→δ→Prop} {m m':List Addr} {L L':MH} {H H':Hp} {r:Res α} {Q Q':β→Hp→Prop}
theorem Post.ev (e:Ev m H m' H') (h:Post g E R m H r Q):Post g E R m' H' r Q:=by
 cases r with
 | ok d L'=>exact fun m2 H2 v e2=>h m2 H2 v (e.trans e2)
 | exc c fs L'=>exact fun m2 H2 dx e2=>h m2 H2 dx (e.trans e2)
 | stk=>exact h
theorem Post.bind {k:α→M γ} {Q2:δ→Hp→Prop} (h:Post g E R' m H (r.bind k) Q2):
  Post g E R m H r fun v H1=>∃m1 L1 a,Ev m H m1 H1∧HRel g m1 L1 H1∧R m1 H1 a v∧Post g E R' m1 H1 (k a L1) Q2:=by
 cases r with
 | ok d L'=>exact fun m1 H1 v e hr rd=>⟨m1,L',d,e,hr,rd,h.ev e⟩
 | exc c fs L'=>exact h
 | stk=>exact h
theorem Post.imp (h:Post g E R m H r Q) (hq:∀v H',Q v H'→Q' v H'):Post g E R m H r Q':=by
 cases r with
 | ok d L'=>exact fun m1 H1 v e hr rd=>hq _ _ (h m1 H1 v e hr rd)
 | exc c fs L'=>exact h
 | stk=>exact h
theorem Post.at (h:Post g E R m H (.ok a L) Q) {v:β} (hr:HRel g m L H) (rd:R m H a v):Q v H:=h m H v (Ev.refl _ _) hr rd
theorem Post.atE (h:Post g E R m H (.ok a L) Q) {v:β} (e:Ev m H m' H') (hr:HRel g m' L H') (rd:R m' H' a v):Q v H':=h m' H' v e hr rd
theorem Post.quiet (h:Post g E R m H r.quiet Q) (E':XK):Post g E' R m H r Q:=by
 cases r with
 | ok d L'=>exact h
 | exc c fs L'=>exact h.elim
 | stk=>exact h
end
abbrev RD (g:G):List Addr→Hp→D→V→Prop:=RelD g
abbrev RDs (g:G):List Addr→Hp→List D→List V→Prop:=RelDs g
def REq {α:Type}:List Addr→Hp→α→α→Prop:=fun _ _ a b=>a=b
def tM (g:G) (W:WX) (f:Loc→M D):TE:=fun σ H Q=>∃m L ρ,HRel g m L H∧LRel g m H ρ σ∧Post g (fun c d H'=>W c d σ H') (RD g) m H (f ρ L) Q
def tMT (g:G) (W:WX) (f:Loc→M Bool):TT:=fun σ H Q=>∃m L ρ,HRel g m L H∧LRel g m H ρ σ∧Post g (fun c d H'=>W c d σ H') REq m H (f ρ L) Q
def tMA (g:G) (W:WX) (f:Loc→M (List D)):TA:=fun σ H Q=>∃m L ρ,HRel g m L H∧LRel g m H ρ σ∧Post g (fun c d H'=>W c d σ H') (RDs g) m H (f ρ L) Q
section
variable {X:Cx} {e:Expr} {es:List Expr} {st:Stmt} {sts:List Stmt}
theorem zaq {t t':TE} (h:PE X e t) (k:∀ σ H Q,t' σ H Q→t σ H Q):PE X e t':=⟨fun pins s σ H Q I q=>h.run pins s σ H Q I (k σ H Q q)⟩
theorem zhk {t t':TT} (h:PT X e t) (k:∀ σ H Q,t' σ H Q→t σ H Q):PT X e t':=⟨fun pins s σ H Q I q=>h.run pins s σ H Q I (k σ H Q q)⟩
theorem zfl {t t':TA} (h:PA X es t) (k:∀ σ H Q,t' σ H Q→t σ H Q):PA X es t':=⟨fun pos pins s σ H Q I q=>h.run pos pins s σ H Q I (k σ H Q q)⟩
theorem zaG {t t':TS} (h:PS X st t) (k:∀D σ H,t' D σ H→t D σ H):PS X st t':=⟨fun pins s σ H D I q=>h.run pins s σ H D I (k D σ H q)⟩
theorem zgu {t t':TS} (h:PSs X sts t) (k:∀D σ H,t' D σ H→t D σ H):PSs X sts t':=⟨fun pins s σ H D I q=>h.run pins s σ H D I (k D σ H q)⟩
theorem zlV {t t':TT} (h:PW X e t) (k:∀ σ H Q,t' σ H Q→t σ H Q):PW X e t':=⟨fun wh pins s σ H Q I q=>h.run wh pins s σ H Q I (k σ H Q q)⟩
end
end Mi
end
section
set_option maxHeartbeats 4000000
namespace Mi
open PySem PySem.Spec PyProof.Rows L2 LamX
section
variable {X:Cx} {pins:List (Addr×Obj)} {σ:L2.St} {H Ho:Hp} {s so:Shared}
end
end Mi
end
section
set_option maxHeartbeats 4000000
namespace Mi
open PySem PySem.Spec PyProof.Rows L2 LamX
def G.wz (g:G) (F:List Addr→Hp→Prop) (hF:∀ {m m':List Addr} {H H':Hp},Ev m H m' H'→F m H→F m' H'):G:={ g with fz:=F,fzs:=hF }
section
variable {g:G} {F:List Addr→Hp→Prop} {hF:∀ {m m':List Addr} {H H':Hp},Ev m H m' H'→F m H→F m' H'} {m:List Addr} {H:Hp}
theorem CloAt.wz {j:Nat} {f:Addr} (h:CloAt g H j f):CloAt (g.wz F hF) H j f:=h
theorem CloAt.uz {j:Nat} {f:Addr} (h:CloAt (g.wz F hF) H j f):CloAt g H j f:=h
mutual
theorem RelD.wz:∀ {d:D} {v:V},RelD g m H d v→RelD (g.wz F hF) m H d v
 | _,_,.non=>.non
 | _,_,.bl b=>.bl b
 | _,_,.int i=>.int i
 | _,_,.str s=>.str s
 | _,_,.ty n=>.ty n
 | _,_,.ref h=>.ref h
 | _,_,.glo k=>.glo (g:=g.wz F hF) k
 | _,_,.tup h r=>.tup h (RelDs.wz r)
 | _,_,.fzl h r=>.fzl h (RelDs.wz r)
 | _,_,.clo h=>.clo h.wz
theorem RelDs.wz:∀ {ds:List D} {vs:List V},RelDs g m H ds vs→RelDs (g.wz F hF) m H ds vs
 | _,_,.nil=>.nil
 | _,_,.cons h r=>.cons (RelD.wz h) (RelDs.wz r)
end
mutual
theorem RelD.uz:∀ {d:D} {v:V},RelD (g.wz F hF) m H d v→RelD g m H d v
 | _,_,.non=>.non
 | _,_,.bl b=>.bl b
 | _,_,.int i=>.int i
 | _,_,.str s=>.str s
 | _,_,.ty n=>.ty n
 | _,_,.ref h=>.ref h
 | _,_,.glo k=>.glo (g:=g) k
 | _,_,.tup h r=>.tup h (RelDs.uz r)
 | _,_,.fzl h r=>.fzl h (RelDs.uz r)
 | _,_,.clo h=>.clo h.uz
theorem RelDs.uz:∀ {ds:List D} {vs:List V},RelDs (g.wz F hF) m H ds vs→RelDs g m H ds vs
 | _,_,.nil=>.nil
 | _,_,.cons h r=>.cons (RelD.uz h) (RelDs.uz r)
end
theorem RelF.wz:∀ {fs:List (Nat×D)} {vs:List (Str×V)},RelF g m H fs vs→RelF (g.wz F hF) m H fs vs
 | _,_,.nil=>.nil
 | _,_,.cons h r=>.cons (g:=g.wz F hF) h.wz (RelF.wz r)
theorem RelF.uz:∀ {fs:List (Nat×D)} {vs:List (Str×V)},RelF (g.wz F hF) m H fs vs→RelF g m H fs vs
 | _,_,.nil=>.nil
 | _,_,.cons h r=>.cons (g:=g) h.uz (RelF.uz r)
theorem RelK.wz:∀ {fs:List (Key×D)} {vs:List (Key×V)},RelK g m H fs vs→RelK (g.wz F hF) m H fs vs
 | _,_,.nil=>.nil
 | _,_,.cons h r=>.cons h.wz (RelK.wz r)
theorem RelK.uz:∀ {fs:List (Key×D)} {vs:List (Key×V)},RelK (g.wz F hF) m H fs vs→RelK g m H fs vs
 | _,_,.nil=>.nil
 | _,_,.cons h r=>.cons h.uz (RelK.uz r)
theorem RelN.wz:∀ {fs:List (D×D)} {vs:List (NestedKey×Addr×V)},RelN g m H fs vs→RelN (g.wz F hF) m H fs vs
 | _,_,.nil=>.nil
 | _,_,.cons q hi h r=>.cons q hi.wz h.wz (RelN.wz r)
theorem RelN.uz:∀ {fs:List (D×D)} {vs:List (NestedKey×Addr×V)},RelN (g.wz F hF) m H fs vs→RelN g m H fs vs
 | _,_,.nil=>.nil
 | _,_,.cons q hi h r=>.cons q hi.uz h.uz (RelN.uz r)
theorem RelO.wz {a:Addr}:∀ {o:O},RelO g m H a o→RelO (g.wz F hF) m H a o
 | .dct kvs,⟨vs,h1,h2⟩=>⟨vs,h1,h2.wz⟩
 | .ktp kvs,⟨ob,vs,h1,h0,h2⟩=>⟨ob,vs,h1,h0,h2.wz⟩
 | .lst ds,⟨vs,h1,h2⟩=>⟨vs,h1,h2.wz⟩
 | .ins c fs,⟨dx,vfs,h1,h2⟩=>⟨dx,vfs,h1,h2.wz⟩
 | .nd kvs,⟨xs,h1,h0,h2⟩=>⟨xs,h1,h0,h2.wz⟩
 | .exn c k,⟨dx,h1,h2⟩=>⟨dx,h1,h2⟩
 | .xdt fs,⟨vfs,h1,h2⟩=>⟨vfs,h1,h2.wz⟩
theorem RelO.uz {a:Addr}:∀ {o:O},RelO (g.wz F hF) m H a o→RelO g m H a o
 | .dct kvs,⟨vs,h1,h2⟩=>⟨vs,h1,h2.uz⟩
 | .ktp kvs,⟨ob,vs,h1,h0,h2⟩=>⟨ob,vs,h1,h0,h2.uz⟩
 | .lst ds,⟨vs,h1,h2⟩=>⟨vs,h1,h2.uz⟩
 | .ins c fs,⟨dx,vfs,h1,h2⟩=>⟨dx,vfs,h1,h2.uz⟩
 | .nd kvs,⟨xs,h1,h0,h2⟩=>⟨xs,h1,h0,h2.uz⟩
 | .exn c k,⟨dx,h1,h2⟩=>⟨dx,h1,h2⟩
 | .xdt fs,⟨vfs,h1,h2⟩=>⟨vfs,h1,h2.uz⟩
end
structure Cels where
 at_:Addr→Prop
 ob:Addr→Obj
open Classical in
noncomputable def trk (B:Cels) (H:Hp):Hp:=fun b=>if B.at_ b then some (.frz (B.ob b) (.own b)) else H b
open Classical in
noncomputable def unk (B:Cels) (H:Hp):Hp:=fun b=>if B.at_ b then none else H b
section
variable {B:Cels} {H H':Hp} {b:Addr} {o:HO} {m m':List Addr} {L:MH} {g:G}
theorem zp4 (h:¬ B.at_ b):trk B H b=H b:=if_neg h
theorem zqF (h:¬ B.at_ b):unk B H b=H b:=if_neg h
def Has (B:Cels) (H:Hp):Prop:=∀b,B.at_ b→H b=some (.frz (B.ob b) (.own b))
def Bare (B:Cels) (H:Hp):Prop:=∀b,B.at_ b→H b=none
theorem Bare.ncel (h:Bare B H) (e:H b=some o):¬ B.at_ b:=fun q=>by rw [h b q] at e; cases e
theorem Bare.trk (h:Bare B H) (e:H b=some o):trk B H b=some o:=by rw [zp4 (h.ncel e)]; exact e
theorem Has.unk (h:Has B H) (e:H b=some o) (no:∀u,o≠.frz u (.own b)):unk B H b=some o:=by
 have:¬ B.at_ b:=fun q=>by
  rw [h b q] at e
  exact no _ (Option.some.inj e).symm
 rw [zqF this]
 exact e
theorem zmI {K:PySem.W.Frag} {a:Addr} {xs:List V} (h:Has B H) (e:SqT K H a xs):SqT K (Mi.unk B H) a xs:=by
 rcases e with (e | ⟨o,e⟩) | e
 ·exact .inl (.inl (h.unk e fun u z=>by cases z))
 ·exact .inl (.inr ⟨o,h.unk e fun u z=>by cases z⟩)
 ·exact .inr e
theorem zmp {K:PySem.W.Frag} {a:Addr} {xs:List V} (h:Has B H) (e:FzL K H a xs):FzL K (Mi.unk B H) a xs:=by
 rcases e with ⟨o,e⟩ | e
 ·exact .inl ⟨o,h.unk e fun u z=>by cases z⟩
 ·exact .inr e
theorem znm {j:Nat} {f:Addr} (h:Has B H) (e:CloAt g H j f):CloAt g (Mi.unk B H) j f:=by
 rcases e with ⟨l,c',dV,h1,h2,h3,h4⟩ | ⟨q,cl,l,c',dV,h1,h2⟩
 case inr=>exact .inr ⟨q,cl,l,c',dV,h1,h.unk h2 fun u z=>by
   unfold LamO at z
   cases z⟩
 refine .inl ⟨l,c',dV,h1,h.unk h2 fun u z=>?_,h.unk h3 fun u z=>?_, ?_⟩
 ·unfold LamO at z
  cases z
 ·unfold CodeO at z
  cases z
 ·rcases h4 with h4 | ⟨h4,t,h5,h6⟩
  ·exact .inl h4
  ·exact .inr ⟨h4,t,h5,h.unk h6 fun u z=>by cases z⟩
mutual
theorem zli (h:Has B H):∀ {d:D} {v:V},RelD g m H d v→RelD g m (Mi.unk B H) d v
 | _,_,.non=>.non
 | _,_,.bl b=>.bl b
 | _,_,.int i=>.int i
 | _,_,.str s=>.str s
 | _,_,.ty n=>.ty n
 | _,_,.ref h=>.ref h
 | _,_,.glo k=>.glo k
 | _,_,.tup q r=>.tup (zmI h q) (relDs_unk h r)
 | _,_,.fzl q r=>.fzl (zmp h q) (relDs_unk h r)
 | _,_,.clo q=>.clo (znm h q)
theorem relDs_unk (h:Has B H):∀ {ds:List D} {vs:List V},RelDs g m H ds vs→RelDs g m (Mi.unk B H) ds vs
 | _,_,.nil=>.nil
 | _,_,.cons q r=>.cons (zli h q) (relDs_unk h r)
end
end
end Mi
end
section
set_option maxHeartbeats 4000000
namespace Mi
open PySem PySem.Spec PyProof.Rows L2 LamX
section
variable {X:Cx} {pins:List (Addr×Obj)} {σ:L2.St} {H0 H:Hp} {s0 s1:Shared} {N:List Str} {sc:Scope} {l:LamD}
end
end Mi
end
section
set_option maxHeartbeats 4000000
namespace Mi
open PySem PySem.Spec PyProof.Rows
def ltN:List Nat→List Nat→Bool
 | [],[]=>false
 | [],_::_=>true
 | _::_,[]=>false
 | a::x,b::y=>decide (a < b)||(decide (a=b)&&ltN x y)
def insT (x:Str):List Str→List Str
 | []=>[x]
 | y::r=>if x=y then y::r else if ltN x.cps.toList y.cps.toList=true then x::y::r else y::insT x r
def srtT:List Str→List Str
 | []=>[]
 | x::r=>insT x (srtT r)
def insI (x:Int):List Int→List Int
 | []=>[x]
 | y::r=>if x < y then x::y::r else if x=y then y::r else y::insI x r
def srtI:List Int→List Int
 | []=>[]
 | x::r=>insI x (srtI r)
end Mi
end
section
set_option maxHeartbeats 4000000
namespace Mi
open PySem PySem.Spec L2
mutual
def dat (L:MH):Nat→D→Option PyData
 | _,.non=>some .none
 | _,.bl b=>some (.bool b)
 | _,.int i=>some (.int i)
 | _,.str s=>some (.str s)
 | 0,_=>none
 | n+1,.tup xs=>(dats L n xs).map .tuple
 | n+1,.fzl xs=>(dats L n xs).map .list
 | n+1,.ref a=>(match L[a]? with
   | some (.lst xs)=>(dats L n xs).map .list
   | _=>none)
 | _,_=>none
def dats (L:MH):Nat→List D→Option (List PyData)
 | _,[]=>some []
 | 0,_::_=>none
 | n+1,x::xs=>(dat L n x).bind fun d=>(dats L (n+1) xs).map (d::·)
end
def zoy:D→D→Bool
 | .non,.non=>true | .non,.int _=>true | .int _,.non=>true | .non,.bl _=>true | .bl _,.non=>true | .non,.str _=>true | .str _,.non=>true
 | .int _,.int _=>true | .bl _,.bl _=>true | .str _,.str _=>true
 | .int _,.str _=>true | .str _,.int _=>true | .bl _,.str _=>true | .str _,.bl _=>true
 | _,_=>false
def eqS:D→D→Bool
 | .non,.non=>true
 | .int a,.int b=>decide (a=b)
 | .bl a,.bl b=>decide (a=b)
 | .str a,.str b=>decide (a=b)
 | _,_=>false
def eqD (L:MH) (d e:D):Option Bool:=if zoy d e then some (eqS d e) else (dat L 80 d).bind fun x=>(dat L 80 e).bind fun y=>if SeqAt.shaped x&&SeqAt.shaped y then some (PyData.eqv x y) else none
def zbE:D→Bool
 | .non=>true
 | .bl _=>true
 | .int _=>true
 | .str _=>true
 | _=>false
def eqf:D→D→Bool
 | .non,.non=>true
 | .bl a,.bl b=>a==b
 | .bl a,.int b=>(if a then 1 else 0)==b
 | .int a,.bl b=>a==(if b then 1 else 0)
 | .int a,.int b=>a==b
 | .str a,.str b=>a==b
 | _,_=>false
def seqD (L:MH):D→Option (List D)
 | .tup xs=>some xs
 | .fzl xs=>some xs
 | .ref a=>(match L[a]? with
   | some (.lst xs)=>some xs
   | some (.ktp xs)=>some xs
   | _=>none)
 | _=>none
def zaD (L:MH):D→Option (List D)
 | .fzl xs=>some xs
 | .ref a=>(match L[a]? with
   | some (.lst xs)=>some xs
   | _=>none)
 | _=>none
def inD (L:MH) (x:D):D→Option Bool
 | .str t=>(match x with
   | .str s=>some (!(Builtin.Str.occurrences t s 0 t.length 1).isEmpty)
   | _=>none)
 | y=>(seqD L y).bind fun xs=>if zbE x&&xs.all zbE then some (xs.any fun z=>eqf z x) else
   (dat L 80 x).bind fun a=>(dat L 80 y).bind fun b=>(match b with
     | .list bs=>if SeqAt.shaped a&&SeqAt.shaped (.list bs) then some (bs.any fun z=>PyData.eqv z a) else none
     | _=>none)
def okI (i:Int):Bool:=decide (-(2 ^ 64) < i)&&decide (i < 2 ^ 64)
def zad (n:Nat):Bool:=decide (n≤16777216)
def newL (xs:List D):M D:=fun L=>.ok (.ref L.length) (L++[.lst xs])
def binD (o:BOp) (d e:D):M D:=fun L=>match o,d,e with
 | .add,.int i,.int j=>.ok (.int (i+j)) L
 | .add,.str s,.str t=>if zad (s.length+t.length) then .ok (.str (s++t)) L else .stk
 | .add,.tup xs,.tup ys=>if zad (xs.length+ys.length) then .ok (.tup (xs++ys)) L else .stk
 | .add,.ref a,.ref b=>(match L[a]?,L[b]? with
   | some (.lst xs),some (.lst ys)=>if zad (xs.length+ys.length) then newL (xs++ys) L else .stk
   | _,_=>.stk)
 | .sub,.int i,.int j=>.ok (.int (i - j)) L
 | .mul,.int i,.int j=>if okI i||okI j then .ok (.int (i*j)) L else .stk
 | .mul,.ref a,.int j=>(match L[a]? with
   | some (.lst xs)=>if decide (-1000≤j)&&decide (j≤1000)&&decide (xs.length≤1000) then newL (List.replicate j.toNat xs).flatten L else .stk
   | _=>.stk)
 | .mul,.tup xs,.int j=>if decide (0≤j)&&decide (j≤1000)&&decide (xs.length≤1000)&&!xs.isEmpty then .ok (.tup (List.replicate j.toNat xs).flatten) L else .stk
 | .fdiv,.int i,.int j=>if decide (j≠0)&&decide (j.natAbs < 1073741824) then .ok (.int (i.fdiv j)) L else .stk
 | .mod,.int i,.int j=>if decide (j≠0) then .ok (.int (i.fmod j)) L else .stk
 | .pow,.int i,.int j=>if decide (0≤j)&&decide (j≤1000000)&&decide (i.natAbs < 2 ^ 64) then .ok (.int (i ^ j.toNat)) L else .stk
 | .mul,.str x,.int j=>if decide (0≤j)&&decide (j≤1000)&&decide (x.length≤1000) then .ok (.str (Txt.mul x j)) L else .stk
 | _,_,_=>.stk
def isbD (neg p:Bool):D→Option D
 | .bl q=>some (.bl (if neg then !decide (q=p) else decide (q=p)))
 | _=>none
def negD:D→Option D
 | .int i=>some (.int (-i))
 | _=>none
def cmpD (L:MH):CmpOp→D→D→Option Bool
 | .Eq,d,e=>eqD L d e
 | .NotEq,d,e=>(eqD L d e).map (!·)
 | .Lt,.int i,.int j=>some (decide (i < j))
 | .LtE,.int i,.int j=>some (decide (i≤j))
 | .Gt,.int i,.int j=>some (decide (j < i))
 | .GtE,.int i,.int j=>some (decide (j≤i))
 | .In,d,e=>inD L d e
 | .NotIn,d,e=>(inD L d e).map (!·)
 | _,_,_=>none
def zeS:D→Bool
 | .non=>true
 | _=>false
def truD (L:MH):D→Option Bool
 | .non=>some false
 | .bl b=>some b
 | .int i=>some (i != 0)
 | .str s=>if zad s.length then some (s.length != 0) else none
 | d=>(seqD L d).map fun xs=>!xs.isEmpty
def ixD (L:MH) (d i:D):Option D:=match i with
 | .int i=>(match d with
   | .str s=>if zad s.length then (atI s.cps.toList i).map fun c=>.str ⟨#[c]⟩ else none
   | d=>(seqD L d).bind fun xs=>atI xs i)
 | _=>none
def cutD (xs:List D) (lo hi:Option Int):List D:=(xs.drop (HT.sIx xs.length 0 lo)).take (HT.sIx xs.length xs.length hi - HT.sIx xs.length 0 lo)
def slD (d:D) (lo hi:Option Int):M D:=fun L=>match d with
 | .str s=>if zad s.length then .ok (.str (Txt.slice s lo hi)) L else .stk
 | .tup xs=>.ok (.tup (cutD xs lo hi)) L
 | d=>(match zaD L d with
   | some xs=>newL (cutD xs lo hi) L
   | none=>.stk)
def intD:D→Option Int
 | .int i=>some i
 | _=>none
def strD:D→Option Str
 | .str s=>some s
 | _=>none
def blD:D→Option Bool
 | .bl b=>some b
 | _=>none
def zfE (L:MH):D→Option (List (Key×D))
 | .ref a=>(match L[a]? with
   | some (.dct kvs)=>some kvs
   | _=>none)
 | _=>none
def biD (b:Bi) (ds:List D):M D:=fun L=>match b,ds with
 | .len,[.str s]=>if zad s.length then .ok (.int s.length) L else .stk
 | .len,[d]=>(match seqD L d with
   | some xs=>.ok (.int xs.length) L
   | none=>(match zfE L d with
     | some kvs=>.ok (.int kvs.length) L
     | none=>.stk))
 | .all,[d]=>(match (zaD L d).bind (mapO blD) with
   | some bs=>.ok (.bl (bs.all id)) L
   | none=>.stk)
 | .any,[d]=>(match (zaD L d).bind (mapO blD) with
   | some bs=>.ok (.bl (bs.any id)) L
   | none=>.stk)
 | .abs,[.int i]=>.ok (.int (if i < 0 then -i else i)) L
 | .int1,[.int i]=>.ok (.int i) L
 | .int1,[.bl k]=>.ok (.int (if k then 1 else 0)) L
 | .int1,[.str s]=>if decide (s.length≤640) then (match PySem.intText? s with
   | some n=>.ok (.int n) L
   | none=>.stk) else .stk
 | .list1,[d]=>(match seqD L d with
   | some xs=>newL xs L
   | none=>.stk)
 | .tuple1,[.tup xs]=>.ok (.tup xs) L
 | .tuple1,[d]=>(match zaD L d with
   | some xs=>.ok (.tup xs) L
   | none=>.stk)
 | .str1,[.int i]=>if decide (i.natAbs.log2 < 1920) then .ok (.str (toString i)) L else .stk
 | .str1,[.str s]=>.ok (.str s) L
 | .sum,[d]=>(match (zaD L d).bind (mapO intD) with
   | some ns=>.ok (.int ns.sum) L
   | none=>.stk)
 | _,_=>.stk
def znd (d:D):M D:=fun L=>match (seqD L d).bind (mapO strD) with
 | some ys=>if decide (ys.length≤30) then .ok (.int (ys.eraseDups.length:Nat)) L else .stk
 | none=>(match (zaD L d).bind (mapO intD) with
   | some ns=>if decide (ns.length≤30) then .ok (.int (ns.eraseDups.length:Nat)) L else .stk
   | none=>.stk)
def srtD (d:D):M D:=fun L=>match (seqD L d).bind (mapO strD) with
 | some ys=>if decide (ys.length≤30) then newL ((srtT ys).map .str) L else .stk
 | none=>(match (zaD L d).bind (mapO intD) with
   | some ns=>if decide (ns.length≤30) then newL ((srtI ns).map .int) L else .stk
   | none=>.stk)
def ktuD (d:D):M D:=fun L=>match d with
 | .tup xs=>.ok (.tup xs) L
 | .ref n=>(match L[n]? with
   | some (.lst xs)=>.ok (.ref L.length) (L++[.ktp xs])
   | some (.ktp _)=>.ok (.ref n) L
   | _=>.stk)
 | _=>.stk
def unkD (L:MH) (d:D):D:=match d with
 | .ref n=>(match L[n]? with
   | some (.ktp xs)=>.tup xs
   | _=>.ref n)
 | d=>d
def ktpB (L:MH) (d:D):Bool:=match d with
 | .ref n=>(match L[n]? with
   | some (.ktp _)=>true
   | _=>false)
 | _=>false
def tixD (L:MH) (d e:D):Option D:=match d,e with
 | .ref n,.str s=>(match L[n]? with
   | some (.ktp xs)=>(mapO strD xs).bind fun ys=>(ys.findIdx? fun z=>decide (z=s)).map fun j=>.int (j:Nat)
   | _=>none)
 | _,_=>none
def bmD (b:Bm) (o:D) (ds:List D):M D:=fun L=>match b,o,ds with
 | .join,.str a,[d]=>(match (seqD L d).bind (mapO strD) with
   | some ys=>if decide ((ys.map (·.length)).sum+ys.length*a.length≤16777216) then .ok (.str (Txt.join a ys)) L else .stk
   | none=>.stk)
 | .append,.ref l,[d]=>(match L[l]? with
   | some (.lst xs)=>if decide (xs.length < 16777216) then .ok .non (L.set l (.lst (xs++[d]))) else .stk
   | _=>.stk)
 | .insert,.ref l,[.int i,d]=>(match L[l]? with
   | some (.lst xs)=>if decide (xs.length < 16777216)&&decide (0≤i)&&decide (i < 2 ^ 63) then .ok .non (L.set l (.lst (xs.take i.toNat++[d]++xs.drop i.toNat))) else .stk
   | _=>.stk)
 | .split,.str a,[.str b]=>if decide ((b.length==0)=false)&&zad (a.length+2) then newL ((Txt.split a b).map .str) L else .stk
 | .part,.str a,[.str b]=>if decide ((b.length==0)=false)&&zad a.length then .ok (.tup [.str (Txt.partition a b).1,.str (Txt.partition a b).2.1,.str (Txt.partition a b).2.2]) L else .stk
 | .ext,.ref l,[.ref k]=>(match L[l]?,L[k]? with
   | some (.lst xs),some (.lst ys)=>if zad (xs.length+ys.length) then .ok .non (L.set l (.lst (xs++ys))) else .stk
   | _,_=>.stk)
 | .lindex,o,[d]=>(match zaD L o with
   | some xs=>if zbE d&&xs.all zbE then (match xs.findIdx? fun z=>eqf z d with
     | some j=>.ok (.int (j:Nat)) L
     | none=>.stk) else (match dat L 80 o,dat L 80 d with
       | some (.list zs),some z=>if SeqAt.shaped z&&SeqAt.shaped (.list zs) then (match zs.findIdx? fun y=>PyData.eqv y z with
         | some j=>.ok (.int (j:Nat)) L
         | none=>.stk) else .stk
       | _,_=>.stk)
   | none=>.stk)
 | .starts,.str a,[.str b]=>.ok (.bl (Txt.startswith a b)) L
 | .ends,.str a,[.str b]=>.ok (.bl (Txt.endswith a b)) L
 | _,_,_=>.stk
def zb3 (L:MH):D→Option Tag
 | .non=>some .non
 | .bl _=>some .bl
 | .int _=>some .int
 | .str _=>some .str
 | .tup _=>some .tup
 | .fzl _=>some .lst
 | .ref a=>(match L[a]? with
   | some (.lst _)=>some .lst
   | some (.ins c _)=>some (.ins c)
   | _=>none)
 | _=>none
def zg5:Bm→Tag
 | .join=>.str | .append=>.lst | .insert=>.lst | .split=>.str | .part=>.str | .starts=>.str | .ends=>.str | .ext=>.lst | .lindex=>.lst
def zbb {κ α:Type} [BEq κ] (ps:List κ) (np:Nat) (dfl:List (Option α)) (vs:List α) (ks:List κ) (zs:List α):Option (List α):=
 if (decide (vs.length≤np)&&decide (ks.length=zs.length)&&ks.all fun k=>(ps.drop vs.length).contains k) then
  mapO (fun p=>((ps.zip vs++ks.zip zs).lookup p.1).or p.2) (ps.zip dfl)
 else none
def zcI (fd:Fd) (vs:List D) (ks:List Nat) (zs:List D):Option (List D):=if fd.va then
  (if zad (vs.length - fd.np) then (zbb fd.ps.dropLast fd.np fd.dfl (vs.take fd.np) ks zs).map fun ds=>ds++[.tup (vs.drop fd.np)] else none)
 else zbb fd.ps fd.np fd.dfl vs ks zs
section
variable (T:Tb) (C:Nat→List D→M D)
def tyIs (L:MH) (d:D) (t:Ty):Option Bool:=(zb3 L d).bind fun k=>T.kit k t
def zav (L:MH) (d:D) (ts:List Ty):Option Bool:=(mapO (tyIs T L d) ts).map fun bs=>bs.any id
def mkxD (c:Nat) (ds:List D) (ks:List Str) (zs:List D):M D:=match (zbb (T.exp c) (T.exp c).length (List.replicate (T.exp c).length none) ds ks zs).bind (T.exi c) with
 | some fs=>fun L=>.ok (.ref (L.length+1)) (L++[.xdt fs]++[.exn c L.length])
 | none=>zas
def zal (L:MH):D→Option (Nat×List (Nat×D))
 | .ref n=>(match L[n]? with
   | some (.exn c k)=>(match L[k]? with
     | some (.xdt fs)=>some (c,fs)
     | _=>none)
   | _=>none)
 | _=>none
def atxD (n:Nat) (d:D):M D:=fun L=>match zal L d with
 | some (c,fs)=>if T.xat c n then (match fs.lookup n with
   | some x=>.ok x L
   | none=>.stk) else .stk
 | none=>.stk
def isxD (t:Ty) (d:D):M D:=fun L=>match zal L d with
 | some (c,_)=>(match T.kix c t with
   | some b=>.ok (.bl b) L
   | none=>.stk)
 | none=>.stk
def zaI (f:Nat) (vs:List D) (ks:List Nat) (zs:List D):M D:=match (T.fn f).bind fun fd=>zcI fd vs ks zs with
 | some ds=>C f ds
 | none=>zas
def zdf (L:MH):D→Option (Nat×List (Nat×D))
 | .ref a=>(match L[a]? with
   | some (.ins c fs)=>some (c,fs)
   | _=>none)
 | _=>none
def suV (ρ:Loc) (L:MH) (q:Nat×Option Nat):Option D:=match ρ[q.1]? with
 | some (some d)=>(match q.2 with
   | none=>some d
   | some n=>(match zdf L d with
     | some (c,fs)=>(match T.prop c n,fs.lookup n with
       | none,some e=>if T.noat c n then some e else none
       | _,_=>none)
     | none=>none))
 | _=>none
def zos (o:D) (n:Nat):M D:=fun L=>match zdf L o with
 | some (c,fs)=>(match T.prop c n with
   | some f=>(zaI T C f [o] [] [] L).quiet
   | none=>match fs.lookup n with
     | some d=>if T.noat c n then .ok d L else .stk
     | none=>(match T.ccon c n with
       | some d=>.ok d L
       | none=>.stk))
 | none=>.stk
def eqoD (neg:Bool) (d e:D):M D:=fun L=>match zdf L d,zb3 L e with
 | some (c,_),some t=>(match T.eqf c t with
   | some f=>(zaI T C f [d,e] [] [] L).quiet.bind fun r=>(match r with
     | .bl b=>ret (.bl (if neg then !b else b))
     | _=>zas)
   | none=>.stk)
 | _,_=>.stk
def zpj (na nb N:Nat):Nat→M D
 | 0=>fun L=>match L[na]?,L[nb]? with
  | some (.lst xs),some (.lst ys)=>if xs.length=N∧ys.length=N then .ok (.bl true) L else .stk
  | _,_=>.stk
 | k+1=>fun L=>match L[na]?,L[nb]? with
  | some (.lst xs),some (.lst ys)=>if xs.length=N∧ys.length=N then (match xs[N - (k+1)]?,ys[N - (k+1)]? with
    | some (.ref p),some (.ref q)=>if p=q then .stk else (eqoD T C false (.ref p) (.ref q) L).bind fun r=>(match r with
      | .bl true=>zpj na nb N k
      | _=>zas)
    | _,_=>.stk) else .stk
  | _,_=>.stk
def eqlD (neg:Bool) (d e:D):M D:=fun L=>match d,e with
 | .ref a,.ref b=>if a=b then .stk else (match L[a]? with
   | some (.lst xs)=>(zpj T C a b xs.length xs.length L).quiet.bind fun _=>ret (.bl (!neg))
   | _=>.stk)
 | _,_=>.stk
def inoD (neg:Bool) (d e:D):M D:=fun L=>match zdf L e with
 | some (c,_)=>(match T.cnf c with
   | some f=>(zaI T C f [e,d] [] [] L).quiet.bind fun r=>(match r with
     | .bl b=>ret (.bl (if neg then !b else b))
     | _=>zas)
   | none=>.stk)
 | none=>.stk
def zl3 (d:D):M D:=fun L=>match zdf L d with
 | some (c,_)=>(match T.rpf c with
   | some f=>(zaI T C f [d] [] [] L).quiet.bind fun r=>(match r with
     | .str s=>ret (.str s)
     | _=>zas)
   | none=>.stk)
 | none=>.stk
def zrD (d:D):M D:=fun L=>match zdf L d with
 | some (c,_)=>(match T.lnf c with
   | some f=>(zaI T C f [d] [] [] L).quiet.bind fun r=>(match r with
     | .int i=>if 0≤i∧i < 1099511627776 then ret (.int i) else zas
     | _=>zas)
   | none=>.stk)
 | none=>.stk
def zkU (c:Nat) (vs:List D) (ks:List Nat) (zs:List D):M D:=fun L=>match T.init c with
 | some f=>(zaI T C f (.ref L.length::vs) ks zs (L++[.ins c []])).bind fun r L1=>if zeS r then .ok (.ref L.length) L1 else .stk
 | none=>.stk
def ziq (o:D) (n:Nat) (d:D):M Unit:=fun L=>match o with
 | .ref a=>(match L[a]? with
   | some (.ins c fs)=>if T.noat c n&&decide (fs.length < 1000) then .ok () (L.set a (.ins c (putN n d fs))) else .stk
   | _=>.stk)
 | _=>.stk
def zgo (o i d:D):M Unit:=fun L=>match o,i with
 | .ref a,.int k=>(match L[a]? with
   | some (.lst xs)=>(match ixN xs.length k with
     | some j=>.ok () (L.set a (.lst (xs.set j d)))
     | none=>.stk)
   | _=>.stk)
 | _,_=>.stk
def fmtD:D→Option Str
 | .str s=>if zad s.length then some s else none
 | .int i=>if decide (i.natAbs.log2 < 1920) then some (toString i) else none
 | _=>none
end
inductive Src where
 | lst (a:Nat) | val (xs:List D)
def zcz (L:MH):D→Option Src
 | .tup xs=>some (.val xs)
 | .fzl xs=>some (.val xs)
 | .str s=>if zad s.length then some (.val (s.cps.toList.map fun c=>.str ⟨#[c]⟩)) else none
 | .ref a=>(match L[a]? with
   | some (.lst _)=>some (.lst a)
   | _=>none)
 | _=>none
def Src.at (L:MH) (s:Src) (i:Nat):Option (Option D):=match s with
 | .val xs=>some xs[i]?
 | .lst a=>(match L[a]? with
   | some (.lst xs)=>some xs[i]?
   | _=>none)
def Src.len (L:MH):Src→Nat
 | .val xs=>xs.length
 | .lst a=>(match L[a]? with
   | some (.lst xs)=>xs.length
   | _=>0)
inductive Wk where
 | src (s:Src) | rng (lo:Int) (n:Nat) | enum (s:Src) | zip (s t:Src) | enz (s t:Src) | zp3 (s t u:Src)
def Wk.at (L:MH) (w:Wk) (i:Nat):Option (Option D):=match w with
 | .src s=>s.at L i
 | .rng lo n=>some (if i < n then some (.int (lo+i)) else none)
 | .enum s=>(s.at L i).map fun o=>o.map fun x=>.tup [.int i,x]
 | .zip s t=>(s.at L i).bind fun o=>(t.at L i).map fun p=>(match o,p with
   | some x,some y=>some (.tup [x,y])
   | _,_=>none)
 | .enz s t=>(s.at L i).bind fun o=>(t.at L i).map fun p=>(match o,p with
   | some x,some y=>some (.tup [.int i,.tup [x,y]])
   | _,_=>none)
 | .zp3 s t u=>(s.at L i).bind fun o=>(t.at L i).bind fun p=>(u.at L i).map fun q=>(match o,p,q with
   | some x,some y,some z=>some (.tup [x,y,z])
   | _,_,_=>none)
def Wk.len (L:MH):Wk→Nat
 | .src s=>s.len L
 | .rng _ n=>n
 | .enum s=>s.len L
 | .zip s t=>min (s.len L) (t.len L)
 | .enz s t=>min (s.len L) (t.len L)
 | .zp3 s t u=>min (min (s.len L) (t.len L)) (u.len L)
inductive Fl where
 | nx (ρ:Loc) | rt (d:D) | bk (ρ:Loc) | ct (ρ:Loc) | xc (ρ:Loc) (c:Nat) (fs:List (Nat×D))
def Res.bindX {α:Type} (r:Res α) (ρ:Loc) (f:α→M Fl):Res Fl:=match r with
 | .ok a L=>f a L
 | .exc c fs L=>.ok (.xc ρ c fs) L
 | .stk=>.stk
def keyD:D→Option Key
 | .int i=>some (.inl i)
 | .str s=>some (.inr s)
 | _=>none
def vlK (kvs:List (Key×D)) (k:Key):Option D:=(kvs.find? fun kv=>decide (kv.1=k)).map (·.2)
def ptK (kvs:List (Key×D)) (k:Key) (d:D):List (Key×D):=
 if (kvs.any fun kv=>decide (kv.1=k))=true then kvs.map (fun kv=>if kv.1=k then (kv.1,d) else kv) else kvs++[(k,d)]
def zrt:D→Option (Key×D)
 | .tup [k,v]=>(keyD k).map fun q=>(q,v)
 | _=>none
def dprD (d:D):M D:=fun L=>match (zaD L d).bind (mapO zrt) with
 | some kvs=>if decide (kvs.length≤1000) then .ok (.ref L.length) (L++[.dct (kvs.foldl (fun acc kv=>ptK acc kv.1 kv.2) [])]) else .stk
 | none=>.stk
def dixD (L:MH) (d i:D):Option D:=(zfE L d).bind fun kvs=>(keyD i).bind fun k=>vlK kvs k
def dinD (L:MH) (neg:Bool) (i d:D):Option D:=(zfE L d).bind fun kvs=>(keyD i).map fun k=>.bl (if neg then !(vlK kvs k).isSome else (vlK kvs k).isSome)
def zj7 (o i d:D):M Unit:=fun L=>match o,keyD i with
 | .ref a,some k=>(match L[a]? with
   | some (.dct kvs)=>if decide (kvs.length < 16777216) then .ok () (L.set a (.dct (ptK kvs k d))) else .stk
   | _=>.stk)
 | _,_=>.stk
def ndOf (L:MH):D→Option (List (D×D))
 | .ref a=>(match L[a]? with
   | some (.nd kvs)=>some kvs
   | some (.dct [])=>some []
   | _=>none)
 | _=>none
def nixD (L:MH) (d i:D):Option D:=(ndOf L d).bind fun kvs=>(nkK i).bind fun k=>vlN kvs k
def ninD (L:MH) (neg:Bool) (i d:D):Option D:=(ndOf L d).bind fun kvs=>(nkK i).map fun k=>.bl (if neg then !(vlN kvs k).isSome else (vlN kvs k).isSome)
def zl0 (o i d:D):M Unit:=fun L=>match o,nkK i with
 | .ref a,some k=>(match L[a]? with
   | some (.nd kvs)=>if decide (kvs.length < 16777216) then .ok () (L.set a (.nd (ptN kvs i k d))) else .stk
   | some (.dct [])=>.ok () (L.set a (.nd [(i,d)]))
   | _=>.stk)
 | _,_=>.stk
def zqY (L:MH) (d i e:D):Option D:=(zfE L d).bind fun kvs=>(keyD i).map fun k=>(vlK kvs k).getD e
def sdfD (o i e:D):M D:=fun L=>match o,keyD i with
 | .ref a,some k=>(match L[a]? with
   | some (.dct kvs)=>if decide (kvs.length < 16777216) then (match vlK kvs k with
     | some v=>.ok v L
     | none=>.ok e (L.set a (.dct (ptK kvs k e)))) else .stk
   | _=>.stk)
 | _,_=>.stk
def maxI (i:Int):List Int→Int
 | []=>i
 | j::js=>js.foldl max j
def zq4 (L:MH) (d i:D):Option D:=(intD i).bind fun i=>(zaD L d).bind fun xs=>(mapO intD xs).map fun is=>.int (maxI i is)
def zqu (kvs:List (Str×D)):List (Key×D):=kvs.foldl (fun acc kv=>ptK acc (.inr kv.1) kv.2) []
def zld (d:D):M D:=fun L=>match d with
 | .int j=>if decide (0≤j)&&decide (j < 16777216) then newL ((List.range j.toNat).map fun i=>.int (i:Nat)) L else .stk
 | _=>.stk
def uppD (d:D):M D:=fun L=>match d with
 | .str s=>if s.length≤5592405 then .ok (.str (PySem.Txt.upper s)) L else .stk
 | _=>.stk
def revD (d:D):M D:=fun L=>match d with
 | .tup xs=>.ok (.tup xs.reverse) L
 | d=>(match zaD L d with
   | some xs=>newL xs.reverse L
   | none=>.stk)
def repT (x y z y' z':Str):Str:=Txt.replace (Txt.replace x y z) y' z'
def repB (x y z y' z' c:Str):Bool:=decide (x.length+(x.length+1)*z.length≤16777216)&&decide ((Txt.replace x y z).length+((Txt.replace x y z).length+1)*z'.length≤16777216)&&zad ((repT x y z y' z').length+2)&&decide ((c.length==0)=false)
def zmg (L:MH) (d:D):Option Wk:=match d with
 | .tup xs=>some (.enum (.val xs))
 | d=>(match zaD L d with
   | some _=>(zcz L d).map .enum
   | none=>none)
def zeU (L:MH) (d e:D):Option Wk:=match d,e with
 | .tup xs,.tup ys=>some (.zip (.val xs) (.val ys))
 | d,.tup ys=>(match zaD L d with
   | some _=>(zcz L d).map fun s=>.zip s (.val ys)
   | none=>none)
 | _,_=>(match zaD L d,zaD L e with
   | some _,some _=>(zcz L d).bind fun s=>(zcz L e).map fun t=>.zip s t
   | _,_=>none)
def zk8 (L:MH) (d e:D):Option Wk:=match zeU L d e with
 | some (.zip s t)=>some (.enz s t)
 | _=>none
def sqOf (L:MH) (d:D):Option Src:=match d with
 | .tup xs=>some (.val xs)
 | d=>(match zaD L d with
   | some _=>zcz L d
   | none=>none)
def zfH (L:MH) (d e f:D):Option Wk:=(sqOf L d).bind fun s=>(sqOf L e).bind fun t=>(sqOf L f).map fun u=>.zp3 s t u
def zfM (i:Int):Bool:=decide (-(2 ^ 62)≤i)&&decide (i < 2 ^ 62)
section
variable (T:Tb) (C:Nat→List D→M D)
def kixD (k:Nat) (d:D):Option D:=(strD d).bind fun s=>(T.kd k).bind fun kvs=>kvs.lookup s
def kinD (k:Nat) (d:D):Option Bool:=(strD d).bind fun s=>(T.kd k).map fun kvs=>(kvs.lookup s).isSome
def dcL (kx vx:Loc→M D) (test:Loc→M Bool) (put:D→Loc→M Loc) (w:Wk) (n:Nat) (ρ:Loc):Nat→Nat→M Unit
 | 0,i=>fun L=>(match w.at L i with
   | some none=>.ok () L
   | _=>.stk)
 | k+1,i=>fun L=>(match w.at L i with
   | some none=>.ok () L
   | some (some x)=>((put x ρ L).bind fun ρ1 L1=>(test ρ1 L1).bind fun b L2=>if b then (kx ρ1 L2).bind fun y L3=>(vx ρ1 L3).bind fun z L4=>(match keyD y,L4[n]? with
       | some ky,some (.dct kvs)=>if decide (kvs.length < 16777216) then dcL kx vx test put w n ρ k (i+1) (L4.set n (.dct (ptK kvs ky z))) else .stk
       | _,_=>.stk) else dcL kx vx test put w n ρ k (i+1) L2)
   | none=>.stk)
def lcL (elt:Loc→M D) (test:Loc→M Bool) (put:D→Loc→M Loc) (w:Wk) (n:Nat) (ρ:Loc):Nat→Nat→M Unit
 | 0,i=>fun L=>(match w.at L i with
   | some none=>.ok () L
   | _=>.stk)
 | k+1,i=>fun L=>(match w.at L i with
   | some none=>.ok () L
   | some (some x)=>((put x ρ L).bind fun ρ1 L1=>(test ρ1 L1).bind fun b L2=>if b then (elt ρ1 L2).bind fun d L3=>(match L3[n]? with
       | some (.lst xs)=>if decide (xs.length < 16777216) then lcL elt test put w n ρ k (i+1) (L3.set n (.lst (xs++[d]))) else .stk
       | _=>.stk) else lcL elt test put w n ρ k (i+1) L2)
   | none=>.stk)
def lcO (body:Loc→M Unit) (test:Loc→M Bool) (put:D→Loc→M Loc) (w:Wk) (ρ:Loc):Nat→Nat→M Unit
 | 0,i=>fun L=>(match w.at L i with
   | some none=>.ok () L
   | _=>.stk)
 | k+1,i=>fun L=>(match w.at L i with
   | some none=>.ok () L
   | some (some x)=>((put x ρ L).bind fun ρ1 L1=>(test ρ1 L1).bind fun b L2=>if b then (body ρ1 L2).bind fun _ L3=>lcO body test put w ρ k (i+1) L3 else lcO body test put w ρ k (i+1) L2)
   | none=>.stk)
def scL (elt:Loc→M D) (test:Loc→M Bool) (put:D→Loc→M Loc) (w:Wk) (ρ:Loc):Nat→Nat→List Str→M (List Str)
 | 0,i,acc=>fun L=>(match w.at L i with
   | some none=>.ok acc L
   | _=>.stk)
 | k+1,i,acc=>fun L=>(match w.at L i with
   | some none=>.ok acc L
   | some (some x)=>((put x ρ L).bind fun ρ1 L1=>(test ρ1 L1).bind fun b L2=>if b then (elt ρ1 L2).bind fun d L3=>(match d with
       | .str s=>if decide (acc.length < 1000) then scL elt test put w ρ k (i+1) (acc++[s]) L3 else .stk
       | _=>.stk) else scL elt test put w ρ k (i+1) acc L2)
   | none=>.stk)
def scI (elt:Loc→M D) (test:Loc→M Bool) (put:D→Loc→M Loc) (w:Wk) (ρ:Loc):Nat→Nat→List Int→M (List Int)
 | 0,i,acc=>fun L=>(match w.at L i with
   | some none=>.ok acc L
   | _=>.stk)
 | k+1,i,acc=>fun L=>(match w.at L i with
   | some none=>.ok acc L
   | some (some x)=>((put x ρ L).bind fun ρ1 L1=>(test ρ1 L1).bind fun b L2=>if b then (elt ρ1 L2).bind fun d L3=>(match d with
       | .int s=>if decide (acc.length < 1000) then scI elt test put w ρ k (i+1) (acc++[s]) L3 else .stk
       | _=>.stk) else scI elt test put w ρ k (i+1) acc L2)
   | none=>.stk)
def zro (xs:List Int):M D:=fun L=>if decide (xs.length < 64) then newL ((srtI xs).map .int) L else .stk
def scO (turn:Loc→List Str→M (List Str)) (test:Loc→M Bool) (put:D→Loc→M Loc) (w:Wk) (ρ:Loc):Nat→Nat→List Str→M (List Str)
 | 0,i,acc=>fun L=>(match w.at L i with
   | some none=>.ok acc L
   | _=>.stk)
 | k+1,i,acc=>fun L=>(match w.at L i with
   | some none=>.ok acc L
   | some (some x)=>((put x ρ L).bind fun ρ1 L1=>(test ρ1 L1).bind fun b L2=>if b then (turn ρ1 acc L2).bind fun acc' L3=>scO turn test put w ρ k (i+1) acc' L3 else scO turn test put w ρ k (i+1) acc L2)
   | none=>.stk)
def zr0 (xs:List Str):M D:=fun L=>if decide (xs.eraseDups.length < 64) then newL ((srtT xs).map .str) L else .stk
def forL (body:Loc→M Fl) (put:D→Loc→M Loc) (w:Wk):Nat→Nat→Loc→M Fl
 | 0,i, ρ=>fun L=>(match w.at L i with
   | some none=>.ok (.nx ρ) L
   | _=>.stk)
 | k+1,i, ρ=>fun L=>(match w.at L i with
   | some none=>.ok (.nx ρ) L
   | some (some x)=>((put x ρ L).quiet.bind fun ρ1 L1=>(body ρ1 L1).bind fun fl L2=>(match fl with
       | .nx ρ2=>forL body put w k (i+1) ρ2 L2
       | .ct ρ2=>forL body put w k (i+1) ρ2 L2
       | .bk ρ2=>.ok (.nx ρ2) L2
       | .rt d=>.ok (.rt d) L2
       | .xc ρ2 c fs=>.ok (.xc ρ2 c fs) L2))
   | none=>.stk)
def whlL (test:Loc→M Bool) (body:Loc→M Fl):Nat→Loc→M Fl
 | 0,_=>zas
 | k+1, ρ=>fun L=>(test ρ L).bindX ρ fun b L1=>if b then (body ρ L1).bind fun fl L2=>(match fl with
       | .nx ρ2=>whlL test body k ρ2 L2
       | .ct ρ2=>whlL test body k ρ2 L2
       | .bk ρ2=>.ok (.nx ρ2) L2
       | .rt d=>.ok (.rt d) L2
       | .xc ρ2 c fs=>.ok (.xc ρ2 c fs) L2) else .ok (.nx ρ) L1
def tryR (r:Res D):Res D:=match r with
 | .ok d L=>.ok (.tup [.str "",d]) L
 | .exc c fs L=>(match T.tryx c fs with
   | some x=>.ok x L
   | none=>.stk)
 | .stk=>.stk
def zmh (act:D→M D) (a n:Nat):Nat→Nat→M Unit
 | 0,i=>fun L=>(match L[a]? with
   | some (.lst xs)=>(match xs[i]? with
     | none=>.ok () L
     | some _=>.stk)
   | _=>.stk)
 | k+1,i=>fun L=>(match L[a]? with
   | some (.lst xs)=>(match xs[i]? with
     | none=>.ok () L
     | some x=>(act x L).bind fun d L1=>(match L1[n]? with
       | some (.lst ys)=>if decide (ys.length < 16777216) then zmh act a n k (i+1) (L1.set n (.lst (ys++[d]))) else .stk
       | _=>.stk))
   | _=>.stk)
def zqc (act:D→M D) (d:D):M D:=fun L=>(match d with
  | .ref a=>(match L[a]? with
    | some (.lst xs)=>(zmh act a L.length xs.length 0 (L++[.lst []])).quiet.bind fun _=>ret (.ref L.length)
    | _=>.stk)
  | _=>.stk)
mutual
def evE:Ex→Loc→M D
 | .var i, ρ=>(match ρ[i]? with
   | some (some d)=>ret d
   | _=>zas)
 | .cint i,_=>ret (.int i)
 | .cstr s,_=>ret (.str s)
 | .cbl b,_=>ret (.bl b)
 | .cnon,_=>ret .non
 | .gcon k,_=>must (T.con k)
 | .bop o a b, ρ=>fun L=>(evE a ρ L).bind fun d L1=>(evE b ρ L1).bind fun e L2=>binD o d e L2
 | .neg a, ρ=>fun L=>(evE a ρ L).bind fun d=>must (negD d)
 | .cmp o a b, ρ=>fun L=>(evE a ρ L).bind fun d L1=>(evE b ρ L1).bind fun e L2=>must ((cmpD L2 o d e).map .bl) L2
 | .isn a, ρ=>fun L=>(evE a ρ L).bind fun d=>ret (.bl (zeS d))
 | .nisn a, ρ=>fun L=>(evE a ρ L).bind fun d=>ret (.bl (!zeS d))
 | .isb neg a p, ρ=>fun L=>(evE a ρ L).bind fun d=>must (isbD neg p d)
 | .chain o p a b c, ρ=>fun L=>(evE a ρ L).bind fun d L1=>(evE b ρ L1).bind fun e L2=>(match cmpD L2 o d e with
   | some true=>(evE c ρ L2).bind fun f L3=>must ((cmpD L3 p e f).map .bl) L3
   | some false=>.ok (.bl false) L2
   | none=>.stk)
 | .and a b, ρ=>fun L=>(evE a ρ L).bind fun d L1=>(match truD L1 d with
   | some true=>evE b ρ L1
   | some false=>.ok d L1
   | none=>.stk)
 | .or a b, ρ=>fun L=>(evE a ρ L).bind fun d L1=>(match truD L1 d with
   | some true=>.ok d L1
   | some false=>evE b ρ L1
   | none=>.stk)
 | .not a, ρ=>fun L=>(evE a ρ L).bind fun d L1=>must ((truD L1 d).map fun b=>.bl (!b)) L1
 | .ife c a b, ρ=>fun L=>(evE c ρ L).bind fun d L1=>(match truD L1 d with
   | some true=>evE a ρ L1
   | some false=>evE b ρ L1
   | none=>.stk)
 | .tup es, ρ=>fun L=>(evEs es ρ L).bind fun ds=>if zad ds.length then ret (.tup ds) else zas
 | .lst es, ρ=>fun L=>(evEs es ρ L).bind fun ds=>if zad ds.length then newL ds else zas
 | .ix a i, ρ=>fun L=>(evE a ρ L).bind fun d L1=>(evE i ρ L1).bind fun e L2=>must (ixD L2 d e) L2
 | .sl a lo hi, ρ=>fun L=>(evE a ρ L).bind fun d L1=>(evO lo ρ L1).bind fun l L2=>(evO hi ρ L2).bind fun h L3=>slD d l h L3
 | .call f es ks kes, ρ=>fun L=>(evEs es ρ L).bind fun ds L1=>(evEs kes ρ L1).bind fun zs=>zaI T C f ds ks zs
 | .meth o n es ks kes, ρ=>fun L=>(evE o ρ L).bind fun d L1=>(match zdf L1 d with
   | some (c,fs)=>(match fs.lookup n,T.meth c n with
     | none,some f=>(evEs es ρ L1).bind fun ds L2=>(evEs kes ρ L2).bind fun zs=>zaI T C f (d::ds) ks zs
     | _,_=>.stk)
   | none=>.stk)
 | .make c es ks kes, ρ=>fun L=>(evEs es ρ L).bind fun ds L1=>(evEs kes ρ L1).bind fun zs=>zkU T C c ds ks zs
 | .mkS c a ks kes, ρ=>fun L=>(evE a ρ L).bind fun d L1=>(evEs kes ρ L1).bind fun zs L2=>(must (seqD L2 d) L2).bind fun xs=>zkU T C c xs ks zs
 | .mkT c a es ks kes, ρ=>fun L=>((evE a ρ L).bind fun d L1=>(must (seqD L1 d) L1).bind fun xs L2=>(evEs es ρ L2).bind fun ys=>ret (xs++ys)).bind fun ds L1=>(evEs kes ρ L1).bind fun zs=>zkU T C c ds ks zs
 | .attr o n, ρ=>fun L=>(evE o ρ L).bind fun d=>zos T C d n
 | .mkx c es _ kn kes, ρ=>fun L=>(evEs es ρ L).bind fun ds L1=>(evEs kes ρ L1).bind fun zs=>mkxD T c ds kn zs
 | .atx o n, ρ=>fun L=>(evE o ρ L).bind fun d=>atxD T n d
 | .isx a t, ρ=>fun L=>(evE a ρ L).bind fun d=>isxD T t d
 | .bi b es, ρ=>fun L=>(evEs es ρ L).bind fun ds=>biD b ds
 | .bm b o es, ρ=>fun L=>(evE o ρ L).bind fun d L1=>if zb3 L1 d=some (zg5 b) then (evEs es ρ L1).bind fun ds=>bmD b d ds else .stk
 | .isin a ts, ρ=>fun L=>(evE a ρ L).bind fun d L1=>must ((zav T L1 d ts).map .bl) L1
 | .eqo neg a b, ρ=>fun L=>(evE a ρ L).bind fun d L1=>(evE b ρ L1).bind fun e=>eqoD T C neg d e
 | .eql neg a b, ρ=>fun L=>(evE a ρ L).bind fun d L1=>(evE b ρ L1).bind fun e=>eqlD T C neg d e
 | .ino neg a b, ρ=>fun L=>(evE a ρ L).bind fun d L1=>(evE b ρ L1).bind fun e=>inoD T C neg d e
 | .repro a, ρ=>fun L=>(evE a ρ L).bind fun d=>zl3 T C d
 | .clsc c n,_=>must (T.clc c n)
 | .lens a, ρ=>fun L=>(evE a ρ L).bind fun d=>znd d
 | .srt a, ρ=>fun L=>(evE a ρ L).bind fun d=>srtD d
 | .dpr a, ρ=>fun L=>(evE a ρ L).bind fun d=>dprD d
 | .ktu a, ρ=>fun L=>(evE a ρ L).bind fun d=>ktuD d
 | .tix a i, ρ=>fun L=>(evE a ρ L).bind fun d L1=>if ktpB L1 d then (evE i ρ L1).bind fun e L2=>must (tixD L2 d e) L2 else .stk
 | .dix a i, ρ=>fun L=>(evE a ρ L).bind fun d L1=>(evE i ρ L1).bind fun e L2=>must (dixD L2 d e) L2
 | .din neg a d, ρ=>fun L=>(evE a ρ L).bind fun x L1=>(evE d ρ L1).bind fun e L2=>must (dinD L2 neg x e) L2
 | .nix a i, ρ=>fun L=>(evE a ρ L).bind fun d L1=>(evE i ρ L1).bind fun e L2=>must (nixD L2 d e) L2
 | .nin neg a d, ρ=>fun L=>(evE a ρ L).bind fun x L1=>(evE d ρ L1).bind fun e L2=>must (ninD L2 neg x e) L2
 | .dnil,_=>fun L=>.ok (.ref L.length) (L++[.dct []])
 | .kix k i, ρ=>fun L=>(evE i ρ L).bind fun d=>must (kixD T k d)
 | .kin neg k i, ρ=>fun L=>(evE i ρ L).bind fun d=>must ((kinD T k d).map fun b=>.bl (if neg then !b else b))
 | .dc kx vx t it ifs own, ρ=>fun L=>(evI it ρ L).bind fun w L1=>
   (dcL (evE kx) (evE vx) (evT ifs) (puT t) w L1.length (zaA ρ own) (w.len (L1++[.dct []])) 0 (L1++[.dct []])).quiet.bind fun _=>ret (.ref L1.length)
 | .fstr es, ρ=>fun L=>(evFs es Str.empty ρ L).bind fun s=>ret (.str s)
 | .lc e t it ifs own, ρ=>fun L=>(evI it ρ L).bind fun w L1=>
   (lcL (evE e) (evT ifs) (puT t) w L1.length (zaA ρ own) (w.len (L1++[.lst []])) 0 (L1++[.lst []])).quiet.bind fun _=>ret (.ref L1.length)
 | .lct j es t it ifs own, ρ=>fun L=>(evI it ρ L).bind fun w L1=>
  (lcL (fun ρ L=>tryR T (evNth es j ρ L)) (evT ifs) (puT t) w L1.length (zaA ρ own) (w.len (L1++[.lst []])) 0 (L1++[.lst []])).quiet.bind fun _=>ret (.ref L1.length)
 | .lc2 e t it ifs own t1 it1 ifs1 vs1, ρ=>fun L=>(evI it ρ L).bind fun w L1=>
   (lcO (fun ρ1 L2=>(evI it1 ρ1 L2).bind fun w1 L3=>lcL (evE e) (evT ifs1) (puT t1) w1 L1.length (zaA ρ1 vs1) (w1.len L3) 0 L3) (evT ifs) (puT t) w (zaA ρ own) (w.len (L1++[.lst []])) 0 (L1++[.lst []])).quiet.bind fun _=>ret (.ref L1.length)
 | .maxd a i, ρ=>fun L=>(evE a ρ L).bind fun d L1=>(evE i ρ L1).bind fun e L2=>must (zq4 L2 d e) L2
 | .ddsp kvs,_=>fun L=>.ok (.ref L.length) (L++[.dct (zqu kvs)])
 | .kget k i e, ρ=>fun L=>(evE i ρ L).bind fun d=>must ((strD d).bind fun s=>(T.kd k).map fun kvs=>(kvs.lookup s).getD e)
 | .rev a, ρ=>fun L=>(evE a ρ L).bind fun d=>revD d
 | .leno a, ρ=>fun L=>(evE a ρ L).bind fun d=>zrD T C d
 | .upp a, ρ=>fun L=>(evE a ρ L).bind fun d=>uppD d
 | .lrng a, ρ=>fun L=>(evE a ρ L).bind fun d=>zld d
 | .unk a, ρ=>fun L=>(evE a ρ L).bind fun d L1=>.ok (unkD L1 d) L1
 | .lensc e t it ifs own, ρ=>fun L=>(evI it ρ L).bind fun w L1=>
   (scL (evE e) (evT ifs) (puT t) w (zaA ρ own) (w.len L1) 0 [] L1).quiet.bind fun xs=>ret (.int (xs.eraseDups.length:Nat))
 | .srs2 e t it ifs own t1 it1 ifs1 vs1, ρ=>fun L=>(evI it ρ L).bind fun w L1=>
   (scO (fun ρ1 acc L2=>(evI it1 ρ1 L2).bind fun w1 L3=>scL (evE e) (evT ifs1) (puT t1) w1 (zaA ρ1 vs1) (w1.len L3) 0 acc L3) (evT ifs) (puT t) w (zaA ρ own) (w.len L1) 0 [] L1).quiet.bind fun xs=>zr0 xs
 | .srsi e t it ifs own, ρ=>fun L=>(evI it ρ L).bind fun w L1=>
   (scI (evE e) (evT ifs) (puT t) w (zaA ρ own) (w.len L1) 0 [] L1).quiet.bind fun xs=>zro xs
 | .stat c n es ks kes, ρ=>fun L=>(evEs es ρ L).bind fun ds L1=>(evEs kes ρ L1).bind fun zs=>(match T.stat c n with
   | some f=>zaI T C f ds ks zs
   | none=>zas)
 | .dget a i e, ρ=>fun L=>(evE a ρ L).bind fun x L1=>if (zfE L1 x).isSome then (evE i ρ L1).bind fun y L2=>(evE e ρ L2).bind fun z L3=>must (zqY L3 x y z) L3 else .stk
 | .sdf a i e, ρ=>fun L=>(evE a ρ L).bind fun x L1=>if (zfE L1 x).isSome then (evE i ρ L1).bind fun y L2=>(evE e ρ L2).bind fun z L3=>sdfD x y z L3 else .stk
 | .lam j,_=>ret (.clo j)
 | .try1 a es, ρ=>fun L=>(evE a ρ L).bind fun d L1=>(match d with
   | .clo j=>tryR T (evNth es j ρ L1)
   | _=>.stk)
 | .tries a es, ρ=>fun L=>(evE a ρ L).bind fun d=>zqc (fun x L1=>match x with
   | .clo j=>tryR T (evNth es j ρ L1)
   | _=>.stk) d
 | .bad,_=>zas
def evNth:Exs→Nat→Loc→M D
 | .nil,_,_=>zas
 | .star _,_,_=>zas
 | .cons e r,j, ρ=>(match j with
   | 0=>evE e ρ
   | j+1=>evNth r j ρ)
def evEs:Exs→Loc→M (List D)
 | .nil,_=>ret []
 | .star e, ρ=>fun L=>(evE e ρ L).bind fun d L1=>must (seqD L1 d) L1
 | .cons e r, ρ=>fun L=>(evE e ρ L).bind fun d L1=>(evEs r ρ L1).bind fun ds=>ret (d::ds)
def evFs:Exs→Str→Loc→M Str
 | .nil,acc,_=>ret acc
 | .star _,_,_=>zas
 | .cons e r,acc, ρ=>fun L=>(evE e ρ L).bind fun d L1=>(match fmtD d with
   | some y=>if zad (acc++y).length then evFs r (acc++y) ρ L1 else .stk
   | none=>.stk)
def evO:Ox→Loc→M (Option Int)
 | .none,_=>ret none
 | .some e, ρ=>fun L=>(evE e ρ L).bind fun d=>must ((intD d).map some)
def evT:Ox→Loc→M Bool
 | .none,_=>ret true
 | .some e, ρ=>fun L=>(evE e ρ L).bind fun d L1=>must (truD L1 d) L1
def evI:It→Loc→M Wk
 | .seq e, ρ=>fun L=>(evE e ρ L).bind fun d L1=>must ((zcz L1 d).map .src) L1
 | .rng1 e, ρ=>fun L=>(evE e ρ L).bind fun d=>(match d with
   | .int j=>if zfM j then ret (.rng 0 j.toNat) else zas
   | _=>zas)
 | .rng2 a b, ρ=>fun L=>(evE a ρ L).bind fun d L1=>(evE b ρ L1).bind fun e=>(match d,e with
   | .int i,.int j=>if zfM i&&zfM j then ret (.rng i (j - i).toNat) else zas
   | _,_=>zas)
 | .enum e, ρ=>fun L=>(evE e ρ L).bind fun d L1=>must (zmg L1 d) L1
 | .zip a b, ρ=>fun L=>(evE a ρ L).bind fun d L1=>(evE b ρ L1).bind fun e L2=>must (zeU L2 d e) L2
 | .enz a b, ρ=>fun L=>(evE a ρ L).bind fun d L1=>(evE b ρ L1).bind fun e L2=>must (zk8 L2 d e) L2
 | .zip3 a b c, ρ=>fun L=>(evE a ρ L).bind fun d L1=>(evE b ρ L1).bind fun e L2=>(evE c ρ L2).bind fun f L3=>must (zfH L3 d e f) L3
 | .bad,_=>zas
def puT:Tg→D→Loc→M Loc
 | .var i,d, ρ=>ret (ρ.set i (some d))
 | .tup ts,d, ρ=>(match d with
   | .tup xs=>if zbi ts=xs.length then puTs ts xs ρ else zas
   | d=>fun L=>(match zaD L d with
     | some xs=>if zbi ts=xs.length then puTs ts xs ρ L else .stk
     | none=>.stk))
 | .star ts,d, ρ=>fun L=>(match seqD L d with
   | some xs=>if decide (zbi ts≤xs.length+1)&&decide (xs.length≤16384) then (newL (xs.drop (zbi ts - 1)) L).bind fun d=>puTs ts (xs.take (zbi ts - 1)++[d]) ρ else .stk
   | none=>.stk)
 | .sfst ts,d, ρ=>fun L=>(match seqD L d with
   | some xs=>if decide (zbi ts≤xs.length+1)&&decide (xs.length≤16384) then (newL (xs.take (xs.length+1 - zbi ts)) L).bind fun d=>puTs ts (d::xs.drop (xs.length+1 - zbi ts)) ρ else .stk
   | none=>.stk)
 | .sub o i,d, ρ=>fun L=>(evE o ρ L).bind fun a L1=>(evE i ρ L1).bind fun k L2=>(zgo a k d L2).bind fun _=>ret ρ
 | .dsub o i,d, ρ=>fun L=>(evE o ρ L).bind fun a L1=>(evE i ρ L1).bind fun k L2=>(zj7 a k d L2).bind fun _=>ret ρ
 | .nsub o i,d, ρ=>fun L=>(evE o ρ L).bind fun a L1=>(evE i ρ L1).bind fun k L2=>(zl0 a k d L2).bind fun _=>ret ρ
 | .attr o n,d, ρ=>fun L=>(evE o ρ L).bind fun a L1=>(ziq T a n d L1).bind fun _=>ret ρ
 | .bad,_,_=>zas
def puTs:Tgs→List D→Loc→M Loc
 | .nil,xs, ρ=>(match xs with
   | []=>ret ρ
   | _=>zas)
 | .cons t r,xs, ρ=>(match xs with
   | x::xs=>fun L=>(puT t x ρ L).bind fun ρ1=>puTs r xs ρ1
   | []=>zas)
end
def evB (e:Ex) (ρ:Loc):M Bool:=fun L=>(evE T C e ρ L).bind fun d L1=>must (truD L1 d) L1
def zjP (ρ:Loc):List Nat→List D→Loc
 | i::is,d::ds=>zjP (ρ.set i (some d)) is ds
 | _,_=>ρ
def augD:BOp→D→D→Option D
 | .add,.int i,.int j=>some (.int (i+j))
 | .sub,.int i,.int j=>some (.int (i - j))
 | _,_,_=>none
def supD (d n:Nat) (es:Exs) (ks:List Nat) (kes:Exs) (ρ:Loc):M D:=fun L=>match ρ[0]? with
 | some (some o)=>(match zdf L o with
   | some (c,_)=>(match T.sup c d n with
     | some f=>(evEs T C es ρ L).bind fun ds L1=>(evEs T C kes ρ L1).bind fun zs=>zaI T C f (o::ds) ks zs
     | none=>.stk)
   | none=>.stk)
 | _=>.stk
mutual
def exS (wf:Nat):Sm→Loc→M Fl
 | .asg t e, ρ=>fun L=>(evE T C e ρ L).bindX ρ fun d L1=>(puT T C t d ρ L1).quiet.bind fun ρ1=>ret (.nx ρ1)
 | .par is es, ρ=>fun L=>(evEs T C es ρ L).bindX ρ fun ds=>if is.length=ds.length then ret (.nx (zjP ρ is ds)) else zas
 | .aug i o e, ρ=>fun L=>(match ρ[i]? with
   | some (some d)=>(evE T C e ρ L).bindX ρ fun e L1=>(match augD o d e with
     | some f=>.ok (.nx (ρ.set i (some f))) L1
     | none=>.stk)
   | _=>.stk)
 | .expr e, ρ=>fun L=>(evE T C e ρ L).bindX ρ fun _=>ret (.nx ρ)
 | .ret e, ρ=>fun L=>(evE T C e ρ L).bindX ρ fun d=>ret (.rt d)
 | .retn,_=>ret (.rt .non)
 | .doc, ρ=>ret (.nx ρ)
 | .ife c a b, ρ=>fun L=>(evB T C c ρ L).bindX ρ fun b' L1=>if b' then exSs wf a ρ L1 else exSs wf b ρ L1
 | .fr t it b, ρ=>fun L=>(evI T C it ρ L).bindX ρ fun w L1=>forL (exSs wf b) (puT T C t) w (w.len L1) 0 ρ L1
 | .whl c b, ρ=>whlL (evB T C c) (exSs wf b) wf ρ
 | .pass, ρ=>ret (.nx ρ)
 | .brk, ρ=>ret (.bk ρ)
 | .cont, ρ=>ret (.ct ρ)
 | .bad,_=>zas
 | .tryq _ b, ρ=>fun L=>(match exSs wf b ρ L with
   | .ok (.xc _ _ _) _=>.stk
   | .exc _ _ _=>.stk
   | r=>r)
 | .tryr cs b c2 xs, ρ=>fun L=>(match exSs wf b ρ L with
   | .ok (.xc ρ1 c fs) L1=>(match T.exm c cs,T.fre c with
     | some true,some true=>if T.fre c2=some false then (match mapO (suV T ρ1 L1) xs with
       | some ds=>(match T.exi c2 ds with
         | some gs=>.ok (.xc ρ1 c2 gs) L1
         | none=>.stk)
       | none=>.stk) else .stk
     | some false,some false=>.ok (.xc ρ1 c fs) L1
     | _,_=>.stk)
   | .exc _ _ _=>.stk
   | r=>r)
 | .tryk cs b d, ρ=>fun L=>(match exSs wf b ρ L with
   | .ok (.xc ρ1 c fs) L1=>(match T.exm c cs,T.fre c with
     | some true,some true=>.ok (.rt d) L1
     | some false,some false=>.ok (.xc ρ1 c fs) L1
     | _,_=>.stk)
   | .exc _ _ _=>.stk
   | r=>r)
 | .raise c es, ρ=>fun L=>(evEs T C es ρ L).bindX ρ fun ds L1=>(match T.exi c ds with
   | some fs=>.ok (.xc ρ c fs) L1
   | none=>.stk)
 | .supE d n es ks kes, ρ=>fun L=>(supD T C d n es ks kes ρ L).bindX ρ fun _=>ret (.nx ρ)
 | .supR d n es ks kes e, ρ=>fun L=>(supD T C d n es ks kes ρ L).bindX ρ fun v L1=>(match truD L1 v with
   | some true=>.ok (.rt v) L1
   | some false=>(evE T C e ρ L1).bindX ρ fun w=>ret (.rt w)
   | none=>.stk)
def exSs (wf:Nat):Sms→Loc→M Fl
 | .nil, ρ=>ret (.nx ρ)
 | .repR i o y z y' z' c r, ρ=>fun L=>(evE T C o ρ L).bindX ρ fun d L1=>(match d with
   | .str x=>if repB x y z y' z' c then exSs wf r (ρ.set i (some (.ref L1.length))) (L1++[.lst ((Txt.split (repT x y z y' z') c).map .str)]) else .stk
   | _=>.stk)
 | .cons s r, ρ=>fun L=>(exS wf s ρ L).bind fun fl=>(match fl with
   | .nx ρ1=>exSs wf r ρ1
   | fl=>ret fl)
end
def runD (wf:Nat) (fd:Fd) (ds:List D):M D:=fun L=>(exSs T C wf fd.body (ds.map some++List.replicate (fd.ns - ds.length) none) L).quiet.bind fun fl=>(match fl with
  | .nx _=>ret .non
  | .rt d=>ret d
  | .xc _ c fs=>fun L=>.exc c fs L
  | _=>zas)
end
def zak (T:Tb) (wf:Nat):Nat→Nat→List D→M D
 | 0,_,_=>zas
 | n+1,f,ds=>(match T.fn f with
   | some fd=>if ds.length=fd.ps.length then runD T (zak T wf n) wf fd ds else zas
   | none=>zas)
end Mi
end
section
set_option maxHeartbeats 4000000
namespace Mi
open PySem PySem.Spec L2
theorem zkz {f:Str×Value→List (Str×Value)×List (Str×Value)→Sem (ForInStep (List (Str×Value)×List (Str×Value)))} (ok:Str→Prop)
  (hf:∀k v acc,ok k→acc.lookup k=none→f (k,v) (acc,[])=pure (.yield (acc++[(k,v)],[]))):
  ∀(kw acc:List (Str×Value)),(∀q∈kw,ok q.1)→(kw.map (·.1)).Nodup→(∀q∈kw,acc.lookup q.1=none)→forIn kw (acc,[]) f=pure (acc++kw,[])
 | [],acc,_,_,_=>by rw [List.forIn_nil,List.append_nil]
 | (k,v)::r,acc,h1,h2,h3=>by
  have nd:=List.nodup_cons.mp (show (k::r.map (·.1)).Nodup from h2)
  rw [List.forIn_cons,hf k v acc (h1 _ List.mem_cons_self) (h3 _ List.mem_cons_self)]
  have ih:=zkz ok hf r (acc++[(k,v)]) (fun q hq=>h1 q (List.mem_cons_of_mem _ hq)) nd.2 fun q hq=>by
   rw [List.lookup_append,h3 q (List.mem_cons_of_mem _ hq),Option.none_or,List.lookup_cons]
   have ne:(q.1==k)=false:=beq_eq_false_iff_ne.mpr fun e=>nd.1 (by rw [← e]; exact List.mem_map_of_mem hq)
   rw [ne]
   rfl
  rw [List.append_assoc] at ih
  exact ih
theorem zbX {α:Type} {n:Str}:∀ {l:List (Str×α)},n∉l.map (·.1)→l.lookup n=none
 | [],_=>rfl
 | (k,v)::r,h=>by
  rw [List.lookup_cons]
  have ne:(n==k)=false:=beq_eq_false_iff_ne.mpr fun e=>h (by rw [e]; exact List.mem_cons_self)
  rw [ne]
  exact zbX fun z=>h (List.mem_cons_of_mem _ z)
def lack {α:Type} (acc:List (Str×α)) (l:List (Str×α)):List (Str×α):=l.filter fun q=>(acc.lookup q.1).isNone
theorem zg0 {α:Type} {acc:List (Str×α)} {k:Str} {v:α} {r:List (Str×α)} (nd:k∉r.map (·.1)):lack (acc++[(k,v)]) r=lack acc r:=by
 unfold lack
 refine List.filter_congr fun q hq=>?_
 rw [List.lookup_append,List.lookup_cons]
 have ne:(q.1==k)=false:=beq_eq_false_iff_ne.mpr fun e=>nd (by rw [← e]; exact List.mem_map_of_mem hq)
 rw [ne]
 cases acc.lookup q.1<;>rfl
theorem zgv {f:Str×Value→List (Str×Value)→Sem (ForInStep (List (Str×Value)))}
  (hf:∀q acc,f q acc=if (acc.lookup q.1).isNone=true then pure (.yield (acc++[(q.1,q.2)])) else pure (.yield acc)):
  ∀(l acc:List (Str×Value)),(l.map (·.1)).Nodup→forIn l acc f=pure (acc++lack acc l)
 | [],acc,_=>by rw [List.forIn_nil]; unfold lack; rw [List.filter_nil,List.append_nil]
 | (k,v)::r,acc,h=>by
  have nd:=List.nodup_cons.mp (show (k::r.map (·.1)).Nodup from h)
  rw [List.forIn_cons,hf]
  by_cases c:(acc.lookup k).isNone=true
  ·rw [if_pos c]
   have ih:=zgv hf r (acc++[(k,v)]) nd.2
   rw [zg0 nd.1,List.append_assoc] at ih
   have e:lack acc ((k,v)::r)=(k,v)::lack acc r:=by
    unfold lack
    rw [List.filter_cons,if_pos c]
   rw [e]
   exact ih
  ·rw [if_neg c]
   have ih:=zgv hf r acc nd.2
   have e:lack acc ((k,v)::r)=lack acc r:=by
    unfold lack
    rw [List.filter_cons,if_neg c]
   rw [e]
   exact ih
theorem zgN {M:Model} {h:Heap} {f:Str→List (Str×Value)×List Str→Sem (ForInStep (List (Str×Value)×List Str))} (okd:Str×Value→Prop)
  (hf:∀q acc,(acc.lookup q.1=none→okd q)→PySem.W.Looks M h (f q.1 (acc,[])) (.yield (if (acc.lookup q.1).isNone=true then acc++[(q.1,q.2)] else acc,[]))):
  ∀(l' acc:List (Str×Value)),(∀q∈l',acc.lookup q.1=none→okd q)→(l'.map (·.1)).Nodup→PySem.W.Looks M h (forIn (l'.map (·.1)) (acc,[]) f) (acc++lack acc l',[])
 | [],acc,_,_=>by
  rw [List.map_nil,List.forIn_nil]
  unfold lack
  rw [List.filter_nil,List.append_nil]
  exact PySem.W.Looks.now
 | (k,v)::r,acc,hm,hn=>by
  have nd:=List.nodup_cons.mp (show (k::r.map (·.1)).Nodup from hn)
  rw [List.map_cons,List.forIn_cons]
  refine PySem.W.Looks.andThen (hf (k,v) acc (hm _ List.mem_cons_self)) ?_
  by_cases c:(acc.lookup k).isNone=true
  ·rw [if_pos c]
   have ih:=zgN okd hf r (acc++[(k,v)]) (fun q hq z=>hm q (List.mem_cons_of_mem _ hq) (by
     rw [List.lookup_append] at z
     cases e:acc.lookup q.1 with
     | none=>rfl
     | some w=>rw [e] at z; cases z)) nd.2
   rw [zg0 nd.1,List.append_assoc] at ih
   have e:lack acc ((k,v)::r)=(k,v)::lack acc r:=by
    unfold lack
    rw [List.filter_cons,if_pos c]
   rw [e]
   exact ih
  ·rw [if_neg c]
   have ih:=zgN okd hf r acc (fun q hq=>hm q (List.mem_cons_of_mem _ hq)) nd.2
   have e:lack acc ((k,v)::r)=lack acc r:=by
    unfold lack
    rw [List.filter_cons,if_neg c]
   rw [e]
   exact ih
theorem zb8 {α:Type} {n:Str} {u:α}:∀ {l:List (Str×α)},(l.map (·.1)).Nodup→(n,u)∈l→l.lookup n=some u
 | [],_,h=>by cases h
 | (k,v)::r,hn,h=>by
  have nd:=List.nodup_cons.mp (show (k::r.map (·.1)).Nodup from hn)
  rw [List.lookup_cons]
  rcases List.mem_cons.mp h with e | h
  ·cases e
   rw [beq_self_eq_true]
  ·have ne:(n==k)=false:=beq_eq_false_iff_ne.mpr fun e=>nd.1 (by rw [← e]; exact List.mem_map_of_mem (f:=(·.1)) h)
   rw [ne]
   exact zb8 nd.2 h
theorem zft {acc l:List (Str×Value)} {n:Str} {u:Value} (hn:(l.map (·.1)).Nodup) (h:(n,u)∈l) (ha:acc.lookup n=none):(lack acc l).lookup n=some u:=by
 refine zb8 ?_ ?_
 ·exact hn.sublist ((List.filter_sublist).map _)
 ·exact List.mem_filter.mpr ⟨h,by show (acc.lookup n).isNone=true; rw [ha]; rfl⟩
theorem zkP {acc l:List (Str×Value)} {n:Str} (h:n∉l.map (·.1)):(lack acc l).lookup n=none:=
 zbX fun z=>h (by
   obtain ⟨q,hq,e⟩:=List.mem_map.mp z
   exact List.mem_map.mpr ⟨q,(List.mem_filter.mp hq).1,e⟩)
theorem zdr {sl:List (Str×Value)}:∀ {ns:List Str} {us:List Value},Paired (fun n u=>sl.lookup n=some u) ns us→ns.filterMap (fun n=>(sl.lookup n).map (n,·))=ns.zip us
 | _,_,.nil=>rfl
 | _,_,.cons h t=>by
  rw [List.filterMap_cons,h,List.zip_cons_cons, ← zdr t]
  rfl
theorem zci {α β:Type} {f:α→Option β}:∀ {xs:List α} {ys:List β},mapO f xs=some ys→Paired (fun x y=>f x=some y) xs ys
 | [],_,h=>by cases h; exact .nil
 | x::xs,ys,h=>by
  simp only [mapO] at h
  cases q:f x with
  | none=>rw [q] at h; cases h
  | some y=>
   rw [q] at h
   cases q2:mapO f xs with
   | none=>simp [q2] at h
   | some ys'=>
    simp only [q2,Option.bind_some,Option.map_some,Option.some.injEq] at h
    subst h
    exact .cons q (zci q2)
theorem ze8 {α β γ:Type} {R:α→γ→Prop} {S:α×β→γ→Prop}:∀ {xs:List α} {ys:List β} {zs:List γ},xs.length=ys.length→Paired S (xs.zip ys) zs→(∀x y z,(x,y)∈xs.zip ys→S (x,y) z→R x z)→Paired R xs zs
 | [],[],_,_,h,_=>by cases h; exact .nil
 | x::xs,y::ys,_,hl,h,k=>by
  cases h with
  | cons h t=>exact .cons (k x y _ List.mem_cons_self h) (ze8 (by simpa using hl) t fun a b c hm=>k a b c (List.mem_cons_of_mem _ hm))
 | [],_::_,_,hl,_,_=>by cases hl
 | _::_,[],_,hl,_,_=>by cases hl
theorem zgE {α β:Type}:∀(xs ys:List α) (zs:List β),zs.length≤xs.length→(xs++ys).zip zs=xs.zip zs
 | _,_,[],_=>by simp
 | [],_,z::zs,h=>by simp at h
 | x::xs,ys,z::zs,h=>by
  rw [List.cons_append,List.zip_cons_cons,List.zip_cons_cons,zgE xs ys zs (by simpa using h)]
theorem zdq {α β:Type} {a:α} {b:β}:∀ {xs xs':List α} {ys ys':List β},xs.length=ys.length→(a,b)∈(xs++xs').zip (ys++ys')→(a,b)∈xs.zip ys∨(a,b)∈xs'.zip ys'
 | [],_,[],_,_,h=>.inr h
 | x::xs,_,y::ys,_,hl,h=>by
  rcases List.mem_cons.mp (show (a,b)∈(x,y)::(xs++_).zip (ys++_) from h) with e | h
  ·exact .inl (by rw [e]; exact List.mem_cons_self)
  ·exact (zdq (by simpa using hl) h).imp (fun z=>List.mem_cons_of_mem _ z) id
 | [],_,_::_,_,hl,_=>by cases hl
 | _::_,_,[],_,hl,_=>by cases hl
theorem zbA {α β:Type}:∀ {xs:List α} {ys:List β},xs.length≤ys.length→(xs.zip ys).map (·.1)=xs
 | [],_,_=>by simp
 | x::xs,[],h=>by simp at h
 | x::xs,y::ys,h=>by
  rw [List.zip_cons_cons,List.map_cons,zbA (by simpa using h)]
theorem zdv {α β:Type} {a:α} {b:β}:∀ {xs:List α} {ys:List β},(a,some b)∈xs.zip (ys.map some)→(a,b)∈xs.zip ys
 | [],ys,h=>by simp at h
 | x::xs,[],h=>by simp at h
 | x::xs,y::ys,h=>by
  rcases List.mem_cons.mp (show (a,some b)∈(x,some y)::xs.zip (ys.map some) from h) with e | h
  ·cases e
   exact List.mem_cons_self
  ·exact List.mem_cons_of_mem _ (zdv h)
theorem zeD {α β:Type} {a:α} {b:β}:∀ {k:Nat} {xs:List α} {ys:List β},(a,some b)∈xs.zip (List.replicate k none++ys.map some)→(a,b)∈(xs.drop k).zip ys
 | 0,xs,ys,h=>by
  rw [List.replicate_zero,List.nil_append] at h
  exact zdv h
 | k+1,[],ys,h=>by simp at h
 | k+1,x::xs,ys,h=>by
  rw [List.replicate_succ,List.cons_append,List.zip_cons_cons] at h
  rcases List.mem_cons.mp h with e | h2
  ·cases e
  ·exact zeD (k:=k) (xs:=xs) (ys:=ys) h2
theorem zeJ {α β:Type} {a:α}:∀ {k:Nat} {xs:List α} {ys:List (Option β)},a∈xs.take k→k≤xs.length→(a,(none:Option β))∈xs.zip (List.replicate k none++ys)
 | 0,xs,ys,h,_=>by simp at h
 | k+1,[],ys,h,hk=>by simp at h
 | k+1,x::xs,ys,h,hk=>by
  rw [List.take_succ_cons] at h
  rw [List.replicate_succ,List.cons_append,List.zip_cons_cons]
  rcases List.mem_cons.mp h with e | h
  ·rw [e]; exact List.mem_cons_self
  ·exact List.mem_cons_of_mem _ (zeJ h (by simpa using hk))
theorem Paired.of_mem {α β:Type} {F:α→β→Prop}:∀ {xs:List α} {ys:List β},Paired F xs ys→∀x∈xs,∃y,F x y
 | _,_,.nil,x,h=>by cases h
 | _,_,.cons r t,x,h=>by
  rcases List.mem_cons.mp h with e | h
  ·exact ⟨_,by rw [e]; exact r⟩
  ·exact Paired.of_mem t x h
theorem zd6 {M:Model} {h:Heap} {x qual:Str} {as ko:List Arg} {kdx:List (Option Expr)} {ddx:List Expr} {body:List Stmt} {scope:Scope} {dV kV doc pm:Value} {an:Option Addr} {cdv ct:Value}
  {its:List Value} {kdv:List (Option Value)} {us ws us':List Value} {ks:List Str} {o:Option (Array Value)}
  (nd:(as.map (·.arg)++ko.map (·.arg)).Nodup) (hD:PySem.W.Looks M h (seqItems? dV) o) (ho:(o.getD #[]).toList=its) (hl:its.length≤as.length) (hkl:kdv.length=ko.length) (nk:ks.Nodup)
  (hK:∀n v,(n,some v)∈(ko.map (·.arg)).zip kdv→∃d,kV=.ref d∧PySem.W.Looks M h (nsGet d n) (some v))
  (hb:zbb (as.map (·.arg)++ko.map (·.arg)) as.length (List.replicate (as.length - its.length) none++its.map some++kdv) us ks ws=some us'):
  PySem.W.Looks M h (bindArgs (PySem.W.fnOf x qual ⟨[],as,none,ko,kdx,none,ddx⟩ body scope dV kV doc pm an cdv ct) ⟨us,ks.zip ws⟩) ((as.map (·.arg)++ko.map (·.arg)).zip us'):=by
 obtain ⟨pos,hpos⟩:∃p,p=as.map (·.arg):=⟨_,rfl⟩
 obtain ⟨kwo,hkwo⟩:∃p,p=ko.map (·.arg):=⟨_,rfl⟩
 have hpl:pos.length=as.length:=by rw [hpos,List.length_map]
 have hkw:kwo.length=ko.length:=by rw [hkwo,List.length_map]
 rw [← hpos, ← hkwo] at nd hb ⊢
 rw [← hkwo] at hK
 rw [← hpl] at hl hb
 rw [← hkw] at hkl
 unfold zbb at hb
 split at hb
 case isFalse=>cases hb
 rename_i cond
 simp only [Bool.and_eq_true,decide_eq_true_eq] at cond
 obtain ⟨⟨c1,c2⟩,c3⟩:=cond
 have P:=zci hb
 have ndp:pos.Nodup:=(List.nodup_append.mp nd).1
 have ndk:kwo.Nodup:=(List.nodup_append.mp nd).2.1
 have apart:∀a∈pos,∀b∈kwo,a≠b:=(List.nodup_append.mp nd).2.2
 have hz:(pos++kwo).zip us=pos.zip us:=zgE _ _ _ c1
 rw [hz] at P
 obtain ⟨sl,hsl⟩:∃sl,sl=pos.zip us++ks.zip ws:=⟨_,rfl⟩
 rw [← hsl] at P
 have fz:(pos.zip us).map (·.1)=pos.take us.length:=by
  have e:pos=pos.take us.length++pos.drop us.length:=(List.take_append_drop _ _).symm
  have hlt:(pos.take us.length).length=us.length:=by rw [List.length_take]; omega
  have e2:pos.zip us=(pos.take us.length).zip us:=by
   conv=>lhs; rw [e]
   exact zgE _ _ _ (by omega)
  rw [e2]
  exact zbA (by omega)
 have kwn:∀k∈ks,k∈pos.drop us.length∨k∈kwo:=fun k hk=>by
  have q:k∈(pos++kwo).drop us.length:=by
   have:=List.all_eq_true.mp c3 k hk
   simpa using this
  rw [List.drop_append_of_le_length c1] at q
  exact List.mem_append.mp q
 have kout:∀k∈ks,(pos.zip us).lookup k=none:=fun k hk=>by
  refine zbX ?_
  rw [fz]
  intro z
  rcases kwn k hk with q | q
  ·have nd2:=ndp
   rw [← List.take_append_drop us.length pos] at nd2
   exact (List.nodup_append.mp nd2).2.2 k z k q rfl
  ·exact apart k (List.mem_of_mem_take z) k q rfl
 unfold bindArgs
 dsimp only [PySem.W.fnOf]
 rw [← hpos, ← hkwo]
 simp only [List.map_nil,List.nil_append]
 have fk:(ks.zip ws).map (·.1)=ks:=zbA (by omega)
 refine PySem.W.Looks.andThen (a:=(sl,[])) (PySem.W.Looks.of_pure ?_) ?_
 ·rw [hsl]
  refine zkz (fun k=>k∈pos∨k∈kwo) (fun k v acc hk ha=>?_) _ _ (fun q hq=>?_) (by rw [fk]; exact nk) (fun q hq=>?_)
  ·have c:(pos.contains k||kwo.contains k)=true:=by
    simp only [Bool.or_eq_true,List.contains_iff_mem]
    exact hk
   dsimp only
   rw [if_pos c,ha]
   rfl
  ·have hq':q.1∈ks:=by rw [← fk]; exact List.mem_map_of_mem hq
   exact (kwn _ hq').imp List.mem_of_mem_drop id
  ·exact kout _ (by rw [← fk]; exact List.mem_map_of_mem hq)
 ·refine PySem.W.Looks.andThen hD ?_
  dsimp only
  have g1:(decide (us.length > pos.length)&&(none:Option Arg).isNone)=false:=by
   rw [decide_eq_false (by omega)]
   rfl
  rw [if_neg (by rw [g1]; exact Bool.false_ne_true),ho]
  have e0:its.length - pos.length=0:=by omega
  rw [e0,List.drop_zero]
  have miss:List.filter (fun n=>(List.lookup n sl).isNone) (List.take (pos.length - its.length) pos)=[]:=by
   refine List.filter_eq_nil_iff.mpr fun n hn z=>?_
   have hm:(n,(none:Option Value))∈(pos++kwo).zip (List.replicate (pos.length - its.length) none++its.map some++kdv):=by
    rw [List.append_assoc]
    have hn':n∈(pos++kwo).take (pos.length - its.length):=by
     rw [List.take_append_of_le_length (by omega)]
     exact hn
    exact zeJ hn' (by rw [List.length_append]; omega)
   obtain ⟨u,hu⟩:=Paired.of_mem P _ hm
   dsimp only at hu
   cases e:List.lookup n sl with
   | none=>rw [e] at hu; cases hu
   | some w=>rw [e] at z; cases z
  rw [miss]
  simp only [List.isEmpty_nil,Bool.not_true,Bool.false_eq_true,if_false]
  obtain ⟨pd,hpd⟩:∃pd,pd=(pos.drop (pos.length - its.length)).zip its:=⟨_,rfl⟩
  have npd:(pd.map (·.1))=pos.drop (pos.length - its.length):=by
   rw [hpd]
   exact zbA (by rw [List.length_drop]; omega)
  refine PySem.W.Looks.andThen (a:=sl++lack sl pd) (PySem.W.Looks.of_pure ?_) ?_
  ·rw [← hpd]
   exact zgv (fun q acc=>rfl) pd sl (by rw [npd]; exact ndp.sublist (List.drop_sublist _ _))
  ·obtain ⟨kd,hkd⟩:∃kd,kd=(kwo.zip kdv).map fun p=>(p.1,p.2.getD .none):=⟨_,rfl⟩
   have nkd:kd.map (·.1)=kwo:=by
    rw [hkd,List.map_map]
    exact zbA (by omega)
   have P2:∀n w,(n,w)∈(pos++kwo).zip (List.replicate (pos.length - its.length) none++its.map some++kdv)→List.lookup n sl=none→∃u,w=some u:=fun n w hm z=>by
    obtain ⟨y,hy⟩:=Paired.of_mem P _ hm
    dsimp only at hy
    rw [z,Option.none_or] at hy
    exact ⟨y,hy⟩
   have lenL:pos.length=(List.replicate (pos.length - its.length) (none:Option Value)++its.map some).length:=by
    rw [List.length_append,List.length_replicate,List.length_map]
    omega
   have inK:∀n w,(n,w)∈kwo.zip kdv→(n,w)∈(pos++kwo).zip (List.replicate (pos.length - its.length) none++its.map some++kdv):=fun n w hm=>by
    rw [List.zip_append lenL]
    exact List.mem_append_right _ hm
   refine PySem.W.Looks.andThen (a:=(sl++lack sl pd++lack (sl++lack sl pd) kd,[])) ?_ ?_
   ·rw [← nkd]
    refine zgN (fun q=>∃d,kV=.ref d∧PySem.W.Looks M h (nsGet d q.1) (some q.2)) (fun q acc hq=>?_) kd _ (fun q hq z=>?_) (by rw [nkd]; exact ndk)
    ·by_cases c:(acc.lookup q.1).isNone=true
     ·obtain ⟨d,rfl,hd⟩:=hq (Option.isNone_iff_eq_none.mp c)
      simp only [c,if_true]
      exact hd.andThen PySem.W.Looks.now
     ·simp only [c]
      exact PySem.W.Looks.now
    ·rw [hkd] at hq
     obtain ⟨⟨n,w⟩,hp,e⟩:=List.mem_map.mp hq
     subst e
     dsimp only at z ⊢
     have z1:List.lookup n sl=none:=by
      rw [List.lookup_append] at z
      cases e:List.lookup n sl with
      | none=>rfl
      | some w=>rw [e] at z; cases z
     obtain ⟨u,hw⟩:=P2 n w (inK n w hp) z1
     subst hw
     exact hK n u hp
   ·dsimp only
    rw [if_neg (by simp)]
    refine PySem.W.Looks.of_pure (congrArg pure (zdr ?_))
    refine ze8 (by rw [List.length_append,List.length_append, ← lenL,hkw,hkl,hkw]) P fun n w u hm hu=>?_
    cases e:List.lookup n sl with
    | some z=>
     rw [e] at hu
     rw [List.lookup_append,List.lookup_append,e]
     exact hu
    | none=>
     rw [e,Option.none_or] at hu
     have hw:w=some u:=hu
     subst hw
     rw [List.lookup_append,List.lookup_append,e,Option.none_or]
     rcases zdq lenL hm with hm | hm
     ·have hp:(n,u)∈pd:=by
       rw [hpd]
       exact zeD hm
      rw [zft (by rw [npd]; exact ndp.sublist (List.drop_sublist _ _)) hp e]
      rfl
     ·have hk:n∈kwo:=(List.of_mem_zip hm).1
      have e1:(lack sl pd).lookup n=none:=zkP (by
        rw [npd]
        exact fun z=>apart n (List.mem_of_mem_drop z) n hk rfl)
      have hkm:(n,u)∈kd:=by
       rw [hkd]
       exact List.mem_map.mpr ⟨(n,some u),hm,rfl⟩
      rw [e1,Option.none_or]
      exact zft (by rw [nkd]; exact ndk) hkm (by rw [List.lookup_append,e,e1]; rfl)
end Mi
end
section
set_option maxHeartbeats 4000000
namespace Mi
open PySem PySem.Spec PyProof.Rows L2
theorem zbB:sizeLine=16777216:=sizeLine_eq
theorem okB {n:Nat} (h:zad n=true):n≤sizeLine:=by rw [zbB]; exact of_decide_eq_true h
section
variable {g:G} {E:XK} {m:List Addr} {L:MH} {H:Hp} {Q:VK} {xs ys:List D} {vs ws:List V} {a p:Addr} {d e:D} {v x y:V} {l:Nat}
theorem zbz (hr:HRel g m L H) (r:RelDs g m H xs vs) (h:Post g E (RD g) m H (newL xs L) Q):∀p,H p=none→Q (.ref p) (upd H p (.lst vs)):=fun p hp=>by
 refine h (m++[p]) (upd H p (.lst vs)) (.ref p) (Ev.push hp) (hr.push hp ⟨vs,upd_same,r.mono (Ev.push hp)⟩) (.ref ?_)
 rw [← hr.len]
 exact zao _ _
theorem zcT (hr:HRel g m L H) (r:RelDs g m H xs vs) (h:Post g E (RD g) m H (.ok (.tup xs) L) Q):∀p,H p=none→Q (.ref p) (upd H p (.tup vs)):=fun p hp=>
 h m (upd H p (.tup vs)) (.ref p) (Ev.upd_free hp) (hr.laid hp) (.tup (SqT.of upd_same) (r.mono (Ev.upd_free hp)))
theorem HRel.lstAt (hr:HRel g m L H) (e:L[l]?=some (.lst xs)):∃a vs,m[l]?=some a∧H a=some (.lst vs)∧RelDs g m H xs vs:=by
 obtain ⟨a,h1,_,vs,h2,h3⟩:=hr.addr e
 exact ⟨a,vs,h1,h2,h3⟩
theorem HRel.ktpAt (hr:HRel g m L H) (e:L[l]?=some (.ktp xs)):∃a ob vs,m[l]?=some a∧H a=some (.frz ob (.tup vs))∧(ob.cls=.type "tuple"∧ob.dict=none)∧RelDs g m H xs vs:=by
 obtain ⟨a,h1,_,ob,vs,h2,h0,h3⟩:=hr.addr e
 exact ⟨a,ob,vs,h1,h2,h0,h3⟩
theorem HRel.insAt {c:Nat} {fs:List (Nat×D)} (hr:HRel g m L H) (e:L[l]?=some (.ins c fs)):∃a dx vfs,m[l]?=some a∧H a=some (.ins (g.cad c) dx vfs)∧RelF g m H fs vfs:=by
 obtain ⟨a,h1,_,dx,vfs,h2,h3⟩:=hr.addr e
 exact ⟨a,dx,vfs,h1,h2,h3⟩
theorem zgw {α β:Type} {R:List Addr→Hp→α→β→Prop} {Q:β→Hp→Prop} {r:α} {q:β} (hr:HRel g m L H) (hm:m[l]?=some a) (ha:H a=some (.lst ws)) (rr:R m (upd H a (.lst vs)) r q) (rx:RelDs g m H xs vs)
  (h:Post g E R m H (.ok r (L.set l (.lst xs))) Q):Q q (upd H a (.lst vs)):=
 h m _ q (Ev.write_lst ha) (hr.set hm (Ev.write_lst ha) ⟨vs,upd_same,rx.mono (Ev.write_lst ha)⟩) rr
theorem zbq (hr:HRel g m L H) (rd:RelD g m H d x) (e:seqD L d=some xs):∃a vs,x=.ref a∧(SqL g.K H a vs∨SqT g.K H a vs)∧RelDs g m H xs vs:=by
 cases rd with
 | @ref n a hm=>
  simp only [seqD] at e
  split at e
  ·rename_i ys q
   cases e
   obtain ⟨a',vs,h1,h2,h3⟩:=hr.lstAt q
   rw [hm] at h1
   cases h1
   exact ⟨a,vs,rfl,.inl (SqL.of h2),h3⟩
  ·rename_i ys q
   cases e
   obtain ⟨a',ob,vs,h1,h2,h0,h3⟩:=hr.ktpAt q
   rw [hm] at h1
   cases h1
   exact ⟨a,vs,rfl,.inr (.inl (.inr ⟨ob,h2⟩)),h3⟩
  ·cases e
 | tup h r=>cases e; exact ⟨_,_,rfl,.inr h,r⟩
 | fzl h r=>cases e; exact ⟨_,_,rfl,.inl h.sqL,r⟩
 | _=>cases e
theorem zan (hr:HRel g m L H) (rd:RelD g m H d x) (e:zaD L d=some xs):∃a vs,x=.ref a∧SqL g.K H a vs∧RelDs g m H xs vs:=by
 cases rd with
 | @ref n a hm=>
  simp only [zaD] at e
  split at e
  ·rename_i ys q
   cases e
   obtain ⟨a',vs,h1,h2,h3⟩:=hr.lstAt q
   rw [hm] at h1
   cases h1
   exact ⟨a,vs,rfl,SqL.of h2,h3⟩
  ·cases e
 | fzl h r=>cases e; exact ⟨_,_,rfl,h.sqL,r⟩
 | _=>cases e
mutual
theorem zc1 (hr:HRel g m L H):∀(n:Nat) (d:D) (z:PyData) (x:V),dat L n d=some z→RelD g m H d x→Dp g.K H x z
 | _,.non,_,_,e,r=>by simp only [dat] at e; cases e; cases r; exact .non
 | _,.bl b,_,_,e,r=>by simp only [dat] at e; cases e; cases r; exact .bl b
 | _,.int i,_,_,e,r=>by simp only [dat] at e; cases e; cases r; exact .int i
 | _,.str s,_,_,e,r=>by simp only [dat] at e; cases e; cases r; exact .str s
 | 0,.tup _,_,_,e,_=>by simp only [dat] at e; cases e
 | 0,.fzl _,_,_,e,_=>by simp only [dat] at e; cases e
 | 0,.ref _,_,_,e,_=>by simp only [dat] at e; cases e
 | 0,.ty _,_,_,e,_=>by simp only [dat] at e; cases e
 | 0,.glo _,_,_,e,_=>by simp only [dat] at e; cases e
 | 0,.clo _,_,_,e,_=>by simp only [dat] at e; cases e
 | n+1,.clo _,_,_,e,_=>by simp only [dat] at e; cases e
 | n+1,.ty _,_,_,e,_=>by simp only [dat] at e; cases e
 | n+1,.glo _,_,_,e,_=>by simp only [dat] at e; cases e
 | n+1,.tup xs,z,_,e,r=>by
  simp only [dat] at e
  cases q:dats L n xs with
  | none=>rw [q] at e; cases e
  | some zs=>
   rw [q] at e
   cases e
   cases r with
   | tup h rs=>exact .tup h (dats_rel hr n xs zs _ q rs)
 | n+1,.fzl xs,z,_,e,r=>by
  simp only [dat] at e
  cases q:dats L n xs with
  | none=>rw [q] at e; cases e
  | some zs=>
   rw [q] at e
   cases e
   cases r with
   | fzl h rs=>exact .lst h.sqL (dats_rel hr n xs zs _ q rs)
 | n+1,.ref a,z,_,e,r=>by
  simp only [dat] at e
  split at e
  ·rename_i xs q0
   cases q:dats L n xs with
   | none=>rw [q] at e; cases e
   | some zs=>
    rw [q] at e
    cases e
    cases r with
    | ref hm=>
     obtain ⟨a',vs,h1,h2,h3⟩:=hr.lstAt q0
     rw [hm] at h1
     cases h1
     exact .lst (SqL.of h2) (dats_rel hr n xs zs _ q h3)
  ·cases e
 termination_by n d=>(n,0)
theorem dats_rel (hr:HRel g m L H):∀(n:Nat) (ds:List D) (zs:List PyData) (xs:List V),dats L n ds=some zs→RelDs g m H ds xs→DpAll g.K H xs zs
 | _,[],_,_,e,r=>by simp only [dats] at e; cases e; cases r; exact .nil
 | 0,_::_,_,_,e,_=>by simp only [dats] at e; cases e
 | n+1,d::ds,zs,_,e,r=>by
  simp only [dats] at e
  cases q:dat L n d with
  | none=>rw [q] at e; cases e
  | some z=>
   rw [q] at e
   cases q2:dats L (n+1) ds with
   | none=>simp [q2] at e
   | some zs'=>
    simp only [q2,Option.bind_some,Option.map_some,Option.some.injEq] at e
    subst e
    cases r with
    | cons h rs=>exact .cons (zc1 hr n d z _ q h) (dats_rel hr (n+1) ds zs' _ q2 rs)
 termination_by n ds=>(n,ds.length+1)
end
theorem zlC (rd:RelD g m H d x) (re:RelD g m H e y) (h:zoy d e=true):scal x y=true∧decide (x=y)=eqS d e:=by
 cases rd<;>cases re<;>first | exact ⟨rfl,by simp [eqS]⟩ | cases h
theorem zkL {b:Bool} (hr:HRel g m L H) (rd:RelD g m H d x) (re:RelD g m H e y) (h:eqD L d e=some b):
  (scal x y=true∧decide (x=y)=b)∨∃z w,Dp g.K H x z∧Dp g.K H y w∧SeqAt.shaped z=true∧SeqAt.shaped w=true∧PyData.eqv z w=b:=by
 unfold eqD at h
 split at h
 ·rename_i q
  obtain ⟨h1,h2⟩:=zlC rd re q
  cases h
  exact .inl ⟨h1,h2⟩
 ·cases q1:dat L 80 d with
  | none=>rw [q1] at h; cases h
  | some z=>
   rw [q1] at h
   cases q2:dat L 80 e with
   | none=>simp [q2] at h
   | some w=>
    simp only [q2,Option.bind_some] at h
    split at h
    ·rename_i q3
     cases h
     obtain ⟨s1,s2⟩:=Bool.and_eq_true_iff.mp q3
     exact .inr ⟨z,w,zc1 hr _ _ _ _ q1 rd,zc1 hr _ _ _ _ q2 re,s1,s2,rfl⟩
    ·cases h
theorem zgy (rd:RelD g m H d x) (h:zbE d=true):flatV x=true:=by
 cases rd<;>first | rfl | cases h
theorem zff:∀ {xs:List D} {vs:List V},RelDs g m H xs vs→xs.all zbE=true→vs.all flatV=true
 | _,_,.nil,_=>rfl
 | _,_,.cons r rs,h=>by
  rw [List.all_cons,Bool.and_eq_true] at h ⊢
  exact ⟨zgy r h.1,zff rs h.2⟩
theorem zhP (rd:RelD g m H d x) (re:RelD g m H e y) (h1:zbE d=true) (h2:zbE e=true):eqV x y=eqf d e:=by
 cases rd<;>cases re<;>first | rfl | cases h1 | cases h2
theorem zjY (rd:RelD g m H d x) (fd:zbE d=true):∀ {xs:List D} {vs:List V},RelDs g m H xs vs→xs.all zbE=true→inV x vs=xs.any fun z=>eqf z d
 | _,_,.nil,_=>rfl
 | _,_,.cons r rs,h=>by
  rw [List.all_cons,Bool.and_eq_true] at h
  have ih:=zjY rd fd rs h.2
  show ((eqV _ x)||inV x _)=_
  rw [List.any_cons,ih,zhP r rd h.1 fd]
theorem zfm {b:Bool} (hr:HRel g m L H) (rd:RelD g m H d x) (h:truD L d=some b):TruV g.K x H b:=by
 have seq:(seqD L d).map (fun xs=>!xs.isEmpty)=some b→TruV g.K x H b:=fun q=>by
  cases e:seqD L d with
  | none=>rw [e] at q; cases q
  | some xs=>
   rw [e] at q
   cases q
   obtain ⟨a,vs,rfl,h1,h2⟩:=zbq hr rd e
   have hl:=h2.length
   have hb:(!xs.isEmpty)=!vs.isEmpty:=by
    cases h2<;>rfl
   rcases h1 with h1 | h1
   ·exact .inl ⟨vs,h1,hb⟩
   ·exact .inr (.inl ⟨vs,h1,hb⟩)
 cases rd with
 | non=>cases h; rfl
 | bl b=>cases h; rfl
 | int i=>cases h; rfl
 | str s=>
  simp only [truD] at h
  split at h
  ·rename_i q
   cases h
   refine ⟨okB q, ?_⟩
   cases hs:s.length<;>rfl
  ·cases h
 | ty n=>cases h
 | glo k=>cases h
 | clo q=>cases h
 | ref hm=>exact seq h
 | tup h1 r=>exact seq h
 | fzl h1 r=>exact seq h
theorem zhK (r:RelDs g m H xs vs) (lo hi:Option Int):RelDs g m H (cutD xs lo hi) (cutV vs lo hi):=by
 unfold cutD cutV
 rw [← r.length]
 exact (r.drop _).take _
theorem zhX:∀ {xs:List D} {vs:List V} {bs:List Bool},RelDs g m H xs vs→mapO blD xs=some bs→vs=bs.map V.bl
 | _,_,_,.nil,h=>by cases h; rfl
 | _,_,_,.cons r rs,h=>by
  rename_i d v ds vs
  simp only [mapO] at h
  cases q:blD d with
  | none=>rw [q] at h; cases h
  | some b=>
   rw [q] at h
   cases q2:mapO blD ds with
   | none=>simp [q2] at h
   | some bs'=>
    simp only [q2,Option.bind_some,Option.map_some,Option.some.injEq] at h
    subst h
    cases r<;>first | cases q | skip
    rw [zhX rs q2]
    rfl
theorem zhq:∀ {ds:List D} {vs:List V} {ns:List Int},RelDs g m H ds vs→mapO intD ds=some ns→vs=ns.map V.int
 | _,_,_,.nil,h=>by
  cases h
  rfl
 | d::ds,_,ns,.cons r rs,h=>by
  simp only [mapO] at h
  cases q:intD d with
  | none=>rw [q] at h; cases h
  | some x=>
   rw [q] at h
   cases q2:mapO intD ds with
   | none=>rw [q2] at h; cases h
   | some xs=>
    rw [q2] at h
    cases h
    have e2:=zhq rs q2
    subst e2
    cases r<;>simp only [intD,Option.some.injEq,reduceCtorEq] at q
    subst q
    rfl
theorem zgY:∀ys:List Int,RelDs g m H (ys.map D.int) (ys.map V.int)
 | []=>.nil
 | y::ys=>.cons (.int y) (zgY ys)
theorem zil:∀ {xs:List D} {vs:List V} {bs:List Str},RelDs g m H xs vs→mapO strD xs=some bs→vs=bs.map V.str
 | _,_,_,.nil,h=>by cases h; rfl
 | _,_,_,.cons r rs,h=>by
  rename_i d v ds vs
  simp only [mapO] at h
  cases q:strD d with
  | none=>rw [q] at h; cases h
  | some b=>
   rw [q] at h
   cases q2:mapO strD ds with
   | none=>simp [q2] at h
   | some bs'=>
    simp only [q2,Option.bind_some,Option.map_some,Option.some.injEq] at h
    subst h
    cases r<;>first | cases q | skip
    rw [zil rs q2]
    rfl
theorem zgQ:∀ys:List Str,RelDs g m H (ys.map D.str) (ys.map V.str)
 | []=>.nil
 | y::ys=>.cons (.str y) (zgQ ys)
theorem zm7 {i:Int} (r:RelDs g m H xs vs) (h:atI xs i=some d):∃v,atI vs i=some v∧RelD g m H d v:=by
 unfold atI at h ⊢
 rw [← r.length]
 cases q:ixN xs.length i with
 | none=>rw [q] at h; cases h
 | some j=>
  rw [q] at h
  exact r.get h
end
end Mi
end
section
set_option maxHeartbeats 4000000
namespace MiSx
open PySem PySem.Spec PyProof.Rows L2
def zdz (x:Int×Value):Str:=match x.2 with
 | .str y _=>y
 | _=>Str.empty
def TxtE (P:Program) (w:World) (x:Int×Value):Prop:=∃y tok,x.2=.str y tok∧x.1=(PySem.strKind P w).hash y
def WSet (P:Program) (w:World) (h:Heap) (a:Addr) (M:Str→Bool) (n:Nat):Prop:=∃(ob:Obj) (xs:Array (Int×Value)) (age:Nat) (tb:SetTable),
 h.get? a=some ob∧ob.ExactSet∧ob.data=.set xs age tb∧
 ((∀x∈xs.toList,TxtE P w x)∧(xs.toList.map zdz).Nodup∧∀y,M y=true↔y∈xs.toList.map zdz)∧
 (xs.size < scanBound∧tb.fits xs.size=true∧xs.size=n)∧
 (Ris tb.place.toList∧(w.params.followText "set-order"=true∨tb.led=true))
section
variable {P:Program} {w:World} {h h':Heap} {a:Addr} {M:Str→Bool} {n:Nat}
theorem WSet.move (W:WSet P w h a M n) (k:∀ob,h.get? a=some ob→h'.get? a=some ob):WSet P w h' a M n:=by
 obtain ⟨ob,xs,age,tb,e,more⟩:=W
 exact ⟨ob,xs,age,tb,k ob e,more⟩
theorem WSet.same {M':Str→Bool} {n':Nat} (W:WSet P w h a M n) (e:∀y,M' y=M y) (en:n=n'):WSet P w h a M' n':=by
 have q:M'=M:=funext e
 subst q en
 exact W
theorem zlX {x:Int×Value} (g:TxtE P w x) (y:Str):(PySem.strKind P w).is y x.2=true↔zdz x=y:=by
 obtain ⟨z,tok,e,_⟩:=g
 have e2:zdz x=z:=by
  unfold zdz
  rw [e]
 rw [e2,e]
 constructor
 ·intro q
  have q:(z==y)=true:=q
  exact eq_of_beq q
 ·intro q
  show (z==y)=true
  rw [q]
  exact beq_self_eq_true y
theorem zhr {l:List (Int×Value)} (g:∀x∈l,TxtE P w x):ElemsOf (PySem.strKind P w) l:=fun x hx=>by
 obtain ⟨z,tok,e1,e2⟩:=g x hx
 refine ⟨⟨z, ?_,e2⟩, ?_⟩
 ·rw [e1]
  exact strKind_is P w z tok
 ·rw [e1]
  rfl
theorem zjQ {l:List (Int×Value)} (g:∀x∈l,TxtE P w x) (y:Str):(∃x∈l,(PySem.strKind P w).is y x.2=true)↔y∈l.map zdz:=by
 rw [List.mem_map]
 exact ⟨fun ⟨x,hx,q⟩=>⟨x,hx,(zlX (g x hx) y).mp q⟩,fun ⟨x,hx,q⟩=>⟨x,hx,(zlX (g x hx) y).mpr q⟩⟩
end
section
variable {P:Program} {w:World} {A:Around} {E:Value→Shared→Prop} {s:Shared} {a:Addr} {M:Str→Bool} {n:Nat}
theorem zl6 {f:Bool→Sem Unit} (hf:∀(k:Bool) (z:Shared) (R:Unit→Shared→Prop),R () z→wpAny (model P w) A (f k) R E z) {ob:Obj} {xs ys:Array (Int×Value)} {age:Nat} {tb tc:SetTable} {M':Str→Bool}
  (at_:s.heap.get? a=some ob) (ex:ob.ExactSet) (data:ob.data=.set xs age tb)
  (good:(∀x∈ys.toList,TxtE P w x)∧(ys.toList.map zdz).Nodup∧∀y,M' y=true↔y∈ys.toList.map zdz) (few:ys.size < scanBound) (fits:tc.fits ys.size=true) (ris:Ris tc.place.toList) (led:w.params.followText "set-order"=true∨tc.led=true)
  {dummy:Bool} {R:Option Bool→Shared→Prop} (fin:∀h',Heap.SameBut a s.heap h'→WSet P w h' a M' ys.size→R (some true) { s with heap:=h' }):
  wpAny (model P w) A (do
    storeSet a ys tc
    if (!dummy&&tc.tooFull)=true then do
        f (relayAll tc ys (SetTable.grown ys.size)).2.2
        storeSet a (relayAll tc ys (SetTable.grown ys.size)).1 (relayAll tc ys (SetTable.grown ys.size)).2.1
        pure (some true)
      else pure (some true)) R E s:=by
 have at1:=store_at (es':=ys) (t':=tc) at_ data
 have same1:=Heap.SameBut.update s.heap a (Obj.putSet ys tc)
 refine wpAny_bind (wpAny_storeSet_of at_ data ?_ (fits_of_scanBound few))
 by_cases full:(!dummy&&tc.tooFull)=true
 ·rw [if_pos full]
  have r1:=relayAll_perm tc ys (SetTable.grown ys.size)
  have r2:=relayAll_fits tc ys (SetTable.grown ys.size)
  have r3:=relayAll_ris tc ys (SetTable.grown ys.size)
  have r4:=relayAll_led tc ys (SetTable.grown ys.size)
  obtain ⟨Z,hZ⟩:∃Z,Z=relayAll tc ys (SetTable.grown ys.size):=⟨_,rfl⟩
  rw [← hZ] at r1 r2 r3 r4 ⊢
  obtain ⟨zs,td,gave⟩:=Z
  have size:zs.size=ys.size:=by
   have:=r1.length_eq
   simpa using this
  have few2:zs.size < scanBound:=size ▸ few
  refine wpAny_bind (hf _ _ _ (wpAny_bind (wpAny_storeSet_of at1 rfl ?_ (fits_of_scanBound few2))))
  have at2:=store_at (es':=zs) (t':=td) at1 rfl
  refine wpAny_pure (fin _ (same1.trans (Heap.SameBut.update _ a _)) ⟨_,zs,_,td,at2,ex,rfl,⟨fun x hx=>good.1 x (r1.mem_iff.mp hx), ?_,fun y=>?_⟩,⟨few2,r2,size⟩,r3, ?_⟩)
  ·exact (r1.map zdz).nodup_iff.mpr good.2.1
  ·exact (good.2.2 y).trans (r1.map zdz).mem_iff.symm
  ·exact led.imp id fun q=>r4.trans q
 ·rw [if_neg full]
  exact wpAny_pure (fin _ same1 ⟨_,ys,_,tc,at1,ex,rfl,good,⟨few,fits,rfl⟩,ris,led⟩)
theorem added {y:Str} {tok:Tok} {R:Bool→Shared→Prop} (W:WSet P w s.heap a M n) (room:n+1 < scanBound)
  (fin:∀(p:Bool) (h':Heap),Heap.SameBut a s.heap h'→WSet P w h' a (fun z=>M z||decide (z=y)) (if M y=true then n else n+1)→R p { s with heap:=h' }):
  wpAny (model P w) A (setAddHashed a (.str y tok) ((PySem.strKind P w).hash y)) R E s:=by
 obtain ⟨ob,xs,age,tb,at_,ex,data,⟨g,nd,m⟩,⟨few,fits,size⟩,ris,led⟩:=W
 have key:(PySem.strKind P w).is y (.str y tok)=true:=strKind_is P w y tok
 have scan:(Value.str y tok).scannable=true:=rfl
 unfold setAddHashed setAddHashedIn
 refine wpAny_holding (wpAny_bind (wpAny_setState_of at_ data fits ?_))
 dsimp only
 rw [byScan_of scan few (zhr g)]
 simp only [↓reduceIte]
 unfold setAddByScan
 refine wpAny_bind (wpAny_bind (wpAny_rule (wpAny_bind (wpAny_setScan_of key at_ data fits (zhr g) ?_))))
 cases found:List.findIdx? (fun e=>(PySem.strKind P w).is y e.2) xs.toList with
 | some j=>
  obtain ⟨hj,pj,_⟩:=List.findIdx?_eq_some_iff_getElem.mp found
  have my:M y=true:=(m y).mpr ((zjQ g y).mp ⟨_,List.getElem_mem hj,pj⟩)
  dsimp only
  refine wpAny_pure (wpAny_pure (fin _ s.heap (Heap.SameBut.refl a s.heap) ⟨ob,xs,age,tb,at_,ex,data,⟨g,nd,fun z=>?_⟩,⟨few,fits,by rw [if_pos my]; exact size⟩,ris,led⟩))
  rw [Bool.or_eq_true,decide_eq_true_eq, ← m z]
  exact ⟨fun q=>q.elim id fun e=>by rw [e]; exact my,.inl⟩
 | none=>
  have no:y∉xs.toList.map zdz:=fun q=>by
   obtain ⟨x,hx,hq⟩:=(zjQ g y).mpr q
   rw [List.findIdx?_eq_none_iff.mp found x hx] at hq
   cases hq
  have my:¬ M y=true:=fun q=>no ((m y).mp q)
  have p1:=layNew_perm tb xs ((PySem.strKind P w).hash y) (.str y tok)
  have p2:=layNew_fits tb xs ((PySem.strKind P w).hash y) (.str y tok)
  have p3:=layNew_ris tb xs ((PySem.strKind P w).hash y) (.str y tok) ris
  have p4:=layNew_led tb xs ((PySem.strKind P w).hash y) (.str y tok)
  dsimp only
  obtain ⟨Z,hZ⟩:∃Z,Z=layNew tb xs ((PySem.strKind P w).hash y) (.str y tok):=⟨_,rfl⟩
  rw [← hZ] at p1 p2 p3 p4 ⊢
  obtain ⟨ys,tc,dummy,gave⟩:=Z
  dsimp only at p1 p2 p3 p4 ⊢
  rw [Array.toList_push] at p1
  have p5:=p1.trans (List.perm_append_singleton _ _)
  have p6:=p5.map zdz
  have good:(∀x∈ys.toList,TxtE P w x)∧(ys.toList.map zdz).Nodup∧∀z,(M z||decide (z=y))=true↔z∈ys.toList.map zdz:=by
   refine ⟨fun x hx=>?_,p6.nodup_iff.mpr (List.nodup_cons.mpr ⟨no,nd⟩),fun z=>?_⟩
   ·rcases List.mem_cons.mp (p5.mem_iff.mp hx) with e | e
    ·subst e
     exact ⟨y,tok,rfl,rfl⟩
    ·exact g x e
   ·rw [p6.mem_iff,Bool.or_eq_true,decide_eq_true_eq,m z,List.map_cons,List.mem_cons]
    exact Or.comm
  have size1:ys.size=n+1:=by
   have:=p5.length_eq
   rw [List.length_cons,Array.length_toList,Array.length_toList,size] at this
   exact this
  have few1:ys.size < scanBound:=by rw [size1]; exact room
  have led1:w.params.followText "set-order"=true∨tc.led=true:=led.imp id fun q=>p4.trans q
  have last:∀(p:Bool) (h':Heap),Heap.SameBut a s.heap h'→WSet P w h' a (fun z=>M z||decide (z=y)) ys.size→R p { s with heap:=h' }:=fun p h' same W'=>fin p h' same (by
    rw [if_neg my, ← size1]
    exact W')
  have gone:∀(k:Bool) (z:Shared) (R':Unit→Shared→Prop),R' () z→wpAny (model P w) A (match k with | true=>rule "set.scan.the-table-gave-way" | false=>pure ()) R' E z:=fun k z R' q=>by
   cases k
   ·exact wpAny_pure q
   ·exact wpAny_rule q
  refine wpAny_bind (gone _ _ _ ?_)
  split
  ·refine wpAny_bind ?_
   rw [hashByValue_scannable 8 scan]
   refine wpAny_pure (zl6 ?_ at_ ex data good few1 ?_ ?_ ?_ fun h' same W'=>?_)
   ·intro k z R' q
    cases k<;>first | exact wpAny_pure q | exact wpAny_rule q
   ·first | (split<;>first | exact p2 | exact SetTable.fits_plain_off p2) | exact p2
   ·first | (split<;>exact p3) | exact p3
   ·first | (split<;>exact led1) | exact led1
   ·dsimp only
    exact wpAny_pure (last _ h' same W')
  ·refine wpAny_bind (wpAny_pure ?_)
   simp only [↓reduceIte]
   refine zl6 ?_ at_ ex data good few1 p2 p3 led1 fun h' same W'=>?_
   ·intro k z R' q
    cases k<;>first | exact wpAny_pure q | exact wpAny_rule q
   ·dsimp only
    exact wpAny_pure (last _ h' same W')
end
section
variable {P:Program} {w:World} {A:Around} {E:Value→Shared→Prop} {s:Shared} {a:Addr} {M:Str→Bool} {n:Nat}
theorem fresh_set {h:Heap} {led:Bool} (hl:w.params.followText "set-order"=true∨led=true) (e:h.get? a=some { cls:=.type "set",dict:=none,data:=.set #[] 0 (.fresh 0 0 led) }):WSet P w h a (fun _=>false) 0:=by
 refine ⟨_, #[],0,_,e,⟨rfl,rfl,rfl⟩,rfl,⟨fun x hx=>by simp at hx,by simp,fun y=>by simp⟩,⟨by decide,rfl,rfl⟩,List.Pairwise.nil, ?_⟩
 rcases hl with q | q
 ·exact .inl q
 ·exact .inr (by rw [q]; rfl)
theorem new_one (x:Value) {R:Value→Shared→Prop}
  (h:∀led:Bool,(w.params.followText "set-order"=true∨led=true)→R (.ref s.heap.objs.size) { s with heap:=s.heap.push { cls:=.type "set",dict:=none,data:=.set #[] 0 (.fresh 0 0 led) } }):
  codeAny (model P w) A (.call (.builtin "set.__new__") ⟨[.type "set",x],[]⟩) (wants R E) s:=by
 have k:=h (!w.params.followText "set-order") (by cases w.params.followText "set-order"<;>simp)
 refine codeAny_of_tree ?_
 show wpAny _ A.in1 (checkBuiltinCall "set.__new__" ⟨[.type "set",x],[]⟩ >>= fun _=>again (.builtin "set.__new__" ⟨[.type "set",x],[]⟩)) _ _ s
 refine wpAny_bind (wpAny_of_eq (F.newCall_set_1 x) (wpAny_pure ⟨plainId_quiet F.plain_set_new _,codeAny_builtin F.entry_set_new ?_⟩))
 rw [Around.under_plainId F.plain_set_new _]
 unfold Builtin.«set.__new__» Builtin.Frozenset.newClass
 have self:=sub_set_self
 obtain ⟨h0,g0,d0,t0,o0⟩:=s
 wp_walk
 refine wpAny_askSetting (wpAny_pure ?_)
 simp only [newObj]
 exact wpAny_bind (wpAny_alloc (wpAny_pure (wpAny_pure k)))
end
end MiSx
end
section
set_option maxHeartbeats 4000000
namespace MiZ
open PySem PySem.Spec PyProof.Rows L2
theorem rep01 (tp:Addr) (its:Array Value) (nn:Nat) (di:Option Addr) (sz:Array (Option Value)) (j:Int) (tk0:Tok) (hj:j=0∨j=1) (hne:its.isEmpty=false):
  Meets (Builtin.«tuple.__mul__» ⟨[.ref tp,.int j tk0],[]⟩) (fun _ R z=>z.heap.get? tp=some { cls:=.type "tuple",dict:=di,data:=.seq its nn,slots:=sz }∧
    (j=1→R (.ok (.ret (Value.ref tp))) z)∧(j=0→R (.ok (.ret (Value.ref z.heap.objs.size))) { z with heap:=z.heap.push { cls:=Value.type "tuple",data:=Data.seq #[] },toks:=z.toks })):=
 .of_wp fun prog w A R z hz=>by
  obtain ⟨hp,gg,dr,tk,oss⟩:=z
  obtain ⟨hl,r1,r0⟩:=hz
  have f1:=AutoSeq1.idx_int
  rcases hj with rfl | rfl
  ·wp_walk using wpAny_loadPart' hl
   repeat (first
     | (refine wpAny_ite_false (decide_eq_false (by rw [hne]; decide)) ?_; wp_walk using wpAny_loadPart' hl)
     | (refine wpAny_ite_true (by simp) ?_; wp_walk using wpAny_loadPart' hl))
   exact ⟨_,rfl,r0 rfl⟩
  ·wp_walk using wpAny_loadPart' hl
   repeat (first
     | (refine wpAny_ite_true (by simp) ?_; wp_walk using wpAny_loadPart' hl))
   exact ⟨_,rfl,r1 rfl⟩
section
variable {prog:Program} {w:World} {A:Around} {R:Result→Shared→Prop} {it:Addr} {fp wr:List Addr} {G:Array GenState→Array GenState→Prop} {St:Nat→Shared→Prop} {xs:List Str} {sa:Addr}
def TSet (prog:Program) (w:World) (sa:Addr) (xs:List Str) (i:Nat) (h:Heap):Prop:=MiSx.WSet prog w h sa (fun y=>(xs.take i).contains y) (xs.take i).eraseDups.length
theorem TSet.move {i:Nat} {h h':Heap} (t:TSet prog w sa xs i h) (k:∀o,h.get? sa=some o→h'.get? sa=some o):TSet prog w sa xs i h':=MiSx.WSet.move t k
theorem zg8 {i:Nat} (hi:i < xs.length):xs.take (i+1)=xs.take i++[xs.getD i Str.empty]:=by
 rw [List.take_add_one,List.getElem?_eq_getElem hi,List.getD_eq_getElem?_getD,List.getElem?_eq_getElem hi]
 rfl
theorem zqA:∀(n:Nat) (l:List Str),l.length≤n→l.eraseDups.length≤l.length
 | _,[],_=>by simp
 | 0,_::_,h=>by simp at h
 | n+1,a::l,h=>by
  rw [List.eraseDups_cons,List.length_cons,List.length_cons]
  have f:(l.filter fun b=>!b==a).length≤l.length:=List.length_filter_le _ _
  have:=zqA n (l.filter fun b=>!b==a) (by rw [List.length_cons] at h; omega)
  omega
theorem zo2 (l:List Str):l.eraseDups.length≤l.length:=zqA _ l (Nat.le_refl _)
theorem dups_snoc (l:List Str) (x:Str):(l++[x]).eraseDups=if l.contains x then l.eraseDups else l.eraseDups++[x]:=by
 rw [List.eraseDups_append]
 by_cases c:l.contains x=true
 ·rw [if_pos c]
  have m:x∈l:=by simpa using c
  simp [List.removeAll,m]
 ·rw [if_neg c]
  have c':l.contains x=false:=Bool.eq_false_iff.mpr c
  have m:x∉l:=by simpa using c'
  simp [List.removeAll,m,List.eraseDups_cons]
theorem TSet.grow {i:Nat} {h:Heap} (hi:i < xs.length) (t:MiSx.WSet prog w h sa (fun y=>(xs.take i).contains y||decide (y=xs.getD i Str.empty)) (if (xs.take i).contains (xs.getD i Str.empty) then (xs.take i).eraseDups.length else (xs.take i).eraseDups.length+1)):TSet prog w sa xs (i+1) h:=by
 refine MiSx.WSet.same t (fun y=>?_) ?_
 ·rw [zg8 hi]
  by_cases e:y=xs.getD i Str.empty
  ·subst e
   simp
  ·rw [decide_eq_false e,Bool.or_false]
   simp only [List.contains_eq_mem,List.mem_append,List.mem_singleton,e,or_false]
 ·rw [zg8 hi,dups_snoc]
  split<;>simp
theorem zm1 {n:Nat} {P P':Nat→Value→Prop} (W:WalksS prog w A it fp wr G n P St) (h:∀i v,P i v→P' i v):WalksS prog w A it fp wr G n P' St:=
 ⟨W.sub,W.grefl,W.gtrans,W.frame,fun i s Q E hi st q=>W.item i s Q E hi st fun v s' p=>q v s' (h i v p),W.done,W.self⟩
theorem fill (W:WalksS prog w A.in1 it fp wr G xs.length (fun i v=>∃t,v=.str (xs.getD i Str.empty) t) St) (out:sa∉fp) (few:xs.length≤30):
  ∀(left i:Nat) (z:Shared),xs.length - i=left→i≤xs.length→St i z→TSet prog w sa xs i z.heap→(∀z',Moved (sa::wr) G z z'→TSet prog w sa xs xs.length z'.heap→R (.ok (.ret .none)) z')→
   codeAny (model prog w) A (.builtin "set.update.loop" ⟨[.ref sa,.ref it],[]⟩) R z
 | 0,i,z,e0,le,st,t,fin=>by
  have ei:i=xs.length:=by omega
  refine codeAny_builtin PyProof.Rows.F.entry_set_update_loop ?_
  rw [Around.under_plainId PyProof.Rows.F.plain_set_update_loop _]
  show wpAny _ _ (pyNext (.ref it) >>= _) _ _ _
  refine wpAny_bind (W.done z _ _ (ei ▸ st) fun z' mv=>?_)
  refine wpAny_pure (fin z' (mv.mono fun b hb=>List.mem_cons_of_mem _ hb) ?_)
  rw [← ei]
  exact t.move fun o ho=>mv.heap sa o (fun hb=>out (W.sub _ hb)) ho
 | left+1,i,z,e0,le,st,t,fin=>by
  have hi:i < xs.length:=by omega
  refine codeAny_builtin PyProof.Rows.F.entry_set_update_loop ?_
  rw [Around.under_plainId PyProof.Rows.F.plain_set_update_loop _]
  show wpAny _ _ (pyNext (.ref it) >>= _) _ _ _
  refine wpAny_bind (W.item i z _ _ hi st fun v z' hv st' mv=>?_)
  obtain ⟨tv,rfl⟩:=hv
  have t':TSet prog w sa xs i z'.heap:=t.move fun o ho=>mv.heap sa o (fun hb=>out (W.sub _ hb)) ho
  show wpAny _ _ (holding [Value.str (xs.getD i Str.empty) tv] (setAdd sa (.str (xs.getD i Str.empty) tv)) >>= _) _ _ _
  refine wpAny_bind (wpAny_holding ?_)
  unfold setAdd
  refine wpAny_holding (wpAny_bind ((PySem.strKind prog w).pyHash (k:=xs.getD i Str.empty) (strKind_is _ _ _ _) ?_))
  have room:(xs.take i).eraseDups.length+1 < scanBound:=by
   have l1:(xs.take i).eraseDups.length≤30:=Nat.le_trans (zo2 _) (by rw [List.length_take]; omega)
   unfold scanBound
   omega
  refine MiSx.added (s:={ z' with toks:=z'.toks+1 }) t' room fun p2 h2 same t2=>?_
  refine wpAny_pure ⟨plainId_quiet PyProof.Rows.F.plain_set_update_loop _,fill W out few left (i+1) _ (by omega) hi (W.frame _ z' _ _ st' (Nat.le_succ _) fun b hb o ho=>?_) (TSet.grow hi t2) fun z2 mv2 t3=>?_⟩
  ·exact (same.2 b fun e=>out (e ▸ hb)).trans ho
  ·refine fin z2 (Moved.trans W.gtrans ((mv.mono fun b hb=>List.mem_cons_of_mem _ hb).then_heap (Nat.le_succ _) fun b o hb ho=>?_) mv2) t3
   exact (same.2 b fun e=>hb (e ▸ List.mem_cons_self)).trans ho
end
section
variable {prog:Program} {w:World} {A:Around} {R:Result→Shared→Prop} {sa l:Addr} {items:Array Value} {xs:List Str} {h0:Heap} {gs:Array GenState} {dr:Drawn} {tk:Nat} {oss:OsState}
def ziu (prog:Program) (w:World) (sa:Addr) (xs:List Str) (h0:Heap) (gs:Array GenState) (dr:Drawn) (oss:OsState) (R:Result→Shared→Prop):Prop:=
 ∀(h':Heap) (tk':Nat),TSet prog w sa xs xs.length h'→(∀b o,b≠sa→h0.get? b=some o→h'.get? b=some o)→R (.ok (.ret .none)) ⟨h',gs,dr,tk',oss⟩
theorem zmd {St:Nat→Shared→Prop} {wr:List Addr} {ob:Obj} (W:WalksS prog w A.in1 h0.objs.size [h0.objs.size,l] wr (fun a b=>b=a) items.size (fun i v=>items[i]?=some v) St) (hw:wr=[h0.objs.size]) (hi:StrsAre items.toList xs) (few:xs.length≤30) (lt:sa < h0.objs.size) (ne:l≠sa) {led:Bool} (hled:w.params.followText "set-order"=true∨led=true)
  (there:h0.get? sa=some { cls:=.type "set",dict:=none,data:=.set #[] 0 (.fresh 0 0 led) }) (st:St 0 ⟨h0.push ob,gs,dr,tk,oss⟩)
  (k:ziu prog w sa xs h0 gs dr oss R):
  codeAny (model prog w) A (.builtin "set.update.loop" ⟨[.ref sa,.ref h0.objs.size],[]⟩) R ⟨h0.push ob,gs,dr,tk,oss⟩:=by
 have size:xs.length=items.size:=by rw [← StrsAre.len_eq hi,Array.length_toList]
 have W2:=zm1 W fun i v hv=>SS.strs_at hi i v (by rw [Array.getElem?_toList]; exact hv)
 rw [← size] at W2
 have out:sa∉[h0.objs.size,l]:=by
  simp only [List.mem_cons,List.not_mem_nil,or_false,not_or]
  exact ⟨Nat.ne_of_lt lt,ne.symm⟩
 refine fill W2 out few _ 0 _ rfl (Nat.zero_le _) st (MiSx.WSet.same (MiSx.fresh_set hled (Heap.get?_push_of_some _ there)) (fun _=>rfl) rfl) fun z' mv t=>?_
 obtain ⟨h3,g3,d3,tk3,os3⟩:=z'
 have eg:g3=gs:=mv.gens
 have ed:d3=dr:=mv.drawn
 have eo:os3=oss:=mv.os
 subst eg ed eo
 refine k h3 tk3 t fun b o nb ho=>mv.heap b o ?_ (Heap.get?_push_of_some _ ho)
 rw [hw]
 simp only [List.mem_cons,List.not_mem_nil,or_false,not_or]
 exact ⟨nb,Nat.ne_of_lt (Heap.lt_size ho)⟩
theorem ziB {nn:Nat} {di:Option Addr} {sz:Array (Option Value)} {led:Bool} (hled:w.params.followText "set-order"=true∨led=true) (calm:A.handled=none) (hi:StrsAre items.toList xs) (few:xs.length≤30) (there:h0.get? sa=some { cls:=.type "set",dict:=none,data:=.set #[] 0 (.fresh 0 0 led) })
  (hol:h0.get? l=some { cls:=.type "tuple",dict:=di,data:=.seq items nn,slots:=sz }) (k:ziu prog w sa xs h0 gs dr oss R):
  wpAny (model prog w) A.in1 (Builtin.«set.__init__» ⟨[.ref sa,.ref l],[]⟩) (GQ.FinOf prog w A R) (fun e s'=>R (.error e) s') ⟨h0,gs,dr,tk,oss⟩:=by
 have ne:l≠sa:=fun e=>by
  rw [e,there] at hol
  have q:=congrArg Obj.cls (Option.some.inj hol)
  simp at q
 have s1:=PySem.F.sub_tuple_set
 have s2:=PySem.F.sub_tuple_frozenset
 have s3:(Value.type "tuple"==Value.type "dict")=false:=by decide
 have at':h0.IsTuple l items:=⟨_,hol,rfl,nn,rfl⟩
 unfold Builtin.«set.__init__» noKeywords Builtin.Frozenset.updateFrom
 generalize ep:pyIter=walkOf
 wp_walk
 subst ep
 refine wpAny_pyIter_tuple at' (wpAny_bind (wpAny_runValue ?_))
 have calm3:A.in1.in1.handled=none:=by simp [calm]
 refine zmd (Walks.tuple (prog:=prog) (w:=w) calm3 _ l (Nat.ne_of_lt (Heap.lt_size hol)) items).toS rfl hi few (Heap.lt_size there) ne hled there ⟨⟨_,Heap.get?_push_size _ rfl,rfl,rfl⟩,at'.push _⟩ fun h' tk' t kp=>?_
 show wpAny _ _ _ _ _ _
 refine wpAny_pure ?_
 show wpAny _ _ (ret Value.none) _ _ _
 exact wpAny_pure (k h' tk' t kp)
theorem zj1 {nn:Nat} {di:Option Addr} {sz:Array (Option Value)} {led:Bool} (hled:w.params.followText "set-order"=true∨led=true) (calm:A.handled=none) (hi:StrsAre items.toList xs) (few:xs.length≤30) (there:h0.get? sa=some { cls:=.type "set",dict:=none,data:=.set #[] 0 (.fresh 0 0 led) })
  (hol:h0.get? l=some { cls:=.type "list",dict:=di,data:=.seq items nn,slots:=sz }) (k:ziu prog w sa xs h0 gs dr oss R):
  wpAny (model prog w) A.in1 (Builtin.«set.__init__» ⟨[.ref sa,.ref l],[]⟩) (GQ.FinOf prog w A R) (fun e s'=>R (.error e) s') ⟨h0,gs,dr,tk,oss⟩:=by
 have ne:l≠sa:=fun e=>by
  rw [e,there] at hol
  have q:=congrArg Obj.cls (Option.some.inj hol)
  simp at q
 have s1:=PySem.F.sub_list_set
 have s2:=PySem.F.sub_list_frozenset
 have s3:(Value.type "list"==Value.type "dict")=false:=by decide
 have at':h0.IsList l items:=⟨_,hol,rfl,nn,rfl⟩
 unfold Builtin.«set.__init__» noKeywords Builtin.Frozenset.updateFrom
 generalize ep:pyIter=walkOf
 wp_walk
 subst ep
 refine wpAny_pyIter_list at' (wpAny_bind (wpAny_runValue ?_))
 have calm3:A.in1.in1.handled=none:=by simp [calm]
 refine zmd (Walks.list (prog:=prog) (w:=w) calm3 _ l (Nat.ne_of_lt (Heap.lt_size hol)) items).toS rfl hi few (Heap.lt_size there) ne hled there ⟨⟨_,Heap.get?_push_size _ rfl,rfl,rfl⟩,at'.push _⟩ fun h' tk' t kp=>?_
 show wpAny _ _ _ _ _ _
 refine wpAny_pure ?_
 show wpAny _ _ (ret Value.none) _ _ _
 exact wpAny_pure (k h' tk' t kp)
end
section
variable {prog:Program} {w:World} {A:Around} {E:Value→Shared→Prop} {z:Shared} {l:Addr} {items:Array Value} {xs:List Str} {Q:Value→Shared→Prop}
theorem made (calm:A.handled=none) (hl:z.heap.IsTuple l items∨z.heap.IsList l items) (hi:StrsAre items.toList xs) (few:xs.length≤30)
  (k:∀(h':Heap) (tk:Nat),TSet prog w z.heap.objs.size xs xs.length h'→(∀b o,z.heap.get? b=some o→h'.get? b=some o)→Q (.ref z.heap.objs.size) { z with heap:=h',toks:=tk }):
  wpAny (model prog w) A (call (.type "set") [.ref l]) Q E z:=by
 have body:∀(A':Around) (R:Result→Shared→Prop) (led:Bool),(w.params.followText "set-order"=true∨led=true)→A'.handled=none→ziu prog w z.heap.objs.size xs (z.heap.push { cls:=.type "set",dict:=none,data:=.set #[] 0 (.fresh 0 0 led) }) z.gens z.drawn z.os R→
   wpAny (model prog w) A'.in1 (Builtin.«set.__init__» ⟨[.ref z.heap.objs.size,.ref l],[]⟩) (GQ.FinOf prog w A' R) (fun e s'=>R (.error e) s') { z with heap:=z.heap.push { cls:=.type "set",dict:=none,data:=.set #[] 0 (.fresh 0 0 led) } }:=fun A' R led hled ca fi=>by
  have there:(z.heap.push { cls:=.type "set",dict:=none,data:=.set #[] 0 (.fresh 0 0 led) }).get? z.heap.objs.size=some { cls:=.type "set",dict:=none,data:=.set #[] 0 (.fresh 0 0 led) }:=Heap.get?_push_size _ rfl
  rcases hl with ⟨⟨oc,od,dt,osl⟩,hol,hc,nl,hd⟩ | ⟨⟨oc,od,dt,osl⟩,hol,hc,nl,hd⟩
  ·simp only at hc hd
   subst hc hd
   exact ziB hled ca hi few there (Heap.get?_push_of_some _ hol) fi
  ·simp only at hc hd
   subst hc hd
   exact zj1 hled ca hi few there (Heap.get?_push_of_some _ hol) fi
 clear hl
 obtain ⟨mc,mt,mro⟩:=PySem.F.called_set.mro
 have m1:=PySem.F.called_set.made
 have m2:=PySem.F.called_set.sub
 have m3:=PySem.F.called_set.notType
 have m4:=PySem.F.called_set.canCreate
 have m5:=PySem.F.typeCall_set_1 (.ref l)
 refine wpAny_call (codeAny_of_tree ?_)
 show wpAny _ _ (callAny (.type "set") _) _ _ _
 refine wpAny_pure ⟨Code.quiet_builtin _ (by decide +kernel),codeAny_builtin PySem.F.entry_type_call ?_⟩
 rw [Around.under_plain (weight_type_call_type "set" [.ref l] []) rfl]
 repeat (any_goals (first | assumption | wp_step))
 refine codeAny_mono (MiSx.new_one (.ref l) (E:=E) (R:=fun u z1=>∃led:Bool,(w.params.followText "set-order"=true∨led=true)∧u=.ref z.heap.objs.size∧z1={ z with heap:=z.heap.push { cls:=.type "set",dict:=none,data:=.set #[] 0 (.fresh 0 0 led) } }) fun led hl=>⟨led,hl,rfl,rfl⟩) fun r1 z1 h1=>?_
 cases r1 with
 | error e=>exact h1
 | ok fl=>
  cases fl with
  | ret u=>
   obtain ⟨led,hled,rfl,rfl⟩:=h1
   have n1:=PySem.F.called_set.init.lookup
   have n2:=PySem.F.called_set.init.bind (.ref z.heap.objs.size)
   repeat (any_goals (first | assumption | wp_step))
   refine codeAny_mono (codeAny_call_builtin (R:=wants (fun r z2=>r=.none∧∃h' tk,z2={ z with heap:=h',toks:=tk }∧TSet prog w z.heap.objs.size xs xs.length h'∧(∀b o,z.heap.get? b=some o→h'.get? b=some o)) E) PySem.F.called_set.init.plain PySem.F.entry_set_init (check_set_init_1 ⟨_,Heap.get?_push_size _ rfl,rfl⟩ ?_)) fun r2 z2 h2=>?_
   ·exact body _ _ led hled (by simp [calm]) fun h' tk' t kp=>⟨rfl,h',tk',rfl,t,fun b o ho=>kp b o (Nat.ne_of_lt (Heap.lt_size ho)) (Heap.get?_push_of_some _ ho)⟩
   ·cases r2 with
    | error e=>exact h2
    | ok fl2=>
     cases fl2 with
     | ret r=>
      obtain ⟨rfl,h',tk,rfl,t,keep⟩:=h2
      repeat (any_goals (first | assumption | wp_step))
      exact k _ _ t keep
     | _=>exact h2.elim
  | _=>exact h1.elim
end
end MiZ
end
section
set_option maxHeartbeats 4000000
namespace Mi
open PySem PySem.Spec PyProof.Rows L2
section
variable {X:Cx}
def zrH (K:PySem.W.Frag):R2:=fun x y H Q=>∃l k xs,x=.ref l∧y=.int k∧SqT K H l xs∧xs≠[]∧0≤k∧k≤1000∧xs.length≤1000∧(k=1→Q (.ref l) H)∧(k≠1→∀p,H p=none→Q (.ref p) (upd H p (.tup (List.replicate k.toNat xs).flatten)))
theorem zlL:OpR X (binaryOp .Mult) (zrH X.K):=by
 intro pins s σ H x y v u Q I rx ry h
 obtain ⟨l,k,xs,rfl,rfl,hT,hne,h1,h2,hz,q1,q2⟩:=h
 by_cases c:2≤k
 ·exact op_repT pins s σ H _ _ v u Q I rx ry ⟨l,k,xs,rfl,rfl,hT,hne,c,h2,hz,q2 (by omega)⟩
 ·have c':k=0∨k=1:=by omega
  cases rx
  obtain ⟨t,rfl⟩:=ry
  obtain ⟨its,r,⟨⟨cls,dd,data,sl⟩,ho,hc,n,hd⟩,hs⟩:=I.tuple hT
  simp only at hc hd
  subst hc hd
  have hi:its.toArray.isEmpty=false:=by
   cases its with
   | nil=>
    cases r
    exact absurd rfl hne
   | cons a b=>rfl
  refine wpAny_binaryOp_repeat_ref (T:="tuple") (U:="int") (by decide) ⟨_,ho,rfl⟩ (fun s'=>typeIs_int s' k t) noFill_tuple_mul F.fills_int_mul F.slot_int_rmul repeat_tuple F.slot_int_index.lookup ?_
  refine call_meets F.slot_int_rmul (typeIs_int s k t) F.entry_int_rmul (F.args_int_rmul_2 _ _) (int_rmul_tuple k t l its.toArray n dd sl) ⟨ho,rfl,⟨_,ho,rfl⟩, ?_⟩
  refine call_meets F.slot_tuple_mul ⟨_,ho,rfl⟩ F.entry_tuple_mul (F.args_tuple_mul_2 _ _) (MiZ.rep01 l its.toArray n dd sl k t c' hi) ⟨ho,fun e=>?_,fun e=>?_⟩
  ·exact ⟨.ref l,H,I,rfl,q1 e⟩
  ·subst e
   have hn:H s.heap.objs.size=none:=I.hok.fresh (Nat.le_refl _)
   refine ⟨.ref s.heap.objs.size,_,I.laid (t':=s.toks) (o:=.tup []) (fun b ob q=>Heap.get?_push_of_some _ q) (Nat.le_refl _) ⟨by simp,[],.nil,IsTup.new _ _⟩,rfl,q2 (by decide) _ hn⟩
end
end Mi
end
section
set_option maxHeartbeats 4000000
namespace Mi
open PySem PySem.Spec PyProof.Rows L2
def VOp (g:G) (sem:D→D→M D):R2:=fun x y H Q=>∃E m L d e,HRel g m L H∧RelD g m H d x∧RelD g m H e y∧Post g E (RD g) m H (sem d e L) Q
theorem zpm {i j:Int} (h:(okI i||okI j)=true):CMul i j:=by
 rcases Bool.or_eq_true_iff.mp h with h | h
 ·obtain ⟨a,b⟩:=Bool.and_eq_true_iff.mp h
  exact .inl ⟨of_decide_eq_true a,of_decide_eq_true b⟩
 ·obtain ⟨a,b⟩:=Bool.and_eq_true_iff.mp h
  exact .inr ⟨of_decide_eq_true a,of_decide_eq_true b⟩
section
variable {X:Cx} {g:G}
theorem zhS {m:List Addr} {H:Hp} {xs:List D} {vs:List V} (r:RelDs g m H xs vs):∀n:Nat,RelDs g m H (List.replicate n xs).flatten (List.replicate n vs).flatten
 | 0=>.nil
 | n+1=>by
  rw [List.replicate_succ,List.flatten_cons,List.replicate_succ,List.flatten_cons]
  exact r.append (zhS r n)
theorem zno {X:Cx}:OpR X (binaryOp .Mult) (fun x y H Q=>∃a j,x=V.str a∧y=V.int j∧MulOk a j∧Q (.str (Txt.mul a j)) H):=by
 intro pins s σ H x y v u Q I rx ry h
 obtain ⟨a,j,rfl,rfl,ok,q⟩:=h
 obtain ⟨t,rfl⟩:∃t,v=Value.str a t:=rx
 obtain ⟨t2,rfl⟩:∃t2,u=Value.int j t2:=ry
 exact SB.mul ok fun t' k=>⟨V.str (Txt.mul a j),H,I.tok k,⟨t',rfl⟩,q⟩
theorem zmS (hK:X.K=g.K) (o:BOp):OpR X (binaryOp (opOf o)) (VOp g (binD o)):=by
 intro pins s σ H x y v u Q I rx ry h
 obtain ⟨E,m,L,d,e,hr,rd,re,po⟩:=h
 simp only [binD] at po
 split at po
 ·cases rd; cases re
  exact op_add pins s σ H _ _ v u Q I rx ry ⟨_,_,rfl,rfl,po.at hr (.int _)⟩
 ·split at po
  ·rename_i q
   cases rd; cases re
   exact op_add_str pins s σ H _ _ v u Q I rx ry ⟨_,_,rfl,rfl,okB q,po.at hr (.str _)⟩
  ·exact po.elim
 ·split at po
  ·rename_i xs ys q
   cases rd with
   | tup h1 r1=>
    cases re with
    | tup h2 r2=>
     rename_i vs a ws b
     refine op_catA pins s σ H _ _ v u Q I rx ry ⟨a,b,vs,ws,rfl,rfl,by rw [hK]; exact h1,by rw [hK]; exact h2,by rw [← r1.length, ← r2.length]; exact okB q,fun e0=>?_,fun _ e0=>?_,fun _ _=>zcT hr (r1.append r2) po⟩
     ·subst e0
      cases r1
      exact po.at hr (.tup h2 r2)
     ·subst e0
      cases r2
      refine po.at hr (.tup h1 ?_)
      rw [List.append_nil]
      exact r1
  ·exact po.elim
 ·split at po
  ·rename_i xs ys q1 q2
   split at po
   ·rename_i q
    cases rd with
    | ref hm1=>
     cases re with
     | ref hm2=>
      obtain ⟨a1,vs,z1,h1,r1⟩:=hr.lstAt q1
      obtain ⟨a2,ws,z2,h2,r2⟩:=hr.lstAt q2
      rw [hm1] at z1
      rw [hm2] at z2
      cases z1
      cases z2
      exact op_cat pins s σ H _ _ v u Q I rx ry ⟨_,_,vs,ws,rfl,rfl,h1,h2,by rw [← r1.length, ← r2.length]; exact okB q,zbz hr (r1.append r2) po⟩
   ·exact po.elim
  ·exact po.elim
 ·cases rd; cases re
  exact op_sub pins s σ H _ _ v u Q I rx ry ⟨_,_,rfl,rfl,po.at hr (.int _)⟩
 ·split at po
  ·rename_i q
   cases rd; cases re
   exact op_mul pins s σ H _ _ v u Q I rx ry ⟨_,_,rfl,rfl,zpm q,po.at hr (.int _)⟩
  ·exact po.elim
 ·split at po
  ·rename_i xs q1
   split at po
   ·rename_i q
    simp only [Bool.and_eq_true,decide_eq_true_eq] at q
    cases rd with
    | ref hm1=>
     cases re
     obtain ⟨a1,vs,z1,h1,r1⟩:=hr.lstAt q1
     rw [hm1] at z1
     cases z1
     have hl:=r1.length
     refine op_rep pins s σ H _ _ v u Q I rx ry ⟨_,_,vs,rfl,rfl,h1,by omega,by omega, ?_,zbz hr (zhS r1 _) po⟩
     rw [zbB]
     have:vs.length*Int.toNat _≤1000*1000:=Nat.mul_le_mul (by omega) (Int.toNat_le.mpr q.1.2)
     omega
   ·exact po.elim
  ·exact po.elim
 ·split at po
  ·rename_i q
   simp only [Bool.and_eq_true,decide_eq_true_eq,Bool.not_eq_true'] at q
   obtain ⟨⟨⟨q1,q2⟩,q3⟩,q4⟩:=q
   cases rd with
   | tup h1 r1=>
    cases re
    rename_i xs j vs a
    have hl:=r1.length
    have hne:vs≠[]:=fun e=>by
     rw [e] at r1
     cases r1
     cases q4
    exact zlL pins s σ H _ _ v u Q I rx ry ⟨a,j,vs,rfl,rfl,by rw [hK]; exact h1,hne,q1,q2,by omega,fun e1=>by
        subst e1
        refine po.at hr (.tup h1 ?_)
        have e:(List.replicate (Int.toNat 1) xs).flatten=xs:=by simp
        rw [e]
        exact r1,fun _=>zcT hr (zhS r1 _) po⟩
  ·exact po.elim
 ·split at po
  ·rename_i q
   cases rd; cases re
   obtain ⟨q1,q2⟩:=Bool.and_eq_true_iff.mp q
   exact op_fdivN pins s σ H _ _ v u Q I rx ry ⟨_,_,rfl,rfl,⟨of_decide_eq_true q1,of_decide_eq_true q2⟩,po.at hr (.int _)⟩
  ·exact po.elim
 ·split at po
  ·rename_i q
   cases rd; cases re
   exact op_modN pins s σ H _ _ v u Q I rx ry ⟨_,_,rfl,rfl,of_decide_eq_true q,po.at hr (.int _)⟩
  ·exact po.elim
 ·split at po
  ·rename_i q
   cases rd; cases re
   obtain ⟨q1,q2⟩:=Bool.and_eq_true_iff.mp q
   obtain ⟨q3,q4⟩:=Bool.and_eq_true_iff.mp q1
   exact op_pow pins s σ H _ _ v u Q I rx ry ⟨_,_,rfl,rfl,⟨of_decide_eq_true q3,of_decide_eq_true q4,of_decide_eq_true q2⟩,po.at hr (.int _)⟩
  ·exact po.elim
 ·split at po
  ·rename_i q
   cases rd; cases re
   simp only [Bool.and_eq_true,decide_eq_true_eq] at q
   exact zno pins s σ H _ _ v u Q I rx ry ⟨_,_,rfl,rfl,mulOk_of 1000 1000 q.2 (by omega) (by omega) (by decide) (by decide),po.at hr (.str _)⟩
  ·exact po.elim
 ·exact po.elim
theorem zmW:UnR X (unaryOp .USub) (fun x H Q=>∃E m L d,HRel g m L H∧RelD g m H d x∧Post g E (RD g) m H (must (negD d) L) Q):=by
 intro pins s σ H x v Q I rx h
 obtain ⟨E,m,L,d,hr,rd,po⟩:=h
 cases rd<;>first | exact po.elim | skip
 exact un_neg pins s σ H _ v Q I rx ⟨_,rfl,po.at hr (.int _)⟩
def VCmp (g:G) (o:CmpOp):R2:=fun x y H Q=>∃m L d e b,HRel g m L H∧RelD g m H d x∧RelD g m H e y∧cmpD L o d e=some b∧Q (.bl b) H
theorem zp1 (hK:X.K=g.K) (hu:X.A.units+64 < cLine):OpR X (compareOp .Eq) (VCmp g .Eq):=by
 intro pins s σ H x y v u Q I rx ry h
 obtain ⟨m,L,d,e,b,hr,rd,re,hb,q⟩:=h
 rcases zkL hr rd re hb with ⟨h1,h2⟩ | ⟨z,w,h1,h2,h3,h4,h5⟩
 ·exact op_eq pins s σ H _ _ v u Q I rx ry ⟨h1,by rw [h2]; exact q⟩
 ·exact op_eqD hu pins s σ H _ _ v u Q I rx ry ⟨z,w,by rw [hK]; exact h1,by rw [hK]; exact h2,h3,h4,by rw [h5]; exact q⟩
theorem zjR {o:Option Bool} {b:Bool} (h:o.map (!·)=some b):o=some (!b):=by
 cases o with
 | none=>cases h
 | some c=>cases h; simp
theorem zpw (hK:X.K=g.K) (hu:X.A.units+64 < cLine):OpR X (compareOp .NotEq) (VCmp g .NotEq):=by
 intro pins s σ H x y v u Q I rx ry h
 obtain ⟨m,L,d,e,b,hr,rd,re,hb,q⟩:=h
 have hb':=zjR hb
 rcases zkL hr rd re hb' with ⟨h1,h2⟩ | ⟨z,w,h1,h2,h3,h4,h5⟩
 ·exact op_ne pins s σ H _ _ v u Q I rx ry ⟨h1,by rw [h2,Bool.not_not]; exact q⟩
 ·exact op_neD hu pins s σ H _ _ v u Q I rx ry ⟨z,w,by rw [hK]; exact h1,by rw [hK]; exact h2,h3,h4,by rw [h5,Bool.not_not]; exact q⟩
theorem zj9 {m:List Addr} {L:MH} {H:Hp} {d e:D} {x y:V} {b:Bool} (hr:HRel g m L H) (rd:RelD g m H d x) (re:RelD g m H e y) (h:inD L d e=some b):
  (∃i j,x=.str i∧y=.str j∧(!(Builtin.Str.occurrences j i 0 j.length 1).isEmpty)=b)∨(∃p vs,y=.ref p∧(SqL g.K H p vs∨SqT g.K H p vs)∧flatV x=true∧vs.all flatV=true∧inV x vs=b)∨
   ∃z zs,Dp g.K H x z∧Dp g.K H y (.list zs)∧SeqAt.shaped z=true∧SeqAt.shaped (.list zs)=true∧(zs.any fun w=>PyData.eqv w z)=b:=by
 have seq:((seqD L e).bind fun xs=>if zbE d&&xs.all zbE then some (xs.any fun z=>eqf z d) else (dat L 80 d).bind fun a=>(dat L 80 e).bind fun b=>(match b with
       | .list bs=>if SeqAt.shaped a&&SeqAt.shaped (.list bs) then some (bs.any fun z=>PyData.eqv z a) else none
       | _=>none))=some b→(∃p vs,y=.ref p∧(SqL g.K H p vs∨SqT g.K H p vs)∧flatV x=true∧vs.all flatV=true∧inV x vs=b)∨
   ∃z zs,Dp g.K H x z∧Dp g.K H y (.list zs)∧SeqAt.shaped z=true∧SeqAt.shaped (.list zs)=true∧(zs.any fun w=>PyData.eqv w z)=b:=fun h=>by
  cases e1:seqD L e with
  | none=>rw [e1] at h; cases h
  | some xs=>
   rw [e1] at h
   simp only [Option.bind_some] at h
   split at h
   ·rename_i q
    cases h
    obtain ⟨q1,q2⟩:=Bool.and_eq_true_iff.mp q
    obtain ⟨a,vs,rfl,h1,h2⟩:=zbq hr re e1
    exact .inl ⟨a,vs,rfl,h1,zgy rd q1,zff h2 q2,zjY rd q1 h2 q2⟩
   ·cases q1:dat L 80 d with
    | none=>rw [q1] at h; cases h
    | some z=>
     rw [q1] at h
     cases q2:dat L 80 e with
     | none=>simp [q2] at h
     | some w=>
      simp only [q2,Option.bind_some] at h
      cases w with
      | list bs=>
       simp only at h
       split at h
       ·rename_i q3
        cases h
        obtain ⟨s1,s2⟩:=Bool.and_eq_true_iff.mp q3
        exact .inr ⟨z,bs,zc1 hr _ _ _ _ q1 rd,zc1 hr _ _ _ _ q2 re,s1,s2,rfl⟩
       ·cases h
      | _=>cases h
 cases re with
 | str t=>
  simp only [inD] at h
  split at h
  ·cases h
   cases rd
   exact .inl ⟨_,_,rfl,rfl,rfl⟩
  ·cases h
 | _=>exact .inr (seq h)
theorem zqO (hK:X.K=g.K) (hu:X.A.units+65 < cLine):OpR X (compareOp .In) (VCmp g .In):=by
 intro pins s σ H x y v u Q I rx ry h
 obtain ⟨m,L,d,e,b,hr,rd,re,hb,q⟩:=h
 rcases zj9 hr rd re hb with ⟨i,j,rfl,rfl,h1⟩ | ⟨p,vs,rfl,h1,h2,h3,h4⟩ | ⟨z,zs,h1,h2,h3,h4,h5⟩
 ·exact op_in_str pins s σ H _ _ v u Q I rx ry ⟨i,j,rfl,rfl,by rw [h1]; exact q⟩
 ·refine op_in_seq pins s σ H _ _ v u Q I rx ry ⟨p,vs,rfl,by rw [hK]; exact h1,h2,h3, ?_⟩
  rw [h4]
  exact q
 ·refine op_inD hu pins s σ H _ _ v u Q I rx ry ⟨z,zs,by rw [hK]; exact h1,by rw [hK]; exact h2,h3,h4, ?_⟩
  rw [h5]
  exact q
theorem zkR (hK:X.K=g.K) (hu:X.A.units+65 < cLine):OpR X (compareOp .NotIn) (VCmp g .NotIn):=by
 intro pins s σ H x y v u Q I rx ry h
 obtain ⟨m,L,d,e,b,hr,rd,re,hb,q⟩:=h
 rcases zj9 hr rd re (zjR hb) with ⟨i,j,rfl,rfl,h1⟩ | ⟨p,vs,rfl,h1,h2,h3,h4⟩ | ⟨z,zs,h1,h2,h3,h4,h5⟩
 ·exact op_notin_str pins s σ H _ _ v u Q I rx ry ⟨i,j,rfl,rfl,by rw [h1,Bool.not_not]; exact q⟩
 ·refine op_notIn_seq pins s σ H _ _ v u Q I rx ry ⟨p,vs,rfl,by rw [hK]; exact h1,h2,h3, ?_⟩
  show Q (.bl (!inV _ _)) H
  rw [h4,Bool.not_not]
  exact q
 ·refine op_notInD hu pins s σ H _ _ v u Q I rx ry ⟨z,zs,by rw [hK]; exact h1,by rw [hK]; exact h2,h3,h4, ?_⟩
  rw [h5,Bool.not_not]
  exact q
theorem zek (hK:X.K=g.K) (hu:X.A.units+65 < cLine) (o:CmpOp):OpR X (compareOp o) (VCmp g o):=by
 cases o with
 | Eq=>exact zp1 hK (by omega)
 | NotEq=>exact zpw hK (by omega)
 | In=>exact zqO hK hu
 | NotIn=>exact zkR hK hu
 | Lt=>
  intro pins s σ H x y v u Q I rx ry h
  obtain ⟨m,L,d,e,b,hr,rd,re,hb,q⟩:=h
  cases rd<;>cases re<;>cases hb
  exact op_lt pins s σ H _ _ v u Q I rx ry ⟨_,_,rfl,rfl,q⟩
 | LtE=>
  intro pins s σ H x y v u Q I rx ry h
  obtain ⟨m,L,d,e,b,hr,rd,re,hb,q⟩:=h
  cases rd<;>cases re<;>cases hb
  exact op_le pins s σ H _ _ v u Q I rx ry ⟨_,_,rfl,rfl,q⟩
 | Gt=>
  intro pins s σ H x y v u Q I rx ry h
  obtain ⟨m,L,d,e,b,hr,rd,re,hb,q⟩:=h
  cases rd<;>cases re<;>cases hb
  exact op_gt pins s σ H _ _ v u Q I rx ry ⟨_,_,rfl,rfl,q⟩
 | GtE=>
  intro pins s σ H x y v u Q I rx ry h
  obtain ⟨m,L,d,e,b,hr,rd,re,hb,q⟩:=h
  cases rd<;>cases re<;>cases hb
  exact op_ge pins s σ H _ _ v u Q I rx ry ⟨_,_,rfl,rfl,q⟩
 | Is=>
  intro pins s σ H x y v u Q I rx ry h
  obtain ⟨m,L,d,e,b,hr,rd,re,hb,q⟩:=h
  cases hb
 | IsNot=>
  intro pins s σ H x y v u Q I rx ry h
  obtain ⟨m,L,d,e,b,hr,rd,re,hb,q⟩:=h
  cases hb
def zp7 (g:G) (sem:List D→M D):List V→Hp→VK→Prop:=fun xs H Q=>∃E m L ds,HRel g m L H∧RelDs g m H ds xs∧Post g E (RD g) m H (sem ds L) Q
def biV:Bi→Value
 | .len=>.builtin "len" | .all=>.builtin "all" | .any=>.builtin "any" | .abs=>.builtin "abs" | .int1=>.type "int" | .list1=>.type "list" | .tuple1=>.type "tuple" | .str1=>.type "str" | .sum=>.builtin "sum"
theorem zlx (hK:X.K=g.K) (hc:X.calm=true) (b:Bi):CallR X (biV b) (zp7 g (biD b)):=by
 intro pins s σ H xs us Q I rs h
 obtain ⟨E,m,L,ds,hr,rr,po⟩:=h
 simp only [biD] at po
 split at po
 ·-- len of a text
  split at po
  ·rename_i q
   cases rr with
   | cons r1 r2=>
    cases r2
    cases r1
    exact call_len pins s σ H _ us Q I rs ⟨_,_,rfl,⟨okB q,rfl⟩,po.at hr (.int _)⟩
  ·exact po.elim
 ·split at po
  ·rename_i xs' e
   cases rr with
   | cons r1 r2=>
    cases r2
    obtain ⟨a,vs,rfl,h1,h2⟩:=zbq hr r1 e
    refine call_len pins s σ H _ us Q I rs ⟨_,vs.length,rfl, ?_, ?_⟩
    ·rcases h1 with h1 | h1
     ·exact .inl ⟨vs,by rw [hK]; exact h1,rfl⟩
     ·exact .inr ⟨vs,by rw [hK]; exact h1,rfl⟩
    ·rw [← h2.length]
     exact po.at hr (.int _)
  ·split at po
   ·rename_i d _ _ _ kvs e
    cases rr with
    | cons r1 r2=>
     cases r2
     cases r1 with
     | @ref nn p hm=>
      simp only [zfE] at e
      split at e
      ·rename_i kvs' q
       cases e
       obtain ⟨a,h1,_,vs,h2,h3⟩:=hr.addr q
       rw [hm] at h1
       cases h1
       cases rs with
       | cons u1 u2=>
        cases u2
        cases u1
        refine d_len I (.inl h2) fun t s' I'=>⟨.int _,H,I',⟨_,rfl⟩, ?_⟩
        rw [← h3.length]
        exact po.at hr (.int _)
      ·cases e
     | _=>cases e
   ·exact po.elim
 ·split at po
  ·rename_i d _ bs e
   cases rr with
   | cons r1 r2=>
    cases r2
    cases e1:zaD L d with
    | none=>rw [e1] at e; cases e
    | some ys=>
     rw [e1] at e
     obtain ⟨a,vs,rfl,h1,h2⟩:=zan hr r1 e1
     have ev:=zhX h2 e
     subst ev
     exact cr_all hc pins s σ H _ us Q I rs ⟨a,bs,rfl,by rw [hK]; exact h1,po.at hr (.bl _)⟩
  ·exact po.elim
 ·split at po
  ·rename_i d _ bs e
   cases rr with
   | cons r1 r2=>
    cases r2
    cases e1:zaD L d with
    | none=>rw [e1] at e; cases e
    | some ys=>
     rw [e1] at e
     obtain ⟨a,vs,rfl,h1,h2⟩:=zan hr r1 e1
     have ev:=zhX h2 e
     subst ev
     exact cr_any hc pins s σ H _ us Q I rs ⟨a,bs,rfl,by rw [hK]; exact h1,po.at hr (.bl _)⟩
  ·exact po.elim
 ·cases rr with
  | cons r1 r2=>
   cases r2
   cases r1
   exact call_abs pins s σ H _ us Q I rs ⟨_,rfl,po.at hr (.int _)⟩
 ·cases rr with
  | cons r1 r2=>
   cases r2
   cases r1
   exact call_int1 pins s σ H _ us Q I rs (.inl ⟨_,rfl,po.at hr (.int _)⟩)
 ·cases rr with
  | cons r1 r2=>
   cases r2
   cases r1
   exact call_int1 pins s σ H _ us Q I rs (.inr ⟨_,rfl,po.at hr (.int _)⟩)
 ·split at po
  ·rename_i q0
   split at po
   ·rename_i q
    cases rr with
    | cons r1 r2=>
     cases r2
     cases r1
     exact call_int_str pins s σ H _ us Q I rs ⟨_,_,rfl,q,of_decide_eq_true q0,po.at hr (.int _)⟩
   ·exact po.elim
  ·exact po.elim
 ·split at po
  ·rename_i xs' e
   cases rr with
   | cons r1 r2=>
    cases r2
    obtain ⟨a,vs,rfl,h1,h2⟩:=zbq hr r1 e
    exact call_list_of pins s σ H _ us Q I rs ⟨a,vs,rfl,by rw [hK]; exact h1,zbz hr h2 po⟩
  ·exact po.elim
 ·cases rr with
  | cons r1 r2=>
   cases r2
   cases r1 with
   | tup h1 h2=>
    exact call_tuple_of pins s σ H _ us Q I rs ⟨_,_,rfl,.inr ⟨by rw [hK]; exact h1,po.at hr (.tup h1 h2)⟩⟩
 ·split at po
  ·rename_i xs' e
   cases rr with
   | cons r1 r2=>
    cases r2
    obtain ⟨a,vs,rfl,h1,h2⟩:=zan hr r1 e
    exact call_tuple_of pins s σ H _ us Q I rs ⟨_,_,rfl,.inl ⟨by rw [hK]; exact h1,zcT hr h2 po⟩⟩
  ·exact po.elim
 ·split at po
  ·rename_i q
   cases rr with
   | cons r1 r2=>
    cases r2
    cases r1
    exact call_str_int pins s σ H _ us Q I rs ⟨_,rfl,of_decide_eq_true q,po.at hr (.str _)⟩
  ·exact po.elim
 ·cases rr with
  | cons r1 r2=>
   cases r2
   cases r1
   exact SkE.call_str_str pins s σ H _ us Q I rs ⟨_,rfl,po.at hr (.str _)⟩
 ·split at po
  ·rename_i d _ ns e
   cases rr with
   | cons r1 r2=>
    cases r2
    cases e1:zaD L d with
    | none=>rw [e1] at e; cases e
    | some ys=>
     rw [e1] at e
     obtain ⟨a,vs,rfl,h1,h2⟩:=zan hr r1 e1
     have ev:=zhq h2 e
     subst ev
     exact cr_sum hc pins s σ H _ us Q I rs ⟨a,ns,rfl,by rw [hK]; exact h1,po.at hr (.int _)⟩
  ·exact po.elim
 ·exact po.elim
end
end Mi
end
section
set_option maxHeartbeats 4000000
namespace Mi
open PySem PySem.Spec PyProof.Rows L2
theorem zac {e:Expr} {es:List Expr} {env:Env} (h:noStar e=true):starEach (e::es) env=(false,eval e env)::starEach es env:=by
 cases e<;>first | rfl | cases h
theorem zar:∀ {es:List Expr} {env:Env} (pos:Pos),es.all noStar=true→(backTo pos (starEach es env)).any (·.1)=false
 | [],_,_,_=>rfl
 | e::es,env,pos,h=>by
  rw [List.all_cons,Bool.and_eq_true] at h
  rw [zac h.1]
  show ((false||(backTo pos (starEach es env)).any (·.1)))=false
  rw [zar pos h.2]
  rfl
theorem zhT {e:Expr} {env:Env} (h:zcN e=true):∀whole,isTrue e env whole=(do let v ← whole; standAt e.pos; holding [v] (truthy v)):=by
 intro whole
 cases e with
 | UnaryOp op x pos=>cases op<;>first | rfl | cases h
 | _=>first | rfl | cases h
theorem zjh {e:Expr} (h:zbc e=true):PlainIx e:=by
 intro o i
 cases e<;>first | rfl | cases h
theorem zbv {e:Expr} {t:Option Expr} {l:Nat} {env:Env} (h:zfz e=true):swapsWith e t l env=pure false:=by
 cases e<;>first | rfl | cases h
theorem zax {e:Expr} {env:Env} (h:zaS e=true):∀x,foldedSetIterable e env x=pure x:=by
 intro x
 cases e<;>first | rfl | cases h
theorem zcg {e:Expr} (h:zaS e=true) (op:CmpOp):behindInMarks op e=false:=by
 cases e<;>first | rfl | cases h
theorem zcO {e:Expr} {f:Str} {env:Env} (h:zbV e=true) (whole:Sem Value):attributeBase e f env whole=whole:=by
 unfold attributeBase
 split
 ·have h:(_ != ("super":Str))=true:=h
  first
   | (simp only [h,Bool.true_or,if_true,bind_pure]; done)
   | (rw [h]; simp only [Bool.true_or,if_true,bind_pure]; done)
   | (simp [h]; done)
 ·rfl
def CRel (g:G) (d:D) (v:V):Prop:=∀m H,RelD g m H d v
inductive zcr {α β:Type} (R:α→β→Prop):Option α→Option β→Prop where
 | none:zcr R none none
 | some {a:α} {b:β} (h:R a b):zcr R (some a) (some b)
def RelU (g:G) (m:List Addr) (H:Hp) (d:D) (u:Value):Prop:=∃v,RelD g m H d v∧RelV v u
theorem zdl {g:G} {m:List Addr} {H:Hp}:∀ {ds:List D} {vs:List V} {us:List Value},RelDs g m H ds vs→Vals vs us→Paired (RelU g m H) ds us
 | _,_,_,.nil,.nil=>.nil
 | _,_,_,.cons h r,.cons q t=>.cons ⟨_,h,q⟩ (zdl r t)
theorem zew {g:G} {m:List Addr} {H:Hp}:∀ {ds:List D} {us:List Value},Paired (RelU g m H) ds us→∃vs,RelDs g m H ds vs∧Vals vs us
 | _,_,.nil=>⟨[],.nil,.nil⟩
 | _,_,.cons ⟨v,h,q⟩ t=>by
  obtain ⟨vs,r1,r2⟩:=zew t
  exact ⟨v::vs,.cons h r1,.cons q r2⟩
theorem zed {κ α β:Type} [BEq κ] {R:α→β→Prop} (k:κ):∀ {ps:List κ} {vs:List α} {us:List β},Paired R vs us→zcr R ((ps.zip vs).lookup k) ((ps.zip us).lookup k)
 | [],_,_,_=>by simp only [List.zip_nil_left]; exact .none
 | p::ps,_,_,.nil=>by simp only [List.zip_nil_right]; exact .none
 | p::ps,_,_,.cons h t=>by
  simp only [List.zip_cons_cons,List.lookup_cons]
  cases k==p with
  | true=>exact .some h
  | false=>exact zed k t
theorem zhC {κ α β:Type} [BEq κ] {R:α→β→Prop} {ps ks:List κ} {np:Nat} {dfl:List (Option α)} {dfl':List (Option β)} {vs zs ds:List α} {us ws:List β} (h1:Paired R vs us) (h2:Paired R zs ws) (h3:Paired (zcr R) dfl dfl')
  (h:zbb ps np dfl vs ks zs=some ds):∃us',zbb ps np dfl' us ks ws=some us'∧Paired R ds us':=by
 unfold zbb at h ⊢
 rw [← h1.length, ← h2.length]
 split at h
 ·rename_i c
  rw [if_pos c]
  have go:∀(qs:List κ) (d:List (Option α)) (d':List (Option β)) (ds:List α),Paired (zcr R) d d'→mapO (fun p=>((ps.zip vs++ks.zip zs).lookup p.1).or p.2) (qs.zip d)=some ds→
    ∃us',mapO (fun p=>((ps.zip us++ks.zip ws).lookup p.1).or p.2) (qs.zip d')=some us'∧Paired R ds us':=by
   intro qs
   induction qs with
   | nil=>
    intro d d' ds _ h
    simp only [List.zip_nil_left,mapO] at h ⊢
    cases h
    exact ⟨[],rfl,.nil⟩
   | cons q qs ih=>
    intro d d' ds hd h
    cases hd with
    | nil=>
     simp only [List.zip_nil_right,mapO] at h ⊢
     cases h
     exact ⟨[],rfl,.nil⟩
    | @cons a b l1 l2 hab ht=>
     simp only [List.zip_cons_cons,mapO] at h ⊢
     have hl:zcr R ((ps.zip vs++ks.zip zs).lookup q) ((ps.zip us++ks.zip ws).lookup q):=by
      rw [List.lookup_append,List.lookup_append]
      have a1:=zed (ps:=ps) q h1
      have a2:=zed (ps:=ks) q h2
      revert a1
      generalize (ps.zip vs).lookup q=o1
      generalize (ps.zip us).lookup q=o2
      intro a1
      cases a1 with
      | none=>exact a2
      | some z=>exact .some z
     have hv:zcr R (((ps.zip vs++ks.zip zs).lookup q).or a) (((ps.zip us++ks.zip ws).lookup q).or b):=by
      revert hl
      generalize (ps.zip vs++ks.zip zs).lookup q=o1
      generalize (ps.zip us++ks.zip ws).lookup q=o2
      intro hl
      cases hl with
      | none=>exact hab
      | some z=>exact .some z
     revert hv h
     generalize ((ps.zip vs++ks.zip zs).lookup q).or a=o1
     generalize ((ps.zip us++ks.zip ws).lookup q).or b=o2
     intro h hv
     cases hv with
     | none=>cases h
     | @some x y z=>
      simp only [Option.bind_some] at h ⊢
      cases e:mapO (fun p=>((ps.zip vs++ks.zip zs).lookup p.1).or p.2) (qs.zip l1) with
      | none=>rw [e] at h; cases h
      | some ds'=>
       rw [e] at h
       simp only [Option.map_some,Option.some.injEq] at h
       subst h
       obtain ⟨us',e1,e2⟩:=ih l1 l2 ds' ht e
       rw [e1]
       exact ⟨y::us',rfl,.cons z e2⟩
  exact go ps dfl dfl' ds h3 h
 ·cases h
theorem zkH {x qual:Str} {as ko:List Arg} {va:Arg} {kdx:List (Option Expr)} {ddx:List Expr} {body:List Stmt} {scope:Scope} {cl:List (Str×Addr)} {dV kV doc pm:Value} {an:Option Addr} {cdv ct:Value} {us:List Value} {kw:List (Str×Value)}:
 bindArgs (PySem.W.fnX x qual ⟨[],as,some va,ko,kdx,none,ddx⟩ body scope cl dV kV doc pm an cdv ct) ⟨us,kw⟩=
 (bindArgs (PySem.W.fnOf x qual ⟨[],as,none,ko,kdx,none,ddx⟩ body scope dV kV doc pm an cdv ct) ⟨us.take as.length,kw⟩ >>= fun b=>newTuple (us.drop as.length) >>= fun t=>pure (b++[(va.arg,t)])):=by
 have e1:(as.map (·.arg)).zip us=(as.map (·.arg)).zip (us.take as.length):=by
  have:∀(l:List Str) (us:List Value),l.zip us=l.zip (us.take l.length):=by
   intro l
   induction l with
   | nil=>intro us; simp
   | cons a l ih=>intro us; cases us<;>simp [← ih]
  have:=this (as.map (·.arg)) us
  rwa [List.length_map] at this
 have e2:¬ (us.take as.length).length > as.length:=by rw [List.length_take]; omega
 unfold bindArgs
 simp only [PySem.W.fnX,PySem.W.fnOf,List.map_nil,List.nil_append,e1,List.length_map,Option.isNone_some,Bool.and_false,Option.isNone_none,Bool.and_true,decide_eq_true_eq,e2,bind_assoc,pure_bind,if_false,Bool.false_eq_true]
 refine bind_congr fun s1=>bind_congr fun dl=>?_
 split
 ·simp only [bind_assoc]
  refine bind_congr fun _=>bind_congr fun _=>bind_congr fun s2=>bind_congr fun s3=>?_
  split
  ·simp only [bind_assoc,pure_bind]
  ·simp only [bind_assoc,pure_bind]
 ·simp only [bind_assoc]
  refine bind_congr fun s2=>bind_congr fun s3=>?_
  split
  ·simp only [bind_assoc,pure_bind]
  ·simp only [bind_assoc,pure_bind]
def spM (g:G) (n:Nat) (c:List D→M D):Sp:=fun vs H Q E=>∃m L ds,HRel g m L H∧RelDs g m H ds vs∧ds.length=n∧Post g E (RD g) m H (c ds L) Q
structure FnB (g:G) (K:PySem.W.Frag) (ps:List Nat) (np:Nat) (dfl:List (Option D)) (data:FuncData):Prop where
 bind:∃dfl':List (Option Value),Paired (zcr fun d u=>∀m H,RelU g m H d u) dfl dfl'∧
  ∀(s:Shared) (us ws us':List Value) (ks:List Nat),K.In s.heap→ks.Nodup→zbb ps np dfl' us ks ws=some us'→BindsTo s data ⟨us,(ks.map g.an).zip ws⟩ ((ps.map g.an).zip us')
structure FnL (g:G) (K:PySem.W.Frag) (fd:Fd) (data:FuncData):Prop where
 bind:∀ {P:Program} {w:World} {mg:Str→Option Value} {base:Heap} {A:Around} {outer:List Env} {s:Shared} {H:Hp} {m:List Addr} {L:MH} {ds zs ds':List D} {vs ws:List V} {us uz:List Value} {ks:List Nat} {E:XK},Env0 P w K mg base A outer s H→ks.Nodup→HRel g m L H→
  RelDs g m H ds vs→Vals vs us→RelDs g m H zs ws→Vals ws uz→zcI fd ds ks zs=some ds'→
  StX.Bnd (CXM g.fr P w) P w K mg base data ⟨us,(ks.map g.an).zip uz⟩ (fd.ps.map g.an) A outer s H E fun vs' H2=>HRel g m L H2∧RelDs g m H2 ds' vs'∧Ev m H m H2
 len:∀ {ds zs ds':List D} {ks:List Nat},zcI fd ds ks zs=some ds'→ds'.length=fd.ps.length
theorem ze6 {κ α:Type} [BEq κ] {ps ks:List κ} {np:Nat} {dfl:List (Option α)} {vs zs ds:List α} (h:zbb ps np dfl vs ks zs=some ds):ds.length=min ps.length dfl.length:=by
 unfold zbb at h
 split at h
 ·have:=(zci h).length
  rw [List.length_zip] at this
  exact this.symm
 ·cases h
section
variable {g:G} {K:PySem.W.Frag} {ps:List Nat} {np:Nat} {dfl:List (Option D)} {data data0:FuncData} {fd:Fd} {P:Program} {w:World} {mg:Str→Option Value} {base:Heap} {A:Around} {outer:List Env} {s:Shared} {H:Hp}
theorem FnB.run (B:FnB g K ps np dfl data) (e0:Env0 P w K mg base A outer s H) {m:List Addr} {ds zs ds':List D} {vs ws:List V} {us uz:List Value} {ks:List Nat} (hks:ks.Nodup) (r1:RelDs g m H ds vs) (v1:Vals vs us) (r2:RelDs g m H zs ws) (v2:Vals ws uz)
  (e:zbb ps np dfl ds ks zs=some ds'):∃vs' us',RelDs g m H ds' vs'∧Vals vs' us'∧BindsTo s data ⟨us,(ks.map g.an).zip uz⟩ ((ps.map g.an).zip us'):=by
 obtain ⟨dfl',hd,hb⟩:=B.bind
 have hd':Paired (zcr (RelU g m H)) dfl dfl':=L2.Paired.mapP hd fun x y h=>by
  cases h with
  | none=>exact .none
  | some h=>exact .some (h m H)
 obtain ⟨us',e1,e2⟩:=zhC (zdl r1 v1) (zdl r2 v2) hd' e
 obtain ⟨vs',r3,v3⟩:=zew e2
 exact ⟨vs',us',r3,v3,hb s us uz us' ks (e0.mod.kin.keeps fun b o e=>(e0.bs b o e).1) hks e1⟩
theorem zkm (B:FnB g K fd.ps fd.np fd.dfl data) (hdl:fd.dfl.length=fd.ps.length) (hva:fd.va=false):FnL g K fd data:=by
 have eS:∀ {ds zs:List D} {ks:List Nat},zcI fd ds ks zs=zbb fd.ps fd.np fd.dfl ds ks zs:=fun {ds zs ks}=>by
  unfold zcI
  rw [hva]
  rfl
 have len:∀ {ds zs ds':List D} {ks:List Nat},zcI fd ds ks zs=some ds'→ds'.length=fd.ps.length:=fun h=>by
  rw [eS] at h
  rw [ze6 h,hdl,Nat.min_self]
 refine ⟨fun {P w mg base A outer s H m L ds zs ds' vs ws us uz ks E} e0 hks hr r1 v1 r2 v2 e A' Ex Q k=>?_,len⟩
 have hl:=len e
 rw [eS] at e
 obtain ⟨vs',us',r3,v3,b⟩:=B.run e0 hks r1 v1 r2 v2 e
 exact b _ _ _ _ (k s H vs' us' e0 Un.refl rfl (fun _ _ z=>z) v3 (by rw [← r3.length,hl,List.length_map]) ⟨hr,r3,Ev.refl _ _⟩)
theorem zfs:∀ {vs:List V} {us:List Value} (n:Nat),Vals vs us→Vals (vs.take n) (us.take n)∧Vals (vs.drop n) (us.drop n)
 | _,_,0,h=>⟨.nil,h⟩
 | _,_,n+1,.nil=>⟨.nil,.nil⟩
 | _,_,n+1,.cons h t=>⟨.cons h (zfs n t).1,(zfs n t).2⟩
theorem zkV (B:FnB g K fd.ps.dropLast fd.np fd.dfl data0) {va:Nat} (hps:fd.ps=fd.ps.dropLast++[va]) (hdl:fd.dfl.length=fd.ps.dropLast.length) (hva:fd.va=true)
  (heq:∀us kw,bindArgs data ⟨us,kw⟩=(bindArgs data0 ⟨us.take fd.np,kw⟩ >>= fun b=>newTuple (us.drop fd.np) >>= fun t=>pure (b++[(g.an va,t)]))):FnL g K fd data:=by
 have eS:∀ {ds zs ds':List D} {ks:List Nat},zcI fd ds ks zs=some ds'→zad (ds.length - fd.np)=true∧∃d0,zbb fd.ps.dropLast fd.np fd.dfl (ds.take fd.np) ks zs=some d0∧ds'=d0++[.tup (ds.drop fd.np)]:=fun {ds zs ds' ks} h=>by
  unfold zcI at h
  rw [hva,if_pos rfl] at h
  split at h
  ·rename_i c
   cases e:zbb fd.ps.dropLast fd.np fd.dfl (ds.take fd.np) ks zs with
   | none=>rw [e] at h; cases h
   | some d0=>
    rw [e] at h
    exact ⟨c,d0,rfl,(Option.some.inj h).symm⟩
  ·cases h
 have len0:∀ {ds zs ds':List D} {ks:List Nat},zbb fd.ps.dropLast fd.np fd.dfl ds ks zs=some ds'→ds'.length=fd.ps.dropLast.length:=fun h=>by rw [ze6 h,hdl,Nat.min_self]
 have len:∀ {ds zs ds':List D} {ks:List Nat},zcI fd ds ks zs=some ds'→ds'.length=fd.ps.length:=fun h=>by
  obtain ⟨_,d0,e1,e2⟩:=eS h
  have:=len0 e1
  rw [e2,hps,List.length_append,List.length_append,this]<;>simp
 refine ⟨fun {P w mg base A outer s H m L ds zs ds' vs ws us uz ks E} e0 hks hr r1 v1 r2 v2 e A' Ex Q k=>?_,len⟩
 obtain ⟨c,d0,e1,e2⟩:=eS e
 obtain ⟨va1,va2⟩:=zfs fd.np v1
 obtain ⟨vs',us',r3,v3,b⟩:=B.run e0 hks (r1.take fd.np) va1 r2 v2 e1
 rw [heq]
 refine wpAny_bind (b _ _ _ _ ?_)
 have hz:(vs.drop fd.np).length≤sizeLine:=by
  rw [List.length_drop, ← r1.length]
  exact okB c
 have hn:H s.heap.objs.size=none:=e0.hok.fresh (Nat.le_refl _)
 have rd:=r1.drop fd.np
 refine wpAny_bind (wpAny_newTuple (wpAny_pure ?_) (by rw [← va2.length]; exact hz))
 have new:ObjOk P w (upd H s.heap.objs.size (.tup (vs.drop fd.np))) (s.heap.push ({ cls:=.type "tuple",data:=.seq (us.drop fd.np).toArray }:Obj)) s.heap.objs.size (.tup (vs.drop fd.np)):=⟨hz,_,va2,⟨_,Heap.get?_push_size _ rfl,rfl,_,rfl⟩⟩
 have un:=StX.un_laid (fs:=frs outer) (s:=s) (o:=({ cls:=.type "tuple",data:=.seq (us.drop fd.np).toArray }:Obj)) (u:=.tup (vs.drop fd.np)) hn
 have ev:Ev m H m (upd H s.heap.objs.size (.tup (vs.drop fd.np))):=Ev.upd_free hn
 have l3:=len0 e1
 have hl':vs'.length=(fd.ps.dropLast.map g.an).length:=by rw [← r3.length,l3,List.length_map]
 have z:=k _ _ (vs'++[V.ref s.heap.objs.size]) (us'++[Value.ref s.heap.objs.size]) (StX.env0_laid e0 new) un rfl (fun e s'=>zox outer s H _ _ E e s' un (fun b o q=>Heap.get?_push_of_some _ q) rfl) (v3.append (.cons rfl .nil))
  (by rw [hps,List.map_append,List.length_append,List.length_append,hl']<;>rfl) ⟨hr.laid hn,by rw [e2]; exact (r3.mono ev).append (.cons (.tup (SqT.of upd_same) (rd.mono ev)) .nil),ev⟩
 rw [hps,List.map_append,List.zip_append (by rw [← hl',v3.length])] at z
 exact z
end
structure Cal (g:G) (T:Tb) (C:Nat→List D→M D) (P:Program) (w:World) (K:PySem.W.Frag) (mg:Str→Option Value) (base:Heap) (k f:Nat):Prop where
 keep:PySem.W.keepIn K (.ref (g.gad f))=true
 run:∀(A:Around) (outer:List Env) (s:Shared) (H:Hp) (us uz:List Value) (vs ws:List V) (ds zs:List D) (ks:List Nat) (m:List Addr) (L:MH) (Q:VK) (E:XK),Room k A→Env0 P w K mg base A outer s H→ks.Nodup→HRel g m L H→RelDs g m H ds vs→Vals vs us→RelDs g m H zs ws→Vals ws uz→
  Post g E (RD g) m H (zaI T C f ds ks zs L) Q→codeAny (model P w) A (.call (.ref (g.gad f)) ⟨us,(ks.map g.an).zip uz⟩) (CR (CXM g.fr P w) outer P w H s Q E) s
theorem zcW {T:Tb} {C:Nat→List D→M D} {f:Nat} {fd:Fd} {ds zs:List D} {ks:List Nat} {L:MH} (e:T.fn f=some fd):zaI T C f ds ks zs L=(match zcI fd ds ks zs with | some ds'=>C f ds' L | none=>.stk):=by
 unfold zaI
 rw [e]
 simp only [Option.bind_some]
 cases zcI fd ds ks zs<;>rfl
section
variable {X:Cx} {W:WX} {g:G} {k:Nat} {C:Nat→List D→M D} {T:Tb} {f:Nat}
theorem zj8 {pins:List (Addr×Obj)} {σ:L2.St} {H:Hp} {s:Shared} {Q:VK} {m:List Addr} {L:MH} {ds zs:List D} {vs ws:List V} {us uz:List Value} {ks:List Nat}
  (tk:TakesM g.fr X W) (hroom:Room k X.A) (F:Cal g T C X.prog X.w X.K X.mg X.base k f) (hks:ks.Nodup) (I:Inv X pins σ H s) (hr:HRel g m L H) (r1:RelDs g m H ds vs) (v1:Vals vs us) (r2:RelDs g m H zs ws) (v2:Vals ws uz)
  (po:Post g (fun c d H'=>W c d σ H') (RD g) m H (zaI T C f ds ks zs L) Q):wpAny (model X.prog X.w) X.A (call (.ref (g.gad f)) us ((ks.map g.an).zip uz)) (EP X pins σ Q) X.xe s:=by
 refine wpAny_call (codeAny_mono (F.run X.A X.stack s H us uz vs ws ds zs ks m L Q (fun c d H'=>W c d σ H') hroom I.env0 hks hr r1 v1 r2 v2 po) fun r s' hq=>?_)
 cases r with
 | error er=>exact tk.call I (fun _ _ _ z=>z) hq
 | ok fl=>
  cases fl with
  | ret u=>exact I.after hq
  | next=>exact False.elim hq
  | brk=>exact False.elim hq
  | cont=>exact False.elim hq
end
end Mi
end
section
set_option maxHeartbeats 4000000
namespace Mi
open PySem PySem.Spec PyProof.Rows L2
theorem zpd:∀b:Bs,StoreFacts b.n b.tl "object.__setattr__" "object"
 | .ve=>F.store_ValueError | .le=>F.store_LookupError | .ie=>F.store_IndexError
theorem zk0:∀b:Bs,ExcBaseFacts b.n b.new b.ini b.tl
 | .ve=>F.excBase_ValueError | .le=>F.excBase_LookupError | .ie=>F.excBase_IndexError
theorem zr2:∀b:Bs,typeOf (.type b.n)=pure (.type "type")
 | .ve=>by kernel_rfl | .le=>by kernel_rfl | .ie=>by kernel_rfl
theorem zk2:∀b:Bs,bootBuiltins (Str.ofString b.n)=some (.type b.n)
 | .ve=>by kernel_rfl | .le=>by kernel_rfl | .ie=>by kernel_rfl
structure OexB (K:PySem.W.Frag) (b:Bs) (C:Addr):Prop where
 cls:∃nm q N bs bm sn sub ab col dd k0 k1 k2 k3 k5,K.lookup C=some (excClassObj nm q C N bs bm true sn sub ab col dd k0 k1 k2 k3 k5 b.new)∧PySem.W.excTail b.tl bm=true
 sa:PySem.W.findIn K (.ref C) "__setattr__"=some (some (.builtin "object.__setattr__"))
 exC:PySem.W.subIn K (.ref C) (.type "BaseException")=some true
 tyC:PySem.W.typeIn K (.ref C)=some (.type "type")
 kC:PySem.W.keepIn K (.ref C)=true
end Mi
namespace Mi.OB
open PySem PySem.W PySem.Calls PyProof.Rows PySem.HandSPX PySem.OEX
section
open Builtin Builtin.ObjectAttr
variable {prog:Program} {w:World} {A:Around} {E:Value→Shared→Prop} {R:Result→Shared→Prop} {hp:Heap} {g:Array GenState} {d:Drawn} {t:Nat} {os:OsState} {b:Mi.Bs}
theorem zfP {K:W.Frag} {C:Addr} {name:Str} (ha:W.findIn K (.ref C) name=some none):W.takerIn K C name=some none:=by
 unfold W.takerIn
 rw [ha]
 rfl
theorem osa_new {K:W.Frag} {name:Str} {tk:Tok} {v:Value} {x C:Addr} {fv:Array Value} {cd:ClassData}
  (X:K.In hp) (hx:hp.get? x=some { cls:=.ref C,data:=.fields fv }) (hcd:W.clsIn K C=some cd) (ho:W.excOver K C b.tl=true) (hh:cd.hasDict=true) (ha:W.findIn K (.ref C) name=some none)
  (hq:∀h' tk' dx,(∀b o,b≠x→hp.get? b=some o→h'.get? b=some o)→hp.objs.size≤dx→dx≠x→h'.get? x=some { cls:=.ref C,dict:=some dx,data:=.fields fv }→
    h'.Ns1 dx (fun y=>if y=name then some v else none)→R (.ok (.ret .none)) ⟨h',g,d,tk',os⟩):
  codeAny (model prog w) A (.call (.builtin "object.__setattr__") ⟨[.ref x,.str name tk,v],[]⟩) R ⟨hp,g,d,t,os⟩:=by
 have I:W.InstAt hp x { cls:=.ref C,data:=.fields fv } C none:=⟨hx,rfl,rfl,trivial⟩
 have hxs:x≠hp.objs.size:=Nat.ne_of_lt (Heap.lt_size hx)
 have hcls:W.Looks (model prog w) hp (classData C) cd:=W.looks_clsIn X hcd
 refine W.osa_openX (s:=⟨hp,g,d,t,os⟩) (Mi.zpd b) X I ho (zfP ha) fun bb=>?_
 show wpAny _ _ (storeInOwnDict (.ref x) (.ref C) (.str name tk) name v bb) _ _ _
 obtain ⟨nm,bs,mro,ns,qn,hd,sn,sb,ab,col,del⟩:=cd
 dsimp only at hh
 subst hh
 unfold storeInOwnDict ownDictForStores
 repeat (first | with_reducible refine store_in_new ?_ ?_ | with_reducible refine wpAny_loadPart_at hx ?_ | with_reducible refine hcls.at ?_ | wp_step)
 ·exact ⟨_, #[],_,(Heap.get?_update_ne _ _ _ _ hxs.symm).trans (Heap.get?_push_at rfl rfl),rfl,fun e he=>absurd he (by simp),fun _=>rfl⟩
 ·intro h' tk' hn' hs
  have hx₁:(hp.push { cls:=.type "dict",data:=.dict #[] }).get? x=some { cls:=.ref C,data:=.fields fv }:=Heap.get?_push_of_some _ hx
  refine hq h' tk' hp.objs.size (fun b o hb ho=>?_) (Nat.le_refl _) hxs.symm ?_ hn'
  ·exact (hs.2 b (Nat.ne_of_lt (Heap.lt_size ho))).trans ((Heap.get?_update_ne _ _ _ _ hb).trans (Heap.get?_push_of_some _ ho))
  ·exact (hs.2 x hxs).trans (Heap.get?_update_self _ hx₁ rfl)
theorem osa_old {K:W.Frag} {name:Str} {tk:Tok} {v:Value} {x C dx:Addr} {fv:Array Value} {cd:ClassData} {m0:Str→Option Value} {nl:List Str}
  (X:K.In hp) (hx:hp.get? x=some { cls:=.ref C,dict:=some dx,data:=.fields fv }) (hns:hp.Ns1 dx m0) (hw:Within m0 nl) (hz:nl.length≤1000) (hcd:W.clsIn K C=some cd) (ho:W.excOver K C b.tl=true) (hh:cd.hasDict=true)
  (ha:W.findIn K (.ref C) name=some none)
  (hq:∀h' tk',(∀b o,b≠dx→hp.get? b=some o→h'.get? b=some o)→h'.Ns1 dx (fun y=>if y=name then some v else m0 y)→R (.ok (.ret .none)) ⟨h',g,d,tk',os⟩):
  codeAny (model prog w) A (.call (.builtin "object.__setattr__") ⟨[.ref x,.str name tk,v],[]⟩) R ⟨hp,g,d,t,os⟩:=by
 obtain ⟨oD,esD,epD,hoD,hdD,_⟩:=hns.count hw
 have I:W.InstAt hp x { cls:=.ref C,dict:=some dx,data:=.fields fv } C (some oD):=⟨hx,rfl,rfl,hoD⟩
 have hcls:W.Looks (model prog w) hp (classData C) cd:=W.looks_clsIn X hcd
 refine W.osa_openX (s:=⟨hp,g,d,t,os⟩) (Mi.zpd b) X I ho (zfP ha) fun bb=>?_
 show wpAny _ _ (storeInOwnDict (.ref x) (.ref C) (.str name tk) name v bb) _ _ _
 obtain ⟨nm,bs,mro,ns,qn,hd,sn,sb,ab,col,del⟩:=cd
 dsimp only at hh
 subst hh
 unfold storeInOwnDict ownDictForStores
 repeat (first | with_reducible refine store_in_old hns hw hz ?_ | with_reducible refine wpAny_loadPart_at hx ?_ | with_reducible refine hcls.at ?_ | wp_step)
 intro h' tk' hn' hs
 exact hq h' tk' (fun b o hb ho=>(hs.2 b hb).trans ho) hn'
end
end Mi.OB
namespace Mi
open PySem PySem.Spec PyProof.Rows L2
section
variable {X:Cx} {pins:List (Addr×Obj)} {σ:L2.St} {H:Hp} {s:Shared} {a C dx:Addr} {f:Str} {y:V} {u:Value} {fs:List (Str×V)} {Q:Unit→Shared→Prop} {E:Value→Shared→Prop} {A:Around} {bk:Bs}
theorem zlb (T:OexB X.K bk C) (I:Inv X pins σ H s) (e:H a=some (exo a C none)) (hno:PySem.W.findIn X.K (.ref C) f=some none) (ry:RelV y u)
  (h:∀dx s',H dx=none→dx≠a→Inv X pins σ (upd (upd H dx (exd dx [(f,y)])) a (exo a C (some dx))) s'→Q () s'):wpAny (model X.prog X.w) A (setAttr (.ref a) f u) Q E s:=by
 obtain ⟨nm,q,N,bs,bm,sn,sub,ab,col,dd,k0,k1,k2,k3,k5,hC,hbm⟩:=T.cls
 have hcl:PySem.W.clsIn X.K C=some { name:=nm,bases:=bs,mro:=.ref C::bm,ns:=N,qualname:=q,hasDict:=true,slotNames:=sn,subclasses:=sub,abstract:=ab,collection:=col,hasDel:=false }:=by unfold PySem.W.clsIn; rw [hC]<;>rfl
 have hov:PySem.W.excOver X.K C bk.tl=true:=by
  unfold PySem.W.excOver
  rw [hcl]
  show ((C==C)&&PySem.W.excTail bk.tl bm)=true
  rw [beq_self_eq_true,hbm]
  rfl
 obtain ⟨t1,ho⟩:=exo_at I.hok e
 obtain ⟨hp,g,d,t,os⟩:=s
 refine PySem.W.set_plain I.kIn (ox:={ cls:=.ref C,dict:=none,data:=.fields #[.ref t1,.none,.none,.none,.bool false,.none] }) (od:=none) ⟨ho,rfl,rfl,trivial⟩ T.sa ?_
 refine OB.osa_new I.kIn ho hcl hov rfl hno (fun h' tk' dx k dn dne hx hn=>?_)
 have hnd:H dx=none:=I.hok.fresh dn
 have nd:∀ {b:Addr} {o:Obj},hp.get? b=some o→b≠dx:=fun {b o} q=>Nat.ne_of_lt (Nat.lt_of_lt_of_le (Heap.lt_size q) dn)
 have na:∀ {b:Addr},H b=none→b≠a:=fun {b} n z=>by
  rw [z,e] at n
  cases n
 have Un1:Un X.fs [] H (upd (upd H dx (exd dx [(f,y)])) a (exo a C (some dx))) hp h':={
   keep:=fun b o q n _ _=>k b o (na n) q
   slot:=fun b o q n _ _=>⟨o.slots,k b o (na n) q⟩
   free:=fun b o q n _=>by rw [upd_ne (na n),upd_ne (nd q)]; exact n
   there:=fun b o q _=>by
     by_cases hb:b=a
     · exact ⟨_,by rw [hb]; exact hx⟩
     · exact ⟨o,k b o hb q⟩
   tups:=fun b xs q=>by rw [upd_ne (at_ne e q exo_tup),upd_ne (ne_of_none q hnd)]; exact q
   frzs:=fun b o v q=>by rw [upd_ne (at_ne e q exo_frz),upd_ne (ne_of_none q hnd)]; exact q
   tbls:=fun b ps q=>⟨#[],by rw [upd_ne (at_ne e q exo_tbl),upd_ne (ne_of_none q hnd),q]; simp⟩ }
 refine h dx _ hnd dne (I.un (t':=tk') Un1 fun b o q=>?_)
 by_cases hb:b=a
 ·subst hb
  rw [upd_same] at q
  cases q
  exact exo_ok hx
 ·rw [upd_ne hb] at q
  by_cases hd:b=dx
  ·subst hd
   rw [upd_same] at q
   cases q
   exact exd_ok hn (relO_put (fs:=[]) ry fun g=>True.intro)
  ·rw [upd_ne hd] at q
   exact (I.hok b o q).stay (fun c v hc z=>k c v (by
       rcases hc with hc | hc
       · rw [hc]
         exact hb
       · exact at_ne e hc exo_own) z)
    (fun c hc=>by rw [upd_ne (at_ne e hc exo_own),upd_ne (ne_of_none hc hnd)]; exact hc) (fun c xs hc=>by rw [upd_ne (at_ne e hc exo_tup),upd_ne (ne_of_none hc hnd)]; exact hc)
theorem zlA (T:OexB X.K bk C) (I:Inv X pins σ H s) (e:H a=some (exo a C (some dx))) (ed:H dx=some (exd dx fs)) (hl:fs.length≤900) (hno:PySem.W.findIn X.K (.ref C) f=some none) (ry:RelV y u)
  (h:∀s',Inv X pins σ (upd H dx (exd dx ((f,y)::fs))) s'→Q () s'):wpAny (model X.prog X.w) A (setAttr (.ref a) f u) Q E s:=by
 obtain ⟨nm,q,N,bs,bm,sn,sub,ab,col,dd,k0,k1,k2,k3,k5,hC,hbm⟩:=T.cls
 have hcl:PySem.W.clsIn X.K C=some { name:=nm,bases:=bs,mro:=.ref C::bm,ns:=N,qualname:=q,hasDict:=true,slotNames:=sn,subclasses:=sub,abstract:=ab,collection:=col,hasDel:=false }:=by unfold PySem.W.clsIn; rw [hC]<;>rfl
 have hov:PySem.W.excOver X.K C bk.tl=true:=by
  unfold PySem.W.excOver
  rw [hcl]
  show ((C==C)&&PySem.W.excTail bk.tl bm)=true
  rw [beq_self_eq_true,hbm]
  rfl
 obtain ⟨t1,ho⟩:=exo_at I.hok e
 obtain ⟨mA,hns,rel⟩:=exd_at I.hok ed
 have hw:=within_of rel
 obtain ⟨hp,g,d,t,os⟩:=s
 obtain ⟨oD,_,_,hoD,_,_⟩:=hns.count hw
 refine PySem.W.set_plain I.kIn (ox:={ cls:=.ref C,dict:=some dx,data:=.fields #[.ref t1,.none,.none,.none,.bool false,.none] }) (od:=some oD) ⟨ho,rfl,rfl,hoD⟩ T.sa ?_
 refine OB.osa_old I.kIn ho hns hw (by rw [List.length_map]; omega) hcl hov rfl hno (fun h' tk' k hn=>?_)
 have hd:∃o,h'.get? dx=some o:=by
  obtain ⟨o,_,_,e',_⟩:=hn
  exact ⟨o,e'⟩
 exact h _ (I.write (t':=tk') (x:=dx) (e:=dx) (o:=exd dx ((f,y)::fs)) (by rw [ed]; exact True.intro) (.inl rfl) k hd (exd_ok hn (relO_put ry rel)))
theorem zkB {us:List Value} {Q:Value→Shared→Prop} (T:OexB X.K bk C) (I:Inv X pins σ H s) (e:H a=some (exo a C none)) (hl:us.length≤sizeLine) (h:∀s',Inv X pins σ H s'→Q .none s'):
  wpAny (model X.prog X.w) A (call (.builtin bk.ini) (.ref a::us)) Q E s:=by
 obtain ⟨nm,q,N,bs,bm,sn,sub,ab,col,dd,k0,k1,k2,k3,k5,hC,hbm⟩:=T.cls
 obtain ⟨t1,ho⟩:=exo_at I.hok e
 obtain ⟨hp,g,d,t,os⟩:=s
 refine wpAny_call (PySem.HandSPX.init_base (zk0 bk) (fun Y=>PySem.W.excTail_contains Y bm hbm) (I.kIn _ _ hC) ho hl fun h' t2 k hx=>?_)
 have J:=I.write (t':=t) (x:=a) (e:=a) (o:=exo a C none) (by rw [e]; exact True.intro) (.inl rfl) k ⟨_,hx⟩ (exo_ok hx)
 have eu:upd H a (exo a C none)=H:=by
  funext b
  by_cases hb:b=a
  ·rw [hb,upd_same,e]
  ·rw [upd_ne hb]
 rw [eu] at J
 exact h _ J
end
section
def tBiI (K:PySem.W.Frag) (bk:Bs) (ta:TA):TE:=fun σ H Q=>ta σ H fun vs H1=>∃(a C:Addr) (ws:List V),vs=.ref a::ws∧ws.length≤1000∧OexB K bk C∧H1 a=some (exo a C none)∧Q .non H1
def zrw (K:PySem.W.Frag) (bk:Bs) (f:Str) (to te:TE):TS:=fun D σ H=>te σ H fun y H1=>to σ H1 fun x H2=>∃a C:Addr,x=.ref a∧OexB K bk C∧PySem.W.findIn K (.ref C) f=some none∧
 ((H2 a=some (exo a C none)∧∀dx,H2 dx=none→dx≠a→D.nx σ (upd (upd H2 dx (exd dx [(f,y)])) a (exo a C (some dx))))∨
   ∃(dx:Addr) (fs:List (Str×V)),H2 a=some (exo a C (some dx))∧H2 dx=some (exd dx fs)∧fs.length≤900∧D.nx σ (upd H2 dx (exd dx ((f,y)::fs))))
end
section
variable {X:Cx} {o e:Expr} {es:List Expr} {to te:TE} {ta:TA} {f:Str} {p p' p1 p2 pos:Pos} {bk:Bs}
theorem zhl {pl:Sem Bool} (hg:Gl X (Str.ofString bk.n)) (hm:X.mg (Str.ofString bk.n)=none) (vV:PySem.W.findCls X.K (.type bk.n) (.type "type") "__init__"=some (.val (.builtin bk.ini))) (ha:PA X (e::es) ta)
  (hc:eval (.Call (.Attribute (.Name (Str.ofString bk.n) p1) "__init__" p2) (e::es) [] pos) X.env=(do
    let ov ← eval (.Name (Str.ofString bk.n) p1) X.env
    standAt p2.atName
    let (f,first) ← holding [ov] (getMethod ov "__init__" pl)
    callWith pos f first (backTo pos (starEach (e::es) X.env)) (backToKw pos (keywordEach [] X.env))):=by rfl)
  (he:starEach (e::es) X.env=(false,eval e X.env)::starEach es X.env:=by rfl) (hpl:(backTo pos (starEach es X.env)).any (·.1)=false:=by rfl):
  PE X (.Call (.Attribute (.Name (Str.ofString bk.n) p1) "__init__" p2) (e::es) [] pos) (tBiI X.K bk ta):=by
 refine ⟨fun pins s σ H Q I h=>?_⟩
 refine PySem.W.methodCall_KW (ld_blt I hg hm (zk2 bk) ?_ (by cases bk<;>decide) (by cases bk<;>decide)) hc
 obtain ⟨m,fr⟩:=I.fr
 refine PySem.W.method_type fr I.ok.mod.kin (zr2 bk) (by cases bk<;>decide +kernel) vV (by cases bk<;>decide +kernel) ?_
 show wpAny _ _ (callWith pos (Value.builtin bk.ini) [] (backTo pos (starEach (e::es) X.env)) []) _ _ _
 refine PyProof.Rows.callWith_method1 (thn (ha.run pos pins _ σ H _ (I.tok _) h) fun us s1 ⟨vs,H1,I1,r1,a,C,ws,ev,hl,T,ea,q⟩=>?_) he hpl
 subst ev
 cases r1 with
 | @cons _ u0 _ ur ra rw'=>
  obtain rfl:u0=Value.ref a:=ra
  have hlen:ur.length≤sizeLine:=by
   rw [← Paired.length rw',sizeLine_eq]
   omega
  exact zkB T I1 ea hlen fun s' J=>⟨.non,H1,J,rfl,q⟩
theorem zhZ (ho:PE X o to) (he:PE X e te) (hs:swapsWith e (some (.Attribute o f p')) pos.line X.env=pure false:=by rfl):PS X (.Assign [.Attribute o f p'] e pos) (zrw X.K bk f to te):=by
 refine ⟨fun pins s σ H D I h=>?_⟩
 refine plainObj_wpAny_Assign_Attribute (thn (he.run pins s σ H _ I h) fun v s1 ⟨y,H1,I1,r1,q1⟩=>thn (ho.run pins s1 σ H1 _ I1 q1) fun u s2 ⟨x,H2,I2,r2,a,C,ex,T,hno,q⟩=>?_) hs
 subst ex
 obtain rfl:u=Value.ref a:=r2
 rcases q with ⟨ea,q⟩ | ⟨dx,fs,ea,ed,hl,q⟩
 ·exact zlb T I2 ea hno r1 fun dx s' n ne J=>⟨σ,_,J,q dx n ne⟩
 ·exact zlA T I2 ea ed hl hno r1 fun s' J=>⟨σ,_,J,q⟩
end
end Mi
end
section
set_option maxHeartbeats 4000000
namespace Mi
open PySem PySem.Spec PyProof.Rows L2
def exsV (args:List V):ExS→Option V
 | .par i=>args[i]?
 | .con s=>some (.str s)
def zah (fl:List (Str×ExS)) (args:List V):Option (List (Str×V)):=mapO (fun q=>(exsV args q.2).map fun v=>(q.1,v)) fl
def spI (K:PySem.W.Frag) (bk:Bs) (np:Nat) (fl:List (Str×ExS)):Sp:=fun vs H Q _=>∃(a C:Addr) (args:List V) (fs:List (Str×V)),vs=.ref a::args∧args.length=np∧OexB K bk C∧(∀q∈fl,PySem.W.findIn K (.ref C) q.1=some none)∧H a=some (exo a C none)∧
 zah fl args=some fs∧∀d H',H d=none→d≠a→H' a=some (exo a C (some d))→H' d=some (exd d fs)→(∀b,b≠a→b≠d→H' b=H b)→Q .non H'
theorem zep {K:PySem.W.Frag} {bk:Bs} {np:Nat} {fl:List (Str×ExS)}:∀vs H Q E,spI K bk np fl vs H Q E→vs.length=np+1:=fun vs H Q E ⟨a,C,args,fs,h1,h2,_⟩=>by rw [h1,List.length_cons,h2]
structure ExcK (g:G) (P:Program) (w:World) (K:PySem.W.Frag) (mg:Str→Option Value) (base:Heap) (c np:Nat) (fl:List (Str×ExS)):Prop where
 no:∀q∈fl,PySem.W.findIn K (.ref (g.cad c)) q.1=some none
 fn:∃bk:Bs,OexB K bk (g.cad c)∧∃(fI:Addr) (fd:FuncData) (ps:List Str),PySem.W.findIn K (.ref (g.cad c)) "__init__"=some (some (.ref fI))∧PySem.W.typeIn K (.ref fI)=some (.type "function")∧FnOk P w K mg base (L2.CX P w) 2 fI fd ps (spI K bk np fl)∧Binds K fd ps []∧L2H.FnH P w K mg base (L2.CX P w) 2 fI fd ps (spI K bk np fl)
def KwB (fd:FuncData) (ps:List Str):Prop:=∀(s:Shared) (us uz us':List Value) (ks:List Str),ks.Nodup→zbb ps ps.length (List.replicate ps.length none) us ks uz=some us'→BindsTo s fd ⟨us,ks.zip uz⟩ (ps.zip us')
def ExcV (g:G) (P:Program) (w:World) (K:PySem.W.Frag) (mg:Str→Option Value) (base:Heap) (c np:Nat) (fl:List (Str×ExS)) (px:List Str):Prop:=∃bk:Bs,OexB K bk (g.cad c)∧∃(fI:Addr) (fd:FuncData) (x0:Str),PySem.W.findIn K (.ref (g.cad c)) "__init__"=some (some (.ref fI))∧PySem.W.typeIn K (.ref fI)=some (.type "function")∧
 FnOk P w K mg base (L2.CX P w) 2 fI fd (x0::px) (spI K bk np fl)∧KwB fd (x0::px)∧x0∉px
def flS (g:G) (fl:List (Nat×(Nat ⊕ Str))):List (Str×ExS):=fl.map fun q=>(g.an q.1,srcS q.2)
theorem zgC {g:G} {m:List Addr} {H:Hp} {ds:List D} {vs:List V} (r:RelDs g m H ds vs):∀ {fl:List (Nat×(Nat ⊕ Str))} {fs:List (Nat×D)},mapO (fun q=>(exsD ds q.2).map fun d=>(q.1,d)) fl=some fs→∃vfs,zah (flS g fl) vs=some vfs∧RelF g m H fs vfs
 | [],fs,h=>by
  cases h
  exact ⟨[],rfl,.nil⟩
 | q::fl,fs,h=>by
  simp only [mapO] at h
  cases e1:(exsD ds q.2) with
  | none=>rw [e1] at h; cases h
  | some d=>
   rw [e1] at h
   cases e2:mapO (fun q=>(exsD ds q.2).map fun d=>(q.1,d)) fl with
   | none=>simp [e2] at h
   | some fs'=>
    simp only [e2,Option.map_some,Option.bind_some,Option.some.injEq] at h
    subst h
    obtain ⟨vfs,h1,h2⟩:=zgC r e2
    obtain ⟨n,src⟩:=q
    cases src with
    | inl i=>
     have e1:ds[i]?=some d:=e1
     obtain ⟨v,h3,h4⟩:=r.get e1
     refine ⟨(g.an n,v)::vfs, ?_,.cons h4 h2⟩
     unfold zah flS at h1 ⊢
     have h5:exsV vs (srcS (Sum.inl i))=some v:=h3
     simp only [List.map_cons,mapO,h5,Option.map_some,Option.bind_some]
     rw [h1]
     rfl
    | inr s=>
     cases e1
     refine ⟨(g.an n,.str s)::vfs, ?_,.cons (.str s) h2⟩
     unfold zah flS at h1 ⊢
     have h5:exsV vs (srcS (Sum.inr s))=some (.str s):=rfl
     simp only [List.map_cons,mapO,h5,Option.map_some,Option.bind_some]
     rw [h1]
     rfl
end Mi
end
section
set_option maxHeartbeats 4000000
namespace Mi
open PySem PySem.Spec PyProof.Rows L2
def tyV' (g:G):Ty→V
 | .bt n=>.ty n
 | .own c=>.ref (g.cad c)
theorem zhQ (g:G):∀t:Ty,ClsV (tyV' g t) (zcC g t)
 | .bt n=>.ty n
 | .own c=>.own _
structure zjU (K:PySem.W.Frag) (C:Addr):Prop where
 cl:Cls K C
 ha:PySem.W.findIn K (.ref C) "__class__"=some (some (.builtin "object.__class__"))
 hn:PySem.W.specialIn K (.builtin "object.__class__") "__get__"=some (some (.builtin "getset_descriptor.__get__"))
 htk:PySem.W.takesIn K (.builtin "object.__class__")=some true
 hm:PySem.W.mroIn K C (.type "object")=some true
structure zrG (K:PySem.W.Frag) (C D:Addr) (name:Str) (f:Addr):Prop where
 sub:PySem.W.mroIn K C (.ref D)=some true
 sup:PySem.W.ks_superIn K C D name=some (some (.ref f))
 ty:PySem.W.typeIn K (.ref f)=some (.type "function")
 opq:PySem.W.nsIn K cStatics "thirdparty.any"=some none
 fn:PySem.W.fnIn K f=true
structure EqOk (K:PySem.W.Frag) (C:Addr) (tb:Value) (f:Addr):Prop where
 nf:PySem.W.notFirst K C tb=true
 eq:PySem.W.findIn K (.ref C) "__eq__"=some (some (.ref f))
 fn:PySem.W.isFn K (.ref f)=true
 ne:PySem.W.findIn K (.ref C) "__ne__"=some (some (.builtin "object.__ne__"))
 ob:PySem.W.mroIn K C (.type "object")=some true
structure zl8 (K:PySem.W.Frag) (C:Addr) (m:Str) (f:Addr):Prop where
 ex:∃mc p rest,ClX.CRead K C mc∧PySem.W.findCls K (.ref C) mc m=some (.get (.builtin "staticmethod.__get__") (.ref p) .none (.ref C))∧PySem.W.recIn K p "staticmethod"=some (.ref f::rest)
 kp:PySem.W.keepIn K (.ref f)=true
structure Lk (g:G) (T:Tb) (cf:Cf) (K:PySem.W.Frag) (w:World) (mg:Str→Option Value) (dt:Nat→FuncData):Prop where
 gw:g.w=w
 an:g.an=cf.an
 inj:∀a b,g.an a=g.an b→a=b
 glob:∀f,cf.glob.contains f=true→mg (cf.nm.fn f)=some (.ref (g.gad f))
 con:∀k d,T.con k=some d→∃u v,mg (cf.nm.kn k)=some u∧RelV v u∧CRel g d v
 blt:∀x,cf.blt.contains x=true→mg x=none
 cls:∀c,cf.cls.contains c=true→mg (cf.nm.cn c)=some (.ref (g.cad c))
 noat:∀c n,T.noat c n=true→Cls K (g.cad c)∧NoAttr K (g.cad c) (g.an n)
 meth:∀c n f,T.meth c n=some f→Cls K (g.cad c)∧Meth K (g.cad c) (g.an n) (g.gad f)
 ccon:∀c n d,T.ccon c n=some d→∃u v,Cls K (g.cad c)∧Con K (g.cad c) (g.an n) v u∧CRel g d v
 prop:∀c n f,T.prop c n=some f→Cls K (g.cad c)∧∃p,PropOf K (g.cad c) (g.an n) p (g.gad f)
 init:∀c f,T.init c=some f→Mk K (g.cad c) (g.gad f)
 kit:∀t y b,T.kit t y=some b→PySem.W.kitOne K (tagV g t) (zcC g y)=some b
 kin:∀c y b,T.kit (.ins c) y=some b→zjU K (g.cad c)
 sup:∀c d n f,T.sup c d n=some f→zrG K (g.cad c) (g.cad d) (g.an n) (g.gad f)
 eqf:∀c t f,T.eqf c t=some f→EqOk K (g.cad c) (tagV g t) (g.gad f)∧∀b,t=.ins b→zjU K (g.cad b)
 rpf:∀c f,T.rpf c=some f→PySem.W.findIn K (.ref (g.cad c)) "__repr__"=some (some (.ref (g.gad f)))∧PySem.W.isFn K (.ref (g.gad f))=true
 kd:∀k kvs,T.kd k=some kvs→∃d es n,mg (cf.nm.dn k)=some (.ref d)∧KDict K w d es n∧(∀s v,kvs.lookup s=some v→∃u x,PySem.W.nsIn K d s=some (some u)∧RelV x u∧CRel g v x)∧∀s,kvs.lookup s=none→PySem.W.nsIn K d s=some none
 clc:∀c n d,T.clc c n=some d→∃mc u v,ClX.CRead K (g.cad c) mc∧ClX.CVal K (g.cad c) mc (g.an n) v u∧CRel g d v
 lnf:∀c f,T.lnf c=some f→PySem.W.findIn K (.ref (g.cad c)) "__len__"=some (some (.ref (g.gad f)))∧PySem.W.isFn K (.ref (g.gad f))=true
 cnf:∀c f,T.cnf c=some f→PySem.W.findIn K (.ref (g.cad c)) "__contains__"=some (some (.ref (g.gad f)))∧PySem.W.isFn K (.ref (g.gad f))=true
 stat:∀c n f,T.stat c n=some f→zl8 K (g.cad c) (g.an n) (g.gad f)
structure XM (g:G) (T:Tb) (K:PySem.W.Frag):Prop where
 exm:∀c cs b,T.exm c cs=some b→PySem.W.exmAny K (.ref (g.cad c)) (cs.map fun x=>.ref (g.cad x))=some b
 fre:∀c b,T.fre c=some b→g.fr (g.cad c)=b
 kix:∀c t b,T.kix c t=some b→ExcC K (g.cad c)∧PySem.W.kitOne K (.ref (g.cad c)) (zcC g t)=some b
 xat:∀c n,T.xat c n=true→XfC K (g.cad c)∧PySem.W.findIn K (.ref (g.cad c)) (g.an n)=some none
structure CxOk (g:G) (T:Tb) (cf:Cf) (dt:Nat→FuncData) (C:Nat→List D→M D) (k:Nat) (X:Cx) (W:WX):Prop where
 K:X.K=g.K
 lk:Lk g T cf X.K X.w X.mg dt
 fns:∀f fd,T.fn f=some fd→Cal g T C X.prog X.w X.K X.mg X.base k f
 room:Room (k+1) X.A
 calm:X.calm=true
 tk:TakesM g.fr X W
 nd:X.N.Nodup
 rk:6≤k
 xo:(∀c r,cf.exs.lookup c=some r→T.exi c=exF r.2 r.1∧r.1≤100∧ExcK g X.prog X.w X.K X.mg X.base c r.1 (flS g r.2)∧ExcV g X.prog X.w X.K X.mg X.base c r.1 (flS g r.2) (T.exp c))∧XM g T X.K
section
variable {g:G} {T:Tb} {cf:Cf} {dt:Nat→FuncData} {C:Nat→List D→M D} {k:Nat} {X:Cx} {W:WX}
theorem CxOk.hu (c:CxOk g T cf dt C k X W):X.A.units+65 < cLine:=by have:=c.room.un; omega
theorem zsb {i:Nat} {x:Str} {pos:Pos} (hN:X.N[i]?=some x) (hv:Vis X.env.scope x) (hd:(x==("__debug__":Str))=false) (hcd:(x==("__classdict__":Str))=false):PE X (.Name x pos) (tM g W (evE T C (.var i))):=by
 refine zaq (pe_var hN hv hd hcd) fun σ H Q ⟨m,L, ρ,hr,lr,po⟩=>?_
 simp only [evE] at po
 cases e:ρ[i]? with
 | none=>rw [e] at po; exact po.elim
 | some o=>
  cases o with
  | none=>rw [e] at po; exact po.elim
  | some d=>
   rw [e] at po
   obtain ⟨v,h1,h2⟩:=lr.get i d e
   exact ⟨v,h1,po.at hr h2⟩
theorem zoA {i:Int} {j:Nat} {pos:Pos}:PE X (.Constant (.int i) j pos) (tM g W (evE T C (.cint i))):=zaq pe_int fun σ H Q ⟨m,L, ρ,hr,lr,po⟩=>po.at (v:=V.int i) hr (.int i)
theorem zpc {i:Str} {j:Nat} {pos:Pos}:PE X (.Constant (.str i) j pos) (tM g W (evE T C (.cstr i))):=zaq pe_str fun σ H Q ⟨m,L, ρ,hr,lr,po⟩=>po.at (v:=V.str i) hr (.str i)
theorem zra {i:Bool} {j:Nat} {pos:Pos}:PE X (.Constant (.bool i) j pos) (tM g W (evE T C (.cbl i))):=zaq pe_bl fun σ H Q ⟨m,L, ρ,hr,lr,po⟩=>po.at (v:=V.bl i) hr (.bl i)
theorem zpW {j:Nat} {pos:Pos}:PE X (.Constant .none j pos) (tM g W (evE T C .cnon)):=zaq pe_non fun σ H Q ⟨m,L, ρ,hr,lr,po⟩=>po.at (v:=V.non) hr .non
theorem zqL {e:Expr}:PE X e (tM g W (evE T C .bad)):=⟨fun pins s σ H Q I ⟨m,L, ρ,hr,lr,po⟩=>po.elim⟩
theorem two {fa fb:Loc→M D} {sem:D→D→M D} {r:R2} (hs:∀x y H Q,VOp g sem x y H Q→r x y H Q) {σ:L2.St} {H:Hp} {Q:VK}
  (h:tM g W (fun ρ L=>(fa ρ L).bind fun d L1=>(fb ρ L1).bind fun e L2=>sem d e L2) σ H Q):tOp r (tM g W fa) (tM g W fb) σ H Q:=by
 obtain ⟨m,L, ρ,hr,lr,po⟩:=h
 refine ⟨m,L, ρ,hr,lr,(Post.bind (R:=RD g) po).imp fun v H1 ⟨m1,L1,d,e1,hr1,rd,po1⟩=>?_⟩
 refine ⟨m1,L1, ρ,hr1,lr.mono e1,(Post.bind (R:=RD g) po1).imp fun v2 H2 ⟨m2,L2,e,e2,hr2,re,po2⟩=>?_⟩
 exact hs _ _ _ _ ⟨_,m2,L2,d,e,hr2,rd.mono e2,re,po2⟩
theorem one {fa:Loc→M D} {sem:D→M D} {r:V→Hp→VK→Prop} (hs:∀x H Q E m L d,HRel g m L H→RelD g m H d x→Post g E (RD g) m H (sem d L) Q→r x H Q) {σ:L2.St} {H:Hp} {Q:VK}
  (h:tM g W (fun ρ L=>(fa ρ L).bind fun d=>sem d) σ H Q):tUn r (tM g W fa) σ H Q:=by
 obtain ⟨m,L, ρ,hr,lr,po⟩:=h
 refine ⟨m,L, ρ,hr,lr,(Post.bind (R:=RD g) po).imp fun v H1 ⟨m1,L1,d,e1,hr1,rd,po1⟩=>?_⟩
 exact hs _ _ _ _ m1 L1 d hr1 rd po1
variable {a b c':Ex} {ea eb ec:Expr} {pos:Pos}
theorem zre (c:CxOk g T cf dt C k X W) {o:BOp} (ha:PE X ea (tM g W (evE T C a))) (hb:PE X eb (tM g W (evE T C b))):PE X (.BinOp ea (opOf o) eb pos) (tM g W (evE T C (.bop o a b))):=
 zaq (pe_op (zmS c.K o) ha hb) fun σ H Q h=>two (fun _ _ _ _ z=>z) h
theorem zrI (ha:PE X ea (tM g W (evE T C a))):PE X (.UnaryOp .USub ea pos) (tM g W (evE T C (.neg a))):=
 zaq (pe_un (zmW (g:=g)) ha) fun σ H Q h=>one (fun x H Q E m L d hr rd po=>⟨E,m,L,d,hr,rd,po⟩) h
theorem zj0 {o:CmpOp} {x y:V} {H:Hp} {Q:VK} (h:VOp g (fun d e L=>must ((cmpD L o d e).map .bl) L) x y H Q):VCmp g o x y H Q:=by
 obtain ⟨E,m,L,d,e,hr,rd,re,po⟩:=h
 cases q:cmpD L o d e with
 | none=>simp only [q] at po; exact po.elim
 | some b=>
  simp only [q] at po
  exact ⟨m,L,d,e,b,hr,rd,re,q,po.at hr (.bl b)⟩
theorem zrW (c:CxOk g T cf dt C k X W) {o:CmpOp} (hn:zaS eb=true) (ha:PE X ea (tM g W (evE T C a))) (hb:PE X eb (tM g W (evE T C b))):PE X (.Compare ea [o] [eb] pos) (tM g W (evE T C (.cmp o a b))):=
 zaq (pe_cmpR (zek c.K c.hu o) ha hb (zcg hn o)) fun σ H Q h=>two (fun _ _ _ _ z=>zj0 z) h
theorem zhf {m:List Addr} {H:Hp} {d:D} {x:V} (rd:RelD g m H d x):decide (x=V.non)=zeS d:=by
 cases rd<;>rfl
theorem zrK {j:Nat} {pos':Pos} (ha:PE X ea (tM g W (evE T C a))):PE X (.Compare ea [.Is] [.Constant .none j pos'] pos) (tM g W (evE T C (.isn a))):=by
 refine zaq (pe_cmp (pc_isN ha)) fun σ H Q ⟨m,L, ρ,hr,lr,po⟩=>?_
 refine ⟨m,L, ρ,hr,lr,(Post.bind (R:=RD g) po).imp fun v H1 ⟨m1,L1,d,e1,hr1,rd,po1⟩=>?_⟩
 rw [zhf rd]
 exact po1.at hr1 (.bl _)
theorem zin {o p:CmpOp} {σ:L2.St} {H:Hp} {Q:VK} (h:tM g W (evE T C (.chain o p a b c')) σ H Q):tChain (VCmp g o) (VCmp g p) (tM g W (evE T C a)) (tM g W (evE T C b)) (tM g W (evE T C c')) σ H Q:=by
 obtain ⟨m,L, ρ,hr,lr,po⟩:=h
 refine ⟨m,L, ρ,hr,lr,(Post.bind (R:=RD g) po).imp fun v H1 ⟨m1,L1,d,e1,hr1,rd,po1⟩=>?_⟩
 refine ⟨m1,L1, ρ,hr1,lr.mono e1,(Post.bind (R:=RD g) po1).imp fun v2 H2 ⟨m2,L2,e,e2,hr2,re,po2⟩=>?_⟩
 cases q:cmpD L2 o d e with
 | none=>simp only [q] at po2; exact po2.elim
 | some b=>
  refine ⟨m2,L2,d,e,b,hr2,rd.mono e2,re,q,b,rfl, ?_⟩
  cases b with
  | false=>
   simp only [q] at po2
   exact po2.at hr2 (.bl false)
  | true=>
   simp only [q] at po2
   refine ⟨m2,L2, ρ,hr2,(lr.mono e1).mono e2,(Post.bind (R:=RD g) po2).imp fun v3 H3 ⟨m3,L3,f,e3,hr3,rf,po3⟩=>?_⟩
   exact zj0 ⟨_,m3,L3,e,f,hr3,re.mono e3,rf,po3⟩
theorem znQ (c:CxOk g T cf dt C k X W) {o p:CmpOp} (hn:zaS ec=true) (ha:PE X ea (tM g W (evE T C a))) (hb:PE X eb (tM g W (evE T C b))) (hc:PE X ec (tM g W (evE T C c'))):
  PE X (.Compare ea [o,p] [eb,ec] pos) (tM g W (evE T C (.chain o p a b c'))):=
 zaq (pe_chain (zek c.K c.hu o) (zek c.K c.hu p) ha hb hc (by show behindInMarks p ec=false; exact zcg hn p)) fun σ H Q h=>zin h
end
end Mi
end
section
set_option maxHeartbeats 4000000
namespace Mi
open PySem PySem.Spec PyProof.Rows L2
theorem Post.bindE {α β γ δ:Type} {g:G} {E:XK} {R:List Addr→Hp→α→β→Prop} {R':List Addr→Hp→γ→δ→Prop} {m:List Addr} {H:Hp} {r:Res α} {k:α→M γ} {Q2:δ→Hp→Prop} (h:Post g E R' m H (r.bind k) Q2):
  Post g E R m H r fun v H1=>∃m1 L1 a,r=.ok a L1∧Ev m H m1 H1∧HRel g m1 L1 H1∧R m1 H1 a v∧Post g E R' m1 H1 (k a L1) Q2:=by
 cases r with
 | ok d L'=>exact fun m1 H1 v e hr rd=>⟨m1,L',d,rfl,e,hr,rd,h.ev e⟩
 | exc c fs L'=>exact h
 | stk=>exact h
theorem zd5 {α β:Type} {r:Res α} {f:α→M β} {b:β} {L':MH} (h:r.bind f=.ok b L'):∃a L,r=.ok a L∧f a L=.ok b L':=by
 cases r with
 | ok a L=>exact ⟨a,L,rfl,h⟩
 | exc c fs L=>cases h
 | stk=>cases h
section
variable {g:G} {T:Tb} {cf:Cf} {dt:Nat→FuncData} {C:Nat→List D→M D} {k:Nat} {X:Cx} {W:WX}
variable {a b c':Ex} {ea eb ec:Expr} {pos:Pos}
def VTru (g:G) (x:V) (H:Hp) (Q:Bool→Hp→Prop):Prop:=∃m L d b,HRel g m L H∧RelD g m H d x∧truD L d=some b∧Q b H
theorem VTru.of (hK:X.K=g.K) {x:V} {H:Hp} {Q:Bool→Hp→Prop} (h:VTru g x H Q):∃b,TruV X.K x H b∧Q b H:=by
 obtain ⟨m,L,d,b,hr,rd,e,q⟩:=h
 exact ⟨b,by rw [hK]; exact zfm hr rd e,q⟩
theorem zoN {f:Loc→M D} {σ:L2.St} {H:Hp} {Q:Bool→Hp→Prop} (h:tMT g W (fun ρ L=>(f ρ L).bind fun d L1=>must (truD L1 d) L1) σ H Q):tM g W f σ H fun x H1=>VTru g x H1 Q:=by
 obtain ⟨m,L, ρ,hr,lr,po⟩:=h
 refine ⟨m,L, ρ,hr,lr,(Post.bind (R:=RD g) po).imp fun v H1 ⟨m1,L1,d,e1,hr1,rd,po1⟩=>?_⟩
 cases q:truD L1 d with
 | none=>rw [q] at po1; exact po1.elim
 | some b=>
  rw [q] at po1
  exact ⟨m1,L1,d,b,hr1,rd,q,po1.at hr1 rfl⟩
theorem znP (c:CxOk g T cf dt C k X W) (hp:zcN ea=true) (ha:PE X ea (tM g W (evE T C a))):PT X ea (tMT g W (evB T C a)):=
 zhk (pt_truth ha (zhT hp)) fun σ H Q h=>by
  obtain ⟨m,L, ρ,hr,lr,po⟩:=zoN h
  exact ⟨m,L, ρ,hr,lr,po.imp fun v H1 z=>z.of c.K⟩
theorem zr7 (c:CxOk g T cf dt C k X W) (ha:PE X ea (tM g W (evE T C a))):PE X (.UnaryOp .Not ea pos) (tM g W (evE T C (.not a))):=by
 refine zaq (pe_notT ha) fun σ H Q ⟨m,L, ρ,hr,lr,po⟩=>?_
 refine ⟨m,L, ρ,hr,lr,(Post.bind (R:=RD g) po).imp fun v H1 ⟨m1,L1,d,e1,hr1,rd,po1⟩=>?_⟩
 cases q:truD L1 d with
 | none=>simp only [q] at po1; exact po1.elim
 | some b=>
  simp only [q] at po1
  exact ⟨b,by rw [c.K]; exact zfm hr1 rd q,po1.at hr1 (.bl _)⟩
theorem zmL (ρ:Loc) (L:MH):evB T C (.not a) ρ L=(evB T C a ρ L).bind fun b=>ret (!b):=by
 unfold evB
 simp only [evE]
 cases evE T C a ρ L with
 | ok d L1=>
  simp only [Res.bind]
  cases truD L1 d<;>rfl
 | exc c fs L1=>rfl
 | stk=>rfl
theorem zri (ha:PT X ea (tMT g W (evB T C a))):PT X (.UnaryOp .Not ea pos) (tMT g W (evB T C (.not a))):=by
 refine zhk (pt_not ha) fun σ H Q ⟨m,L, ρ,hr,lr,po⟩=>?_
 rw [zmL] at po
 refine ⟨m,L, ρ,hr,lr,(Post.bind (R:=REq) po).imp fun v H1 ⟨m1,L1,d,e1,hr1,rd,po1⟩=>?_⟩
 cases rd
 exact po1.at hr1 rfl
theorem zqB (c:CxOk g T cf dt C k X W) {rest:List Expr} (ha:PE X ea (tM g W (evE T C a))) (hb:PE X (.BoolOp .And (eb::rest) pos) (tM g W (evE T C b))):PE X (.BoolOp .And (ea::eb::rest) pos) (tM g W (evE T C (.and a b))):=by
 refine zaq (pe_andT ha hb) fun σ H Q ⟨m,L, ρ,hr,lr,po⟩=>?_
 refine ⟨m,L, ρ,hr,lr,(Post.bind (R:=RD g) po).imp fun v H1 ⟨m1,L1,d,e1,hr1,rd,po1⟩=>?_⟩
 cases q:truD L1 d with
 | none=>simp only [q] at po1; exact po1.elim
 | some b'=>
  refine ⟨b',by rw [c.K]; exact zfm hr1 rd q, ?_⟩
  cases b' with
  | true=>
   simp only [q] at po1
   exact ⟨m1,L1, ρ,hr1,lr.mono e1,po1⟩
  | false=>
   simp only [q] at po1
   exact po1.at hr1 rd
theorem m_or (c:CxOk g T cf dt C k X W) {rest:List Expr} (ha:PE X ea (tM g W (evE T C a))) (hb:PE X (.BoolOp .Or (eb::rest) pos) (tM g W (evE T C b))):PE X (.BoolOp .Or (ea::eb::rest) pos) (tM g W (evE T C (.or a b))):=by
 refine zaq (pe_orT ha hb) fun σ H Q ⟨m,L, ρ,hr,lr,po⟩=>?_
 refine ⟨m,L, ρ,hr,lr,(Post.bind (R:=RD g) po).imp fun v H1 ⟨m1,L1,d,e1,hr1,rd,po1⟩=>?_⟩
 cases q:truD L1 d with
 | none=>simp only [q] at po1; exact po1.elim
 | some b'=>
  refine ⟨b',by rw [c.K]; exact zfm hr1 rd q, ?_⟩
  cases b' with
  | false=>
   simp only [q] at po1
   exact ⟨m1,L1, ρ,hr1,lr.mono e1,po1⟩
  | true=>
   simp only [q] at po1
   exact po1.at hr1 rd
theorem znH (ρ:Loc) (L:MH):evB T C (.and a b) ρ L=(evB T C a ρ L).bind fun c=>if c then evB T C b ρ else ret false:=by
 unfold evB
 simp only [evE]
 cases evE T C a ρ L with
 | ok d L1=>
  simp only [Res.bind]
  cases q:truD L1 d with
  | none=>rfl
  | some c=>
   cases c with
   | true=>rfl
   | false=>
    show must (truD L1 d) L1=_
    rw [q]
    rfl
 | exc c fs L1=>rfl
 | stk=>rfl
theorem zq3 (ρ:Loc) (L:MH):evB T C (.or a b) ρ L=(evB T C a ρ L).bind fun c=>if c then ret true else evB T C b ρ:=by
 unfold evB
 simp only [evE]
 cases evE T C a ρ L with
 | ok d L1=>
  simp only [Res.bind]
  cases q:truD L1 d with
  | none=>rfl
  | some c=>
   cases c with
   | false=>rfl
   | true=>
    show must (truD L1 d) L1=_
    rw [q]
    rfl
 | exc c fs L1=>rfl
 | stk=>rfl
theorem zqN {rest:List Expr} (ha:PT X ea (tMT g W (evB T C a))) (hb:PW X (.BoolOp .And (eb::rest) pos) (tMT g W (evB T C b))):PW X (.BoolOp .And (ea::eb::rest) pos) (tMT g W (evB T C (.and a b))):=by
 refine zlV (pw_and ha hb) fun σ H Q ⟨m,L, ρ,hr,lr,po⟩=>?_
 rw [znH] at po
 refine ⟨m,L, ρ,hr,lr,(Post.bind (R:=REq) po).imp fun v H1 ⟨m1,L1,d,e1,hr1,rd,po1⟩=>?_⟩
 cases rd
 cases v with
 | true=>exact ⟨m1,L1, ρ,hr1,lr.mono e1,po1⟩
 | false=>exact po1.at hr1 rfl
theorem w_or {rest:List Expr} (ha:PT X ea (tMT g W (evB T C a))) (hb:PW X (.BoolOp .Or (eb::rest) pos) (tMT g W (evB T C b))):PW X (.BoolOp .Or (ea::eb::rest) pos) (tMT g W (evB T C (.or a b))):=by
 refine zlV (pw_or ha hb) fun σ H Q ⟨m,L, ρ,hr,lr,po⟩=>?_
 rw [zq3] at po
 refine ⟨m,L, ρ,hr,lr,(Post.bind (R:=REq) po).imp fun v H1 ⟨m1,L1,d,e1,hr1,rd,po1⟩=>?_⟩
 cases rd
 cases v with
 | false=>exact ⟨m1,L1, ρ,hr1,lr.mono e1,po1⟩
 | true=>exact po1.at hr1 rfl
theorem zjM {o:CmpOp} {ρ:Loc} {L L':MH} {d:D} (h:evE T C (.cmp o a b) ρ L=.ok d L'):∃k,d=.bl k:=by
 simp only [evE] at h
 obtain ⟨x,L1,_,h⟩:=zd5 h
 obtain ⟨y,L2,_,h⟩:=zd5 h
 cases q:cmpD L2 o x y with
 | none=>rw [q] at h; cases h
 | some k=>rw [q] at h; cases h; exact ⟨k,rfl⟩
theorem zhd {o p:CmpOp} {ρ:Loc} {L L':MH} {d:D} (h:evE T C (.chain o p a b c') ρ L=.ok d L'):∃k,d=.bl k:=by
 simp only [evE] at h
 obtain ⟨x,L1,_,h⟩:=zd5 h
 obtain ⟨y,L2,_,h⟩:=zd5 h
 cases q:cmpD L2 o x y with
 | none=>rw [q] at h; cases h
 | some k=>
  rw [q] at h
  cases k with
  | false=>cases h; exact ⟨_,rfl⟩
  | true=>
   obtain ⟨z,L3,_,h⟩:=zd5 h
   cases q:cmpD L3 p y z with
   | none=>rw [q] at h; cases h
   | some k=>rw [q] at h; cases h; exact ⟨k,rfl⟩
theorem znV {ir:Ex} (hb:∀ ρ L d L',evE T C ir ρ L=.ok d L'→∃k,d=.bl k) {σ:L2.St} {H:Hp} {Q:Bool→Hp→Prop} (h:tMT g W (evB T C ir) σ H Q):tM g W (evE T C ir) σ H fun x H1=>∃k,x=.bl k∧Q k H1:=by
 obtain ⟨m,L, ρ,hr,lr,po⟩:=h
 refine ⟨m,L, ρ,hr,lr,(Post.bindE (R:=RD g) po).imp fun v H1 ⟨m1,L1,d,e0,e1,hr1,rd,po1⟩=>?_⟩
 obtain ⟨k,rfl⟩:=hb _ _ _ _ e0
 cases rd
 exact ⟨k,rfl,po1.at hr1 rfl⟩
theorem zrz (c:CxOk g T cf dt C k X W) {o:CmpOp} (hn:zaS eb=true) (ha:PE X ea (tM g W (evE T C a))) (hb:PE X eb (tM g W (evE T C b))):PT X (.Compare ea [o] [eb] pos) (tMT g W (evB T C (.cmp o a b))):=
 zhk (pt_cmpR (zek c.K c.hu o) ha hb (zcg hn o)) fun σ H Q h=>two (fun _ _ _ _ z=>zj0 z) (znV (fun _ _ _ _ z=>zjM z) h)
theorem znE (c:CxOk g T cf dt C k X W) {o p:CmpOp} (hn:zaS ec=true) (ha:PE X ea (tM g W (evE T C a))) (hb:PE X eb (tM g W (evE T C b))) (hc:PE X ec (tM g W (evE T C c'))):
  PT X (.Compare ea [o,p] [eb,ec] pos) (tMT g W (evB T C (.chain o p a b c'))):=
 zhk (pt_chain (zek c.K c.hu o) (zek c.K c.hu p) ha hb hc (by show behindInMarks p ec=false; exact zcg hn p)) fun σ H Q h=>zin (znV (fun _ _ _ _ z=>zhd z) h)
theorem zrY {j:Nat} {pos':Pos} (ha:PE X ea (tM g W (evE T C a))):PT X (.Compare ea [.Is] [.Constant .none j pos'] pos) (tMT g W (evB T C (.isn a))):=by
 refine zhk (pt_cmp (pc_isN ha)) fun σ H Q h=>?_
 obtain ⟨m,L, ρ,hr,lr,po⟩:=znV (ir:=.isn a) (fun ρ L d L' z=>by
   simp only [evE] at z
   obtain ⟨x,L1,_,z⟩:=zd5 z
   cases z
   exact ⟨_,rfl⟩) h
 refine ⟨m,L, ρ,hr,lr,(Post.bind (R:=RD g) po).imp fun v H1 ⟨m1,L1,d,e1,hr1,rd,po1⟩=>?_⟩
 rw [zhf rd]
 exact po1.at hr1 (.bl _)
theorem zm6 (ρ:Loc) (L:MH):evE T C (.ife c' a b) ρ L=(evB T C c' ρ L).bind fun k=>if k then evE T C a ρ else evE T C b ρ:=by
 unfold evB
 simp only [evE]
 cases evE T C c' ρ L with
 | ok d L1=>
  simp only [Res.bind]
  cases truD L1 d with
  | none=>rfl
  | some c=>cases c<;>rfl
 | exc c fs L1=>rfl
 | stk=>rfl
theorem zrn (hc:PT X ec (tMT g W (evB T C c'))) (ha:PE X ea (tM g W (evE T C a))) (hb:PE X eb (tM g W (evE T C b))):PE X (.IfExp ec ea eb pos) (tM g W (evE T C (.ife c' a b))):=by
 refine zaq (pe_ifExp hc ha hb) fun σ H Q ⟨m,L, ρ,hr,lr,po⟩=>?_
 rw [zm6] at po
 refine ⟨m,L, ρ,hr,lr,(Post.bind (R:=REq) po).imp fun v H1 ⟨m1,L1,d,e1,hr1,rd,po1⟩=>?_⟩
 cases rd
 cases v with
 | true=>exact ⟨m1,L1, ρ,hr1,lr.mono e1,po1⟩
 | false=>exact ⟨m1,L1, ρ,hr1,lr.mono e1,po1⟩
end
end Mi
end
section
set_option maxHeartbeats 4000000
namespace Mi
open PySem PySem.Spec PyProof.Rows L2
section
variable {g:G} {T:Tb} {cf:Cf} {dt:Nat→FuncData} {C:Nat→List D→M D} {k:Nat} {X:Cx} {W:WX}
variable {a b i:Ex} {ea eb ei:Expr} {pos:Pos} {es:Exs} {xs:List Expr}
theorem zor:PA X [] (tMA g W (evEs T C .nil)):=zfl pa_nil fun σ H Q ⟨m,L, ρ,hr,lr,po⟩=>po.at hr .nil
theorem zmo (hs:noStar ea=true) (ha:PE X ea (tM g W (evE T C a))) (hr:PA X xs (tMA g W (evEs T C es))):PA X (ea::xs) (tMA g W (evEs T C (.cons a es))):=by
 refine zfl (pa_cons ha hr (zac hs)) fun σ H Q ⟨m,L, ρ,hr,lr,po⟩=>?_
 refine ⟨m,L, ρ,hr,lr,(Post.bind (R:=RD g) po).imp fun v H1 ⟨m1,L1,d,e1,hr1,rd,po1⟩=>?_⟩
 refine ⟨m1,L1, ρ,hr1,lr.mono e1,(Post.bind (R:=RDs g) po1).imp fun vs H2 ⟨m2,L2,ds,e2,hr2,rds,po2⟩=>?_⟩
 exact po2.at hr2 (.cons (rd.mono e2) rds)
theorem zfb {f:Loc→M (List D)} {sem:List D→M D} {σ:L2.St} {H:Hp} {Q:VK} (h:tM g W (fun ρ L=>(f ρ L).bind fun ds=>sem ds) σ H Q):
  tMA g W f σ H fun vs H1=>∃m1 L1 ds ρ,HRel g m1 L1 H1∧LRel g m1 H1 ρ σ∧RelDs g m1 H1 ds vs∧Post g (fun c d H'=>W c d σ H') (RD g) m1 H1 (sem ds L1) Q:=by
 obtain ⟨m,L, ρ,hr,lr,po⟩:=h
 exact ⟨m,L, ρ,hr,lr,(Post.bind (R:=RDs g) po).imp fun vs H1 ⟨m1,L1,ds,e1,hr1,rds,po1⟩=>⟨m1,L1,ds, ρ,hr1,lr.mono e1,rds,po1⟩⟩
theorem zrZ {j:Nat} (ha:PA X xs (tMA g W (evEs T C es))):PE X (.Tuple xs j pos) (tM g W (evE T C (.tup es))):=by
 refine zaq (pe_tup ha) fun σ H Q h=>?_
 obtain ⟨m,L, ρ,hr,lr,po⟩:=zfb (sem:=fun ds=>if zad ds.length then ret (.tup ds) else zas) h
 refine ⟨m,L, ρ,hr,lr,po.imp fun vs H1 ⟨m1,L1,ds, ρ',hr1,lr1,rds,po1⟩=>?_⟩
 split at po1
 ·rename_i q
  exact ⟨by rw [← rds.length]; exact okB q,zcT hr1 rds po1⟩
 ·exact po1.elim
theorem zq6 (ha:PA X xs (tMA g W (evEs T C es))):PE X (.List xs pos) (tM g W (evE T C (.lst es))):=by
 refine zaq (pe_lst ha) fun σ H Q h=>?_
 obtain ⟨m,L, ρ,hr,lr,po⟩:=zfb (sem:=fun ds=>if zad ds.length then newL ds else zas) h
 refine ⟨m,L, ρ,hr,lr,po.imp fun vs H1 ⟨m1,L1,ds, ρ',hr1,lr1,rds,po1⟩=>?_⟩
 split at po1
 ·rename_i q
  exact ⟨by rw [← rds.length]; exact okB q,zbz hr1 rds po1⟩
 ·exact po1.elim
theorem znN {m:List Addr} {L:MH} {H:Hp} {d e r:D} {x y:V} (hr:HRel g m L H) (rd:RelD g m H d x) (re:RelD g m H e y) (h:ixD L d e=some r):
  (∃p vs j v,x=.ref p∧y=.int j∧(SqL g.K H p vs∨SqT g.K H p vs)∧atI vs j=some v∧RelD g m H r v)∨∃z j c,x=.str z∧y=.int j∧z.length≤sizeLine∧atI z.cps.toList j=some c∧r=.str ⟨#[c]⟩:=by
 cases re with
 | int j=>
  have seq:(seqD L d).bind (fun xs=>atI xs j)=some r→∃p vs j' v,x=.ref p∧V.int j=.int j'∧(SqL g.K H p vs∨SqT g.K H p vs)∧atI vs j'=some v∧RelD g m H r v:=fun h=>by
   cases e1:seqD L d with
   | none=>rw [e1] at h; cases h
   | some xs=>
    rw [e1] at h
    obtain ⟨p,vs,rfl,h1,h2⟩:=zbq hr rd e1
    obtain ⟨v,h3,h4⟩:=zm7 h2 (show atI xs j=some r from h)
    exact ⟨p,vs,j,v,rfl,rfl,h1,h3,h4⟩
  cases rd with
  | str s=>
   simp only [ixD] at h
   split at h
   ·rename_i q
    cases e1:atI s.cps.toList j with
    | none=>rw [e1] at h; cases h
    | some c=>
     rw [e1] at h
     cases h
     exact .inr ⟨s,j,c,rfl,rfl,okB q,e1,rfl⟩
   ·cases h
  | _=>exact .inl (seq h)
 | _=>cases h
theorem m_ix (c:CxOk g T cf dt C k X W) (hn:zbc ei=true) (ha:PE X ea (tM g W (evE T C a))) (hi:PE X ei (tM g W (evE T C i))):PE X (.Subscript ea ei pos) (tM g W (evE T C (.ix a i))):=by
 refine zaq (pe_ix ix_seq ha hi (zjh hn)) fun σ H Q h=>two (sem:=fun d e L=>must (ixD L d e) L) (fun x y H Q z=>?_) h
 obtain ⟨E,m,L,d,e,hr,rd,re,po⟩:=z
 cases q:ixD L d e with
 | none=>simp only [q] at po; exact po.elim
 | some r=>
  simp only [q] at po
  rcases znN hr rd re q with ⟨p,vs,j,v,rfl,rfl,h1 | h1,h2,h3⟩ | ⟨z,j,c',rfl,rfl,h1,h2,rfl⟩
  ·exact .inl ⟨p,vs,j,v,rfl,rfl,by rw [c.K]; exact h1,h2,po.at hr h3⟩
  ·exact .inr (.inl ⟨p,vs,j,v,rfl,rfl,by rw [c.K]; exact h1,h2,po.at hr h3⟩)
  ·exact .inr (.inr ⟨z,j,c',rfl,rfl,h1,h2,po.at hr (.str _)⟩)
def tMO (g:G) (W:WX) (f:Loc→M (Option Int)):TO:=fun σ H Q=>∃m L ρ,HRel g m L H∧LRel g m H ρ σ∧Post g (fun c d H'=>W c d σ H') REq m H (f ρ L) Q
theorem zmm {e:Option Expr} {t t':TO} (h:PO X e t) (q:∀ σ H Q,t' σ H Q→t σ H Q):PO X e t':=⟨fun pins s σ H Q I z=>h.run pins s σ H Q I (q σ H Q z)⟩
theorem zpD:PO X none (tMO g W (evO T C .none)):=zmm po_none fun σ H Q ⟨m,L, ρ,hr,lr,po⟩=>po.at hr rfl
theorem zqs (ha:PE X ea (tM g W (evE T C a))):PO X (some ea) (tMO g W (evO T C (.some a))):=by
 refine zmm (po_some ha) fun σ H Q ⟨m,L, ρ,hr,lr,po⟩=>?_
 refine ⟨m,L, ρ,hr,lr,(Post.bind (R:=RD g) po).imp fun v H1 ⟨m1,L1,d,e1,hr1,rd,po1⟩=>?_⟩
 cases rd<;>first | exact po1.elim | skip
 exact ⟨_,rfl,po1.at hr1 rfl⟩
theorem m_sl (c:CxOk g T cf dt C k X W) {lo hi:Ox} {elo ehi:Option Expr} {p2:Pos} (ha:PE X ea (tM g W (evE T C a))) (hl:PO X elo (tMO g W (evO T C lo))) (hh:PO X ehi (tMO g W (evO T C hi))):
  PE X (.Subscript ea (.Slice elo ehi none p2) pos) (tM g W (evE T C (.sl a lo hi))):=by
 refine zaq (pe_slice (SlR.or C8.sl_txt (SlR.or sl_tupA sl_list)) ha hl hh) fun σ H Q ⟨m,L, ρ,hr,lr,po⟩=>?_
 refine ⟨m,L, ρ,hr,lr,(Post.bind (R:=RD g) po).imp fun v H1 ⟨m1,L1,d,e1,hr1,rd,po1⟩=>?_⟩
 refine ⟨m1,L1, ρ,hr1,lr.mono e1,(Post.bind (R:=REq) po1).imp fun l H2 ⟨m2,L2,l',e2,hr2,el,po2⟩=>?_⟩
 cases el
 refine ⟨m2,L2, ρ,hr2,(lr.mono e1).mono e2,(Post.bind (R:=REq) po2).imp fun h H3 ⟨m3,L3,h',e3,hr3,eh,po3⟩=>?_⟩
 cases eh
 have rd3:=(rd.mono e2).mono e3
 have lst:∀ {zs:List D},zaD L3 d=some zs→Post g (fun c d H'=>W c d σ H') (RD g) m3 H3 (newL (cutD zs l h) L3) Q→rSlL X.K v l h H3 Q:=fun {zs} q po=>by
  obtain ⟨p,vs,rfl,h1,h2⟩:=zan hr3 rd3 q
  exact ⟨p,vs,rfl,by rw [c.K]; exact h1,zbz hr3 (zhK h2 l h) po⟩
 cases rd3 with
 | str s=>
  simp only [slD] at po3
  split at po3
  ·rename_i q
   exact .inl ⟨s,rfl,okB q,po3.at hr3 (.str _)⟩
  ·exact po3.elim
 | @tup zs vs p h1 h2=>
  refine .inr (.inl ⟨p,vs,rfl,by rw [c.K]; exact h1,fun hw=>?_,fun _=>zcT hr3 (zhK h2 l h) po3⟩)
  refine po3.at hr3 (.tup h1 ?_)
  have e:cutV vs l h=vs:=by
   unfold cutV
   rw [hw.1,hw.2,List.drop_zero,Nat.sub_zero,List.take_length]
  rw [← e]
  exact zhK h2 l h
 | ref hm=>
  simp only [slD] at po3
  split at po3
  ·rename_i q
   exact .inr (.inr (lst q po3))
  ·exact po3.elim
 | fzl h1 h2=>
  simp only [slD] at po3
  split at po3
  ·rename_i q
   exact .inr (.inr (lst q po3))
  ·exact po3.elim
 | _=>exact po3.elim
theorem zl1 {kws:List Keyword} {t t':TA} (h:PK X kws t) (q:∀ σ H Q,t' σ H Q→t σ H Q):PK X kws t':=⟨fun pos pins s σ H Q I z=>h.run pos pins s σ H Q I (q σ H Q z)⟩
theorem zrV:PK X [] (tMA g W (evEs T C .nil)):=zl1 pk_nil fun σ H Q ⟨m,L, ρ,hr,lr,po⟩=>po.at hr .nil
theorem zqM {nm:Option Str} {kpos:Pos} {kws:List Keyword} (ha:PE X ea (tM g W (evE T C a))) (hr:PK X kws (tMA g W (evEs T C es))):PK X (⟨nm,ea,kpos⟩::kws) (tMA g W (evEs T C (.cons a es))):=by
 refine zl1 (pk_cons ha hr) fun σ H Q ⟨m,L, ρ,hr,lr,po⟩=>?_
 refine ⟨m,L, ρ,hr,lr,(Post.bind (R:=RD g) po).imp fun v H1 ⟨m1,L1,d,e1,hr1,rd,po1⟩=>?_⟩
 refine ⟨m1,L1, ρ,hr1,lr.mono e1,(Post.bind (R:=RDs g) po1).imp fun vs H2 ⟨m2,L2,ds,e2,hr2,rds,po2⟩=>?_⟩
 exact po2.at hr2 (.cons (rd.mono e2) rds)
theorem zlJ (c:CxOk g T cf dt C k X W) {f:Nat} {pins:List (Addr×Obj)} {σ:L2.St} {H:Hp} {s:Shared} {Q:VK} {m:List Addr} {L:MH} {ds zs:List D} {vs ws:List V} {us uz:List Value} {ks:List Nat} (hks:ks.Nodup)
  (I:Inv X pins σ H s) (hr:HRel g m L H) (r1:RelDs g m H ds vs) (v1:Vals vs us) (r2:RelDs g m H zs ws) (v2:Vals ws uz) (po:Post g (fun c d H'=>W c d σ H') (RD g) m H (zaI T C f ds ks zs L) Q):
  wpAny (model X.prog X.w) X.A (call (.ref (g.gad f)) us ((ks.map g.an).zip uz)) (EP X pins σ Q) X.xe s:=by
 cases e:T.fn f with
 | none=>
  unfold zaI at po
  rw [e] at po
  exact po.elim
 | some fd=>exact zj8 c.tk (c.room.mono (Nat.le_succ _)) (c.fns f fd e) hks I hr r1 v1 r2 v2 po
theorem zng (c:CxOk g T cf dt C k X W) {f:Nat} {fd:Fd} (e:T.fn f=some fd):PySem.W.keepIn X.K (.ref (g.gad f))=true:=(c.fns f fd e).keep
theorem zdn {env:Env} (pos:Pos):∀ {kws:List Keyword} {ks:List Str},zat kws=some ks→(backToKw pos (keywordEach kws env)).all (·.1.isSome)=true∧(backToKw pos (keywordEach kws env)).filterMap (·.1)=ks∧(backToKw pos (keywordEach kws env)).any (·.1.isNone)=false
 | [],ks,h=>by cases h; exact ⟨rfl,rfl,rfl⟩
 | ⟨some n,e,p⟩::r,ks,h=>by
  simp only [zat] at h
  cases q:zat r with
  | none=>rw [q] at h; cases h
  | some ks'=>
   rw [q] at h
   cases h
   obtain ⟨h1,h2,h3⟩:=zdn pos (kws:=r) (env:=env) q
   refine ⟨?_, ?_, ?_⟩
   ·show (true&&(backToKw pos (keywordEach r env)).all (·.1.isSome))=true
    rw [h1]
    rfl
   ·show n::(backToKw pos (keywordEach r env)).filterMap (·.1)=n::ks'
    rw [h2]
   ·show (false||(backToKw pos (keywordEach r env)).any (·.1.isNone))=false
    rw [h3]
    rfl
 | ⟨none,_,_⟩::_,_,h=>by cases h
theorem zj5 {f f2:Loc→M (List D)} {sem:List D→List D→M D} {σ:L2.St} {H:Hp} {Q:VK} (h:tM g W (fun ρ L=>(f ρ L).bind fun ds L1=>(f2 ρ L1).bind fun zs=>sem ds zs) σ H Q):
  tMA g W f σ H fun vs H1=>tMA g W f2 σ H1 fun ws H2=>∃m2 L2 ds zs,HRel g m2 L2 H2∧RelDs g m2 H2 ds vs∧RelDs g m2 H2 zs ws∧Post g (fun c d H'=>W c d σ H') (RD g) m2 H2 (sem ds zs L2) Q:=by
 obtain ⟨m,L, ρ,hr,lr,po⟩:=h
 refine ⟨m,L, ρ,hr,lr,(Post.bind (R:=RDs g) po).imp fun vs H1 ⟨m1,L1,ds,e1,hr1,rds,po1⟩=>?_⟩
 exact ⟨m1,L1, ρ,hr1,lr.mono e1,(Post.bind (R:=RDs g) po1).imp fun ws H2 ⟨m2,L2,zs,e2,hr2,rzs,po2⟩=>⟨m2,L2,ds,zs,hr2,rds.mono e2,rzs,po2⟩⟩
theorem zhh (c:CxOk g T cf dt C k X W) {f:Value} {first:List Value} {ks:List Nat} {kes:Exs} {kws:List Keyword} (kp:PySem.W.keepIn X.K f=true) (hst:xs.all noStar=true) (hkn:zat kws=some (ks.map cf.an))
  (hx:xs=[]→es=.nil) (hkx:kws=[]→kes=.nil∧ks=[]) (ha:PA X xs (tMA g W (evEs T C es))) (hk:PK X kws (tMA g W (evEs T C kes))) {pins:List (Addr×Obj)} {σ:L2.St} {H:Hp} {s:Shared} {Q:VK} (I:Inv X pins σ H s)
  {Φ:List V→List V→Hp→Prop} (zz:tMA g W (evEs T C es) σ H fun vs H2=>tMA g W (evEs T C kes) σ H2 fun ws H3=>Φ vs ws H3)
  (fin:∀(us uz:List Value) (vs ws:List V) (s3:Shared) (H3:Hp),Vals vs us→Vals ws uz→Inv X pins σ H3 s3→Φ vs ws H3→wpAny (model X.prog X.w) X.A (call f (first++us) ((ks.map g.an).zip uz)) (EP X pins σ Q) X.xe s3):
  wpAny (model X.prog X.w) X.A (callWith pos f first (backTo pos (starEach xs X.env)) (backToKw pos (keywordEach kws X.env))) (EP X pins σ Q) X.xe s:=by
 obtain ⟨k1,k2,k3⟩:=zdn (env:=X.env) pos hkn
 have nilA:∀ {H:Hp} {R:List V→Hp→Prop},tMA g W (evEs T C .nil) σ H R→R [] H:=fun {H R} ⟨m,L, ρ,hr,lr,po⟩=>po.at (L:=L) (v:=[]) hr .nil
 cases kws with
 | nil=>
  obtain ⟨rfl,rfl⟩:=hkx rfl
  cases xs with
  | nil=>
   have e0:=hx rfl
   subst e0
   exact PySem.W.callWith_K0 I.kIn kp (fin [] [] [] [] s H .nil .nil I (nilA (nilA zz)))
  | cons x xs=>
   rw [List.all_cons,Bool.and_eq_true] at hst
   exact PySem.W.callWith_K (h₀:=X.base) I.ok.mod.kin kp (thn (ha.run pos pins s σ H _ I zz) fun us s2 ⟨vs,H2,I2,r,q2⟩=>⟨I2.kIn,fin us [] vs [] s2 H2 r .nil I2 (nilA q2)⟩) (zac hst.1) (zar pos hst.2)
 | cons kw kws=>
  cases xs with
  | nil=>
   have e0:=hx rfl
   subst e0
   refine PySem.W.callWith_KW0 (h₀:=X.base) I.ok.mod.kin kp k1 ?_ (by rw [k3]; rfl)
   refine thn (hk.run pos pins s σ H _ I (nilA zz)) fun ws s2 ⟨zs,H2,I2,rz,q2⟩=>⟨I2.kIn, ?_⟩
   rw [k2, ← c.lk.an]
   exact fin [] ws [] zs s2 H2 .nil rz I2 q2
  | cons x xs=>
   have hst':=hst
   rw [List.all_cons,Bool.and_eq_true] at hst
   refine PySem.W.callWith_KW (h₀:=X.base) I.ok.mod.kin kp k1 (thn (ha.run pos pins s σ H _ I zz) fun us s2 ⟨vs,H2,I2,r,q2⟩=>?_) (by rw [k3,zar pos hst']; rfl) (zac hst.1)
   refine thn (hk.run pos pins s2 σ H2 _ I2 q2) fun ws s3 ⟨zs,H3,I3,rz,q3⟩=>⟨I3.kIn, ?_⟩
   rw [k2, ← c.lk.an]
   exact fin us ws vs zs s3 H3 r rz I3 q3
theorem zo6 (c:CxOk g T cf dt C k X W) {f:Nat} {p:Pos} {kws:List Keyword} {ks:List Nat} {kes:Exs} (hf:(T.fn f).isSome=true) (hgl:cf.glob.contains f=true) (hg:Gl X (cf.nm.fn f)) (hdb:(cf.nm.fn f==("__debug__":Str))=false)
  (hst:xs.all noStar=true) (hks:ks.Nodup) (hkn:zat kws=some (ks.map cf.an)) (hx:xs=[]→es=.nil) (hkx:kws=[]→kes=.nil∧ks=[]) (ha:PA X xs (tMA g W (evEs T C es))) (hk:PK X kws (tMA g W (evEs T C kes))):
  PE X (.Call (.Name (cf.nm.fn f) p) xs kws pos) (tM g W (evE T C (.call f es ks kes))):=by
 refine ⟨fun pins s σ H Q I h=>?_⟩
 obtain ⟨fd,e⟩:=Option.isSome_iff_exists.mp hf
 have z:=zj5 (sem:=fun ds zs=>zaI T C f ds ks zs) h
 refine wpAny_Call_Name_kw (ld_glob I hg (c.lk.glob f hgl) ?_ hdb)
 exact zhh c (zng c e) hst hkn hx hkx ha hk I z fun us uz vs ws s3 H3 r rz I3 ⟨m2,L2,ds,zs,hr2,rds,rzs,po2⟩=>zlJ c hks I3 hr2 rds r rzs rz po2
end
end Mi
end
section
set_option maxHeartbeats 4000000
namespace Mi
open PySem PySem.Spec PyProof.Rows L2
theorem zdw:∀ {es:List Expr} {env:Env} (pos:Pos),es.all noStar=true→(backTo pos (starEach es env)).all (fun x=>!x.1)=true
 | [],_,_,_=>rfl
 | e::es,env,pos,h=>by
  rw [List.all_cons,Bool.and_eq_true] at h
  rw [zac h.1]
  show (true&&(backTo pos (starEach es env)).all (fun x=>!x.1))=true
  rw [zdw pos h.2]
  rfl
theorem zdy {o:Expr} {m:Str} {apos pos:Pos} {es:List Expr} {kws:List Keyword} {ks:List Str} {env:Env} (ho:zbV o=true) (hst:es.all noStar=true) (hkn:zat kws=some ks) (hfew:fewB es kws apos pos=true):
  eval (.Call (.Attribute o m apos) es kws pos) env=(do
    let ov ← eval o env
    standAt apos.atName
    let (f,first) ← holding [ov] (getMethod ov m (plainOf o env))
    callWith pos f first (backTo pos (starEach es env)) (backToKw pos (keywordEach kws env))):=by
 obtain ⟨k1,k2,k3⟩:=zdn (env:=env) pos hkn
 obtain ⟨f1,f2⟩:=Bool.and_eq_true_iff.mp hfew
 have hf:methodCallForm (es.length+kws.length) (backTo pos (starEach es env)) (backToKw pos (keywordEach kws env))=true:=by
  unfold methodCallForm
  rw [zdw pos hst,k1]
  have q:=of_decide_eq_true f1
  simp only [Bool.true_and,decide_eq_true_eq]
  split<;>omega
 rw [arm_eval_Call,zcO ho]
 refine congrArg _ (funext fun ov=>?_)
 rw [mcall_line hf f2]
section
variable {g:G} {T:Tb} {cf:Cf} {dt:Nat→FuncData} {C:Nat→List D→M D} {k:Nat} {X:Cx} {W:WX}
variable {a b i o:Ex} {ea eb eo:Expr} {pos apos:Pos} {es:Exs} {xs:List Expr}
theorem zhb {m:List Addr} {L:MH} {H:Hp} {d:D} {x:V} {c:Nat} {fs:List (Nat×D)} (hr:HRel g m L H) (rd:RelD g m H d x) (h:zdf L d=some (c,fs)):
  ∃n p dx vfs,d=.ref n∧x=.ref p∧m[n]?=some p∧L[n]?=some (.ins c fs)∧H p=some (.ins (g.cad c) dx vfs)∧RelF g m H fs vfs:=by
 cases rd with
 | @ref n p hm=>
  simp only [zdf] at h
  split at h
  ·rename_i c' fs' q
   cases h
   obtain ⟨a,dx,vfs,h1,h2,h3⟩:=hr.insAt q
   rw [hm] at h1
   cases h1
   exact ⟨n,p,dx,vfs,rfl,rfl,hm,q,h2,h3⟩
  ·cases h
 | _=>cases h
end
end Mi
end
section
set_option maxHeartbeats 4000000
namespace Mi
open PySem PySem.Spec PyProof.Rows L2
section
variable {g:G} {T:Tb} {cf:Cf} {dt:Nat→FuncData} {C:Nat→List D→M D} {k:Nat} {X:Cx} {W:WX}
variable {a b i o:Ex} {ea eb eo:Expr} {pos apos p:Pos} {es:Exs} {xs:List Expr}
theorem zj2 (b:Bi):bootBuiltins (biN b)=some (biV b):=by
 cases b
 ·exact boot_len
 ·exact boot_all
 ·exact boot_any
 ·exact boot_abs
 ·exact boot_int
 ·exact boot_list
 ·exact boot_tuple
 ·exact boot_str
 ·exact boot_sum
theorem zrR (b:Bi):biN b≠"__name__":=by cases b<;>decide
theorem zr6 (b:Bi):(biN b==("__debug__":Str))=false:=by cases b<;>decide
theorem m_bi (c:CxOk g T cf dt C k X W) {b:Bi} (hg:Gl X (biN b)) (hm:cf.blt.contains (biN b)=true) (hne:noStar ea=true) (hst:xs.all noStar=true) (ha:PA X (ea::xs) (tMA g W (evEs T C es))):
  PE X (.Call (.Name (biN b) p) (ea::xs) [] pos) (tM g W (evE T C (.bi b es))):=by
 have key:PE X (.Call (.Name (biN b) p) (ea::xs) [] pos) (tCB (zp7 g (biD b)) (tMA g W (evEs T C es))):=by
  have hv:=zj2 b
  have hc:=zlx (X:=X) c.K c.calm b
  have m0:=c.lk.blt _ hm
  have h1:=zrR b
  have h2:=zr6 b
  revert hv hc
  generalize biV b=v
  intro hv hc
  cases v with
  | builtin id=>exact pe_callB hc hg m0 hv ha h1 h2 (zac hne) (zar pos hst)
  | type id=>exact pe_callTy hc hg m0 hv ha h1 h2 (zac hne) (zar pos hst)
  | _=>
   exfalso
   cases b<;>(have:=(zj2 _).symm.trans hv; cases this)
 refine zaq key fun σ H Q h=>?_
 obtain ⟨m,L, ρ,hr,lr,po⟩:=zfb (sem:=fun ds=>biD b ds) h
 exact ⟨m,L, ρ,hr,lr,po.imp fun vs H1 ⟨m1,L1,ds, ρ',hr1,lr1,rds,po1⟩=>⟨_,m1,L1,ds,hr1,rds,po1⟩⟩
def VMt (g:G) (b:Bm):V→List V→Hp→VK→Prop:=fun x xs H Q=>∃E m L d ds,HRel g m L H∧RelD g m H d x∧RelDs g m H ds xs∧Post g E (RD g) m H (bmD b d ds L) Q
def bmI:Bm→String
 | .join=>"str.join" | .append=>"list.append" | .insert=>"list.insert" | .split=>"str.split" | .part=>"str.partition" | .starts=>"str.startswith" | .ends=>"str.endswith" | .ext=>"list.extend" | .lindex=>"list.index"
def bmT:Bm→String
 | .join=>"str" | .append=>"list" | .insert=>"list" | .split=>"str" | .part=>"str" | .starts=>"str" | .ends=>"str" | .ext=>"list" | .lindex=>"list"
theorem zme {m:List Addr} {H:Hp}:∀ {ds:List D} {vs:List V},RelDs g m H ds vs→∀(j:Nat) (d:D),ds[j]?=some d→∃v,vs[j]?=some v∧RelD g m H d v
 | _,_,.nil,j,d,h=>by simp at h
 | _,_,.cons r rs,0,d,h=>by
  cases (show some _=some d from h)
  exact ⟨_,rfl,r⟩
 | _,_,.cons r rs,j+1,d,h=>zme rs j d h
theorem zko {m:List Addr} {H:Hp}:∀ {ds:List D} {vs:List V},RelDs g m H ds vs→∀(j:Nat) (v:V),vs[j]?=some v→∃d,ds[j]?=some d∧RelD g m H d v
 | _,_,.nil,j,d,h=>by simp at h
 | _,_,.cons r rs,0,d,h=>by
  cases (show some _=some d from h)
  exact ⟨_,rfl,r⟩
 | _,_,.cons r rs,j+1,d,h=>zko rs j d h
theorem zoe {m:List Addr} {H:Hp} {d:D} {x:V} {ds:List D} {vs:List V} {j:Nat} (rd:RelD g m H d x) (fd:zbE d=true) (rs:RelDs g m H ds vs) (fs:ds.all zbE=true) (e:ds.findIdx? (fun z=>eqf z d)=some j):
  ∃z w,ds[j]?=some z∧vs[j]?=some w∧eqV w x=true∧∀(i:Nat) (w':V),i < j→vs[i]?=some w'→eqV w' x=false:=by
 obtain ⟨hj,p1,p2⟩:=List.findIdx?_eq_some_iff_getElem.mp e
 have hz:=List.getElem?_eq_getElem hj
 obtain ⟨w,h1,h2⟩:=zme rs j _ hz
 have fl:∀z∈ds,zbE z=true:=fun z hz=>List.all_eq_true.mp fs z hz
 refine ⟨_,w,hz,h1, ?_,fun i w' hi hw=>?_⟩
 ·rw [zhP h2 rd (fl _ (List.getElem_mem hj)) fd]
  exact p1
 ·obtain ⟨z',k1,k2⟩:=zko rs i w' hw
  obtain ⟨hi2,k3⟩:=List.getElem?_eq_some_iff.mp k1
  rw [zhP k2 rd (fl _ (List.mem_of_getElem? k1)) fd, ← k3]
  exact Bool.eq_false_iff.mpr (p2 i hi)
theorem zrv (hK:X.K=g.K) (hu:X.A.units+65 < cLine) (b:Bm):MtR X (bmI b) (VMt g b):=by
 intro pins s σ H x xs v us Q I rx rs h
 obtain ⟨E,m,L,d,ds,hr,rd,rr,po⟩:=h
 unfold bmD at po
 simp only at po
 split at po
 ·split at po
  ·rename_i d' _ ys e
   split at po
   ·rename_i q
    cases rd
    cases rr with
    | cons r1 r2=>
     cases r2
     cases e1:seqD L d' with
     | none=>rw [e1] at e; cases e
     | some zs=>
      rw [e1] at e
      obtain ⟨a,vs,rfl,h1,h2⟩:=zbq hr r1 e1
      have ev:=zil h2 e
      subst ev
      exact mt_join pins s σ H _ _ v us Q I rx rs ⟨_,a,ys,rfl,rfl,by rw [hK]; exact h1,of_decide_eq_true q,po.at hr (.str _)⟩
   ·exact po.elim
  ·exact po.elim
 ·split at po
  ·rename_i ys e
   split at po
   ·rename_i q
    cases rr with
    | cons r1 r2=>
     cases r2
     cases rd with
     | ref hm=>
      obtain ⟨a,vs,h1,h2,h3⟩:=hr.lstAt e
      rw [hm] at h1
      cases h1
      have hl:=h3.length
      refine mt_append pins s σ H _ _ v us Q I rx rs ⟨_,vs,_,rfl,rfl,h2,by rw [← hl,zbB]; exact of_decide_eq_true q, ?_⟩
      refine zgw hr hm h2 .non ?_ po
      exact h3.append (.cons r1 .nil)
   ·exact po.elim
  ·exact po.elim
 ·split at po
  ·rename_i ys e
   split at po
   ·rename_i q
    simp only [Bool.and_eq_true,decide_eq_true_eq] at q
    cases rr with
    | cons r1 r2=>
     cases r2 with
     | cons r2 r3=>
      cases r3
      cases r1
      cases rd with
      | ref hm=>
       obtain ⟨a,vs,h1,h2,h3⟩:=hr.lstAt e
       rw [hm] at h1
       cases h1
       have hl:=h3.length
       refine mt_insert pins s σ H _ _ v us Q I rx rs ⟨_,vs,_,_,rfl,rfl,h2,by rw [← hl,zbB]; exact q.1.1,q.1.2,q.2, ?_⟩
       refine zgw hr hm h2 .non ?_ po
       exact ((h3.take _).append (.cons r2 .nil)).append (h3.drop _)
   ·exact po.elim
  ·exact po.elim
 ·split at po
  ·rename_i q
   obtain ⟨q1,q2⟩:=Bool.and_eq_true_iff.mp q
   cases rd
   cases rr with
   | cons r1 r2=>
    cases r2
    cases r1
    refine mt_split pins s σ H _ _ v us Q I rx rs ⟨_,_,rfl,rfl,of_decide_eq_true q1,okB q2, ?_⟩
    exact zbz hr (zgQ _) po
  ·exact po.elim
 ·split at po
  ·rename_i q
   obtain ⟨q1,q2⟩:=Bool.and_eq_true_iff.mp q
   cases rd
   cases rr with
   | cons r1 r2=>
    cases r2
    cases r1
    refine mt_partition pins s σ H _ _ v us Q I rx rs ⟨_,_,rfl,rfl,of_decide_eq_true q1,okB q2, ?_⟩
    exact zcT hr (.cons (.str _) (.cons (.str _) (.cons (.str _) .nil))) po
  ·exact po.elim
 ·split at po
  ·rename_i ys zs e1 e2
   split at po
   ·rename_i q
    cases rr with
    | cons r1 r2=>
     cases r2
     cases rd with
     | ref hm=>
      cases r1 with
      | ref hk=>
       obtain ⟨a,vs,h1,h2,h3⟩:=hr.lstAt e1
       obtain ⟨a2,vs2,k1,k2,k3⟩:=hr.lstAt e2
       rw [hm] at h1
       cases h1
       rw [hk] at k1
       cases k1
       refine mt_extend pins s σ H _ _ v us Q I rx rs ⟨_,_,vs,vs2,rfl,rfl,h2,k2,by rw [← h3.length, ← k3.length]; exact okB q, ?_⟩
       refine zgw hr hm h2 .non ?_ po
       exact h3.append k3
   ·exact po.elim
  ·exact po.elim
 ·split at po
  ·rename_i ys e
   split at po
   ·rename_i q
    obtain ⟨q1,q2⟩:=Bool.and_eq_true_iff.mp q
    split at po
    ·rename_i j ej
     cases rr with
     | cons r1 r2=>
      cases r2
      obtain ⟨a,vs,rfl,h1,h2⟩:=zan hr rd e
      obtain ⟨z,w,g1,g2,g3,g4⟩:=zoe r1 q1 h2 q2 ej
      exact mt_index pins s σ H _ _ v us Q I rx rs ⟨a,vs,_,j,w,rfl,rfl,by rw [hK]; exact h1,zgy r1 q1,zff h2 q2,g2,g3,g4,po.at hr (.int _)⟩
    ·exact po.elim
   ·split at po
    ·rename_i zs z d1 d2
     split at po
     ·rename_i q
      obtain ⟨q1,q2⟩:=Bool.and_eq_true_iff.mp q
      split at po
      ·rename_i j ej
       cases rr with
       | cons r1 r2=>
        cases r2
        obtain ⟨a,vs,rfl,h1,h2⟩:=zan hr rd e
        obtain ⟨hj,p1,p2⟩:=List.findIdx?_eq_some_iff_getElem.mp ej
        refine mt_indexD hu pins s σ H _ _ v us Q I rx rs ⟨a,_,z,zs,j,zs[j],rfl,rfl,by rw [hK]; exact zc1 hr _ _ _ _ d1 rd,by rw [hK]; exact zc1 hr _ _ _ _ d2 r1,q2,q1,List.getElem?_eq_getElem hj,p1,fun m z' hm hz=>?_,po.at hr (.int _)⟩
        obtain ⟨hi2,k3⟩:=List.getElem?_eq_some_iff.mp hz
        rw [← k3]
        exact Bool.eq_false_iff.mpr (p2 m hm)
      ·exact po.elim
     ·exact po.elim
    ·exact po.elim
  ·exact po.elim
 ·cases rd
  cases rr with
  | cons r1 r2=>
   cases r2
   cases r1
   exact mt_startswith pins s σ H _ _ v us Q I rx rs ⟨_,_,rfl,rfl,po.at hr (.bl _)⟩
 ·cases rd
  cases rr with
  | cons r1 r2=>
   cases r2
   cases r1
   exact mt_endswith pins s σ H _ _ v us Q I rx rs ⟨_,_,rfl,rfl,po.at hr (.bl _)⟩
 ·exact po.elim
theorem znf {m:List Addr} {L:MH} {H:Hp} {d:D} {x:V} (rd:RelD g m H d x) (h:zb3 L d=some .str):tyV g.K "str" x H:=by
 cases rd with
 | str z=>exact rfl
 | ref h1=>
  simp only [zb3] at h
  split at h<;>cases h
 | _=>cases h
theorem zm3 {m:List Addr} {L:MH} {H:Hp} {d:D} {x:V} (hr:HRel g m L H) (rd:RelD g m H d x) (h:zb3 L d=some .lst):tyV g.K "list" x H:=by
 cases rd with
 | ref h1=>
  simp only [zb3] at h
  split at h
  ·rename_i xs e
   obtain ⟨a,vs,h2,h3,h4⟩:=hr.lstAt e
   rw [h1] at h2
   cases h2
   exact .inl ⟨rfl,vs,.inl (.inl h3)⟩
  ·cases h
  ·cases h
 | fzl h1 h2=>exact .inl ⟨rfl,_,h1.sqL⟩
 | _=>cases h
theorem zmq (b:Bm):PlainAttrs (bmT b)∧Slot (bmT b) (bmN b) (bmI b)∧typeOf (.builtin (bmI b))=pure (.type "method_descriptor"):=by
 cases b
 ·exact ⟨F.plainAttrs_str,F.slot_str_join,F.type_str_join⟩
 ·exact ⟨F.plainAttrs_list,F.slot_list_append,F.type_list_append⟩
 ·exact ⟨F.plainAttrs_list,F.slot_list_insert,F.type_list_insert⟩
 ·exact ⟨F.plainAttrs_str,F.slot_str_split,F.type_str_split⟩
 ·exact ⟨F.plainAttrs_str,F.slot_str_partition,F.type_str_partition⟩
 ·exact ⟨F.plainAttrs_str,F.slot_str_startswith,F.type_str_startswith⟩
 ·exact ⟨F.plainAttrs_str,F.slot_str_endswith,F.type_str_endswith⟩
 ·exact ⟨F.plainAttrs_list,F.slot_list_extend,F.type_list_extend⟩
 ·exact ⟨F.plainAttrs_list,F.slot_list_index,F.type_list_index⟩
theorem m_bm (c:CxOk g T cf dt C k X W) {b:Bm} (ho:zbV eo=true) (hne:noStar ea=true) (hst:xs.all noStar=true) (hfew:fewB (ea::xs) [] apos pos=true) (hoe:PE X eo (tM g W (evE T C o))) (ha:PA X (ea::xs) (tMA g W (evEs T C es))):
  PE X (.Call (.Attribute eo (bmN b) apos) (ea::xs) [] pos) (tM g W (evE T C (.bm b o es))):=by
 obtain ⟨h1,h2,h3⟩:=zmq b
 obtain ⟨f1,f2⟩:=Bool.and_eq_true_iff.mp hfew
 have hst':(ea::xs).all noStar=true:=by rw [List.all_cons,hne,hst]; rfl
 refine zaq (pe_bm h1 h2 h3 (zrv c.K c.hu b) hoe ha (zcO ho _) ?_ f2 (zac hne) (zar pos hst)) fun σ H Q ⟨m,L, ρ,hr,lr,po⟩=>?_
 ·rw [zdw pos hst']
  have q:=of_decide_eq_true f1
  have e0:(backToKw pos (keywordEach [] X.env)).all (fun x=>x.1.isSome)=true:=rfl
  rw [e0]
  have q2:(ea::xs).length+([]:List Keyword).length+(if ([]:List Keyword).isEmpty then 0 else 1) < 30:=by
   simp only [List.length_nil,List.isEmpty_nil,if_true] at q ⊢
   omega
  rw [decide_eq_true q2]
  rfl
 ·refine ⟨m,L, ρ,hr,lr,(Post.bind (R:=RD g) po).imp fun v H1 ⟨m1,L1,d,e1,hr1,rd,po1⟩=>?_⟩
  split at po1
  ·rename_i q
   refine ⟨?_,m1,L1, ρ,hr1,lr.mono e1,(Post.bind (R:=RDs g) po1).imp fun vs H2 ⟨m2,L2,ds,e2,hr2,rds,po2⟩=>⟨_,m2,L2,d,ds,hr2,rd.mono e2,rds,po2⟩⟩
   rw [c.K]
   cases b<;>first | exact znf rd q | exact zm3 hr1 rd q
  ·exact po1.elim
theorem zqe {m:List Addr} {L:MH} {H:Hp} {d:D} {x:V} {t:Tag} (hr:HRel g m L H) (rd:RelD g m H d x) (h:zb3 L d=some t) (ins:∀c,t=.ins c→zjU g.K (g.cad c)):TyX g.K H x (tagV g t):=by
 cases rd with
 | non=>cases h; exact .base .non
 | bl b=>cases h; exact .base (.bl b)
 | int b=>cases h; exact .base (.int b)
 | str b=>cases h; exact .base (.str b)
 | ref h1=>
  simp only [zb3] at h
  split at h
  ·rename_i xs e
   cases h
   obtain ⟨a,vs,h2,h3,h4⟩:=hr.lstAt e
   rw [h1] at h2
   cases h2
   exact .base (.lst h3)
  ·rename_i cc fs e
   cases h
   obtain ⟨a,dx,vfs,h2,h3,h4⟩:=hr.insAt e
   rw [h1] at h2
   cases h2
   obtain ⟨i1,i2,i3,i4,i5⟩:=ins cc rfl
   exact .base (.ins h3 i1 i2 i3 i4 i5)
  ·cases h
 | tup h1 h2=>
  cases h
  rcases h1 with (h1 | ⟨o,h1⟩) | h1
  ·exact .base (.tup h1)
  ·exact .fTuple h1
  ·obtain ⟨o,its,n,h2,h3,_⟩:=h1
   exact .kTuple h2 h3
 | fzl h1 h2=>
  cases h
  rcases h1 with ⟨o,h1⟩ | h1
  ·exact .base (.frz h1)
  ·obtain ⟨o,its,n,h2,h3,_⟩:=h1
   exact .kList h2 h3
 | _=>cases h
def tys (ts:List Ty):TA:=fun _ H Q=>Q (ts.map (tyV' g)) H
theorem zg2 {K:PySem.W.Frag} {t:Value}:∀ {ts:List Ty} {bs:List Bool},Paired (fun y b=>PySem.W.kitOne K t (zcC g y)=some b) ts bs→PySem.W.kitAny K t (ts.map (zcC g))=some (bs.any id)
 | _,_,.nil=>rfl
 | y::ts,b::bs,.cons h r=>by
  show (match PySem.W.kitOne K t (zcC g y) with
  | some true=>some true
  | some false=>PySem.W.kitAny K t (ts.map (zcC g))
  | none=>none)=some (b||bs.any id)
  rw [h]
  cases b with
  | true=>rfl
  | false=>exact zg2 r
theorem zis:∀ts:List Ty,Paired ClsV (ts.map (tyV' g)) (ts.map (zcC g))
 | []=>.nil
 | t::ts=>.cons (zhQ g t) (zis ts)
theorem zg1 (c:CxOk g T cf dt C k X W) {m:List Addr} {L:MH} {H:Hp} {d:D} {x:V} {ts:List Ty} {b:Bool} (hr:HRel g m L H) (rd:RelD g m H d x) (h:zav T L d ts=some b) (hne:ts≠[]):
  ∃t,TyX X.K H x t∧∃bs,Paired (fun y b=>PySem.W.kitOne X.K t (zcC g y)=some b) ts bs∧bs.any id=b:=by
 unfold zav at h
 cases e:mapO (tyIs T L d) ts with
 | none=>rw [e] at h; cases h
 | some bs=>
  rw [e] at h
  cases h
  have pr:=zci e
  cases et:zb3 L d with
  | none=>
   exfalso
   cases pr with
   | nil=>exact hne rfl
   | cons h1 h2=>
    unfold tyIs at h1
    rw [et] at h1
    cases h1
  | some t=>
   have pr2:Paired (fun y b=>T.kit t y=some b) ts bs:=L2.Paired.mapP pr fun y b z=>by
    unfold tyIs at z
    rw [et] at z
    exact z
   have hins:∀cc,t=.ins cc→zjU g.K (g.cad cc):=fun cc ec=>by
    cases pr2 with
    | nil=>exact absurd rfl hne
    | cons h1 h2=>
     rw [← c.K]
     exact c.lk.kin cc _ _ (by rw [← ec]; exact h1)
   refine ⟨tagV g t, ?_,bs,L2.Paired.mapP pr2 fun y b z=>c.lk.kit t y b z,rfl⟩
   rw [c.K]
   exact zqe hr rd et hins
theorem znW (c:CxOk g T cf dt C k X W) {t:Ty} {et:Expr} (hg:Gl X "isinstance") (hm:cf.blt.contains "isinstance"=true) (hne:noStar ea=true) (hst:noStar et=true) (ha:PE X ea (tM g W (evE T C a))) (ht:PE X et (tC (tyV' g t))):
  PE X (.Call (.Name "isinstance" p) [ea,et] [] pos) (tM g W (evE T C (.isin a [t]))):=by
 refine zaq (pe_callB call_isi hg (c.lk.blt _ hm) PyProof.Rows.boot_isinstance (pa_cons ha (pa_cons ht pa_nil (zac hst)) (zac hne)) (by decide) (by decide) (zac hne) (zar pos (by rw [List.all_cons,hst]; rfl))) fun σ H Q ⟨m,L, ρ,hr,lr,po⟩=>?_
 refine ⟨m,L, ρ,hr,lr,(Post.bind (R:=RD g) po).imp fun v H1 ⟨m1,L1,d,e1,hr1,rd,po1⟩=>?_⟩
 cases q:zav T L1 d [t] with
 | none=>simp only [q] at po1; exact po1.elim
 | some b=>
  simp only [q] at po1
  obtain ⟨tt,h1,bs,h2,h3⟩:=zg1 c hr1 rd q (by simp)
  cases h2 with
  | cons h4 h5=>
   cases h5
   refine ⟨v,tyV' g t,tt,zcC g t,_,rfl,zhQ g t,h1,h4, ?_⟩
   have eb:b=_:=h3.symm
   simp only [List.any_cons,List.any_nil,Bool.or_false,id] at eb
   rw [← eb]
   exact po1.at hr1 (.bl _)
theorem znc (c:CxOk g T cf dt C k X W) {ts:List Ty} {ets:List Expr} {j:Nat} {p2:Pos} (hg:Gl X "isinstance") (hm:cf.blt.contains "isinstance"=true) (hne:noStar ea=true) (hts:ts≠[]) (hle:ts.length≤30) (ha:PE X ea (tM g W (evE T C a))) (ht:PA X ets (tys (g:=g) ts)):
  PE X (.Call (.Name "isinstance" p) [ea,.Tuple ets j p2] [] pos) (tM g W (evE T C (.isin a ts))):=by
 refine zaq (pe_callB call_isiT hg (c.lk.blt _ hm) PyProof.Rows.boot_isinstance (pa_cons ha (pa_cons (pe_tup ht) pa_nil) (zac hne)) (by decide) (by decide) (zac hne)) fun σ H Q ⟨m,L, ρ,hr,lr,po⟩=>?_
 refine ⟨m,L, ρ,hr,lr,(Post.bind (R:=RD g) po).imp fun v H1 ⟨m1,L1,d,e1,hr1,rd,po1⟩=>?_⟩
 cases q:zav T L1 d ts with
 | none=>simp only [q] at po1; exact po1.elim
 | some b=>
  simp only [q] at po1
  refine ⟨by rw [List.length_map,zbB]; omega,fun tp htp=>?_⟩
  have e2:Ev m1 H1 m1 (upd H1 tp (.tup (ts.map (tyV' g)))):=Ev.upd_free htp
  obtain ⟨tt,h1,bs,h2,h3⟩:=zg1 c (hr1.laid (ho:=.tup (ts.map (tyV' g))) htp) (rd.mono e2) q hts
  refine ⟨v,tp,ts.map (tyV' g),tt,ts.map (zcC g),b,rfl,upd_same,zis ts,h1, ?_,po1.atE e2 (hr1.laid htp) (.bl _)⟩
  rw [← h3]
  exact zg2 h2
theorem zoj (c:CxOk g T cf dt C k X W) {cc:Nat} (hgl:cf.cls.contains cc=true) (hg:Gl X (cf.nm.cn cc)) (hdb:(cf.nm.cn cc==("__debug__":Str))=false):PE X (.Name (cf.nm.cn cc) p) (tC (tyV' g (.own cc))):=pe_glob hg (c.lk.cls cc hgl) rfl hdb
theorem znJ {n:String} (h:zfy.contains n=true):bootBuiltins (Str.ofString n)=some (.type n)∧Str.ofString n≠"__name__"∧(Str.ofString n==("__debug__":Str))=false:=by
 have e:n∈zfy:=by simpa using h
 simp only [zfy,List.mem_cons,List.not_mem_nil,or_false] at e
 rcases e with rfl | rfl | rfl | rfl | rfl | rfl | rfl | rfl | rfl
 ·exact ⟨boot_int,by decide,by decide⟩
 ·exact ⟨boot_str,by decide,by decide⟩
 ·exact ⟨PyProof.Rows.boot_bool,by decide,by decide⟩
 ·exact ⟨boot_list,by decide,by decide⟩
 ·exact ⟨boot_tuple,by decide,by decide⟩
 ·exact ⟨zk2 .ve,by decide,by decide⟩
 ·exact ⟨zk2 .le,by decide,by decide⟩
 ·exact ⟨zk2 .ie,by decide,by decide⟩
 ·exact ⟨by kernel_rfl,by decide,by decide⟩
theorem zq9 (c:CxOk g T cf dt C k X W) {n:String} (h:zfy.contains n=true) (hg:Gl X (Str.ofString n)) (hm:cf.blt.contains (Str.ofString n)=true):PE X (.Name (Str.ofString n) p) (tC (tyV' g (.bt n))):=by
 obtain ⟨h1,h2,h3⟩:=znJ h
 exact pe_bltn hg (c.lk.blt _ hm) h1 rfl h2 h3
theorem zmQ:PA X [] (tys (g:=g) []):=zfl pa_nil fun σ H Q h=>h
theorem zlP {t:Ty} {ts:List Ty} (hs:noStar ea=true) (h:PE X ea (tC (tyV' g t))) (r:PA X xs (tys (g:=g) ts)):PA X (ea::xs) (tys (g:=g) (t::ts)):=zfl (pa_cons h r (zac hs)) fun σ H Q h=>h
end
end Mi
end
section
set_option maxHeartbeats 4000000
namespace Mi
open PySem PySem.Spec PyProof.Rows L2
def Sq (p:Bool) (K:PySem.W.Frag) (H:Hp) (a:Addr) (xs:List V):Prop:=match p with
 | false=>SqL K H a xs
 | true=>SqT K H a xs
def IsSq (p:Bool) (h:Heap) (a:Addr) (xs:Array Value):Prop:=match p with
 | false=>h.IsList a xs
 | true=>h.IsTuple a xs
def IsIt (p:Bool) (h:Heap) (it a:Addr) (i:Nat):Prop:=match p with
 | false=>h.IsListIter it a i
 | true=>h.IsTupleIter it a i
def itO (p:Bool) (a:Addr):Obj:=match p with
 | false=>{ cls:=.type "list_iterator",data:=.fields #[.ref a,.int 0 0] }
 | true=>{ cls:=.type "tuple_iterator",data:=.fields #[.ref a,.int 0 0] }
theorem Sq.laid {p:Bool} {X:Cx} {pins:List (Addr×Obj)} {σ:L2.St} {H:Hp} {s:Shared} {a:Addr} {xs:List V} (I:Inv X pins σ H s) (h:Sq p X.K H a xs):∃its:List Value,Vals xs its∧IsSq p s.heap a its.toArray:=by
 cases p with
 | false=>
  obtain ⟨its,rv,q,_⟩:=I.list h
  exact ⟨its,rv,q.isList⟩
 | true=>
  obtain ⟨its,rv,q,_⟩:=I.tuple h
  exact ⟨its,rv,q⟩
theorem Sq.inj {p:Bool} {X:Cx} {pins:List (Addr×Obj)} {σ:L2.St} {H:Hp} {s:Shared} {a:Addr} {xs ys:List V} (I:Inv X pins σ H s) (h:Sq p X.K H a xs) (h':Sq p X.K H a ys):xs=ys:=by
 cases p with
 | false=>exact I.list_inj h h'
 | true=>exact I.tuple_inj h h'
theorem IsIt.obj {p:Bool} {h:Heap} {it a:Addr} {i:Nat} (x:IsIt p h it a i):∃o,h.get? it=some o∧∀v,o.data≠.cell v:=by
 cases p with
 | false=>
  obtain ⟨o,e,_,d⟩:=x
  exact ⟨o,e,fun v q=>by rw [d] at q; cases q⟩
 | true=>
  obtain ⟨o,e,_,d⟩:=x
  exact ⟨o,e,fun v q=>by rw [d] at q; cases q⟩
theorem IsIt.at {p:Bool} {h h':Heap} {it a:Addr} {i:Nat} (x:IsIt p h it a i) (k:∀o,h.get? it=some o→h'.get? it=some o):IsIt p h' it a i:=by
 cases p with
 | false=>exact Heap.IsListIter.at x k
 | true=>exact Heap.IsTupleIter.at x k
theorem IsSq.lt {p:Bool} {h:Heap} {a:Addr} {xs:Array Value} (x:IsSq p h a xs):a < h.objs.size:=by
 cases p with
 | false=>
  obtain ⟨o,e,_⟩:=x
  exact Heap.lt_size e
 | true=>
  obtain ⟨o,e,_⟩:=x
  exact Heap.lt_size e
theorem IsSq.at {p:Bool} {h h':Heap} {a:Addr} {xs:Array Value} (x:IsSq p h a xs) (k:∀o,h.get? a=some o→h'.get? a=some o):IsSq p h' a xs:=by
 cases p with
 | false=>exact Heap.IsList.at x k
 | true=>exact Heap.IsTuple.at x k
theorem zaL {p:Bool} {prog:Program} {w:World} {A:Around} (hh:A.handled=none) (it a:Addr) (hne:a≠it) (items:Array Value):
  Draws prog w A it [it,a] items.size (fun i v=>items[i]?=some v) (fun i h=>IsIt p h it a i∧IsSq p h a items):=by
 cases p with
 | false=>exact Draws.list hh it a hne items
 | true=>exact Draws.tuple hh it a hne items
theorem zaV {p:Bool} {prog:Program} {w:World} {A:Around} (hh:A.handled=none) (it a:Addr) (i:Nat) (items:Array Value) (hx:items[i]?=none):
  Draws prog w A it [it,a] i (fun _ _=>False) (fun j h=>j=i∧IsIt p h it a i∧IsSq p h a items) where
 live:=fun _ _ st=>let ⟨o,ho,_⟩:=st.2.1.obj; ⟨o,ho⟩
 frame:=fun _ _ _ st hk=>⟨st.1,st.2.1.at fun o e=>hk it (by simp) o e,st.2.2.at fun o e=>hk a (by simp) o e⟩
 item:=fun j s Q E hi st hQ=>absurd st.1 (Nat.ne_of_lt hi)
 done:=fun s Q E st hE=>by
  obtain ⟨_,h1,h2⟩:=st
  cases p with
  | false=>exact wpAny_nextOf_list_end hh h1 h2 hx hE
  | true=>exact wpAny_nextOf_tuple_end hh h1 h2 hx hE
theorem zbI {p:Bool} (a:Addr) (items:Array Value):Begins (.ref a) (itO p a) fun h=>IsSq p h a items:=by
 cases p with
 | false=>exact begins_list a items
 | true=>exact begins_tuple a items
theorem zfg {p:Bool} {h:Heap} {it a:Addr} (e:h.get? it=some (itO p a)):IsIt p h it a 0:=by
 cases p with
 | false=>exact ⟨_,e,rfl,rfl⟩
 | true=>exact ⟨_,e,rfl,rfl⟩
def ItzG (p q:Bool) (K:PySem.W.Frag) (a b:Addr):L2.It:=
 ⟨fun i H=>∃(xs ys:List V) (x y:V),Sq p K H a xs∧Sq q K H b ys∧xs[i]?=some x∧ys[i]?=some y,
   fun i H v H'=>∃T x y,v=.ref T∧H T=none∧H'=upd H T (.tup [x,y])∧(∀xs,Sq p K H a xs→xs[i]?=some x)∧∀ys,Sq q K H b ys→ys[i]?=some y,
   fun i H=>∃xs ys:List V,Sq p K H a xs∧Sq q K H b ys∧(xs.length≤i∨ys.length≤i)⟩
theorem zeF {z TI TO i1 i2 a b:Addr} (D:ZipApart z TI TO i1 i2 a b):ZipSep2 z TI TO i1 i2 [i1,a] [i2,b]:=
 { TIz := D.TIz,TOz := D.TOz,TITO := D.TITO,TIi1 := D.TIi1,mem1 := by simp,
   zf1:=by simp [D.i1z.symm,D.l1z.symm],Tf1:=by simp [D.TOi1,D.l1TO.symm],
   TIi2:=D.TIi2,mem2:=by simp,zf2:=by simp [D.i2z.symm,D.l2z.symm],Tf2:=by simp [D.TOi2,D.l2TO.symm],
   sep1_2:=by simp [D.i12,D.l2i1.symm],sep2_1:=by simp [D.i12.symm,D.l1i2.symm] }
theorem zke {p q:Bool} {P:Program} {w:World} {K:PySem.W.Frag} {elts:List Expr} {kk:Nat} {tpos:Pos} {a b z TI TO i1 i2:Addr} (D:ZipApart z TI TO i1 i2 a b):
  Turn P w K (.Tuple elts kk tpos) (ItzG p q K a b) [z,TI,TO,i1,i2] z (fun i h=>IsZip h z TI TO .none∧IsTupOf2 h TI (.ref i1) (.ref i2)∧(∃x y,IsTupOf2 h TO x y)∧IsIt p h i1 a i∧IsIt q h i2 b i) where
 mem:=by simp
 obj:=fun i h st c hc=>by
  obtain ⟨hz,hTI,⟨x,y,hTO⟩,h1,h2⟩:=st
  have e':c=z∨c=TI∨c=TO∨c=i1∨c=i2:=by simpa using hc
  rcases e' with q | q | q | q | q
  ·rw [q]; exact ⟨_,hz,fun v q=>nomatch q⟩
  ·rw [q]; exact ⟨_,hTI,fun v q=>nomatch q⟩
  ·rw [q]; exact ⟨_,hTO,fun v q=>nomatch q⟩
  ·rw [q]; exact h1.obj
  ·rw [q]; exact h2.obj
 keep:=fun i h h' st k=>by
  obtain ⟨hz,hTI,⟨x,y,hTO⟩,h1,h2⟩:=st
  exact ⟨k z (by simp) _ hz,k TI (by simp) _ hTI,⟨x,y,k TO (by simp) _ hTO⟩,h1.at fun o q=>k i1 (by simp) o q,h2.at fun o q=>k i2 (by simp) o q⟩
 item:=by
  intro X hP hw hK hc i pins s σ H E I hf st hg
  subst hP hw hK
  obtain ⟨hz,hTI,⟨x0,y0,hTO⟩,h1,h2⟩:=st
  obtain ⟨xs,ys,x,y,hqx,hqy,hx,hy⟩:=hg
  obtain ⟨its,rv,p1⟩:=hqx.laid I
  obtain ⟨its2,rv2,p2⟩:=hqy.laid I
  obtain ⟨u,hu,ru⟩:=rv.get hx
  obtain ⟨u2,hu2,ru2⟩:=rv2.get hy
  have hzl:z < s.heap.objs.size:=Heap.lt_size hz
  have hd:X.A.in1.handled=none:=I.ok.hd hc
  refine wpAny_pyNext_zipD2_item (zeF D) (zaL (p:=p) hd i1 a D.l1i1 its.toArray) (zaL (p:=q) hd i2 b D.l2i2 its2.toArray) hz hTI hTO ⟨h1,p1⟩ ⟨h2,p2⟩ (i:=i) (by have:=(List.getElem?_eq_some_iff.mp hu).1; simpa using this) (by have:=(List.getElem?_eq_some_iff.mp hu2).1; simpa using this) fun v1 v2 h' tk q1 q2 z' TO' h1' h2' hT hsz hk=>?_
  have q1:v1=u:=by
   have q1:its.toArray[i]?=some v1:=q1
   have:its[i]?=some v1:=by simpa using q1
   rw [hu] at this
   exact (Option.some.inj this).symm
  have q2:v2=u2:=by
   have q2:its2.toArray[i]?=some v2:=q2
   have:its2[i]?=some v2:=by simpa using q2
   rw [hu2] at this
   exact (Option.some.inj this).symm
  subst q1 q2
  refine ⟨_,rfl,wpAny_letOwnedTupleGo_zip (s:={ s with heap:=h',toks:=tk }) z' fun h'' z'' sb=>?_⟩
  have hT2:h''.get? s.heap.objs.size=some { cls:=.type "tuple",data:=.seq #[v1,v2] }:=(sb.2 _ (Nat.ne_of_gt hzl)).trans hT
  have new:ObjOk X.prog X.w (upd H s.heap.objs.size (.tup [x,y])) h'' s.heap.objs.size (.tup [x,y]):=
   ⟨by show 2≤sizeLine; decide,[v1,v2],.cons ru (.cons ru2 .nil),⟨_,hT2,rfl,_,rfl⟩⟩
  have I1:Inv X pins σ (upd H s.heap.objs.size (.tup [x,y])) { s with heap:=h'',toks:=tk }:=
   I.turnedNew (t':=tk) (ch:=[z,TI,TO,i1,i2]) (fun c o hb q=>(sb.2 c (fun q'=>hb (by simp [q']))).trans (hk c o (fun q'=>hb (by simp [q'])) (fun q'=>hb (by simp [q'])) (fun q'=>hb (by simp [q'])) (fun q'=>hb (by simp [q'])) q)) hf (Nat.le_refl _) new
  refine ⟨.ref s.heap.objs.size,_,I1,rfl,⟨_,x,y,rfl,I.hok.fresh (Nat.le_refl _),rfl,fun l hl=>by rw [Sq.inj I hl hqx]; exact hx,fun l hl=>by rw [Sq.inj I hl hqy]; exact hy⟩,⟨z'', ?_,⟨v1,v2, ?_⟩, ?_, ?_⟩,fun c hcm=>?_⟩
  ·exact (sb.2 _ D.TIz).trans (hk _ _ D.TIz D.TITO D.TIi1 D.TIi2 hTI)
  ·exact (sb.2 _ D.TOz).trans TO'
  ·exact h1'.1.at fun o q=>(sb.2 _ D.i1z).trans q
  ·exact h2'.1.at fun o q=>(sb.2 _ D.i2z).trans q
  ·have hlt:c < s.heap.objs.size:=by
    have e':c=z∨c=TI∨c=TO∨c=i1∨c=i2:=by simpa using hcm
    rcases e' with q | q | q | q | q
    ·rw [q]; exact hzl
    ·rw [q]; exact Heap.lt_size hTI
    ·rw [q]; exact Heap.lt_size hTO
    ·rw [q]; obtain ⟨_,e1,_⟩:=h1.obj; exact Heap.lt_size e1
    ·rw [q]; obtain ⟨_,e2,_⟩:=h2.obj; exact Heap.lt_size e2
   rw [upd_ne (Nat.ne_of_lt hlt)]
   exact (hf c hcm).1
 done:=by
  intro X hP hw hK hc i pins s σ H E I hf st hg
  subst hP hw hK
  obtain ⟨hz,hTI,⟨x0,y0,hTO⟩,h1,h2⟩:=st
  obtain ⟨xs,ys,hqx,hqy,hend⟩:=hg
  obtain ⟨its,rv,p1⟩:=hqx.laid I
  obtain ⟨its2,rv2,p2⟩:=hqy.laid I
  have l1:=rv.length
  have l2:=rv2.length
  have hd:X.A.in1.handled=none:=I.ok.hd hc
  have fin:∀h' tk,(∀c o,c≠z→c≠TO→c≠i1→c≠i2→s.heap.get? c=some o→h'.get? c=some o)→(none:Option Value)=none∧Inv X pins σ H { s with heap:=h',toks:=tk }:=fun h' tk hk=>⟨rfl,I.turnedL (t':=tk) (ch:=[z,TI,TO,i1,i2]) (fun c o hb q=>
    hk c o (fun q'=>hb (by simp [q'])) (fun q'=>hb (by simp [q'])) (fun q'=>hb (by simp [q'])) (fun q'=>hb (by simp [q'])) q) hf⟩
  by_cases c1:i < its.length
  ·have c2:its2.length≤i:=by omega
   exact wpAny_pyNext_zipD2_end (zeF D) (zaL (p:=p) hd i1 a D.l1i1 its.toArray) (zaV (p:=q) hd i2 b i its2.toArray (by simp; omega)) hz hTI hTO ⟨h1,p1⟩ ⟨rfl,h2,p2⟩ (i:=i) (by simp; omega) (Nat.le_refl _) (.inr rfl) fin
  ·by_cases c2:i < its2.length
   ·exact wpAny_pyNext_zipD2_end (zeF D) (zaV (p:=p) hd i1 a i its.toArray (by simp; omega)) (zaL (p:=q) hd i2 b D.l2i2 its2.toArray) hz hTI hTO ⟨rfl,h1,p1⟩ ⟨h2,p2⟩ (i:=i) (Nat.le_refl _) (by simp; omega) (.inl rfl) fin
   ·exact wpAny_pyNext_zipD2_end (zeF D) (zaV (p:=p) hd i1 a i its.toArray (by simp; omega)) (zaV (p:=q) hd i2 b i its2.toArray (by simp; omega)) hz hTI hTO ⟨rfl,h1,p1⟩ ⟨rfl,h2,p2⟩ (i:=i) (Nat.le_refl _) (Nat.le_refl _) (.inl rfl) fin
 self:=fun A i s Q E st h=>wpAny_pyIter_zip st.1 h
def zq5 (K:PySem.W.Frag) (ta:TA):TI:=fun σ H R=>ta σ H fun vs H1=>∃a b xs ys,vs=[.ref a,.ref b]∧((SqL K H1 a xs∧SqL K H1 b ys∧R (Itz K a b) H1)∨(SqT K H1 a xs∧SqT K H1 b ys∧R (RZ.ItzT K a b) H1)∨∃p q,Sq p K H1 a xs∧Sq q K H1 b ys∧R (ItzG p q K a b) H1)
theorem znq {X:Cx} {e e2:Expr} {ta:TA} {p pos tpos:Pos} {elts:List Expr} {kk:Nat} (hg:Gl X "zip") (hm:X.mg "zip"=none) (ha:PA X [e,e2] ta)
  (hs:starEach [e,e2] X.env=(false,eval e X.env)::starEach [e2] X.env:=by rfl) (hpl:(backTo pos (starEach [e2] X.env)).any (·.1)=false:=by rfl):
  PI X (.Tuple elts kk tpos) (.Call (.Name "zip" p) [e,e2] [] pos) (zq5 X.K ta):=by
 refine ⟨fun pins s σ H R I h=>?_⟩
 refine Call_ (ld_blt I hg hm PyProof.Rows.boot_zip (PyProof.Rows.callWith_type1 (thn (ha.run pos pins s σ H _ I h) fun us s1 ⟨vs,H1,I1,r1,q1⟩=>?_) hs hpl))
 obtain ⟨a,b,xs,ys,ex,q1⟩:=q1
 subst ex
 cases r1 with
 | cons r rr=>
  cases rr with
  | cons r' rr=>
   cases rr
   cases r
   cases r'
   have fresh5:∀c,c∈[s1.heap.objs.size+4,s1.heap.objs.size+2,s1.heap.objs.size+3,s1.heap.objs.size,s1.heap.objs.size+1]→FpOk X pins H1 c:=fun c hcm=>by
    have e':c=s1.heap.objs.size+4∨c=s1.heap.objs.size+2∨c=s1.heap.objs.size+3∨c=s1.heap.objs.size∨c=s1.heap.objs.size+1:=by simpa using hcm
    have hle:s1.heap.objs.size≤c:=by
     rcases e' with z | z | z | z | z
     ·rw [z]; exact Nat.le_add_right _ _
     ·rw [z]; exact Nat.le_add_right _ _
     ·rw [z]; exact Nat.le_add_right _ _
     ·rw [z]; exact Nat.le_refl _
     ·rw [z]; exact Nat.le_add_right _ _
    exact I1.fpOk hle (I1.hok.fresh hle)
   have gen:∀ {f1 f2:Bool} {J:L2.It} (S1:Sq f1 X.K H1 a xs) (S2:Sq f2 X.K H1 b ys)
     (tn:∀z TI TO i1 i2,ZipApart z TI TO i1 i2 a b→Turn X.prog X.w X.K (.Tuple elts kk tpos) J [z,TI,TO,i1,i2] z (fun i h=>IsZip h z TI TO .none∧IsTupOf2 h TI (.ref i1) (.ref i2)∧(∃x y,IsTupOf2 h TO x y)∧IsIt f1 h i1 a i∧IsIt f2 h i2 b i)) (q:R J H1),
     wpAny (model X.prog X.w) X.A (call (.type "zip") [.ref a,.ref b]) (fun v s2=>wpAny (model X.prog X.w) X.A (pyIter v) (PIE X pins σ (.Tuple elts kk tpos) R) X.xe s2) X.xe s1:=fun {f1 f2 J} S1 S2 tn q=>by
    obtain ⟨its,rv,p1⟩:=S1.laid I1
    obtain ⟨its2,rv2,p2⟩:=S2.laid I1
    refine zip_begins2 (zbI (p:=f1) a its.toArray) (zbI (p:=f2) b its2.toArray) p1 p2 fun h' hz hTI hTO h1 h2 hsz hk=>wpAny_pyIter_zip hz ?_
    have I2:Inv X pins σ H1 { s1 with heap:=h' }:=I1.kept (t':=s1.toks) hk
    exact ⟨s1.heap.objs.size+4,[s1.heap.objs.size+4,s1.heap.objs.size+2,s1.heap.objs.size+3,s1.heap.objs.size,s1.heap.objs.size+1],_,J,H1,rfl,I2,tn _ _ _ _ _ (PySem.W.ktu_apart s1.heap.objs.size a b p1.lt p2.lt),⟨hz,hTI,⟨_,_,hTO⟩,zfg h1,zfg h2⟩,fresh5,q⟩
   rcases q1 with ⟨hqx,hqy,q⟩ | ⟨hqx,hqy,q⟩ | ⟨f1,f2,hqx,hqy,q⟩
   ·exact gen (f1:=false) (f2:=false) hqx hqy (fun z TI TO i1 i2 D=>turn_zip D) q
   ·exact gen (f1:=true) (f2:=true) hqx hqy (fun z TI TO i1 i2 D=>RZ.turn_zipT D) q
   ·exact gen hqx hqy (fun z TI TO i1 i2 D=>zke D) q
end Mi
end
section
set_option maxHeartbeats 4000000
namespace Mi
open PySem PySem.Spec PyProof.Rows L2
def ItzH (p q r:Bool) (K:PySem.W.Frag) (a b c:Addr):L2.It:=
 ⟨fun i H=>∃(xs ys us:List V) (x y u:V),Sq p K H a xs∧Sq q K H b ys∧Sq r K H c us∧xs[i]?=some x∧ys[i]?=some y∧us[i]?=some u,
   fun i H v H'=>∃T x y u,v=.ref T∧H T=none∧H'=upd H T (.tup [x,y,u])∧(∀xs,Sq p K H a xs→xs[i]?=some x)∧(∀ys,Sq q K H b ys→ys[i]?=some y)∧∀us,Sq r K H c us→us[i]?=some u,
   fun i H=>∃xs ys us:List V,Sq p K H a xs∧Sq q K H b ys∧Sq r K H c us∧(xs.length≤i∨ys.length≤i∨us.length≤i)⟩
theorem zh0 {p:Bool} {prog:Program} {w:World} {A:Around} {h:Heap} {it a:Addr} {i:Nat} {its:List Value} (hd:A.handled=none) (ne:a≠it) (h1:IsIt p h it a i) (h2:IsSq p h a its.toArray):
  ∃(n:Nat) (P:Nat→Value→Prop) (St:Nat→Heap→Prop),Draws prog w A it [it,a] n P St∧St i h∧i≤n∧(its.length≤i→i=n):=by
 by_cases c:i < its.length
 ·exact ⟨_,_,_,zaL (p:=p) hd it a ne its.toArray,⟨h1,h2⟩,by simp; omega,fun e=>absurd c (by omega)⟩
 ·exact ⟨_,_,_,zaV (p:=p) hd it a i its.toArray (by simp; omega),⟨rfl,h1,h2⟩,Nat.le_refl _,fun _=>rfl⟩
theorem zks {p q r:Bool} {P:Program} {w:World} {K:PySem.W.Frag} {elts:List Expr} {kk:Nat} {tpos:Pos} {a b c z TI TO i1 i2 i3:Addr} (D:ZipSep3 z TI TO i1 i2 i3 [i1,a] [i2,b] [i3,c]) (na:a≠i1) (nb:b≠i2) (nc:c≠i3):
  Turn P w K (.Tuple elts kk tpos) (ItzH p q r K a b c) [z,TI,TO,i1,i2,i3] z (fun i h=>IsZip h z TI TO .none∧IsTupOf3 h TI (.ref i1) (.ref i2) (.ref i3)∧(∃x y u,IsTupOf3 h TO x y u)∧IsIt p h i1 a i∧IsIt q h i2 b i∧IsIt r h i3 c i) where
 mem:=by simp
 obj:=fun i h st c hc=>by
  obtain ⟨hz,hTI,⟨x,y,u,hTO⟩,h1,h2,h3⟩:=st
  have e':c=z∨c=TI∨c=TO∨c=i1∨c=i2∨c=i3:=by simpa using hc
  rcases e' with q | q | q | q | q | q
  ·rw [q]; exact ⟨_,hz,fun v q=>nomatch q⟩
  ·rw [q]; exact ⟨_,hTI,fun v q=>nomatch q⟩
  ·rw [q]; exact ⟨_,hTO,fun v q=>nomatch q⟩
  ·rw [q]; exact h1.obj
  ·rw [q]; exact h2.obj
  ·rw [q]; exact h3.obj
 keep:=fun i h h' st k=>by
  obtain ⟨hz,hTI,⟨x,y,u,hTO⟩,h1,h2,h3⟩:=st
  exact ⟨k z (by simp) _ hz,k TI (by simp) _ hTI,⟨x,y,u,k TO (by simp) _ hTO⟩,h1.at fun o q=>k i1 (by simp) o q,h2.at fun o q=>k i2 (by simp) o q,h3.at fun o q=>k i3 (by simp) o q⟩
 item:=by
  intro X hP hw hK hc i pins s σ H E I hf st hg
  subst hP hw hK
  obtain ⟨hz,hTI,⟨x0,y0,u0,hTO⟩,h1,h2,h3⟩:=st
  obtain ⟨xs,ys,us,x,y,u,hqx,hqy,hqu,hx,hy,hu⟩:=hg
  obtain ⟨its,rv,p1⟩:=hqx.laid I
  obtain ⟨its2,rv2,p2⟩:=hqy.laid I
  obtain ⟨its3,rv3,p3⟩:=hqu.laid I
  obtain ⟨w1,hw1,rw1⟩:=rv.get hx
  obtain ⟨w2,hw2,rw2⟩:=rv2.get hy
  obtain ⟨w3,hw3,rw3⟩:=rv3.get hu
  have hzl:z < s.heap.objs.size:=Heap.lt_size hz
  have hd:X.A.in1.handled=none:=I.ok.hd hc
  have lt:∀ {its:List Value} {v:Value},its[i]?=some v→i < its.toArray.size:=fun e=>by
   have:=(List.getElem?_eq_some_iff.mp e).1
   simpa using this
  refine wpAny_pyNext_zipD3_item D (zaL (p:=p) hd i1 a na its.toArray) (zaL (p:=q) hd i2 b nb its2.toArray) (zaL (p:=r) hd i3 c nc its3.toArray) hz hTI hTO ⟨h1,p1⟩ ⟨h2,p2⟩ ⟨h3,p3⟩ (i:=i) (lt hw1) (lt hw2) (lt hw3) fun v1 v2 v3 h' tk q1 q2 q3 z' TO' h1' h2' h3' hT hsz hk=>?_
  have same:∀ {its:List Value} {v v':Value},its[i]?=some v→its.toArray[i]?=some v'→v'=v:=fun {its v v'} e q=>by
   have:its[i]?=some v':=by simpa using q
   rw [e] at this
   exact (Option.some.inj this).symm
  have q1:v1=w1:=same hw1 q1
  have q2:v2=w2:=same hw2 q2
  have q3:v3=w3:=same hw3 q3
  subst q1 q2 q3
  refine ⟨_,rfl,wpAny_letOwnedTupleGo_zip (s:={ s with heap:=h',toks:=tk }) z' fun h'' z'' sb=>?_⟩
  have hT2:h''.get? s.heap.objs.size=some { cls:=.type "tuple",data:=.seq #[v1,v2,v3] }:=(sb.2 _ (Nat.ne_of_gt hzl)).trans hT
  have new:ObjOk X.prog X.w (upd H s.heap.objs.size (.tup [x,y,u])) h'' s.heap.objs.size (.tup [x,y,u]):=
   ⟨by show 3≤sizeLine; decide,[v1,v2,v3],.cons rw1 (.cons rw2 (.cons rw3 .nil)),⟨_,hT2,rfl,_,rfl⟩⟩
  have I1:Inv X pins σ (upd H s.heap.objs.size (.tup [x,y,u])) { s with heap:=h'',toks:=tk }:=
   I.turnedNew (t':=tk) (ch:=[z,TI,TO,i1,i2,i3]) (fun c o hb q=>(sb.2 c (fun q'=>hb (by simp [q']))).trans (hk c o (fun q'=>hb (by simp [q'])) (fun q'=>hb (by simp [q'])) (fun q'=>hb (by simp [q'])) (fun q'=>hb (by simp [q'])) (fun q'=>hb (by simp [q'])) q)) hf (Nat.le_refl _) new
  refine ⟨.ref s.heap.objs.size,_,I1,rfl,⟨_,x,y,u,rfl,I.hok.fresh (Nat.le_refl _),rfl,fun l hl=>by rw [Sq.inj I hl hqx]; exact hx,fun l hl=>by rw [Sq.inj I hl hqy]; exact hy,fun l hl=>by rw [Sq.inj I hl hqu]; exact hu⟩,⟨z'', ?_,⟨v1,v2,v3, ?_⟩, ?_, ?_, ?_⟩,fun c hcm=>?_⟩
  ·exact (sb.2 _ D.TIz).trans (hk _ _ D.TIz D.TITO D.TIi1 D.TIi2 D.TIi3 hTI)
  ·exact (sb.2 _ D.TOz).trans TO'
  ·exact h1'.1.at fun o q=>(sb.2 _ D.zi1.symm).trans q
  ·exact h2'.1.at fun o q=>(sb.2 _ D.zi2.symm).trans q
  ·exact h3'.1.at fun o q=>(sb.2 _ D.zi3.symm).trans q
  ·have hlt:c < s.heap.objs.size:=by
    have e':c=z∨c=TI∨c=TO∨c=i1∨c=i2∨c=i3:=by simpa using hcm
    rcases e' with q | q | q | q | q | q
    ·rw [q]; exact hzl
    ·rw [q]; exact Heap.lt_size hTI
    ·rw [q]; exact Heap.lt_size hTO
    ·rw [q]; obtain ⟨_,e1,_⟩:=h1.obj; exact Heap.lt_size e1
    ·rw [q]; obtain ⟨_,e2,_⟩:=h2.obj; exact Heap.lt_size e2
    ·rw [q]; obtain ⟨_,e3,_⟩:=h3.obj; exact Heap.lt_size e3
   rw [upd_ne (Nat.ne_of_lt hlt)]
   exact (hf c hcm).1
 done:=by
  intro X hP hw hK hc i pins s σ H E I hf st hg
  subst hP hw hK
  obtain ⟨hz,hTI,⟨x0,y0,u0,hTO⟩,h1,h2,h3⟩:=st
  obtain ⟨xs,ys,us,hqx,hqy,hqu,hend⟩:=hg
  obtain ⟨its,rv,p1⟩:=hqx.laid I
  obtain ⟨its2,rv2,p2⟩:=hqy.laid I
  obtain ⟨its3,rv3,p3⟩:=hqu.laid I
  have l1:=rv.length
  have l2:=rv2.length
  have l3:=rv3.length
  have hd:X.A.in1.handled=none:=I.ok.hd hc
  obtain ⟨n1,P1,St1,D1,st1,k1,g1⟩:=zh0 (prog:=X.prog) (w:=X.w) hd na h1 p1
  obtain ⟨n2,P2,St2,D2,st2,k2,g2⟩:=zh0 (prog:=X.prog) (w:=X.w) hd nb h2 p2
  obtain ⟨n3,P3,St3,D3,st3,k3,g3⟩:=zh0 (prog:=X.prog) (w:=X.w) hd nc h3 p3
  refine wpAny_pyNext_zipD3_end D D1 D2 D3 hz hTI hTO st1 st2 st3 k1 k2 k3 ?_ fun h' tk hk=>⟨rfl,I.turnedL (t':=tk) (ch:=[z,TI,TO,i1,i2,i3]) (fun c o hb q=>
    hk c o (fun q'=>hb (by simp [q'])) (fun q'=>hb (by simp [q'])) (fun q'=>hb (by simp [q'])) (fun q'=>hb (by simp [q'])) (fun q'=>hb (by simp [q'])) q) hf⟩
  rcases hend with e | e | e
  ·exact .inl (g1 (by omega))
  ·exact .inr (.inl (g2 (by omega)))
  ·exact .inr (.inr (g3 (by omega)))
 self:=fun A i s Q E st h=>wpAny_pyIter_zip st.1 h
def zsc (K:PySem.W.Frag) (ta:TA):TI:=fun σ H R=>ta σ H fun vs H1=>∃a b c xs ys us p q r,vs=[.ref a,.ref b,.ref c]∧Sq p K H1 a xs∧Sq q K H1 b ys∧Sq r K H1 c us∧R (ItzH p q r K a b c) H1
theorem znL {X:Cx} {e e2 e3:Expr} {ta:TA} {p pos tpos:Pos} {elts:List Expr} {kk:Nat} (hg:Gl X "zip") (hm:X.mg "zip"=none) (ha:PA X [e,e2,e3] ta)
  (hs:starEach [e,e2,e3] X.env=(false,eval e X.env)::starEach [e2,e3] X.env:=by rfl) (hpl:(backTo pos (starEach [e2,e3] X.env)).any (·.1)=false:=by rfl):
  PI X (.Tuple elts kk tpos) (.Call (.Name "zip" p) [e,e2,e3] [] pos) (zsc X.K ta):=by
 refine ⟨fun pins s σ H R I h=>?_⟩
 refine Call_ (ld_blt I hg hm PyProof.Rows.boot_zip (PyProof.Rows.callWith_type1 (thn (ha.run pos pins s σ H _ I h) fun us s1 ⟨vs,H1,I1,r1,q1⟩=>?_) hs hpl))
 obtain ⟨a,b,c,xs,ys,zs,f1,f2,f3,ex,S1,S2,S3,q⟩:=q1
 subst ex
 cases r1 with
 | cons r rr=>
  cases rr with
  | cons r' rr=>
   cases rr with
   | cons r'' rr=>
    cases rr
    cases r
    cases r'
    cases r''
    obtain ⟨its,rv,p1⟩:=S1.laid I1
    obtain ⟨its2,rv2,p2⟩:=S2.laid I1
    obtain ⟨its3,rv3,p3⟩:=S3.laid I1
    have la:=p1.lt
    have lb:=p2.lt
    have lc:=p3.lt
    have fresh6:∀c,c∈[s1.heap.objs.size+5,s1.heap.objs.size+3,s1.heap.objs.size+4,s1.heap.objs.size,s1.heap.objs.size+1,s1.heap.objs.size+2]→FpOk X pins H1 c:=fun c hcm=>by
     have e':c=s1.heap.objs.size+5∨c=s1.heap.objs.size+3∨c=s1.heap.objs.size+4∨c=s1.heap.objs.size∨c=s1.heap.objs.size+1∨c=s1.heap.objs.size+2:=by simpa using hcm
     have hle:s1.heap.objs.size≤c:=by
      rcases e' with z | z | z | z | z | z
      ·rw [z]; exact Nat.le_add_right _ _
      ·rw [z]; exact Nat.le_add_right _ _
      ·rw [z]; exact Nat.le_add_right _ _
      ·rw [z]; exact Nat.le_refl _
      ·rw [z]; exact Nat.le_add_right _ _
      ·rw [z]; exact Nat.le_add_right _ _
     exact I1.fpOk hle (I1.hok.fresh hle)
    refine zip_begins3 (zbI (p:=f1) a its.toArray) (zbI (p:=f2) b its2.toArray) (zbI (p:=f3) c its3.toArray) p1 p2 p3 fun h' hz hTI hTO h1 h2 h3 hsz hk=>wpAny_pyIter_zip hz ?_
    have I2:Inv X pins σ H1 { s1 with heap:=h' }:=I1.kept (t':=s1.toks) hk
    have one:∀ {x:Addr},x < s1.heap.objs.size→∀b∈[x],b < s1.heap.objs.size:=fun h b hb=>by
     rw [List.mem_singleton.mp hb]
     exact h
    have ne:∀ {x y:Nat},x < y→x≠y:=fun h e=>Nat.lt_irrefl _ (e ▸ h)
    exact ⟨s1.heap.objs.size+5,[s1.heap.objs.size+5,s1.heap.objs.size+3,s1.heap.objs.size+4,s1.heap.objs.size,s1.heap.objs.size+1,s1.heap.objs.size+2],_,ItzH f1 f2 f3 X.K a b c,H1,rfl,I2,
      zks (zip_sep3 (one la) (one lb) (one lc)) (ne la) (ne (Nat.lt_of_lt_of_le lb (Nat.le_add_right _ 1))) (ne (Nat.lt_of_lt_of_le lc (Nat.le_add_right _ 2))),⟨hz,hTI,⟨_,_,_,hTO⟩,zfg h1,zfg h2,zfg h3⟩,fresh6,q⟩
end Mi
end
section
set_option maxHeartbeats 4000000
namespace PySem
abbrev IsZp (h:Heap) (z TI TO:Addr) (f0 f1:Value):Prop:=
 h.get? z=some { cls:=.type "zip",dict:=none,data:=.fields #[f0,f1,.bool false,.ref TI,.ref TO],slots:=#[] }
def OkF (f0 f1:Value):Prop:=(f0=.none∨∃T:Nat,f0=rawInt T)∧∃b,f1=.bool b
section
variable {prog:Program} {w:World} {A:Around} {E:Value→Shared→Prop} {s:Shared} {z TI TO i1 i2:Addr} {fp1 fp2:List Addr} {n1 n2 i:Nat} {P1 P2:Nat→Value→Prop} {St1 St2:Nat→Heap→Prop} {a1 a2 f0 f1:Value}
theorem zhV {a:Addr} {Q:Option Obj→Shared→Prop} (h:Q (s.heap.get? a) s):wpAny (model prog w) A (loadIfAlive a) Q E s:=
 fun Γ p hΓ=>by
  unfold loadIfAlive
  rw [Sem.wp_loadIfAlive]
  exact (wpAny_pure (M:=model prog w) (A:=A) (E:=E) h) Γ p hΓ
theorem zj4 {Q:Bool→Shared→Prop} (hz:IsZp s.heap z TI TO f0 f1) (ok:OkF f0 f1) (h1:Q true s) (h2:∀h',IsZp h' z TI TO f0 (.bool true)→Heap.SameBut z s.heap h'→Q false { s with heap:=h' }):
  wpAny (model prog w) A (Builtin.SmallTypes.ownedTupleIsFree (.ref z)) Q E s:=by
 obtain ⟨ok0,b,rfl⟩:=ok
 unfold Builtin.SmallTypes.ownedTupleIsFree
 refine wpAny_bind (wpAny_field hz rfl (x:=f0) rfl ?_)
 rcases ok0 with rfl | ⟨T,rfl⟩
 ·exact wpAny_pure h1
 ·simp only [rawInt]
  refine wpAny_bind (zhV ?_)
  cases e:s.heap.get? (Int.toNat ((T:Nat):Int)) with
  | none=>
   simp only [Option.isNone_none,if_true]
   exact wpAny_pure h1
  | some o=>
   simp only [Option.isNone_some,Bool.false_eq_true,if_false]
   refine wpAny_bind (wpAny_field hz rfl (x:=.bool b) rfl ?_)
   cases b with
   | true=>exact wpAny_pure (h2 s.heap hz ⟨rfl,fun _ _=>rfl⟩)
   | false=>
    show wpAny _ _ (setField (.ref z) 1 (.bool true) >>= fun _=>pure false) _ _ _
    refine wpAny_bind (wpAny_setField_rec hz (by simp) fun h' hz' hs'=>wpAny_pure ?_)
    exact h2 h' hz' hs'
theorem zmP {Q:Value→Shared→Prop} (S:ZipSep2 z TI TO i1 i2 fp1 fp2) (D1:Draws prog w A i1 fp1 n1 P1 St1) (D2:Draws prog w A i2 fp2 n2 P2 St2)
  (hz:IsZp s.heap z TI TO f0 f1) (ok:OkF f0 f1) (hTI:IsTupOf2 s.heap TI (.ref i1) (.ref i2)) (hTO:IsTupOf2 s.heap TO a1 a2) (st1:St1 i s.heap) (st2:St2 i s.heap) (hlt1:i < n1) (hlt2:i < n2)
  (hQ:∀x1 x2 h' tk g0 g1 y1 y2,P1 i x1→P2 i x2→IsZp h' z TI TO g0 g1→OkF g0 g1→IsTupOf2 h' TO y1 y2→St1 (i+1) h'→St2 (i+1) h'→IsTupOf2 h' s.heap.objs.size x1 x2→h'.objs.size=s.heap.objs.size+1→
    (∀c o,c≠z→c≠TO→c≠i1→c≠i2→s.heap.get? c=some o→h'.get? c=some o)→Q (.ref s.heap.objs.size) { s with heap:=h',toks:=tk }):
  wpAny (model prog w) A (Builtin.«zip.__next__» ⟨[.ref z],[]⟩) (fun fin s'=>∃v,fin=.done (.ret v)∧Q v s') E s:=by
 obtain ⟨hp,g,d,tk0,os⟩:=s
 show wpAny _ _ (field (.ref z) 2 >>= _) _ _ _
 refine wpAny_bind (wpAny_field hz rfl (x:=.bool false) rfl ?_)
 show wpAny _ _ (field (.ref z) 3 >>= _) _ _ _
 refine wpAny_bind (wpAny_field hz rfl (x:=.ref TI) rfl ?_)
 refine wpAny_bind (wpAny_seqItems hTI rfl ?_)
 show wpAny _ _ (Builtin.SmallTypes.ownedTupleIsFree (.ref z) >>= _) _ _ _
 refine wpAny_bind (zj4 hz ok ?_ fun h' hz' hs'=>?_)
 ·simp only [if_true]
  refine wpAny_bind (wpAny_rule ?_)
  refine wpAny_bind (wpAny_field hz rfl (x:=.ref TO) rfl ?_)
  refine wpAny_bind (wpAny_setField_rec hz (by simp) fun g0 hz0 hs0=>?_)
  replace hz0:IsZp g0 z TI TO .ellipsis f1:=hz0
  replace hs0:Heap.SameBut z hp g0:=hs0
  refine wpAny_bind ?_
  simp only [List.zipIdx_cons,List.zipIdx_nil,List.forIn_cons,List.forIn_nil]
  refine wpAny_bind (wpAny_bind (wpAny_onRaise ?_))
  show wpAny _ _ (Builtin.SmallTypes.nextOf (.ref i1) >>= _) _ _ ⟨g0,g,d,tk0,os⟩
  refine wpAny_bind (D1.item i _ _ _ hlt1 (D1.over st1 hs0 S.zf1) fun x1 p1 tk1 hx1 sn1 hp1=>wpAny_pure ?_)
  replace hp1:Heap.SameBut i1 g0 p1:=hp1
  have hU1:IsTupOf2 p1 TO a1 a2:=hp1.extBut _ _ S.Ti1 (hs0.extBut _ _ S.TOz hTO)
  refine wpAny_bind (wpAny_seqItems (s:=⟨p1,g,d,tk1,os⟩) hU1 rfl ?_)
  refine wpAny_bind (updateSeq_IsTupOf2 (s:=⟨p1,g,d,tk1,os⟩) hU1 fun g1 hT1 hs1=>?_)
  replace hT1:IsTupOf2 g1 TO x1 a2:=hT1
  replace hs1:Heap.SameBut TO p1 g1:=hs1
  refine wpAny_bind (wpAny_letGo (wpAny_pure ?_))
  refine wpAny_bind (wpAny_bind (wpAny_onRaise ?_))
  show wpAny _ _ (Builtin.SmallTypes.nextOf (.ref i2) >>= _) _ _ ⟨g1,g,d,tk1,os⟩
  refine wpAny_bind (D2.item i _ _ _ hlt2 (D2.over (D2.over (D2.over st2 hs0 S.zf2) hp1 S.sep1_2) hs1 S.Tf2) fun x2 p2 tk2 hx2 sn2 hp2=>wpAny_pure ?_)
  replace hp2:Heap.SameBut i2 g1 p2:=hp2
  have hU2:IsTupOf2 p2 TO x1 a2:=hp2.extBut _ _ S.Ti2 hT1
  refine wpAny_bind (wpAny_seqItems (s:=⟨p2,g,d,tk2,os⟩) hU2 rfl ?_)
  refine wpAny_bind (updateSeq_IsTupOf2 (s:=⟨p2,g,d,tk2,os⟩) hU2 fun g2 hT2 hs2=>?_)
  replace hT2:IsTupOf2 g2 TO x1 x2:=hT2
  replace hs2:Heap.SameBut TO p2 g2:=hs2
  refine wpAny_bind (wpAny_letGo (wpAny_pure (wpAny_pure ?_)))
  refine wpAny_bind (wpAny_seqItems (s:=⟨g2,g,d,tk2,os⟩) hT2 rfl ?_)
  refine wpAny_bind (wpAny_newTuple ?_)
  have hsz:g2.objs.size=hp.objs.size:=by rw [hs2.1,hp2.1,hs1.1,hp1.1,hs0.1]
  have hzz:IsZp g2 z TI TO .ellipsis f1:=(hs2.extBut _ _ S.TOz.symm (hp2.extBut _ _ S.zi2 (hs1.extBut _ _ S.TOz.symm (hp1.extBut _ _ S.zi1 hz0))))
  have hkk:∀c o,c≠z→c≠TO→c≠i1→c≠i2→hp.get? c=some o→g2.get? c=some o:=fun c o cz cT c1 c2 e=>
   (hs2.extBut _ _ cT (hp2.extBut _ _ c2 (hs1.extBut _ _ cT (hp1.extBut _ _ c1 (hs0.extBut _ _ cz e)))))
  have hj1:St1 (i+1) g2:=(D1.over (D1.over (D1.over sn1 hs1 S.Tf1) hp2 S.sep2_1) hs2 S.Tf1)
  have hj2:St2 (i+1) g2:=(D2.over sn2 hs2 S.Tf2)
  have hzlt:z < g2.objs.size:=Heap.lt_size hzz
  show wpAny _ _ (Builtin.SmallTypes.ownedTupleHandOut (.ref z) (.ref g2.objs.size) >>= _) _ _ ⟨g2.push { cls:=.type "tuple",data:=.seq #[x1,x2] },g,d,tk2,os⟩
  refine wpAny_bind ?_
  unfold Builtin.SmallTypes.ownedTupleHandOut
  have hz₆:IsZp (g2.push { cls:=.type "tuple",data:=.seq #[x1,x2] }) z TI TO .ellipsis f1:=Heap.get?_push_of_some _ hzz
  refine wpAny_bind (wpAny_setField_rec hz₆ (by simp) fun h₇ hz₇ hs₇=>?_)
  replace hz₇:IsZp h₇ z TI TO (rawInt g2.objs.size) f1:=hz₇
  refine wpAny_setField_rec hz₇ (by simp) fun h₈ hz₈ hs₈=>?_
  replace hz₈:IsZp h₈ z TI TO (rawInt g2.objs.size) (.bool false):=hz₈
  replace hs₇:Heap.SameBut z (g2.push { cls:=.type "tuple",data:=.seq #[x1,x2] }) h₇:=hs₇
  replace hs₈:Heap.SameBut z h₇ h₈:=hs₈
  have up:∀c o,c≠z→g2.get? c=some o→h₈.get? c=some o:=fun c o c1 e=>hs₈.extBut _ _ c1 (hs₇.extBut _ _ c1 (Heap.get?_push_of_some _ e))
  have hT₈:IsTupOf2 h₈ g2.objs.size x1 x2:=hs₈.extBut _ _ (Nat.ne_of_gt hzlt) (hs₇.extBut _ _ (Nat.ne_of_gt hzlt) (Heap.get?_push_size _ rfl))
  have hz8:h₈.objs.size=g2.objs.size+1:=by rw [hs₈.1,hs₇.1,Heap.size_push]
  rw [hsz] at hz₈ hT₈ hz8
  refine wpAny_pure ⟨_,rfl, ?_⟩
  show Q (.ref g2.objs.size) ⟨h₈,g,d,tk2,os⟩
  rw [hsz]
  exact hQ x1 x2 h₈ tk2 _ _ x1 x2 hx1 hx2 hz₈ ⟨.inr ⟨_,rfl⟩,_,rfl⟩ (up _ _ S.TOz hT2) (D1.frame _ _ _ hj1 fun b hb o e=>up b o (fun q=>S.zf1 (q ▸ hb)) e) (D2.frame _ _ _ hj2 fun b hb o e=>up b o (fun q=>S.zf2 (q ▸ hb)) e) hT₈ hz8 fun c o cz cT c1 c2 e=>up c o cz (hkk c o cz cT c1 c2 e)
 ·simp only [Bool.false_eq_true,if_false]
  replace hs':Heap.SameBut z hp h':=hs'
  have hz':IsZp h' z TI TO f0 (.bool true):=hz'
  refine wpAny_bind ?_
  simp only [List.forIn_toArray,List.forIn_cons,List.forIn_nil]
  refine wpAny_bind (wpAny_bind (wpAny_holding ?_))
  show wpAny _ _ (Builtin.SmallTypes.nextOf (.ref i1) >>= _) _ _ ⟨h',g,d,tk0,os⟩
  refine wpAny_bind (D1.item i _ _ _ hlt1 (D1.over st1 hs' S.zf1) fun x1 p1 tk1 hx1 sn1 hp1=>wpAny_pure ?_)
  replace hp1:Heap.SameBut i1 h' p1:=hp1
  refine wpAny_pure ?_
  refine wpAny_bind (wpAny_bind (wpAny_holding ?_))
  show wpAny _ _ (Builtin.SmallTypes.nextOf (.ref i2) >>= _) _ _ ⟨p1,g,d,tk1,os⟩
  refine wpAny_bind (D2.item i _ _ _ hlt2 (D2.over (D2.over st2 hs' S.zf2) hp1 S.sep1_2) fun x2 p2 tk2 hx2 sn2 hp2=>wpAny_pure ?_)
  replace hp2:Heap.SameBut i2 p1 p2:=hp2
  refine wpAny_pure (wpAny_pure ?_)
  refine wpAny_bind (wpAny_newTuple (hsz:=by show 2≤sizeLine; decide) ?_)
  have hsz:p2.objs.size=hp.objs.size:=by rw [hp2.1,hp1.1,hs'.1]
  have hzz:IsZp p2 z TI TO f0 (.bool true):=hp2.extBut _ _ S.zi2 (hp1.extBut _ _ S.zi1 hz')
  have hTT:IsTupOf2 p2 TO a1 a2:=hp2.extBut _ _ S.Ti2 (hp1.extBut _ _ S.Ti1 (hs'.extBut _ _ S.TOz hTO))
  have up:∀c o,p2.get? c=some o→(p2.push { cls:=.type "tuple",data:=.seq #[x1,x2] }).get? c=some o:=fun c o e=>Heap.get?_push_of_some _ e
  have hT:IsTupOf2 (p2.push { cls:=.type "tuple",data:=.seq #[x1,x2] }) p2.objs.size x1 x2:=Heap.get?_push_size _ rfl
  have z8:(p2.push { cls:=.type "tuple",data:=.seq #[x1,x2] }).objs.size=p2.objs.size+1:=Heap.size_push ..
  rw [hsz] at hT z8
  refine wpAny_pure ⟨_,rfl, ?_⟩
  show Q (.ref p2.objs.size) ⟨p2.push { cls:=.type "tuple",data:=.seq #[x1,x2] },g,d,tk2,os⟩
  rw [hsz]
  exact hQ x1 x2 _ tk2 _ _ a1 a2 hx1 hx2 (up _ _ hzz) ⟨ok.1,_,rfl⟩ (up _ _ hTT) (D1.frame _ _ _ (D1.over sn1 hp2 S.sep2_1) fun b hb o e=>up b o e) (D2.frame _ _ _ sn2 fun b hb o e=>up b o e) hT z8 fun c o cz cT c1 c2 e=>up c o (hp2.extBut _ _ c2 (hp1.extBut _ _ c1 (hs'.extBut _ _ cz e)))
theorem zkl {Q:Fin→Shared→Prop} (S:ZipSep2 z TI TO i1 i2 fp1 fp2) (D1:Draws prog w A i1 fp1 n1 P1 St1) (D2:Draws prog w A i2 fp2 n2 P2 St2)
  (hz:IsZp s.heap z TI TO f0 f1) (ok:OkF f0 f1) (hTI:IsTupOf2 s.heap TI (.ref i1) (.ref i2)) (hTO:IsTupOf2 s.heap TO a1 a2) (st1:St1 i s.heap) (st2:St2 i s.heap) (hle1:i≤n1) (hle2:i≤n2) (hend:i=n1∨i=n2)
  (hE:∀h' tk e,(∀c o,c≠z→c≠TO→c≠i1→c≠i2→s.heap.get? c=some o→h'.get? c=some o)→(∃o,h'.get? e=some o∧o.cls=.type "StopIteration")→E (.ref e) { s with heap:=h',toks:=tk }):
  wpAny (model prog w) A (Builtin.«zip.__next__» ⟨[.ref z],[]⟩) Q E s:=by
 obtain ⟨hp,g,d,tk0,os⟩:=s
 show wpAny _ _ (field (.ref z) 2 >>= _) _ _ _
 refine wpAny_bind (wpAny_field hz rfl (x:=.bool false) rfl ?_)
 show wpAny _ _ (field (.ref z) 3 >>= _) _ _ _
 refine wpAny_bind (wpAny_field hz rfl (x:=.ref TI) rfl ?_)
 refine wpAny_bind (wpAny_seqItems hTI rfl ?_)
 show wpAny _ _ (Builtin.SmallTypes.ownedTupleIsFree (.ref z) >>= _) _ _ _
 refine wpAny_bind (zj4 hz ok ?_ fun h' hz' hs'=>?_)
 ·simp only [if_true]
  refine wpAny_bind (wpAny_rule ?_)
  refine wpAny_bind (wpAny_field hz rfl (x:=.ref TO) rfl ?_)
  refine wpAny_bind (wpAny_setField_rec hz (by simp) fun g0 hz0 hs0=>?_)
  replace hz0:IsZp g0 z TI TO .ellipsis f1:=hz0
  replace hs0:Heap.SameBut z hp g0:=hs0
  refine wpAny_bind ?_
  simp only [List.zipIdx_cons,List.zipIdx_nil,List.forIn_cons,List.forIn_nil]
  refine wpAny_bind (wpAny_bind (wpAny_onRaise ?_))
  show wpAny _ _ (Builtin.SmallTypes.nextOf (.ref i1) >>= _) _ _ ⟨g0,g,d,tk0,os⟩
  by_cases hlt1:i < n1
  ·refine wpAny_bind (D1.item i _ _ _ hlt1 (D1.over st1 hs0 S.zf1) fun x1 p1 tk1 hx1 sn1 hp1=>wpAny_pure ?_)
   replace hp1:Heap.SameBut i1 g0 p1:=hp1
   have hU1:IsTupOf2 p1 TO a1 a2:=hp1.extBut _ _ S.Ti1 (hs0.extBut _ _ S.TOz hTO)
   refine wpAny_bind (wpAny_seqItems (s:=⟨p1,g,d,tk1,os⟩) hU1 rfl ?_)
   refine wpAny_bind (updateSeq_IsTupOf2 (s:=⟨p1,g,d,tk1,os⟩) hU1 fun g1 hT1 hs1=>?_)
   replace hT1:IsTupOf2 g1 TO x1 a2:=hT1
   replace hs1:Heap.SameBut TO p1 g1:=hs1
   refine wpAny_bind (wpAny_letGo (wpAny_pure ?_))
   have hi2:i=n2:=by omega
   refine wpAny_bind (wpAny_bind (wpAny_onRaise ?_))
   show wpAny _ _ (Builtin.SmallTypes.nextOf (.ref i2) >>= _) _ _ ⟨g1,g,d,tk1,os⟩
   refine wpAny_bind (D2.done ⟨g1,g,d,tk1,os⟩ _ _ (by rw [← hi2]; exact (D2.over (D2.over (D2.over st2 hs0 S.zf2) hp1 S.sep1_2) hs1 S.Tf2)) fun q e hq he=>?_)
   replace hq:Heap.ExtBut i2 g1 q:=hq
   obtain ⟨oe,hoe,hce⟩:=he
   replace hoe:q.get? e=some oe:=hoe
   have hzq:IsZp q z TI TO .ellipsis f1:=hq _ _ S.zi2 (hs1.extBut _ _ S.TOz.symm (hp1.extBut _ _ S.zi1 hz0))
   have hez:e≠z:=fun x=>by subst x; rw [hzq] at hoe; cases hoe; simp at hce
   refine wpAny_setField_rec (s:=⟨q,g,d,tk1,os⟩) hzq (by simp) fun q' _ hq'=>?_
   replace hq':Heap.SameBut z q q':=hq'
   exact hE q' tk1 e (fun c o cz cT c1 c2 x=>hq'.extBut _ _ cz (hq _ _ c2 (hs1.extBut _ _ cT (hp1.extBut _ _ c1 (hs0.extBut _ _ cz x))))) ⟨oe,hq'.extBut _ _ hez hoe,hce⟩
  ·have hi1:i=n1:=by omega
   refine wpAny_bind (D1.done ⟨g0,g,d,tk0,os⟩ _ _ (by rw [← hi1]; exact (D1.over st1 hs0 S.zf1)) fun q e hq he=>?_)
   replace hq:Heap.ExtBut i1 g0 q:=hq
   obtain ⟨oe,hoe,hce⟩:=he
   replace hoe:q.get? e=some oe:=hoe
   have hzq:IsZp q z TI TO .ellipsis f1:=hq _ _ S.zi1 hz0
   have hez:e≠z:=fun x=>by subst x; rw [hzq] at hoe; cases hoe; simp at hce
   refine wpAny_setField_rec (s:=⟨q,g,d,tk0,os⟩) hzq (by simp) fun q' _ hq'=>?_
   replace hq':Heap.SameBut z q q':=hq'
   exact hE q' tk0 e (fun c o cz cT c1 c2 x=>hq'.extBut _ _ cz (hq _ _ c1 (hs0.extBut _ _ cz x))) ⟨oe,hq'.extBut _ _ hez hoe,hce⟩
 ·simp only [Bool.false_eq_true,if_false]
  replace hs':Heap.SameBut z hp h':=hs'
  refine wpAny_bind ?_
  simp only [List.forIn_toArray,List.forIn_cons,List.forIn_nil]
  refine wpAny_bind (wpAny_bind (wpAny_holding ?_))
  show wpAny _ _ (Builtin.SmallTypes.nextOf (.ref i1) >>= _) _ _ ⟨h',g,d,tk0,os⟩
  by_cases hlt1:i < n1
  ·refine wpAny_bind (D1.item i _ _ _ hlt1 (D1.over st1 hs' S.zf1) fun x1 p1 tk1 hx1 sn1 hp1=>wpAny_pure ?_)
   replace hp1:Heap.SameBut i1 h' p1:=hp1
   refine wpAny_pure ?_
   have hi2:i=n2:=by omega
   refine wpAny_bind (wpAny_bind (wpAny_holding ?_))
   show wpAny _ _ (Builtin.SmallTypes.nextOf (.ref i2) >>= _) _ _ ⟨p1,g,d,tk1,os⟩
   refine wpAny_bind (D2.done ⟨p1,g,d,tk1,os⟩ _ _ (by rw [← hi2]; exact (D2.over (D2.over st2 hs' S.zf2) hp1 S.sep1_2)) fun q e hq he=>?_)
   replace hq:Heap.ExtBut i2 p1 q:=hq
   exact hE q tk1 e (fun c o cz cT c1 c2 x=>hq _ _ c2 (hp1.extBut _ _ c1 (hs'.extBut _ _ cz x))) he
  ·have hi1:i=n1:=by omega
   refine wpAny_bind (D1.done ⟨h',g,d,tk0,os⟩ _ _ (by rw [← hi1]; exact (D1.over st1 hs' S.zf1)) fun q e hq he=>?_)
   replace hq:Heap.ExtBut i1 h' q:=hq
   exact hE q tk0 e (fun c o cz cT c1 c2 x=>hq _ _ c1 (hs'.extBut _ _ cz x)) he
theorem zhy {Q:Value→Shared→Prop} (hz:IsZp s.heap z TI TO f0 f1) (h:wpAny (model prog w) A.in1 (Builtin.«zip.__next__» ⟨[.ref z],[]⟩) (fun fin s'=>∃v,fin=.done (.ret v)∧Q v s') E s):
  wpAny (model prog w) A (Builtin.SmallTypes.nextOf (.ref z)) Q E s:=by
 have hT:s.TypeIs (.ref z) "zip":=⟨_,hz,rfl⟩
 unfold Builtin.SmallTypes.nextOf
 refine wpAny_bind (wpAny_callSpecial?_slot (name:=Str.ofString "__next__") hT F.slot_zip_next (wpAny_call_entry F.slot_zip_next hT F.entry_zip_next ?_ (F.args_zip_next_1 _)))
 exact wpAny_mono h (fun fin s' ⟨v,e,q⟩=>⟨v,e,wpAny_pure q⟩) fun _ _ q=>q
theorem zle {e:Addr} {old:Value} {Q:Value→Shared→Prop} (S:ZipSep2 z TI TO i1 i2 fp1 fp2) (D1:Draws prog w A.in1 i1 fp1 n1 P1 St1) (D2:Draws prog w A.in1 i2 fp2 n2 P2 St2) (he:IsEnum s.heap e z i old)
  (hz:IsZp s.heap z TI TO f0 f1) (ok:OkF f0 f1) (hTI:IsTupOf2 s.heap TI (.ref i1) (.ref i2)) (hTO:IsTupOf2 s.heap TO a1 a2) (st1:St1 i s.heap) (st2:St2 i s.heap) (hlt1:i < n1) (hlt2:i < n2)
  (ez:e≠z) (eT:e≠TO) (eI:e≠TI) (e1:e∉fp1) (e2:e∉fp2)
  (hQ:∀x1 x2 h' tk g0 g1 y1 y2,P1 i x1→P2 i x2→IsEnumOut h' e z ((i:Int)+1) (.ref s.heap.objs.size) (s.heap.objs.size+1)→IsZp h' z TI TO g0 g1→OkF g0 g1→IsTupOf2 h' TO y1 y2→St1 (i+1) h'→St2 (i+1) h'→IsTupOf2 h' s.heap.objs.size x1 x2→
    h'.get? (s.heap.objs.size+1)=some { cls:=.type "tuple",data:=.seq #[.int i tk,.ref s.heap.objs.size] }→h'.objs.size=s.heap.objs.size+2→
    (∀c o,c≠e→c≠z→c≠TO→c≠i1→c≠i2→s.heap.get? c=some o→h'.get? c=some o)→Q (.ref (s.heap.objs.size+1)) { s with heap:=h',toks:=tk+1 }):
  wpAny (model prog w) A (Builtin.«enumerate.__next__» ⟨[.ref e],[]⟩) (fun fin s'=>∃v,fin=.done (.ret v)∧Q v s') E s:=by
 obtain ⟨hp,g,d,tk₀,os⟩:=s
 have ei1:e≠i1:=fun q=>e1 (q ▸ S.mem1)
 have ei2:e≠i2:=fun q=>e2 (q ▸ S.mem2)
 show wpAny _ _ (field (.ref e) 2 >>= _) _ _ _
 refine wpAny_bind (wpAny_field he rfl (x:=.ref z) rfl ?_)
 refine wpAny_bind (zhy hz (zmP S D1 D2 hz ok hTI hTO st1 st2 hlt1 hlt2 fun x1 x2 h₁ tk g0 g1 y1 y2 hx1 hx2 hz₁ ok₁ hTO₁ hs1 hs2 hT₁ hsz₁ hk₁=>?_))
 have he₁:IsEnum h₁ e z i old:=hk₁ e _ ez eT ei1 ei2 he
 replace hT₁:IsTupOf2 h₁ hp.objs.size x1 x2:=hT₁
 replace hsz₁:h₁.objs.size=hp.objs.size+1:=hsz₁
 replace hk₁:∀c o,c≠z→c≠TO→c≠i1→c≠i2→hp.get? c=some o→h₁.get? c=some o:=hk₁
 have hel:e < hp.objs.size:=Heap.lt_size he
 show wpAny _ _ (field (.ref e) 3 >>= _) _ _ ⟨h₁,g,d,tk,os⟩
 refine wpAny_bind (wpAny_field he₁ rfl (x:=rawInt i) rfl ?_)
 show wpAny _ _ (field (.ref e) 4 >>= _) _ _ ⟨h₁,g,d,tk,os⟩
 refine wpAny_bind (wpAny_field he₁ rfl (x:=.none) rfl ?_)
 show wpAny _ _ (mkInt i >>= _) _ _ ⟨h₁,g,d,tk,os⟩
 refine wpAny_bind (wpAny_mkInt ?_)
 show wpAny _ _ (setField (.ref e) 3 (rawInt ((i:Int)+1)) >>= _) _ _ ⟨h₁,g,d,tk+1,os⟩
 refine wpAny_bind (wpAny_setField_rec he₁ (by simp) fun h₂ he₂ hs₂=>?_)
 replace hs₂:Heap.SameBut e h₁ h₂:=hs₂
 replace he₂:IsEnum h₂ e z ((i:Int)+1) old:=he₂
 show wpAny _ _ (setField (.ref e) 4 .none >>= _) _ _ ⟨h₂,g,d,tk+1,os⟩
 refine wpAny_bind (wpAny_setField_rec he₂ (by simp) fun h₃ he₃ hs₃=>?_)
 replace hs₃:Heap.SameBut e h₂ h₃:=hs₃
 replace he₃:IsEnum h₃ e z ((i:Int)+1) old:=he₃
 show wpAny _ _ (newTuple [.int i tk,.ref hp.objs.size] >>= _) _ _ ⟨h₃,g,d,tk+1,os⟩
 refine wpAny_bind (wpAny_newTuple ?_)
 have he₄:IsEnum (h₃.push { cls:=.type "tuple",data:=.seq #[.int i tk,.ref hp.objs.size] }) e z ((i:Int)+1) old:=Heap.get?_push_of_some _ he₃
 generalize hh₄:h₃.push { cls:=.type "tuple",data:=.seq #[.int i tk,.ref hp.objs.size] }=h₄ at he₄
 have hsz:h₃.objs.size=hp.objs.size+1:=by rw [hs₃.1,hs₂.1,hsz₁]
 have ht₄:h₄.get? (hp.objs.size+1)=some { cls:=.type "tuple",data:=.seq #[.int i tk,.ref hp.objs.size] }:=by rw [← hh₄, ← hsz]; exact Heap.get?_push_size _ rfl
 have hz₄:h₄.objs.size=hp.objs.size+2:=by rw [← hh₄,Heap.size_push,hsz]
 have up:∀c o,c≠e→h₁.get? c=some o→h₄.get? c=some o:=fun c o ce hb=>by
  rw [← hh₄]; exact Heap.get?_push_of_some _ (hs₃.extBut c o ce (hs₂.extBut c o ce hb))
 show wpAny _ _ (Builtin.SmallTypes.ownedTupleIsFree (.ref e) >>= _) _ _ ⟨h₄,g,d,tk+1,os⟩
 rw [hsz]
 refine wpAny_bind ?_
 unfold Builtin.SmallTypes.ownedTupleIsFree
 refine wpAny_bind (wpAny_field he₄ rfl (x:=.none) rfl (wpAny_pure ?_))
 simp only [if_true]
 refine wpAny_bind (wpAny_rule ?_)
 refine wpAny_bind (wpAny_field he₄ rfl (x:=old) rfl ?_)
 refine wpAny_bind (wpAny_setField_rec he₄ (by simp) fun h₅ he₅ hs₅=>?_)
 replace hs₅:Heap.SameBut e h₄ h₅:=hs₅
 replace he₅:IsEnum h₅ e z ((i:Int)+1) (.ref hp.objs.size):=he₅
 show wpAny _ _ (Builtin.SmallTypes.ownedTupleHandOut (.ref e) (.ref (hp.objs.size+1)) >>= _) _ _ ⟨h₅,g,d,tk+1,os⟩
 refine wpAny_bind ?_
 unfold Builtin.SmallTypes.ownedTupleHandOut
 refine wpAny_bind (wpAny_setField_rec he₅ (by simp) fun h₆ he₆ hs₆=>?_)
 replace hs₆:Heap.SameBut e h₅ h₆:=hs₆
 replace he₆:IsEnumOut h₆ e z ((i:Int)+1) (.ref hp.objs.size) (hp.objs.size+1):=he₆
 refine wpAny_setField_rec he₆ (by simp) fun h₇ he₇ hs₇=>?_
 replace hs₇:Heap.SameBut e h₆ h₇:=hs₇
 replace he₇:IsEnumOut h₇ e z ((i:Int)+1) (.ref hp.objs.size) (hp.objs.size+1):=he₇
 have u7:∀c o,c≠e→h₄.get? c=some o→h₇.get? c=some o:=fun c o ce hb=>hs₇.extBut c o ce (hs₆.extBut c o ce (hs₅.extBut c o ce hb))
 have up7:∀c o,c≠e→h₁.get? c=some o→h₇.get? c=some o:=fun c o ce hb=>u7 c o ce (up c o ce hb)
 refine wpAny_bind (wpAny_letGo (wpAny_pure ⟨_,rfl, ?_⟩))
 exact hQ x1 x2 h₇ tk g0 g1 y1 y2 hx1 hx2 he₇ (up7 _ _ (Ne.symm ez) hz₁) ok₁ (up7 _ _ (Ne.symm eT) hTO₁) (D1.frame _ _ _ hs1 fun b hb o y=>up7 b o (fun q=>e1 (q ▸ hb)) y) (D2.frame _ _ _ hs2 fun b hb o y=>up7 b o (fun q=>e2 (q ▸ hb)) y)
  (up7 _ _ (Nat.ne_of_gt hel) hT₁) (u7 _ _ (Nat.ne_of_gt (Nat.lt_succ_of_lt hel)) ht₄) (by rw [hs₇.1,hs₆.1,hs₅.1,hz₄]) fun c o ce cz cT c1 c2 hb=>up7 c o ce (hk₁ c o cz cT c1 c2 hb)
end
set_option maxHeartbeats 1000000 in
theorem zmr {z TI TO:Addr}:
  Meets (Builtin.«enumerate.__new__» ⟨[.type "enumerate",.ref z],[]⟩) (fun _ R s=>IsZip s.heap z TI TO .none∧
    R (.ok (.ret (.ref s.heap.objs.size))) { s with heap:=s.heap.push { cls:=.type "enumerate",data:=.fields #[.none,.bool false,.ref z,rawInt 0,.none,.none] } }):=
 .of_wp fun prog w A R s h=>by
  obtain ⟨hp,g,d,tk,os⟩:=s; obtain ⟨h1,h⟩:=h
  have hsub:=sub_enumerate
  have q1:∀ {A':Around} {E:Value→Shared→Prop} {Q:Value→Shared→Prop},Q (.ref z) ⟨hp,g,d,tk,os⟩→wpAny (model prog w) A' (pyIter (.ref z)) Q E ⟨hp,g,d,tk,os⟩:=
   fun q=>wpAny_pyIter_zip h1 q
  wp_walk using q1
  refine wpAny_stack_any fun st=>wpAny_pure ?_
  split
  ·rename_i c _ _ _ _ _
   cases (c==Value.type "enumerate")
   ·wp_walk using q1
    exact ⟨_,rfl,h⟩
   ·wp_walk using q1
    exact ⟨_,rfl,h⟩
  ·wp_walk using q1
   exact ⟨_,rfl,h⟩
section
variable {prog:Program} {w:World} {A:Around} {E:Value→Shared→Prop} {s:Shared} {z TI TO:Addr}
theorem zlo {Q:Value→Shared→Prop} (h1:IsZip s.heap z TI TO .none)
  (h:∀h',IsEnum h' s.heap.objs.size z 0 .none→h'.objs.size=s.heap.objs.size+1→(∀b o,s.heap.get? b=some o→h'.get? b=some o)→Q (.ref s.heap.objs.size) { s with heap:=h' }):
  wpAny (model prog w) A (call (.type "enumerate") [.ref z]) Q E s:=by
 refine callType_new F.called_enumerate (by decide) (F.typeCall_enumerate_1 _) (F.newCall_enumerate_1 _) (fun obj=>F.args_object_init_2 obj _) F.entry_enumerate_new
  (zmr) ⟨h1, ?_⟩
 have he:IsEnum (s.heap.push { cls:=.type "enumerate",data:=.fields #[.none,.bool false,.ref z,rawInt 0,.none,.none] }) s.heap.objs.size z 0 .none:=Heap.get?_push_size _ rfl
 exact ⟨⟨_,he,rfl⟩,h _ he (Heap.size_push ..) fun b o x=>Heap.get?_push_of_some _ x⟩
end
end PySem
namespace Mi
open PySem PySem.Spec PyProof.Rows L2
def ItzE (p q:Bool) (K:PySem.W.Frag) (a b:Addr):L2.It:=
 ⟨fun i H=>∃(xs ys:List V) (x y:V),Sq p K H a xs∧Sq q K H b ys∧xs[i]?=some x∧ys[i]?=some y,
   fun i H v H'=>∃T U x y,v=.ref U∧H T=none∧H U=none∧T≠U∧H'=upd (upd H T (.tup [x,y])) U (.tup [.int (i:Nat),.ref T])∧(∀xs,Sq p K H a xs→xs[i]?=some x)∧∀ys,Sq q K H b ys→ys[i]?=some y,
   fun i H=>∃xs ys:List V,Sq p K H a xs∧Sq q K H b ys∧(xs.length≤i∨ys.length≤i)⟩
structure zl2 (e z TI TO i1 i2 a b:Addr):Prop where
 z:e≠z
 TI:e≠TI
 TO:e≠TO
 i1:e≠i1
 i2:e≠i2
 a:e≠a
 b:e≠b
theorem zlE {p q:Bool} {P:Program} {w:World} {K:PySem.W.Frag} {elts:List Expr} {kk:Nat} {tpos:Pos} {a b e z TI TO i1 i2:Addr} (D:ZipApart z TI TO i1 i2 a b) (G:zl2 e z TI TO i1 i2 a b):
  Turn P w K (.Tuple elts kk tpos) (ItzE p q K a b) [e,z,TI,TO,i1,i2] e (fun i h=>(∃old,IsEnum h e z ((i:Nat):Int) old)∧(∃f0 f1,IsZp h z TI TO f0 f1∧OkF f0 f1)∧IsTupOf2 h TI (.ref i1) (.ref i2)∧(∃x y,IsTupOf2 h TO x y)∧IsIt p h i1 a i∧IsIt q h i2 b i) where
 mem:=by simp
 obj:=fun i h st c hc=>by
  obtain ⟨⟨old,he⟩,⟨f0,f1,hz,_⟩,hTI,⟨x,y,hTO⟩,h1,h2⟩:=st
  have e':c=e∨c=z∨c=TI∨c=TO∨c=i1∨c=i2:=by simpa using hc
  rcases e' with q | q | q | q | q | q
  ·rw [q]; exact ⟨_,he,fun v q=>nomatch q⟩
  ·rw [q]; exact ⟨_,hz,fun v q=>nomatch q⟩
  ·rw [q]; exact ⟨_,hTI,fun v q=>nomatch q⟩
  ·rw [q]; exact ⟨_,hTO,fun v q=>nomatch q⟩
  ·rw [q]; exact h1.obj
  ·rw [q]; exact h2.obj
 keep:=fun i h h' st k=>by
  obtain ⟨⟨old,he⟩,⟨f0,f1,hz,ok⟩,hTI,⟨x,y,hTO⟩,h1,h2⟩:=st
  exact ⟨⟨old,k e (by simp) _ he⟩,⟨f0,f1,k z (by simp) _ hz,ok⟩,k TI (by simp) _ hTI,⟨x,y,k TO (by simp) _ hTO⟩,h1.at fun o q=>k i1 (by simp) o q,h2.at fun o q=>k i2 (by simp) o q⟩
 item:=by
  intro X hP hw hK hc i pins s σ H E I hf st hg
  subst hP hw hK
  obtain ⟨⟨old,he⟩,⟨f0,f1,hz,ok⟩,hTI,⟨x0,y0,hTO⟩,h1,h2⟩:=st
  obtain ⟨xs,ys,x,y,hqx,hqy,hx,hy⟩:=hg
  obtain ⟨its,rv,p1⟩:=hqx.laid I
  obtain ⟨its2,rv2,p2⟩:=hqy.laid I
  obtain ⟨u,hu,ru⟩:=rv.get hx
  obtain ⟨u2,hu2,ru2⟩:=rv2.get hy
  have hel:e < s.heap.objs.size:=Heap.lt_size he
  have hd:X.A.in1.in1.handled=none:=I.ok.hd hc
  have hT:s.TypeIs (.ref e) "enumerate":=⟨_,he,rfl⟩
  unfold pyNext
  refine wpAny_bind (wpAny_attempt (wpAny_callSpecial?_slot (name:=Str.ofString "__next__") hT F.slot_enumerate_next
    (wpAny_call_entry F.slot_enumerate_next hT F.entry_enumerate_next
      (zle (zeF D) (zaL (p:=p) hd i1 a D.l1i1 its.toArray) (zaL (p:=q) hd i2 b D.l2i2 its2.toArray) he hz ok hTI hTO ⟨h1,p1⟩ ⟨h2,p2⟩ (i:=i) (by have:=(List.getElem?_eq_some_iff.mp hu).1; simpa using this) (by have:=(List.getElem?_eq_some_iff.mp hu2).1; simpa using this)
        G.z G.TO G.TI (by simp [G.i1,G.a]) (by simp [G.i2,G.b]) fun v1 v2 h' tk g0 g1 y1 y2 q1 q2 he' z' ok' TO' h1' h2' hT1 hT2 hsz hk=>wpAny_pure ?_) (F.args_enumerate_next_1 _))))
  have q1:v1=u:=by
   have q1:its.toArray[i]?=some v1:=q1
   have:its[i]?=some v1:=by simpa using q1
   rw [hu] at this
   exact (Option.some.inj this).symm
  have q2:v2=u2:=by
   have q2:its2.toArray[i]?=some v2:=q2
   have:its2[i]?=some v2:=by simpa using q2
   rw [hu2] at this
   exact (Option.some.inj this).symm
  subst q1 q2
  refine ⟨_,rfl,wpAny_letOwnedTupleGo_enum (s:={ s with heap:=h',toks:=tk+1 }) he' fun h'' he'' sb=>?_⟩
  have hn:s.heap.objs.size≠e:=Nat.ne_of_gt hel
  have hn1:s.heap.objs.size+1≠e:=Nat.ne_of_gt (Nat.lt_succ_of_lt hel)
  have hT1':h''.get? s.heap.objs.size=some { cls:=.type "tuple",data:=.seq #[v1,v2] }:=(sb.2 _ hn).trans hT1
  have hT2':h''.get? (s.heap.objs.size+1)=some { cls:=.type "tuple",data:=.seq #[.int i tk,.ref s.heap.objs.size] }:=(sb.2 _ hn1).trans hT2
  have lt:∀c∈[e,z,TI,TO,i1,i2],c < s.heap.objs.size:=fun c hcm=>by
   have e':c=e∨c=z∨c=TI∨c=TO∨c=i1∨c=i2:=by simpa using hcm
   rcases e' with q | q | q | q | q | q
   ·rw [q]; exact hel
   ·rw [q]; exact Heap.lt_size hz
   ·rw [q]; exact Heap.lt_size hTI
   ·rw [q]; exact Heap.lt_size hTO
   ·rw [q]; obtain ⟨_,e1,_⟩:=h1.obj; exact Heap.lt_size e1
   ·rw [q]; obtain ⟨_,e2,_⟩:=h2.obj; exact Heap.lt_size e2
  have o1:(s.heap.push { cls:=.type "tuple",data:=.seq #[v1,v2] }).get? s.heap.objs.size=some { cls:=.type "tuple",data:=.seq #[v1,v2] }:=Heap.get?_push_size _ rfl
  have I1:Inv X pins σ (upd H s.heap.objs.size (.tup [x,y])) { s with heap:=s.heap.push { cls:=.type "tuple",data:=.seq #[v1,v2] },toks:=s.toks }:=
   I.laid (t':=s.toks) (a:=s.heap.objs.size) (o:=.tup [x,y]) (h':=s.heap.push { cls:=.type "tuple",data:=.seq #[v1,v2] }) (fun b u q=>Heap.get?_push_of_some _ q) (Nat.le_refl _)
    ⟨by show 2≤sizeLine; decide,[v1,v2],.cons ru (.cons ru2 .nil),⟨_,o1,rfl,_,rfl⟩⟩
  have new:ObjOk X.prog X.w (upd (upd H s.heap.objs.size (.tup [x,y])) (s.heap.objs.size+1) (.tup [.int (i:Nat),.ref s.heap.objs.size])) h'' (s.heap.objs.size+1) (.tup [.int (i:Nat),.ref s.heap.objs.size]):=
   ⟨by show 2≤sizeLine; decide,[.int i tk,.ref s.heap.objs.size],.cons ⟨_,rfl⟩ (.cons rfl .nil),⟨_,hT2',rfl,_,rfl⟩⟩
  have I2:Inv X pins σ (upd (upd H s.heap.objs.size (.tup [x,y])) (s.heap.objs.size+1) (.tup [.int (i:Nat),.ref s.heap.objs.size])) { s with heap:=h'',toks:=tk+1 }:=
   I1.turnedNew (t':=tk+1) (ch:=[e,z,TI,TO,i1,i2]) (h':=h'') (fun c o hb q=>by
     by_cases hcn:c=s.heap.objs.size
     · subst hcn
       have q:(s.heap.push { cls:=.type "tuple",data:=.seq #[v1,v2] }).get? s.heap.objs.size=some o:=q
       rw [o1] at q
       cases q
       exact hT1'
     · have q:(s.heap.push { cls:=.type "tuple",data:=.seq #[v1,v2] }).get? c=some o:=q
       have q0:s.heap.get? c=some o:=by
         rw [Heap.get?_push_ne _ _ _ hcn] at q
         exact q
       exact (sb.2 c (fun q'=>hb (by simp [q']))).trans (hk c o (fun q'=>hb (by simp [q'])) (fun q'=>hb (by simp [q'])) (fun q'=>hb (by simp [q'])) (fun q'=>hb (by simp [q'])) (fun q'=>hb (by simp [q'])) q0))
    (fun b hb=>by
      obtain ⟨f0,f1,f2,f3,f4,f5⟩:=hf b hb
      exact ⟨by rw [upd_ne (Nat.ne_of_lt (lt b hb))]; exact f0,f1,f2,f3,f4,f5⟩) (by rw [Heap.size_push]; exact Nat.le_refl _) new
  refine ⟨.ref (s.heap.objs.size+1),_,I2,rfl,⟨s.heap.objs.size,s.heap.objs.size+1,x,y,rfl,I.hok.fresh (Nat.le_refl _),I.hok.fresh (Nat.le_succ _),Nat.ne_of_lt (Nat.lt_succ_self _),rfl,fun l hl=>by rw [Sq.inj I hl hqx]; exact hx,fun l hl=>by rw [Sq.inj I hl hqy]; exact hy⟩,⟨⟨.ref s.heap.objs.size, ?_⟩,⟨g0,g1,(sb.2 _ (Ne.symm G.z)).trans z',ok'⟩, ?_,⟨y1,y2,(sb.2 _ (Ne.symm G.TO)).trans TO'⟩, ?_, ?_⟩,fun c hcm=>?_⟩
  ·have e1:((i+1:Nat):Int)=(i:Int)+1:=by omega
   rw [e1]; exact he''
  ·exact (sb.2 _ (Ne.symm G.TI)).trans (hk _ _ (Ne.symm G.TI) D.TIz D.TITO D.TIi1 D.TIi2 hTI)
  ·exact h1'.1.at fun o q=>(sb.2 _ (Ne.symm G.i1)).trans q
  ·exact h2'.1.at fun o q=>(sb.2 _ (Ne.symm G.i2)).trans q
  ·have hlt:=lt c hcm
   rw [upd_ne (Nat.ne_of_lt (Nat.lt_succ_of_lt hlt)),upd_ne (Nat.ne_of_lt hlt)]
   exact (hf c hcm).1
 done:=by
  intro X hP hw hK hc i pins s σ H E I hf st hg
  subst hP hw hK
  obtain ⟨⟨old,he⟩,⟨f0,f1,hz,ok⟩,hTI,⟨x0,y0,hTO⟩,h1,h2⟩:=st
  obtain ⟨xs,ys,hqx,hqy,hend⟩:=hg
  obtain ⟨its,rv,p1⟩:=hqx.laid I
  obtain ⟨its2,rv2,p2⟩:=hqy.laid I
  have l1:=rv.length
  have l2:=rv2.length
  have hd:X.A.in1.in1.handled=none:=I.ok.hd hc
  have hTy:s.TypeIs (.ref e) "enumerate":=⟨_,he,rfl⟩
  unfold pyNext
  refine wpAny_bind (wpAny_attempt (wpAny_callSpecial?_slot (name:=Str.ofString "__next__") hTy F.slot_enumerate_next
    (wpAny_call_entry F.slot_enumerate_next hTy F.entry_enumerate_next ?_ (F.args_enumerate_next_1 _))))
  show wpAny _ _ (field (.ref e) 2 >>= _) _ _ _
  refine wpAny_bind (wpAny_field he rfl (x:=.ref z) rfl ?_)
  refine wpAny_bind (zhy hz ?_)
  have fin:∀h' tk x,(∀c o,c≠z→c≠TO→c≠i1→c≠i2→s.heap.get? c=some o→h'.get? c=some o)→(∃o,h'.get? x=some o∧o.cls=.type "StopIteration")→
    wpAny (model X.prog X.w) X.A (do if ← isInstance (.ref x) (.type "StopIteration") then pure none else throw (.ref x):Sem (Option Value)) (fun r s1=>r=none∧Inv X pins σ H s1) E { s with heap:=h',toks:=tk }:=fun h' tk x hk hx=>by
   obtain ⟨o,ho,hc'⟩:=hx
   refine wpAny_bind (wpAny_isInstance (T:="StopIteration") (b:=true) ⟨o,ho,hc'⟩ isSubtype_stop ?_)
   exact wpAny_pure ⟨rfl,I.turnedL (t':=tk) (ch:=[e,z,TI,TO,i1,i2]) (fun c o hb q=>hk c o (fun q'=>hb (by simp [q'])) (fun q'=>hb (by simp [q'])) (fun q'=>hb (by simp [q'])) (fun q'=>hb (by simp [q'])) q) hf⟩
  by_cases c1:i < its.length
  ·have c2:its2.length≤i:=by omega
   exact zkl (zeF D) (zaL (p:=p) hd i1 a D.l1i1 its.toArray) (zaV (p:=q) hd i2 b i its2.toArray (by simp; omega)) hz ok hTI hTO ⟨h1,p1⟩ ⟨rfl,h2,p2⟩ (i:=i) (by simp; omega) (Nat.le_refl _) (.inr rfl) fin
  ·by_cases c2:i < its2.length
   ·exact zkl (zeF D) (zaV (p:=p) hd i1 a i its.toArray (by simp; omega)) (zaL (p:=q) hd i2 b D.l2i2 its2.toArray) hz ok hTI hTO ⟨rfl,h1,p1⟩ ⟨h2,p2⟩ (i:=i) (Nat.le_refl _) (by simp; omega) (.inl rfl) fin
   ·exact zkl (zeF D) (zaV (p:=p) hd i1 a i its.toArray (by simp; omega)) (zaV (p:=q) hd i2 b i its2.toArray (by simp; omega)) hz ok hTI hTO ⟨rfl,h1,p1⟩ ⟨rfl,h2,p2⟩ (i:=i) (Nat.le_refl _) (Nat.le_refl _) (.inl rfl) fin
 self:=fun A i s Q E st h=>let ⟨⟨_,he⟩,_⟩:=st; wpAny_pyIter_enum he h
def iEnZ (K:PySem.W.Frag) (ta:TA):TI:=fun σ H R=>ta σ H fun vs H1=>∃a b xs ys p q,vs=[.ref a,.ref b]∧Sq p K H1 a xs∧Sq q K H1 b ys∧R (ItzE p q K a b) H1
theorem zq2 {X:Cx} {e e2:Expr} {ta:TA} {p p2 pos pos2 tpos:Pos} {elts:List Expr} {kk:Nat} (hg:Gl X "enumerate") (hm:X.mg "enumerate"=none) (hg2:Gl X "zip") (hm2:X.mg "zip"=none) (ha:PA X [e,e2] ta)
  (hs:starEach [e,e2] X.env=(false,eval e X.env)::starEach [e2] X.env:=by rfl) (hpl:(backTo pos2 (starEach [e2] X.env)).any (·.1)=false:=by rfl):
  PI X (.Tuple elts kk tpos) (.Call (.Name "enumerate" p) [.Call (.Name "zip" p2) [e,e2] [] pos2] [] pos) (iEnZ X.K ta):=by
 refine ⟨fun pins s σ H R I h=>?_⟩
 refine Call_ (ld_blt I hg hm boot_enumerate (PyProof.Rows.callWith_type1 (PyProof.Rows.args_cons ?_ rfl) rfl rfl))
 refine Call_ (ld_blt I hg2 hm2 PyProof.Rows.boot_zip (PyProof.Rows.callWith_type1 (thn (ha.run pos2 pins s σ H _ I h) fun us s1 ⟨vs,H1,I1,r1,q1⟩=>?_) hs hpl))
 obtain ⟨a,b,xs,ys,f1,f2,ex,S1,S2,q⟩:=q1
 subst ex
 cases r1 with
 | cons r rr=>
  cases rr with
  | cons r' rr=>
   cases rr
   cases r
   cases r'
   obtain ⟨its,rv,p1⟩:=S1.laid I1
   obtain ⟨its2,rv2,p2⟩:=S2.laid I1
   refine zip_begins2 (zbI (p:=f1) a its.toArray) (zbI (p:=f2) b its2.toArray) p1 p2 fun h' hz hTI hTO h1 h2 hsz hk=>PyProof.Rows.args_nil ?_
   refine zlo (s:={ s1 with heap:=h' }) hz fun h'' he hsz2 hk2=>wpAny_pyIter_enum he ?_
   replace hsz2:h''.objs.size=h'.objs.size+1:=hsz2
   have he:IsEnum h'' h'.objs.size (s1.heap.objs.size+4) 0 .none:=he
   have I2:Inv X pins σ H1 { s1 with heap:=h'' }:=I1.kept (t':=s1.toks) fun c o e=>hk2 c o (hk c o e)
   have fresh6:∀c,c∈[h'.objs.size,s1.heap.objs.size+4,s1.heap.objs.size+2,s1.heap.objs.size+3,s1.heap.objs.size,s1.heap.objs.size+1]→FpOk X pins H1 c:=fun c hcm=>by
    have e':c=h'.objs.size∨c=s1.heap.objs.size+4∨c=s1.heap.objs.size+2∨c=s1.heap.objs.size+3∨c=s1.heap.objs.size∨c=s1.heap.objs.size+1:=by simpa using hcm
    have hle:s1.heap.objs.size≤c:=by
     have:∀x y:Nat,x≤x+y:=fun x y=>Nat.le_add_right _ _
     rcases e' with z | z | z | z | z | z
     ·rw [z,hsz]; exact this _ 5
     ·rw [z]; exact this _ 4
     ·rw [z]; exact this _ 2
     ·rw [z]; exact this _ 3
     ·rw [z]; exact Nat.le_refl _
     ·rw [z]; exact this _ 1
    exact I1.fpOk hle (I1.hok.fresh hle)
   have la:=p1.lt
   have lb:=p2.lt
   have G:zl2 h'.objs.size (s1.heap.objs.size+4) (s1.heap.objs.size+2) (s1.heap.objs.size+3) s1.heap.objs.size (s1.heap.objs.size+1) a b:=by
    rw [hsz]
    generalize s1.heap.objs.size=n at la lb
    have la:a < n:=la
    have lb:b < n:=lb
    have ne:∀ {x y:Nat},y < x→x≠y:=fun h e=>Nat.lt_irrefl _ (e ▸ h)
    exact ⟨ne (Nat.lt_succ_self _),ne (Nat.add_lt_add_left (by decide) n),ne (Nat.add_lt_add_left (by decide) n),ne (Nat.lt_add_of_pos_right (by decide)),ne (Nat.add_lt_add_left (by decide) n),ne (Nat.lt_of_lt_of_le la (Nat.le_add_right _ _)),ne (Nat.lt_of_lt_of_le lb (Nat.le_add_right _ _))⟩
   exact ⟨h'.objs.size,_,_,ItzE f1 f2 X.K a b,H1,rfl,I2,zlE (PySem.W.ktu_apart s1.heap.objs.size a b la lb) G,⟨⟨.none,he⟩,⟨.none,.bool false,hk2 _ _ hz,.inl rfl,_,rfl⟩,hk2 _ _ hTI,⟨_,_,hk2 _ _ hTO⟩,(zfg h1).at fun o q=>hk2 _ _ q,(zfg h2).at fun o q=>hk2 _ _ q⟩,fresh6,q⟩
end Mi
end
section
set_option maxHeartbeats 4000000
namespace Mi
open PySem PySem.Spec PyProof.Rows L2
theorem Post.monoE {α β:Type} {g:G} {E E':XK} {R:List Addr→Hp→α→β→Prop} {m:List Addr} {H:Hp} {r:Res α} {Q:β→Hp→Prop} (h:Post g E R m H r Q) (hE:∀c d H',E c d H'→E' c d H'):Post g E' R m H r Q:=by
 cases r with
 | ok d L'=>exact h
 | exc c fs L'=>exact fun m1 H1 dx e hr x=>hE _ _ _ (h m1 H1 dx e hr x)
 | stk=>exact h
theorem Post.calm {α β:Type} {g:G} {E':XK} {R:List Addr→Hp→α→β→Prop} {m:List Addr} {H:Hp} {r:Res α} {Q:β→Hp→Prop} (h:Post g (fun _ _ _=>False) R m H r Q):Post g E' R m H r Q:=h.monoE fun _ _ _ z=>z.elim
structure JR (g:G) (m0:List Addr) (H0:Hp) (w:Wk) (J:L2.It):Prop where
 stop:∀m L H i,Ev m0 H0 m H→HRel g m L H→w.at L i=some none→J.stop i H
 item:∀m L H i d,Ev m0 H0 m H→HRel g m L H→w.at L i=some (some d)→J.go i H∧∀x H',J.yld i H x H'→Ev m H m H'∧HRel g m L H'∧RelD g m H' d x
theorem JR.mono {g:G} {m0 m1:List Addr} {H0 H1:Hp} {w:Wk} {J:L2.It} (h:JR g m0 H0 w J) (e:Ev m0 H0 m1 H1):JR g m1 H1 w J:=
 ⟨fun m L H i e1=>h.stop m L H i (e.trans e1),fun m L H i d e1=>h.item m L H i d (e.trans e1)⟩
def RJ (g:G):List Addr→Hp→Wk→L2.It→Prop:=JR g
def tMI (g:G) (W:WX) (f:Loc→M Wk):TI:=fun σ H R=>∃m L ρ,HRel g m L H∧LRel g m H ρ σ∧Post g (fun c d H'=>W c d σ H') (RJ g) m H (f ρ L) R
theorem zfh {X:Cx} {tg e:Expr} {t t':TI} (h:PI X tg e t) (k:∀ σ H Q,t' σ H Q→t σ H Q):PI X tg e t':=⟨fun pins s σ H R I q=>h.run pins s σ H R I (k σ H R q)⟩
inductive SR (g:G) (m:List Addr) (H:Hp):Src→V→Prop where
 | lst {n:Nat} {a:Addr} (h:m[n]?=some a):SR g m H (.lst n) (.ref a)
 | fzl {xs:List D} {vs:List V} {a:Addr} (h:FzL g.K H a vs) (r:RelDs g m H xs vs):SR g m H (.val xs) (.ref a)
theorem SR.mono {g:G} {m m':List Addr} {H H':Hp} {s:Src} {x:V} (h:SR g m H s x) (e:Ev m H m' H'):SR g m' H' s x:=by
 cases h with
 | lst h=>exact .lst (e.get h)
 | fzl h r=>exact .fzl (e.fzL h) (r.mono e)
theorem SR.at {g:G} {m:List Addr} {L:MH} {H:Hp} {s:Src} {x:V} {i:Nat} {o:Option D} (h:SR g m H s x) (hr:HRel g m L H) (e:s.at L i=some o):
  ∃a vs,x=.ref a∧SqL g.K H a vs∧(match o with | some d=>∃v,vs[i]?=some v∧RelD g m H d v | none=>vs.length≤i):=by
 have key:∀ {xs:List D} {vs:List V},RelDs g m H xs vs→xs[i]?=o→(match o with | some d=>∃v,vs[i]?=some v∧RelD g m H d v | none=>vs.length≤i):=fun {xs vs} r q=>by
  cases o with
  | some d=>exact r.get q
  | none=>
   have:=List.getElem?_eq_none_iff.mp q
   rw [r.length] at this
   exact this
 cases h with
 | lst hm=>
  simp only [Src.at] at e
  split at e
  ·rename_i xs q
   cases e
   obtain ⟨a,vs,h1,h2,h3⟩:=hr.lstAt q
   rw [hm] at h1
   cases h1
   exact ⟨_,vs,rfl,.inl (.inl h2),key h3 rfl⟩
  ·cases e
 | fzl h r=>
  simp only [Src.at] at e
  cases e
  exact ⟨_,_,rfl,h.sqL,key r rfl⟩
theorem zbR {g:G} {m:List Addr} {L:MH} {H:Hp} {d:D} {x:V} {xs:List D} (hr:HRel g m L H) (rd:RelD g m H d x) (h:zaD L d=some xs):∃s,zcz L d=some s∧SR g m H s x:=by
 cases rd with
 | ref hm=>
  simp only [zaD] at h
  split at h
  ·rename_i ys q
   cases h
   refine ⟨.lst _, ?_,.lst hm⟩
   simp only [zcz]
   rw [q]
  ·cases h
 | fzl h1 r=>exact ⟨_,rfl,.fzl h1 r⟩
 | _=>cases h
section
variable {g:G} {m0:List Addr} {H0:Hp}
theorem SqL.inj {X:Cx} {pins:List (Addr×Obj)} {σ:L2.St} {H:Hp} {s:Shared} {a:Addr} {xs ys:List V} (I:Inv X pins σ H s) (h1:SqL X.K H a xs) (h2:SqL X.K H a ys):xs=ys:=I.list_inj h1 h2
theorem zkO {s:Src} {a:Addr} (h:SR g m0 H0 s (.ref a)):JR g m0 H0 (.src s) (Itl g.K a):=by
 refine ⟨fun m L H i e hr q=>?_,fun m L H i d e hr q=>?_⟩
 ·obtain ⟨b,vs,e1,h1,h2⟩:=(h.mono e).at hr q
  cases e1
  exact ⟨vs,h1,h2⟩
 ·obtain ⟨b,vs,e1,h1,v,h2,h3⟩:=(h.mono e).at hr q
  cases e1
  refine ⟨⟨vs,v,h1,h2⟩,fun x H' ⟨e2,y⟩=>?_⟩
  subst e2
  have e3:=y vs h1
  rw [h2] at e3
  cases e3
  exact ⟨Ev.refl _ _,hr,h3⟩
theorem zqb {xs:List D} {vs:List V} {a:Addr} (h:SqT g.K H0 a vs) (r:RelDs g m0 H0 xs vs):JR g m0 H0 (.src (.val xs)) (Itt g.K a):=by
 refine ⟨fun m L H i e hr q=>?_,fun m L H i d e hr q=>?_⟩
 ·simp only [Wk.at,Src.at,Option.some.injEq] at q
  have:=List.getElem?_eq_none_iff.mp q
  rw [r.length] at this
  exact ⟨vs,e.sqT h,this⟩
 ·simp only [Wk.at,Src.at,Option.some.injEq] at q
  obtain ⟨v,h2,h3⟩:=r.get q
  refine ⟨⟨vs,v,e.sqT h,h2⟩,fun x H' ⟨e2,y⟩=>?_⟩
  subst e2
  have e3:=y vs (e.sqT h)
  rw [h2] at e3
  cases e3
  exact ⟨Ev.refl _ _,hr,h3.mono e⟩
theorem zqo {x:Str}:JR g m0 H0 (.src (.val (x.cps.toList.map fun c=>.str ⟨#[c]⟩))) (Its x):=by
 refine ⟨fun m L H i e hr q=>?_,fun m L H i d e hr q=>?_⟩
 ·simp only [Wk.at,Src.at,Option.some.injEq,List.getElem?_map,Option.map_eq_none_iff,Array.getElem?_toList] at q
  exact Array.getElem?_eq_none_iff.mp q
 ·simp only [Wk.at,Src.at,Option.some.injEq,List.getElem?_map,Array.getElem?_toList] at q
  cases q1:x.cps[i]? with
  | none=>rw [q1] at q; cases q
  | some c=>
   rw [q1] at q
   cases q
   refine ⟨(Array.getElem?_eq_some_iff.mp q1).1,fun v H' ⟨e2,c',e3,e4⟩=>?_⟩
   subst e2
   rw [q1] at e3
   cases e3
   subst e4
   exact ⟨Ev.refl _ _,hr,.str _⟩
theorem zmf {lo:Int} {n:Nat}:JR g m0 H0 (.rng lo n) (Itr lo n):=by
 refine ⟨fun m L H i e hr q=>?_,fun m L H i d e hr q=>?_⟩
 ·simp only [Wk.at,Option.some.injEq] at q
  split at q
  ·cases q
  ·show n≤i
   omega
 ·simp only [Wk.at,Option.some.injEq] at q
  split at q
  ·rename_i h
   cases q
   refine ⟨h,fun v H' ⟨e2,e3⟩=>?_⟩
   subst e2 e3
   exact ⟨Ev.refl _ _,hr,.int _⟩
  ·cases q
theorem znB {s:Src} {a:Addr} (h:SR g m0 H0 s (.ref a)):JR g m0 H0 (.enum s) (Ite g.K a):=by
 refine ⟨fun m L H i e hr q=>?_,fun m L H i d e hr q=>?_⟩
 ·simp only [Wk.at] at q
  cases q1:s.at L i with
  | none=>rw [q1] at q; cases q
  | some o=>
   rw [q1] at q
   cases o with
   | some d=>cases q
   | none=>
    obtain ⟨b,vs,e1,h1,h2⟩:=(h.mono e).at hr q1
    cases e1
    exact ⟨vs,h1,h2⟩
 ·simp only [Wk.at] at q
  cases q1:s.at L i with
  | none=>rw [q1] at q; cases q
  | some o=>
   rw [q1] at q
   cases o with
   | none=>cases q
   | some d0=>
    cases q
    obtain ⟨b,vs,e1,h1,v,h2,h3⟩:=(h.mono e).at hr q1
    cases e1
    refine ⟨⟨vs,v,h1,h2⟩,fun x H' ⟨T,x0,ex,hT,eH,y⟩=>?_⟩
    subst ex eH
    have e3:=y vs h1
    rw [h2] at e3
    cases e3
    have e4:=Ev.upd_free (m:=m) (ho:=.tup [.int (i:Nat),v]) hT
    exact ⟨e4,hr.laid hT,.tup (.inl (.inl upd_same)) (.cons (.int _) (.cons (h3.mono e4) .nil))⟩
theorem zkY {xs:List D} {vs:List V} {a:Addr} (h:SqT g.K H0 a vs) (r:RelDs g m0 H0 xs vs):JR g m0 H0 (.enum (.val xs)) (IteT g.K a):=by
 refine ⟨fun m L H i e hr q=>?_,fun m L H i d e hr q=>?_⟩
 ·simp only [Wk.at,Src.at,Option.map_some,Option.some.injEq,Option.map_eq_none_iff] at q
  have:=List.getElem?_eq_none_iff.mp q
  rw [r.length] at this
  exact ⟨vs,e.sqT h,this⟩
 ·simp only [Wk.at,Src.at,Option.map_some,Option.some.injEq] at q
  cases q1:xs[i]? with
  | none=>rw [q1] at q; cases q
  | some d0=>
   rw [q1] at q
   cases q
   obtain ⟨v,h2,h3⟩:=r.get q1
   refine ⟨⟨vs,v,e.sqT h,h2⟩,fun x H' ⟨T,x0,ex,hT,eH,y⟩=>?_⟩
   subst ex eH
   have e3:=y vs (e.sqT h)
   rw [h2] at e3
   cases e3
   have e4:=Ev.upd_free (m:=m) (ho:=.tup [.int (i:Nat),v]) hT
   exact ⟨e4,hr.laid hT,.tup (.inl (.inl upd_same)) (.cons (.int _) (.cons ((h3.mono e).mono e4) .nil))⟩
theorem zpL {s t:Src} {a b:Addr} (h:SR g m0 H0 s (.ref a)) (h':SR g m0 H0 t (.ref b)):JR g m0 H0 (.zip s t) (Itz g.K a b):=by
 refine ⟨fun m L H i e hr q=>?_,fun m L H i d e hr q=>?_⟩
 ·simp only [Wk.at] at q
  cases q1:s.at L i with
  | none=>rw [q1] at q; cases q
  | some o=>
   cases q2:t.at L i with
   | none=>simp [q1,q2] at q
   | some o'=>
    obtain ⟨c,vs,e1,h1,h2⟩:=(h.mono e).at hr q1
    obtain ⟨c',ws,e1',h1',h2'⟩:=(h'.mono e).at hr q2
    cases e1
    cases e1'
    refine ⟨vs,ws,h1,h1', ?_⟩
    cases o with
    | none=>exact .inl h2
    | some d=>
     cases o' with
     | none=>exact .inr h2'
     | some d'=>simp [q1,q2] at q
 ·simp only [Wk.at] at q
  cases q1:s.at L i with
  | none=>rw [q1] at q; cases q
  | some o=>
   cases q2:t.at L i with
   | none=>simp [q1,q2] at q
   | some o'=>
    cases o with
    | none=>simp [q1,q2] at q
    | some d1=>
     cases o' with
     | none=>simp [q1,q2] at q
     | some d2=>
      simp only [q1,q2,Option.bind_some,Option.map_some,Option.some.injEq] at q
      subst q
      obtain ⟨c,vs,e1,h1,v,h2,h3⟩:=(h.mono e).at hr q1
      obtain ⟨c',ws,e1',h1',w,h2',h3'⟩:=(h'.mono e).at hr q2
      cases e1
      cases e1'
      refine ⟨⟨vs,ws,v,w,h1,h1',h2,h2'⟩,fun x H' ⟨T,x0,y0,ex,hT,eH,y,y'⟩=>?_⟩
      subst ex eH
      have e3:=y vs h1
      have e3':=y' ws h1'
      rw [h2] at e3
      rw [h2'] at e3'
      cases e3
      cases e3'
      have e4:=Ev.upd_free (m:=m) (ho:=.tup [v,w]) hT
      exact ⟨e4,hr.laid hT,.tup (.inl (.inl upd_same)) (.cons (h3.mono e4) (.cons (h3'.mono e4) .nil))⟩
theorem zn3 {xs ys:List D} {vs ws:List V} {a b:Addr} (h:SqT g.K H0 a vs) (r:RelDs g m0 H0 xs vs) (h':SqT g.K H0 b ws) (r':RelDs g m0 H0 ys ws):JR g m0 H0 (.zip (.val xs) (.val ys)) (RZ.ItzT g.K a b):=by
 refine ⟨fun m L H i e hr q=>?_,fun m L H i d e hr q=>?_⟩
 ·simp only [Wk.at,Src.at,Option.bind_some,Option.map_some,Option.some.injEq] at q
  refine ⟨vs,ws,e.sqT h,e.sqT h', ?_⟩
  rw [← r.length, ← r'.length]
  cases q1:xs[i]? with
  | none=>exact .inl (List.getElem?_eq_none_iff.mp q1)
  | some d=>
   cases q2:ys[i]? with
   | none=>exact .inr (List.getElem?_eq_none_iff.mp q2)
   | some d'=>simp [q1,q2] at q
 ·simp only [Wk.at,Src.at,Option.bind_some,Option.map_some,Option.some.injEq] at q
  cases q1:xs[i]? with
  | none=>simp [q1] at q
  | some d1=>
   cases q2:ys[i]? with
   | none=>simp [q1,q2] at q
   | some d2=>
    simp only [q1,q2,Option.some.injEq] at q
    subst q
    obtain ⟨v,h2,h3⟩:=r.get q1
    obtain ⟨w,h2',h3'⟩:=r'.get q2
    refine ⟨⟨vs,ws,v,w,e.sqT h,e.sqT h',h2,h2'⟩,fun x H' ⟨T,x0,y0,ex,hT,eH,y,y'⟩=>?_⟩
    subst ex eH
    have e3:=y vs (e.sqT h)
    have e3':=y' ws (e.sqT h')
    rw [h2] at e3
    rw [h2'] at e3'
    cases e3
    cases e3'
    have e4:=Ev.upd_free (m:=m) (ho:=.tup [v,w]) hT
    exact ⟨e4,hr.laid hT,.tup (.inl (.inl upd_same)) (.cons (h3.mono (e.trans e4)) (.cons (h3'.mono (e.trans e4)) .nil))⟩
inductive SQ (g:G) (m:List Addr) (H:Hp):Bool→Src→V→Prop where
 | l {s:Src} {x:V} (h:SR g m H s x):SQ g m H false s x
 | t {xs:List D} {vs:List V} {a:Addr} (h:SqT g.K H a vs) (r:RelDs g m H xs vs):SQ g m H true (.val xs) (.ref a)
theorem SQ.at {m m':List Addr} {L:MH} {H H':Hp} {p:Bool} {s:Src} {x:V} {i:Nat} {o:Option D} (h:SQ g m H p s x) (e:Ev m H m' H') (hr:HRel g m' L H') (q:s.at L i=some o):
  ∃a vs,x=.ref a∧Sq p g.K H' a vs∧(match o with | some d=>∃v,vs[i]?=some v∧RelD g m' H' d v | none=>vs.length≤i):=by
 cases h with
 | l h=>exact (h.mono e).at hr q
 | t h r=>
  rename_i xs vs a
  have q:xs[i]?=o:=Option.some.inj q
  refine ⟨a,vs,rfl,e.sqT h, ?_⟩
  cases o with
  | none=>
   rw [← r.length]
   exact List.getElem?_eq_none_iff.mp q
  | some d=>
   obtain ⟨v,h2,h3⟩:=r.get q
   exact ⟨v,h2,h3.mono e⟩
theorem zoz {p q:Bool} {s t:Src} {a b:Addr} (h:SQ g m0 H0 p s (.ref a)) (h':SQ g m0 H0 q t (.ref b)):JR g m0 H0 (.enz s t) (ItzE p q g.K a b):=by
 refine ⟨fun m L H i e hr q=>?_,fun m L H i d e hr q=>?_⟩
 ·simp only [Wk.at] at q
  cases q1:s.at L i with
  | none=>rw [q1] at q; cases q
  | some o=>
   cases q2:t.at L i with
   | none=>simp [q1,q2] at q
   | some o'=>
    obtain ⟨c,vs,e1,h1,h2⟩:=h.at e hr q1
    obtain ⟨c',ws,e1',h1',h2'⟩:=h'.at e hr q2
    cases e1
    cases e1'
    refine ⟨vs,ws,h1,h1', ?_⟩
    cases o with
    | none=>exact .inl h2
    | some d=>
     cases o' with
     | none=>exact .inr h2'
     | some d'=>simp [q1,q2] at q
 ·simp only [Wk.at] at q
  cases q1:s.at L i with
  | none=>rw [q1] at q; cases q
  | some o=>
   cases q2:t.at L i with
   | none=>simp [q1,q2] at q
   | some o'=>
    cases o with
    | none=>simp [q1,q2] at q
    | some d1=>
     cases o' with
     | none=>simp [q1,q2] at q
     | some d2=>
      simp only [q1,q2,Option.bind_some,Option.map_some,Option.some.injEq] at q
      subst q
      obtain ⟨c,vs,e1,h1,v,h2,h3⟩:=h.at e hr q1
      obtain ⟨c',ws,e1',h1',w,h2',h3'⟩:=h'.at e hr q2
      cases e1
      cases e1'
      refine ⟨⟨vs,ws,v,w,h1,h1',h2,h2'⟩,fun x H' ⟨T,U,x0,y0,ex,hT,hU,ne,eH,y,y'⟩=>?_⟩
      subst ex eH
      have e3:=y vs h1
      have e3':=y' ws h1'
      rw [h2] at e3
      rw [h2'] at e3'
      cases e3
      cases e3'
      have e4:=Ev.upd_free (m:=m) (ho:=.tup [v,w]) hT
      have hU':upd H T (.tup [v,w]) U=none:=by rw [upd_ne (Ne.symm ne)]; exact hU
      have e5:=Ev.upd_free (m:=m) (ho:=.tup [.int (i:Nat),.ref T]) hU'
      have r1:RelD g m (upd H T (.tup [v,w])) (.tup [d1,d2]) (.ref T):=.tup (.inl (.inl upd_same)) (.cons (h3.mono e4) (.cons (h3'.mono e4) .nil))
      exact ⟨e4.trans e5,(hr.laid hT).laid hU',.tup (.inl (.inl upd_same)) (.cons (.int _) (.cons (r1.mono e5) .nil))⟩
theorem zmA {p q r:Bool} {s t w:Src} {a b c:Addr} (h:SQ g m0 H0 p s (.ref a)) (h':SQ g m0 H0 q t (.ref b)) (h'':SQ g m0 H0 r w (.ref c)):JR g m0 H0 (.zp3 s t w) (ItzH p q r g.K a b c):=by
 refine ⟨fun m L H i e hr q=>?_,fun m L H i d e hr q=>?_⟩
 ·simp only [Wk.at] at q
  cases q1:s.at L i with
  | none=>rw [q1] at q; cases q
  | some o=>
   cases q2:t.at L i with
   | none=>simp [q1,q2] at q
   | some o'=>
    cases q3:w.at L i with
    | none=>simp [q1,q2,q3] at q
    | some o''=>
     obtain ⟨c1,vs,e1,h1,h2⟩:=h.at e hr q1
     obtain ⟨c2,ws,e2,h1',h2'⟩:=h'.at e hr q2
     obtain ⟨c3,us,e3,h1'',h2''⟩:=h''.at e hr q3
     cases e1
     cases e2
     cases e3
     refine ⟨vs,ws,us,h1,h1',h1'', ?_⟩
     cases o with
     | none=>exact .inl h2
     | some d=>
      cases o' with
      | none=>exact .inr (.inl h2')
      | some d'=>
       cases o'' with
       | none=>exact .inr (.inr h2'')
       | some d''=>simp [q1,q2,q3] at q
 ·simp only [Wk.at] at q
  cases q1:s.at L i with
  | none=>rw [q1] at q; cases q
  | some o=>
   cases q2:t.at L i with
   | none=>simp [q1,q2] at q
   | some o'=>
    cases q3:w.at L i with
    | none=>simp [q1,q2,q3] at q
    | some o''=>
     cases o with
     | none=>simp [q1,q2,q3] at q
     | some d1=>
      cases o' with
      | none=>simp [q1,q2,q3] at q
      | some d2=>
       cases o'' with
       | none=>simp [q1,q2,q3] at q
       | some d3=>
        simp only [q1,q2,q3,Option.bind_some,Option.map_some,Option.some.injEq] at q
        subst q
        obtain ⟨c1,vs,e1,h1,v,h2,h3⟩:=h.at e hr q1
        obtain ⟨c2,ws,e2,h1',v',h2',h3'⟩:=h'.at e hr q2
        obtain ⟨c3,us,e3,h1'',v'',h2'',h3''⟩:=h''.at e hr q3
        cases e1
        cases e2
        cases e3
        refine ⟨⟨vs,ws,us,v,v',v'',h1,h1',h1'',h2,h2',h2''⟩,fun x H' ⟨T,x0,y0,u0,ex,hT,eH,y,y',y''⟩=>?_⟩
        subst ex eH
        have e3:=y vs h1
        have e3':=y' ws h1'
        have e3'':=y'' us h1''
        rw [h2] at e3
        rw [h2'] at e3'
        rw [h2''] at e3''
        cases e3
        cases e3'
        cases e3''
        have e4:=Ev.upd_free (m:=m) (ho:=.tup [v,v',v'']) hT
        exact ⟨e4,hr.laid hT,.tup (.inl (.inl upd_same)) (.cons (h3.mono e4) (.cons (h3'.mono e4) (.cons (h3''.mono e4) .nil)))⟩
theorem zhY {m:List Addr} {L:MH} {H:Hp} {d:D} {x:V} {s:Src} (hr:HRel g m L H) (rd:RelD g m H d x) (h:sqOf L d=some s):∃p a xs,x=.ref a∧Sq p g.K H a xs∧SQ g m H p s (.ref a):=by
 unfold sqOf at h
 split at h
 ·cases h
  cases rd with
  | tup h1 r1=>exact ⟨true,_,_,rfl,h1,.t h1 r1⟩
 ·split at h
  ·rename_i q1
   obtain ⟨s',g1,g2⟩:=zbR hr rd q1
   obtain ⟨a',vs,e3,h3,_⟩:=zan hr rd q1
   subst e3
   rw [g1] at h
   cases h
   exact ⟨false,_,_,rfl,h3,.l g2⟩
  ·cases h
theorem zmu {s:Src} {a b:Addr} {ys:List D} {ws:List V} (h:SR g m0 H0 s (.ref a)) (h':SqT g.K H0 b ws) (r':RelDs g m0 H0 ys ws):JR g m0 H0 (.zip s (.val ys)) (ItzG false true g.K a b):=by
 have sv:∀(L:MH) (i:Nat),Src.at L (.val ys) i=some ys[i]?:=fun _ _=>rfl
 refine ⟨fun m L H i e hr q=>?_,fun m L H i d e hr q=>?_⟩
 ·simp only [Wk.at] at q
  cases q1:s.at L i with
  | none=>rw [q1] at q; cases q
  | some o=>
   obtain ⟨c,vs,e1,h1,h2⟩:=(h.mono e).at hr q1
   cases e1
   refine ⟨vs,ws,h1,e.sqT h', ?_⟩
   cases o with
   | none=>exact .inl h2
   | some d=>
    refine .inr ?_
    rw [← r'.length]
    cases q2:ys[i]? with
    | none=>exact List.getElem?_eq_none_iff.mp q2
    | some d'=>simp [q1,q2,sv] at q
 ·simp only [Wk.at] at q
  cases q1:s.at L i with
  | none=>rw [q1] at q; cases q
  | some o=>
   cases o with
   | none=>simp [q1,sv] at q
   | some d1=>
    cases q2:ys[i]? with
    | none=>simp [q1,q2,sv] at q
    | some d2=>
     simp only [q1,q2,sv,Option.bind_some,Option.map_some,Option.some.injEq] at q
     subst q
     obtain ⟨c,vs,e1,h1,v,h2,h3⟩:=(h.mono e).at hr q1
     obtain ⟨w,h2',h3'⟩:=r'.get q2
     cases e1
     refine ⟨⟨vs,ws,v,w,h1,e.sqT h',h2,h2'⟩,fun x H' ⟨T,x0,y0,ex,hT,eH,y,y'⟩=>?_⟩
     subst ex eH
     have e3:=y vs h1
     have e3':=y' ws (e.sqT h')
     rw [h2] at e3
     rw [h2'] at e3'
     cases e3
     cases e3'
     have e4:=Ev.upd_free (m:=m) (ho:=.tup [v,w]) hT
     exact ⟨e4,hr.laid hT,.tup (.inl (.inl upd_same)) (.cons (h3.mono e4) (.cons (h3'.mono (e.trans e4)) .nil))⟩
end
section
variable {g:G} {T:Tb} {cf:Cf} {dt:Nat→FuncData} {C:Nat→List D→M D} {k:Nat} {X:Cx} {W:WX} {tg:Expr}
variable {a b i o:Ex} {ea eb eo:Expr} {pos apos p:Pos} {es:Exs} {xs:List Expr}
def iSeq (K:PySem.W.Frag) (te:TE):TI:=fun σ H R=>te σ H fun x H1=>(∃a,x=.ref a∧(∃xs,SqL K H1 a xs)∧R (Itl K a) H1)∨(∃a,x=.ref a∧(∃xs,SqT K H1 a xs)∧R (Itt K a) H1)∨∃z,x=.str z∧R (Its z) H1
theorem zn6 {l:Expr} {tl:TE} (hl:PE X l tl):PI X tg l (iSeq X.K tl):=by
 refine ⟨fun pins s σ H R I h=>?_⟩
 refine thn (hl.run pins s σ H _ I h) fun v s1 ⟨x,H1,I1,r1,q1⟩=>?_
 rcases q1 with ⟨a,e,⟨xs,hq⟩,q⟩ | ⟨a,e,⟨xs,hq⟩,q⟩ | ⟨z,e,q⟩
 ·subst e
  cases r1
  obtain ⟨its,rv,p,hz⟩:=I1.list hq
  refine wpAny_pyIter_list p.isList ?_
  refine ⟨s1.heap.objs.size,[s1.heap.objs.size],_,_,H1,rfl,I1.kept (t':=s1.toks) fun b o e=>Heap.get?_push_of_some _ e,turn_list a _,⟨_,Heap.get?_push_size _ rfl,rfl,rfl⟩,fun b hb=>?_,q⟩
  have e:b=s1.heap.objs.size:=by simpa using hb
  subst e
  exact I1.fpOk (Nat.le_refl _) (I1.hok.fresh (Nat.le_refl _))
 ·subst e
  cases r1
  obtain ⟨its,rv,p,hz⟩:=I1.tuple hq
  refine wpAny_pyIter_tuple (show s1.heap.IsTuple a its.toArray from p) ?_
  refine ⟨s1.heap.objs.size,[s1.heap.objs.size],_,_,H1,rfl,I1.kept (t':=s1.toks) fun b o e=>Heap.get?_push_of_some _ e,turn_tuple a _,⟨_,Heap.get?_push_size _ rfl,rfl,rfl⟩,fun b hb=>?_,q⟩
  have e:b=s1.heap.objs.size:=by simpa using hb
  subst e
  exact I1.fpOk (Nat.le_refl _) (I1.hok.fresh (Nat.le_refl _))
 ·subst e
  obtain ⟨t,rfl⟩:=r1
  cases ha:z.cps.all (· < 128)
  ·exact wpAny_pyIter_wide ha (pi_one (tk:=s1.toks) I1 _ (turn_str _ z t "str_iterator" (.inr rfl)) ⟨_,Heap.get?_push_size _ rfl,rfl,rfl⟩ q)
  ·exact wpAny_pyIter_ascii ha (pi_one (tk:=s1.toks) I1 _ (turn_str _ z t "str_ascii_iterator" (.inl rfl)) ⟨_,Heap.get?_push_size _ rfl,rfl,rfl⟩ q)
theorem zrs (c:CxOk g T cf dt C k X W) (ha:PE X ea (tM g W (evE T C a))):PI X tg ea (tMI g W (evI T C (.seq a))):=by
 refine zfh (zn6 ha) fun σ H R ⟨m,L, ρ,hr,lr,po⟩=>?_
 refine ⟨m,L, ρ,hr,lr,(Post.bind (R:=RD g) po).imp fun v H1 ⟨m1,L1,d,e1,hr1,rd,po1⟩=>?_⟩
 rw [c.K]
 cases q:zcz L1 d with
 | none=>simp only [q] at po1; exact po1.elim
 | some s=>
  simp only [q] at po1
  cases rd with
  | str z=>
   simp only [zcz] at q
   split at q
   ·cases q
    exact .inr (.inr ⟨z,rfl,po1.at hr1 zqo⟩)
   ·cases q
  | tup h1 h2=>
   cases q
   exact .inr (.inl ⟨_,rfl,⟨_,h1⟩,po1.at hr1 (zqb h1 h2)⟩)
  | fzl h1 h2=>
   cases q
   exact .inl ⟨_,rfl,⟨_,h1.sqL⟩,po1.at hr1 (zkO (.fzl h1 h2))⟩
  | ref hm=>
   simp only [zcz] at q
   split at q
   ·rename_i ys e
    cases q
    obtain ⟨a,vs,h1,h2,h3⟩:=hr1.lstAt e
    rw [hm] at h1
    cases h1
    exact .inl ⟨_,rfl,⟨vs,.inl (.inl h2)⟩,po1.at hr1 (zkO (.lst hm))⟩
   ·cases q
  | _=>cases q
theorem zgA {i:Int} (h:zfM i=true):-(2 ^ 62)≤i∧i < 2 ^ 62:=by
 obtain ⟨h1,h2⟩:=Bool.and_eq_true_iff.mp h
 exact ⟨of_decide_eq_true h1,of_decide_eq_true h2⟩
theorem zpU (c:CxOk g T cf dt C k X W) (hg:Gl X "range") (hm:cf.blt.contains "range"=true) (hs:noStar ea=true) (ha:PE X ea (tM g W (evE T C a))):PI X tg (.Call (.Name "range" p) [ea] [] pos) (tMI g W (evI T C (.rng1 a))):=by
 refine zfh (pi_range1 hg (c.lk.blt _ hm) (pa_cons ha pa_nil (zac hs)) (zac hs)) fun σ H R ⟨m,L, ρ,hr,lr,po⟩=>?_
 refine ⟨m,L, ρ,hr,lr,(Post.bind (R:=RD g) po).imp fun v H1 ⟨m1,L1,d,e1,hr1,rd,po1⟩=>?_⟩
 cases rd with
 | int j=>
  simp only at po1
  split at po1
  ·rename_i q
   obtain ⟨q1,q2⟩:=zgA q
   exact ⟨j,rfl,q1,q2,po1.at hr1 zmf⟩
  ·exact po1.elim
 | _=>exact po1.elim
theorem zo0 (c:CxOk g T cf dt C k X W) (hg:Gl X "range") (hm:cf.blt.contains "range"=true) (hs:noStar ea=true) (hs2:noStar eb=true) (ha:PE X ea (tM g W (evE T C a))) (hb:PE X eb (tM g W (evE T C b))):
  PI X tg (.Call (.Name "range" p) [ea,eb] [] pos) (tMI g W (evI T C (.rng2 a b))):=by
 refine zfh (pi_range2 hg (c.lk.blt _ hm) (pa_cons ha (pa_cons hb pa_nil (zac hs2)) (zac hs)) (by rw [zac hs,zac hs2]; rfl) (zac hs2)) fun σ H R ⟨m,L, ρ,hr,lr,po⟩=>?_
 refine ⟨m,L, ρ,hr,lr,(Post.bind (R:=RD g) po).imp fun v H1 ⟨m1,L1,d,e1,hr1,rd,po1⟩=>?_⟩
 refine ⟨m1,L1, ρ,hr1,lr.mono e1,(Post.bind (R:=RD g) po1).imp fun v2 H2 ⟨m2,L2,e,e2,hr2,re,po2⟩=>?_⟩
 cases rd with
 | int i=>
  cases re with
  | int j=>
   simp only at po2
   split at po2
   ·rename_i q
    obtain ⟨q1,q2⟩:=Bool.and_eq_true_iff.mp q
    obtain ⟨q3,q4⟩:=zgA q1
    obtain ⟨q5,q6⟩:=zgA q2
    exact ⟨i,j,rfl,⟨q3,q4,q5,q6⟩,po2.at hr2 zmf⟩
   ·exact po2.elim
  | _=>exact po2.elim
 | _=>exact po2.elim
theorem zqp {elts:List Expr} {kk:Nat} {tpos:Pos} (c:CxOk g T cf dt C k X W) (hg:Gl X "enumerate") (hm:cf.blt.contains "enumerate"=true) (hs:noStar ea=true) (ha:PE X ea (tM g W (evE T C a))):
  PI X (.Tuple elts kk tpos) (.Call (.Name "enumerate" p) [ea] [] pos) (tMI g W (evI T C (.enum a))):=by
 refine zfh (zkW hg (c.lk.blt _ hm) (pa_cons ha pa_nil (zac hs)) (zac hs)) fun σ H R ⟨m,L, ρ,hr,lr,po⟩=>?_
 refine ⟨m,L, ρ,hr,lr,(Post.bind (R:=RD g) po).imp fun v H1 ⟨m1,L1,d,e1,hr1,rd,po1⟩=>?_⟩
 unfold zmg at po1
 split at po1
 ·cases rd with
  | tup h1 r1=>exact ⟨_,_,rfl,.inr ⟨by rw [c.K]; exact h1,by rw [c.K]; exact po1.at hr1 (zkY h1 r1)⟩⟩
 ·cases q:zaD L1 d with
  | none=>simp only [q] at po1; exact po1.elim
  | some ys=>
   obtain ⟨s,h1,h2⟩:=zbR hr1 rd q
   obtain ⟨a',vs,rfl,h3,_⟩:=zan hr1 rd q
   simp only [q,h1] at po1
   exact ⟨a',vs,rfl,.inl ⟨by rw [c.K]; exact h3,by rw [c.K]; exact po1.at hr1 (znB h2)⟩⟩
theorem zrU {elts:List Expr} {kk:Nat} {tpos:Pos} (c:CxOk g T cf dt C k X W) (hg:Gl X "zip") (hm:cf.blt.contains "zip"=true) (hs:noStar ea=true) (hs2:noStar eb=true) (ha:PE X ea (tM g W (evE T C a))) (hb:PE X eb (tM g W (evE T C b))):
  PI X (.Tuple elts kk tpos) (.Call (.Name "zip" p) [ea,eb] [] pos) (tMI g W (evI T C (.zip a b))):=by
 refine zfh (znq hg (c.lk.blt _ hm) (pa_cons ha (pa_cons hb pa_nil (zac hs2)) (zac hs)) (zac hs) (zar pos (by rw [List.all_cons,hs2]; rfl))) fun σ H R ⟨m,L, ρ,hr,lr,po⟩=>?_
 refine ⟨m,L, ρ,hr,lr,(Post.bind (R:=RD g) po).imp fun v H1 ⟨m1,L1,d,e1,hr1,rd,po1⟩=>?_⟩
 refine ⟨m1,L1, ρ,hr1,lr.mono e1,(Post.bind (R:=RD g) po1).imp fun v2 H2 ⟨m2,L2,e,e2,hr2,re,po2⟩=>?_⟩
 have rd2:=rd.mono e2
 have lists:∀ {xs ys:List D},zaD L2 d=some xs→zaD L2 e=some ys→zeU L2 d e=((zcz L2 d).bind fun s=>(zcz L2 e).map fun t=>.zip s t)→∃a b xs ys,[v,v2]=[V.ref a,V.ref b]∧((SqL X.K H2 a xs∧SqL X.K H2 b ys∧R (Itz X.K a b) H2)∨(SqT X.K H2 a xs∧SqT X.K H2 b ys∧R (RZ.ItzT X.K a b) H2)∨∃p q,Sq p X.K H2 a xs∧Sq q X.K H2 b ys∧R (ItzG p q X.K a b) H2):=fun {xs ys} q1 q2 q3=>by
  obtain ⟨s,h1,h2⟩:=zbR hr2 rd2 q1
  obtain ⟨t,h1',h2'⟩:=zbR hr2 re q2
  obtain ⟨a',vs,e3,h3,_⟩:=zan hr2 rd2 q1
  obtain ⟨b',ws,e3',h3',_⟩:=zan hr2 re q2
  subst e3 e3'
  rw [q3,h1,h1'] at po2
  exact ⟨a',b',vs,ws,rfl,.inl ⟨by rw [c.K]; exact h3,by rw [c.K]; exact h3',by rw [c.K]; exact po2.at hr2 (zpL h2 h2')⟩⟩
 cases z:zeU L2 d e with
 | none=>rw [z] at po2; exact po2.elim
 | some w=>
  have z0:=z
  unfold zeU at z
  split at z
  ·rename_i ds es
   cases rd2 with
   | tup h1 r1=>
    cases re with
    | tup h2 r2=>
     exact ⟨_,_,_,_,rfl,.inr (.inl ⟨by rw [c.K]; exact h1,by rw [c.K]; exact h2,by rw [c.K]; exact po2.at hr2 (zn3 h1 r1 h2 r2)⟩)⟩
  ·rename_i es hne
   split at z
   ·rename_i q1
    cases re with
    | tup h2 r2=>
     obtain ⟨s1,g1,g2⟩:=zbR hr2 rd2 q1
     obtain ⟨a',vs,e3,h3,_⟩:=zan hr2 rd2 q1
     subst e3
     rw [g1] at z
     cases z
     rw [z0] at po2
     exact ⟨_,_,vs,_,rfl,.inr (.inr ⟨false,true,by rw [c.K]; exact h3,by rw [c.K]; exact h2,by rw [c.K]; exact po2.at hr2 (zmu g2 h2 r2)⟩)⟩
   ·cases z
  ·rename_i hne hne2
   split at z
   ·rename_i q1 q2
    refine lists q1 q2 ?_
    unfold zeU
    split
    ·exact (hne _ rfl).elim
    ·exact (hne _ rfl).elim
    ·rw [q1,q2]
   ·cases z
theorem zrr {elts:List Expr} {kk:Nat} {tpos p2 pos2:Pos} (c:CxOk g T cf dt C k X W) (hg:Gl X "enumerate") (hm:cf.blt.contains "enumerate"=true) (hg2:Gl X "zip") (hm2:cf.blt.contains "zip"=true) (hs:noStar ea=true) (hs2:noStar eb=true) (ha:PE X ea (tM g W (evE T C a))) (hb:PE X eb (tM g W (evE T C b))):
  PI X (.Tuple elts kk tpos) (.Call (.Name "enumerate" p) [.Call (.Name "zip" p2) [ea,eb] [] pos2] [] pos) (tMI g W (evI T C (.enz a b))):=by
 refine zfh (zq2 hg (c.lk.blt _ hm) hg2 (c.lk.blt _ hm2) (pa_cons ha (pa_cons hb pa_nil (zac hs2)) (zac hs)) (zac hs) (zar pos2 (by rw [List.all_cons,hs2]; rfl))) fun σ H R ⟨m,L, ρ,hr,lr,po⟩=>?_
 refine ⟨m,L, ρ,hr,lr,(Post.bind (R:=RD g) po).imp fun v H1 ⟨m1,L1,d,e1,hr1,rd,po1⟩=>?_⟩
 refine ⟨m1,L1, ρ,hr1,lr.mono e1,(Post.bind (R:=RD g) po1).imp fun v2 H2 ⟨m2,L2,e,e2,hr2,re,po2⟩=>?_⟩
 have rd2:=rd.mono e2
 have fin:∀ {p q:Bool} {s t:Src} {a b:Addr} {xs ys:List V},v=.ref a→v2=.ref b→Sq p g.K H2 a xs→Sq q g.K H2 b ys→SQ g m2 H2 p s (.ref a)→SQ g m2 H2 q t (.ref b)→zeU L2 d e=some (.zip s t)→
   ∃a b xs ys p q,[v,v2]=[V.ref a,V.ref b]∧Sq p X.K H2 a xs∧Sq q X.K H2 b ys∧R (ItzE p q X.K a b) H2:=fun {p q s t a b xs ys} e1 e2 s1 s2 g1 g2 z=>by
  have ez:zk8 L2 d e=some (.enz s t):=by simp only [zk8,z]
  rw [ez] at po2
  subst e1 e2
  exact ⟨a,b,xs,ys,p,q,rfl,by rw [c.K]; exact s1,by rw [c.K]; exact s2,by rw [c.K]; exact po2.at hr2 (zoz g1 g2)⟩
 cases z:zeU L2 d e with
 | none=>simp only [zk8,z] at po2; exact po2.elim
 | some w=>
  have z0:=z
  unfold zeU at z
  split at z
  ·rename_i ds es
   cases z
   cases rd2 with
   | tup h1 r1=>
    cases re with
    | tup h2 r2=>exact fin (p:=true) (q:=true) rfl rfl h1 h2 (.t h1 r1) (.t h2 r2) z0
  ·rename_i es hne
   split at z
   ·rename_i q1
    cases re with
    | tup h2 r2=>
     obtain ⟨s1,g1,g2⟩:=zbR hr2 rd2 q1
     obtain ⟨a',vs,e3,h3,_⟩:=zan hr2 rd2 q1
     subst e3
     rw [g1] at z
     cases z
     exact fin (p:=false) (q:=true) rfl rfl h3 h2 (.l g2) (.t h2 r2) z0
   ·cases z
  ·rename_i hne hne2
   split at z
   ·rename_i q1 q2
    obtain ⟨s,h1,h2⟩:=zbR hr2 rd2 q1
    obtain ⟨t,h1',h2'⟩:=zbR hr2 re q2
    obtain ⟨a',vs,e3,h3,_⟩:=zan hr2 rd2 q1
    obtain ⟨b',ws,e3',h3',_⟩:=zan hr2 re q2
    subst e3 e3'
    rw [h1,h1'] at z
    cases z
    exact fin (p:=false) (q:=false) rfl rfl h3 h3' (.l h2) (.l h2') z0
   ·cases z
theorem zpS {elts:List Expr} {kk:Nat} {tpos:Pos} {ec:Expr} {cc:Ex} (c:CxOk g T cf dt C k X W) (hg:Gl X "zip") (hm:cf.blt.contains "zip"=true) (hs:noStar ea=true) (hs2:noStar eb=true) (hs3:noStar ec=true) (ha:PE X ea (tM g W (evE T C a))) (hb:PE X eb (tM g W (evE T C b))) (hc:PE X ec (tM g W (evE T C cc))):
  PI X (.Tuple elts kk tpos) (.Call (.Name "zip" p) [ea,eb,ec] [] pos) (tMI g W (evI T C (.zip3 a b cc))):=by
 refine zfh (znL hg (c.lk.blt _ hm) (pa_cons ha (pa_cons hb (pa_cons hc pa_nil (zac hs3)) (zac hs2)) (zac hs)) (zac hs) (zar pos (by rw [List.all_cons,List.all_cons,hs2,hs3]; rfl))) fun σ H R ⟨m,L, ρ,hr,lr,po⟩=>?_
 refine ⟨m,L, ρ,hr,lr,(Post.bind (R:=RD g) po).imp fun v H1 ⟨m1,L1,d,e1,hr1,rd,po1⟩=>?_⟩
 refine ⟨m1,L1, ρ,hr1,lr.mono e1,(Post.bind (R:=RD g) po1).imp fun v2 H2 ⟨m2,L2,e,e2,hr2,re,po2⟩=>?_⟩
 refine ⟨m2,L2, ρ,hr2,(lr.mono e1).mono e2,(Post.bind (R:=RD g) po2).imp fun v3 H3 ⟨m3,L3,f,e3,hr3,rf,po3⟩=>?_⟩
 have rd3:=(rd.mono e2).mono e3
 have re3:=re.mono e3
 cases z1:sqOf L3 d with
 | none=>simp only [zfH,z1] at po3; exact po3.elim
 | some s=>
  cases z2:sqOf L3 e with
  | none=>simp only [zfH,z1,z2] at po3; exact po3.elim
  | some t=>
   cases z3:sqOf L3 f with
   | none=>simp only [zfH,z1,z2,z3] at po3; exact po3.elim
   | some u=>
    obtain ⟨p1,a1,xs,ex,k1,j1⟩:=zhY hr3 rd3 z1
    obtain ⟨p2,a2,ys,ey,k2,j2⟩:=zhY hr3 re3 z2
    obtain ⟨p3,a3,us,eu,k3,j3⟩:=zhY hr3 rf z3
    have ez:zfH L3 d e f=some (.zp3 s t u):=by simp only [zfH,z1,z2,z3,Option.bind_some,Option.map_some]
    rw [ez] at po3
    subst ex ey eu
    exact ⟨a1,a2,a3,xs,ys,us,p1,p2,p3,rfl,by rw [c.K]; exact k1,by rw [c.K]; exact k2,by rw [c.K]; exact k3,by rw [c.K]; exact po3.at hr3 (zmA j1 j2 j3)⟩
theorem zr1 {e:Expr}:PI X tg e (tMI g W (evI T C .bad)):=⟨fun pins s σ H R I ⟨m,L, ρ,hr,lr,po⟩=>po.elim⟩
def FrS (σ0:L2.St) (vs:List Nat) (σ:L2.St):Prop:=σ.length=σ0.length∧∀j,j∉vs→σ[j]?=σ0[j]?
theorem FrS.refl (σ:L2.St) (vs:List Nat):FrS σ vs σ:=⟨rfl,fun _ _=>rfl⟩
theorem FrS.trans {σ0 σ1 σ2:L2.St} {vs:List Nat} (h:FrS σ0 vs σ1) (h':FrS σ1 vs σ2):FrS σ0 vs σ2:=⟨h'.1.trans h.1,fun j hj=>(h'.2 j hj).trans (h.2 j hj)⟩
def RG (g:G) (σ0:L2.St) (vs:List Nat):List Addr→Hp→Loc→L2.St→Prop:=fun m H ρ σ=>LRel g m H ρ σ∧FrS σ0 vs σ
def tMG (g:G) (vs:List Nat) (f:D→Loc→M Loc):TG:=fun x σ H Q=>∃m L ρ d,HRel g m L H∧LRel g m H ρ σ∧RelD g m H d x∧Post g (fun _ _ _=>False) (RG g σ vs) m H (f d ρ L) fun σ' H'=>Q σ' H'
def tMGs (g:G) (vs:List Nat) (f:List D→Loc→M Loc):L2.TGs:=fun xs σ H Q=>∃m L ρ ds,HRel g m L H∧LRel g m H ρ σ∧RelDs g m H ds xs∧Post g (fun _ _ _=>False) (RG g σ vs) m H (f ds ρ L) fun σ' H'=>Q σ' H'
theorem ziA {e:Expr} {t t':TG} (h:PG X e t) (q:∀v σ H Q,t' v σ H Q→t v σ H Q):PG X e t':=⟨fun pins s σ H v u Q I r z=>h.run pins s σ H v u Q I r (q v σ H Q z)⟩
theorem zky {e:List Expr} {t t':L2.TGs} (h:PGs X e t) (q:∀v σ H Q,t' v σ H Q→t v σ H Q):PGs X e t':=⟨fun pins s σ H v u Q I r z=>h.run pins s σ H v u Q I r (q v σ H Q z)⟩
theorem zry {i:Nat} {x:Str} {vs:List Nat} (hN:X.N.Nodup) (hi:X.N[i]?=some x) (hx:L2.Loc X.env.scope x) (hf:X.fn x=true∨X.env.scope.names.lookup x=some .local) (hv:i∈vs):PG X (.Name x pos) (tMG g vs (puT T C (.var i))):=by
 refine ziA (pg_name hN hi hx hf) fun v σ H Q ⟨m,L, ρ,d,hr,lr,rd,po⟩=>?_
 exact po.at (v:=σ.set i (some v)) hr ⟨lr.set i rd,by rw [List.length_set],fun j hj=>by rw [List.getElem?_set_ne (fun z=>hj (by rw [← z]; exact hv))]⟩
theorem zpf {vs:List Nat}:PGs X [] (tMGs g vs (puTs T C .nil)):=by
 refine zky pgs_nil fun v σ H Q ⟨m,L, ρ,ds,hr,lr,rd,po⟩=>?_
 cases rd with
 | nil=>exact ⟨rfl,po.at hr ⟨lr,FrS.refl _ _⟩⟩
 | cons=>exact po.elim
theorem zaH {e:Expr} {es:List Expr} {env:Env} (h:zaj e=true):assignEach (e::es) env=(false,assign e env)::assignEach es env:=by
 cases e<;>first | rfl | cases h
theorem zgJ {env:Env}:∀ {es:List Expr},es.all zaj=true→(assignEach es env).length=es.length
 | [],_=>rfl
 | e::es,h=>by
  rw [List.all_cons,Bool.and_eq_true] at h
  rw [zaH h.1,List.length_cons,zgJ h.2,List.length_cons]
theorem zfA {env:Env}:∀ {es:List Expr},es.all zaj=true→(assignEach es env).findIdx? (·.1)=none
 | [],_=>rfl
 | e::es,h=>by
  rw [List.all_cons,Bool.and_eq_true] at h
  rw [zaH h.1,List.findIdx?_cons,zfA h.2]
  rfl
variable {t:Tg} {ts:Tgs} {vs:List Nat}
theorem Post.rg {g:G} {E:XK} {σ σ1:L2.St} {vs:List Nat} {m:List Addr} {H:Hp} {r:Res Loc} {Q:L2.St→Hp→Prop} (h:Post g E (RG g σ vs) m H r Q) (e:FrS σ vs σ1):Post g E (RG g σ1 vs) m H r Q:=by
 cases r with
 | ok d L'=>exact fun m1 H1 v e1 hr rg=>h m1 H1 v e1 hr ⟨rg.1,e.trans rg.2⟩
 | exc c fs L'=>exact h
 | stk=>exact h
theorem znu {e:Expr} {es:List Expr} (hp:zaj e=true) (h:PG X e (tMG g vs (puT T C t))) (r:PGs X es (tMGs g vs (puTs T C ts))):PGs X (e::es) (tMGs g vs (puTs T C (.cons t ts))):=by
 refine zky (pgs_cons h r (by rw [zaH hp]; rfl)) fun v σ H Q ⟨m,L, ρ,ds,hr,lr,rd,po⟩=>?_
 cases rd with
 | nil=>exact po.elim
 | cons r1 r2=>
  refine ⟨_,_,rfl,m,L, ρ,_,hr,lr,r1,(Post.bind (R:=RG g σ vs) po).imp fun σ1 H1 ⟨m1,L1, ρ1,e1,hr1,⟨l1,l2⟩,po1⟩=>?_⟩
  refine ⟨m1,L1, ρ1,_,hr1,l1,r2.mono e1,po1.rg l2⟩
theorem zrJ (c:CxOk g T cf dt C k X W) {es:List Expr} {j:Nat} (hl:es.length=zbi ts) (hp:es.all zaj=true) (h:PGs X es (tMGs g vs (puTs T C ts))):PG X (.Tuple es j pos) (tMG g vs (puT T C (.tup ts))):=by
 refine ⟨fun pins s σ H v u Q I r ⟨m,L, ρ,d,hr,lr,rd,po⟩=>?_⟩
 simp only [puT] at po
 split at po
 ·rename_i xs
  split at po
  ·rename_i q
   cases rd with
   | tup h1 r1=>exact (pg_tup c.calm h ((zgJ hp).trans hl) (zfA hp)).run pins s σ H _ u Q I r ⟨_,_,rfl,by rw [c.K]; exact h1,by rw [← r1.length]; exact q.symm,m,L, ρ,_,hr,lr,r1,po⟩
  ·exact po.elim
 ·cases e:zaD L d with
  | none=>
   simp only [e] at po
   exact po.elim
  | some xs=>
   simp only [e] at po
   split at po
   ·rename_i q
    obtain ⟨a,vs',rfl,h1,r1⟩:=zan hr rd e
    exact (pg_lst c.calm h ((zgJ hp).trans hl) (zfA hp)).run pins s σ H _ u Q I r ⟨_,_,rfl,by rw [c.K]; exact h1,by rw [← r1.length]; exact q.symm,m,L, ρ,_,hr,lr,r1,po⟩
   ·exact po.elim
end
end Mi
end
section
set_option maxHeartbeats 4000000
namespace Mi
open PySem PySem.Spec PyProof.Rows L2
section
variable {g:G} {T:Tb} {cf:Cf} {dt:Nat→FuncData} {C:Nat→List D→M D} {k:Nat} {X:Cx} {W:WX} {tg:Expr}
variable {a b i o:Ex} {ea eb ei eo:Expr} {pos apos p:Pos} {es:Exs} {xs:List Expr} {t:Tg} {ts:Tgs} {vs:List Nat}
theorem zda {f:Loc→M D} {σ:L2.St} {H:Hp} {Q:VK} {m:List Addr} {L:MH} {ρ:Loc} (hr:HRel g m L H) (lr:LRel g m H ρ σ) (po:Post g (fun _ _ _=>False) (RD g) m H (f ρ L) Q):tM g W f σ H Q:=⟨m,L, ρ,hr,lr,po.calm⟩
theorem zrF (c:CxOk g T cf dt C k X W) (hn:zbc ei=true) (ho:PE X eo (tM g W (evE T C o))) (hi:PE X ei (tM g W (evE T C i))):PG X (.Subscript eo ei pos) (tMG g vs (puT T C (.sub o i))):=by
 refine ziA (pg_sub ho hi set_list (fun v=>by
   rw [arm_assign_Subscript]
   cases ei<;>first | rfl | cases hn)) fun v σ H Q ⟨m,L, ρ,d,hr,lr,rd,po⟩=>?_
 refine zda hr lr ((Post.bind (R:=RD g) po).imp fun x H1 ⟨m1,L1,dx,e1,hr1,rx,po1⟩=>?_)
 refine zda hr1 (lr.mono e1) ((Post.bind (R:=RD g) po1).imp fun y H2 ⟨m2,L2,dy,e2,hr2,ry,po2⟩=>?_)
 have rx2:=rx.mono e2
 have rd2:=(rd.mono e1).mono e2
 unfold zgo at po2
 split at po2
 ·rename_i n kk
  cases rx2 with
  | ref hm=>
   cases ry with
   | int kk=>
    split at po2
    ·rename_i ys q
     split at po2
     ·rename_i j q2
      obtain ⟨a',ws,h1,h2,h3⟩:=hr2.lstAt q
      rw [hm] at h1
      cases h1
      refine ⟨_,ws,_,j,rfl,rfl,h2,by rw [← h3.length]; exact q2, ?_⟩
      have ev:=Ev.write_lst (m:=m2) (ho:=.lst (ws.set j v)) h2
      refine po2.atE (v:=σ) ev (hr2.set hm ev ⟨_,upd_same, ?_⟩) ⟨((lr.mono e1).mono e2).mono ev,FrS.refl _ _⟩
      exact (h3.set j rd2).mono ev
     ·exact po2.elim
    ·exact po2.elim
 ·exact po2.elim
theorem zik (an:∀a b,g.an a=g.an b→a=b) {m:List Addr} {H:Hp} {n:Nat} {d:D} {v:V} (rd:RelD g m H d v):∀ {fs:List (Nat×D)} {vfs:List (Str×V)},RelF g m H fs vfs→RelF g m H (putN n d fs) (putF (g.an n) v vfs)
 | _,_,.nil=>.cons rd .nil
 | (b,_)::_,_,.cons h r=>by
  show RelF g m H (if b=n then (b,d)::_ else _) (if g.an b=g.an n then (g.an b,v)::_ else _)
  by_cases q:b=n
  ·subst q
   rw [if_pos rfl,if_pos rfl]
   exact .cons rd r
  ·rw [if_neg q,if_neg fun z=>q (an _ _ z)]
   exact .cons h (zik an rd r)
theorem zqg (c:CxOk g T cf dt C k X W) {n:Nat} (ho:PE X eo (tM g W (evE T C o))):PG X (.Attribute eo (cf.an n) pos) (tMG g vs (puT T C (.attr o n))):=by
 refine ⟨fun pins s σ H v u Q I r ⟨m,L, ρ,d,hr,lr,rd,po⟩=>?_⟩
 rw [arm_assign_Attribute]
 refine wpAny_bind (wpAny_holding (thn (ho.run pins s σ H _ I (zda hr lr (Post.bind (R:=RD g) po))) fun ov s1 ⟨x,H1,I1,r1,m1,L1,dx,e1,hr1,rx,po1⟩=>?_))
 refine wpAny_bind (wpAny_standAt (wpAny_bind (wpAny_holding ?_)))
 have rd1:=rd.mono e1
 unfold ziq at po1
 split at po1
 ·rename_i nn
  cases rx with
  | ref hm=>
   split at po1
   ·rename_i cc fs q
    split at po1
    ·rename_i q2
     obtain ⟨q3,q4⟩:=Bool.and_eq_true_iff.mp q2
     obtain ⟨a',dx,vfs,h1,h2,h3⟩:=hr1.insAt q
     rw [hm] at h1
     cases h1
     obtain ⟨cl,na⟩:=c.lk.noat cc n q3
     have hov:ov=Value.ref _:=r1
     subst hov
     rw [← c.lk.an]
     refine setattr_ok I1 h2 cl na (by rw [← h3.length]; exact of_decide_eq_true q4) r fun s2 I2=>?_
     refine wpAny_release ⟨σ,_,I2, ?_⟩
     have ev:=Ev.write_ins (m:=m1) (ho:=.ins (g.cad cc) dx (putF (g.an n) v vfs)) h2
     refine po1.atE (v:=σ) ev (hr1.set hm ev ⟨dx,_,upd_same, ?_⟩) ⟨(lr.mono e1).mono ev,FrS.refl _ _⟩
     exact (zik c.lk.inj rd1 h3).mono ev
    ·exact po1.elim
   ·exact po1.elim
 ·exact po1.elim
theorem zrc {e:Expr}:PG X e (tMG g vs (puT T C .bad)):=⟨fun pins s σ H v u Q I r ⟨m,L, ρ,d,hr,lr,rd,po⟩=>po.elim⟩
theorem zhi {env:Env} {te:Expr} {sp:Pos}:∀ {es:List Expr},es.all zaj=true→zaj te=true→(assignEach (es++[.Starred te sp]) env).map (·.2)=(assignEach (es++[te]) env).map (·.2)∧
  (assignEach (es++[.Starred te sp]) env).findIdx? (·.1)=some es.length∧(assignEach (es++[.Starred te sp]) env).length=es.length+1
 | [],_,h=>by
  rw [List.nil_append,List.nil_append,arm_assignEach_Starred,zaH h]
  exact ⟨rfl,rfl,rfl⟩
 | e::es,h1,h2=>by
  rw [List.all_cons,Bool.and_eq_true] at h1
  obtain ⟨i1,i2,i3⟩:=zhi (env:=env) (te:=te) (sp:=sp) h1.2 h2
  rw [List.cons_append,List.cons_append,zaH h1.1,zaH h1.1]
  refine ⟨by rw [List.map_cons,List.map_cons,i1], ?_,by rw [List.length_cons,i3,List.length_cons]⟩
  rw [List.findIdx?_cons,i2]
  rfl
theorem zhN {pins:List (Addr×Obj)} {σ:L2.St} {H:Hp} {s:Shared} {l:Addr} {n:Nat} {its:List Value} {Q:List Value→Shared→Prop} {E:Value→Shared→Prop} {A:Around} (I:Inv X pins σ H s) (hl:s.heap.IsList l its.toArray) (hh:A.handled=none) (hn:n≤its.length) (hz:its.length≤16384)
  (h:∀(h':Heap) (tk:Nat),(∀b o,s.heap.get? b=some o→h'.get? b=some o)→Q (its.take n++[.ref h'.objs.size]) { s with heap:=h'.push { cls:=.type "list",data:=.seq (its.drop n).toArray },toks:=tk }):wpAny (model X.prog X.w) A (unpackItems (.ref l) (n+1) (some n)) Q E s:=by
 have hlt:l≠s.heap.objs.size:=by obtain ⟨o,ho,_⟩:=hl; exact Nat.ne_of_lt (Heap.lt_size ho)
 have hsz:its.toArray.size=its.length:=List.size_toArray
 unfold unpackItems
 refine wpAny_bind ?_
 unfold notIterableAtAll
 refine wpAny_bind (wpAny_specialOf hl.typeIs F.slot_list_iter.lookup ?_)
 refine wpAny_pure ?_
 simp only [Bool.false_eq_true,if_false]
 refine wpAny_bind (wpAny_holding (wpAny_pyIter_list hl ?_))
 refine wpAny_bind (wpAny_holding (PySem.W.kun_draw hlt n 0 _ _ ⟨_,Heap.get?_push_size _ rfl,rfl,rfl⟩ (hl.push _) (by rw [hsz]; omega) fun h₁ hit₁ hs₁=>?_))
 have hl₁:h₁.IsList l its.toArray:=(hl.push _).extBut hs₁.extBut hlt
 rw [Nat.zero_add] at hit₁
 have hit₁':=hit₁
 obtain ⟨oi,hoi,_⟩:=hit₁'
 have hl₁':=hl₁
 obtain ⟨ol,hol,_⟩:=hl₁'
 have e0:its.toArray.toList=its:=rfl
 rw [List.drop_zero,e0]
 have hfl:(its.take n).length=n:=by rw [List.length_take]; omega
 rw [if_neg (show ¬ ((its.take n).length < n) by rw [hfl]; omega)]
 refine wpAny_bind (wpAny_holding (PySem.W.kun_collect (s:={ s with heap:=h₁ }) (T:="list_iterator") (.inr (.inr (.inl rfl))) (Walks.list (A:=A.in1) hh s.heap.objs.size l hlt its.toArray) (fun j u st=>st.1.typeIs) (k:=n) (by rw [hsz]; omega) ⟨hit₁,hl₁⟩ (Heap.lt_size hoi) (Heap.lt_size hol) (fun h₂ tk hk=>?_) (by rw [hsz,sizeLine_eq]; omega)))
 rw [e0]
 have hmid:(its.drop n).length - (n+1 - 1 - n)=(its.drop n).length:=by omega
 show wpAny _ _ (if (its.drop n).length < n+1 - 1 - n then _ else _) _ _ _
 rw [if_neg (by omega)]
 show wpAny _ _ (newList ((its.drop n).take ((its.drop n).length - (n+1 - 1 - n))) >>= fun d=>pure (its.take n++[d]++(its.drop n).drop ((its.drop n).length - (n+1 - 1 - n)))) _ _ _
 rw [hmid,List.take_length,List.drop_length]
 have he:∀b o,s.heap.get? b=some o→h₂.get? b=some o:=fun b o e=>hk b o (Nat.ne_of_lt (Heap.lt_size e)) (hs₁.extBut b o (Nat.ne_of_lt (Heap.lt_size e)) (Heap.get?_push_of_some _ e))
 exact wpAny_bind (wpAny_newList (wpAny_pure (by rw [List.append_nil]; exact h h₂ tk he)) (by rw [List.length_drop,sizeLine_eq]; omega))
theorem zhx {pins:List (Addr×Obj)} {σ:L2.St} {H:Hp} {s:Shared} {l:Addr} {n:Nat} {its:List Value} {Q:List Value→Shared→Prop} {E:Value→Shared→Prop} {A:Around} (I:Inv X pins σ H s) (hl:IsTup s.heap l its.toArray) (hh:A.handled=none) (hn:n≤its.length) (hz:its.length≤16384)
  (h:∀(h':Heap) (tk:Nat),(∀b o,s.heap.get? b=some o→h'.get? b=some o)→Q (its.take n++[.ref h'.objs.size]) { s with heap:=h'.push { cls:=.type "list",data:=.seq (its.drop n).toArray },toks:=tk }):wpAny (model X.prog X.w) A (unpackItems (.ref l) (n+1) (some n)) Q E s:=by
 have hlt:l≠s.heap.objs.size:=by obtain ⟨o,ho,_⟩:=hl; exact Nat.ne_of_lt (Heap.lt_size ho)
 have hsz:its.toArray.size=its.length:=List.size_toArray
 unfold unpackItems
 refine wpAny_bind ?_
 unfold notIterableAtAll
 refine wpAny_bind (wpAny_specialOf hl.typeIs F.slot_tuple_iter.lookup ?_)
 refine wpAny_pure ?_
 simp only [Bool.false_eq_true,if_false]
 refine wpAny_bind (wpAny_holding (PyProof.Rows.iter_tuple hl ?_))
 refine wpAny_bind (wpAny_holding (PyProof.Rows.draw_tuple hlt n 0 _ _ ⟨_,Heap.get?_push_size _ rfl,rfl,rfl⟩ (hl.push _) (by rw [hsz]; omega) fun h₁ hit₁ hs₁=>?_))
 have hl₁:IsTup h₁ l its.toArray:=(hl.push _).extBut hs₁.extBut hlt
 rw [Nat.zero_add] at hit₁
 have hit₁':=hit₁
 obtain ⟨oi,hoi,_⟩:=hit₁'
 have hl₁':=hl₁
 obtain ⟨ol,hol,_⟩:=hl₁'
 have e0:its.toArray.toList=its:=rfl
 rw [List.drop_zero,e0]
 have hfl:(its.take n).length=n:=by rw [List.length_take]; omega
 rw [if_neg (show ¬ ((its.take n).length < n) by rw [hfl]; omega)]
 refine wpAny_bind (wpAny_holding (PySem.W.kun_collect (s:={ s with heap:=h₁ }) (T:="tuple_iterator") (.inr (.inr (.inr rfl))) (Walks.tuple (A:=A.in1) hh s.heap.objs.size l hlt its.toArray) (fun j u st=>st.1.typeIs) (k:=n) (by rw [hsz]; omega) ⟨hit₁,hl₁⟩ (Heap.lt_size hoi) (Heap.lt_size hol) (fun h₂ tk hk=>?_) (by rw [hsz,sizeLine_eq]; omega)))
 rw [e0]
 have hmid:(its.drop n).length - (n+1 - 1 - n)=(its.drop n).length:=by omega
 show wpAny _ _ (if (its.drop n).length < n+1 - 1 - n then _ else _) _ _ _
 rw [if_neg (by omega)]
 show wpAny _ _ (newList ((its.drop n).take ((its.drop n).length - (n+1 - 1 - n))) >>= fun d=>pure (its.take n++[d]++(its.drop n).drop ((its.drop n).length - (n+1 - 1 - n)))) _ _ _
 rw [hmid,List.take_length,List.drop_length]
 have he:∀b o,s.heap.get? b=some o→h₂.get? b=some o:=fun b o e=>hk b o (Nat.ne_of_lt (Heap.lt_size e)) (hs₁.extBut b o (Nat.ne_of_lt (Heap.lt_size e)) (Heap.get?_push_of_some _ e))
 exact wpAny_bind (wpAny_newList (wpAny_pure (by rw [List.append_nil]; exact h h₂ tk he)) (by rw [List.length_drop,sizeLine_eq]; omega))
theorem zgZ {pins:List (Addr×Obj)} {σ:L2.St} {H:Hp} {s:Shared} {l:Addr} {n:Nat} {its:List Value} {Q:List Value→Shared→Prop} {E:Value→Shared→Prop} {A:Around} (I:Inv X pins σ H s) (hl:s.heap.IsList l its.toArray∨IsTup s.heap l its.toArray) (hh:A.handled=none) (hn:n≤its.length) (hz:its.length≤16384)
  (h:∀(h':Heap) (tk:Nat),(∀b o,s.heap.get? b=some o→h'.get? b=some o)→Q (its.take n++[.ref h'.objs.size]) { s with heap:=h'.push { cls:=.type "list",data:=.seq (its.drop n).toArray },toks:=tk }):wpAny (model X.prog X.w) A (unpackItems (.ref l) (n+1) (some n)) Q E s:=by
 rcases hl with hl | hl
 ·exact zhN I hl hh hn hz h
 ·exact zhx I hl hh hn hz h
theorem zqE (c:CxOk g T cf dt C k X W) {es:List Expr} {te:Expr} {sp:Pos} {j:Nat} (hl:es.length+1=zbi ts) (hp:es.all zaj=true) (hp2:zaj te=true) (h:PGs X (es++[te]) (tMGs g vs (puTs T C ts))):
  PG X (.Tuple (es++[.Starred te sp]) j pos) (tMG g vs (puT T C (.star ts))):=by
 refine ⟨fun pins s σ H v u Q I r ⟨m,L, ρ,d,hr,lr,rd,po⟩=>?_⟩
 simp only [puT] at po
 cases q:seqD L d with
 | none=>rw [q] at po; exact po.elim
 | some xs=>
  simp only [q] at po
  split at po
  ·rename_i q1
   obtain ⟨q2,q3⟩:=Bool.and_eq_true_iff.mp q1
   have q2:=of_decide_eq_true q2
   have q3:=of_decide_eq_true q3
   obtain ⟨a',ws,e1,h1,h2⟩:=zbq hr rd q
   subst e1
   have hu:u=Value.ref a':=r
   subst hu
   obtain ⟨its,rv,pl,hz⟩:∃its:List Value,Vals ws its∧(s.heap.IsList a' its.toArray∨IsTup s.heap a' its.toArray)∧ws.length≤sizeLine:=by
    rcases h1 with h1 | h1
    ·obtain ⟨its,rv,pl,hz⟩:=I.list (by rw [c.K]; exact h1)
     exact ⟨its,rv,.inl pl.isList,hz⟩
    ·obtain ⟨its,rv,pl,hz⟩:=I.tuple (by rw [c.K]; exact h1)
     exact ⟨its,rv,.inr pl,hz⟩
   obtain ⟨e1,e2,e3⟩:=zhi (env:=X.env) (te:=te) (sp:=sp) hp hp2
   rw [PyProof.Rows.assign_Tuple]
   refine wpAny_bind (wpAny_standAt ?_)
   unfold unpack
   rw [e1,e2,e3]
   have l1:=h2.length
   have l2:=rv.length
   refine wpAny_bind (wpAny_holding (zgZ I pl (I.ok.hd c.calm) (by omega) (by omega) fun h' tk hk=>?_))
   have I1:Inv X pins σ H { s with heap:=h',toks:=tk }:=I.kept hk
   have hn:zbi ts - 1=es.length:=by omega
   rw [hn] at po
   obtain ⟨D,hD⟩:∃D,D=h'.objs.size:=⟨_,rfl⟩
   have hDn:H D=none:=I1.hok.fresh (by rw [hD]; exact Nat.le_refl _)
   have I2:Inv X pins σ (upd H D (.lst (ws.drop es.length))) { s with heap:=h'.push { cls:=.type "list",data:=.seq (its.drop es.length).toArray },toks:=tk }:=by
    rw [hD]
    exact I1.lnew (rv.drop es.length) (by rw [List.length_drop]; omega)
   have ev:Ev m H (m++[D]) (upd H D (.lst (ws.drop es.length))):=Ev.push hDn
   have hr2:=hr.push (o:=.lst (xs.drop es.length)) hDn ⟨ws.drop es.length,upd_same,(h2.drop _).mono ev⟩
   refine h.run pins _ σ _ (ws.take es.length++[.ref D]) _ Q I2 ?_ ⟨m++[D],_, ρ,_,hr2,lr.mono ev,((h2.take _).mono ev).append (.cons (.ref ?_) .nil),(Post.ev ev po)⟩
   ·rw [hD]
    exact (rv.take _).append (.cons rfl .nil)
   ·rw [← hr.len]
    exact zao _ _
  ·exact po.elim
theorem zfC {env:Env}:∀ {es:List Expr},es.all zaj=true→(assignEach es env).findIdx? (·.1)=none∧(assignEach es env).length=es.length
 | [],_=>⟨rfl,rfl⟩
 | e::es,h1=>by
  rw [List.all_cons,Bool.and_eq_true] at h1
  obtain ⟨i2,i3⟩:=zfC (env:=env) h1.2
  rw [zaH h1.1,List.findIdx?_cons,i2]
  exact ⟨rfl,by rw [List.length_cons,i3,List.length_cons]⟩
theorem ziU {env:Env} {te:Expr} {sp:Pos} {es:List Expr} (h1:es.all zaj=true) (h2:zaj te=true):(assignEach (.Starred te sp::es) env).map (·.2)=(assignEach (te::es) env).map (·.2)∧
  (assignEach (.Starred te sp::es) env).findIdx? (·.1)=some 0∧(assignEach (.Starred te sp::es) env).length=es.length+1:=by
 rw [arm_assignEach_Starred,zaH h2]
 refine ⟨rfl,rfl, ?_⟩
 rw [List.length_cons,(zfC h1).2]
theorem zgW {pins:List (Addr×Obj)} {σ:L2.St} {H:Hp} {s:Shared} {l:Addr} {n:Nat} {its:List Value} {Q:List Value→Shared→Prop} {E:Value→Shared→Prop} {A:Around} (I:Inv X pins σ H s) (hl:s.heap.IsList l its.toArray) (hh:A.handled=none) (hn:n≤its.length) (hz:its.length≤16384)
  (h:∀(h':Heap) (tk:Nat),(∀b o,s.heap.get? b=some o→h'.get? b=some o)→Q ([.ref h'.objs.size]++its.drop (its.length - n)) { s with heap:=h'.push { cls:=.type "list",data:=.seq (its.take (its.length - n)).toArray },toks:=tk }):wpAny (model X.prog X.w) A (unpackItems (.ref l) (n+1) (some 0)) Q E s:=by
 have hlt:l≠s.heap.objs.size:=by obtain ⟨o,ho,_⟩:=hl; exact Nat.ne_of_lt (Heap.lt_size ho)
 have hsz:its.toArray.size=its.length:=List.size_toArray
 unfold unpackItems
 refine wpAny_bind ?_
 unfold notIterableAtAll
 refine wpAny_bind (wpAny_specialOf hl.typeIs F.slot_list_iter.lookup ?_)
 refine wpAny_pure ?_
 simp only [Bool.false_eq_true,if_false]
 refine wpAny_bind (wpAny_holding (wpAny_pyIter_list hl ?_))
 refine wpAny_bind (wpAny_holding (PySem.W.kun_draw hlt 0 0 _ _ ⟨_,Heap.get?_push_size _ rfl,rfl,rfl⟩ (hl.push _) (by rw [hsz]; omega) fun h₁ hit₁ hs₁=>?_))
 have hl₁:h₁.IsList l its.toArray:=(hl.push _).extBut hs₁.extBut hlt
 rw [Nat.zero_add] at hit₁
 have hit₁':=hit₁
 obtain ⟨oi,hoi,_⟩:=hit₁'
 have hl₁':=hl₁
 obtain ⟨ol,hol,_⟩:=hl₁'
 have e0:its.toArray.toList=its:=rfl
 rw [List.drop_zero,e0]
 rw [if_neg (show ¬ ((its.take 0).length < 0) by omega)]
 refine wpAny_bind (wpAny_holding (PySem.W.kun_collect (s:={ s with heap:=h₁ }) (T:="list_iterator") (.inr (.inr (.inl rfl))) (Walks.list (A:=A.in1) hh s.heap.objs.size l hlt its.toArray) (fun j u st=>st.1.typeIs) (k:=0) (by rw [hsz]; omega) ⟨hit₁,hl₁⟩ (Heap.lt_size hoi) (Heap.lt_size hol) (fun h₂ tk hk=>?_) (by rw [hsz,sizeLine_eq]; omega)))
 rw [e0]
 rw [List.drop_zero]
 show wpAny _ _ (if its.length < n+1 - 1 - 0 then _ else _) _ _ _
 rw [if_neg (by omega)]
 show wpAny _ _ (newList (its.take (its.length - (n+1 - 1 - 0))) >>= fun d=>pure ([]++[d]++its.drop (its.length - (n+1 - 1 - 0)))) _ _ _
 rw [show n+1 - 1 - 0=n by omega]
 have he:∀b o,s.heap.get? b=some o→h₂.get? b=some o:=fun b o e=>hk b o (Nat.ne_of_lt (Heap.lt_size e)) (hs₁.extBut b o (Nat.ne_of_lt (Heap.lt_size e)) (Heap.get?_push_of_some _ e))
 exact wpAny_bind (wpAny_newList (wpAny_pure (by rw [List.nil_append]; exact h h₂ tk he)) (by rw [List.length_take,sizeLine_eq]; omega))
theorem zgH {pins:List (Addr×Obj)} {σ:L2.St} {H:Hp} {s:Shared} {l:Addr} {n:Nat} {its:List Value} {Q:List Value→Shared→Prop} {E:Value→Shared→Prop} {A:Around} (I:Inv X pins σ H s) (hl:IsTup s.heap l its.toArray) (hh:A.handled=none) (hn:n≤its.length) (hz:its.length≤16384)
  (h:∀(h':Heap) (tk:Nat),(∀b o,s.heap.get? b=some o→h'.get? b=some o)→Q ([.ref h'.objs.size]++its.drop (its.length - n)) { s with heap:=h'.push { cls:=.type "list",data:=.seq (its.take (its.length - n)).toArray },toks:=tk }):wpAny (model X.prog X.w) A (unpackItems (.ref l) (n+1) (some 0)) Q E s:=by
 have hlt:l≠s.heap.objs.size:=by obtain ⟨o,ho,_⟩:=hl; exact Nat.ne_of_lt (Heap.lt_size ho)
 have hsz:its.toArray.size=its.length:=List.size_toArray
 unfold unpackItems
 refine wpAny_bind ?_
 unfold notIterableAtAll
 refine wpAny_bind (wpAny_specialOf hl.typeIs F.slot_tuple_iter.lookup ?_)
 refine wpAny_pure ?_
 simp only [Bool.false_eq_true,if_false]
 refine wpAny_bind (wpAny_holding (PyProof.Rows.iter_tuple hl ?_))
 refine wpAny_bind (wpAny_holding (PyProof.Rows.draw_tuple hlt 0 0 _ _ ⟨_,Heap.get?_push_size _ rfl,rfl,rfl⟩ (hl.push _) (by rw [hsz]; omega) fun h₁ hit₁ hs₁=>?_))
 have hl₁:IsTup h₁ l its.toArray:=(hl.push _).extBut hs₁.extBut hlt
 rw [Nat.zero_add] at hit₁
 have hit₁':=hit₁
 obtain ⟨oi,hoi,_⟩:=hit₁'
 have hl₁':=hl₁
 obtain ⟨ol,hol,_⟩:=hl₁'
 have e0:its.toArray.toList=its:=rfl
 rw [List.drop_zero,e0]
 rw [if_neg (show ¬ ((its.take 0).length < 0) by omega)]
 refine wpAny_bind (wpAny_holding (PySem.W.kun_collect (s:={ s with heap:=h₁ }) (T:="tuple_iterator") (.inr (.inr (.inr rfl))) (Walks.tuple (A:=A.in1) hh s.heap.objs.size l hlt its.toArray) (fun j u st=>st.1.typeIs) (k:=0) (by rw [hsz]; omega) ⟨hit₁,hl₁⟩ (Heap.lt_size hoi) (Heap.lt_size hol) (fun h₂ tk hk=>?_) (by rw [hsz,sizeLine_eq]; omega)))
 rw [e0]
 rw [List.drop_zero]
 show wpAny _ _ (if its.length < n+1 - 1 - 0 then _ else _) _ _ _
 rw [if_neg (by omega)]
 show wpAny _ _ (newList (its.take (its.length - (n+1 - 1 - 0))) >>= fun d=>pure ([]++[d]++its.drop (its.length - (n+1 - 1 - 0)))) _ _ _
 rw [show n+1 - 1 - 0=n by omega]
 have he:∀b o,s.heap.get? b=some o→h₂.get? b=some o:=fun b o e=>hk b o (Nat.ne_of_lt (Heap.lt_size e)) (hs₁.extBut b o (Nat.ne_of_lt (Heap.lt_size e)) (Heap.get?_push_of_some _ e))
 exact wpAny_bind (wpAny_newList (wpAny_pure (by rw [List.nil_append]; exact h h₂ tk he)) (by rw [List.length_take,sizeLine_eq]; omega))
theorem zgK {pins:List (Addr×Obj)} {σ:L2.St} {H:Hp} {s:Shared} {l:Addr} {n:Nat} {its:List Value} {Q:List Value→Shared→Prop} {E:Value→Shared→Prop} {A:Around} (I:Inv X pins σ H s) (hl:s.heap.IsList l its.toArray∨IsTup s.heap l its.toArray) (hh:A.handled=none) (hn:n≤its.length) (hz:its.length≤16384)
  (h:∀(h':Heap) (tk:Nat),(∀b o,s.heap.get? b=some o→h'.get? b=some o)→Q ([.ref h'.objs.size]++its.drop (its.length - n)) { s with heap:=h'.push { cls:=.type "list",data:=.seq (its.take (its.length - n)).toArray },toks:=tk }):wpAny (model X.prog X.w) A (unpackItems (.ref l) (n+1) (some 0)) Q E s:=by
 rcases hl with hl | hl
 ·exact zgW I hl hh hn hz h
 ·exact zgH I hl hh hn hz h
theorem zou (c:CxOk g T cf dt C k X W) {es:List Expr} {te:Expr} {sp:Pos} {j:Nat} (hl:es.length+1=zbi ts) (hp:es.all zaj=true) (hp2:zaj te=true) (h:PGs X (te::es) (tMGs g vs (puTs T C ts))):
  PG X (.Tuple (.Starred te sp::es) j pos) (tMG g vs (puT T C (.sfst ts))):=by
 refine ⟨fun pins s σ H v u Q I r ⟨m,L, ρ,d,hr,lr,rd,po⟩=>?_⟩
 simp only [puT] at po
 cases q:seqD L d with
 | none=>rw [q] at po; exact po.elim
 | some xs=>
  simp only [q] at po
  split at po
  ·rename_i q1
   obtain ⟨q2,q3⟩:=Bool.and_eq_true_iff.mp q1
   have q2:=of_decide_eq_true q2
   have q3:=of_decide_eq_true q3
   obtain ⟨a',ws,e1,h1,h2⟩:=zbq hr rd q
   subst e1
   have hu:u=Value.ref a':=r
   subst hu
   obtain ⟨its,rv,pl,hz⟩:∃its:List Value,Vals ws its∧(s.heap.IsList a' its.toArray∨IsTup s.heap a' its.toArray)∧ws.length≤sizeLine:=by
    rcases h1 with h1 | h1
    ·obtain ⟨its,rv,pl,hz⟩:=I.list (by rw [c.K]; exact h1)
     exact ⟨its,rv,.inl pl.isList,hz⟩
    ·obtain ⟨its,rv,pl,hz⟩:=I.tuple (by rw [c.K]; exact h1)
     exact ⟨its,rv,.inr pl,hz⟩
   obtain ⟨e1,e2,e3⟩:=ziU (env:=X.env) (te:=te) (sp:=sp) hp hp2
   rw [PyProof.Rows.assign_Tuple]
   refine wpAny_bind (wpAny_standAt ?_)
   unfold unpack
   rw [e1,e2,e3]
   have l1:=h2.length
   have l2:=rv.length
   refine wpAny_bind (wpAny_holding (zgK I pl (I.ok.hd c.calm) (by omega) (by omega) fun h' tk hk=>?_))
   have I1:Inv X pins σ H { s with heap:=h',toks:=tk }:=I.kept hk
   have hn:xs.length+1 - zbi ts=ws.length - es.length:=by omega
   have hi:its.length - es.length=ws.length - es.length:=by omega
   rw [hn] at po
   rw [hi]
   obtain ⟨D,hD⟩:∃D,D=h'.objs.size:=⟨_,rfl⟩
   have hDn:H D=none:=I1.hok.fresh (by rw [hD]; exact Nat.le_refl _)
   have I2:Inv X pins σ (upd H D (.lst (ws.take (ws.length - es.length)))) { s with heap:=h'.push { cls:=.type "list",data:=.seq (its.take (ws.length - es.length)).toArray },toks:=tk }:=by
    rw [hD]
    exact I1.lnew (rv.take (ws.length - es.length)) (by rw [List.length_take]; omega)
   have ev:Ev m H (m++[D]) (upd H D (.lst (ws.take (ws.length - es.length)))):=Ev.push hDn
   have hr2:=hr.push (o:=.lst (xs.take (ws.length - es.length))) hDn ⟨ws.take (ws.length - es.length),upd_same,(h2.take _).mono ev⟩
   refine h.run pins _ σ _ ([.ref D]++ws.drop (ws.length - es.length)) _ Q I2 ?_ ⟨m++[D],_, ρ,_,hr2,lr.mono ev,.cons (.ref ?_) ((h2.drop _).mono ev),(Post.ev ev po)⟩
   ·rw [hD]
    exact .cons rfl (rv.drop _)
   ·rw [← hr.len]
    exact zao _ _
  ·exact po.elim
end
end Mi
end
section
set_option maxHeartbeats 4000000
namespace Mi
open PySem PySem.Spec PyProof.Rows L2
theorem ze1 (σ:L2.St) (j:Nat):∀vs:List Nat,(wipe σ vs)[j]?=if j∈vs∧j < σ.length then some none else σ[j]?
 | []=>by simp [wipe]
 | v::vs=>by
  unfold wipe
  by_cases hv:j=v
  ·subst hv
   by_cases hl:j < σ.length
   ·rw [List.getElem?_set_self (by rw [wipe_length]; exact hl),if_pos ⟨List.mem_cons_self ..,hl⟩]
   ·rw [if_neg fun z=>hl z.2,List.getElem?_eq_none (by rw [List.length_set,wipe_length]; omega),List.getElem?_eq_none (by omega)]
  ·rw [List.getElem?_set_ne (Ne.symm hv),ze1 σ j vs]
   have e:(j∈v::vs∧j < σ.length)↔(j∈vs∧j < σ.length):=by
    rw [List.mem_cons]
    exact ⟨fun z=>⟨z.1.resolve_left hv,z.2⟩,fun z=>⟨.inr z.1,z.2⟩⟩
   by_cases q:j∈vs∧j < σ.length
   ·rw [if_pos q,if_pos (e.mpr q)]
   ·rw [if_neg q,if_neg fun z=>q (e.mp z)]
theorem zdC {σ σ2:L2.St} {vs:List Nat} (h:FrS (wipe σ vs) vs σ2):wipe σ2 vs=wipe σ vs:=by
 refine List.ext_getElem? fun j=>?_
 rw [ze1,ze1,h.1,wipe_length]
 by_cases q:j∈vs
 ·by_cases hl:j < σ.length
  ·rw [if_pos ⟨q,hl⟩,if_pos ⟨q,hl⟩]
  ·rw [if_neg fun z=>hl z.2,if_neg fun z=>hl z.2,List.getElem?_eq_none (by rw [h.1,wipe_length]; omega),List.getElem?_eq_none (by omega)]
 ·rw [if_neg fun z=>q z.1,h.2 j q,ze1]
section
variable {g:G} {T:Tb} {cf:Cf} {dt:Nat→FuncData} {C:Nat→List D→M D} {k:Nat} {X:Cx} {W:WX} {tg:Expr}
variable {a b i o e:Ex} {ea eb ei eo:Expr} {pos apos p:Pos} {es:Exs} {xs:List Expr} {t:Tg} {ts:Tgs} {vs:List Nat} {it:It} {oi:Ox}
abbrev WF:WX:=fun _ _ _ _=>False
theorem zoD {σ:L2.St} {H:Hp} {Q:VK} (h:tM g W (evE T C (.lc e t it oi vs)) σ H Q):
  tLc (tMI g W (evI T C it)) (tMG g vs (puT T C t)) (tMT g WF (evT T C oi)) (tM g WF (evE T C e)) vs σ H Q:=by
 obtain ⟨m,L, ρ,hr,lr,po⟩:=h
 refine ⟨m,L, ρ,hr,lr,(Post.bind (R:=RJ g) po).imp fun J H1 ⟨m1,L1,w,e1,hr1,jr,po1⟩=>?_⟩
 intro D hD
 have ev0:Ev m1 H1 (m1++[D]) (upd H1 D (.lst [])):=Ev.push hD
 have hr2:HRel g (m1++[D]) (L1++[.lst []]) (upd H1 D (.lst [])):=hr1.push hD ⟨[],upd_same,.nil⟩
 have hm:(m1++[D])[L1.length]?=some D:=by
  rw [← hr1.len]
  exact zao _ _
 have lw:LRel g (m1++[D]) (upd H1 D (.lst [])) (zaA ρ vs) (wipe σ vs):=((lr.mono e1).mono ev0).wipe vs
 have po3:Post g (fun _ _ _=>False) (fun _ _ (_:Unit) (_:Unit)=>True) (m1++[D]) (upd H1 D (.lst [])) (lcL (evE T C e) (evT T C oi) (puT T C t) w L1.length (zaA ρ vs) (w.len (L1++[.lst []])) 0 (L1++[.lst []])) fun _ H'=>Q (.ref D) H':=by
  refine Post.quiet ((Post.bind (R:=fun _ _ (_:Unit) (_:Unit)=>True) (Post.ev ev0 po1)).imp fun _ H2 ⟨m2,L2,_,e2,hr2',_,po4⟩=>?_) _
  exact po4.at hr2' (.ref (e2.get hm))
 refine ⟨fun i n H=>∃m2 L2,Ev (m1++[D]) (upd H1 D (.lst [])) m2 H∧HRel g m2 L2 H∧Post g (fun _ _ _=>False) (fun _ _ (_:Unit) (_:Unit)=>True) m2 H (lcL (evE T C e) (evT T C oi) (puT T C t) w L1.length (zaA ρ vs) n i L2) fun _ H'=>Q (.ref D) H',
   ⟨_,_,_,Ev.refl _ _,hr2,po3⟩, ?_⟩
 rintro i n H2 ⟨m2,L2,e2,hr2,po⟩
 have jr2:=jr.mono (ev0.trans e2)
 cases q:w.at L2 i with
 | none=>cases n<;>(simp only [lcL,q] at po; exact po.elim)
 | some ox=>
  cases ox with
  | none=>
   refine .inl ⟨jr2.stop m2 L2 H2 i (Ev.refl _ _) hr2 q, ?_⟩
   cases n<;>(simp only [lcL,q] at po; exact po.at (v:=()) hr2 True.intro)
  | some x=>
   cases n with
   | zero=>simp only [lcL,q] at po; exact po.elim
   | succ n=>
    simp only [lcL,q] at po
    obtain ⟨go,yld⟩:=jr2.item m2 L2 H2 i x (Ev.refl _ _) hr2 q
    refine .inr ⟨go,fun H'=>∃m2 L2,Ev (m1++[D]) (upd H1 D (.lst [])) m2 H'∧HRel g m2 L2 H'∧Post g (fun _ _ _=>False) (fun _ _ (_:Unit) (_:Unit)=>True) m2 H' (lcL (evE T C e) (evT T C oi) (puT T C t) w L1.length (zaA ρ vs) n (i+1) L2) fun _ H'=>Q (.ref D) H',
      fun H' z=>⟨n,Nat.lt_succ_self _,z⟩,fun xv H' y=>?_⟩
    obtain ⟨e3,hr3,rx⟩:=yld xv H' y
    refine ⟨m2,L2,zaA ρ vs,x,hr3,(lw.mono e2).mono e3,rx,(Post.bind (R:=RG g (wipe σ vs) vs) (Post.ev e3 po)).imp fun σ2 H3 ⟨m3,L3, ρ1,e4,hr4,⟨l1,l2⟩,po2⟩=>⟨zdC l2, ?_⟩⟩
    refine ⟨m3,L3, ρ1,hr4,l1,(Post.bind (R:=REq) po2).imp fun b H4 ⟨m4,L4,b',e5,hr5,eb,po3⟩=>?_⟩
    cases eb
    cases b with
    | false=>
     rw [if_neg Bool.false_ne_true] at po3 ⊢
     exact ⟨m4,L4,((e2.trans e3).trans e4).trans e5,hr5,po3⟩
    | true=>
     rw [if_pos rfl] at po3 ⊢
     refine ⟨m4,L4, ρ1,hr5,l1.mono e5,(Post.bind (R:=RD g) po3).imp fun y H5 ⟨m5,L5,d,e6,hr6,rd,po4⟩=>?_⟩
     have ev5:=(((e2.trans e3).trans e4).trans e5).trans e6
     split at po4
     ·rename_i xs q5
      split at po4
      ·rename_i q6
       obtain ⟨a,ws,h1,h2,h3⟩:=hr6.lstAt q5
       rw [ev5.get hm] at h1
       cases h1
       have ev6:=Ev.write_lst (m:=m5) (ho:=.lst (ws++[y])) h2
       refine ⟨ws,h2,by rw [← h3.length,zbB]; exact of_decide_eq_true q6,m5,_,ev5.trans ev6,hr6.set (o:=.lst (xs++[d])) (ev5.get hm) ev6 ⟨_,upd_same,(h3.append (.cons rd .nil)).mono ev6⟩,Post.ev ev6 po4⟩
      ·exact po4.elim
     ·exact po4.elim
theorem CxOk.blk (c:CxOk g T cf dt C k X W) (s:Shared) (H:Hp) (scope:Scope) (env:Env) (fp:List Addr):CxOk g T cf dt C k (X.blk s H scope env fp) WF:=
 ⟨c.K,c.lk,c.fns,c.room,c.calm,zfj,c.nd,c.rk,c.xo⟩
theorem m_lc (c:CxOk g T cf dt C k X W) {elt tg iter:Expr} {ifs:List Expr} {scope:Scope} {own:List (Str×Nat)} (hi:PI X tg iter (tMI g W (evI T C it))) (ok:BlkOk X.N X.env.scope scope own) (hv:own.map (·.2)=vs)
  (hg:∀(s:Shared) (H:Hp) (C':Addr) (cl:List (Str×Addr)) (fp:List Addr),PG (X.blk s H scope (compEnvC scope cl C' X.env) fp) tg (tMG g vs (puT T C t)))
  (ht:∀(s:Shared) (H:Hp) (C':Addr) (cl:List (Str×Addr)) (fp:List Addr),PTs (X.blk s H scope (compEnvC scope cl C' X.env) fp) ifs (tMT g WF (evT T C oi)))
  (he:∀(s:Shared) (H:Hp) (C':Addr) (cl:List (Str×Addr)) (fp:List Addr),PE (X.blk s H scope (compEnvC scope cl C' X.env) fp) elt (tM g WF (evE T C e))) (hs:zaS iter=true):
  PE X (.ListComp elt [⟨tg,iter,ifs,0⟩] scope pos) (tM g W (evE T C (.lc e t it oi vs))):=by
 subst hv
 exact zaq (pe_lc c.calm c.nd hi ok hg ht he (zax hs)) fun σ H Q h=>zoD h
theorem zh6 {α β γ:Type} (r:Res α) (f:α→M β) (h:β→M γ):(r.bind f).bind h=r.bind fun a L=>(f a L).bind h:=by cases r<;>rfl
theorem zl4 {t1:Tg} {it1:It} {oi1:Ox} {vs1:List Nat} {σ:L2.St} {H:Hp} {Q:VK} (h:tM g W (evE T C (.lc2 e t it oi vs t1 it1 oi1 vs1)) σ H Q):
  tLc2 (tMI g W (evI T C it)) (tMG g vs (puT T C t)) (tMT g WF (evT T C oi)) (tMI g WF (evI T C it1)) (tMG g vs1 (puT T C t1)) (tMT g WF (evT T C oi1)) (tM g WF (evE T C e)) vs vs1 σ H Q:=by
 obtain ⟨m,L, ρ,hr,lr,po⟩:=h
 refine ⟨m,L, ρ,hr,lr,(Post.bind (R:=RJ g) po).imp fun J H1 ⟨m1,L1,w,e1,hr1,jr,po1⟩=>?_⟩
 intro D hD
 have ev0:Ev m1 H1 (m1++[D]) (upd H1 D (.lst [])):=Ev.push hD
 have hr2:HRel g (m1++[D]) (L1++[.lst []]) (upd H1 D (.lst [])):=hr1.push hD ⟨[],upd_same,.nil⟩
 have hm:(m1++[D])[L1.length]?=some D:=by
  rw [← hr1.len]
  exact zao _ _
 have lw:LRel g (m1++[D]) (upd H1 D (.lst [])) (zaA ρ vs) (wipe σ vs):=((lr.mono e1).mono ev0).wipe vs
 generalize eB:(fun (ρ1:Mi.Loc) (L2:MH)=>(evI T C it1 ρ1 L2).bind fun w1 L3=>lcL (evE T C e) (evT T C oi1) (puT T C t1) w1 L1.length (zaA ρ1 vs1) (w1.len L3) 0 L3)=B at po1
 have po3:Post g (fun _ _ _=>False) (fun _ _ (_:Unit) (_:Unit)=>True) (m1++[D]) (upd H1 D (.lst [])) (lcO B (evT T C oi) (puT T C t) w (zaA ρ vs) (w.len (L1++[.lst []])) 0 (L1++[.lst []])) fun _ H'=>Q (.ref D) H':=by
  refine Post.quiet ((Post.bind (R:=fun _ _ (_:Unit) (_:Unit)=>True) (Post.ev ev0 po1)).imp fun _ H2 ⟨m2,L2,_,e2,hr2',_,po4⟩=>?_) _
  exact po4.at hr2' (.ref (e2.get hm))
 refine ⟨fun i n H=>∃m2 L2,Ev (m1++[D]) (upd H1 D (.lst [])) m2 H∧HRel g m2 L2 H∧Post g (fun _ _ _=>False) (fun _ _ (_:Unit) (_:Unit)=>True) m2 H (lcO B (evT T C oi) (puT T C t) w (zaA ρ vs) n i L2) fun _ H'=>Q (.ref D) H',
   ⟨_,_,_,Ev.refl _ _,hr2,po3⟩, ?_⟩
 rintro i n H2 ⟨m2,L2,e2,hr2,po⟩
 have jr2:=jr.mono (ev0.trans e2)
 cases q:w.at L2 i with
 | none=>cases n<;>(simp only [lcO,q] at po; exact po.elim)
 | some ox=>
  cases ox with
  | none=>
   refine .inl ⟨jr2.stop m2 L2 H2 i (Ev.refl _ _) hr2 q, ?_⟩
   cases n<;>(simp only [lcO,q] at po; exact po.at (v:=()) hr2 True.intro)
  | some x=>
   cases n with
   | zero=>simp only [lcO,q] at po; exact po.elim
   | succ n=>
    simp only [lcO,q] at po
    obtain ⟨go,yld⟩:=jr2.item m2 L2 H2 i x (Ev.refl _ _) hr2 q
    refine .inr ⟨go,fun H'=>∃m2 L2,Ev (m1++[D]) (upd H1 D (.lst [])) m2 H'∧HRel g m2 L2 H'∧Post g (fun _ _ _=>False) (fun _ _ (_:Unit) (_:Unit)=>True) m2 H' (lcO B (evT T C oi) (puT T C t) w (zaA ρ vs) n (i+1) L2) fun _ H'=>Q (.ref D) H',
      fun H' z=>⟨n,Nat.lt_succ_self _,z⟩,fun xv H' y=>?_⟩
    obtain ⟨e3,hr3,rx⟩:=yld xv H' y
    refine ⟨m2,L2,zaA ρ vs,x,hr3,(lw.mono e2).mono e3,rx,(Post.bind (R:=RG g (wipe σ vs) vs) (Post.ev e3 po)).imp fun σ2 H3 ⟨m3,L3, ρ1,e4,hr4,⟨l1,l2⟩,po2⟩=>⟨zdC l2, ?_⟩⟩
    refine ⟨m3,L3, ρ1,hr4,l1,(Post.bind (R:=REq) po2).imp fun b H4 ⟨m4,L4,b',e5,hr5,eb,po3⟩=>?_⟩
    cases eb
    cases b with
    | false=>
     rw [if_neg Bool.false_ne_true] at po3 ⊢
     exact ⟨m4,L4,((e2.trans e3).trans e4).trans e5,hr5,po3⟩
    | true=>
     rw [if_pos rfl] at po3 ⊢
     rw [← eB] at po3
     simp only [zh6] at po3
     rw [eB] at po3
     refine ⟨m4,L4, ρ1,hr5,l1.mono e5,(Post.bind (R:=RJ g) po3).imp fun J1 H5 ⟨m5,L5,w1,e6,hr6,jr1,po4⟩=>?_⟩
     have ev5:=(((e2.trans e3).trans e4).trans e5).trans e6
     have l5:=(l1.mono e5).mono e6
     have lw1:LRel g m5 H5 (zaA ρ1 vs1) (wipe σ2 vs1):=l5.wipe vs1
     refine ⟨fun j kk H=>∃m6 L6,Ev m5 H5 m6 H∧HRel g m6 L6 H∧Post g (fun _ _ _=>False) (fun _ _ (_:Unit) (_:Unit)=>True) m6 H ((lcL (evE T C e) (evT T C oi1) (puT T C t1) w1 L1.length (zaA ρ1 vs1) kk j L6).bind fun _ L7=>lcO B (evT T C oi) (puT T C t) w (zaA ρ vs) n (i+1) L7) fun _ H'=>Q (.ref D) H',
       ⟨_,_,_,Ev.refl _ _,hr6,po4⟩, ?_⟩
     rintro j kk H6 ⟨m6,L6,e7,hr7,po5⟩
     have jr3:=jr1.mono e7
     cases q1:w1.at L6 j with
     | none=>cases kk<;>(simp only [lcL,q1,Res.bind] at po5; exact po5.elim)
     | some ox=>
      cases ox with
      | none=>
       refine .inl ⟨jr3.stop m6 L6 H6 j (Ev.refl _ _) hr7 q1, ?_⟩
       cases kk<;>(simp only [lcL,q1,Res.bind] at po5; exact ⟨m6,L6,ev5.trans e7,hr7,po5⟩)
      | some x1=>
       cases kk with
       | zero=>simp only [lcL,q1,Res.bind] at po5; exact po5.elim
       | succ kk=>
        simp only [lcL,q1,zh6] at po5
        obtain ⟨go1,yld1⟩:=jr3.item m6 L6 H6 j x1 (Ev.refl _ _) hr7 q1
        refine .inr ⟨go1,fun H'=>∃m6 L6,Ev m5 H5 m6 H'∧HRel g m6 L6 H'∧Post g (fun _ _ _=>False) (fun _ _ (_:Unit) (_:Unit)=>True) m6 H' ((lcL (evE T C e) (evT T C oi1) (puT T C t1) w1 L1.length (zaA ρ1 vs1) kk (j+1) L6).bind fun _ L7=>lcO B (evT T C oi) (puT T C t) w (zaA ρ vs) n (i+1) L7) fun _ H'=>Q (.ref D) H',
          fun H' z=>⟨kk,Nat.lt_succ_self _,z⟩,fun xv H' y=>?_⟩
        obtain ⟨e8,hr8,rx1⟩:=yld1 xv H' y
        refine ⟨m6,L6,zaA ρ1 vs1,x1,hr8,(lw1.mono e7).mono e8,rx1,(Post.bind (R:=RG g (wipe σ2 vs1) vs1) (Post.ev e8 po5)).imp fun σ3 H7 ⟨m7,L7, ρ2,e9,hr9,⟨l7,l8⟩,po6⟩=>⟨zdC l8, ?_⟩⟩
        refine ⟨m7,L7, ρ2,hr9,l7,(Post.bind (R:=REq) po6).imp fun b H8 ⟨m8,L8,b',e10,hr10,eb,po7⟩=>?_⟩
        cases eb
        cases b with
        | false=>
         rw [if_neg Bool.false_ne_true] at po7 ⊢
         exact ⟨m8,L8,((e7.trans e8).trans e9).trans e10,hr10,po7⟩
        | true=>
         rw [if_pos rfl] at po7 ⊢
         rw [zh6] at po7
         refine ⟨m8,L8, ρ2,hr10,l7.mono e10,(Post.bind (R:=RD g) po7).imp fun y H9 ⟨m9,L9,d,e11,hr11,rd,po8⟩=>?_⟩
         have ev9:=(((e7.trans e8).trans e9).trans e10).trans e11
         split at po8
         ·rename_i xs q5
          split at po8
          ·rename_i q6
           obtain ⟨a,ws,h1,h2,h3⟩:=hr11.lstAt q5
           rw [(ev5.trans ev9).get hm] at h1
           cases h1
           have ev6:=Ev.write_lst (m:=m9) (ho:=.lst (ws++[y])) h2
           refine ⟨ws,h2,by rw [← h3.length,zbB]; exact of_decide_eq_true q6,m9,_,ev9.trans ev6,hr11.set (o:=.lst (xs++[d])) ((ev5.trans ev9).get hm) ev6 ⟨_,upd_same,(h3.append (.cons rd .nil)).mono ev6⟩,Post.ev ev6 po8⟩
          ·exact po8.elim
         ·exact po8.elim
theorem znS {es:List Expr} {t t':TT} (h:PTs X es t) (k:∀ σ H Q,t' σ H Q→t σ H Q):PTs X es t':=⟨fun pins s σ H Q I q=>h.run pins s σ H Q I (k σ H Q q)⟩
theorem zot:PTs X [] (tMT g W (evT T C .none)):=znS pts_nil fun σ H Q ⟨m,L, ρ,hr,lr,po⟩=>po.at (v:=true) hr rfl
theorem zp2 (h:PT X ea (tMT g W (evB T C a))):PTs X [ea] (tMT g W (evT T C (.some a))):=pts_one h
theorem zrf (c:CxOk g T cf dt C k X W) {t1:Tg} {it1:It} {oi1:Ox} {vs1:List Nat} {elt tg iter tg1 iter1:Expr} {ifs ifs1:List Expr} {scope:Scope} {own:List (Str×Nat)} (hi:PI X tg iter (tMI g W (evI T C it))) (ok:BlkOk X.N X.env.scope scope own) (hv:own.map (·.2)=vs) (hv1:∀i∈vs1,i∈vs)
  (hg:∀(s:Shared) (H:Hp) (C':Addr) (cl:List (Str×Addr)) (fp:List Addr),PG (X.blk s H scope (compEnvC scope cl C' X.env) fp) tg (tMG g vs (puT T C t)))
  (ht:∀(s:Shared) (H:Hp) (C':Addr) (cl:List (Str×Addr)) (fp:List Addr),PTs (X.blk s H scope (compEnvC scope cl C' X.env) fp) ifs (tMT g WF (evT T C oi)))
  (hi1:∀(s:Shared) (H:Hp) (C':Addr) (cl:List (Str×Addr)) (fp:List Addr),PI (X.blk s H scope (compEnvC scope cl C' X.env) fp) tg1 iter1 (tMI g WF (evI T C it1)))
  (hg1:∀(s:Shared) (H:Hp) (C':Addr) (cl:List (Str×Addr)) (fp:List Addr),PG (X.blk s H scope (compEnvC scope cl C' X.env) fp) tg1 (tMG g vs1 (puT T C t1)))
  (ht1:∀(s:Shared) (H:Hp) (C':Addr) (cl:List (Str×Addr)) (fp:List Addr),PTs (X.blk s H scope (compEnvC scope cl C' X.env) fp) ifs1 (tMT g WF (evT T C oi1)))
  (he:∀(s:Shared) (H:Hp) (C':Addr) (cl:List (Str×Addr)) (fp:List Addr),PE (X.blk s H scope (compEnvC scope cl C' X.env) fp) elt (tM g WF (evE T C e))) (hs:zaS iter=true) (hs1:zaS iter1=true):
  PE X (.ListComp elt [⟨tg,iter,ifs,0⟩,⟨tg1,iter1,ifs1,0⟩] scope pos) (tM g W (evE T C (.lc2 e t it oi vs t1 it1 oi1 vs1))):=by
 subst hv
 exact zaq (pe_lc2 c.calm c.nd hi ok hv1 hg ht hi1 hg1 ht1 he (zax hs) (fun env=>zax hs1)) fun σ H Q h=>zl4 h
end
end Mi
end
section
set_option maxHeartbeats 4000000
namespace Mi
open PySem PySem.Spec PyProof.Rows L2
section
variable {g:G} {m m':List Addr} {L:MH} {H:Hp} {n:Nat}
theorem HRel.dctAt (h:HRel g m L H) {kvs:List (Key×D)} (e:L[n]?=some (.dct kvs)):∃a vs,m[n]?=some a∧H a=some (.dK vs)∧RelK g m H kvs vs:=by
 obtain ⟨a,h1,_,vs,h2,h3⟩:=h.addr e
 exact ⟨a,vs,h1,h2,h3⟩
theorem RelK.val (k:Key):∀ {kvs:List (Key×D)} {vs:List (Key×V)},RelK g m H kvs vs→(vlK kvs k=none∧valV vs k=none)∨∃d v,vlK kvs k=some d∧valV vs k=some v∧RelD g m H d v
 | _,_,.nil=>.inl ⟨rfl,rfl⟩
 | (j,d)::kvs,(_,v)::vs,.cons h r=>by
  by_cases e:j=k
  ·exact .inr ⟨d,v,by simp [vlK,List.find?_cons,e],by simp [valV,List.find?_cons,e],h⟩
  ·rcases RelK.val k r with ⟨h1,h2⟩ | ⟨d',v',h1,h2,h3⟩
   ·exact .inl ⟨by simpa [vlK,List.find?_cons,e] using h1,by simpa [valV,List.find?_cons,e] using h2⟩
   ·exact .inr ⟨d',v',by simpa [vlK,List.find?_cons,e] using h1,by simpa [valV,List.find?_cons,e] using h2,h3⟩
theorem RelK.any (k:Key):∀ {kvs:List (Key×D)} {vs:List (Key×V)},RelK g m H kvs vs→(kvs.any fun kv=>decide (kv.1=k))=vs.any fun kv=>decide (kv.1=k)
 | _,_,.nil=>rfl
 | _::_,_::_,.cons h r=>by rw [List.any_cons,List.any_cons,RelK.any k r]
theorem RelK.snoc {k:Key} {d:D} {v:V} (rd:RelD g m H d v):∀ {kvs:List (Key×D)} {vs:List (Key×V)},RelK g m H kvs vs→RelK g m H (kvs++[(k,d)]) (vs++[(k,v)])
 | _,_,.nil=>.cons rd .nil
 | _::_,_::_,.cons h r=>.cons h (RelK.snoc rd r)
theorem RelK.mapPut {k:Key} {d:D} {v:V} (rd:RelD g m H d v):∀ {kvs:List (Key×D)} {vs:List (Key×V)},RelK g m H kvs vs→RelK g m H (kvs.map fun kv=>if kv.1=k then (kv.1,d) else kv) (vs.map fun kv=>if kv.1=k then (kv.1,v) else kv)
 | _,_,.nil=>.nil
 | (j,_)::_,(_,_)::_,.cons h r=>by
  rw [List.map_cons,List.map_cons]
  by_cases e:j=k
  ·rw [if_pos e,if_pos e]
   exact .cons rd (RelK.mapPut rd r)
  ·rw [if_neg e,if_neg e]
   exact .cons h (RelK.mapPut rd r)
theorem RelK.put {k:Key} {d:D} {v:V} (rd:RelD g m H d v) {kvs:List (Key×D)} {vs:List (Key×V)} (r:RelK g m H kvs vs):RelK g m H (ptK kvs k d) (putK vs k v):=by
 unfold ptK putK
 rw [r.any k]
 split
 ·exact r.mapPut rd
 ·exact r.snoc rd
theorem zit {d:D} {v:V} {k:Key} (rd:RelD g m H d v) (h:keyD d=some k):v=kV k:=by
 cases rd<;>simp only [keyD,Option.some.injEq,reduceCtorEq] at h<;>(subst h; rfl)
end
section
variable {g:G} {T:Tb} {cf:Cf} {dt:Nat→FuncData} {C:Nat→List D→M D} {k:Nat} {X:Cx} {W:WX} {tg:Expr}
variable {a b i o e d kx vx:Ex} {ea eb ei eo ed:Expr} {pos apos p:Pos} {es:Exs} {xs:List Expr} {t:Tg} {ts:Tgs} {vs:List Nat} {it:It} {oi:Ox}
theorem CxOk.hu1 (c:CxOk g T cf dt C k X W):X.A.units+1 < cLine:=by have:=c.room.un; omega
theorem zqX (c:CxOk g T cf dt C k X W) (hn:zbc ei=true) (ho:PE X eo (tM g W (evE T C o))) (hi:PE X ei (tM g W (evE T C i))):PG X (.Subscript eo ei pos) (tMG g vs (puT T C (.dsub o i))):=by
 refine ziA (pg_sub ho hi (set_dict c.hu1) (fun v=>by
   rw [arm_assign_Subscript]
   cases ei<;>first | rfl | cases hn)) fun v σ H Q ⟨m,L, ρ,d,hr,lr,rd,po⟩=>?_
 refine zda hr lr ((Post.bind (R:=RD g) po).imp fun x H1 ⟨m1,L1,dx,e1,hr1,rx,po1⟩=>?_)
 refine zda hr1 (lr.mono e1) ((Post.bind (R:=RD g) po1).imp fun y H2 ⟨m2,L2,dy,e2,hr2,ry,po2⟩=>?_)
 have rx2:=rx.mono e2
 have rd2:=(rd.mono e1).mono e2
 unfold zj7 at po2
 cases rx2 with
 | @ref nn p hm=>
  cases q0:keyD dy with
  | none=>simp only [q0] at po2; exact po2.elim
  | some ky=>
   simp only [q0] at po2
   split at po2
   ·rename_i kvs q
    split at po2
    ·rename_i q2
     obtain ⟨a',ws,h1,h2,h3⟩:=hr2.dctAt q
     rw [hm] at h1
     cases h1
     have hl:ws.length < sizeLine:=by
      rw [← h3.length,zbB]
      exact of_decide_eq_true q2
     refine ⟨_,_,rfl,by rw [zit ry q0]; exact DPut.k h2 hl, ?_⟩
     have ev:=Ev.write_dct (m:=m2) (ho:=.dK (putK ws ky v)) h2
     exact po2.atE (v:=σ) ev (hr2.set hm ev ⟨_,upd_same,(h3.put rd2).mono ev⟩) ⟨((lr.mono e1).mono e2).mono ev,FrS.refl _ _⟩
    ·exact po2.elim
   ·exact po2.elim
 | _=>exact po2.elim
theorem zpr {σ:L2.St} {H:Hp} {Q:VK} (h:tM g W (evE T C (.dc kx vx t it oi vs)) σ H Q):
  tDc (tMI g W (evI T C it)) (tMG g vs (puT T C t)) (tMT g WF (evT T C oi)) (tM g WF (evE T C kx)) (tM g WF (evE T C vx)) vs σ H Q:=by
 obtain ⟨m,L, ρ,hr,lr,po⟩:=h
 refine ⟨m,L, ρ,hr,lr,(Post.bind (R:=RJ g) po).imp fun J H1 ⟨m1,L1,w,e1,hr1,jr,po1⟩=>?_⟩
 intro D hD
 have ev0:Ev m1 H1 (m1++[D]) (upd H1 D (.dK [])):=Ev.push hD
 have hr2:HRel g (m1++[D]) (L1++[.dct []]) (upd H1 D (.dK [])):=hr1.push hD ⟨[],upd_same,.nil⟩
 have hm:(m1++[D])[L1.length]?=some D:=by
  rw [← hr1.len]
  exact zao _ _
 have lw:LRel g (m1++[D]) (upd H1 D (.dK [])) (zaA ρ vs) (wipe σ vs):=((lr.mono e1).mono ev0).wipe vs
 have po3:Post g (fun _ _ _=>False) (fun _ _ (_:Unit) (_:Unit)=>True) (m1++[D]) (upd H1 D (.dK [])) (dcL (evE T C kx) (evE T C vx) (evT T C oi) (puT T C t) w L1.length (zaA ρ vs) (w.len (L1++[.dct []])) 0 (L1++[.dct []])) fun _ H'=>Q (.ref D) H':=by
  refine Post.quiet ((Post.bind (R:=fun _ _ (_:Unit) (_:Unit)=>True) (Post.ev ev0 po1)).imp fun _ H2 ⟨m2,L2,_,e2,hr2',_,po4⟩=>?_) _
  exact po4.at hr2' (.ref (e2.get hm))
 refine ⟨fun i n H=>∃m2 L2,Ev (m1++[D]) (upd H1 D (.dK [])) m2 H∧HRel g m2 L2 H∧Post g (fun _ _ _=>False) (fun _ _ (_:Unit) (_:Unit)=>True) m2 H (dcL (evE T C kx) (evE T C vx) (evT T C oi) (puT T C t) w L1.length (zaA ρ vs) n i L2) fun _ H'=>Q (.ref D) H',
   ⟨_,_,_,Ev.refl _ _,hr2,po3⟩, ?_⟩
 rintro i n H2 ⟨m2,L2,e2,hr2,po⟩
 have jr2:=jr.mono (ev0.trans e2)
 cases q:w.at L2 i with
 | none=>cases n<;>(simp only [dcL,q] at po; exact po.elim)
 | some ox=>
  cases ox with
  | none=>
   refine .inl ⟨jr2.stop m2 L2 H2 i (Ev.refl _ _) hr2 q, ?_⟩
   cases n<;>(simp only [dcL,q] at po; exact po.at (v:=()) hr2 True.intro)
  | some x=>
   cases n with
   | zero=>simp only [dcL,q] at po; exact po.elim
   | succ n=>
    simp only [dcL,q] at po
    obtain ⟨go,yld⟩:=jr2.item m2 L2 H2 i x (Ev.refl _ _) hr2 q
    refine .inr ⟨go,fun H'=>∃m2 L2,Ev (m1++[D]) (upd H1 D (.dK [])) m2 H'∧HRel g m2 L2 H'∧Post g (fun _ _ _=>False) (fun _ _ (_:Unit) (_:Unit)=>True) m2 H' (dcL (evE T C kx) (evE T C vx) (evT T C oi) (puT T C t) w L1.length (zaA ρ vs) n (i+1) L2) fun _ H'=>Q (.ref D) H',
      fun H' z=>⟨n,Nat.lt_succ_self _,z⟩,fun xv H' y=>?_⟩
    obtain ⟨e3,hr3,rx⟩:=yld xv H' y
    refine ⟨m2,L2,zaA ρ vs,x,hr3,(lw.mono e2).mono e3,rx,(Post.bind (R:=RG g (wipe σ vs) vs) (Post.ev e3 po)).imp fun σ2 H3 ⟨m3,L3, ρ1,e4,hr4,⟨l1,l2⟩,po2⟩=>⟨zdC l2, ?_⟩⟩
    refine ⟨m3,L3, ρ1,hr4,l1,(Post.bind (R:=REq) po2).imp fun b H4 ⟨m4,L4,b',e5,hr5,eb,po3⟩=>?_⟩
    cases eb
    cases b with
    | false=>
     rw [if_neg Bool.false_ne_true] at po3 ⊢
     exact ⟨m4,L4,((e2.trans e3).trans e4).trans e5,hr5,po3⟩
    | true=>
     rw [if_pos rfl] at po3 ⊢
     refine ⟨m4,L4, ρ1,hr5,l1.mono e5,(Post.bind (R:=RD g) po3).imp fun y H5 ⟨m5,L5,dy,e6,hr6,ry,po4⟩=>?_⟩
     refine ⟨m5,L5, ρ1,hr6,(l1.mono e5).mono e6,(Post.bind (R:=RD g) po4).imp fun z H6 ⟨m6,L6,dz,e7,hr7,rz,po5⟩=>?_⟩
     have ev5:=((((e2.trans e3).trans e4).trans e5).trans e6).trans e7
     split at po5
     ·rename_i ky kvs q5 q5'
      split at po5
      ·rename_i q6
       obtain ⟨a,ws,h1,h2,h3⟩:=hr7.dctAt q5'
       rw [ev5.get hm] at h1
       cases h1
       have ev6:=Ev.write_dct (m:=m6) (ho:=.dK (putK ws ky z)) h2
       refine ⟨ws,ky,zit ry q5,h2,by rw [← h3.length,zbB]; exact of_decide_eq_true q6,m6,_,ev5.trans ev6,hr7.set (o:=.dct (ptK kvs ky dz)) (ev5.get hm) ev6 ⟨_,upd_same,(h3.put rz).mono ev6⟩,Post.ev ev6 po5⟩
      ·exact po5.elim
     ·exact po5.elim
theorem m_dc (c:CxOk g T cf dt C k X W) {ekx evx tg iter:Expr} {ifs:List Expr} {scope:Scope} {own:List (Str×Nat)} (hi:PI X tg iter (tMI g W (evI T C it))) (ok:BlkOk X.N X.env.scope scope own) (hv:own.map (·.2)=vs)
  (hg:∀(s:Shared) (H:Hp) (C':Addr) (cl:List (Str×Addr)) (fp:List Addr),PG (X.blk s H scope (compEnvC scope cl C' X.env) fp) tg (tMG g vs (puT T C t)))
  (ht:∀(s:Shared) (H:Hp) (C':Addr) (cl:List (Str×Addr)) (fp:List Addr),PTs (X.blk s H scope (compEnvC scope cl C' X.env) fp) ifs (tMT g WF (evT T C oi)))
  (hk:∀(s:Shared) (H:Hp) (C':Addr) (cl:List (Str×Addr)) (fp:List Addr),PE (X.blk s H scope (compEnvC scope cl C' X.env) fp) ekx (tM g WF (evE T C kx)))
  (he:∀(s:Shared) (H:Hp) (C':Addr) (cl:List (Str×Addr)) (fp:List Addr),PE (X.blk s H scope (compEnvC scope cl C' X.env) fp) evx (tM g WF (evE T C vx))) (hs:zaS iter=true):
  PE X (.DictComp ekx evx [⟨tg,iter,ifs,0⟩] scope pos) (tM g W (evE T C (.dc kx vx t it oi vs))):=by
 subst hv
 exact zaq (pe_dc c.calm c.nd hi ok hg ht hk he (zax hs)) fun σ H Q h=>zpr h
end
end Mi
end
section
set_option maxHeartbeats 4000000
namespace Mi
open PySem PySem.Spec PyProof.Rows L2
def PFl (g:G) (W:WX) (D:Ends) (m:List Addr) (H:Hp) (r:Res Fl):Prop:=match r with
 | .ok fl L'=>∀m' H',Ev m H m' H'→HRel g m' L' H'→(match fl with
   | .nx ρ=>∀ σ',LRel g m' H' ρ σ'→D.nx σ' H'
   | .bk ρ=>∀ σ',LRel g m' H' ρ σ'→D.bk σ' H'
   | .ct ρ=>∀ σ',LRel g m' H' ρ σ'→D.ct σ' H'
   | .rt d=>∀v,RelD g m' H' d v→D.rt v H'
   | .xc ρ c fs=>∀dx σ',LRel g m' H' ρ σ'→XR g m' H' fs dx→W (.ref (g.cad c)) (some dx) σ' H')
 | _=>False
def tMS (g:G) (W:WX) (f:Loc→M Fl):TS:=fun D σ H=>∃m L ρ,HRel g m L H∧LRel g m H ρ σ∧PFl g W D m H (f ρ L)
section
variable {g:G} {W:WX} {D:Ends} {m m':List Addr} {H H':Hp} {L:MH} {σ:L2.St} {ρ:Loc}
theorem PFl.ev {r:Res Fl} (e:Ev m H m' H') (h:PFl g W D m H r):PFl g W D m' H' r:=by
 cases r with
 | ok fl L'=>exact fun m2 H2 e2 hr=>h m2 H2 (e.trans e2) hr
 | exc c fs L'=>exact h
 | stk=>exact h
theorem PFl.bindX {α β:Type} {R:List Addr→Hp→α→β→Prop} {r:Res α} {k:α→M Fl} (lr:LRel g m H ρ σ) (h:PFl g W D m H (r.bindX ρ k)):
  Post g (fun c d H'=>W c d σ H') R m H r fun v H1=>∃m1 L1 a,Ev m H m1 H1∧HRel g m1 L1 H1∧R m1 H1 a v∧PFl g W D m1 H1 (k a L1):=by
 cases r with
 | ok d L'=>exact fun m1 H1 v e hr rd=>⟨m1,L',d,e,hr,rd,h.ev e⟩
 | exc c fs L'=>exact fun m1 H1 dx e hr x=>h m1 H1 e hr dx σ (lr.mono e) x
 | stk=>exact h
theorem PFl.bind {α β:Type} {R:List Addr→Hp→α→β→Prop} {r:Res α} {k:α→M Fl} {E:XK} (h:PFl g W D m H (r.quiet.bind k)):
  Post g E R m H r fun v H1=>∃m1 L1 a,Ev m H m1 H1∧HRel g m1 L1 H1∧R m1 H1 a v∧PFl g W D m1 H1 (k a L1):=by
 cases r with
 | ok d L'=>exact fun m1 H1 v e hr rd=>⟨m1,L',d,e,hr,rd,h.ev e⟩
 | exc c fs L'=>exact h.elim
 | stk=>exact h
theorem PFl.at {ρ:Loc} (h:PFl g W D m H (.ok (.nx ρ) L)) (hr:HRel g m L H) (lr:LRel g m H ρ σ):D.nx σ H:=h m H (Ev.refl _ _) hr σ lr
theorem PFl.imp {D':Ends} {W':WX} {r:Res Fl} (h:PFl g W D m H r) (h1:∀ σ H,D.nx σ H→D'.nx σ H) (h2:∀v H,D.rt v H→D'.rt v H) (h3:∀ σ H,D.bk σ H→D'.bk σ H) (h4:∀ σ H,D.ct σ H→D'.ct σ H) (h5:∀c d σ H,W c d σ H→W' c d σ H):PFl g W' D' m H r:=by
 cases r with
 | ok fl L'=>
  intro m2 H2 e2 hr
  have z:=h m2 H2 e2 hr
  cases fl with
  | nx ρ=>exact fun σ' l=>h1 _ _ (z σ' l)
  | bk ρ=>exact fun σ' l=>h3 _ _ (z σ' l)
  | ct ρ=>exact fun σ' l=>h4 _ _ (z σ' l)
  | rt d=>exact fun v r=>h2 _ _ (z v r)
  | xc ρ c fs=>exact fun dx σ' l x=>h5 _ _ _ _ (z dx σ' l x)
 | exc c fs L'=>exact h
 | stk=>exact h
end
structure SxOk (g:G) (T:Tb) (cf:Cf) (dt:Nat→FuncData) (C:Nat→List D→M D) (k:Nat) (X:Cx) (W:WX):Prop where
 cx:CxOk g T cf dt C k X W
 pw:PassesOwn (model X.prog X.w) X.A X.env X.xe
 bk:X.env.blockKind=.function
 st:X.stack=X.env::X.outer
 fr:X.env.frame=some X.env.locals
 pa:∀hd:Option Value,PassesOwnAt (model X.prog X.w) (X.A.mark hd) X.A X.env X.xe
section
variable {g:G} {T:Tb} {cf:Cf} {dt:Nat→FuncData} {C:Nat→List D→M D} {k wf:Nat} {X:Cx} {W:WX} {tg:Expr}
variable {a b i o e:Ex} {ea eb ei eo:Expr} {pos apos p:Pos} {es:Exs} {xs:List Expr} {t:Tg} {ts:Tgs} {vs:List Nat} {it:It} {oi:Ox} {st:Stmt} {sts sts2:List Stmt} {s1:Sm} {b1 b2:Sms}
theorem zpb:PSs X [] (tMS g W (exSs T C wf .nil)):=zgu pss_nil fun D σ H ⟨m,L, ρ,hr,lr,po⟩=>po.at hr lr
theorem zpI (h:PS X st (tMS g W (exS T C wf s1))) (h':PSs X sts (tMS g W (exSs T C wf b1))):PSs X (st::sts) (tMS g W (exSs T C wf (.cons s1 b1))):=by
 refine zgu (pss_cons h h') fun D σ H ⟨m,L, ρ,hr,lr,po⟩=>⟨m,L, ρ,hr,lr, ?_⟩
 simp only [exSs] at po
 revert po
 generalize exS T C wf s1 ρ L=r
 intro po
 cases r with
 | stk=>exact po.elim
 | exc c fs L'=>exact po.elim
 | ok fl L'=>
  intro m1 H1 e1 hr1
  have po1:=PFl.ev e1 po
  cases fl with
  | nx ρ1=>exact fun σ' l=>⟨m1,L', ρ1,hr1,l,po1⟩
  | bk ρ1=>exact po1 m1 H1 (Ev.refl _ _) hr1
  | ct ρ1=>exact po1 m1 H1 (Ev.refl _ _) hr1
  | rt d=>exact po1 m1 H1 (Ev.refl _ _) hr1
  | xc ρ1 c fs=>exact po1 m1 H1 (Ev.refl _ _) hr1
theorem zom:PS X (.Pass pos) (tMS g W (exS T C wf .pass)):=zaG ps_pass fun D σ H ⟨m,L, ρ,hr,lr,po⟩=>po.at hr lr
theorem zrC:PS X (.Break pos) (tMS g W (exS T C wf .brk)):=zaG ps_break fun D σ H ⟨m,L, ρ,hr,lr,po⟩=>po m H (Ev.refl _ _) hr σ lr
theorem zqx:PS X (.Continue pos) (tMS g W (exS T C wf .cont)):=zaG ps_continue fun D σ H ⟨m,L, ρ,hr,lr,po⟩=>po m H (Ev.refl _ _) hr σ lr
theorem zrE {x:Str} {j:Nat} {p:Pos}:PS X (.Expr (.Constant (.str x) j p) pos) (tMS g W (exS T C wf .doc)):=zaG ps_doc fun D σ H ⟨m,L, ρ,hr,lr,po⟩=>po.at hr lr
theorem zrd:PS X st (tMS g W (exS T C wf .bad)):=⟨fun _ _ _ _ _ _ ⟨m,L, ρ,hr,lr,po⟩=>po.elim⟩
theorem zoZ (hn:zfz ea=true) (ha:PE X ea (tM g W (evE T C a))):PS X (.Expr ea pos) (tMS g W (exS T C wf (.expr a))):=
 zaG (ps_expr ha (zbv hn)) fun D σ H ⟨m,L, ρ,hr,lr,po⟩=>⟨m,L, ρ,hr,lr,(PFl.bindX (R:=RD g) lr po).imp fun v H1 ⟨m1,L1,d,e1,hr1,rd,po1⟩=>po1.at hr1 (lr.mono e1)⟩
theorem zrS (ha:PE X ea (tM g W (evE T C a))):PS X (.Return (some ea) pos) (tMS g W (exS T C wf (.ret a))):=
 zaG (ps_ret ha) fun D σ H ⟨m,L, ρ,hr,lr,po⟩=>⟨m,L, ρ,hr,lr,(PFl.bindX (R:=RD g) lr po).imp fun v H1 ⟨m1,L1,d,e1,hr1,rd,po1⟩=>po1 m1 H1 (Ev.refl _ _) hr1 v rd⟩
theorem zo7:PS X (.Return none pos) (tMS g W (exS T C wf .retn)):=zaG ps_retN fun D σ H ⟨m,L, ρ,hr,lr,po⟩=>po m H (Ev.refl _ _) hr .non .non
theorem s_if {c:Ex} {ec:Expr} (hc:PT X ec (tMT g W (evB T C c))) (ha:PSs X sts (tMS g W (exSs T C wf b1))) (hb:PSs X sts2 (tMS g W (exSs T C wf b2))):PS X (.If ec sts sts2 pos) (tMS g W (exS T C wf (.ife c b1 b2))):=by
 refine zaG (ps_if hc ha hb) fun D σ H ⟨m,L, ρ,hr,lr,po⟩=>⟨m,L, ρ,hr,lr,(PFl.bindX (R:=REq) lr po).imp fun v H1 ⟨m1,L1,d,e1,hr1,rd,po1⟩=>?_⟩
 cases rd
 cases v with
 | true=>
  rw [if_pos rfl] at po1 ⊢
  exact ⟨m1,L1, ρ,hr1,lr.mono e1,po1⟩
 | false=>
  rw [if_neg Bool.false_ne_true] at po1 ⊢
  exact ⟨m1,L1, ρ,hr1,lr.mono e1,po1⟩
theorem zkN {σ:L2.St} {H:Hp} {En:Ends} {m:List Addr} {L:MH} {d:D} {ρ:Loc} {x:V} (hr:HRel g m L H) (lr:LRel g m H ρ σ) (rd:RelD g m H d x)
  (po:PFl g W En m H ((puT T C t d ρ L).quiet.bind fun ρ1=>ret (.nx ρ1))):tMG g vs (puT T C t) x σ H En.nx:=
 ⟨m,L, ρ,d,hr,lr,rd,(PFl.bind (R:=RG g σ vs) po).imp fun σ' H1 ⟨m1,L1, ρ1,e1,hr1,⟨l1,_⟩,po1⟩=>po1.at hr1 l1⟩
theorem zmN (hp:zaj tg=true) (hs:swapsWith ea (some tg) pos.line X.env=pure false) (hw:swappedStores [tg] ea X.env=pure none) (ha:PE X ea (tM g W (evE T C a))) (hg:PG X tg (tMG g vs (puT T C t))):PS X (.Assign [tg] ea pos) (tMS g W (exS T C wf (.asg t a))):=by
 refine zaG (ps_asg ha hg hs hw (by rw [zaH hp]; rfl)) fun D σ H ⟨m,L, ρ,hr,lr,po⟩=>⟨m,L, ρ,hr,lr,(PFl.bindX (R:=RD g) lr po).imp fun v H1 ⟨m1,L1,d,e1,hr1,rd,po1⟩=>?_⟩
 exact zkN hr1 (lr.mono e1) rd po1
theorem zm4 (c:CxOk g T cf dt C k X W) {elt tg0 iter:Expr} {ifs:List Expr} {scope:Scope} {own:List (Str×Nat)} {y:Str} {j:Nat} {py lpos:Pos} (hy:X.N[j]?=some y) (hyl:X.env.scope.names.lookup y=some .local)
  (hsw:swapsWith (.ListComp elt [⟨tg0,iter,ifs,0⟩] scope lpos) (some (.Name y py)) pos.line X.env=pure true) (hi:PI X tg0 iter (tMI g W (evI T C it))) (ok:BlkOk X.N X.env.scope scope own) (hv:own.map (·.2)=vs)
  (hg:∀(s:Shared) (H:Hp) (C':Addr) (cl:List (Str×Addr)) (fp:List Addr),PG (X.blk s H scope (compEnvC scope cl C' X.env) fp) tg0 (tMG g vs (puT T C t)))
  (ht:∀(s:Shared) (H:Hp) (C':Addr) (cl:List (Str×Addr)) (fp:List Addr),PTs (X.blk s H scope (compEnvC scope cl C' X.env) fp) ifs (tMT g WF (evT T C oi)))
  (he:∀(s:Shared) (H:Hp) (C':Addr) (cl:List (Str×Addr)) (fp:List Addr),PE (X.blk s H scope (compEnvC scope cl C' X.env) fp) elt (tM g WF (evE T C e))) (hs:zaS iter=true):
  PS X (.Assign [.Name y py] (.ListComp elt [⟨tg0,iter,ifs,0⟩] scope lpos) pos) (tMS g W (exS T C wf (.asg (.var j) (.lc e t it oi vs)))):=by
 subst hv
 refine zaG (ps_setLc c.calm c.nd hy hyl hsw hi ok hg ht he (zax hs)) fun D σ H ⟨m,L, ρ,hr,lr,po⟩=>?_
 refine zoD ⟨m,L, ρ,hr,lr,(PFl.bindX (R:=RD g) lr po).imp fun v H1 ⟨m1,L1,d,e1,hr1,rd,po1⟩=>?_⟩
 exact po1.at hr1 ((lr.mono e1).set j rd)
theorem zrQ (c:CxOk g T cf dt C k X W) {o:BOp} {j:Nat} {x:Str} {p':Pos} (ho:o=.add∨o=.sub) (hi:X.N[j]?=some x) (hx:L2.Loc X.env.scope x) (hf:X.fn x=true∨X.env.scope.names.lookup x=some .local) (ha:PE X ea (tM g W (evE T C a))):
  PS X (.AugAssign (.Name x p') (opOf o) ea pos) (tMS g W (exS T C wf (.aug j o a))):=by
 have key:∀ {ti:TIp},PIp X (opOf o) ti→(∀(d e f:D) (x y:V) (m:List Addr) (H:Hp) (Q:VK),augD o d e=some f→RelD g m H d x→RelD g m H e y→(∀z,RelD g m H f z→Q z H)→ti x y H Q)→PS X (.AugAssign (.Name x p') (opOf o) ea pos) (tMS g W (exS T C wf (.aug j o a))):=fun {ti} h1 h2=>by
  refine zaG (ps_aug c.nd hi hx ha h1 hf) fun D σ H ⟨m,L, ρ,hr,lr,po⟩=>?_
  simp only [exS] at po
  cases q:ρ[j]? with
  | none=>rw [q] at po; exact po.elim
  | some od=>
   cases od with
   | none=>rw [q] at po; exact po.elim
   | some d=>
    rw [q] at po
    obtain ⟨v,l1,l2⟩:=lr.get j d q
    refine ⟨v,l1,m,L, ρ,hr,lr,(PFl.bindX (R:=RD g) lr po).imp fun y H1 ⟨m1,L1,e,e1,hr1,re,po1⟩=>?_⟩
    cases q2:augD o d e with
    | none=>simp only [q2] at po1; exact po1.elim
    | some f=>
     simp only [q2] at po1
     exact h2 d e f v y m1 H1 _ q2 (l2.mono e1) re fun z rz=>po1.at hr1 ((lr.mono e1).set j rz)
 rcases ho with rfl | rfl
 ·refine key ip_add fun d e f x y m H Q q r1 r2 h=>?_
  cases r1<;>cases r2<;>first | (cases q; done) | (cases q; exact ⟨_,_,rfl,rfl,h _ (.int _)⟩)
 ·refine key ip_sub fun d e f x y m H Q q r1 r2 h=>?_
  cases r1<;>cases r2<;>first | (cases q; done) | (cases q; exact ⟨_,_,rfl,rfl,h _ (.int _)⟩)
theorem zoH (c:CxOk g T cf dt C k X W) {j l:Nat} {x y:Str} {px py pt:Pos} {kt k2:Nat} {pt2:Pos} (hi:X.N[j]?=some x) (hj:X.N[l]?=some y) (hij:j≠l) (hx:X.env.scope.names.lookup x=some .local) (hy:X.env.scope.names.lookup y=some .local)
  (hw:swappedStores [.Tuple [.Name x px,.Name y py] kt pt] (.Tuple [ea,eb] k2 pt2) X.env=pure (some [x,y])) (ha:PA X [ea,eb] (tMA g W (evEs T C es))):
  PS X (.Assign [.Tuple [.Name x px,.Name y py] kt pt] (.Tuple [ea,eb] k2 pt2) pos) (tMS g W (exS T C wf (.par [j,l] es))):=by
 refine zaG (ps_par c.calm c.nd hi hj hij hx hy ha hw) fun D σ H ⟨m,L, ρ,hr,lr,po⟩=>⟨m,L, ρ,hr,lr,(PFl.bindX (R:=RDs g) lr po).imp fun vs H1 ⟨m1,L1,ds,e1,hr1,rds,po1⟩=>?_⟩
 split at po1
 ·rename_i q
  cases rds with
  | nil=>cases q
  | cons r1 r2=>
   cases r2 with
   | nil=>cases q
   | cons r2 r3=>
    cases r3 with
    | nil=>exact ⟨_,_,rfl,po1.at hr1 (((lr.mono e1).set j r1).set l r2)⟩
    | cons=>cases q
 ·exact po1.elim
theorem zp5 (c:CxOk g T cf dt C k X W) {j l n:Nat} {x y z:Str} {px py pz pt:Pos} {kt k2:Nat} {pt2:Pos} {ec:Expr} (hi:X.N[j]?=some x) (hj:X.N[l]?=some y) (hl:X.N[n]?=some z) (hij:j≠l) (hil:j≠n) (hjl:l≠n)
  (hx:X.env.scope.names.lookup x=some .local) (hy:X.env.scope.names.lookup y=some .local) (hz:X.env.scope.names.lookup z=some .local)
  (hw:swappedStores [.Tuple [.Name x px,.Name y py,.Name z pz] kt pt] (.Tuple [ea,eb,ec] k2 pt2) X.env=pure (some [x,y,z])) (ha:PA X [ea,eb,ec] (tMA g W (evEs T C es))):
  PS X (.Assign [.Tuple [.Name x px,.Name y py,.Name z pz] kt pt] (.Tuple [ea,eb,ec] k2 pt2) pos) (tMS g W (exS T C wf (.par [j,l,n] es))):=by
 refine zaG (ps_par3 c.calm c.nd hi hj hl hij hil hjl hx hy hz ha hw) fun D σ H ⟨m,L, ρ,hr,lr,po⟩=>⟨m,L, ρ,hr,lr,(PFl.bindX (R:=RDs g) lr po).imp fun vs H1 ⟨m1,L1,ds,e1,hr1,rds,po1⟩=>?_⟩
 split at po1
 ·rename_i q
  cases rds with
  | nil=>cases q
  | cons r1 r2=>
   cases r2 with
   | nil=>cases q
   | cons r2 r3=>
    cases r3 with
    | nil=>cases q
    | cons r3 r4=>
     cases r4 with
     | nil=>exact ⟨_,_,_,rfl,po1.at hr1 ((((lr.mono e1).set j r1).set l r2).set n r3)⟩
     | cons=>cases q
 ·exact po1.elim
theorem zq8 (c:SxOk g T cf dt C k X W) {iter:Expr} (hi:PI X tg iter (tMI g W (evI T C it))) (hg:PG X tg (tMG g vs (puT T C t))) (hb:PSs X sts (tMS g W (exSs T C wf b1))) (hs:zaS iter=true):PS X (.For tg iter sts [] pos) (tMS g W (exS T C wf (.fr t it b1))):=by
 refine zaG (ps_for c.pw c.cx.calm hi hg hb (zax hs)) fun D σ H ⟨m,L, ρ,hr,lr,po⟩=>⟨m,L, ρ,hr,lr,(PFl.bindX (R:=RJ g) lr po).imp fun J H1 ⟨m1,L1,w,e1,hr1,jr,po1⟩=>?_⟩
 refine ⟨fun i n σ H=>∃m2 L2 ρ2,Ev m1 H1 m2 H∧HRel g m2 L2 H∧LRel g m2 H ρ2 σ∧PFl g W D m2 H (forL (exSs T C wf b1) (puT T C t) w n i ρ2 L2),⟨_,m1,L1, ρ,Ev.refl _ _,hr1,lr.mono e1,po1⟩, ?_⟩
 rintro i n σ2 H2 ⟨m2,L2, ρ2,e2,hr2,lr2,po2⟩
 have jr2:=jr.mono e2
 cases q:w.at L2 i with
 | none=>cases n<;>(simp only [forL,q] at po2; exact po2.elim)
 | some ox=>
  cases ox with
  | none=>
   refine .inl ⟨jr2.stop m2 L2 H2 i (Ev.refl _ _) hr2 q, ?_⟩
   cases n<;>(simp only [forL,q] at po2; exact po2.at hr2 lr2)
  | some x=>
   cases n with
   | zero=>simp only [forL,q] at po2; exact po2.elim
   | succ n=>
    simp only [forL,q] at po2
    obtain ⟨go,yld⟩:=jr2.item m2 L2 H2 i x (Ev.refl _ _) hr2 q
    refine .inr ⟨go,fun σ H=>∃m2 L2 ρ2,Ev m1 H1 m2 H∧HRel g m2 L2 H∧LRel g m2 H ρ2 σ∧PFl g W D m2 H (forL (exSs T C wf b1) (puT T C t) w n (i+1) ρ2 L2),fun σ' H' z=>⟨n,Nat.lt_succ_self _,z⟩,fun xv H' y=>?_⟩
    obtain ⟨e3,hr3,rx⟩:=yld xv H' y
    refine ⟨m2,L2, ρ2,x,hr3,lr2.mono e3,rx,(PFl.bind (R:=RG g σ2 vs) (PFl.ev e3 po2)).imp fun σ3 H3 ⟨m3,L3, ρ3,e4,hr4,⟨l1,_⟩,po3⟩=>⟨m3,L3, ρ3,hr4,l1, ?_⟩⟩
    revert po3
    generalize exSs T C wf b1 ρ3 L3=r
    intro po3
    cases r with
    | stk=>exact po3.elim
    | exc c fs L'=>exact po3.elim
    | ok fl L'=>
     intro m4 H4 e5 hr5
     have ev5:=((e2.trans e3).trans e4).trans e5
     have po4:=PFl.ev e5 po3
     cases fl with
     | nx ρ1=>exact fun σ' l=>⟨m4,L', ρ1,ev5,hr5,l,po4⟩
     | bk ρ1=>exact fun σ' l=>po4.at hr5 l
     | ct ρ1=>exact fun σ' l=>⟨m4,L', ρ1,ev5,hr5,l,po4⟩
     | rt d=>exact po4 m4 H4 (Ev.refl _ _) hr5
     | xc ρ1 c fs=>exact po4 m4 H4 (Ev.refl _ _) hr5
theorem zn9 (c:SxOk g T cf dt C k X W) (hc:PT X ea (tMT g W (evB T C a))) (hb:PSs X sts (tMS g W (exSs T C wf b1))):PS X (.While ea sts [] pos) (tMS g W (exS T C wf (.whl a b1))):=by
 refine zaG (ps_while c.pw hc hb) fun D σ H ⟨m,L, ρ,hr,lr,po⟩=>?_
 refine ⟨fun n σ H=>∃m2 L2 ρ2,HRel g m2 L2 H∧LRel g m2 H ρ2 σ∧PFl g W D m2 H (whlL (evB T C a) (exSs T C wf b1) n ρ2 L2),⟨wf,m,L, ρ,hr,lr,po⟩, ?_⟩
 rintro n σ2 H2 ⟨m2,L2, ρ2,hr2,lr2,po2⟩
 cases n with
 | zero=>exact po2.elim
 | succ n=>
  refine ⟨m2,L2, ρ2,hr2,lr2,(PFl.bindX (R:=REq) lr2 po2).imp fun v H3 ⟨m3,L3,v',e3,hr3,ev,po3⟩=>?_⟩
  cases ev
  cases v with
  | false=>
   rw [if_neg Bool.false_ne_true] at po3 ⊢
   exact po3.at hr3 (lr2.mono e3)
  | true=>
   rw [if_pos rfl] at po3 ⊢
   refine ⟨fun σ H=>∃m2 L2 ρ2,HRel g m2 L2 H∧LRel g m2 H ρ2 σ∧PFl g W D m2 H (whlL (evB T C a) (exSs T C wf b1) n ρ2 L2),fun σ' H' z=>⟨n,Nat.lt_succ_self _,z⟩,m3,L3, ρ2,hr3,lr2.mono e3, ?_⟩
   revert po3
   generalize exSs T C wf b1 ρ2 L3=r
   intro po3
   cases r with
   | stk=>exact po3.elim
   | exc c fs L'=>exact po3.elim
   | ok fl L'=>
    intro m4 H4 e5 hr5
    have po4:=PFl.ev e5 po3
    cases fl with
    | nx ρ1=>exact fun σ' l=>⟨m4,L', ρ1,hr5,l,po4⟩
    | bk ρ1=>exact fun σ' l=>po4.at hr5 l
    | ct ρ1=>exact fun σ' l=>⟨m4,L', ρ1,hr5,l,po4⟩
    | rt d=>exact po4 m4 H4 (Ev.refl _ _) hr5
    | xc ρ1 c fs=>exact po4 m4 H4 (Ev.refl _ _) hr5
end
end Mi
end
section
set_option maxHeartbeats 4000000
namespace Mi
open PySem PySem.Spec PyProof.Rows L2 L2H
theorem zh1 {B h h':Heap} {l:List Env} {a:Addr} {Z:Obj→Prop} (k:∀b o,h.get? b=some o→h'.get? b=some o) (f:HandSPX.FlyingZ B l a Z h):HandSPX.FlyingZ B l a Z h':=by
 obtain ⟨f1,f2,f3,oe,ws,T,oT,ts,he,hz,hd,h1,hn,hne,hT,hdT,h3⟩:=f
 exact ⟨fun b o q=>k b o (f1 b o q),f2,f3.of_keeps fun b o q _=>⟨o,k b o q,rfl⟩,oe,ws,T,oT,ts,k _ _ he,hz,hd,h1,hn,hne,k _ _ hT,hdT,h3⟩
def pick:Rows→Str→List Str
 | [],_=>[]
 | r::rs,code=>if hit r.1 code then r.2 else pick rs code
structure FX (X:Cx) (en:Str) (a:Addr) (oe:Obj) (cls:Value) (d:Option Addr):Prop where
 hN:X.N[0]?=some en
 vis:Vis X.env.scope en
 hd:(en==("__debug__":Str))=false
 hcd:(en==("__classdict__":Str))=false
 pin:(a,oe)∈X.pn
 hz:Zc cls d oe
 hf:∃vs,oe.data=.fields vs
 hu:X.A.units+65 < cLine
structure ErrD (K:PySem.W.Frag) (ns:List Str) (H:Hp) (cls:Value) (d:Option Addr) (fs:List (Str×V)):Prop where
 ex:∃(C dd:Addr),cls=.ref C∧XfC K C∧(∀n∈ns,PySem.W.findIn K (.ref C) n=some none)∧d=some dd∧H dd=some (.xd fs)
def Ext0 (H H':Hp):Prop:=∀b o,H b=some o→H' b=some o
theorem Ext0.refl (H:Hp):Ext0 H H:=fun _ _ h=>h
theorem Ext0.trans {H H1 H2:Hp} (a:Ext0 H H1) (b:Ext0 H1 H2):Ext0 H H2:=fun x o h=>b x o (a x o h)
theorem Ext0.laid {H:Hp} {p:Addr} {o:HO} (h:H p=none):Ext0 H (upd H p o):=fun b u e=>by rw [upd_ne (ne_of_none e h)]; exact e
theorem ErrD.ext {K:PySem.W.Frag} {ns:List Str} {H H':Hp} {cls:Value} {d:Option Addr} {fs:List (Str×V)} (h:ErrD K ns H cls d fs) (e:Ext0 H H'):ErrD K ns H' cls d fs:=by
 obtain ⟨C,dd,h1,h2,h3,h4,h5⟩:=h.ex
 exact ⟨C,dd,h1,h2,h3,h4,e _ _ h5⟩
section
variable {X:Cx} {en:Str} {a:Addr} {oe:Obj} {cls:Value} {d:Option Addr} {ns:List Str} {fs:List (Str×V)}
def allN (rs:Rows):List Str:="code"::(rs.map (·.2)).flatten
end
structure zrM (K:PySem.W.Frag) (mg:Str→Option Value) (x:Str) (rs:Rows):Prop where
 ex:∃(qual en:Str) (params:Arguments) (body:List Stmt) (scope:Scope) (f:Addr) (fd:FuncData) (N:List Str),mg x=some (.ref f)∧FunD K x qual params body scope [] [] f fd∧FnScope N [en] scope∧N[0]?=some en∧(en==("__debug__":Str))=false∧(en==("__classdict__":Str))=false∧zoE en rs body=true∧
  ∀(s:Shared) (u:Value),BindsTo s fd ⟨[u],[]⟩ [(en,u)]
 small:∀r∈rs,r.2.length≤1000
end Mi
end
section
set_option maxHeartbeats 4000000
namespace Mi
open PySem PySem.Spec PyProof.Rows L2
section
variable {X:Cx} {P:Program} {w:World} {K:PySem.W.Frag} {mg:Str→Option Value} {base:Heap}
theorem zlv {B:Str} {CB fB:Addr} {mc:Value} {fd:FuncData} {ps:List Str} {sp:Sp} {k:Nat} {e:Expr} {es:List Expr} {ta:TA} {p1 p2 pos:Pos} {pl:Sem Bool} (hg:Gl X B) (hm:X.mg B=some (.ref CB)) (hdb:(B==("__debug__":Str))=false) (r:ClX.CRead X.K CB mc)
  (at_:PySem.W.findCls X.K (.ref CB) mc "__init__"=some (.val (.ref fB))) (kp:PySem.W.keepIn X.K (.ref fB)=true) (F:FnOk X.prog X.w X.K X.mg X.base (L2.CX X.prog X.w) k fB fd ps sp) (hr:Room k X.A) (hb:Binds X.K fd ps []) (ha:PA X (e::es) ta)
  (hc:eval (.Call (.Attribute (.Name B p1) "__init__" p2) (e::es) [] pos) X.env=(do
    let ov ← eval (.Name B p1) X.env
    standAt p2.atName
    let (f,first) ← holding [ov] (getMethod ov "__init__" pl)
    callWith pos f first (backTo pos (starEach (e::es) X.env)) (backToKw pos (keywordEach [] X.env))):=by rfl)
  (he:starEach (e::es) X.env=(false,eval e X.env)::starEach es X.env:=by rfl) (hpl:(backTo pos (starEach es X.env)).any (·.1)=false:=by rfl):
  PE X (.Call (.Attribute (.Name B p1) "__init__" p2) (e::es) [] pos) (fun σ H Q=>ta σ H fun vs H1=>sp vs H1 Q fun _ _ _=>False):=by
 refine ⟨fun pins s σ H Q I h=>?_⟩
 refine PySem.W.methodCall_KW (ld_glob I hg hm ?_ hdb) hc
 refine PySem.W.method_cls I.kIn r.ga (PySem.W.cls_value I.kIn r.rd at_ rfl ?_)
 have I0:=I.tok (s.toks+1)
 refine PySem.W.callWith_K (h₀:=X.base) I.ok.mod.kin kp (thn (ha.run pos pins _ σ H _ I0 h) fun us s1 ⟨vs,H1,I1,rv,q⟩=>⟨I1.kIn, ?_⟩) he hpl
 show wpAny _ _ (call (.ref fB) us) _ _ _
 have hl:us.length=ps.length:=by rw [← rv.length]; exact F.len _ _ _ _ q
 have b:=hb s1 us I1.kIn (by rw [List.append_nil]; exact hl)
 rw [List.append_nil] at b
 refine wpAny_call (codeAny_mono (F.run X.A X.stack s1 H1 ⟨us,[]⟩ us vs Q _ hr I1.env0 b rv q) fun r s' hq=>?_)
 cases r with
 | error er=>
  obtain ⟨_,_,_,_,_,_,_,_,_,_,_,_,z⟩:=hq
  exact z.elim
 | ok fl=>
  cases fl with
  | ret u=>exact I1.after hq
  | next=>exact False.elim hq
  | brk=>exact False.elim hq
  | cont=>exact False.elim hq
theorem zku {B:Str} {CB fB:Addr} {mc:Value} {fd:FuncData} {ps:List Str} {sp:Sp} {k:Nat} {e:Expr} {es:List Expr} {ta:TA} {p1 p2 pos:Pos} {pl:Sem Bool} (hot:L2H.HotC X) (hg:Gl X B) (hm:X.mg B=some (.ref CB)) (hdb:(B==("__debug__":Str))=false) (r:ClX.CRead X.K CB mc)
  (at_:PySem.W.findCls X.K (.ref CB) mc "__init__"=some (.val (.ref fB))) (kp:PySem.W.keepIn X.K (.ref fB)=true) (F:L2H.FnH X.prog X.w X.K X.mg X.base (L2.CX X.prog X.w) k fB fd ps sp) (hr:L2H.RoomH k X.A) (hb:Binds X.K fd ps []) (ha:PA X (e::es) ta)
  (hc:eval (.Call (.Attribute (.Name B p1) "__init__" p2) (e::es) [] pos) X.env=(do
    let ov ← eval (.Name B p1) X.env
    standAt p2.atName
    let (f,first) ← holding [ov] (getMethod ov "__init__" pl)
    callWith pos f first (backTo pos (starEach (e::es) X.env)) (backToKw pos (keywordEach [] X.env))):=by rfl)
  (he:starEach (e::es) X.env=(false,eval e X.env)::starEach es X.env:=by rfl) (hpl:(backTo pos (starEach es X.env)).any (·.1)=false:=by rfl):
  PE X (.Call (.Attribute (.Name B p1) "__init__" p2) (e::es) [] pos) (fun σ H Q=>ta σ H fun vs H1=>sp vs H1 Q fun _ _ _=>False):=by
 refine ⟨fun pins s σ H Q I h=>?_⟩
 refine PySem.W.methodCall_KW (ld_glob I hg hm ?_ hdb) hc
 refine PySem.W.method_cls I.kIn r.ga (PySem.W.cls_value I.kIn r.rd at_ rfl ?_)
 refine PySem.W.callWith_K (h₀:=X.base) I.ok.mod.kin kp (thn (ha.run pos pins _ σ H _ (I.tok (s.toks+1)) h) fun us s1 ⟨vs,H1,I1,rv,q⟩=>⟨I1.kIn, ?_⟩) he hpl
 refine L2H.run_fnH (E:=fun _ _ _ _=>False) F hr hot hb (fun _ _ _ e s' _ c=>?_) I1 rv q
 obtain ⟨_,_,_,_,_,_,_,_,_,_,_,_,z⟩:=c
 exact z.elim
def zhF (σ:L2.St) (i:Nat):Option V:=(σ[i]?).bind id
def znT (K:PySem.W.Frag) (bk:Bs) (qs:List (Str×Nat)):TS:=fun D σ H=>∃(a C d:Addr) (fs ws:List (Str×V)), σ[0]?=some (some (.ref a))∧OexB K bk C∧(∀q∈qs,PySem.W.findIn K (.ref C) q.1=some none)∧H a=some (exo a C (some d))∧H d=some (exd d fs)∧d≠a∧fs.length+qs.length≤900∧
 mapO (fun q=>(zhF σ q.2).map fun v=>(q.1,v)) qs=some ws∧∀H',H' a=some (exo a C (some d))→H' d=some (exd d (ws.reverse++fs))→(∀b,b≠a→b≠d→H' b=H b)→D.nx σ H'
theorem zfN {bk:Bs} (hv:∀x,x∈X.N→Vis X.env.scope x):∀ {qs:List (Str×Nat)} {ss:List Stmt},zgT X.N qs ss=true→PSs X ss (znT X.K bk qs)
 | [],[],_=>zgu pss_nil fun D σ H ⟨a,C,d,fs,ws,h1,h2,h3,h4,h5,h6,h7,h8,h9⟩=>by
  cases h8
  exact h9 H h4 h5 fun _ _ _=>rfl
 | q::qs,s::ss,h=>by
  simp only [zgT,Bool.and_eq_true] at h
  obtain ⟨hs,hss⟩:=h
  unfold zic at hs
  split at hs
  ·rename_i sf p1 f p2 x p3 p4
   simp only [Bool.and_eq_true,decide_eq_true_eq,Bool.not_eq_true'] at hs
   obtain ⟨⟨⟨⟨⟨⟨rfl,n0⟩,n1⟩,d1⟩,d2⟩,d3⟩,d4⟩:=hs
   refine zgu (pss_cons (zhZ (bk:=bk) (pe_var (i:=0) n0 (hv _ (List.mem_of_getElem? n0)) d1 d2) (pe_var (i:=q.2) n1 (hv _ (List.mem_of_getElem? n1)) d3 d4) rfl) (zfN (bk:=bk) hv hss)) fun D σ H ⟨a,C,d,fs,ws,h1,h2,h3,h4,h5,h6,h7,h8,h9⟩=>?_
   simp only [mapO] at h8
   cases e1:zhF σ q.2 with
   | none=>rw [e1] at h8; cases h8
   | some v=>
    rw [e1] at h8
    cases e2:mapO (fun q=>(zhF σ q.2).map fun v=>(q.1,v)) qs with
    | none=>simp [e2] at h8
    | some ws'=>
     simp only [e2,Option.map_some,Option.bind_some,Option.some.injEq] at h8
     subst h8
     have ev:σ[q.2]?=some (some v):=by
      unfold zhF at e1
      cases z:σ[q.2]? with
      | none=>rw [z] at e1; cases e1
      | some o=>
       rw [z] at e1
       have e1:o=some v:=e1
       rw [e1]
     have hda:upd H d (exd d ((q.1,v)::fs)) a=some (exo a C (some d)):=by rw [upd_ne (Ne.symm h6)]; exact h4
     refine ⟨v,ev,.ref a,h1,a,C,rfl,h2,h3 q List.mem_cons_self,.inr ⟨d,fs,h4,h5,by have:=h7; rw [List.length_cons] at this; omega, ?_⟩⟩
     refine ⟨a,C,d,(q.1,v)::fs,ws',h1,h2,fun r hr=>h3 r (List.mem_cons_of_mem _ hr),hda,upd_same,h6,by have:=h7; simp only [List.length_cons] at this ⊢; omega,e2,fun H' k1 k2 k3=>h9 H' k1 ?_ fun b hb1 hb2=>?_⟩
     ·rw [k2,List.reverse_cons,List.append_assoc]
      rfl
     ·rw [k3 b hb1 hb2,upd_ne hb2]
  ·cases hs
 | [],_::_,h=>by cases h
 | _::_,[],h=>by cases h
end
section
variable {P:Program} {w:World} {K:PySem.W.Frag} {mg:Str→Option Value} {base:Heap} {x qual:Str} {params:Arguments} {body:List Stmt} {scope:Scope} {f:Addr} {fd:FuncData} {N:List Str}
theorem zcK (hp:∀x∈N,scope.names.lookup x=some .local∨scope.names.lookup x=some .cell):∀x,x∈N→Vis scope x:=fun x hx=>(hp x hx).elim .inl fun z=>.inr (.inl z)
theorem zho {X:Cx} {bk:Bs} {fn:Str} {vs:List V} {H:Hp} {Q:VK} {E:XK} (vis:∀z,z∈X.N→Vis X.env.scope z) (h:zh3 bk X.N fn body=true) (hgl:Gl X (Str.ofString bk.n)) (hm:X.mg (Str.ofString bk.n)=none)
  (hv:PySem.W.findCls X.K (.type bk.n) (.type "type") "__init__"=some (.val (.builtin bk.ini))) (hsp:spI X.K bk 1 [(fn,.par 0)] vs H Q E):∃t,PSs X body t∧t { nx:=fun _ H'=>Q .non H',rt:=Q } (L2.start X.N vs) H:=by
 unfold zh3 at h
 split at h
 ·rename_i b p1 m p2 s p3 y p4 p5 p6 st
  simp only [Bool.and_eq_true,decide_eq_true_eq,Bool.not_eq_true'] at h
  obtain ⟨⟨⟨⟨⟨⟨⟨⟨hfew,rfl⟩,rfl⟩,hN⟩,d1⟩,d2⟩,d3⟩,d4⟩,hst⟩:=h
  obtain ⟨a,C,args,fs,e1,e2,T,h3,h4,h5,h6⟩:=hsp
  have n0:X.N[0]?=some s:=by rw [hN]<;>rfl
  have n1:X.N[1]?=some y:=by rw [hN]<;>rfl
  subst e1
  match args,e2 with
  | [v],_=>
   have hs0:((L2.start X.N [V.ref a,v])[0]?=some (some (V.ref a))):=rfl
   have hs1:((L2.start X.N [V.ref a,v])[1]?=some (some v)):=rfl
   unfold zic at hst
   split at hst
   ·rename_i sf q1 fa q2 xa q3 q4
    simp only [Bool.and_eq_true,decide_eq_true_eq,Bool.not_eq_true'] at hst
    obtain ⟨⟨⟨⟨⟨⟨rfl,m0⟩,m1⟩,c1⟩,c2⟩,c3⟩,c4⟩:=hst
    refine ⟨_,pss_cons (ps_expr (zhl (bk:=bk) (X:=X) hgl hm hv (pa_cons (pe_var (i:=0) n0 (vis _ (List.mem_of_getElem? n0)) d1 d2) (pa_cons (pe_var (i:=1) n1 (vis _ (List.mem_of_getElem? n1)) d3 d4) pa_nil)) (zdy (ks:=[]) rfl rfl rfl hfew) rfl rfl) (zbv rfl))
      (pss_one (zhZ (bk:=bk) (pe_var (i:=0) m0 (vis _ (List.mem_of_getElem? m0)) c1 c2) (pe_var (i:=1) m1 (vis _ (List.mem_of_getElem? m1)) c3 c4) rfl)), ?_⟩
    refine ⟨_,hs0,_,hs1,a,C,[v],rfl,(show 1≤1000 by decide),T,h4,v,hs1,.ref a,hs0,a,C,rfl,T,h3 _ List.mem_cons_self,.inl ⟨h4,fun dx n ne=>?_⟩⟩
    have e5:fs=[(fa,v)]:=by
     simp [zah,mapO,exsV] at h5
     exact h5.symm
    refine h6 dx _ n ne upd_same ?_ fun b hb1 hb2=>?_
    ·rw [upd_ne ne,upd_same,e5]
    ·rw [upd_ne hb1,upd_ne hb2]
   ·cases hst
 ·cases h
theorem zgl {bk:Bs} {fn:Str} (h:zh3 bk N fn body=true):N.length=2:=by
 unfold zh3 at h
 split at h
 ·simp only [Bool.and_eq_true,decide_eq_true_eq] at h
  rw [h.1.1.1.1.1.2]
  rfl
 ·cases h
theorem zkg {bk:Bs} {fn:Str} (F:FunD K x qual params body scope [] [] f fd) (S:FnScope N N scope) (h:zh3 bk N fn body=true) (hgl:scope.names.lookup (Str.ofString bk.n)=some .globalImplicit) (hm:mg (Str.ofString bk.n)=none)
  (hv:PySem.W.findCls K (.type bk.n) (.type "type") "__init__"=some (.val (.builtin bk.ini))):FnOk P w K mg base (L2.CX P w) 1 f fd N (spI K bk 1 [(fn,.par 0)]):=
 F.ok S (fun vs H Q E hs=>by rw [zep vs H Q E hs,zgl h]) fun cdv A outer s0 H vs Q E hr hsp=>zho (X:=cxOf (L2.CX P w) P w K mg base N qual scope f cdv A outer s0 H E) (zcK S.par) h hgl hm hv hsp
theorem zgp {CX:CXT} {P:Program} {w:World} {ps:List Str} {k:Nat} {sp:Sp} (F:FunD K x qual params body scope [] [] f fd) (S:FnScope N ps scope) (len:∀vs H Q E,sp vs H Q E→vs.length=ps.length)
  (hbody:∀(cdv:Value) (A:Around) (outer:List Env) (s:Shared) (H:Hp) (vs:List V) (Q:VK) (E:XK) (p:Addr×Obj),L2H.Hot1 A p→L2H.RoomH k (A.deeper (envOfC qual scope s.heap.objs.size f cdv))→sp vs H Q E→
    ∃t,PSs (L2H.cxH CX P w K mg base N qual scope f cdv A outer s H E p) body t∧t { nx:=fun _ H'=>Q .non H',rt:=Q } (L2.start N vs) H):L2H.FnH P w K mg base CX (k+1) f fd ps sp:=by
 obtain ⟨oc,od,dV,kV,doc,pm,an,cdv,ct,osl,rfl,lk,hcd,_,_⟩:=F.ex
 exact L2H.fn_ofH lk hcd S len fun A outer s H vs Q E p=>hbody cdv A outer s H vs Q E p
theorem zif {bk:Bs} {fn:Str} (F:FunD K x qual params body scope [] [] f fd) (S:FnScope N N scope) (h:zh3 bk N fn body=true) (hgl:scope.names.lookup (Str.ofString bk.n)=some .globalImplicit) (hm:mg (Str.ofString bk.n)=none)
  (hv:PySem.W.findCls K (.type bk.n) (.type "type") "__init__"=some (.val (.builtin bk.ini))):L2H.FnH P w K mg base (L2.CX P w) 1 f fd N (spI K bk 1 [(fn,.par 0)]):=
 zgp F S (fun vs H Q E hs=>by rw [zep vs H Q E hs,zgl h]) fun cdv A outer s0 H vs Q E p hot hr hsp=>zho (X:=L2H.cxH (L2.CX P w) P w K mg base N qual scope f cdv A outer s0 H E p) (zcK S.par) h hgl hm hv hsp
theorem zh8 {X:Cx} {bk:Bs} {fn code:Str} {vs:List V} {H:Hp} {Q:VK} {E:XK} (vis:∀z,z∈X.N→Vis X.env.scope z) (h:conB bk X.N fn code body=true) (hgl:Gl X (Str.ofString bk.n)) (hm:X.mg (Str.ofString bk.n)=none)
  (hv:PySem.W.findCls X.K (.type bk.n) (.type "type") "__init__"=some (.val (.builtin bk.ini))) (hsp:spI X.K bk 0 [(fn,.con code)] vs H Q E):∃t,PSs X body t∧t { nx:=fun _ H'=>Q .non H',rt:=Q } (L2.start X.N vs) H:=by
 unfold conB at h
 split at h
 ·rename_i b p1 m p2 s p3 z zj p4 p5 p6 s2 p7 f2 p8 c2 j2 p9 p10
  simp only [Bool.and_eq_true,decide_eq_true_eq,Bool.not_eq_true'] at h
  obtain ⟨⟨⟨⟨⟨⟨⟨⟨hfew,rfl⟩,rfl⟩,hN⟩,d1⟩,d2⟩,rfl⟩,rfl⟩,rfl⟩:=h
  obtain ⟨a,C,args,fs,e1,e2,T,h3,h4,h5,h6⟩:=hsp
  have n0:X.N[0]?=some s2:=by rw [hN]<;>rfl
  subst e1
  match args,e2 with
  | [],_=>
   have hs0:((L2.start X.N [V.ref a])[0]?=some (some (V.ref a))):=rfl
   refine ⟨_,pss_cons (ps_expr (zhl (bk:=bk) (X:=X) hgl hm hv (pa_cons (pe_var (i:=0) n0 (vis _ (List.mem_of_getElem? n0)) d1 d2) (pa_cons pe_str pa_nil)) (zdy (ks:=[]) rfl rfl rfl hfew) rfl rfl) (zbv rfl))
     (pss_one (zhZ (bk:=bk) (pe_var (i:=0) n0 (vis _ (List.mem_of_getElem? n0)) d1 d2) pe_str rfl)), ?_⟩
   refine ⟨_,hs0,a,C,[.str z],rfl,(show 1≤1000 by decide),T,h4,.ref a,hs0,a,C,rfl,T,h3 _ List.mem_cons_self,.inl ⟨h4,fun dx n ne=>?_⟩⟩
   have e5:fs=[(f2,.str c2)]:=by
    simp [zah,mapO,exsV] at h5
    exact h5.symm
   refine h6 dx _ n ne upd_same ?_ fun b hb1 hb2=>?_
   ·rw [upd_ne ne,upd_same,e5]
   ·rw [upd_ne hb1,upd_ne hb2]
 ·cases h
theorem zhL {bk:Bs} {fn code:Str} (h:conB bk N fn code body=true):N.length=1:=by
 unfold conB at h
 split at h
 ·simp only [Bool.and_eq_true,decide_eq_true_eq] at h
  rw [h.1.1.1.1.1.2]
  rfl
 ·cases h
theorem zpV {bk:Bs} {fn code:Str} (F:FunD K x qual params body scope [] [] f fd) (S:FnScope N N scope) (h:conB bk N fn code body=true) (hgl:scope.names.lookup (Str.ofString bk.n)=some .globalImplicit) (hm:mg (Str.ofString bk.n)=none)
  (hv:PySem.W.findCls K (.type bk.n) (.type "type") "__init__"=some (.val (.builtin bk.ini))):FnOk P w K mg base (L2.CX P w) 1 f fd N (spI K bk 0 [(fn,.con code)])∧L2H.FnH P w K mg base (L2.CX P w) 1 f fd N (spI K bk 0 [(fn,.con code)]):=
 ⟨F.ok S (fun vs H Q E hs=>by rw [zep vs H Q E hs,zhL h]) fun cdv A outer s0 H vs Q E hr hsp=>zh8 (X:=cxOf (L2.CX P w) P w K mg base N qual scope f cdv A outer s0 H E) (zcK S.par) h hgl hm hv hsp,
  zgp F S (fun vs H Q E hs=>by rw [zep vs H Q E hs,zhL h]) fun cdv A outer s0 H vs Q E p hot hr hsp=>zh8 (X:=L2H.cxH (L2.CX P w) P w K mg base N qual scope f cdv A outer s0 H E p) (zcK S.par) h hgl hm hv hsp⟩
theorem zhz {a:V} {args:List V} {N:List Str}:∀ {qs:List (Str×Nat)} {fs:List (Str×V)},(∀q∈qs,1≤q.2)→zah (qs.map fun q=>(q.1,ExS.par (q.2 - 1))) args=some fs→mapO (fun q=>(zhF (L2.start N (a::args)) q.2).map fun v=>(q.1,v)) qs=some fs
 | [],fs,_,h=>h
 | q::qs,fs,h1,h=>by
  simp only [zah,List.map_cons,mapO] at h ⊢
  have ea:exsV args (.par (q.2 - 1))=args[q.2 - 1]?:=rfl
  rw [ea] at h
  cases e1:args[q.2 - 1]? with
  | none=>rw [e1] at h; cases h
  | some v=>
   rw [e1] at h
   cases e2:zah (qs.map fun q=>(q.1,ExS.par (q.2 - 1))) args with
   | none=>
    unfold zah at e2
    simp [e2] at h
   | some fs'=>
    have e3:=zhz (qs:=qs) (N:=N) (a:=a) (fun r hr=>h1 r (List.mem_cons_of_mem _ hr)) e2
    unfold zah at e2
    simp only [e2,Option.map_some,Option.bind_some,Option.some.injEq] at h
    have hq:=h1 q List.mem_cons_self
    have hl:=(List.getElem?_eq_some_iff.mp e1).1
    have e4:zhF (L2.start N (a::args)) q.2=some v:=by
     unfold zhF L2.start
     rw [List.getElem?_append_left (by simp; omega),List.getElem?_map]
     obtain ⟨n,hn⟩:∃n,q.2=n+1:=⟨q.2 - 1,by omega⟩
     rw [hn] at e1 ⊢
     rw [List.getElem?_cons_succ]
     have e1:args[n]?=some v:=e1
     rw [e1]
     rfl
    simp only [e4,e3,Option.map_some,Option.bind_some]
    exact congrArg some h
theorem zeo {args:List V}:∀ {xs ys:List (Str×ExS)} {fs:List (Str×V)},zah (xs++ys) args=some fs→∃f1 f2,zah xs args=some f1∧zah ys args=some f2∧fs=f1++f2
 | [],ys,fs,h=>⟨[],fs,rfl,h,rfl⟩
 | q::xs,ys,fs,h=>by
  simp only [zah,List.cons_append,mapO] at h
  cases e1:((exsV args q.2).map fun v=>(q.1,v)) with
  | none=>rw [e1] at h; cases h
  | some v=>
   rw [e1] at h
   cases e2:zah (xs++ys) args with
   | none=>
    unfold zah at e2
    simp [e2] at h
   | some fs'=>
    obtain ⟨f1,f2,g1,g2,g3⟩:=zeo e2
    unfold zah at e2
    simp only [e2,Option.bind_some,Option.map_some,Option.some.injEq] at h
    refine ⟨v::f1,f2, ?_,g2,by rw [← h,g3]<;>rfl⟩
    unfold zah at g1 ⊢
    simp only [mapO]
    rw [e1,g1]
    rfl
theorem zfU {args:List V}:∀ {xs:List (Str×ExS)} {fs:List (Str×V)},zah xs.reverse args=some fs→zah xs args=some fs.reverse
 | [],fs,h=>by
  cases h
  rfl
 | q::xs,fs,h=>by
  rw [List.reverse_cons] at h
  obtain ⟨f1,f2,g1,g2,g3⟩:=zeo h
  have e:=zfU g1
  simp only [zah,mapO] at g2
  cases e1:((exsV args q.2).map fun v=>(q.1,v)) with
  | none=>rw [e1] at g2; cases g2
  | some v=>
   rw [e1] at g2
   simp only [Option.bind_some,Option.map_some,Option.some.injEq] at g2
   subst g2
   rw [g3,List.reverse_append]
   unfold zah at e ⊢
   simp only [mapO]
   rw [e1,e]
   rfl
def DerI (X:Cx) (bk:Bs) (B fc:Str):Prop:=∀(p1 p2:Pos) (s:Str) (p3:Pos) (c:Str) (j:Nat) (p4 p5 p6:Pos),X.N[0]?=some s→(s==("__debug__":Str))=false→(s==("__classdict__":Str))=false→fewB [.Name s p3,.Constant (.str c) j p4] [] p2 p5=true→
 PE X (.Call (.Attribute (.Name B p1) "__init__" p2) [.Name s p3,.Constant (.str c) j p4] [] p5) (fun σ H Q=>∃x, σ[0]?=some (some x)∧spI X.K bk 1 [(fc,.par 0)] [x,.str c] H Q fun _ _ _=>False)
theorem zih {X:Cx} {bk:Bs} {B fc code:Str} {qs:List (Str×Nat)} {vs:List V} {H:Hp} {Q:VK} {E:XK} (vis:∀z,z∈X.N→Vis X.env.scope z) (h:derB X.N B code qs body=true) (hbi:DerI X bk B fc)
  (hsp:spI X.K bk (X.N.length - 1) (derF fc code qs) vs H Q E):∃t,PSs X body t∧t { nx:=fun _ H'=>Q .non H',rt:=Q } (L2.start X.N vs) H:=by
 unfold derB at h
 split at h
 ·rename_i b p1 m p2 s p3 c j p4 p5 p6 ss
  simp only [Bool.and_eq_true,decide_eq_true_eq,Bool.not_eq_true'] at h
  obtain ⟨⟨⟨⟨⟨⟨⟨⟨⟨⟨hfew,rfl⟩,db⟩,rfl⟩,rfl⟩,n0⟩,d1⟩,d2⟩,hss⟩,h1⟩,hlen⟩:=h
  have h1:∀q∈qs,1≤q.2:=fun q hq=>of_decide_eq_true (List.all_eq_true.mp h1 q hq)
  have nl:1≤X.N.length:=by
   have:=(List.getElem?_eq_some_iff.mp n0).1
   omega
  obtain ⟨a,C,args,fs,e1,e2,T,h3,h4,h5,h6⟩:=hsp
  subst e1
  have hs0:((L2.start X.N (V.ref a::args))[0]?=some (some (V.ref a))):=rfl
  obtain ⟨f1,f2,g1,g2,g3⟩:=zeo h5
  have g4:=zfU g1
  have g5:f2=[(fc,.str c)]:=by
   simp [zah,mapO,exsV] at g2
   exact g2.symm
  refine ⟨_,pss_cons (ps_expr (hbi p1 p2 s p3 c j p4 p5 p6 n0 d1 d2 hfew) (zbv rfl)) (zfN (bk:=bk) (X:=X) vis hss), ?_⟩
  refine ⟨_,hs0,a,C,[.str c],[(fc,.str c)],rfl,rfl,T,fun q hq=>?_,h4,rfl,fun d H1 n ne k1 k2 k3=>?_⟩
  ·rw [List.mem_singleton.mp hq]
   exact h3 (fc,.con c) (List.mem_append_right _ List.mem_cons_self)
  ·refine ⟨a,C,d,[(fc,.str c)],f1.reverse,hs0,T,fun q hq=>?_,k1,k2,ne,by rw [List.length_singleton]; omega,zhz (N:=X.N) h1 g4,fun H' j1 j2 j3=>?_⟩
   ·refine h3 (q.1,.par (q.2 - 1)) (List.mem_append_left _ (List.mem_reverse.mpr (List.mem_map.mpr ⟨q,hq,rfl⟩)))
   ·refine h6 d H' n ne j1 ?_ fun b hb1 hb2=>by rw [j3 b hb1 hb2,k3 b hb1 hb2]
    rw [j2,g3,g5,List.reverse_reverse]
 ·cases h
theorem zkd {B code:Str} {qs:List (Str×Nat)} (h:derB N B code qs body=true):(B==("__debug__":Str))=false∧1≤N.length:=by
 unfold derB at h
 split at h
 ·simp only [Bool.and_eq_true,decide_eq_true_eq,Bool.not_eq_true'] at h
  obtain ⟨⟨⟨⟨⟨⟨⟨⟨⟨⟨hfew,rfl⟩,db⟩,rfl⟩,rfl⟩,n0⟩,d1⟩,d2⟩,hss⟩,h1⟩,hlen⟩:=h
  exact ⟨db,by
    have:=(List.getElem?_eq_some_iff.mp n0).1
    omega⟩
 ·cases h
theorem zqt {bk:Bs} {B fc code:Str} {qs:List (Str×Nat)} {CB fB:Addr} {mc:Value} {fdB:FuncData} {psB:List Str} (F:FunD K x qual params body scope [] [] f fd) (S:FnScope N N scope) (h:derB N B code qs body=true) (hgl:scope.names.lookup B=some .globalImplicit) (hm:mg B=some (.ref CB))
  (r:ClX.CRead K CB mc) (at_:PySem.W.findCls K (.ref CB) mc "__init__"=some (.val (.ref fB))) (kp:PySem.W.keepIn K (.ref fB)=true) (FB:FnOk P w K mg base (L2.CX P w) 1 fB fdB psB (spI K bk 1 [(fc,.par 0)])) (hb:Binds K fdB psB []):
  FnOk P w K mg base (L2.CX P w) 2 f fd N (spI K bk (N.length - 1) (derF fc code qs)):=by
 obtain ⟨db,nl⟩:=zkd h
 refine F.ok S (fun vs H Q E h=>by rw [zep vs H Q E h]; omega) fun cdv A outer s0 H vs Q E hr hsp=>?_
 exact zih (X:=cxOf (L2.CX P w) P w K mg base N qual scope f cdv A outer s0 H E) (zcK S.par) h (fun p1 p2 s p3 c j p4 p5 p6 n0 d1 d2 hfew=>zaq (zlv (X:=cxOf (L2.CX P w) P w K mg base N qual scope f cdv A outer s0 H E) (k:=1) hgl hm db r at_ kp FB hr hb (pa_cons (pe_var (i:=0) n0 (zcK S.par _ (List.mem_of_getElem? n0)) d1 d2) (pa_cons pe_str pa_nil)) (zdy (ks:=[]) rfl rfl rfl hfew) rfl rfl) fun σ H Q h=>h) hsp
theorem zm9 {bk:Bs} {B fc code:Str} {qs:List (Str×Nat)} {CB fB:Addr} {mc:Value} {fdB:FuncData} {psB:List Str} (F:FunD K x qual params body scope [] [] f fd) (S:FnScope N N scope) (h:derB N B code qs body=true) (hgl:scope.names.lookup B=some .globalImplicit) (hm:mg B=some (.ref CB))
  (r:ClX.CRead K CB mc) (at_:PySem.W.findCls K (.ref CB) mc "__init__"=some (.val (.ref fB))) (kp:PySem.W.keepIn K (.ref fB)=true) (FB:L2H.FnH P w K mg base (L2.CX P w) 1 fB fdB psB (spI K bk 1 [(fc,.par 0)])) (hb:Binds K fdB psB []):
  L2H.FnH P w K mg base (L2.CX P w) 2 f fd N (spI K bk (N.length - 1) (derF fc code qs)):=by
 obtain ⟨db,nl⟩:=zkd h
 refine zgp F S (fun vs H Q E h=>by rw [zep vs H Q E h]; omega) fun cdv A outer s0 H vs Q E p hot hr hsp=>?_
 have hc:L2H.HotC (L2H.cxH (L2.CX P w) P w K mg base N qual scope f cdv A outer s0 H E p):=⟨p,hot,List.mem_singleton.mpr rfl⟩
 exact zih (X:=L2H.cxH (L2.CX P w) P w K mg base N qual scope f cdv A outer s0 H E p) (zcK S.par) h (fun p1 p2 s p3 c j p4 p5 p6 n0 d1 d2 hfew=>zaq (zku (X:=L2H.cxH (L2.CX P w) P w K mg base N qual scope f cdv A outer s0 H E p) (k:=1) hc hgl hm db r at_ kp FB hr hb (pa_cons (pe_var (i:=0) n0 (zcK S.par _ (List.mem_of_getElem? n0)) d1 d2) (pa_cons pe_str pa_nil)) (zdy (ks:=[]) rfl rfl rfl hfew) rfl rfl) fun σ H Q h=>h) hsp
end
section
variable {X:Cx} {C fI:Addr} {k:Nat} {fd:FuncData} {ps:List Str} {np:Nat} {fl:List (Str×ExS)}
theorem znY {pins:List (Addr×Obj)} {σ:L2.St} {H1:Hp} {s1:Shared} {us:List Value} {vs:List V} {fs:List (Str×V)} {Q:XK} {bk:Bs} (T:OexB X.K bk C) (iC:PySem.W.findIn X.K (.ref C) "__init__"=some (some (.ref fI))) (tI:PySem.W.typeIn X.K (.ref fI)=some (.type "function"))
  (F1:FnOk X.prog X.w X.K X.mg X.base (L2.CX X.prog X.w) k fI fd ps (spI X.K bk np fl)) (hr:Room (k+1) X.A) (hb:Binds X.K fd ps []) (I1:Inv X pins σ H1 s1) (r1:Vals vs us) (hz:vs.length≤1000) (hnp:vs.length=np) (hno:∀q∈fl,PySem.W.findIn X.K (.ref C) q.1=some none)
  (hfs:zah fl vs=some fs) (hq:∀d,H1 d=none→Q (.ref C) (some d) (upd H1 d (.xd fs))):wpAny (model X.prog X.w) X.A (call (.ref C) us) (L2N.MkP X pins σ Q) X.xe s1:=by
 obtain ⟨nm,q,N,bs,bm,sn,sub,ab,col,dd,k0,k1,k2,k3,k5,hC,hbm⟩:=T.cls
 obtain ⟨hp,g,dr,tk,os⟩:=s1
 have hsz:hp.objs.size≤hp.objs.size+1:=Nat.le_succ _
 have hn:H1 (hp.objs.size+1)=none:=I1.hok.fresh hsz
 have kk:∀b o,hp.get? b=some o→((hp.push (PySem.W.kdv_tup us)).push (PySem.HandSPX.excO C hp.objs.size)).get? b=some o:=fun b o e=>Heap.get?_push_of_some _ (Heap.get?_push_of_some _ e)
 have hget:((hp.push (PySem.W.kdv_tup us)).push (PySem.HandSPX.excO C hp.objs.size)).get? (hp.objs.size+1)=some (PySem.HandSPX.excO C hp.objs.size):=by heap_get
 have I2:Inv X pins σ (upd H1 (hp.objs.size+1) (exo (hp.objs.size+1) C none)) ⟨(hp.push (PySem.W.kdv_tup us)).push (PySem.HandSPX.excO C hp.objs.size),g,dr,tk,os⟩:=
  I1.laid (t':=tk) (a:=hp.objs.size+1) (o:=exo (hp.objs.size+1) C none) (h':=(hp.push (PySem.W.kdv_tup us)).push (PySem.HandSPX.excO C hp.objs.size)) kk hsz (exo_ok hget)
 have r2:Vals (V.ref (hp.objs.size+1)::vs) (Value.ref (hp.objs.size+1)::us):=.cons rfl r1
 have hus:us.length≤sizeLine:=by
  rw [← Paired.length r1,sizeLine_eq]
  omega
 have hsp:spI X.K bk np fl (V.ref (hp.objs.size+1)::vs) (upd H1 (hp.objs.size+1) (exo (hp.objs.size+1) C none)) (fun v H2=>v=.non∧∃(d:Addr) (fs:List (Str×V)),H2 (hp.objs.size+1)=some (exo (hp.objs.size+1) C (some d))∧H2 d=some (exd d fs)∧H1 d=none∧Q (.ref C) (some d) (upd (del H2 (hp.objs.size+1)) d (.xd fs))) (fun _ _ _=>False):=by
  refine ⟨_,C,vs,fs,rfl,hnp,T,hno,upd_same,hfs,fun d H' n ne j1 j2 j3=>⟨rfl,d,fs,j1,j2, ?_, ?_⟩⟩
  ·rw [upd_ne ne] at n
   exact n
  ·have n1:H1 d=none:=by
    rw [upd_ne ne] at n
    exact n
   have e:upd (del H' (hp.objs.size+1)) d (.xd fs)=upd H1 d (.xd fs):=by
    funext b
    by_cases hb1:b=d
    ·rw [hb1,upd_same,upd_same]
    ·rw [upd_ne hb1,upd_ne hb1]
     by_cases hb2:b=hp.objs.size+1
     ·rw [hb2,del_same,hn]
     ·rw [del_ne hb2,j3 b hb2 hb1,upd_ne hb2]
   rw [e]
   exact hq d n1
 have hl:(Value.ref (hp.objs.size+1)::us).length=ps.length:=by
  have e:=r2.length
  rw [F1.len _ _ _ _ hsp] at e
  exact e.symm
 have b:=hb _ (Value.ref (hp.objs.size+1)::us) I2.kIn (by rw [List.append_nil]; exact hl)
 rw [List.append_nil] at b
 refine wpAny_call (PySem.HandSPX.call_own (zk0 bk) (fun Y=>PySem.W.excTail_contains Y bm hbm) (I1.kIn _ _ hC) (PySem.W.looks_findIn I1.kIn iC) (fun self=>PySem.W.bind_fn I1.kIn self tI) hus
   (codeAny_mono (F1.run _ X.stack _ _ ⟨Value.ref (hp.objs.size+1)::us,[]⟩ (Value.ref (hp.objs.size+1)::us) _ _ (fun _ _ _=>False) (hr.make C us []) (I2.env0.make C us []) b r2 hsp) fun r s' hq'=>?_))
 cases r with
 | error er=>
  obtain ⟨_,_,_,_,_,_,_,_,_,_,_,_,z⟩:=hq'
  exact z.elim
 | ok flw=>
  cases flw with
  | ret u=>
   obtain ⟨v,H2,os2,bare2,un2,hok2,rv,ev,d,fs',ea,ed,hd1,q2⟩:=hq'
   subst ev
   obtain ⟨h2,g2,d2,t2,os'⟩:=s'
   obtain ⟨t0,G,J,kG,ge,hoe,na⟩:=mk_end0 (d2:=d2) (t2:=t2) I1 hsz kk un2 hok2 os2 bare2 ea ed hd1
   refine ⟨rv,hp.objs.size+1,_,_,⟨G,g2,d2,t2,os'⟩,_,.ref C,some d,rfl,J,kG,ge,hoe,⟨rfl,rfl,fun vs hv=>?_⟩,rfl,rfl,na,rfl,bare2,raises_own T.exC T.tyC,q2⟩
   cases hv
   rfl
  | next=>exact False.elim hq'
  | brk=>exact False.elim hq'
  | cont=>exact False.elim hq'
end
theorem zni {g:G} {T:Tb} {cf:Cf} {dt:Nat→FuncData} {C:Nat→List D→M D} {k wf:Nat} {X:Cx} {W:WX} {c:Nat} {xs:List Expr} {es:Exs} {p pos pos':Pos} {x:Str} (cx:CxOk g T cf dt C k X W) {np:Nat} {fl:List (Nat×(Nat ⊕ Str))} (he:T.exi c=exF fl np) (hnp:np≤100) (hx:cf.cls.contains c=true) (hg:Gl X (cf.nm.cn c)) (hdb:(cf.nm.cn c==("__debug__":Str))=false)
  (E:ExcK g X.prog X.w X.K X.mg X.base c np (flS g fl)) (hst:xs.all noStar=true) (hnil:xs=[]→es=.nil) (ha:PA X xs (tMA g W (evEs T C es))):PS X (.Raise (some (.Call (.Name (cf.nm.cn c) p) xs [] pos')) none pos) (tMS g W (exS T C wf (.raise c es))):=by
 obtain ⟨bk,ox,fI,fd,ps,i1,i2,F1,hb,_⟩:=E.fn
 have kC:=ox.kC
 refine zaG (L2N.ps_raise cx.calm cx.tk.n (t:=fun σ H Q=>tMA g W (evEs T C es) σ H fun vs H1=>∃m L ds fs,HRel g m L H1∧RelDs g m H1 ds vs∧T.exi c ds=some fs∧∀d,H1 d=none→∀m',Ev m H1 m' (upd H1 d (.xd (((zah (flS g fl) vs).getD []))))→HRel g m' L (upd H1 d (.xd ((zah (flS g fl) vs).getD [])))→XR g m' (upd H1 d (.xd ((zah (flS g fl) vs).getD []))) fs d→Q (.ref (g.cad c)) (some d) (upd H1 d (.xd ((zah (flS g fl) vs).getD [])))) ?_) ?_
 ·intro pins s σ H Q I h
  refine wpAny_Call_Name_kw (ld_glob I hg (cx.lk.cls c hx) ?_ hdb)
  have go:∀(us:List Value) (vs:List V) (s1:Shared) (H1:Hp),Vals vs us→Inv X pins σ H1 s1→(∃m L ds fs,HRel g m L H1∧RelDs g m H1 ds vs∧T.exi c ds=some fs∧∀d,H1 d=none→∀m',Ev m H1 m' (upd H1 d (.xd (((zah (flS g fl) vs).getD []))))→HRel g m' L (upd H1 d (.xd ((zah (flS g fl) vs).getD [])))→XR g m' (upd H1 d (.xd ((zah (flS g fl) vs).getD []))) fs d→Q (.ref (g.cad c)) (some d) (upd H1 d (.xd ((zah (flS g fl) vs).getD []))))→
    wpAny (model X.prog X.w) X.A (call (.ref (g.cad c)) us) (L2N.MkP X pins σ Q) X.xe s1:=fun us vs s1 H1 rv I1 ⟨m,L,ds,fs,hr,r,e,q⟩=>by
   rw [he] at e
   unfold exF at e
   split at e
   ·rename_i hl
    obtain ⟨vfs,f1,f2⟩:=zgC r e
    rw [f1] at q
    refine znY ox i1 i2 F1 (cx.room.mono (by have:=cx.rk; omega)) hb I1 rv (by rw [← r.length,hl]; omega) (by rw [← r.length,hl]) E.no f1 fun d n=>?_
    have ev:Ev m H1 m (upd H1 d (.xd vfs)):=Ev.upd_free n
    exact q d n m ev (hr.laid n) ⟨vfs,upd_same,f2.mono ev⟩
   ·cases e
  cases xs with
  | nil=>
   have e0:=hnil rfl
   subst e0
   obtain ⟨m,L, ρ,hr,lr,po⟩:=h
   exact PySem.W.callWith_K0 I.kIn kC (go [] [] s H .nil I (po.at (v:=[]) hr .nil))
  | cons e1 es1=>
   rw [List.all_cons,Bool.and_eq_true] at hst
   exact PySem.W.callWith_K (h₀:=X.base) I.ok.mod.kin kC (thn (ha.run pos' pins s σ H _ I h) fun us s1 ⟨vs,H1,I1,rv,q⟩=>⟨I1.kIn,go us vs s1 H1 rv I1 q⟩) (zac hst.1) (zar pos' hst.2)
 ·rintro D σ H ⟨m,L, ρ,hr,lr,po⟩
  refine ⟨m,L, ρ,hr,lr,(PFl.bindX (R:=RDs g) lr po).imp fun vs H1 ⟨m1,L1,ds,e1,hr1,rds,po1⟩=>?_⟩
  cases q:T.exi c ds with
  | none=>simp only [q] at po1; exact po1.elim
  | some fs=>
   simp only [q] at po1
   exact ⟨m1,L1,ds,fs,hr1,rds,q,fun d n m' ev hr' xr=>po1 m' _ ev hr' d σ ((lr.mono e1).mono ev) xr⟩
end Mi
end
section
set_option maxHeartbeats 4000000
namespace Mi
open PySem PySem.Spec PyProof.Rows L2 L2H
structure Tst (X:Cx) (he:Expr) (cs:List Value):Prop where
 run:∀(a:Addr) (oe:Obj) (pn:List (Addr×Obj)) (σ:L2.St) (H:Hp) (s:Shared) (cls:Value) (b:Bool) (R:Bool→Shared→Prop) (E1 E2:Value→Shared→Prop),Inv (X.suite a ((a,oe)::pn)) [] σ H s→s.heap.get? a=some oe→oe.cls=cls→PySem.W.exmAny X.K cls cs=some b→
  (∀h',(∀q o,s.heap.get? q=some o→h'.get? q=some o)→R b { s with heap:=h' })→
  wpAny (model X.prog X.w) (X.A.mark (some (.ref a))) (eval he X.env) (fun c s₁=>wpAny (model X.prog X.w) (X.A.mark (some (.ref a))) (excMatches (.ref a) c) R E1 s₁) E2 s
section
variable {X:Cx} {x1 x2:Str} {c1 c2:Value} {p1 p2 tpos:Pos} {kk:Nat}
theorem zj6 (g1:Gl X x1) (m1:X.mg x1=some c1) (d1:(x1==("__debug__":Str))=false):Tst X (.Name x1 p1) [c1]:=by
 refine ⟨fun a oe pn σ H s cls b R E1 E2 I he hz hx hr=>?_⟩
 have LT:PySem.W.Looks (model X.prog X.w) s.heap (typeOf (.ref a)) cls:=fun A Q E s k q=>wpAny_typeOf_ref (k _ _ he) (by rw [hz]; exact q)
 have h1:PySem.W.exmOne X.K cls c1=some b:=by
  obtain ⟨b1,b2,e1,e2,e3⟩:=PySem.W.exmAny_cons hx
  cases e2
  rw [e3,Bool.or_false]
  exact e1
 have LM:=PySem.W.exm_one (M:=model X.prog X.w) I.kIn LT h1
 refine ld_glob (X:=X.suite a ((a,oe)::pn)) I g1 m1 ?_ d1
 exact LM.here (hr s.heap fun _ _ z=>z)
theorem znF (g1:Gl X x1) (m1:X.mg x1=some c1) (d1:(x1==("__debug__":Str))=false) (g2:Gl X x2) (m2:X.mg x2=some c2) (d2:(x2==("__debug__":Str))=false):Tst X (.Tuple [.Name x1 p1,.Name x2 p2] kk tpos) [c1,c2]:=by
 refine ⟨fun a oe pn σ H s cls b R E1 E2 I he hz hx hr=>?_⟩
 have LT:PySem.W.Looks (model X.prog X.w) s.heap (typeOf (.ref a)) cls:=fun A Q E s k q=>wpAny_typeOf_ref (k _ _ he) (by rw [hz]; exact q)
 refine wpAny_Tuple ?_
 refine wpAny_items_cons (ld_glob (X:=X.suite a ((a,oe)::pn)) I g1 m1 ?_ d1)
 refine wpAny_items_cons (ld_glob (X:=X.suite a ((a,oe)::pn)) I g2 m2 ?_ d2)
 refine wpAny_items_nil ⟨by size_fits, ?_⟩
 have kp:∀q o,s.heap.get? q=some o→(s.heap.push { cls:=.type "tuple",data:=.seq [c1,c2].toArray }).get? q=some o:=fun _ _ z=>Heap.get?_push_of_some _ z
 refine (PySem.W.exm_tup2 (M:=model X.prog X.w) (I.kIn.keeps kp) (LT.keeps kp) (Heap.get?_push_size s.heap rfl) hx).here ?_
 exact hr _ kp
end
def wAny (K:PySem.W.Frag) (cs:List Value) (ts:Addr→Value→Option Addr→TS) (Wout:WX) (D:Ends):WX:=fun cls d σ H=>
 ∃b,PySem.W.exmAny K cls cs=some b∧(b=true→∀a,H a=none→ts a cls d D σ H)∧(b=false→Wout cls d σ H)
def wOth (K:PySem.W.Frag) (cs:List Value) (Wout:WX):WX:=fun cls d σ H=>PySem.W.exmAny K cls cs=some false∧Wout cls d σ H
theorem zhe {B h:Heap} {l:List Env} {a:Addr} {o:Obj} {vs:Array Value} (ff:h.FunFrames B l) (e:h.get? a=some o) (dd:o.data=.fields vs):a∉frs l:=fun hm=>by
 obtain ⟨_,o',e',hnf⟩:=ff.mem hm
 rw [e] at e'
 cases e'
 exact hnf _ dd
section
variable {X:Cx} {he:Expr} {cs:List Value} {body suite:List Stmt} {b₀:Stmt} {pos pos':Pos} {tb:WX→TS} {ts:Addr→Value→Option Addr→TS} {Wout:WX}
theorem zkE (hs:X.stack=X.env::X.outer) (hf:X.env.frame=some X.env.locals) (ht:Tst X he cs) (hpa:∀hd:Option Value,PassesOwnAt (model X.prog X.w) (X.A.mark hd) X.A X.env X.xe) (tk:L2.Takes X Wout)
  (hb:∀(W:WX) (pn:List (Addr×Obj)) (xe:Value→Shared→Prop),L2N.Takes (X.tr pn xe) W→L2.Takes (X.tr pn xe) (wOth X.K cs Wout)→PassesOwn (model X.prog X.w) X.A X.env xe→(∀hd:Option Value,PassesOwnAt (model X.prog X.w) (X.A.mark hd) X.A X.env xe)→PSs (X.tr pn xe) body (tb W))
  (hsu:∀(a:Addr) (oe:Obj) (cls:Value) (d:Option Addr) (pn:List (Addr×Obj)),L2N.Zn cls d oe→(∃vs,oe.data=.fields vs)→L2.Takes (suiteX X a ((a,oe)::pn)) Wout→HotC (suiteX X a ((a,oe)::pn))→
    PSs (suiteX X a ((a,oe)::pn)) (b₀::suite) (ts a cls d)):
  PS X (.Try body [.ExceptHandler (some he) none (b₀::suite) pos'] [] [] pos) (fun D σ H=>tb (wAny X.K cs ts Wout D) D σ H):=by
 refine ⟨fun pins s σ H D I h=>?_⟩
 have ok:=I.ok
 have hfr:X.A.frames=some (X.env::X.outer):=by rw [ok.frames,hs]
 have on:∀ {a:Addr} {B:Heap} {sI s':Shared} {σ':L2.St} {H':Hp} {cls:Value} {d:Option Addr} {h3:Heap},Inv X pins σ' H' sI→(∀b o,sI.heap.get? b=some o→b∉frs X.stack→B.get? b=some o)→sI.heap.UpToSlots h3→
   HandSPX.FlyingZ B (X.env::X.outer) a (Zc cls d) h3→H' a=none→s'.os=sI.os→AllBare s'.gens→Wout cls d σ' H'→wpAny (model X.prog X.w) X.A (handleBy (.ref a) X.env []) (SP X pins D) X.xe { s' with heap:=h3 }:=by
  intro a B sI s' σ' H' cls d h3 J nb up fly na os ag w
  refine wpAny_handleBy_nil ?_
  obtain ⟨k1,k2,k3,oe,vs,T,oT,ts',he,hz,hd,h1,hr⟩:=id fly
  unfold PySem.passOn
  refine wpAny_bind (wpAny_field he hd h1 ?_)
  rw [if_neg (show ¬ ((Value.ref T==Value.none)=true) from by simp)]
  have last:wpAny (model X.prog X.w) X.A (setFlight (.ref a) X.env.frame) (fun _ s4=>wpAny (model X.prog X.w) X.A (throw (.ref a):Sem Flow) (SP X pins D) X.xe s4) X.xe { s' with heap:=h3 }:=by
   rw [hf]
   refine HandSPX.setFlight_upZ fly fun h4 hh4 up4=>wpAny_throw (tk _ _ ?_)
   exact ⟨a,B,sI,pins, σ',H',cls,d,rfl,J,nb,up.trans up4,.inr (.inr (by rw [hs]; exact hh4)),na,os,ag,w⟩
  first
   | exact wpAny_bind (wpAny_pure (wpAny_bind last))
   | exact wpAny_bind last
 have test:∀ {a:Addr} {B:Heap} {sI s':Shared} {σ':L2.St} {H':Hp} {cls:Value} {d:Option Addr} {h3:Heap} {Z:Obj→Prop} {b:Bool} {R:Bool→Shared→Prop} {E1 E2:Value→Shared→Prop},Inv X pins σ' H' sI→(∀b o,sI.heap.get? b=some o→b∉frs X.stack→B.get? b=some o)→sI.heap.UpToSlots h3→
   HandSPX.FlyingZ B (X.env::X.outer) a Z h3→(∀o,Z o→Zc cls d o)→H' a=none→s'.os=sI.os→AllBare s'.gens→PySem.W.exmAny X.K cls cs=some b→
   (∀h',(∀q o,h3.get? q=some o→h'.get? q=some o)→HandSPX.FlyingZ B (X.env::X.outer) a Z h'→R b { s' with heap:=h' })→
   wpAny (model X.prog X.w) (X.A.mark (some (.ref a))) (eval he X.env) (fun c s₁=>wpAny (model X.prog X.w) (X.A.mark (some (.ref a))) (excMatches (.ref a) c) R E1 s₁) E2 { s' with heap:=h3 }:=by
  intro a B sI s' σ' H' cls d h3 Z b R E1 E2 J nb up fly hzc na os ag hx hr
  have J3:Inv X pins σ' H' { s' with heap:=h3 }:=J.landed nb fly.1 up os ag
  obtain ⟨oe3,vs3,he3,hz3,hd3⟩:=fly.there
  have nfr:a∉frs (X.env::X.outer):=zhe fly.2.2.1 he3 hd3
  have nL:a≠X.env.locals:=fun z=>nfr (List.mem_filterMap.mpr ⟨X.env,List.mem_cons_self,by rw [hf,z]⟩)
  have nF:a∉X.fs:=fun hm=>by
   obtain ⟨e,he,q⟩:=List.mem_filterMap.mp hm
   exact nfr (List.mem_filterMap.mpr ⟨e,List.mem_cons_of_mem _ he,q⟩)
  have S3:=J3.suite he3 hd3 na nL nF
  exact ht.run a oe3 _ σ' H' { s' with heap:=h3 } cls b R E1 E2 S3 he3 (hzc _ hz3).1 hx fun h' kp=>hr h' kp (zh1 kp fly)
 refine wpAny_Try_except ?_
 refine wpAny_mono ((hb (wAny X.K cs ts Wout D) (X.pn++pins) (fun e s₁=>wpAny (model X.prog X.w) X.A (noteFrame e X.env) (fun _ s₂=>wpAny (model X.prog X.w) X.A (setFlight e none) (fun _ s₃=>
   wpAny (model X.prog X.w) X.A (handleBy e X.env [.ExceptHandler (some he) none (b₀::suite) pos']) (SP X pins D) X.xe s₃) X.xe s₂) X.xe s₁) (fun u s' xx=>?_) (fun u s' xx=>?_) PassesOwn.looking fun hd=>PassesOwnAt.looking).run [] s σ H D (I.toTry _) h) (fun f s1 hsp=>?_) (fun e s1 he=>he)
 ·obtain ⟨a,B,sI,pins', σ',H',cls,d,rfl,J',nb,up,sky,na,os,ag,b,hb1,hyes,hno⟩:=xx
  have J:Inv X pins σ' H' sI:=J'.ofTry ok
  have sky':Sky B (X.env::X.outer) a (L2N.Zn cls d) X.env.locals s'.heap:=by rw [← hs]; exact sky
  show wpAny (model X.prog X.w) X.A (noteFrame (.ref a) X.env) _ _ _
  refine L2N.Sky.land L2N.Zn.steady hfr hf sky' fun h3 fl3 up3=>?_
  refine wpAny_handleBy_cons (codeAny_handlers_test ?_) (by intro q; cases q)
  refine test (d:=d) J nb (up.trans up3) fl3 (fun o z=>z.zc) na os ag hb1 fun hk kp flk=>?_
  have upk:sI.heap.UpToSlots hk:=(up.trans up3).trans (Heap.UpToSlots.of_keeps kp)
  cases b with
  | true=>
   refine codeAny_handlers_suite ?_
   refine HandSPX.lands_againZ flk fun h4 fl4 up4=>?_
   have J4:Inv X pins σ' H' { s' with heap:=h4 }:=J.landed nb fl4.1 (upk.trans up4) os ag
   obtain ⟨oe4,vs4,he4,hz4,hd4⟩:=fl4.there
   have nfr:a∉frs (X.env::X.outer):=zhe fl4.2.2.1 he4 hd4
   have nL:a≠X.env.locals:=fun z=>nfr (List.mem_filterMap.mpr ⟨X.env,List.mem_cons_self,by rw [hf,z]⟩)
   have nF:a∉X.fs:=fun hm=>by
    obtain ⟨e,he,q⟩:=List.mem_filterMap.mp hm
    exact nfr (List.mem_filterMap.mpr ⟨e,List.mem_cons_of_mem _ he,q⟩)
   have S4:=J4.suite he4 hd4 na nL nF
   have tkS:L2.Takes (suiteX X a ((a,oe4)::(X.pn++pins))) Wout:=fun u2 s2 x2=>by
    obtain ⟨a2,B2,sI2,pn2, σ2,H2,cls2,d2,e2,I2,nb2,up2,sky2,na2,os2,ag2,w2⟩:=x2
    exact tk u2 s2 ⟨a2,B2,sI2,pins, σ2,H2,cls2,d2,e2,unsuiteX I2 ok,nb2,up2,sky2,na2,os2,ag2,w2⟩
   have hot:HotC (suiteX X a ((a,oe4)::(X.pn++pins))):=⟨(a,oe4),⟨rfl,vs4,hd4,hz4.2.2 vs4 hd4⟩,List.mem_cons_self⟩
   refine wpAny_mono ((hsu a oe4 cls d (X.pn++pins) hz4 ⟨_,hd4⟩ tkS hot).run [] _ _ H' _ (suiteX_of S4) (hyes rfl a na)) (fun f s6 hsp=>?_) (fun e6 s6 z=>hpa (some (.ref a)) e6 s6 z)
   cases f with
   | next=>
    obtain ⟨σ6,H6,S6,q6⟩:=hsp
    exact ⟨_,_,unsuiteX S6 ok,q6⟩
   | brk=>
    obtain ⟨σ6,H6,S6,q6⟩:=hsp
    exact ⟨_,_,unsuiteX S6 ok,q6⟩
   | cont=>
    obtain ⟨σ6,H6,S6,q6⟩:=hsp
    exact ⟨_,_,unsuiteX S6 ok,q6⟩
   | ret u=>
    obtain ⟨v6, σ6,H6,S6,r6,q6⟩:=hsp
    exact ⟨_,_,_,unsuiteX S6 ok,r6,q6⟩
  | false=>
   show wpAny _ X.A (handleBy (.ref a) X.env []) _ _ _
   exact on J nb upk (flyingZ_imp (fun o z=>z.zc) flk) na os ag (hno rfl)
 ·obtain ⟨a,B,sI,pins', σ',H',cls,d,rfl,J',nb,up,sky,na,os,ag,hb1,hno⟩:=xx
  have J:Inv X pins σ' H' sI:=J'.ofTry ok
  have sky':Sky B (X.env::X.outer) a (Zc cls d) X.env.locals s'.heap:=by rw [← hs]; exact sky
  show wpAny (model X.prog X.w) X.A (noteFrame (.ref a) X.env) _ _ _
  refine L2.Sky.land Zc.steady hfr hf sky' fun h3 fl3 up3=>?_
  refine wpAny_handleBy_cons (codeAny_handlers_test ?_) (by intro q; cases q)
  refine test (d:=d) J nb (up.trans up3) fl3 (fun o z=>z) na os ag hb1 fun hk kp flk=>?_
  show wpAny _ X.A (handleBy (.ref a) X.env []) _ _ _
  exact on J nb ((up.trans up3).trans (Heap.UpToSlots.of_keeps kp)) flk na os ag hno
 ·cases f with
  | next=>
   obtain ⟨σ',H',J',q⟩:=hsp
   exact wpAny_execs_nil ⟨σ',H',J'.ofTry ok,q⟩
  | brk=>
   obtain ⟨σ',H',J',q⟩:=hsp
   exact ⟨σ',H',J'.ofTry ok,q⟩
  | cont=>
   obtain ⟨σ',H',J',q⟩:=hsp
   exact ⟨σ',H',J'.ofTry ok,q⟩
  | ret u=>
   obtain ⟨v, σ',H',J',r,q⟩:=hsp
   exact ⟨v, σ',H',J'.ofTry ok,r,q⟩
end
end Mi
end
section
set_option maxHeartbeats 4000000
namespace Mi
open PySem PySem.Spec PyProof.Rows L2
section
variable {g:G} {T:Tb} {cf:Cf} {dt:Nat→FuncData} {C:Nat→List D→M D} {k wf:Nat} {X:Cx} {W:WX} {b1:Sms}
theorem SxOk.tr (c:SxOk g T cf dt C k X W) {W':WX} {pn:List (Addr×Obj)} {xe:Value→Shared→Prop} (tk:TakesM g.fr (X.tr pn xe) W') (pw:PassesOwn (model X.prog X.w) X.A X.env xe) (pa:∀hd:Option Value,PassesOwnAt (model X.prog X.w) (X.A.mark hd) X.A X.env xe):SxOk g T cf dt C k (X.tr pn xe) W':=
 ⟨⟨c.cx.K,c.cx.lk,c.cx.fns,c.cx.room,c.cx.calm,tk,c.cx.nd,c.cx.rk,c.cx.xo⟩,pw,c.bk,c.st,c.fr,pa⟩
theorem zqH (c:SxOk g T cf dt C k X W) {cc:Nat} {np pos pos':Pos} {body suite:List Stmt} {b₀:Stmt} (hx:cf.cls.contains cc=true) (hg:Gl X (cf.nm.cn cc)) (hdb:(cf.nm.cn cc==("__debug__":Str))=false)
  (hb:∀(W':WX) (pn:List (Addr×Obj)) (xe:Value→Shared→Prop),SxOk g T cf dt C k (X.tr pn xe) W'→PSs (X.tr pn xe) body (tMS g W' (exSs T C wf b1))):
  PS X (.Try body [.ExceptHandler (some (.Name (cf.nm.cn cc) np)) none (b₀::suite) pos'] [] [] pos) (tMS g W (exS T C wf (.tryq cc b1))):=by
 refine zaG (zkE (cs:=[.ref (g.cad cc)]) (Wout:=fun _ _ _ _=>False) (tb:=fun _=>tMS g (fun _ _ _ _=>False) (exSs T C wf b1)) (ts:=fun _ _ _=>fun _ _ _=>False) c.st c.fr (zj6 hg (c.cx.lk.cls cc hx) hdb) c.pa takes_none5 (fun W' pn xe _ _ pw pa=>hb _ pn xe (c.tr zfj pw pa)) (fun a oe cls d pn hz hf _ _=>⟨fun pins s σ H D I h=>h.elim⟩)) fun D σ H ⟨m,L, ρ,hr,lr,po⟩=>⟨m,L, ρ,hr,lr, ?_⟩
 simp only [exS] at po
 revert po
 generalize exSs T C wf b1 ρ L=r
 intro po
 cases r with
 | ok fl L'=>
  cases fl with
  | nx ρ'=>exact po
  | rt d=>exact po
  | bk ρ'=>exact po
  | ct ρ'=>exact po
  | xc ρ' c' fs=>exact po.elim
 | exc c' fs L'=>exact po.elim
 | stk=>exact po.elim
end
end Mi
end
section
set_option maxHeartbeats 4000000
namespace Mi
open PySem PySem.Spec PyProof.Rows L2
section
variable {X:Cx} {C fI:Addr} {k:Nat} {fd:FuncData} {ps:List Str} {np:Nat} {fl:List (Str×ExS)}
theorem zln {pins:List (Addr×Obj)} {σ:L2.St} {H1:Hp} {s1:Shared} {us:List Value} {vs:List V} {fs:List (Str×V)} {Q:XK} {bk:Bs} (hc:L2H.HotC X) (T:OexB X.K bk C) (iC:PySem.W.findIn X.K (.ref C) "__init__"=some (some (.ref fI))) (tI:PySem.W.typeIn X.K (.ref fI)=some (.type "function"))
  (F1:L2H.FnH X.prog X.w X.K X.mg X.base (L2.CX X.prog X.w) k fI fd ps (spI X.K bk np fl)) (hr:L2H.RoomH (k+1) X.A) (hb:Binds X.K fd ps []) (I1:Inv X pins σ H1 s1) (r1:Vals vs us) (hz:vs.length≤1000) (hnp:vs.length=np) (hno:∀q∈fl,PySem.W.findIn X.K (.ref C) q.1=some none)
  (hfs:zah fl vs=some fs) (hq:∀d,H1 d=none→Q (.ref C) (some d) (upd H1 d (.xd fs))):wpAny (model X.prog X.w) X.A (call (.ref C) us) (fun u s'=>L2N.MkP X pins σ Q u s'∧L2H.Six u s') X.xe s1:=by
 obtain ⟨pn,hot,hpn⟩:=hc
 obtain ⟨nm,q,N,bs,bm,sn,sub,ab,col,dd,k0,k1,k2,k3,k5,hC,hbm⟩:=T.cls
 obtain ⟨hp,g,dr,tk,os⟩:=s1
 have hsz:hp.objs.size≤hp.objs.size+1:=Nat.le_succ _
 have hn:H1 (hp.objs.size+1)=none:=I1.hok.fresh hsz
 have kk:∀b o,hp.get? b=some o→((hp.push (PySem.W.kdv_tup us)).push (PySem.HandSPX.excO C hp.objs.size)).get? b=some o:=fun b o e=>Heap.get?_push_of_some _ (Heap.get?_push_of_some _ e)
 have hget:((hp.push (PySem.W.kdv_tup us)).push (PySem.HandSPX.excO C hp.objs.size)).get? (hp.objs.size+1)=some (PySem.HandSPX.excO C hp.objs.size):=by heap_get
 have I2:Inv X pins σ (upd H1 (hp.objs.size+1) (exo (hp.objs.size+1) C none)) ⟨(hp.push (PySem.W.kdv_tup us)).push (PySem.HandSPX.excO C hp.objs.size),g,dr,tk,os⟩:=
  I1.laid (t':=tk) (a:=hp.objs.size+1) (o:=exo (hp.objs.size+1) C none) (h':=(hp.push (PySem.W.kdv_tup us)).push (PySem.HandSPX.excO C hp.objs.size)) kk hsz (exo_ok hget)
 have r2:Vals (V.ref (hp.objs.size+1)::vs) (Value.ref (hp.objs.size+1)::us):=.cons rfl r1
 have hus:us.length≤sizeLine:=by
  rw [← Paired.length r1,sizeLine_eq]
  omega
 have hsp:spI X.K bk np fl (V.ref (hp.objs.size+1)::vs) (upd H1 (hp.objs.size+1) (exo (hp.objs.size+1) C none)) (fun v H2=>v=.non∧∃(d:Addr) (fs:List (Str×V)),H2 (hp.objs.size+1)=some (exo (hp.objs.size+1) C (some d))∧H2 d=some (exd d fs)∧H1 d=none∧Q (.ref C) (some d) (upd (del H2 (hp.objs.size+1)) d (.xd fs))) (fun _ _ _=>False):=by
  refine ⟨_,C,vs,fs,rfl,hnp,T,hno,upd_same,hfs,fun d H' n ne j1 j2 j3=>⟨rfl,d,fs,j1,j2, ?_, ?_⟩⟩
  ·rw [upd_ne ne] at n
   exact n
  ·have n1:H1 d=none:=by
    rw [upd_ne ne] at n
    exact n
   have e:upd (del H' (hp.objs.size+1)) d (.xd fs)=upd H1 d (.xd fs):=by
    funext b
    by_cases hb1:b=d
    ·rw [hb1,upd_same,upd_same]
    ·rw [upd_ne hb1,upd_ne hb1]
     by_cases hb2:b=hp.objs.size+1
     ·rw [hb2,del_same,hn]
     ·rw [del_ne hb2,j3 b hb2 hb1,upd_ne hb2]
   rw [e]
   exact hq d n1
 have hl:(Value.ref (hp.objs.size+1)::us).length=ps.length:=by
  have e:=r2.length
  rw [F1.len _ _ _ _ hsp] at e
  exact e.symm
 have b:=hb _ (Value.ref (hp.objs.size+1)::us) I2.kIn (by rw [List.append_nil]; exact hl)
 rw [List.append_nil] at b
 have P1:=I2.pin pn (List.mem_append_left _ hpn)
 have hpin:L2H.PinOk X.stack (upd H1 (hp.objs.size+1) (exo (hp.objs.size+1) C none)) ⟨(hp.push (PySem.W.kdv_tup us)).push (PySem.HandSPX.excO C hp.objs.size),g,dr,tk,os⟩ pn:=
  ⟨P1.1,P1.2.1,fun hmm=>(List.mem_cons.mp (I2.stkSub pn.1 hmm)).elim P1.2.2.1 P1.2.2.2.1,P1.2.2.2.2⟩
 refine wpAny_call (PySem.HandSPX.call_own (zk0 bk) (fun Y=>PySem.W.excTail_contains Y bm hbm) (I1.kIn _ _ hC) (PySem.W.looks_findIn I1.kIn iC) (fun self=>PySem.W.bind_fn I1.kIn self tI) hus
   (codeAny_mono (F1.run _ X.stack _ _ ⟨Value.ref (hp.objs.size+1)::us,[]⟩ (Value.ref (hp.objs.size+1)::us) _ _ (fun _ _ _=>False) pn (hr.make C us []) ⟨hot.1,hot.2⟩ hpin (I2.env0.make C us []) b r2 hsp) fun r s' hq'=>?_))
 cases r with
 | error er=>
  obtain ⟨_,_,_,_,_,_,_,_,_,_,_,_,z⟩:=hq'
  exact z.elim
 | ok flw=>
  cases flw with
  | ret u=>
   obtain ⟨v,H2,os2,bare2,un2,hok2,rv,ev,d,fs',ea,ed,hd1,q2⟩:=hq'
   subst ev
   obtain ⟨h2,g2,d2,t2,os'⟩:=s'
   obtain ⟨t0,G,J,kG,ge,hoe,na⟩:=mk_end0 (d2:=d2) (t2:=t2) I1 hsz kk un2 hok2 os2 bare2 ea ed hd1
   refine ⟨rv,⟨hp.objs.size+1,_,_,⟨G,g2,d2,t2,os'⟩,_,.ref C,some d,rfl,J,kG,ge,hoe,⟨rfl,rfl,fun vs hv=>?_⟩,rfl,rfl,na,rfl,bare2,raises_own T.exC T.tyC,q2⟩,fun a oe vs ea2 hg2 hd2=>?_⟩
   ·cases hv
    rfl
   ·cases ea2
    have hg3:h2.get? (hp.objs.size+1)=some oe:=hg2
    rw [hoe] at hg3
    cases hg3
    cases hd2
    show (4:Nat) < 6
    decide
  | next=>exact False.elim hq'
  | brk=>exact False.elim hq'
  | cont=>exact False.elim hq'
end
end Mi
end
section
set_option maxHeartbeats 4000000
namespace PySem
namespace HandSPX
open PySem.W PySem.Calls PyProof.Rows
abbrev zk6 (bm bmB:List Value):Prop:=∀X:String,bm.contains (.type X)=bmB.contains (.type X)
abbrev eCls (nm q:Str) (C N:Addr) (bs bm:List Value) (hdct:Bool) (sn:List Str) (sub:List Value) (ab:Bool) (col:Option Bool) (dd:Option Addr) (k0 k1 k2 k3 k5:Option Value) (newId:String):Obj:=excClassObj nm q C N bs bm hdct sn sub ab col dd k0 k1 k2 k3 k5 newId
section
variable {M:Model} {A:Around} {E:Value→Shared→Prop} {h:Heap} {g:Array GenState} {d:Drawn} {t:Nat} {os:OsState} {nm q:Str} {C N:Addr} {bs bm bmB:List Value} {hdct:Bool} {sn:List Str} {sub:List Value} {ab:Bool}
variable {col:Option Bool} {dd:Option Addr} {k0 k1 k2 k3 k5:Option Value} {B newId initId:String} {prog:Program} {w:World} {R:Result→Shared→Prop}
theorem zlI (F:ExcBaseFacts B newId initId bmB) (hT:zk6 bm bmB) {us:List Value} {kw:List (Str×Value)} {Q:Unit→Shared→Prop}
  (hC:h.get? C=some (eCls nm q C N bs bm hdct sn sub ab col dd k0 k1 k2 k3 k5 newId)) (qq:Q () ⟨h,g,d,t,os⟩):wpAny M A (checkBuiltinCall newId ⟨.ref C::us,kw⟩) Q E ⟨h,g,d,t,os⟩:=by
 have z5:(Value.ref C::bm).contains (.type B)=true:=by rw [List.contains_cons,hT,F.hasB,Bool.or_true]
 have z6:=F.noStar
 simp only [checkBuiltinCall,F.newKind,F.newSplit,F.newRow]
 repeat (first | refine wpAny_loadPart_at hC ?_ | (refine wpAny_isSubtype_exc hC ?_; rw [z5]) | refine wpAny_staticBase_exc hC ?_ | refine wpAny_madeBy_exc hC ?_ | simp only [bne_self_eq_false,Bool.false_eq_true,if_false] | wp_step)
 exact qq
theorem zlU (F:ExcBaseFacts B newId initId bmB) (hT:zk6 bm bmB) {us:List Value} {kw:List (Str×Value)}
  (hC:h.get? C=some (eCls nm q C N bs bm hdct sn sub ab col dd k0 k1 k2 k3 k5 newId))
  (qq:R (.ok (.ret (.ref (h.objs.size+1)))) ⟨(h.push { cls:=.type "tuple",data:=.seq us.toArray }).push
    { cls:=.ref C,data:=.fields #[.ref h.objs.size,.none,.none,.none,.bool false,.none] },g,d,t,os⟩) (zus:us.length≤sizeLine):
  codeAny (model prog w) A (.builtin newId ⟨.ref C::us,kw⟩) R ⟨h,g,d,t,os⟩:=by
 have z1:=F.ends; have z2:(Value.ref C::bm).contains (.type B)=true:=by rw [List.contains_cons,hT,F.hasB,Bool.or_true]
 have z3:(Value.ref C::bm).contains (.type "AttributeError")=false:=by rw [List.contains_cons,hT,F.noAttr]; rfl
 have z4:(Value.ref C::bm).contains (.type "NameError")=false:=by rw [List.contains_cons,hT,F.noName]; rfl
 refine codeAny_builtinAt F.entry ?_; unfold Builtin.«BaseException.__new__»
 refine wpAt_bind ?_
 show wpAt _ _ _ (stack >>= _) _ _ _; refine wpAt_bind (wpAt_stack fun p below=>wpAt_of_wpAny ?_)
 wp_walk; refine wpAt_of_wpAny ?_
 rw [F.owner]
 repeat (first | with_reducible refine wpAny_madeHere_exc F.canon hC ?_ | with_reducible refine wpAny_loadPart_at hC ?_ | (with_reducible refine wpAny_isSubtype_exc hC ?_; first | rw [z2] | rw [z3] | rw [z4]) | wp_step)
 show R _ _; rw [Heap.size_push]
 exact qq
theorem zkM (F:ExcBaseFacts B newId initId bmB) (hT:zk6 bm bmB) {us:List Value} {kw:List (Str×Value)} {fI:Addr} {Q:Fin→Shared→Prop}
  (hC:h.get? C=some (eCls nm q C N bs bm hdct sn sub ab col dd k0 k1 k2 k3 k5 newId))
  (qi:W.Looks (model prog w) h (typeLookup (.ref C) "__init__") (some (.ref fI))) (qb:∀self,W.Looks (model prog w) h (bindSpecial (.ref fI) self) (.ref fI,[self])) (zus:us.length≤sizeLine)
  (qq:codeAny (model prog w) A (.call (.ref fI) ⟨.ref (h.objs.size+1)::us,kw⟩)
    (fun r s'=>match r with | .ok (.ret v)=>v=.none∧Q (.done (.ret (.ref (h.objs.size+1)))) s' | .ok _=>False | .error e=>E e s')
    ⟨(h.push (W.kdv_tup us)).push (excO C h.objs.size),g,d,t,os⟩):
  wpAny (model prog w) A (Builtin.«type.__call__» ⟨.ref C::us,kw⟩) Q E ⟨h,g,d,t,os⟩:=by
 repeat (first | with_reducible refine wpAny_loadPart_at hC ?_ | with_reducible refine wpAny_madeBy_exc hC ?_ | wp_step)
 refine codeAny_call_builtin_code (Code.quiet_builtin _ F.quiet) (zlI F hT hC ?_); refine zlU F hT hC ?_ zus
 show wpAny _ _ _ _ _ _; have k:∀b o,h.get? b=some o→((h.push (W.kdv_tup us)).push (excO C h.objs.size)).get? b=some o:=fun b o e=>Heap.get?_push_of_some _ (Heap.get?_push_of_some _ e)
 have y1:=k _ _ hC; have y2:((h.push (W.kdv_tup us)).push (excO C h.objs.size)).get? (h.objs.size+1)=some (excO C h.objs.size):=by heap_get
 have y3:(Value.ref C::bm).contains (.ref C)=true:=by simp
 have y4:=qi.keeps k; have y5:=(qb (.ref (h.objs.size+1))).keeps k
 unfold isInstance
 repeat (first | with_reducible refine wpAny_loadPart_at y2 ?_ | (with_reducible refine wpAny_isSubtype_exc y1 ?_; rw [y3]) | wp_step)
 show wpAny _ _ (typeLookup (.ref C) _) _ _ _; refine y4.at ?_
 refine wpAny_holding (wpAny_bind (y5.at ?_)); refine wpAny_bind (wpAny_call (codeAny_mono qq fun r s' z=>?_))
 rcases r with e | (v | _ | _ | _)<;>first | exact z | exact z.elim | skip
 obtain ⟨rfl,z⟩:=z
 first
  | exact wpAny_pure (wpAny_pure z)
  | (wp_walk; exact z)
theorem call_ownK (F:ExcBaseFacts B newId initId bmB) (hT:zk6 bm bmB) {us:List Value} {kw:List (Str×Value)} {fI:Addr}
  (hC:h.get? C=some (eCls nm q C N bs bm hdct sn sub ab col dd k0 k1 k2 k3 k5 newId))
  (qi:W.Looks (model prog w) h (typeLookup (.ref C) "__init__") (some (.ref fI))) (qb:∀self,W.Looks (model prog w) h (bindSpecial (.ref fI) self) (.ref fI,[self])) (zus:us.length≤sizeLine)
  (qq:codeAny (model prog w) (A.under (.builtin "type.__call__" ⟨.ref C::us,kw⟩)) (.call (.ref fI) ⟨.ref (h.objs.size+1)::us,kw⟩) (W.InitBack (h.objs.size+1) R)
    ⟨(h.push (W.kdv_tup us)).push (excO C h.objs.size),g,d,t,os⟩):
  codeAny (model prog w) A (.call (.ref C) ⟨us,kw⟩) R ⟨h,g,d,t,os⟩:=by
 have w1:=tc_lookup; have w2:=tc_bind (.ref C)
 have w3:(⟨h,g,d,t,os⟩:Shared).TypeIs (.ref C) "type":=⟨_,hC,rfl⟩; refine codeAny_of_tree ?_
 show wpAny _ _ (callAny (.ref C) _) _ _ _
 repeat (any_goals (first | assumption | with_reducible refine wpAny_loadPart_at hC ?_ | wp_step))
 refine ⟨rfl, ?_⟩; refine codeAny_call_builtin_at (Code.quiet_builtin _ (by decide +kernel)) entry_typeCall (wpAny_check_type_call_sub hC (zkM F hT hC qi qb zus ?_))
 refine codeAny_mono qq fun r s' z=>?_
 rcases r with e | (v | _ | _ | _)<;>exact z
end
end HandSPX
end PySem
end
section
set_option maxHeartbeats 4000000
namespace Mi
open PySem PySem.Spec PySem.Calls PyProof.Rows L2
section
variable {prog:Program} {w:World} {A:Around} {E:Value→Shared→Prop} {s:Shared} {K:PySem.W.Frag} {x D:Addr} {ox:Obj} {od:Option Obj}
open PySem.W
theorem znx {C:Addr} {name:Str} {a g:Value} (hc:(clsIn K C).isSome=true) (ha:findIn K (.ref C) name=some (some a)) (hg:specialIn K a "__get__"=some (some g)) (ht:takesIn K a=some true):findObj K C od name=some (.bind g a):=by
 obtain ⟨cd,hc⟩:=Option.isSome_iff_exists.mp hc
 unfold findObj
 rw [hc,Option.bind_some,ha,Option.bind_some]
 simp [hg,ht]
theorem zne {Q:Option Value→Shared→Prop} (Z:ExcC K D) (X:K.In s.heap) (I:InstAt s.heap x ox D od) (h:Q (some (.ref D)) { s with toks:=s.toks+1 }):wpAny (model prog w) A (getAttr? (.ref x) "__class__") Q E s:=by
 have hf:findObj K D od "__class__"=some (.bind (.builtin "getset_descriptor.__get__") (.builtin "object.__class__")):=znx (by obtain ⟨cd,hc,_⟩:=any_some Z.hd; rw [hc]; rfl) Z.ha Z.hn Z.ht
 obtain ⟨hp,g,d,t,os⟩:=s
 have l0:=I.type (M:=model prog w)
 have l1:=looks_findIn (M:=model prog w) X Z.hg
 have l2:=looks_findIn (M:=model prog w) X Z.hk
 have l3:=looks_find (M:=model prog w) X I hf
 have sb:Looks (model prog w) hp (isInstance (.ref x) (.type "BaseException")) true:=l0.andThen (looks_subIn X Z.hs)
 have y0:(false&&onTheHeap (Value.builtin "BaseException.__getattribute__"))=false:=rfl
 have y2:(Value.builtin "BaseException.__getattribute__"==Value.builtin "object.__getattribute__")=false:=by decide +kernel
 have y1:(onTheHeap (Value.ref D)&&Value.builtin "BaseException.__getattribute__"==Value.builtin "object.__getattribute__")=false:=by rw [y2]; rfl
 unfold getAttr? getAttrBy? getAttrBy
 refine wpAny_bind (wpAny_mkText (wpAny_bind (wpAny_attempt (wpAny_holding (wpAny_bind (l0.at (wpAny_bind (l1.at ?_))))))))
 show wpAny _ _ (if (onTheHeap (Value.ref D)&&Value.builtin "BaseException.__getattribute__"==Value.builtin "object.__getattribute__")=true then _ else _) _ _ _
 rw [y1,if_neg Bool.false_ne_true]
 unfold getAttrByItsOwn hookBefore
 refine wpAny_bind ?_
 rw [if_pos (show onTheHeap (Value.ref D)=true from rfl)]
 refine l2.at ?_
 refine wpAny_bind (wpAny_attempt (wpAny_holding ?_))
 unfold callGetattribute
 rw [y0,if_neg Bool.false_ne_true]
 unfold boundAndCalled
 rw [PySem.F.excAttr_ValueError.ga.bind (.ref x)]
 refine wpAny_bind (wpAny_pure ?_)
 show wpAny _ _ (call (.builtin "BaseException.__getattribute__") [.ref x,.str "__class__" t]) _ _ _
 refine wpAny_call (codeAny_call_builtin PySem.F.excAttr_ValueError.ga.plain PySem.F.entry_bexc_ga ?_)
 refine @check_slot (model prog w) _ _ ⟨hp,g,d,t+1,os⟩ "BaseException.__getattribute__" "BaseException" "__getattribute__" (.ref x) [.str "__class__" t] [] _ (by decide +kernel) (by decide +kernel) sb (PySem.F.args_bexc_ga (.ref x) (.str "__class__" t)) ?_
 unfold Builtin.«object.__getattribute__»
 refine wpAny_bind (wpAny_of_eq (a:=((Value.ref x:Value),[Value.str "__class__" t])) (by first | rfl | (simp only [slotArgs]; rfl)) ?_)
 refine wpAny_bind (wpAny_pure (wpAny_bind (l0.at (wpAny_bind (l3.at ?_)))))
 show wpAny _ _ (holding [Value.builtin "object.__class__"] (call (.builtin "getset_descriptor.__get__") [.builtin "object.__class__",.ref x,.ref D]) >>= _) _ _ _
 refine wpAny_bind (wpAny_holding (wpAny_call (class_get (s:=⟨hp,g,d,t+1,os⟩) (ox:=ox) (od:=od) X I Z.hm ?_)))
 refine wpAny_pure ?_
 show wpAny _ _ (handedOut (.ref D)) _ _ _
 rw [handedOut_of (v:=.ref D) rfl]
 first
  | exact wpAny_pure (wpAny_pure h)
  | exact wpAny_pure h
  | exact wpAny_pure (wpAny_bind (wpAny_pure (wpAny_pure h)))
theorem znz (Z:ExcC K D):KitX K (.ref x) (.ref D) (fun h=>InstAt h x ox D od) where
 ty:=fun _ _ _ I=>I.type
 it:=fun _ _ X _=>by
  obtain ⟨cd,hc,_⟩:=any_some Z.hd
  unfold clsIn at hc
  split at hc
  ·rename_i ho
   intro _ _ _ _ k q
   unfold isType loadHead
   exact wpAny_bind (wpAny_loadPart (k _ _ (X _ _ ho)) (wpAny_pure q))
  ·cases hc
 ne:=(PySem.W.handS_kitx_exc (x:=x) (ox:=ox) Z.hg Z.hk Z.hs Z.hd Z.ha Z.hn Z.ht Z.hm).ne
 ca:=fun X I k=>zne Z X I k
end
section
variable {X:Cx}
def rIsV (K:PySem.W.Frag):List V→Hp→VK→Prop:=fun xs H Q=>∃(a D dx:Addr) (fs:List (Str×V)) (c:V) (cv:Value) (b:Bool),xs=[.ref a,c]∧H a=some (exo a D (some dx))∧H dx=some (exd dx fs)∧ExcC K D∧ClsV c cv∧PySem.W.kitOne K (.ref D) cv=some b∧Q (.bl b) H
theorem zkT:CallR X (.builtin "isinstance") (rIsV X.K):=by
 intro pins s σ H xs us Q I r h
 obtain ⟨a,D,dx,fs,c,cv,b,rfl,ea,ed,Z,k,e,q⟩:=h
 obtain ⟨u1,u2,rfl,r1,r2⟩:=vals2 r
 have e2:=k.eq r2
 subst e2
 cases (show u1=Value.ref a from r1)
 obtain ⟨t1,hg⟩:=exo_at I.hok ea
 obtain ⟨mA,hns,_⟩:=exd_at I.hok ed
 obtain ⟨od,ho,_⟩:=lookIn_ns hns
 have J:PySem.W.InstAt s.heap a _ D (some od):=⟨hg,rfl,rfl,ho⟩
 exact PySem.W.kia_one (znz Z) I.kIn J e (fun z=>nomatch z) fun tk=>⟨.bl b,H,I.tok tk,rfl,q⟩
theorem zrX {e:Expr} {te:TE} {pos:Pos} {n:Str} (he:PE X e te) (hb:attributeBase e n X.env (eval e X.env)=eval e X.env:=by rfl):
  PE X (.Attribute e n pos) (fun σ H Q=>te σ H fun x H1=>∃(a C dd:Addr) (fs:List (Str×V)) (v:V),x=.ref a∧H1 a=some (exo a C (some dd))∧H1 dd=some (exd dd fs)∧XfC X.K C∧PySem.W.findIn X.K (.ref C) n=some none∧fs.lookup n=some v∧Q v H1):=by
 refine ⟨fun pins s σ H Q I h=>attr_of hb (thn (he.run pins s σ H _ I h) fun u s1 hh=>?_)⟩
 obtain ⟨x,H1,I1,rx,a,C,dd,fs,v,ex,ea,ed,T,hno,l,q⟩:=hh
 subst ex
 obtain rfl:u=Value.ref a:=rx
 obtain ⟨t1,hg⟩:=exo_at I1.hok ea
 obtain ⟨mA,hns,hr⟩:=exd_at I1.hok ed
 obtain ⟨od,ho,hl⟩:=lookIn_ns hns
 obtain ⟨u,hu,ru⟩:=L2.RelO.some_of (v:=v) (o:=mA n) (by rw [← l]; exact hr n)
 have J:PySem.W.InstAt s1.heap a _ C (some od):=⟨hg,rfl,rfl,ho⟩
 exact HandSPX.exc_get I1.kIn J T.ga T.gg T.exC (PySem.W.findObj_own T.hdC hno rfl (by rw [hl,hu])) (handed_of ru) ⟨v,H1,I1.tok _,ru,q⟩
theorem zpM {C fI:Addr} {fd:FuncData} {ps:List Str} {k np:Nat} {fl:List (Str×ExS)} {pins:List (Addr×Obj)} {σ:L2.St} {H1:Hp} {s1:Shared} {us us':List Value} {kw:List (Str×Value)} {vs:List V} {fs:List (Str×V)} {Q:VK} {bk:Bs}
  (T:OexB X.K bk C) (iC:PySem.W.findIn X.K (.ref C) "__init__"=some (some (.ref fI))) (tI:PySem.W.typeIn X.K (.ref fI)=some (.type "function")) (F1:FnOk X.prog X.w X.K X.mg X.base (L2.CX X.prog X.w) k fI fd ps (spI X.K bk np fl)) (hr:Room (k+1) X.A)
  (hb:∀(s:Shared) (x:Addr),BindsTo s fd ⟨.ref x::us,kw⟩ (ps.zip (.ref x::us'))) (I1:Inv X pins σ H1 s1) (r1:Vals vs us') (hz:us.length≤1000) (hnp:vs.length=np) (hno:∀q∈fl,PySem.W.findIn X.K (.ref C) q.1=some none) (hfs:zah fl vs=some fs)
  (hq:∀(a d:Addr) (H2:Hp),H1 a=none→H1 d=none→d≠a→H2 a=some (exo a C (some d))→H2 d=some (exd d fs)→(∀b,b≠a→b≠d→H2 b=H1 b)→Q (.ref a) H2):wpAny (model X.prog X.w) X.A (call (.ref C) us kw) (EP X pins σ Q) X.xe s1:=by
 obtain ⟨nm,q,N,bs,bm,sn,sub,ab,col,dd,k0,k1,k2,k3,k5,hC,hbm⟩:=T.cls
 obtain ⟨hp,g,dr,tk,os⟩:=s1
 have hsz:hp.objs.size≤hp.objs.size+1:=Nat.le_succ _
 obtain ⟨a,ea⟩:∃a,a=hp.objs.size+1:=⟨_,rfl⟩
 have hn:H1 a=none:=by rw [ea]; exact I1.hok.fresh hsz
 have kk:∀b o,hp.get? b=some o→((hp.push (PySem.W.kdv_tup us)).push (PySem.HandSPX.excO C hp.objs.size)).get? b=some o:=fun b o e=>Heap.get?_push_of_some _ (Heap.get?_push_of_some _ e)
 have hget:((hp.push (PySem.W.kdv_tup us)).push (PySem.HandSPX.excO C hp.objs.size)).get? (hp.objs.size+1)=some (PySem.HandSPX.excO C hp.objs.size):=by heap_get
 have I2:Inv X pins σ (upd H1 a (exo a C none)) ⟨(hp.push (PySem.W.kdv_tup us)).push (PySem.HandSPX.excO C hp.objs.size),g,dr,tk,os⟩:=by
  rw [ea]
  exact I1.laid (t':=tk) (a:=hp.objs.size+1) (o:=exo (hp.objs.size+1) C none) (h':=(hp.push (PySem.W.kdv_tup us)).push (PySem.HandSPX.excO C hp.objs.size)) kk hsz (exo_ok hget)
 have r2:Vals (V.ref a::vs) (Value.ref a::us'):=.cons rfl r1
 have hus:us.length≤sizeLine:=by
  rw [sizeLine_eq]
  omega
 have hsp:spI X.K bk np fl (V.ref a::vs) (upd H1 a (exo a C none)) (fun v H2=>v=.non∧Q (.ref a) H2) (fun _ _ _=>False):=by
  refine ⟨_,C,vs,fs,rfl,hnp,T,hno,upd_same,hfs,fun d H' n ne j1 j2 j3=>⟨rfl,hq a d H' hn ?_ ne j1 j2 fun b b1 b2=>?_⟩⟩
  ·rw [upd_ne ne] at n
   exact n
  ·rw [j3 b b1 b2,upd_ne b1]
 refine wpAny_call (PySem.HandSPX.call_ownK (zk0 bk) (fun Y=>PySem.W.excTail_contains Y bm hbm) (I1.kIn _ _ hC) (PySem.W.looks_findIn I1.kIn iC) (fun self=>PySem.W.bind_fn I1.kIn self tI) hus
   (codeAny_mono (F1.run _ X.stack _ _ ⟨Value.ref (hp.objs.size+1)::us,kw⟩ (Value.ref a::us') _ _ (fun _ _ _=>False) (hr.make C us kw) (I2.env0.make C us kw) (by rw [ea]; exact hb _ _) r2 hsp) fun r s' hq'=>?_))
 cases r with
 | error er=>
  obtain ⟨_,_,_,_,_,_,_,_,_,_,_,_,z⟩:=hq'
  exact z.elim
 | ok flw=>
  cases flw with
  | ret u=>
   obtain ⟨v,H2,I3,rv,ev,q2⟩:=I2.after hq'
   subst ev
   refine ⟨rv,V.ref a,H2,I3, ?_,q2⟩
   rw [ea]
   rfl
  | next=>exact False.elim hq'
  | brk=>exact False.elim hq'
  | cont=>exact False.elim hq'
end
end Mi
end
section
set_option maxHeartbeats 4000000
namespace Mi
open PySem PySem.Spec PyProof.Rows L2
section
variable {g:G} {T:Tb} {cf:Cf} {dt:Nat→FuncData} {C:Nat→List D→M D} {k:Nat} {X:Cx} {W:WX} {a:Ex} {ea et:Expr} {xs:List Expr} {es:Exs} {p pos:Pos}
theorem zhc {m:List Addr} {L:MH} {H:Hp} {d:D} {x:V} {c:Nat} {fs:List (Nat×D)} (hr:HRel g m L H) (rd:RelD g m H d x) (h:zal L d=some (c,fs)):
  ∃(p dx:Addr) (vfs:List (Str×V)),x=.ref p∧H p=some (exo p (g.cad c) (some dx))∧H dx=some (exd dx vfs)∧RelF g m H fs vfs:=by
 unfold zal at h
 split at h
 ·rename_i n
  split at h
  ·rename_i c' kk e1
   split at h
   ·rename_i fs' e2
    cases h
    cases rd with
    | ref hm=>
     obtain ⟨dx,q1,q2⟩:=hr.obj _ _ _ e1 hm
     obtain ⟨vfs,q3,q4⟩:=hr.obj _ _ _ e2 q1
     exact ⟨_,dx,vfs,rfl,q2,q3,q4⟩
   ·cases h
  ·cases h
 ·cases h
theorem zrj (c:CxOk g T cf dt C k X W) {n:Nat} (ho:zbV ea=true) (ha:PE X ea (tM g W (evE T C a))):PE X (.Attribute ea (cf.an n) pos) (tM g W (evE T C (.atx a n))):=by
 refine zaq (zrX ha (zcO ho _)) fun σ H Q ⟨m,L, ρ,hr,lr,po⟩=>?_
 refine ⟨m,L, ρ,hr,lr,(Post.bind (R:=RD g) po).imp fun v H1 ⟨m1,L1,d,e1,hr1,rd,po1⟩=>?_⟩
 unfold atxD at po1
 cases q:zal L1 d with
 | none=>simp only [q] at po1; exact po1.elim
 | some y=>
  obtain ⟨cc,fs⟩:=y
  simp only [q] at po1
  obtain ⟨pa,dx,vfs,rfl,q2,q3,q4⟩:=zhc hr1 rd q
  cases hx:T.xat cc n with
  | false=>rw [hx] at po1; exact po1.elim
  | true=>
   rw [hx,if_pos rfl] at po1
   obtain ⟨z1,z2⟩:=c.xo.2.xat cc n hx
   cases hl:fs.lookup n with
   | none=>rw [hl] at po1; exact po1.elim
   | some y=>
    rw [hl] at po1
    obtain ⟨v,l1,l2⟩:=q4.lookup c.lk.inj hl
    rw [← c.lk.an]
    exact ⟨pa,_,dx,vfs,v,rfl,q2,q3,z1,z2,l1,po1.at hr1 l2⟩
theorem zr9 (c:CxOk g T cf dt C k X W) {t:Ty} (hg:Gl X "isinstance") (hm:cf.blt.contains "isinstance"=true) (hne:noStar ea=true) (hst:noStar et=true) (ha:PE X ea (tM g W (evE T C a))) (ht:PE X et (tC (tyV' g t))):
  PE X (.Call (.Name "isinstance" p) [ea,et] [] pos) (tM g W (evE T C (.isx a t))):=by
 refine zaq (pe_callB zkT hg (c.lk.blt _ hm) PyProof.Rows.boot_isinstance (pa_cons ha (pa_cons ht pa_nil (zac hst)) (zac hne)) (by decide) (by decide) (zac hne) (zar pos (by rw [List.all_cons,hst]; rfl))) fun σ H Q ⟨m,L, ρ,hr,lr,po⟩=>?_
 refine ⟨m,L, ρ,hr,lr,(Post.bind (R:=RD g) po).imp fun v H1 ⟨m1,L1,d,e1,hr1,rd,po1⟩=>?_⟩
 unfold isxD at po1
 cases q:zal L1 d with
 | none=>simp only [q] at po1; exact po1.elim
 | some y=>
  obtain ⟨cc,fs⟩:=y
  simp only [q] at po1
  obtain ⟨pa,dx,vfs,rfl,q2,q3,q4⟩:=zhc hr1 rd q
  cases hx:T.kix cc t with
  | none=>rw [hx] at po1; exact po1.elim
  | some b=>
   rw [hx] at po1
   obtain ⟨z1,z2⟩:=c.xo.2.kix cc t b hx
   exact ⟨pa,_,dx,vfs,tyV' g t,zcC g t,b,rfl,q2,q3,z1,zhQ g t,z2,po1.at hr1 (.bl _)⟩
theorem zjs {α:Type} {x0:Str} {px ks:List Str} {v:α} {vs zs ds:List α} (nx:x0∉px) (h:zbb px px.length (List.replicate px.length none) vs ks zs=some ds):zbb (x0::px) (x0::px).length (List.replicate (x0::px).length none) (v::vs) ks zs=some (v::ds):=by
 unfold zbb at h ⊢
 split at h
 ·rename_i cnd
  simp only [Bool.and_eq_true,decide_eq_true_eq] at cnd
  have c2:(decide ((v::vs).length≤(x0::px).length)&&decide (ks.length=zs.length)&&ks.all fun k=>((x0::px).drop (v::vs).length).contains k)=true:=by
   simp only [Bool.and_eq_true,decide_eq_true_eq,List.length_cons,List.drop_succ_cons]
   exact ⟨⟨by omega,cnd.1.2⟩,cnd.2⟩
  rw [if_pos c2]
  rw [List.length_cons,List.replicate_succ,List.zip_cons_cons]
  simp only [mapO,List.zip_cons_cons,List.cons_append,List.lookup_cons,beq_self_eq_true,Option.some_or]
  have e:∀(q:Str×Option α),q∈px.zip (List.replicate px.length none)→(((match q.1==x0 with
      | true=>some v
      | false=>(px.zip vs++ks.zip zs).lookup q.1)).or q.2)=((px.zip vs++ks.zip zs).lookup q.1).or q.2:=fun q hq=>by
   have hm:q.1∈px:=(List.of_mem_zip (a:=q.1) (b:=q.2) hq).1
   have:(q.1==x0)=false:=beq_eq_false_iff_ne.mpr fun z=>nx (z ▸ hm)
   rw [this]
  have go:∀l:List (Str×Option α),(∀q∈l,(((match q.1==x0 with
      | true=>some v
      | false=>(px.zip vs++ks.zip zs).lookup q.1)).or q.2)=((px.zip vs++ks.zip zs).lookup q.1).or q.2)→mapO (fun q:Str×Option α=>((match q.1==x0 with
      | true=>some v
      | false=>(px.zip vs++ks.zip zs).lookup q.1)).or q.2) l=mapO (fun q:Str×Option α=>((px.zip vs++ks.zip zs).lookup q.1).or q.2) l:=by
   intro l
   induction l with
   | nil=>exact fun _=>rfl
   | cons q l ih=>
    intro hq
    simp only [mapO]
    rw [hq q List.mem_cons_self,ih fun r hr=>hq r (List.mem_cons_of_mem _ hr)]
  exact congrArg (fun o=>(some v).bind fun y=>Option.map (fun x=>y::x) o) ((go _ e).trans h)
 ·cases h
theorem zrB (c:CxOk g T cf dt C k X W) {cc np:Nat} {fl:List (Nat×(Nat ⊕ Str))} {kws:List Keyword} {ks:List Nat} {kn:List Str} {kes:Exs} (hl:cf.exs.lookup cc=some (np,fl)) (hgl:cf.cls.contains cc=true) (hg:Gl X (cf.nm.cn cc)) (hdb:(cf.nm.cn cc==("__debug__":Str))=false)
  (hst:xs.all noStar=true) (hks:ks.Nodup) (hkn:zat kws=some (ks.map cf.an)) (hkk:ks.map cf.an=kn) (hx:xs=[]→es=.nil) (hkx:kws=[]→kes=.nil∧ks=[]) (ha:PA X xs (tMA g W (evEs T C es))) (hk:PK X kws (tMA g W (evEs T C kes))):
  PE X (.Call (.Name (cf.nm.cn cc) p) xs kws pos) (tM g W (evE T C (.mkx cc es ks kn kes))):=by
 refine ⟨fun pins s σ H Q I h=>?_⟩
 obtain ⟨x1,x2,x3,bk,ox,fI,fd,x0,i1,i2,F1,KB,nx0⟩:=c.xo.1 cc _ hl
 have x2:np≤100:=x2
 have x1:T.exi cc=exF fl np:=x1
 have z:=zj5 (sem:=fun ds zs=>mkxD T cc ds kn zs) h
 refine wpAny_Call_Name_kw (ld_glob I hg (c.lk.cls cc hgl) ?_ hdb)
 refine zhh c (f:=.ref (g.cad cc)) (first:=[]) ox.kC hst hkn hx hkx ha hk I z fun us uz vs ws s3 H3 r rz I3 ⟨m2,L2,ds,zs,hr2,rds,rzs,po2⟩=>?_
 unfold mkxD at po2
 cases q:(zbb (T.exp cc) (T.exp cc).length (List.replicate (T.exp cc).length none) ds kn zs).bind (T.exi cc) with
 | none=>rw [q] at po2; exact po2.elim
 | some fs=>
  rw [q] at po2
  obtain ⟨args,q1,q2⟩:=Option.bind_eq_some_iff.mp q
  rw [x1] at q2
  unfold exF at q2
  split at q2
  case isFalse=>cases q2
  rename_i hlen
  have hp:∀n:Nat,Paired (zcr (RelU g m2 H3)) (List.replicate n none) (List.replicate n none):=fun n=>by
   induction n with
   | zero=>exact .nil
   | succ n ih=>exact .cons .none ih
  obtain ⟨us',b1,b2⟩:=zhC (zdl rds r) (zdl rzs rz) (hp _) q1
  obtain ⟨vs',r1,v1⟩:=zew b2
  obtain ⟨vfs,f1,f2⟩:=zgC r1 q2
  have ln:=ze6 q1
  rw [List.length_replicate,Nat.min_self,hlen] at ln
  have lv:us.length≤(T.exp cc).length:=by
   have e:=b1
   unfold zbb at e
   split at e
   ·rename_i cnd
    simp only [Bool.and_eq_true,decide_eq_true_eq] at cnd
    exact cnd.1.1
   ·cases e
  have hkn2:ks.map g.an=kn:=by rw [← hkk,c.lk.an]
  rw [hkn2]
  have nd:kn.Nodup:=by
   rw [← hkn2]
   exact List.pairwise_map.mpr (List.Pairwise.imp (fun {a b} ne e=>ne (c.lk.inj a b e)) hks)
  refine zpM (us:=us) (us':=us') (kw:=kn.zip uz) ox i1 i2 F1 (c.room.mono (by have:=c.rk; omega)) (fun s x=>KB s (.ref x::us) uz (.ref x::us') kn nd (zjs nx0 b1)) I3 v1 (by omega) (by rw [← r1.length,hlen]) x3.no f1 fun a d H2 na nd2 ne ea ed eo=>?_
  have n2:upd H3 d (exd d vfs) a=none:=by rw [upd_ne (Ne.symm ne)]; exact na
  have hr3:=hr2.push (ho:=exd d vfs) (o:=.xdt fs) nd2 ⟨vfs,upd_same,f2.mono (Ev.push nd2)⟩
  have hr4:=hr3.push (ho:=exo a (g.cad cc) (some d)) (o:=.exn cc L2.length) n2 ⟨d,by rw [← hr2.len,List.append_assoc]; simp,upd_same⟩
  have eH:H2=upd (upd H3 d (exd d vfs)) a (exo a (g.cad cc) (some d)):=by
   funext b
   by_cases b1:b=a
   ·rw [b1,upd_same,ea]
   ·rw [upd_ne b1]
    by_cases b2:b=d
    ·rw [b2,upd_same,ed]
    ·rw [upd_ne b2,eo b b1 b2]
  rw [eH]
  have ev:Ev m2 H3 (m2++[d]++[a]) (upd (upd H3 d (exd d vfs)) a (exo a (g.cad cc) (some d))):=(Ev.push nd2).trans (Ev.push n2)
  exact po2.atE ev hr4 (.ref (by rw [← hr2.len]; simp))
end
end Mi
end
section
set_option maxHeartbeats 4000000
namespace Mi
open PySem PySem.Spec PyProof.Rows L2
section
variable {g:G} {T:Tb} {cf:Cf} {dt:Nat→FuncData} {C:Nat→List D→M D} {k wf:Nat} {X:Cx} {W:WX} {b1:Sms}
theorem zrp {a:Addr} {pn:List (Addr×Obj)} (c:CxOk g T cf dt C k X W) {vis:Str→Bool} (hv:∀x,vis x=true→Vis X.env.scope x) {q:Nat×Option Nat} {e:Expr} (h:suB1 X.N cf.an vis q e=true):
  PE (L2H.suiteX X a pn) e (fun σ H Q=>∃m L ρ d,HRel g m L H∧LRel g m H ρ σ∧suV T ρ L q=some d∧∀v,RelD g m H d v→Q v H):=by
 unfold suB1 at h
 split at h
 ·rename_i x p
  simp only [Bool.and_eq_true,decide_eq_true_eq,Bool.not_eq_true'] at h
  obtain ⟨⟨⟨⟨h1,h2⟩,h3⟩,h4⟩,h5⟩:=h
  refine zaq (pe_var (X:=L2H.suiteX X a pn) (i:=q.1) h1 (hv x h2) h3 h4) fun σ H Q ⟨m,L, ρ,d,hr,lr,e,k⟩=>?_
  unfold suV at e
  rw [h5] at e
  split at e
  ·rename_i d' e1
   cases e
   obtain ⟨v,r1,r2⟩:=lr.get q.1 d e1
   exact ⟨v,r1,k v r2⟩
  ·cases e
 ·rename_i x p b p'
  simp only [Bool.and_eq_true,decide_eq_true_eq,Bool.not_eq_true'] at h
  obtain ⟨⟨⟨⟨h1,h2⟩,h3⟩,h4⟩,h5⟩:=h
  split at h5
  ·rename_i n e0
   have h5:=of_decide_eq_true h5
   subst h5
   refine ⟨fun pins s σ H Q I ⟨m,L, ρ,d,hr,lr,e,k⟩=>?_⟩
   unfold suV at e
   rw [e0] at e
   split at e
   ·rename_i d' e1
    simp only at e
    obtain ⟨x0,r1,r2⟩:=lr.get q.1 d' e1
    refine attr_of rfl (thn ((pe_var (X:=L2H.suiteX X a pn) (i:=q.1) h1 (hv x h2) h3 h4).run pins s σ H (fun v H1=>v=x0∧H1=H) I ⟨x0,r1,rfl,rfl⟩) fun u s1 ⟨v,H1,I1,rx,ev,eH⟩=>?_)
    subst ev eH
    cases q1:zdf L d' with
    | none=>rw [q1] at e; cases e
    | some cf'=>
     obtain ⟨cc,fs⟩:=cf'
     rw [q1] at e
     simp only at e
     obtain ⟨nn,p,dx,vfs,rfl,rfl,hm,hL,hH,rf⟩:=zhb hr r2 q1
     have hu:u=Value.ref p:=rx
     subst hu
     cases q2:T.prop cc n with
     | some f=>rw [q2] at e; cases e
     | none=>
      cases q3:fs.lookup n with
      | none=>rw [q2,q3] at e; cases e
      | some z=>
       rw [q2,q3] at e
       simp only at e
       split at e
       ·rename_i hn
        cases e
        obtain ⟨cl,na⟩:=c.lk.noat cc n hn
        obtain ⟨v,l1,l2⟩:=rf.lookup c.lk.inj q3
        rw [← c.lk.an]
        exact getattr_ok (X:=L2H.suiteX X a pn) I1 hH cl na l1 fun u' s2 I2 ru=>⟨v,_,I2,ru,k v l2⟩
       ·cases e
   ·cases e
  ·cases h5
 ·cases h
theorem zpy {a:Addr} {pn:List (Addr×Obj)} (c:CxOk g T cf dt C k X W) {vis:Str→Bool} (hv:∀x,vis x=true→Vis X.env.scope x):∀ {xs:List (Nat×Option Nat)} {es:List Expr},suB X.N cf.an vis xs es=true→
  PA (L2H.suiteX X a pn) es (fun σ H Q=>∃m L ρ ds,HRel g m L H∧LRel g m H ρ σ∧mapO (suV T ρ L) xs=some ds∧∀vs,RelDs g m H ds vs→Q vs H)
 | [],[],_=>zfl pa_nil fun σ H Q ⟨m,L, ρ,ds,hr,lr,e,k⟩=>by
  cases e
  exact k [] .nil
 | q::qs,e::es,h=>by
  simp only [suB,Bool.and_eq_true] at h
  have hst:noStar e=true:=by
   have:=h.1
   unfold suB1 at this
   split at this
   ·rfl
   ·rfl
   ·cases this
  refine zfl (pa_cons (zrp c hv h.1) (zpy c hv h.2) (zac hst)) fun σ H Q ⟨m,L, ρ,ds,hr,lr,e,k⟩=>?_
  simp only [mapO] at e
  cases q1:suV T ρ L q with
  | none=>rw [q1] at e; cases e
  | some d=>
   rw [q1] at e
   cases q2:mapO (suV T ρ L) qs with
   | none=>simp [q2] at e
   | some ds'=>
    simp only [q2,Option.bind_some,Option.map_some,Option.some.injEq] at e
    subst e
    exact ⟨m,L, ρ,d,hr,lr,q1,fun v r=>⟨m,L, ρ,ds',hr,lr,q2,fun vs rs=>k (v::vs) (.cons r rs)⟩⟩
 | [],_::_,h=>by cases h
 | _::_,[],h=>by cases h
end
section
variable {g:G} {T:Tb} {cf:Cf} {dt:Nat→FuncData} {C:Nat→List D→M D} {k wf:Nat} {X:Cx} {W:WX} {b1:Sms}
def tsR (g:G) (T:Tb) (W:WX) (c2:Nat) (xs:List (Nat×Option Nat)):TS:=fun D σ H=>∃m L ρ ds gs,HRel g m L H∧LRel g m H ρ σ∧mapO (suV T ρ L) xs=some ds∧T.exi c2 ds=some gs∧PFl g W D m H (.ok (.xc ρ c2 gs) L)
theorem zkZ {a:Addr} {pn:List (Addr×Obj)} {c2 np:Nat} {fl:List (Nat×(Nat ⊕ Str))} {es:List Expr} {xs:List (Nat×Option Nat)} {p pos' cpos pos:Pos} {j:Nat} {vis:Str→Bool} (c:CxOk g T cf dt C k X W) (hv:∀x,vis x=true→Vis X.env.scope x) (hot:L2H.HotC (L2H.suiteX X a pn))
  (tk:L2.Takes (L2H.suiteX X a pn) (fun cls d σ H=>frC g.fr cls=false∧W cls d σ H)) (he:T.exi c2=exF fl np) (hnp:np≤100) (hx:cf.cls.contains c2=true) (hg:Gl X (cf.nm.cn c2)) (hdb:(cf.nm.cn c2==("__debug__":Str))=false)
  (E:ExcK g X.prog X.w X.K X.mg X.base c2 np (flS g fl)) (hfr:g.fr (g.cad c2)=false) (hs:suB X.N cf.an vis xs es=true) (hne:es≠[]):
  PS (L2H.suiteX X a pn) (.Raise (some (.Call (.Name (cf.nm.cn c2) p) es [] pos')) (some (.Constant .none j cpos)) pos) (tsR g T W c2 xs):=by
 obtain ⟨bk,ox,fI,fd,ps,i1,i2,_,hb,F1⟩:=E.fn
 have kC:=ox.kC
 refine zaG (L2H.ps_raiseHN hot tk (t:=fun σ H Q=>∃m L ρ ds gs,HRel g m L H∧LRel g m H ρ σ∧mapO (suV T ρ L) xs=some ds∧T.exi c2 ds=some gs∧∀d vfs,H d=none→∀m',Ev m H m' (upd H d (.xd vfs))→HRel g m' L (upd H d (.xd vfs))→XR g m' (upd H d (.xd vfs)) gs d→Q (.ref (g.cad c2)) (some d) (upd H d (.xd vfs))) ?_) ?_
 ·intro pins s σ H Q I ⟨m,L, ρ,ds,gs,hr,lr,e1,e2,q⟩
  refine wpAny_Call_Name_kw (ld_glob (X:=L2H.suiteX X a pn) I hg (c.lk.cls c2 hx) ?_ hdb)
  have hst:es.all noStar=true:=by
   have:∀ {xs:List (Nat×Option Nat)} {es:List Expr},suB X.N cf.an vis xs es=true→es.all noStar=true:=fun {xs es}=>by
    induction es generalizing xs with
    | nil=>intro _; rfl
    | cons e es ih=>
     intro h
     cases xs with
     | nil=>cases h
     | cons q qs=>
      simp only [suB,Bool.and_eq_true] at h
      rw [List.all_cons,Bool.and_eq_true]
      refine ⟨?_,ih h.2⟩
      have:=h.1
      unfold suB1 at this
      split at this
      ·rfl
      ·rfl
      ·cases this
   exact this hs
  match es,hne,hst,hs with
  | e0::es0,_,hst,hs=>
   rw [List.all_cons,Bool.and_eq_true] at hst
   refine PySem.W.callWith_K (h₀:=X.base) I.ok.mod.kin kC (thn ((zpy c hv hs).run pos' pins s σ H (fun vs H1=>H1=H∧RelDs g m H ds vs) I ?_) fun us s1 ⟨vs,H1,I1,rv,eH,rds⟩=>⟨I1.kIn, ?_⟩) (zac hst.1) (zar pos' hst.2)
   ·exact ⟨m,L, ρ,ds,hr,lr,e1,fun vs r=>⟨rfl,r⟩⟩
   ·subst eH
    show wpAny _ _ (call (.ref (g.cad c2)) us) _ _ _
    rw [he] at e2
    unfold exF at e2
    split at e2
    ·rename_i hl
     obtain ⟨vfs,f1,f2⟩:=zgC rds e2
     have hroom:L2H.RoomH 3 (L2H.suiteX X a pn).A:=⟨by have:=(c.room.mono (j:=3) (by have:=c.rk; omega)).dp; exact this,by have:=(c.room.mono (j:=3) (by have:=c.rk; omega)).un; exact this⟩
     refine zln (X:=L2H.suiteX X a pn) hot ox i1 i2 F1 hroom hb I1 rv (by rw [← rds.length,hl]; omega) (by rw [← rds.length,hl]) E.no f1 fun d n=>?_
     have ev:Ev m H1 m (upd H1 d (.xd vfs)):=Ev.upd_free n
     exact q d vfs n m ev (hr.laid n) ⟨vfs,upd_same,f2.mono ev⟩
    ·cases e2
 ·rintro D σ H ⟨m,L, ρ,ds,gs,hr,lr,e1,e2,po⟩
  refine ⟨m,L, ρ,ds,gs,hr,lr,e1,e2,fun d vfs n m' ev hr' xr=>⟨hfr,po m' _ ev hr' d σ (lr.mono ev) xr⟩⟩
theorem zj3 (c:SxOk g T cf dt C k X W) {cs:List Nat} {he:Expr} {pos pos':Pos} {body suite:List Stmt} {b₀:Stmt} {ex:Sm} {ts:TS} (ht:Tst X he (cs.map fun x=>.ref (g.cad x)))
  (hb:∀(W':WX) (pn:List (Addr×Obj)) (xe:Value→Shared→Prop),SxOk g T cf dt C k (X.tr pn xe) W'→PSs (X.tr pn xe) body (tMS g W' (exSs T C wf b1)))
  (hsu:∀(a:Addr) (pn:List (Addr×Obj)),L2.Takes (L2H.suiteX X a pn) (fun cls d σ H=>frC g.fr cls=false∧W cls d σ H)→L2H.HotC (L2H.suiteX X a pn)→PSs (L2H.suiteX X a pn) (b₀::suite) ts)
  (hx:∀D m H L ρ,PFl g W D m H (exS T C wf ex ρ L)→(match exSs T C wf b1 ρ L with
    | .ok (.xc ρ1 cc fs) L1=>(T.exm cc cs=some true∧T.fre cc=some true∧∀m1 H1 σ1 dx,Ev m H m1 H1→HRel g m1 L1 H1→LRel g m1 H1 ρ1 σ1→XR g m1 H1 fs dx→ts D σ1 H1)∨(T.exm cc cs=some false∧T.fre cc=some false∧PFl g W D m H (.ok (.xc ρ1 cc fs) L1))
    | .exc _ _ _=>False
    | r=>PFl g W D m H r)):
  PS X (.Try body [.ExceptHandler (some he) none (b₀::suite) pos'] [] [] pos) (tMS g W (exS T C wf ex)):=by
 obtain ⟨Wo,eWo⟩:∃Wo:WX,Wo=fun cls d σ H=>frC g.fr cls=false∧W cls d σ H:=⟨_,rfl⟩
 have xm:=c.cx.xo.2
 refine zaG (zkE (cs:=cs.map fun x=>.ref (g.cad x)) (Wout:=Wo) (ts:=fun _ _ _=>ts) (tb:=fun W' D σ H=>tMS g (fun cls d σ H=>W' cls d σ H∧(frC g.fr cls=false→wOth X.K (cs.map fun x=>.ref (g.cad x)) Wo cls d σ H)) (exSs T C wf b1) D σ H) c.st c.fr ht c.pa (by rw [eWo]; exact c.cx.tk.o)
   (fun W' pn xe tn to pw pa=>hb _ pn xe (c.tr ⟨tn.imp fun _ _ _ _ z=>z.1,to.imp fun _ _ _ _ z=>z.2.2 z.1⟩ pw pa)) (fun a oe cls d pn hz hf tk hot=>hsu a _ (by rw [← eWo]; exact tk) hot)) fun D σ H ⟨m,L, ρ,hr,lr,po⟩=>⟨m,L, ρ,hr,lr, ?_⟩
 have po:=hx D m H L ρ po
 revert po
 generalize exSs T C wf b1 ρ L=r
 intro po
 cases r with
 | exc c' fs L'=>exact po.elim
 | stk=>exact po
 | ok fl L'=>
  cases fl with
  | nx ρ'=>exact po
  | rt d=>exact po
  | bk ρ'=>exact po
  | ct ρ'=>exact po
  | xc ρ1 cc fs=>
   intro m1 H1 e1 hr1 dx σ1 lr1 xr
   rcases po with ⟨h1,h2,h3⟩ | ⟨h1,h2,h3⟩
   ·have hf:frC g.fr (.ref (g.cad cc))=true:=xm.fre cc true h2
    exact ⟨⟨true,xm.exm cc cs true h1,fun _ a _=>h3 m1 H1 σ1 dx e1 hr1 lr1 xr,fun z=>(by cases z)⟩,fun z=>(by rw [hf] at z; cases z)⟩
   ·have hf:frC g.fr (.ref (g.cad cc))=false:=xm.fre cc false h2
    have hw:Wo (.ref (g.cad cc)) (some dx) σ1 H1:=by rw [eWo]; exact ⟨hf,h3 m1 H1 e1 hr1 dx σ1 lr1 xr⟩
    exact ⟨⟨false,xm.exm cc cs false h1,fun z=>(by cases z),fun _=>hw⟩,fun _=>⟨xm.exm cc cs false h1,hw⟩⟩
theorem zqR (c:SxOk g T cf dt C k X W) {cs:List Nat} {he:Expr} {c2 np:Nat} {fl:List (Nat×(Nat ⊕ Str))} {es:List Expr} {xs:List (Nat×Option Nat)} {p cp cpos rpos pos pos':Pos} {j:Nat} {body:List Stmt} {vis:Str→Bool} (ht:Tst X he (cs.map fun x=>.ref (g.cad x))) (hv:∀x,vis x=true→Vis X.env.scope x)
  (hE:T.exi c2=exF fl np) (hnp:np≤100) (hx:cf.cls.contains c2=true) (hg:Gl X (cf.nm.cn c2)) (hdb:(cf.nm.cn c2==("__debug__":Str))=false) (E:ExcK g X.prog X.w X.K X.mg X.base c2 np (flS g fl)) (hs:suB X.N cf.an vis xs es=true) (hne:es≠[])
  (hb:∀(W':WX) (pn:List (Addr×Obj)) (xe:Value→Shared→Prop),SxOk g T cf dt C k (X.tr pn xe) W'→PSs (X.tr pn xe) body (tMS g W' (exSs T C wf b1))):
  PS X (.Try body [.ExceptHandler (some he) none [.Raise (some (.Call (.Name (cf.nm.cn c2) p) es [] cp)) (some (.Constant .none j cpos)) rpos] pos'] [] [] pos) (tMS g W (exS T C wf (.tryr cs b1 c2 xs))):=by
 by_cases hf:T.fre c2=some false
 ·refine zj3 (ts:=tsR g T W c2 xs) c ht hb (fun a pn tk hot=>pss_one (zkZ c.cx hv hot tk hE hnp hx hg hdb E (c.cx.xo.2.fre c2 false hf) hs hne)) fun D m H L ρ po=>?_
  simp only [exS] at po
  revert po
  generalize exSs T C wf b1 ρ L=r
  intro po
  cases r with
  | exc c' fs L'=>exact po
  | stk=>exact po
  | ok fl L'=>
   cases fl with
   | nx ρ'=>exact po
   | rt d=>exact po
   | bk ρ'=>exact po
   | ct ρ'=>exact po
   | xc ρ1 cc fs=>
    show _∨_
    simp only at po
    cases q1:T.exm cc cs with
    | none=>simp only [q1] at po; exact po.elim
    | some b=>
     cases q2:T.fre cc with
     | none=>simp only [q1,q2] at po; exact po.elim
     | some b'=>
      cases b<;>cases b'<;>simp only [q1,q2,hf,if_true] at po
      ·exact .inr ⟨rfl,rfl,po⟩
      ·exact po.elim
      ·exact po.elim
      ·cases q3:mapO (suV T ρ1 L') xs with
       | none=>simp only [q3] at po; exact po.elim
       | some ds=>
        cases q4:T.exi c2 ds with
        | none=>simp only [q3,q4] at po; exact po.elim
        | some gs=>
         simp only [q3,q4] at po
         exact .inl ⟨rfl,rfl,fun m1 H1 σ1 dx e1 hr1 lr1 _=>⟨m1,L', ρ1,ds,gs,hr1,lr1,q3,q4,PFl.ev e1 po⟩⟩
 ·refine zj3 (ts:=fun _ _ _=>False) c ht hb (fun a pn tk hot=>⟨fun pins s σ H D I h=>h.elim⟩) fun D m H L ρ po=>?_
  simp only [exS] at po
  revert po
  generalize exSs T C wf b1 ρ L=r
  intro po
  cases r with
  | exc c' fs L'=>exact po
  | stk=>exact po
  | ok fl L'=>
   cases fl with
   | nx ρ'=>exact po
   | rt d=>exact po
   | bk ρ'=>exact po
   | ct ρ'=>exact po
   | xc ρ1 cc fs=>
    show _∨_
    simp only at po
    cases q1:T.exm cc cs with
    | none=>simp only [q1] at po; exact po.elim
    | some b=>
     cases q2:T.fre cc with
     | none=>simp only [q1,q2] at po; exact po.elim
     | some b'=>
      cases b<;>cases b'<;>simp only [q1,q2,hf,if_false] at po
      ·exact .inr ⟨rfl,rfl,po⟩
      ·exact po.elim
      ·exact po.elim
      ·exact po.elim
theorem zpt (c:SxOk g T cf dt C k X W) {cs:List Nat} {he e:Expr} {d:D} {rpos pos pos':Pos} {body:List Stmt} (ht:Tst X he (cs.map fun x=>.ref (g.cad x))) (hd:cstB d e=true)
  (hb:∀(W':WX) (pn:List (Addr×Obj)) (xe:Value→Shared→Prop),SxOk g T cf dt C k (X.tr pn xe) W'→PSs (X.tr pn xe) body (tMS g W' (exSs T C wf b1))):
  PS X (.Try body [.ExceptHandler (some he) none [.Return (some e) rpos] pos'] [] [] pos) (tMS g W (exS T C wf (.tryk cs b1 d))):=by
 refine zj3 (ts:=fun D σ H=>∃m L,HRel g m L H∧PFl g W D m H (.ok (.rt d) L)) c ht hb (fun a pn tk hot=>pss_one ?_) fun D m H L ρ po=>?_
 ·unfold cstB at hd
  split at hd
  ·split at hd
   ·exact zaG (ps_ret pe_non) fun D σ H ⟨m,L,hr,po⟩=>po m H (Ev.refl _ _) hr .non .non
   ·cases hd
  ·split at hd
   ·rename_i b j p _ b'
    have hd:=of_decide_eq_true hd
    subst hd
    exact zaG (ps_ret pe_bl) fun D σ H ⟨m,L,hr,po⟩=>po m H (Ev.refl _ _) hr (.bl b) (.bl b)
   ·cases hd
  ·cases hd
 ·simp only [exS] at po
  revert po
  generalize exSs T C wf b1 ρ L=r
  intro po
  cases r with
  | exc c' fs L'=>exact po
  | stk=>exact po
  | ok fl L'=>
   cases fl with
   | nx ρ'=>exact po
   | rt d=>exact po
   | bk ρ'=>exact po
   | ct ρ'=>exact po
   | xc ρ1 cc fs=>
    show _∨_
    simp only at po
    cases q1:T.exm cc cs with
    | none=>simp only [q1] at po; exact po.elim
    | some b=>
     cases q2:T.fre cc with
     | none=>simp only [q1,q2] at po; exact po.elim
     | some b'=>
      cases b<;>cases b'<;>simp only [q1,q2] at po
      ·exact .inr ⟨rfl,rfl,po⟩
      ·exact po.elim
      ·exact po.elim
      ·exact .inl ⟨rfl,rfl,fun m1 H1 σ1 dx e1 hr1 _ _=>⟨m1,L',hr1,PFl.ev e1 po⟩⟩
end
end Mi
end
section
set_option maxHeartbeats 4000000
namespace Mi
open PySem PySem.Spec PyProof.Rows L2
section
variable {g:G} {m m':List Addr} {L:MH} {H:Hp} {n:Nat}
mutual
theorem RelD.nkv:∀ {d:D} {v:V} {k:NestedKey},RelD g m H d v→nkD d=some k→NKV g.K H k v
 | _,_,_,.non,e=>by simp only [nkD,Option.some.injEq] at e; subst e; exact .none
 | _,_,_,.bl b,e=>by simp only [nkD,Option.some.injEq] at e; subst e; exact .bl b
 | _,_,_,.int i,e=>by simp only [nkD,Option.some.injEq] at e; subst e; exact .int i
 | _,_,_,.str s,e=>by simp only [nkD,Option.some.injEq] at e; subst e; exact .str s
 | _,_,_,.ty n,e=>by simp only [nkD] at e; cases e
 | _,_,_,.ref h,e=>by simp only [nkD] at e; cases e
 | _,_,_,.glo k,e=>by simp only [nkD] at e; cases e
 | _,_,_,.tup (ds:=ds) h r,e=>by
  simp only [nkD] at e
  obtain ⟨ks,e1,rfl⟩:=Option.map_eq_some_iff.mp e
  obtain ⟨l,p⟩:=RelDs.nkv r e1
  exact .tup h l p
 | _,_,_,.fzl h r,e=>by simp only [nkD] at e; cases e
 | _,_,_,.clo h,e=>by simp only [nkD] at e; cases e
theorem RelDs.nkv:∀ {ds:List D} {vs:List V} {ks:List NestedKey},RelDs g m H ds vs→nkDs ds=some ks→ks.length=vs.length∧∀(i:Nat) (k:NestedKey) (v:V),ks[i]?=some k→vs[i]?=some v→NKV g.K H k v
 | _,_,_,.nil,e=>by
  simp only [nkDs,Option.some.injEq] at e
  subst e
  exact ⟨rfl,fun i k v h=>by simp at h⟩
 | _,_,_,.cons (d:=d) (ds:=ds) h r,e=>by
  simp only [nkDs] at e
  obtain ⟨k,e1,e2⟩:=Option.bind_eq_some_iff.mp e
  obtain ⟨ks,e3,rfl⟩:=Option.map_eq_some_iff.mp e2
  obtain ⟨l,p⟩:=RelDs.nkv r e3
  have h1:=RelD.nkv h e1
  refine ⟨by simp [l],fun i k' v' q1 q2=>?_⟩
  cases i with
  | zero=>
   simp only [List.getElem?_cons_zero,Option.some.injEq] at q1 q2
   subst q1 q2
   exact h1
  | succ i=>
   simp only [List.getElem?_cons_succ] at q1 q2
   exact p i k' v' q1 q2
end
theorem zlB {d:D} {k:NestedKey} (e:nkK d=some k):nkD d=some k∧k.depth≤8∧∃ds,d=.tup ds:=by
 unfold nkK at e
 split at e
 ·obtain ⟨k',e1,e2⟩:=Option.bind_eq_some_iff.mp e
  split at e2
  ·rename_i hd
   cases e2
   exact ⟨e1,hd,_,rfl⟩
  ·cases e2
 ·cases e
theorem zkv {d:D} {v:V} {k:NestedKey} (rd:RelD g m H d v) (e:nkK d=some k):∃b,v=.ref b∧NKV g.K H k (.ref b)∧k.depth≤8:=by
 obtain ⟨e1,e2,ds,rfl⟩:=zlB e
 have z:=rd.nkv e1
 cases rd with
 | tup h r=>exact ⟨_,rfl,z,e2⟩
theorem RelN.ks:∀ {kvs:List (D×D)} {xs:List (NestedKey×Addr×V)},RelN g m H kvs xs→∀x∈xs,NKV g.K H x.1 (.ref x.2.1)∧x.1.depth≤8
 | _,_,.nil,x,hx=>by cases hx
 | _,_,.cons e hi h r,x,hx=>by
  rcases List.mem_cons.mp hx with rfl | hx
  ·obtain ⟨b,e1,e2,e3⟩:=zkv hi e
   cases e1
   exact ⟨e2,e3⟩
  ·exact RelN.ks r x hx
theorem RelN.val (k:NestedKey):∀ {kvs:List (D×D)} {xs:List (NestedKey×Addr×V)},RelN g m H kvs xs→(vlN kvs k=none∧valN xs k=none)∨∃d v,vlN kvs k=some d∧valN xs k=some v∧RelD g m H d v
 | _,_,.nil=>.inl ⟨rfl,rfl⟩
 | (i,d)::kvs,(j,b,v)::xs,.cons e hi h r=>by
  unfold vlN valN
  rw [List.find?_cons,List.find?_cons]
  by_cases q:j=k
  ·have q1:decide (nkK i=some k)=true:=decide_eq_true (by rw [e,q])
   simp only [q1,q,decide_true,Option.map_some]
   exact .inr ⟨d,v,rfl,rfl,h⟩
  ·have q1:decide (nkK i=some k)=false:=decide_eq_false (by rw [e]; exact fun z=>q (Option.some.inj z))
   simp only [q1,q,decide_false]
   exact RelN.val k r
theorem RelN.snoc {i d:D} {k:NestedKey} {b:Addr} {v:V} (e:nkK i=some k) (hi:RelD g m H i (.ref b)) (rd:RelD g m H d v):∀ {kvs:List (D×D)} {xs:List (NestedKey×Addr×V)},RelN g m H kvs xs→RelN g m H (kvs++[(i,d)]) (xs++[(k,b,v)])
 | _,_,.nil=>.cons e hi rd .nil
 | _,_,.cons e' hi' h r=>.cons e' hi' h (RelN.snoc e hi rd r)
theorem RelN.mapPut {d:D} {k:NestedKey} {v:V} (rd:RelD g m H d v):∀ {kvs:List (D×D)} {xs:List (NestedKey×Addr×V)},RelN g m H kvs xs→RelN g m H (kvs.map fun p=>if nkK p.1=some k then (p.1,d) else p) (xs.map fun x=>if x.1=k then (x.1,x.2.1,v) else x)
 | _,_,.nil=>.nil
 | (i,d')::kvs,(j,b,v')::xs,.cons e hi h r=>by
  rw [List.map_cons,List.map_cons]
  by_cases q:j=k
  ·rw [if_pos (show nkK (i,d').1=some k by rw [← q]; exact e),if_pos (show (j,b,v').1=k from q)]
   exact .cons e hi rd (RelN.mapPut rd r)
  ·rw [if_neg (show ¬ nkK (i,d').1=some k from fun z=>q (Option.some.inj (e.symm.trans z))),if_neg (show ¬ (j,b,v').1=k from q)]
   exact .cons e hi h (RelN.mapPut rd r)
theorem RelN.put {i d:D} {k:NestedKey} {b:Addr} {v:V} {kvs:List (D×D)} {xs:List (NestedKey×Addr×V)} (r:RelN g m H kvs xs) (e:nkK i=some k) (hi:RelD g m H i (.ref b)) (rd:RelD g m H d v):RelN g m H (ptN kvs i k d) (zev xs k b v):=by
 unfold ptN zev
 have q:(vlN kvs k).isSome=(valN xs k).isSome:=by
  rcases r.val k with ⟨h1,h2⟩ | ⟨d',v',h1,h2,_⟩<;>rw [h1,h2]<;>rfl
 rw [q]
 split
 ·exact r.mapPut rd
 ·exact r.snoc e hi rd
theorem RelN.length:∀ {kvs:List (D×D)} {xs:List (NestedKey×Addr×V)},RelN g m H kvs xs→kvs.length=xs.length
 | _,_,.nil=>rfl
 | _,_,.cons _ _ _ r=>congrArg (·+1) (RelN.length r)
theorem zg7 {k:NestedKey}:∀ {xs:List (NestedKey×Addr×V)},valN xs k=none→k∉xs.map (·.1)
 | [],_=>by simp
 | (j,b,v)::xs,h=>by
  unfold valN at h
  rw [List.find?_cons] at h
  by_cases q:j=k
  ·simp only [q,decide_true,Option.map_some] at h
   cases h
  ·simp only [q,decide_false] at h
   rw [List.map_cons,List.mem_cons,not_or]
   exact ⟨fun z=>q z.symm,zg7 h⟩
theorem zlD {k:NestedKey} {b:Addr} {v:V} {xs:List (NestedKey×Addr×V)} (h:(xs.map (·.1)).Nodup):((zev xs k b v).map (·.1)).Nodup:=by
 unfold zev
 split
 ·have e:(xs.map fun x=>if x.1=k then (x.1,x.2.1,v) else x).map (·.1)=xs.map (·.1):=by
   rw [List.map_map]
   refine List.map_congr_left fun x _=>?_
   show (if x.1=k then (x.1,x.2.1,v) else x).1=x.1
   split<;>rfl
  rw [e]
  exact h
 ·rename_i hn
  have hn:valN xs k=none:=by
   cases q:valN xs k with
   | none=>rfl
   | some z=>rw [q] at hn; exact absurd rfl hn
  rw [List.map_append,List.nodup_append]
  refine ⟨h,by simp,fun x hx y hy=>?_⟩
  rw [List.map_cons,List.map_nil,List.mem_singleton] at hy
  subst hy
  exact fun z=>zg7 hn (z ▸ hx)
theorem HRel.ndAt (h:HRel g m L H) {kvs:List (D×D)} (e:L[n]?=some (.nd kvs)):∃a xs,m[n]?=some a∧H a=some (DN g.w a xs)∧NdOk g.K H a xs∧RelN g m H kvs xs:=by
 obtain ⟨a,h1,_,xs,h2,⟨h3,h5⟩,h6⟩:=h.addr e
 exact ⟨a,xs,h1,h2,⟨h3,h5,h6.ks⟩,h6⟩
end
section
variable {g:G} {T:Tb} {cf:Cf} {dt:Nat→FuncData} {C:Nat→List D→M D} {k:Nat} {X:Cx} {W:WX} {tg:Expr}
variable {a b i o e d:Ex} {ea eb ei eo ed:Expr} {pos apos p:Pos} {vs:List Nat}
def zrT (w:World) (K:PySem.W.Frag):TSet:=fun o i v H Q=>∃a H',o=.ref a∧NPut w K H a i v H'∧Q H'
theorem zo4 (hu:X.A.units+65 < cLine):PSet X (zrT X.w X.K):=by
 intro pins s σ H o i v ov iv u Q I ro ri rv h
 obtain ⟨a,H',eo,g,q⟩:=h
 subst eo
 cases (show ov=Value.ref a from ro)
 exact zpo hu I g ri rv fun s' I'=>⟨H',I',q⟩
theorem Ev.write_nd {m:List Addr} {H:Hp} {w:World} {a:Addr} {xs:List (NestedKey×Addr×V)} {ho:HO} (h:H a=some (DN w a xs)):Ev m H m (upd H a ho):=Ev.write fun o z=>by rw [h] at z; cases z; exact zpq
theorem zqh (c:CxOk g T cf dt C k X W) (hn:zbc ei=true) (ho:PE X eo (tM g W (evE T C o))) (hi:PE X ei (tM g W (evE T C i))):PG X (.Subscript eo ei pos) (tMG g vs (puT T C (.nsub o i))):=by
 refine ziA (pg_sub ho hi (zo4 c.hu) (fun v=>by
   rw [arm_assign_Subscript]
   cases ei<;>first | rfl | cases hn)) fun v σ H Q ⟨m,L, ρ,d,hr,lr,rd,po⟩=>?_
 refine zda hr lr ((Post.bind (R:=RD g) po).imp fun x H1 ⟨m1,L1,dx,e1,hr1,rx,po1⟩=>?_)
 refine zda hr1 (lr.mono e1) ((Post.bind (R:=RD g) po1).imp fun y H2 ⟨m2,L2,dy,e2,hr2,ry,po2⟩=>?_)
 have rx2:=rx.mono e2
 have rd2:=(rd.mono e1).mono e2
 unfold zl0 at po2
 have gw:=c.lk.gw
 have gK:=c.K
 cases rx2 with
 | @ref nn p hm=>
  cases q0:nkK dy with
  | none=>simp only [q0] at po2; exact po2.elim
  | some ky=>
   obtain ⟨b,rfl,nk,kd⟩:=zkv ry q0
   simp only [q0] at po2
   split at po2
   ·rename_i kvs q
    split at po2
    ·rename_i q2
     obtain ⟨a',xs,h1,h2,h3,h4⟩:=hr2.ndAt q
     rw [hm] at h1
     cases h1
     have hl:xs.length < sizeLine:=by
      rw [← h4.length,zbB]
      exact of_decide_eq_true q2
     have ev:=Ev.write_nd (m:=m2) (ho:=DN g.w p (zev xs ky b v)) h2
     have hl2:(zev xs ky b v).length≤sizeLine:=by have:=zjX (xs:=xs) (k:=ky) (b:=b) (v:=v); omega
     refine ⟨p,upd H2 p (DN g.w p (zev xs ky b v)),rfl, ?_, ?_⟩
     ·rw [← gw,gK]
      exact ⟨ky,b,rfl,nk,kd,.inl ⟨xs,h2,h3,rfl⟩⟩
     ·exact po2.atE (v:=σ) ev (hr2.set hm ev ⟨_,upd_same,⟨zlD h3.nd,hl2⟩,(h4.put q0 ry rd2).mono ev⟩) ⟨((lr.mono e1).mono e2).mono ev,FrS.refl _ _⟩
    ·exact po2.elim
   ·rename_i q
    obtain ⟨a',ws,h1,h2,h3⟩:=hr2.dctAt q
    rw [hm] at h1
    cases h1
    cases h3
    have ev:=Ev.write_dct (m:=m2) (ho:=DN g.w p [(ky,b,v)]) h2
    refine ⟨p,upd H2 p (DN g.w p [(ky,b,v)]),rfl, ?_, ?_⟩
    ·rw [← gw,gK]
     exact ⟨ky,b,rfl,nk,kd,.inr ⟨h2,rfl⟩⟩
    ·exact po2.atE (v:=σ) ev (hr2.set hm ev ⟨_,upd_same,⟨by simp,by simp; rw [zbB]; decide⟩,(RelN.cons q0 ry rd2 .nil).mono ev⟩) ⟨((lr.mono e1).mono e2).mono ev,FrS.refl _ _⟩
   ·exact po2.elim
 | _=>exact po2.elim
end
end Mi
end
section
set_option maxHeartbeats 4000000
namespace Mi
open PySem PySem.Spec PyProof.Rows L2
theorem zlQ {X:Cx} {i:Nat} {y:Str} {py:Pos} {kx vx tg iter:Expr} {ifs:List Expr} {scope:Scope} {own:List (Str×Nat)} {pos spos:Pos} {wi:TI} {g:TG} {tt:TT} {tk tv:TE} (hc:X.calm=true) (hN:X.N.Nodup) (hy:X.N[i]?=some y) (hyl:X.env.scope.names.lookup y=some .local)
  (hsw:swapsWith (.DictComp kx vx [⟨tg,iter,ifs,0⟩] scope pos) (some (.Name y py)) spos.line X.env=pure true) (hi:PI X tg iter wi) (ok:BlkOk X.N X.env.scope scope own)
  (hg:∀(s:Shared) (H:Hp) (C:Addr) (cl:List (Str×Addr)) (fp:List Addr),PG (X.blk s H scope (compEnvC scope cl C X.env) fp) tg g) (ht:∀(s:Shared) (H:Hp) (C:Addr) (cl:List (Str×Addr)) (fp:List Addr),PTs (X.blk s H scope (compEnvC scope cl C X.env) fp) ifs tt)
  (hk:∀(s:Shared) (H:Hp) (C:Addr) (cl:List (Str×Addr)) (fp:List Addr),PE (X.blk s H scope (compEnvC scope cl C X.env) fp) kx tk)
  (he:∀(s:Shared) (H:Hp) (C:Addr) (cl:List (Str×Addr)) (fp:List Addr),PE (X.blk s H scope (compEnvC scope cl C X.env) fp) vx tv) (hs:∀x,foldedSetIterable iter X.env x=pure x:=by intro _; rfl):
  PS X (.Assign [.Name y py] (.DictComp kx vx [⟨tg,iter,ifs,0⟩] scope pos) spos) (tAsg (tDc wi g tt tk tv (own.map (·.2))) (gName i)):=by
 refine ⟨fun pins s σ H D I h=>?_⟩
 rw [exec_Assign_Name_used _ _ _ _ hsw]
 refine wpAny_bind (wpAny_standAt (wpAny_bind ?_))
 show wpAny _ X.A (do let _ ← comprehension (.DictComp kx vx [⟨tg,iter,ifs,0⟩] scope pos) scope X.env (firstIterPos [⟨tg,iter,ifs,0⟩] pos) newDict false (eval iter X.env) (some (assign (.Name y py) X.env))) _ _ s
 have h:tDc wi g tt tk tv (own.map (·.2)) σ H (fun x H1=>gName i x σ H1 D.nx):=h
 refine wpAny_bind (thn (dc_core (Qf:=fun _ s'=>SP X pins D .next s') hc hN I hi ok hg ht hk he hs h fun L C s' m H' I' q hn f=>?_) fun _ s' hq=>wpAny_pure (wpAny_pure hq))
 show wpAny _ _ (assign (.Name y py) X.env (.ref L)) _ _ _
 refine wpAny_assign_Name (store_ok2 (v:=V.ref L) I' hN hy (.inl hyl) rfl (fun s2 I2 ⟨a,sb,ha⟩=>?_) (.inr hyl))
 obtain ⟨f0,f1,f2,f3,f4,f5⟩:=f
 have haC:C≠a:=by
  rcases ha with z | z
  ·rw [z]; exact f1
  ·exact fun e=>f4 y a z e.symm
 refine ⟨m,hn.sameBut sb haC,fun h3 sb3=>?_⟩
 exact ⟨_,H',I2.turned (t':=s2.toks) (fun b o hb e=>(sb3.2 b hb).trans e) f0 f1 f3 f4 f5,q⟩
section
variable {g:G} {T:Tb} {cf:Cf} {dt:Nat→FuncData} {C:Nat→List D→M D} {k:Nat} {X:Cx} {W:WX} {wf:Nat}
variable {kx vx:Ex} {pos:Pos} {t:Tg} {vs:List Nat} {it:It} {oi:Ox}
theorem znD (c:CxOk g T cf dt C k X W) {ekx evx tg0 iter:Expr} {ifs:List Expr} {scope:Scope} {own:List (Str×Nat)} {y:Str} {j:Nat} {py lpos:Pos} (hy:X.N[j]?=some y) (hyl:X.env.scope.names.lookup y=some .local)
  (hsw:swapsWith (.DictComp ekx evx [⟨tg0,iter,ifs,0⟩] scope lpos) (some (.Name y py)) pos.line X.env=pure true) (hi:PI X tg0 iter (tMI g W (evI T C it))) (ok:BlkOk X.N X.env.scope scope own) (hv:own.map (·.2)=vs)
  (hg:∀(s:Shared) (H:Hp) (C':Addr) (cl:List (Str×Addr)) (fp:List Addr),PG (X.blk s H scope (compEnvC scope cl C' X.env) fp) tg0 (tMG g vs (puT T C t)))
  (ht:∀(s:Shared) (H:Hp) (C':Addr) (cl:List (Str×Addr)) (fp:List Addr),PTs (X.blk s H scope (compEnvC scope cl C' X.env) fp) ifs (tMT g WF (evT T C oi)))
  (hk:∀(s:Shared) (H:Hp) (C':Addr) (cl:List (Str×Addr)) (fp:List Addr),PE (X.blk s H scope (compEnvC scope cl C' X.env) fp) ekx (tM g WF (evE T C kx)))
  (he:∀(s:Shared) (H:Hp) (C':Addr) (cl:List (Str×Addr)) (fp:List Addr),PE (X.blk s H scope (compEnvC scope cl C' X.env) fp) evx (tM g WF (evE T C vx))) (hs:zaS iter=true):
  PS X (.Assign [.Name y py] (.DictComp ekx evx [⟨tg0,iter,ifs,0⟩] scope lpos) pos) (tMS g W (exS T C wf (.asg (.var j) (.dc kx vx t it oi vs)))):=by
 subst hv
 refine zaG (zlQ c.calm c.nd hy hyl hsw hi ok hg ht hk he (zax hs)) fun D σ H ⟨m,L, ρ,hr,lr,po⟩=>?_
 refine zpr ⟨m,L, ρ,hr,lr,(PFl.bindX (R:=RD g) lr po).imp fun v H1 ⟨m1,L1,d,e1,hr1,rd,po1⟩=>?_⟩
 exact po1.at hr1 ((lr.mono e1).set j rd)
end
end Mi
end
section
set_option maxHeartbeats 4000000
namespace Mi
open PySem PySem.Spec PyProof.Rows L2
theorem zap {x y:Str} (h:eqs x y=true):x=y:=of_decide_eq_true h
section
variable {g:G} {T:Tb} {cf:Cf} {dt:Nat→FuncData} {C:Nat→List D→M D} {k wf:Nat} {X:Cx} {W:WX} {tg:Expr}
variable {a b i o e d:Ex} {ea eb ei eo ed:Expr} {pos apos p:Pos} {es:Exs} {xs:List Expr}
theorem zoJ {sp:Pos} (c:CxOk g T cf dt C k X W) (ha:PE X ea (tM g W (evE T C a))):PA X [.Starred ea sp] (tMA g W (evEs T C (.star a))):=by
 refine zfl (StX.pa_star ha pa_nil rfl) fun σ H Q ⟨m,L, ρ,hr,lr,po⟩=>?_
 simp only [evEs] at po
 refine ⟨m,L, ρ,hr,lr,(Post.bind (R:=RD g) po).imp fun x H1 ⟨m1,L1,dx,e1,hr1,rx,po1⟩=>?_⟩
 cases q:seqD L1 dx with
 | none=>rw [q] at po1; exact po1.elim
 | some xs=>
  rw [q] at po1
  obtain ⟨l,vs,rfl,h1,h2⟩:=zbq hr1 rx q
  refine ⟨l,vs,rfl, ?_, ?_⟩
  ·rw [c.K]
   exact h1.symm
  ·show Q (vs++[]) H1
   rw [List.append_nil]
   exact po1.at hr1 h2
theorem rgV0 (j:Int):rgV 0 j=((List.range j.toNat).map fun i=>((i:Nat):Int)).map V.int:=by
 unfold rgV
 rw [List.map_map,Int.sub_zero]
 refine List.map_congr_left fun i _=>?_
 show V.int (0+(i:Nat))=V.int (i:Nat)
 rw [Int.zero_add]
theorem zpn (c:CxOk g T cf dt C k X W) {p1 p2:Pos} (g1:Gl X "list") (m1:cf.blt.contains "list"=true) (g2:Gl X "range") (m2:cf.blt.contains "range"=true) (hne:noStar ea=true) (ha:PE X ea (tM g W (evE T C a))):
  PE X (.Call (.Name "list" p1) [.Call (.Name "range" p2) [ea] [] q] [] pos) (tM g W (evE T C (.lrng a))):=by
 refine zaq (pe_listRg c.calm g1 (c.lk.blt _ m1) (prg_1 g2 (c.lk.blt _ m2) ha (zac hne)) rfl) fun σ H Q ⟨m,L, ρ,hr,lr,po⟩=>?_
 simp only [evE] at po
 refine ⟨m,L, ρ,hr,lr,(Post.bind (R:=RD g) po).imp fun v H1 ⟨m1,L1,d,e1,hr1,rd,po1⟩=>?_⟩
 cases rd with
 | int j=>
  simp only [zld] at po1
  split at po1
  ·rename_i q
   obtain ⟨q1,q2⟩:=Bool.and_eq_true_iff.mp q
   have q1:=of_decide_eq_true q1
   have q2:=of_decide_eq_true q2
   refine ⟨j,rfl,RgOk.of_le (by omega) (by omega) (by omega) (by omega), ?_⟩
   ·rw [rgV0]
    exact zbz hr1 (by have:=zgY (g:=g) (m:=m1) (H:=H1) ((List.range j.toNat).map fun i=>((i:Nat):Int)); rw [List.map_map] at this; exact this) po1
  ·exact po1.elim
 | _=>exact po1.elim
theorem zrx (ha:PE X ea (tM g W (evE T C a))):PE X ea (tM g W (evE T C (.unk a))):=by
 refine zaq ha fun σ H Q ⟨m,L, ρ,hr,lr,po⟩=>?_
 simp only [evE] at po
 refine ⟨m,L, ρ,hr,lr,(Post.bind (R:=RD g) po).imp fun v H1 ⟨m1,L1,d,e1,hr1,rd,po1⟩=>?_⟩
 refine po1.at hr1 ?_
 unfold unkD
 split
 ·rename_i nn
  split
  ·rename_i xs e
   obtain ⟨a2,ob,vs,h1,h2,h0,h3⟩:=hr1.ktpAt e
   cases rd with
   | ref hm=>
    rw [hm] at h1
    cases h1
    exact .tup (.inl (.inr ⟨ob,h2⟩)) h3
  ·exact rd
 ·exact rd
theorem zjT {x:Str} {j:Nat} {q:Pos} {to:TE} (ho:PET X eo to) (hbase:attributeBase eo "split" X.env (eval eo X.env)=eval eo X.env) (hline:(apos.endLine==pos.line)=true):
  PET X (.Call (.Attribute eo "split" apos) [.Constant (.str x) j q] [] pos) (fun σ H Q=>to σ H fun v H1=>∃z,v=.str z∧(x.length==0)=false∧z.length+2≤sizeLine∧rNewStrs (Txt.split z x) H1 Q):=by
 intro pins s σ H Q h0 I h
 refine wpAny_Call_method_late hbase rfl hline rfl (thn (ho pins s σ H _ h0 I h) fun v s1 ⟨y,H1,I1,r1,z,ey,hx,hz,q1⟩=>?_)
 subst ey
 obtain ⟨t,rfl⟩:=r1
 refine ⟨"str", "str.split",F.plainAttrs_str,F.slot_str_split,F.type_str_split,typeIs_str _ _ _,(fun _ e=>nomatch e), ?_⟩
 refine Calls.callWith_builtin rfl (Calls.evalArgs_plain ?_)
 refine Calls.spliced_cons (Calls.Constant_str (pos:=q) (k:=j) (Calls.spliced_nil ?_))
 exact mt_split pins _ σ H1 (.str z) [.str x] _ _ Q (I1.tok _) ⟨t,rfl⟩ (.cons ⟨_,rfl⟩ .nil) ⟨z,x,rfl,rfl,hx,hz,q1⟩
theorem zm0 {n:Nat} {x:Str} {te:TE} {p':Pos} (hN:X.N.Nodup) (hi:X.N[n]?=some x) (hx:L2.Loc X.env.scope x) (he:PET X ea te) (hs:swapsWith ea (some (.Name x p')) pos.line X.env=pure false) (hf:X.fn x=true∨X.env.scope.names.lookup x=some .local):
  PST X (.Assign [.Name x p'] ea pos) (tAsg te (gName n)):=by
 intro pins s σ H D h0 I h
 refine wpAny_Assign_Name (thn (he pins s σ H _ h0 I h) fun v s1 ⟨y,H1,I1,r1,q1⟩=>?_) hs
 exact store_ok I1 hN hi hx r1 (fun s2 I2=>⟨_,H1,I2,q1⟩) hf
theorem zlS {sts:List Stmt} {t t':TS} (h:PSsT X sts t) (q:∀D σ H,t' D σ H→t D σ H):PSsT X sts t':=fun pins s σ H D h0 I z=>h pins s σ H D h0 I (q D σ H z)
theorem zq1 (c:SxOk g T cf dt C k X W) {n:Nat} {x y z y' z' cc:Str} {px:Pos} {e:Expr} {sts:List Stmt} {b:Sms} (hi:X.N[n]?=some x) (hx:L2.Loc X.env.scope x) (hf:X.fn x=true∨X.env.scope.names.lookup x=some .local) (hs:swapsWith e (some (.Name x px)) pos.line X.env=pure false)
  (he:repE (repO e) y z y' z' cc e=true) (hn:zbV (repO e)=true) (ho:PE X (repO e) (tM g W (evE T C o))) (hr:PSs X sts (tMS g W (exSs T C wf b))):
  PSsT X (.Assign [.Name x px] e pos::sts) (tMS g W (exSs T C wf (.repR n o y z y' z' cc b))):=by
 unfold repE at he
 split at he
 ·rename_i o' r1 a1 u1 j1 l1 v1 j2 l2 p1 r2 a2 u2 j3 l3 v2 j4 l4 p2 r3 a3 w j5 l5 p3
  simp only [Bool.and_eq_true,Bool.not_eq_true'] at he
  obtain ⟨⟨⟨⟨⟨⟨⟨⟨⟨⟨⟨⟨e1,e2⟩,e3⟩,e4⟩,e5⟩,e6⟩,e7⟩,e8⟩,e9⟩,e10⟩,e11⟩,e12⟩,e13⟩:=he
  cases zap e1; cases zap e2; cases zap e3; cases zap e4; cases zap e5; cases zap e6; cases zap e7; cases zap e8
  have P1:=CwR.pet_replC (j:=j1) (k:=j2) (c0:=l1) (c1:=l2) (apos:=a1) (pos:=p1) ho e9 rfl (zcO hn _) e11
  have P2:=CwR.pet_replT (j:=j3) (k:=j4) (c0:=l3) (c1:=l4) (apos:=a2) (pos:=p2) P1 e10 rfl (zcO rfl _) e12
  have P3:=zjT (x:=cc) (j:=j5) (q:=l5) (apos:=a3) (pos:=p3) P2 (zcO rfl _) e13
  refine zlS (psst_cons (zm0 c.cx.nd hi hx P3 hs hf) (PSsT.of hr)) fun D σ H ⟨m,L, ρ,hr,lr,po⟩=>?_
  simp only [exSs] at po
  refine ⟨m,L, ρ,hr,lr,(PFl.bindX (R:=RD g) lr po).imp fun v H1 ⟨m1,L1,d,f1,hr1,rd,po1⟩=>?_⟩
  cases rd with
  | str s=>
   simp only at po1
   split at po1
   ·rename_i q
    simp only [repB,Bool.and_eq_true,decide_eq_true_eq] at q
    obtain ⟨⟨⟨c1,c2⟩,c3⟩,c4⟩:=q
    refine ⟨s,rfl,c1,_,rfl,c2,_,rfl,c4,okB c3,fun p hp=>?_⟩
    have hr2:HRel g (m1++[p]) (L1++[.lst ((Txt.split (repT s y z y' z') cc).map .str)]) (upd H1 p (.lst ((Txt.split (repT s y z y' z') cc).map V.str))):=hr1.push hp ⟨_,upd_same,zgQ _⟩
    refine ⟨m1++[p],_,_,hr2,((lr.mono f1).mono (Ev.push hp)).set n (.ref ?_),PFl.ev (Ev.push hp) po1⟩
    rw [← hr1.len]
    exact zao _ _
   ·exact po1.elim
  | _=>exact po1.elim
 ·cases he
end
end Mi
end
section
set_option maxHeartbeats 4000000
namespace PySem.W
open PySem PySem.Calls PyProof.Rows
end PySem.W
namespace Mi
open PySem PySem.Spec PyProof.Rows L2
section
variable {g:G} {T:Tb} {cf:Cf} {dt:Nat→FuncData} {C:Nat→List D→M D} {k wf:Nat} {X:Cx} {W:WX}
variable {a e:Ex} {ea:Expr} {pos:Pos} {es:Exs} {xs:List Expr} {it:It} {t:Tg} {oi:Ox} {vs:List Nat}
theorem zlR (c:CxOk g T cf dt C k X W) {t1:Tg} {it1:It} {oi1:Ox} {vs1:List Nat} {elt tg0 iter tg1 iter1:Expr} {ifs ifs1:List Expr} {scope:Scope} {own:List (Str×Nat)} {y:Str} {j:Nat} {py lpos:Pos} (hy:X.N[j]?=some y) (hyl:X.env.scope.names.lookup y=some .local)
  (hsw:swapsWith (.ListComp elt [⟨tg0,iter,ifs,0⟩,⟨tg1,iter1,ifs1,0⟩] scope lpos) (some (.Name y py)) pos.line X.env=pure true) (hi:PI X tg0 iter (tMI g W (evI T C it))) (ok:BlkOk X.N X.env.scope scope own) (hv:own.map (·.2)=vs) (hv1:∀i∈vs1,i∈vs)
  (hg:∀(s:Shared) (H:Hp) (C':Addr) (cl:List (Str×Addr)) (fp:List Addr),PG (X.blk s H scope (compEnvC scope cl C' X.env) fp) tg0 (tMG g vs (puT T C t)))
  (ht:∀(s:Shared) (H:Hp) (C':Addr) (cl:List (Str×Addr)) (fp:List Addr),PTs (X.blk s H scope (compEnvC scope cl C' X.env) fp) ifs (tMT g WF (evT T C oi)))
  (hi1:∀(s:Shared) (H:Hp) (C':Addr) (cl:List (Str×Addr)) (fp:List Addr),PI (X.blk s H scope (compEnvC scope cl C' X.env) fp) tg1 iter1 (tMI g WF (evI T C it1)))
  (hg1:∀(s:Shared) (H:Hp) (C':Addr) (cl:List (Str×Addr)) (fp:List Addr),PG (X.blk s H scope (compEnvC scope cl C' X.env) fp) tg1 (tMG g vs1 (puT T C t1)))
  (ht1:∀(s:Shared) (H:Hp) (C':Addr) (cl:List (Str×Addr)) (fp:List Addr),PTs (X.blk s H scope (compEnvC scope cl C' X.env) fp) ifs1 (tMT g WF (evT T C oi1)))
  (he:∀(s:Shared) (H:Hp) (C':Addr) (cl:List (Str×Addr)) (fp:List Addr),PE (X.blk s H scope (compEnvC scope cl C' X.env) fp) elt (tM g WF (evE T C e))) (hs:zaS iter=true) (hs1:zaS iter1=true):
  PS X (.Assign [.Name y py] (.ListComp elt [⟨tg0,iter,ifs,0⟩,⟨tg1,iter1,ifs1,0⟩] scope lpos) pos) (tMS g W (exS T C wf (.asg (.var j) (.lc2 e t it oi vs t1 it1 oi1 vs1)))):=by
 subst hv
 refine zaG (ps_setLc2 c.calm c.nd hy hyl hsw hi ok hv1 hg ht hi1 hg1 ht1 he (zax hs) (fun env=>zax hs1)) fun D σ H ⟨m,L, ρ,hr,lr,po⟩=>?_
 refine zl4 ⟨m,L, ρ,hr,lr,(PFl.bindX (R:=RD g) lr po).imp fun v H1 ⟨m1,L1,d,e1,hr1,rd,po1⟩=>?_⟩
 exact po1.at hr1 ((lr.mono e1).set j rd)
end
end Mi
end
section
set_option maxHeartbeats 4000000
namespace MiSc
open PySem PySem.Spec PyProof.Rows L2 PpSet
section
variable {P:Program} {w:World} {A:Around} {E:Value→Shared→Prop} {s:Shared} {a:Addr}
def TS (P:Program) (w:World) (h:Heap) (a:Addr) (acc:List Str):Prop:=MiSx.WSet P w h a (fun y=>acc.contains y) acc.eraseDups.length
theorem TS.move {h h':Heap} {acc:List Str} (t:TS P w h a acc) (k:∀o,h.get? a=some o→h'.get? a=some o):TS P w h' a acc:=MiSx.WSet.move t k
theorem TS.obj {h:Heap} {acc:List Str} (t:TS P w h a acc):∃o,h.get? a=some o∧∀v,o.data≠.cell v:=by
 obtain ⟨ob,xs,age,tb,e,ex,ed,_⟩:=t
 exact ⟨ob,e,fun v q=>by rw [ed] at q; cases q⟩
theorem TS.snoc {h:Heap} {acc:List Str} {y:Str} (t:MiSx.WSet P w h a (fun z=>acc.contains z||decide (z=y)) (if acc.contains y=true then acc.eraseDups.length else acc.eraseDups.length+1)):TS P w h a (acc++[y]):=by
 refine MiSx.WSet.same t (fun z=>?_) ?_
 ·by_cases e:z=y
  ·subst e
   simp
  ·rw [decide_eq_false e,Bool.or_false]
   simp only [List.contains_eq_mem,List.mem_append,List.mem_singleton,e,or_false]
 ·rw [MiZ.dups_snoc]
  split<;>simp
end
end MiSc
end
section
set_option maxHeartbeats 4000000
namespace MiSi
open PySem PySem.Spec PyProof.Rows L2 PpSet
section
variable {P:Program} {w:World} {A:Around} {E:Value→Shared→Prop} {s:Shared} {a:Addr}
def TN (w:World) (h:Heap) (a:Addr) (acc:List Int):Prop:=∃n,n≤acc.length∧SetR w h a (fun y=>decide (y∈acc)) n
theorem TN.move {h h':Heap} {acc:List Int} (t:TN w h a acc) (k:∀o,h.get? a=some o→h'.get? a=some o):TN w h' a acc:=by
 obtain ⟨n,z,t⟩:=t
 exact ⟨n,z,t.at k⟩
theorem TN.obj {h:Heap} {acc:List Int} (t:TN w h a acc):∃o,h.get? a=some o∧∀v,o.data≠.cell v:=by
 obtain ⟨n,_,ob,xs,age,tb,e,ex,ed,_⟩:=t
 exact ⟨ob,e,fun v q=>by rw [ed] at q; cases q⟩
theorem TN.fresh {h:Heap} {led:Bool} (hl:w.params.followText "set-order"=true∨led=true) (e:h.get? a=some { cls:=.type "set",dict:=none,data:=.set #[] 0 (.fresh 0 0 led) }):TN w h a []:=by
 refine ⟨0,Nat.le_refl _,_, #[],0,_,e,⟨rfl,rfl,rfl⟩,rfl,fun x hx=>by simp at hx,by simp,fun y=>by simp,by decide,rfl,rfl,List.Pairwise.nil, ?_⟩
 rcases hl with q | q
 ·exact .inl q
 ·exact .inr (by rw [q]; rfl)
end
end MiSi
end
section
set_option maxHeartbeats 4000000
namespace Mi
open PySem PySem.Spec PyProof.Rows L2
structure PSsA (X:Cx) (c:Code) (sts:List Stmt) (t:TS):Prop where
 run:∀(pins:List (Addr×Obj)) (s:Shared) (σ:L2.St) (H:Hp) (D:Ends),Inv X pins σ H s→t D σ H→_root_.PySem.wpAt (model X.prog X.w) X.A c (execs sts X.env) (SP X pins D) X.xe s
structure PSA (X:Cx) (c:Code) (st:Stmt) (t:TS):Prop where
 run:∀(pins:List (Addr×Obj)) (s:Shared) (σ:L2.St) (H:Hp) (D:Ends),Inv X pins σ H s→t D σ H→_root_.PySem.wpAt (model X.prog X.w) X.A c (exec st X.env) (SP X pins D) X.xe s
theorem PSA.of {X:Cx} {c:Code} {st:Stmt} {t:TS} (h:PS X st t):PSA X c st t:=⟨fun pins s σ H D I q=>_root_.PySem.wpAt_of_wpAny (h.run pins s σ H D I q)⟩
theorem PSsA.nil {X:Cx} {c:Code}:PSsA X c [] tNext:=⟨fun pins s σ H D I q=>_root_.PySem.wpAt_of_wpAny (pss_nil.run pins s σ H D I q)⟩
theorem PSsA.cons {X:Cx} {c:Code} {st:Stmt} {sts:List Stmt} {t u:TS} (h:PSA X c st t) (h':PSsA X c sts u):PSsA X c (st::sts) (fun D σ H=>t { D with nx:=fun σ1 H1=>u D σ1 H1 } σ H):=by
 refine ⟨fun pins s σ H D I q=>ks_wpAt_execs_cons ?_⟩
 refine _root_.PySem.wpAt_mono (h.run pins s σ H _ I q) (fun f s1 hf=>?_) fun _ _ z=>z
 cases f with
 | next=>
  obtain ⟨σ1,H1,I1,q1⟩:=hf
  exact h'.run pins s1 σ1 H1 D I1 q1
 | brk=>exact hf
 | cont=>exact hf
 | ret u=>exact hf
structure SupX (g:G) (cf:Cf) (X:Cx) (d:Nat) (f:Addr) (fd:FuncData) (slf:Str):Prop where
 blt:X.mg "super"=none
 gl:X.env.scope.names.lookup ("super":Str)=some .globalImplicit
 fr:X.env.scope.names.lookup ("__class__":Str)=some .free
 lc:X.env.scope.names.lookup slf=some .local
 n0:X.N[0]?=some slf
 cell:∃cc cl cld csl,X.env.cells.lookup ("__class__":Str)=some cc∧X.K.lookup cc=some ⟨cl,cld,.cell (some (.ref (g.cad d))),csl⟩
 func:X.env.func=some f
 here:∃oc od osl,X.K.lookup f=some ⟨oc,od,.func fd,osl⟩
 par:∃ar:Arg,(fd.params.posonlyargs++fd.params.args).head?=some ar∧ar.arg=slf
 code:∃c ccl cdd ccs,∃vs:Array Value,∃file tf,X.env.code=.ref c∧X.K.lookup c=some ⟨ccl,cdd,.fields vs,ccs⟩∧vs[2]?=some (.str file tf)∧((X.prog.main.file:Str)==file)=true
 top:(X.prog.main.scope.names.lookup ("super":Str)).isSome=false
 cls:∃cd,PySem.W.clsIn X.K (g.cad d)=some cd
theorem ziL:bootBuiltins "super"=some (.type "super"):=PyProof.Rows.Boot.super
theorem zjm {o:Expr} {m:Str} {apos pos:Pos} {es:List Expr} {kws:List Keyword} {ks:List Str} {env:Env} (hst:es.all noStar=true) (hkn:zat kws=some ks) (hfew:fewB es kws apos pos=true):
  eval (.Call (.Attribute o m apos) es kws pos) env=(do
    let ov ← attributeBase o m env (eval o env)
    standAt apos.atName
    let (f,first) ← holding [ov] (getMethod ov m (plainOf o env))
    callWith pos f first (backTo pos (starEach es env)) (backToKw pos (keywordEach kws env))):=by
 obtain ⟨k1,k2,k3⟩:=zdn (env:=env) pos hkn
 obtain ⟨f1,f2⟩:=Bool.and_eq_true_iff.mp hfew
 have hf:methodCallForm (es.length+kws.length) (backTo pos (starEach es env)) (backToKw pos (keywordEach kws env))=true:=by
  unfold methodCallForm
  rw [zdw pos hst,k1]
  have q:=of_decide_eq_true f1
  simp only [Bool.true_and,decide_eq_true_eq]
  split<;>omega
 rw [arm_eval_Call]
 refine congrArg _ (funext fun ov=>?_)
 rw [mcall_line hf f2]
section
variable {g:G} {T:Tb} {cf:Cf} {dt:Nat→FuncData} {C:Nat→List D→M D} {k:Nat} {X:Cx} {W:WX} {es kes:Exs} {xs:List Expr} {pos apos p0 p1:Pos} {body:List Stmt} {f:Addr} {fd:FuncData} {slf:Str}
theorem zjf (c:CxOk g T cf dt C k X W) {q f2:Addr} {sv:Value} {ks:List Nat} {kws:List Keyword} (hf:PySem.W.fnIn X.K f2=true) (hst:xs.all noStar=true) (hkn:zat kws=some (ks.map cf.an))
  (hx:xs=[]→es=.nil) (hkx:kws=[]→kes=.nil∧ks=[]) (ha:PA X xs (tMA g W (evEs T C es))) (hk:PK X kws (tMA g W (evEs T C kes))) {pins:List (Addr×Obj)} {σ:L2.St} {H:Hp} {s:Shared} {Q:VK} (I:Inv X ((q,PySem.W.methodObj (.ref f2) sv)::pins) σ H s)
  {Φ:List V→List V→Hp→Prop} (zz:tMA g W (evEs T C es) σ H fun vs H2=>tMA g W (evEs T C kes) σ H2 fun ws H3=>Φ vs ws H3)
  (fin:∀(us uz:List Value) (vs ws:List V) (s3:Shared) (H3:Hp),Vals vs us→Vals ws uz→Inv X ((q,PySem.W.methodObj (.ref f2) sv)::pins) σ H3 s3→Φ vs ws H3→wpAny (model X.prog X.w) X.A (call (.ref q) us ((ks.map g.an).zip uz)) (EP X pins σ Q) X.xe s3):
  wpAny (model X.prog X.w) X.A (callWith pos (.ref q) [] (backTo pos (starEach xs X.env)) (backToKw pos (keywordEach kws X.env))) (EP X pins σ Q) X.xe s:=by
 obtain ⟨k1,k2,k3⟩:=zdn (env:=X.env) pos hkn
 have mp:∀ {H':Hp} {s':Shared},Inv X ((q,PySem.W.methodObj (.ref f2) sv)::pins) σ H' s'→PySem.W.MethP X.K q f2 sv s'.heap:=fun J=>⟨ClX.pin_at J,J.kIn⟩
 have nilA:∀ {H:Hp} {R:List V→Hp→Prop},tMA g W (evEs T C .nil) σ H R→R [] H:=fun {H R} ⟨m,L, ρ,hr,lr,po⟩=>po.at (L:=L) (v:=[]) hr .nil
 cases kws with
 | nil=>
  obtain ⟨rfl,rfl⟩:=hkx rfl
  cases xs with
  | nil=>
   have e0:=hx rfl
   subst e0
   exact PySem.W.callWith_M0 (mp I) hf (fin [] [] [] [] s H .nil .nil I (nilA (nilA zz)))
  | cons x xs=>
   rw [List.all_cons,Bool.and_eq_true] at hst
   have hpl:=zar (env:=X.env) pos hst.2
   rw [zac hst.1]
   refine PySem.W.callWith_of (by show ((false||(backTo pos (starEach xs X.env)).any (·.1))||false)=false; rw [hpl]; rfl) (PySem.W.keeps_M (self:=sv) hf) (Calls.evalArgs_plain ?_)
   have z:=ha.run pos _ s σ H _ I zz
   rw [zac hst.1] at z
   exact thn z fun us s2 ⟨vs,H2,I2,r,q2⟩=>⟨mp I2,fin us [] vs [] s2 H2 r .nil I2 (nilA q2)⟩
 | cons kw kws=>
  cases xs with
  | nil=>
   have e0:=hx rfl
   subst e0
   refine PySem.W.callWith_of (by show (false||_)=false; rw [k3]; rfl) (PySem.W.keeps_M (self:=sv) hf) (evalArgs_kw2_nil k1 ?_)
   refine thn (hk.run pos _ s σ H _ I (nilA zz)) fun ws s2 ⟨zs,H2,I2,rz,q2⟩=>⟨mp I2, ?_⟩
   rw [k2, ← c.lk.an]
   exact fin [] ws [] zs s2 H2 .nil rz I2 q2
  | cons x xs=>
   have hst':=hst
   rw [List.all_cons,Bool.and_eq_true] at hst
   refine PySem.W.callWith_of (by rw [k3,zar pos hst']; rfl) (PySem.W.keeps_M (self:=sv) hf) (evalArgs_kw2 k1 (thn (ha.run pos _ s σ H _ I zz) fun us s2 ⟨vs,H2,I2,r,q2⟩=>?_) (zac hst.1))
   refine thn (hk.run pos _ s2 σ H2 _ I2 q2) fun ws s3 ⟨zs,H3,I3,rz,q3⟩=>⟨mp I3, ?_⟩
   rw [k2, ← c.lk.an]
   exact fin us ws vs zs s3 H3 r rz I3 q3
theorem zjW (c:CxOk g T cf dt C k X W) {d n:Nat} {ks:List Nat} {kws:List Keyword} (S:SupX g cf X d f fd slf) (hncl:(cf.an n==("__class__":Str))=false) (hst:xs.all noStar=true) (hks:ks.Nodup) (hkn:zat kws=some (ks.map cf.an)) (hfew:fewB xs kws apos pos=true)
  (hx:xs=[]→es=.nil) (hkx:kws=[]→kes=.nil∧ks=[]) (ha:PA X xs (tMA g W (evEs T C es))) (hk:PK X kws (tMA g W (evEs T C kes))) {pins:List (Addr×Obj)} {σ:L2.St} {H:Hp} {s:Shared} {Q:VK} (I:Inv X pins σ H s)
  (h:tM g W (supD T C d n es ks kes) σ H Q):
  _root_.PySem.wpAt (model X.prog X.w) X.A (.func body X.env) (eval (.Call (.Attribute (.Call (.Name "super" p0) [] [] p1) (cf.an n) apos) xs kws pos) X.env) (EP X pins σ Q) X.xe s:=by
 obtain ⟨m,L, ρ,hr,lr,po⟩:=h
 unfold supD at po
 cases e0:ρ[0]? with
 | none=>simp only [e0] at po; exact po.elim
 | some o1=>
  cases o1 with
  | none=>simp only [e0] at po; exact po.elim
  | some sd=>
   simp only [e0] at po
   cases e1:zdf L sd with
   | none=>simp only [e1] at po; exact po.elim
   | some q=>
    obtain ⟨cc,fs⟩:=q
    simp only [e1] at po
    cases e2:T.sup cc d n with
    | none=>simp only [e2] at po; exact po.elim
    | some f2=>
     simp only [e2] at po
     obtain ⟨v,hv,rd⟩:=lr.get 0 sd e0
     obtain ⟨nn,p,dx,vfs,rfl,rfl,hm,hL,hH,rf⟩:=zhb hr rd e1
     have so:=c.lk.sup cc d n f2 e2
     obtain ⟨mA,O,_,_,_,_⟩:=ins_get I.hok hH
     obtain ⟨od,J,_⟩:=O.look
     obtain ⟨mm,hns,hl⟩:=I.loc
     obtain ⟨u,ru,lk⟩:=hl 0 slf _ S.n0 hv (.inl S.lc)
     obtain rfl:u=Value.ref p:=ru
     have hself:mm slf=some (.ref p):=by
      rcases lk with ⟨_,z⟩ | ⟨z,_⟩
      ·exact z
      ·have z':X.env.scope.names.lookup slf=some .cell∨X.env.scope.names.lookup slf=some .free:=z
       rw [S.lc] at z'
       rcases z' with z' | z'<;>cases z'
     obtain ⟨ccl,w1,w2,w3,hcl,hcc⟩:=S.cell
     obtain ⟨cdD,hcd⟩:=S.cls
     obtain ⟨oD,hD1,hD2⟩:∃oD,s.heap.get? (g.cad d)=some oD∧oD.data=.cls cdD:=by
      unfold PySem.W.clsIn at hcd
      split at hcd
      ·rename_i ho
       cases hcd
       exact ⟨_,I.kIn _ _ ho,rfl⟩
      ·cases hcd
     obtain ⟨oc,odd,osl,hf⟩:=S.here
     obtain ⟨ar,har,hself2⟩:=S.par
     obtain ⟨ca,x1,x2,x3,cvs,file,tf,hco,hcv,hv2,hfile⟩:=S.code
     obtain ⟨mb,b1,b2⟩:=I.mod.blt
     rw [zjm hst hkn hfew]
     refine _root_.PySem.wpAt_bind (_root_.PySem.wpAt_mono (ks_wpAt_super_base (Q:=fun ov s1=>wpAny (model X.prog X.w) X.A (standAt apos.atName >>= fun _=>holding [ov] (getMethod ov (cf.an n) (plainOf (.Call (.Name "super" p0) [] [] p1) X.env)) >>= fun ff=>callWith pos ff.1 ff.2 (backTo pos (starEach xs X.env)) (backToKw pos (keywordEach kws X.env))) (EP X pins σ Q) X.xe s1)
       S.gl S.fr hncl S.func (I.kIn _ _ hf) rfl har hco (I.kIn _ _ hcv) rfl hv2 hfile S.top ?_) (fun ov s1 h1=>_root_.PySem.wpAt_of_wpAny h1) fun _ _ z=>z)
     refine PySem.W.ks_loadName_global I.ok.kind S.gl (Calls.loadGlobal_builtin (by rw [I.ok.glob]; exact I.mod.glob.keeps I.bk) S.blt (by rw [I.ok.blt]; exact b1.keeps I.bk) ((b2 "super" (by decide)).trans ziL) ⟨rfl, ?_⟩)
     refine wpAny_loadName_free I.ok.kind S.fr hcl ⟨_,I.kIn _ _ hcc,rfl⟩ ?_
     rw [hself2]
     refine wpAny_loadName_local I.ok.kind S.lc hns hself ?_
     refine ks_wpAny_isType_cls hD1 hD2 ⟨rfl, ?_⟩
     obtain ⟨hh,gs,dr,tk,oss⟩:=s
     refine ks_wpAny_call_super hD1 hD2 J.at_ J.cls (fun cx e=>?_) (PySem.W.looks_mroIn I.kIn so.sub) (fun h' e' kp=>?_)
     ·have:=J.no
      unfold PySem.W.notCls at this
      rw [e] at this
      exact Bool.noConfusion this
     ·have I1:Inv X pins σ H ⟨h',gs,dr,tk,oss⟩:=I.kept (t':=tk) kp
      refine wpAny_bind (wpAny_standAt (wpAny_bind (wpAny_holding ?_)))
      cases hc1:PySem.W.clsIn X.K (g.cad cc) with
      | none=>
       have z:=so.sup
       unfold PySem.W.ks_superIn at z
       rw [hc1] at z
       cases z
      | some cd=>
       have hm2:=so.sup
       unfold PySem.W.ks_superIn at hm2
       rw [hc1] at hm2
       obtain ⟨of,hof,hofc⟩:∃of,h'.get? (g.gad f2)=some of∧of.cls=.type "function":=by
        have ht':(X.K.lookup (g.gad f2)).map (·.cls)=some (.type "function"):=so.ty
        cases z:X.K.lookup (g.gad f2) with
        | none=>rw [z] at ht'; cases ht'
        | some of=>rw [z] at ht'; exact ⟨of,I1.kIn _ _ z,Option.some.inj ht'⟩
       have han:g.an n=cf.an n:=by rw [c.lk.an]
       rw [han] at hm2
       refine ks_wpAny_getMethod_super e' (PySem.W.looks_opaque I1.kIn so.opq) (l₀:=cd.mro) (fun A Q E s k q=>wpAny_bind ((PySem.W.looks_clsIn I1.kIn hc1) A _ E s k (wpAny_pure q))) rfl I1.kIn hm2 hof hofc (PySem.W.ks_ne I.kIn J hc1) hncl ?_
       have I2:Inv X ((h'.objs.size,PySem.W.methodObj (.ref (g.gad f2)) (.ref p))::pins) σ H ⟨h'.push (PySem.W.methodObj (.ref (g.gad f2)) (.ref p)),gs,dr,tk+1,oss⟩:=
        ClX.pin_new I1 (fun _ _ z=>Heap.get?_push_of_some _ z) (Nat.le_refl _) (Heap.get?_push_size h' rfl) fun v z=>nomatch z
       have me':∀ {m2:List Addr} {H2:Hp},Ev m H m2 H2→RelD g m2 H2 (.ref nn) (.ref p):=fun e=>.ref (e.get hm)
       have zz:tMA g W (evEs T C es) σ H fun vs H2=>tMA g W (evEs T C kes) σ H2 fun ws H3=>∃m2 L2 ds zs,HRel g m2 L2 H3∧RelD g m2 H3 (.ref nn) (.ref p)∧RelDs g m2 H3 ds vs∧RelDs g m2 H3 zs ws∧Post g (fun c d H'=>W c d σ H') (RD g) m2 H3 (zaI T C f2 (.ref nn::ds) ks zs L2) Q:=by
        refine ⟨m,L, ρ,hr,lr,(Post.bind (R:=RDs g) po).imp fun vs H2 ⟨m2,L2,ds,e2,hr2,rds,po2⟩=>?_⟩
        exact ⟨m2,L2, ρ,hr2,lr.mono e2,(Post.bind (R:=RDs g) po2).imp fun ws H3 ⟨m3,L3,zs,e3,hr3,rzs,po3⟩=>⟨m3,L3,ds,zs,hr3,me' (e2.trans e3),rds.mono e3,rzs,po3⟩⟩
       refine zjf c so.fn hst hkn hx hkx ha hk I2 zz fun us uz vs ws s3 H3 r rz I3 ⟨m3,L3,ds,zs,hr3,rme,rds,rzs,po3⟩=>?_
       cases ef:T.fn f2 with
       | none=>
        unfold zaI at po3
        rw [ef] at po3
        exact po3.elim
       | some fd2=>
        have z:wpAny (model X.prog X.w) X.A (call (.ref h'.objs.size) us ((ks.map g.an).zip uz)) (EP X ((h'.objs.size,PySem.W.methodObj (.ref (g.gad f2)) (.ref p))::pins) σ Q) X.xe s3:=by
         refine wpAny_call (PySem.W.method_call (ClX.pin_at I3) (codeAny_mono ((c.fns f2 fd2 ef).run X.A X.stack s3 H3 (.ref p::us) uz (.ref p::vs) ws (.ref nn::ds) zs ks m3 L3 Q (fun c d H'=>W c d σ H') (c.room.mono (Nat.le_succ _)) I3.env0 hks hr3 (.cons rme rds) (.cons rfl r) rzs rz po3) fun r s' hq=>?_))
         cases r with
         | error er=>exact c.tk.call I3 (fun _ _ _ z=>z) hq
         | ok fl=>
          cases fl with
          | ret u=>exact I3.after hq
          | next=>exact False.elim hq
          | brk=>exact False.elim hq
          | cont=>exact False.elim hq
        exact thn z fun _ _ y=>ClX.unpinE y
variable {a b:Ex} {eb:Expr} {wf:Nat} {rest:List Expr} {p2 p3:Pos} {st:Stmt} {sts:List Stmt} {s1:Sm} {b1:Sms}
theorem zqS (c:CxOk g T cf dt C k X W) {d n:Nat} {ks:List Nat} {kws:List Keyword} (S:SupX g cf X d f fd slf) (hncl:(cf.an n==("__class__":Str))=false) (hst:xs.all noStar=true) (hks:ks.Nodup) (hkn:zat kws=some (ks.map cf.an)) (hfew:fewB xs kws apos pos=true)
  (hx:xs=[]→es=.nil) (hkx:kws=[]→kes=.nil∧ks=[]) (ha:PA X xs (tMA g W (evEs T C es))) (hk:PK X kws (tMA g W (evEs T C kes))) (hi:interactive X.env=false):
  PSA X (.func body X.env) (.Expr (.Call (.Attribute (.Call (.Name "super" p0) [] [] p1) (cf.an n) apos) xs kws pos) p2) (tMS g W (exS T C wf (.supE d n es ks kes))):=by
 refine ⟨fun pins s σ H D I ⟨m,L, ρ,hr,lr,po⟩=>ks_wpAt_Expr_any ?_ hi rfl⟩
 have z:tM g W (supD T C d n es ks kes) σ H fun v H1=>D.nx σ H1:=⟨m,L, ρ,hr,lr,(PFl.bindX (R:=RD g) lr po).imp fun v H1 ⟨m1,L1,d,e1,hr1,rd,po1⟩=>po1.at hr1 (lr.mono e1)⟩
 exact _root_.PySem.wpAt_mono (zjW c S hncl hst hks hkn hfew hx hkx ha hk I z) (fun u s1 ⟨v,H1,I1,r1,q⟩=>⟨σ,H1,I1,q⟩) fun _ _ z=>z
theorem zps (c:CxOk g T cf dt C k X W) {d n:Nat} {ks:List Nat} {kws:List Keyword} (S:SupX g cf X d f fd slf) (hncl:(cf.an n==("__class__":Str))=false) (hst:xs.all noStar=true) (hks:ks.Nodup) (hkn:zat kws=some (ks.map cf.an)) (hfew:fewB xs kws apos pos=true)
  (hx:xs=[]→es=.nil) (hkx:kws=[]→kes=.nil∧ks=[]) (ha:PA X xs (tMA g W (evEs T C es))) (hk:PK X kws (tMA g W (evEs T C kes))) (hb:PE X (.BoolOp .Or (eb::rest) p3) (tM g W (evE T C b))):
  PSA X (.func body X.env) (.Return (some (.BoolOp .Or (.Call (.Attribute (.Call (.Name "super" p0) [] [] p1) (cf.an n) apos) xs kws pos::eb::rest) p3)) p2) (tMS g W (exS T C wf (.supR d n es ks kes b))):=by
 refine ⟨fun pins s σ H D I ⟨m,L, ρ,hr,lr,po⟩=>ks_wpAt_Return_some ?_⟩
 have z:tM g W (supD T C d n es ks kes) σ H fun v H1=>∃c',TruV X.K v H1 c'∧if c'=true then D.rt v H1 else tM g W (evE T C b) σ H1 D.rt:=⟨m,L, ρ,hr,lr,(PFl.bindX (R:=RD g) lr po).imp fun v H1 ⟨m1,L1,dv,e1,hr1,rd,po1⟩=>by
   cases q:truD L1 dv with
   | none=>simp only [q] at po1; exact po1.elim
   | some b'=>
     refine ⟨b',by rw [c.K]; exact zfm hr1 rd q, ?_⟩
     cases b' with
     | true=>
       simp only [q] at po1
       exact po1 m1 H1 (Ev.refl _ _) hr1 v rd
     | false=>
       simp only [q] at po1
       exact ⟨m1,L1, ρ,hr1,lr.mono e1,(PFl.bindX (R:=RD g) (lr.mono e1) po1).imp fun w H2 ⟨m2,L2,dw,e2,hr2,rw,po2⟩=>po2 m2 H2 (Ev.refl _ _) hr2 w rw⟩⟩
 show _root_.PySem.wpAt _ _ _ (do
   let v ← eval _ X.env
   standAt p3
   let t ← holding [v] (truthy v)
   match BoolOp.Or,t with
   | .And,false | .Or,true=>pure v
   | _,_=>boolOp p3 .Or (eval eb X.env::evalEach rest X.env)) _ _ _
 refine _root_.PySem.wpAt_bind (_root_.PySem.wpAt_mono (zjW c S hncl hst hks hkn hfew hx hkx ha hk I z) (fun u s1 ⟨v,H1,I1,r1,c',e,q1⟩=>_root_.PySem.wpAt_of_wpAny ?_) fun _ _ z=>z)
 refine wpAny_bind (wpAny_standAt (wpAny_bind (wpAny_holding ?_)))
 refine thn (tru_ok pins s1 σ H1 v u (fun c H2=>c=c'∧H2=H1) I1 r1 ⟨c',e,rfl,rfl⟩) fun c2 s2 hc=>?_
 obtain ⟨H2,I2,e1,e2⟩:=hc
 rw [e2] at I2
 rw [← e1] at q1
 cases c2 with
 | true=>exact wpAny_pure ⟨v, σ,H1,I2,r1,q1⟩
 | false=>exact thn (hb.run pins s2 σ H1 _ I2 q1) fun w s3 ⟨y,H3,I3,ry,q3⟩=>⟨y, σ,H3,I3,ry,q3⟩
theorem zqk {cd:Code}:PSsA X cd [] (tMS g W (exSs T C wf .nil)):=⟨fun pins s σ H D I q=>_root_.PySem.wpAt_of_wpAny (zpb.run pins s σ H D I q)⟩
theorem zmY {cd:Code} (h:PSA X cd st (tMS g W (exS T C wf s1))) (h':PSsA X cd sts (tMS g W (exSs T C wf b1))):PSsA X cd (st::sts) (tMS g W (exSs T C wf (.cons s1 b1))):=by
 refine ⟨fun pins s σ H D I ⟨m,L, ρ,hr,lr,po⟩=>(PSsA.cons h h').run pins s σ H D I ⟨m,L, ρ,hr,lr, ?_⟩⟩
 simp only [exSs] at po
 revert po
 generalize exS T C wf s1 ρ L=r
 intro po
 cases r with
 | stk=>exact po.elim
 | exc c fs L'=>exact po.elim
 | ok fl L'=>
  intro m1 H1 e1 hr1
  have po1:=PFl.ev e1 po
  cases fl with
  | nx ρ1=>exact fun σ' l=>⟨m1,L', ρ1,hr1,l,po1⟩
  | bk ρ1=>exact po1 m1 H1 (Ev.refl _ _) hr1
  | ct ρ1=>exact po1 m1 H1 (Ev.refl _ _) hr1
  | rt d=>exact po1 m1 H1 (Ev.refl _ _) hr1
  | xc ρ1 c fs=>exact po1 m1 H1 (Ev.refl _ _) hr1
end
end Mi
end
section
set_option maxHeartbeats 4000000
namespace Mi
open PySem PySem.Spec PyProof.Rows L2
section
variable {g:G} {B:Cels} {ρ:Loc} {σ:L2.St} {m:List Addr} {L:MH} {H:Hp}
theorem Ext0.ev {H':Hp} (e:Ext0 H H'):Ev m H m H':=.of List.prefix_rfl fun b o h _=>e b o h
end
structure TryX (g:G) (T:Tb) (K:PySem.W.Frag) (cs:List Value) (rows:Rows):Prop where
 at_:∀c fs d,T.tryx c fs=some d→PySem.W.exmAny K (.ref (g.cad c)) cs=some true∧XfC K (g.cad c)∧(∀n∈allN rows,PySem.W.findIn K (.ref (g.cad c)) n=some none)∧
  ∃code ds,d=.tup [.str code,.tup ds]∧∀m H vfs,RelF g m H fs vfs→vfs.lookup ("code":Str)=some (V.str code)∧∃vs,mapO (fun n=>vfs.lookup n) (pick rows code)=some vs∧RelDs g m H ds vs
structure FnAt (K:PySem.W.Frag) (g:G) (fd:Fd) (N:List Str) (body:List Stmt) (scope:Scope) (a:Addr) (data:FuncData):Prop where
 fun_:∃x qual params dvs kws,FunD K x qual params body scope dvs kws a data
 sc:FnScope N (fd.ps.map g.an) scope
 ns:N.length=fd.ns
def zpG (ft:Nat):Sms:=.cons (.ret (.lc (.call ft (.cons (.var 1) .nil) [] .nil) (.var 1) (.seq (.var 0)) .none [1])) .nil
structure LawX (g:G) (T:Tb) (cf:Cf) (dt:Nat→FuncData) (C:Nat→List D→M D) (k:Nat) (X:Cx):Prop where
 cl:g.cl=X.env.cells
 lams:g.lams=cf.lams
 lq:X.env.qual++"<lambda>"=g.lq
 fz:∀m H,g.fz m H
 tb:∃c P,LamX.TabB X.base X.mg c P∧X.env.code=.ref c∧(P,g.lq)∈g.tabs∧∀p∈g.tabs,p.1=P→p.2=g.lq
 fn:∀x,X.fn x=true
 room:Room (k+8) X.A
 try_:∃(fd:Fd) (N:List Str) (body:List Stmt) (scope:Scope) (x1 x2 x3 fl:Str) (C1 C2 C3:Addr) (rows:Rows),T.fn cf.ftry=some fd∧FnAt X.K g fd N body scope (g.gad cf.ftry) (dt cf.ftry)∧FnL g X.K fd (dt cf.ftry)∧fd.ps.length=1∧(∀d,zcI fd [d] [] []=some [d])∧
  tryB N scope x1 x2 x3 fl body=true∧X.mg x1=some (.ref C1)∧X.mg x2=some (.ref C2)∧X.mg x3=some (.ref C3)∧zrM X.K X.mg fl rows∧TryX g T X.K [.ref C1,.ref C2,.ref C3] rows
 trs:cf.ftries≠cf.ftry→∃fdT:Fd,T.fn cf.ftries=some fdT∧(∀d,zcI fdT [d] [] []=some [d])∧fdT.body=zpG cf.ftry∧fdT.ns=2∧∀(F:List Addr→Hp→Prop) (hF:∀ {m m':List Addr} {H H':Hp},Ev m H m' H'→F m H→F m' H') (C':Nat→List D→M D),
  Cal (g.wz F hF) T C' X.prog X.w X.K X.mg X.base (k+3) cf.ftry→(∀f ds,f≠cf.ftry→C' f ds=zas)→Cal (g.wz F hF) T (fun _ ds=>runD T C' 0 fdT ds) X.prog X.w X.K X.mg X.base (k+5) cf.ftries
end Mi
end
section
set_option maxHeartbeats 4000000
namespace Mi
open PySem PySem.Spec PyProof.Rows L2
section
variable {g:G} {T:Tb} {cf:Cf} {dt:Nat→FuncData} {C:Nat→List D→M D} {k wf:Nat}
theorem zid {W:WX} {E:XK} {Q:VK} {m:List Addr} {H:Hp} {r:Res Fl} (hW:∀c d σ H',E c d H'→W c d σ H')
  (h:Post g E (RD g) m H (r.quiet.bind fun fl=>(match fl with
    | .nx _=>ret .non
    | .rt d=>ret d
    | .xc _ c fs=>fun L=>.exc c fs L
    | _=>zas)) Q):PFl g W { nx:=fun _ H'=>Q .non H',rt:=Q } m H r:=by
 cases r with
 | stk=>exact h.elim
 | exc c fs L=>exact h.elim
 | ok fl L=>
  intro m1 H1 e1 hr1
  have h1:=Post.ev e1 h
  cases fl with
  | nx ρ=>exact fun σ' l=>h1.at hr1 .non
  | bk ρ=>exact h1.elim
  | ct ρ=>exact h1.elim
  | rt d=>exact fun v rd=>h1.at hr1 rd
  | xc ρ c fs=>exact fun dx σ' l x=>hW _ _ _ _ (h1 m1 H1 dx (Ev.refl _ _) hr1 x)
structure CnOk (g:G) (T:Tb) (cf:Cf) (dt:Nat→FuncData) (C:Nat→List D→M D) (k:Nat) (X:Cx) (cn:Cn):Prop where
 N:X.N=cn.N
 sc:X.env.scope=cn.sc
 fn:∀x,cn.fn x=true→X.fn x=true
 lw:cn.lw=true→LawX g T cf dt C k X
abbrev XO (g:G) (T:Tb) (cf:Cf) (P:Program) (w:World) (K:PySem.W.Frag) (mg:Str→Option Value) (base:Heap):Prop:=(∀c r,cf.exs.lookup c=some r→T.exi c=exF r.2 r.1∧r.1≤100∧ExcK g P w K mg base c r.1 (flS g r.2)∧ExcV g P w K mg base c r.1 (flS g r.2) (T.exp c))∧XM g T K
theorem znr {P:Program} {w:World} {K:PySem.W.Frag} {mg:Str→Option Value} {base:Heap} {f:Nat} {fd:Fd} {N:List Str} {body:List Stmt} {scope:Scope} (hK:K=g.K) (rk:6≤k) (lk:Lk g T cf K w mg dt) (xo:XO g T cf P w K mg base)
  (fns:∀f fd,T.fn f=some fd→Cal g T C P w K mg base k f) (F:FnAt K g fd N body scope (g.gad f) (dt f))
  (hb:∀(X:Cx) (W:WX),SxOk g T cf dt C k X W→CnOk g T cf dt C k X ⟨N,scope,fun _=>true,false⟩→PSs X body (tMS g W (exSs T C wf fd.body))):
  FnOk P w K mg base (CXM g.fr P w) (k+2) (g.gad f) (dt f) (fd.ps.map g.an) (spM g fd.ps.length fun ds=>if ds.length=fd.ps.length then runD T C wf fd ds else zas):=by
 obtain ⟨x,qual,params,dvs,kws,FD⟩:=F.fun_
 refine FD.ok F.sc (fun vs H Q E ⟨m,L,ds,hr,r,hl,po⟩=>by rw [← r.length,hl,List.length_map]) (fun cdv A outer s H vs Q E hroom ⟨m,L,ds,hr,r,hl,po⟩=>?_)
 have sx:SxOk g T cf dt C k (cxOf (CXM g.fr P w) P w K mg base N qual scope (g.gad f) cdv A outer s H E) (fun c d _ H'=>E c d H'):=
  ⟨⟨hK,lk,fns,hroom,rfl,zcR rfl rfl rfl rfl,F.sc.nd,rk,xo⟩,passes_of rfl,by
    show (if scope.kind.isAnnotationScope then ScopeKind.function else scope.kind)=_
    rw [F.sc.kind]
    rfl,rfl,rfl,L2H.passesAt_of rfl⟩
 refine ⟨_,hb _ _ sx ⟨rfl,rfl,fun _ _=>rfl,fun z=>by cases z⟩,m,L,ds.map some++List.replicate (fd.ns - ds.length) none,hr, ?_, ?_⟩
 ·have:=LRel.start (N:=N) r
  rw [F.ns] at this
  exact this
 ·have po:Post g E (RD g) m H ((if ds.length=fd.ps.length then runD T C wf fd ds else zas) L) Q:=po
  rw [if_pos hl] at po
  exact zid (fun _ _ _ _ z=>z) po
theorem zjV {P:Program} {w:World} {K:PySem.W.Frag} {mg:Str→Option Value} {base:Heap} {f:Nat} {fd:Fd} {N:List Str} {body:List Stmt} {scope:Scope} (hK:K=g.K) (rk:6≤k) (lk:Lk g T cf K w mg dt) (xo:XO g T cf P w K mg base) (hf:T.fn f=some fd)
  (fns:∀f fd,T.fn f=some fd→Cal g T C P w K mg base k f) (F:FnAt K g fd N body scope (g.gad f) (dt f)) (B:FnL g K fd (dt f))
  (hb:∀(X:Cx) (W:WX),SxOk g T cf dt C k X W→CnOk g T cf dt C k X ⟨N,scope,fun _=>true,false⟩→PSs X body (tMS g W (exSs T C wf fd.body))) {C':Nat→List D→M D} (hC:∀ds,ds.length=fd.ps.length→C' f ds=runD T C wf fd ds):Cal g T C' P w K mg base (k+2) f:=by
 obtain ⟨x,qual,params,dvs,kws,FD⟩:=F.fun_
 obtain ⟨oc,od,dV,kV,doc,pm,an,cdv,ct,osl,e0d,lku,hcd,_,_⟩:=FD.ex
 refine ⟨FD.kp,fun A outer s H us uz vs ws ds zs ks m L Q E hr e0 hks hR r1 v1 r2 v2 po=>?_⟩
 rw [zcW hf] at po
 cases eb:zcI fd ds ks zs with
 | none=>rw [eb] at po; exact po.elim
 | some ds'=>
  rw [eb] at po
  simp only at po
  rw [hC ds' (B.len eb)] at po
  have bnd:=B.bind (E:=E) e0 hks hR r1 v1 r2 v2 eb
  rw [e0d] at bnd lku
  refine StX.run_bnd (N:=N) (k:=k+1) lku hcd F.sc hr e0 bnd fun s2 H2 vs' ⟨hR2,r3,ev⟩ hroom=>?_
  have sx:SxOk g T cf dt C k (cxOf (CXM g.fr P w) P w K mg base N qual scope (g.gad f) cdv A outer s2 H2 E) (fun c d _ H'=>E c d H'):=
   ⟨⟨hK,lk,fns,hroom,rfl,zcR rfl rfl rfl rfl,F.sc.nd,rk,xo⟩,passes_of rfl,by
     show (if scope.kind.isAnnotationScope then ScopeKind.function else scope.kind)=_
     rw [F.sc.kind]
     rfl,rfl,rfl,L2H.passesAt_of rfl⟩
  refine ⟨_,hb _ _ sx ⟨rfl,rfl,fun _ _=>rfl,fun z=>by cases z⟩,m,L,ds'.map some++List.replicate (fd.ns - ds'.length) none,hR2, ?_, ?_⟩
  ·have:=LRel.start (N:=N) r3
   rw [F.ns] at this
   exact this
  ·exact zid (fun _ _ _ _ z=>z) (Post.ev ev po)
theorem zk1 {P:Program} {w:World} {K:PySem.W.Frag} {mg:Str→Option Value} {base:Heap} {k:Nat} {f:Addr} {name qual:Str} {params:Arguments} {body:List Stmt} {scope:Scope} {dV kV doc pm cdv ct oc:Value} {an od:Option Addr} {osl:Array (Option Value)} {N ps:List Str}
  {A:Around} {outer:List Env} {s:Shared} {H:Hp} {args:Args} {Q:VK} {E:XK} {G:List V→Hp→Prop} (lk:K.lookup f=some ⟨oc,od,.func (PySem.W.fnOf name qual params body scope dV kV doc pm an cdv ct),osl⟩) (hcd:PySem.W.codeIn K cdv qual=true)
  (S:FnScope N ps scope) (hnc:∀y∈scope.names,y.2≠.cell) (hps:1≤ps.length) (hr:Room (k+1) A) (e0:Env0 P w K mg base A outer s H) (hb:StX.Bnd (CXM g.fr P w) P w K mg base (PySem.W.fnOf name qual params body scope dV kV doc pm an cdv ct) args ps A outer s H E G)
  (hbody:∀(s2:Shared) (H2:Hp) (vs:List V),G vs H2→Room k (A.deeper (envOfC qual scope s2.heap.objs.size f cdv))→
    ∃t,PSsT (cxOf (CXM g.fr P w) P w K mg base N qual scope f cdv A outer s2 H2 E) body t∧t { nx:=fun _ H'=>Q .non H',rt:=Q } (L2.start N vs) H2):codeAny (model P w) A (.call (.ref f) args) (CR (CXM g.fr P w) outer P w H s Q E) s:=by
 have KX:K.In s.heap:=e0.mod.kin.keeps fun b o e=>(e0.bs b o e).1
 refine codeAny_call_function hr.depth (KX _ _ lk) rfl S.co S.gen rfl (PySem.W.codeRec_of KX hcd) ?_
 refine hb _ _ _ fun s2 H2 vs us e2 un ho hx r hl gg=>?_
 have lim:s2.heap.NoLimit:=e0.mod.nolimit.keeps fun b o e=>(e2.bs b o e).1
 have hul:us.length=ps.length:=by rw [← r.length,hl]
 have hloc:∀y∈ps.zip us,scope.names.lookup y.1=some .local:=fun ⟨n,v⟩ hy=>by
  rcases S.par n (List.of_mem_zip hy).1 with q | q
  ·exact q
  ·exact absurd rfl (hnc _ (PySem.mem_of_lookup q))
 refine wpAny_newFunctionEnv hnc hloc (fun h1 hns hsb=>?_) S.kind
 have hz:(ps.zip us).length=ps.length:=by rw [List.length_zip,hul,Nat.min_self]
 have keep:∀b o,s2.heap.get? b=some o→h1.get? b=some o:=fun b o e=>hsb.extBut b o (Nat.ne_of_lt (Heap.lt_size e)) (Heap.get?_push_of_some _ e)
 have hcl:cellsFrom (s2.heap.objs.size+1) scope.names []=[]:=cells_none _ _ _ hnc
 have hkl:∀y∈ps.zip us,(envOfC qual scope s2.heap.objs.size f cdv).kindOf y.1=some .local:=fun y hy=>by
  first
  | exact hloc y hy
  | (simp only [Env.kindOf]; exact hloc y hy)
  | (unfold Env.kindOf; rw [if_pos S.kind]; exact hloc y hy)
  | simpa [Env.kindOf,envOfC,newEnv,S.kind] using hloc y hy
 have hm:(bindL (envOfC qual scope s2.heap.objs.size f cdv).kindOf (ps.zip us) fun _=>none)=fun x=>(ps.zip us).reverse.lookup x:=by
  funext y
  rw [bindL_loc _ _ hkl y]
  cases (ps.zip us).reverse.lookup y<;>rfl
 have x:InCallC s2 s2.heap.objs.size (bindL (envOfC qual scope s2.heap.objs.size f cdv).kindOf (ps.zip us) fun _=>none) (cellsFrom (s2.heap.objs.size+1) scope.names [])
   (bindC (envOfC qual scope s2.heap.objs.size f cdv).kindOf (ps.zip us) fun _=>none) ({ s2 with heap:=h1,toks:=s2.toks+(ps.zip us).length }:Shared):=by
  rw [hm,hcl]
  exact ⟨⟨⟨_,_,rfl⟩,hns,keep,Nat.le_refl _⟩,fun n c hc=>absurd hc (by simp),.nil,fun n c hc=>absurd hc (by simp)⟩
 have henv:newEnv scope s2.heap.objs.size mainGlobals [] (qual++".<locals>.") (some f) cdv none builtinsNs=envOfC qual scope s2.heap.objs.size f cdv:=by
  unfold envOfC
  rw [hcl]<;>rfl
 have hto:1≤({ s2 with heap:=h1,toks:=s2.toks+(ps.zip us).length }:Shared).toks:=by
  show 1≤s2.toks+(ps.zip us).length
  omega
 show ({ s2 with heap:=h1,toks:=s2.toks+(ps.zip us).length }:Shared).heap.NoLimit∧codeAny (model P w) A (.func body (newEnv scope s2.heap.objs.size mainGlobals [] (qual++".<locals>.") (some f) cdv none builtinsNs)) _ ({ s2 with heap:=h1,toks:=s2.toks+(ps.zip us).length }:Shared)
 rw [henv]
 generalize ({ s2 with heap:=h1,toks:=s2.toks+(ps.zip us).length }:Shared)=s1 at x hto ⊢
 refine ⟨lim.keeps x.toInCall.keep,codeAny_func ?_⟩
 obtain ⟨t,ht,hq⟩:=hbody s2 H2 vs gg (hr.deeper _)
 have I:Inv (cxOf (CXM g.fr P w) P w K mg base N qual scope f cdv A outer s2 H2 E) [] (L2.start N vs) H2 s1:=inv_start S hr.hd e2 hl r x
 refine wpAny_mono (ht [] s1 (L2.start N vs) H2 _ hto I hq) (fun fl s' hs=>?_) fun e s' hs=>?_
 ·have fin:∀ {σ':L2.St} {H':Hp} {v':V} {u':Value},Inv (cxOf (CXM g.fr P w) P w K mg base N qual scope f cdv A outer s2 H2 E) [] σ' H' s'→L2.RelV v' u'→Q v' H'→CE outer P w H s Q u' s':=
   fun {σ' H' v' u'} J rv' q=>⟨v',H',J.os.trans ho,J.bare,un.trans J.base,J.hok,rv',q⟩
  cases fl with
  | ret u'=>
   obtain ⟨v', σ',H',J,rv',q⟩:=hs
   exact fin J rv' q
  | next=>
   obtain ⟨σ',H',J,q⟩:=hs
   exact fin (v':=V.non) (u':=Value.none) J rfl q
  | brk=>
   obtain ⟨_,_,_,q⟩:=hs
   exact False.elim q
  | cont=>
   obtain ⟨_,_,_,q⟩:=hs
   exact False.elim q
 ·exact wpAny_mono hs (fun _ s'' z=>hx e s'' z) fun e' s'' z=>hx e' s'' z
theorem zmz {P:Program} {w:World} {K:PySem.W.Frag} {mg:Str→Option Value} {base:Heap} {f:Nat} {fd:Fd} {N:List Str} {body:List Stmt} {scope:Scope} (hK:K=g.K) (rk:6≤k) (lk:Lk g T cf K w mg dt) (xo:XO g T cf P w K mg base) (hf:T.fn f=some fd)
  (fns:∀f fd,T.fn f=some fd→Cal g T C P w K mg base k f) (F:FnAt K g fd N body scope (g.gad f) (dt f)) (B:FnL g K fd (dt f))
  (hnc:∀y∈scope.names,y.2≠.cell) (hps:1≤fd.ps.length) (hb:∀(X:Cx) (W:WX),SxOk g T cf dt C k X W→CnOk g T cf dt C k X ⟨N,scope,fun _=>true,false⟩→PSsT X body (tMS g W (exSs T C wf fd.body))) {C':Nat→List D→M D} (hC:∀ds,ds.length=fd.ps.length→C' f ds=runD T C wf fd ds):Cal g T C' P w K mg base (k+2) f:=by
 obtain ⟨x,qual,params,dvs,kws,FD⟩:=F.fun_
 obtain ⟨oc,od,dV,kV,doc,pm,an,cdv,ct,osl,e0d,lku,hcd,_,_⟩:=FD.ex
 refine ⟨FD.kp,fun A outer s H us uz vs ws ds zs ks m L Q E hr e0 hks hR r1 v1 r2 v2 po=>?_⟩
 rw [zcW hf] at po
 cases eb:zcI fd ds ks zs with
 | none=>rw [eb] at po; exact po.elim
 | some ds'=>
  rw [eb] at po
  simp only at po
  rw [hC ds' (B.len eb)] at po
  have bnd:=B.bind (E:=E) e0 hks hR r1 v1 r2 v2 eb
  rw [e0d] at bnd lku
  refine zk1 (N:=N) (k:=k+1) lku hcd F.sc hnc (by rw [List.length_map]; exact hps) hr e0 bnd fun s2 H2 vs' ⟨hR2,r3,ev⟩ hroom=>?_
  have sx:SxOk g T cf dt C k (cxOf (CXM g.fr P w) P w K mg base N qual scope (g.gad f) cdv A outer s2 H2 E) (fun c d _ H'=>E c d H'):=
   ⟨⟨hK,lk,fns,hroom,rfl,zcR rfl rfl rfl rfl,F.sc.nd,rk,xo⟩,passes_of rfl,by
     show (if scope.kind.isAnnotationScope then ScopeKind.function else scope.kind)=_
     rw [F.sc.kind]
     rfl,rfl,rfl,L2H.passesAt_of rfl⟩
  refine ⟨_,hb _ _ sx ⟨rfl,rfl,fun _ _=>rfl,fun z=>by cases z⟩,m,L,ds'.map some++List.replicate (fd.ns - ds'.length) none,hR2, ?_, ?_⟩
  ·have:=LRel.start (N:=N) r3
   rw [F.ns] at this
   exact this
  ·exact zid (fun _ _ _ _ z=>z) (Post.ev ev po)
theorem zlT {P:Program} {w:World} {K:PySem.W.Frag} {mg:Str→Option Value} {base:Heap} {j:Nat} {f c:Addr} {name qual:Str} {params:Arguments} {body:List Stmt} {scope:Scope} {cl:List (Str×Addr)} {dV kV doc pm ct oc:Value} {an od:Option Addr} {osl:Array (Option Value)} {N ps fr:List Str} {ws:List (Option V)}
  {A:Around} {outer:List Env} {s:Shared} {H:Hp} {args:Args} {Q:VK} {E:XK} {G:List V→Hp→Prop} (lk:K.lookup f=some ⟨oc,od,.func (PySem.W.fnX name qual params body scope cl dV kV doc pm an (.ref c) ct),osl⟩) (hcd:PySem.W.codeIn K (.ref c) qual=true)
  (S:NdefX.NScope N ps fr scope) (hr:Room (j+1) A) (e0:Env0 P w K mg base A outer s H) (hb:StX.Bnd (CXM g.fr P w) P w K mg base (PySem.W.fnX name qual params body scope cl dV kV doc pm an (.ref c) ct) args ps A outer s H E G)
  (hcells:∀(s2:Shared) (H2:Hp),Env0 P w K mg base A outer s2 H2→NdefX.CellsAt cl fr ws s2.heap H2)
  (hbody:∀(s2:Shared) (H2:Hp) (vs:List V),G vs H2→Room j (A.deeper (NdefX.envF ⟨name,qual,params,body,scope,cl,c⟩ f s2.heap.objs.size))→
    ∃t,PSsA (NdefX.ncx (CXM g.fr P w) P w K mg base N ⟨name,qual,params,body,scope,cl,c⟩ f A outer s2 H2 E) (.func body (NdefX.envF ⟨name,qual,params,body,scope,cl,c⟩ f s2.heap.objs.size)) body t∧t { nx:=fun _ H'=>Q .non H',rt:=Q } (NdefX.startF N vs ws) H2):
  codeAny (model P w) A (.call (.ref f) args) (CR (CXM g.fr P w) outer P w H s Q E) s:=by
 have KX:K.In s.heap:=e0.mod.kin.keeps fun b o e=>(e0.bs b o e).1
 refine codeAny_call_function hr.depth (KX _ _ lk) rfl S.co S.gen rfl (PySem.W.codeRec_of KX hcd) ?_
 refine hb _ _ _ fun s2 H2 vs us e2 un ho hx r hl gg=>?_
 have lim:s2.heap.NoLimit:=e0.mod.nolimit.keeps fun b o e=>(e2.bs b o e).1
 refine wpAny_newFunctionEnv S.nocell (fun y hy=>S.par y.1 (List.of_mem_zip hy).1) (fun h1 hns hsb=>⟨lim.fresh _ hsb, ?_⟩) S.kind
 show codeAny _ _ (.func body (NdefX.envF ⟨name,qual,params,body,scope,cl,c⟩ f s2.heap.objs.size)) _ _
 refine ks_codeAny_funcAt ?_
 have kp:∀b o,s2.heap.get? b=some o→h1.get? b=some o:=fun b o e=>hsb.extBut b o (Nat.ne_of_lt (Heap.lt_size e)) (Heap.get?_push_of_some _ e)
 obtain ⟨t,ht,hq⟩:=hbody s2 H2 vs gg (hr.deeper _)
 have I:Inv (NdefX.ncx (CXM g.fr P w) P w K mg base N ⟨name,qual,params,body,scope,cl,c⟩ f A outer s2 H2 E) [] (NdefX.startF N vs ws) H2 { s2 with heap:=h1,toks:=s2.toks+(ps.zip us).length }:=NdefX.inv_startN S hr.hd e2 hl r (hcells s2 H2 e2) hns kp
 refine _root_.PySem.wpAt_mono (ht.run [] _ (NdefX.startF N vs ws) H2 _ I hq) (fun fl s' hs=>?_) fun e s' hs=>?_
 ·have fin:∀ {σ':L2.St} {H':Hp} {v':V} {u':Value},Inv (NdefX.ncx (CXM g.fr P w) P w K mg base N ⟨name,qual,params,body,scope,cl,c⟩ f A outer s2 H2 E) [] σ' H' s'→L2.RelV v' u'→Q v' H'→CE outer P w H s Q u' s':=
   fun {σ' H' v' u'} J rv' q=>⟨v',H',J.os.trans ho,J.bare,un.trans J.base,J.hok,rv',q⟩
  cases fl with
  | ret u'=>
   obtain ⟨v', σ',H',J,rv',q⟩:=hs
   exact fin J rv' q
  | next=>
   obtain ⟨σ',H',J,q⟩:=hs
   exact fin (v':=V.non) (u':=Value.none) J rfl q
  | brk=>
   obtain ⟨_,_,_,q⟩:=hs
   exact False.elim q
  | cont=>
   obtain ⟨_,_,_,q⟩:=hs
   exact False.elim q
 ·exact wpAny_mono hs (fun _ s'' z=>hx e s'' z) fun e' s'' z=>hx e' s'' z
structure zoS (K:PySem.W.Frag) (g:G) (P:Program) (d:Nat) (fd:Fd) (N:List Str) (body:List Stmt) (scope:Scope) (a:Addr) (data:FuncData):Prop where
 fun_:∃(name qual:Str) (params:Arguments) (cc:Addr) (dV kV doc pm ct oc:Value) (an od:Option Addr) (c:Addr) (osl:Array (Option Value)),data=PySem.W.fnX name qual params body scope [("__class__",cc)] dV kV doc pm an (.ref c) ct∧K.lookup a=some ⟨oc,od,.func data,osl⟩∧PySem.W.codeIn K (.ref c) qual=true∧
  (∃cl cld csl,K.lookup cc=some ⟨cl,cld,.cell (some (.ref (g.cad d))),csl⟩)∧(∃ccl cdd ccs,∃vs:Array Value,∃file tf,K.lookup c=some ⟨ccl,cdd,.fields vs,ccs⟩∧vs[2]?=some (.str file tf)∧((P.main.file:Str)==file)=true)∧
  (∃ar:Arg,(params.posonlyargs++params.args).head?=some ar∧N[0]?=some ar.arg)
 kp:PySem.W.keepIn K (.ref a)=true
 sc:NdefX.NScope N (fd.ps.map g.an) ["__class__"] scope
 ns:N.length=fd.ns
 top:(P.main.scope.names.lookup ("super":Str)).isSome=false
 gl:scope.names.lookup ("super":Str)=some .globalImplicit
 one:0 < fd.ps.length
 cls:∃cd,PySem.W.clsIn K (g.cad d)=some cd
theorem zna {P:Program} {w:World} {K:PySem.W.Frag} {mg:Str→Option Value} {base:Heap} {f d:Nat} {fd:Fd} {N:List Str} {body:List Stmt} {scope:Scope} (hK:K=g.K) (rk:6≤k) (lk:Lk g T cf K w mg dt) (xo:XO g T cf P w K mg base) (hf:T.fn f=some fd) (hsb:mg "super"=none)
  (fns:∀f fd,T.fn f=some fd→Cal g T C P w K mg base k f) (F:zoS K g P d fd N body scope (g.gad f) (dt f)) (B:FnL g K fd (dt f))
  (hb:∀(X:Cx) (W:WX),SxOk g T cf dt C k X W→CnOk g T cf dt C k X ⟨N,scope,fun _=>false,false⟩→(∃slf,SupX g cf X d (g.gad f) (dt f) slf)→PSsA X (.func body X.env) body (tMS g W (exSs T C wf fd.body))) {C':Nat→List D→M D} (hC:∀ds,ds.length=fd.ps.length→C' f ds=runD T C wf fd ds):Cal g T C' P w K mg base (k+2) f:=by
 obtain ⟨name,qual,params,cc,dV,kV,doc,pm,ct,oc,an,od,c,osl,ed,lku,hcd,⟨cl,cld,csl,hcell⟩,⟨ccl,cdd,ccs,cvs,file,tf,hc1,hc2,hc3⟩,ar,har,hn0⟩:=F.fun_
 refine ⟨F.kp,fun A outer s H us uz vs ws ds zs ks m L Q E hr e0 hks hR r1 v1 r2 v2 po=>?_⟩
 rw [zcW hf] at po
 cases eb:zcI fd ds ks zs with
 | none=>rw [eb] at po; exact po.elim
 | some ds'=>
  rw [eb] at po
  simp only at po
  rw [hC ds' (B.len eb)] at po
  have bnd:=B.bind (E:=E) e0 hks hR r1 v1 r2 v2 eb
  have lku2:=lku
  rw [ed] at bnd lku2
  have hlen:=B.len eb
  have npre:(fd.ps.map g.an).length+1≤N.length:=by
   have q:=congrArg List.length F.sc.pre
   rw [List.length_take,List.length_append] at q
   simp only [List.length_singleton] at q
   omega
  refine zlT (N:=N) (j:=k+1) (fr:=["__class__"]) (ws:=[none]) lku2 hcd F.sc hr e0 bnd (fun s2 H2 e2=>?_) fun s2 H2 vs' ⟨hR2,r3,ev⟩ hroom=>?_
  ·have hbase:∃o,base.get? cc=some o∧o.data=.cell (some (.ref (g.cad d))):=⟨_,e0.mod.kin _ _ hcell,rfl⟩
   obtain ⟨o,ho,hod⟩:=hbase
   have look:∀ {y:Str} {a:Addr},([("__class__",cc)]:List (Str×Addr)).lookup y=some a→y="__class__"∧a=cc:=fun {y a} h=>by
    rw [List.lookup_cons] at h
    cases q:y==("__class__":Str) with
    | true=>
     rw [q] at h
     cases h
     exact ⟨beq_iff_eq.mp q,rfl⟩
    | false=>
     rw [q] at h
     cases h
   refine ⟨rfl,fun y a h=>?_,fun x y a h1 h2=>(look h1).1.trans (look h2).1.symm,fun i y h=>?_⟩
   ·obtain ⟨rfl,rfl⟩:=look h
    exact ⟨(e2.bs _ _ ho).2,_,o,(e2.bs _ _ ho).1,hod⟩
   ·have hy:y="__class__":=by
     have:=List.mem_of_getElem? h
     simpa using this
    subst hy
    refine ⟨cc,rfl,fun v hv=>?_⟩
    cases i with
    | zero=>cases hv
    | succ i=>simp at hv
  ·have X0:=NdefX.ncx (CXM g.fr P w) P w K mg base N ⟨name,qual,params,body,scope,[("__class__",cc)],c⟩ (g.gad f) A outer s2 H2 E
   have sx:SxOk g T cf dt C k (NdefX.ncx (CXM g.fr P w) P w K mg base N ⟨name,qual,params,body,scope,[("__class__",cc)],c⟩ (g.gad f) A outer s2 H2 E) (fun c d _ H'=>E c d H'):=
    ⟨⟨hK,lk,fns,hroom,rfl,zcR rfl rfl rfl rfl,F.sc.nd,rk,xo⟩,passes_of rfl,by
      show (if scope.kind.isAnnotationScope then ScopeKind.function else scope.kind)=_
      rw [F.sc.kind]
      rfl,rfl,rfl,L2H.passesAt_of rfl⟩
   have p0:(fd.ps.map g.an)[0]?=some ar.arg:=by
    have q:(N.take ((fd.ps.map g.an).length+1))[0]?=some ar.arg:=by
     rw [List.getElem?_take_of_lt (by omega)]
     exact hn0
    have e3:=F.sc.pre
    simp only [List.length_singleton] at e3
    rw [e3,List.getElem?_append_left (by rw [List.length_map]; exact F.one)] at q
    exact q
   have sup:SupX g cf (NdefX.ncx (CXM g.fr P w) P w K mg base N ⟨name,qual,params,body,scope,[("__class__",cc)],c⟩ (g.gad f) A outer s2 H2 E) d (g.gad f) (dt f) ar.arg:=
    ⟨hsb,F.gl,F.sc.frk _ (List.mem_singleton.mpr rfl),F.sc.par _ (List.mem_of_getElem? p0),hn0,⟨cc,cl,cld,csl,rfl,hcell⟩,rfl,⟨oc,od,osl,lku⟩,by rw [ed]; exact ⟨ar,har,rfl⟩,⟨c,ccl,cdd,ccs,cvs,file,tf,rfl,hc1,hc2,hc3⟩,F.top,F.cls⟩
   refine ⟨_,hb _ _ sx ⟨rfl,rfl,(fun _ z=>by cases z),fun z=>by cases z⟩ ⟨_,sup⟩,m,L,ds'.map some++List.replicate (fd.ns - ds'.length) none,hR2, ?_, ?_⟩
   ·have:=LRel.start (N:=N) r3
    rw [F.ns] at this
    have hv:vs'.length=(fd.ps.map g.an).length:=by rw [← r3.length,hlen,List.length_map]
    have es:NdefX.startF N vs' [none]=L2.start N vs':=by
     unfold NdefX.startF L2.start
     have:N.length - vs'.length=(N.length - vs'.length - 1)+1:=by omega
     rw [this,List.replicate_succ]
     simp
    rw [es]
    exact this
   ·exact zid (fun _ _ _ _ z=>z) (Post.ev ev po)
inductive How (g:G) (T:Tb) (cf:Cf) (dt:Nat→FuncData) (wf:Nat) (P:Program) (K:PySem.W.Frag) (mg:Str→Option Value) (f:Nat) (fd:Fd):Prop where
 | plain {N:List Str} {body:List Stmt} {scope:Scope} (F:FnAt K g fd N body scope (g.gad f) (dt f)) (B:FnL g K fd (dt f)) (hb:∀(C:Nat→List D→M D) (k:Nat) (X:Cx) (W:WX),SxOk g T cf dt C k X W→CnOk g T cf dt C k X ⟨N,scope,fun _=>true,false⟩→PSs X body (tMS g W (exSs T C wf fd.body)))
 | tok {N:List Str} {body:List Stmt} {scope:Scope} (F:FnAt K g fd N body scope (g.gad f) (dt f)) (B:FnL g K fd (dt f)) (hnc:∀y∈scope.names,y.2≠.cell) (hps:1≤fd.ps.length) (hb:∀(C:Nat→List D→M D) (k:Nat) (X:Cx) (W:WX),SxOk g T cf dt C k X W→CnOk g T cf dt C k X ⟨N,scope,fun _=>true,false⟩→PSsT X body (tMS g W (exSs T C wf fd.body)))
 | sup {d:Nat} {N:List Str} {body:List Stmt} {scope:Scope} (hs:mg "super"=none) (F:zoS K g P d fd N body scope (g.gad f) (dt f)) (B:FnL g K fd (dt f))
   (hb:∀(C:Nat→List D→M D) (k:Nat) (X:Cx) (W:WX),SxOk g T cf dt C k X W→CnOk g T cf dt C k X ⟨N,scope,fun _=>false,false⟩→(∃slf,SupX g cf X d (g.gad f) (dt f) slf)→PSsA X (.func body X.env) body (tMS g W (exSs T C wf fd.body)))
theorem zgM {P:Program} {w:World} {K:PySem.W.Frag} {mg:Str→Option Value} {base:Heap} (hK:K=g.K) (lk:Lk g T cf K w mg dt) (xo:XO g T cf P w K mg base) (hd:∀f fd,T.fn f=some fd→How g T cf dt wf P K mg f fd):
  ∀n f fd,T.fn f=some fd→Cal g T (zak T wf n) P w K mg base (2*n+6) f
 | 0,f,fd,e=>by
  refine ⟨?_,fun A outer s H us uz vs ws ds zs ks m L Q E _ _ _ _ _ _ _ _ po=>?_⟩
  ·cases hd f fd e with
   | plain F B hb=>exact F.fun_.elim fun _ ⟨_,_,_,_,FD⟩=>FD.kp
   | tok F B hnc hps hb=>exact F.fun_.elim fun _ ⟨_,_,_,_,FD⟩=>FD.kp
   | sup hs F B hb=>exact F.kp
  ·rw [zcW e] at po
   cases eb:zcI fd ds ks zs with
   | none=>rw [eb] at po; exact po.elim
   | some ds'=>rw [eb] at po; exact po.elim
 | n+1,f,fd,e=>by
  have hC:∀ds,ds.length=fd.ps.length→zak T wf (n+1) f ds=runD T (zak T wf n) wf fd ds:=fun ds hl=>by
   show (match T.fn f with | some fd=>if ds.length=fd.ps.length then runD T (zak T wf n) wf fd ds else zas | none=>zas)=_
   rw [e]
   simp only [hl,if_true]
  cases hd f fd e with
  | plain F B hb=>exact zjV (wf:=wf) hK (by omega) lk xo e (zgM hK lk xo hd n) F B (hb (zak T wf n) (2*n+6)) hC
  | tok F B hnc hps hb=>exact zmz (wf:=wf) hK (by omega) lk xo e (zgM hK lk xo hd n) F B hnc hps (hb (zak T wf n) (2*n+6)) hC
  | sup hs F B hb=>exact zna (wf:=wf) hK (by omega) lk xo e hs (zgM hK lk xo hd n) F B (hb (zak T wf n) (2*n+6)) hC
end
end Mi
end
section
set_option maxHeartbeats 8000000
namespace Mi
open PySem PySem.Spec PyProof.Rows L2
variable (cf:Cf) (T:Tb)
section
variable {cf:Cf} {T:Tb}
theorem zqn {i cn tm x u1 r}:chkE cf T (.var i) cn tm x u1 r=((match x,r with
    | .Name y _,[]=>decide (cn.N[i]?=some y)&&visB cn y&&ndB y&&ncB y
    | _,_=>false)):=rfl
theorem znK {i cn tm x u1 r}:chkE cf T (.cint i) cn tm x u1 r=((match x,r with
    | .Constant (.int j) _ _,[]=>decide (i=j)
    | _,_=>false)):=rfl
theorem znb {s cn tm x u1 r}:chkE cf T (.cstr s) cn tm x u1 r=((match x,r with
    | .Constant (.str t) _ _,[]=>eqs s t
    | _,_=>false)):=rfl
theorem zoR {a cn tm x u1 r}:chkE cf T (.cbl a) cn tm x u1 r=((match x,r with
    | .Constant (.bool b) _ _,[]=>decide (a=b)
    | _,_=>false)):=rfl
theorem znI {cn tm x u1 r}:chkE cf T .cnon cn tm x u1 r=((match x,r with
    | .Constant .none _ _,[]=>true
    | _,_=>false)):=rfl
theorem znl {k cn tm x u1 r}:chkE cf T (.gcon k) cn tm x u1 r=false:=rfl
theorem zqr {o a b cn tm x u1 r}:chkE cf T (.bop o a b) cn tm x u1 r=((match x,r with
    | .BinOp l op r _,[]=>decide (op=opOf o)&&chkE cf T a cn false l .And []&&chkE cf T b cn false r .And []
    | _,_=>false)):=rfl
theorem zpK {a cn tm x u1 r}:chkE cf T (.neg a) cn tm x u1 r=((match x,r with
    | .UnaryOp .USub y _,[]=>chkE cf T a cn false y .And []
    | _,_=>false)):=rfl
theorem zpZ {o a b cn tm x u1 r}:chkE cf T (.cmp o a b) cn tm x u1 r=((match x,r with
    | .Compare l [p] [r] _,[]=>decide (o=p)&&zaS r&&chkE cf T a cn false l .And []&&chkE cf T b cn false r .And []
    | _,_=>false)):=rfl
theorem zp9 {a cn tm x u1 r}:chkE cf T (.isn a) cn tm x u1 r=((match x,r with
    | .Compare l [.Is] [.Constant .none _ _] _,[]=>chkE cf T a cn false l .And []
    | _,_=>false)):=rfl
theorem znj {a cn tm x u1 r}:chkE cf T (.nisn a) cn tm x u1 r=false:=rfl
theorem zog {ng a p cn tm x u1 r}:chkE cf T (.isb ng a p) cn tm x u1 r=false:=rfl
theorem zlr {o p a b c cn tm x u1 r}:chkE cf T (.chain o p a b c) cn tm x u1 r=((match x,r with
    | .Compare l [o',p'] [r,q] _,[]=>decide (o=o')&&decide (p=p')&&zaS q&&chkE cf T a cn false l .And []&&chkE cf T b cn false r .And []&&chkE cf T c cn false q .And []
    | _,_=>false)):=rfl
theorem zqG {a b cn tm x op r}:chkE cf T (.and a b) cn tm x op r=((match r with
    | []=>(match x with
      | .BoolOp .And (y::z::rest) _=>chkE cf T a cn tm y .And []&&chkE cf T b cn tm z .And rest
      | _=>false)
    | z::rest=>decide (op=.And)&&chkE cf T a cn tm x .And []&&chkE cf T b cn tm z .And rest)):=rfl
theorem zrl {a b cn tm x op r}:chkE cf T (.or a b) cn tm x op r=((match r with
    | []=>(match x with
      | .BoolOp .Or (y::z::rest) _=>chkE cf T a cn tm y .And []&&chkE cf T b cn tm z .Or rest
      | _=>false)
    | z::rest=>decide (op=.Or)&&chkE cf T a cn tm x .And []&&chkE cf T b cn tm z .Or rest)):=rfl
theorem zpO {a cn tm x u1 r}:chkE cf T (.not a) cn tm x u1 r=((match x,r with
    | .UnaryOp .Not y _,[]=>chkE cf T a cn tm y .And []
    | _,_=>false)):=rfl
theorem zoC {c a b cn tm x u1 r}:chkE cf T (.ife c a b) cn tm x u1 r=((match x,r with
    | .IfExp t y z _,[]=>!tm&&chkE cf T c cn true t .And []&&chkE cf T a cn false y .And []&&chkE cf T b cn false z .And []
    | _,_=>false)):=rfl
theorem zow {es cn tm x u1 r}:chkE cf T (.tup es) cn tm x u1 r=((match x,r with
    | .Tuple xs _ _,[]=>chkAS cf T es cn xs
    | _,_=>false)):=rfl
theorem zo9 {es cn tm x u1 r}:chkE cf T (.lst es) cn tm x u1 r=((match x,r with
    | .List xs _,[]=>chkAS cf T es cn xs
    | _,_=>false)):=rfl
theorem zq7 {a lo hi cn tm x u1 r}:chkE cf T (.sl a lo hi) cn tm x u1 r=((match x,r with
    | .Subscript y (.Slice l h none _) _,[]=>chkE cf T a cn false y .And []&&chkO cf T lo cn l&&chkO cf T hi cn h
    | _,_=>false)):=rfl
theorem zrO {a i cn tm x u1 r}:chkE cf T (.ix a i) cn tm x u1 r=((match x,r with
    | .Subscript y z _,[]=>zbc z&&chkE cf T a cn false y .And []&&chkE cf T i cn false z .And []
    | _,_=>false)):=rfl
theorem znw {f es ks kes cn tm x u1 r}:chkE cf T (.call f es ks kes) cn tm x u1 r=((match x,r with
    | .Call (.Name y _) xs kws _,[]=>eqs y (cf.nm.fn f)&&(T.fn f).isSome&&cf.glob.contains f&&glB cn y&&ndB y&&decide ks.Nodup&&decide (zat kws=some (ks.map cf.an))&&chkA cf T es cn xs&&chkK cf T kes cn kws
    | _,_=>false)):=rfl
theorem zoP {f a ks kes cn tm x u1 r}:chkE cf T (.mkS f a ks kes) cn tm x u1 r=false:=rfl
theorem zqK {f a es ks kes cn tm x u1 r}:chkE cf T (.mkT f a es ks kes) cn tm x u1 r=false:=rfl
theorem zn0 {f es ks kes cn tm x u1 r}:chkE cf T (.make f es ks kes) cn tm x u1 r=false:=rfl
theorem znU {o n es ks kes cn tm x u1 r}:chkE cf T (.meth o n es ks kes) cn tm x u1 r=false:=rfl
theorem zoh {f es ks kn kes cn tm x u1 r}:chkE cf T (.mkx f es ks kn kes) cn tm x u1 r=((match x,r,cf.exs.lookup f with
    | .Call (.Name y _) xs kws _,[],some _=>eqs y (cf.nm.cn f)&&cf.cls.contains f&&glB cn y&&ndB y&&decide ks.Nodup&&decide (zat kws=some (ks.map cf.an))&&decide (ks.map cf.an=kn)&&chkA cf T es cn xs&&chkK cf T kes cn kws
    | _,_,_=>false)):=rfl
theorem zoB {o n cn tm x u1 r}:chkE cf T (.atx o n) cn tm x u1 r=((match x,r with
    | .Attribute eo a _,[]=>eqs a (cf.an n)&&zbV eo&&chkE cf T o cn false eo .And []
    | _,_=>false)):=rfl
theorem zqC {a t cn tm x u1 r}:chkE cf T (.isx a t) cn tm x u1 r=((match x,r with
    | .Call (.Name y _) [ea,et] [] _,[]=>eqs y "isinstance"&&glB cn y&&cf.blt.contains y&&noStar ea&&noStar et&&chkE cf T a cn false ea .And []&&tyB cf cn t et
    | _,_=>false)):=rfl
theorem zmH {o n cn tm x u1 r}:chkE cf T (.attr o n) cn tm x u1 r=false:=rfl
theorem zrq {b es cn tm x u1 r}:chkE cf T (.bi b es) cn tm x u1 r=((match x,r with
    | .Call (.Name y _) (ea::xs) [] _,[]=>eqs y (biN b)&&glB cn y&&cf.blt.contains y&&chkA cf T es cn (ea::xs)
    | _,_=>false)):=rfl
theorem zrb {b o es cn tm x u1 r}:chkE cf T (.bm b o es) cn tm x u1 r=((match x,r with
    | .Call (.Attribute eo a apos) (ea::xs) [] pos,[]=>eqs a (bmN b)&&zbV eo&&fewB (ea::xs) [] apos pos&&chkE cf T o cn false eo .And []&&chkA cf T es cn (ea::xs)
    | _,_=>false)):=rfl
theorem zm8 {a ts cn tm x u1 r}:chkE cf T (.isin a ts) cn tm x u1 r=((match x,r with
    | .Call (.Name y _) [ea,et] [] _,[]=>eqs y "isinstance"&&glB cn y&&cf.blt.contains y&&noStar ea&&chkE cf T a cn false ea .And []&&(match et with
      | .Tuple ets _ _=>!ts.isEmpty&&decide (ts.length≤30)&&tysB cf cn ts ets
      | et=>(match ts with
        | [t]=>noStar et&&tyB cf cn t et
        | _=>false))
    | _,_=>false)):=rfl
theorem zms {es cn tm x u1 r}:chkE cf T (.fstr es) cn tm x u1 r=false:=rfl
theorem zm2 {a cn tm x u1 r}:chkE cf T (.lrng a) cn tm x u1 r=((match x,r with
    | .Call (.Name f _) [.Call (.Name f2 _) [y] [] _] [] _,[]=>eqs f "list"&&eqs f2 "range"&&glB cn f&&glB cn f2&&cf.blt.contains f&&cf.blt.contains f2&&noStar y&&chkE cf T a cn false y .And []
    | _,_=>false)):=rfl
theorem znv {a cn tm x u1 r}:chkE cf T (.lens a) cn tm x u1 r=false:=rfl
theorem zpJ {a cn tm x u1 r}:chkE cf T (.srt a) cn tm x u1 r=false:=rfl
theorem zoT {a cn tm x u1 r}:chkE cf T (.dpr a) cn tm x u1 r=false:=rfl
theorem zqy {a cn tm x u1 r}:chkE cf T (.ktu a) cn tm x u1 r=false:=rfl
theorem zpg {o i cn tm x u1 r}:chkE cf T (.tix o i) cn tm x u1 r=false:=rfl
theorem zoV {ng a b cn tm x u1 r}:chkE cf T (.eqo ng a b) cn tm x u1 r=false:=rfl
theorem zpT {ng a b cn tm x u1 r}:chkE cf T (.eql ng a b) cn tm x u1 r=false:=rfl
theorem zpe {ng a b cn tm x u1 r}:chkE cf T (.ino ng a b) cn tm x u1 r=false:=rfl
theorem zlp {a cn tm x u1 r}:chkE cf T (.repro a) cn tm x u1 r=false:=rfl
theorem zod {c m cn tm x u1 r}:chkE cf T (.clsc c m) cn tm x u1 r=false:=rfl
theorem zoi {a i cn tm x u1 r}:chkE cf T (.dix a i) cn tm x u1 r=false:=rfl
theorem zpv {ng a d cn tm x u1 r}:chkE cf T (.din ng a d) cn tm x u1 r=false:=rfl
theorem zqQ {a i cn tm x u1 r}:chkE cf T (.nix a i) cn tm x u1 r=false:=rfl
theorem zpH {ng a d cn tm x u1 r}:chkE cf T (.nin ng a d) cn tm x u1 r=false:=rfl
theorem zn1 {cn tm x u1 r}:chkE cf T .dnil cn tm x u1 r=false:=rfl
theorem zqm {k i cn tm x u1 r}:chkE cf T (.kix k i) cn tm x u1 r=false:=rfl
theorem zqI {ng k a cn tm x u1 r}:chkE cf T (.kin ng k a) cn tm x u1 r=false:=rfl
theorem zqd {kx vx t it oi own cn tm x u1 r}:chkE cf T (.dc kx vx t it oi own) cn tm x u1 r=((match x,r with
    | .DictComp ekx evx [⟨tg,iter,ifs,0⟩] scope _,[]=>zaS iter&&chkI cf T it cn tg iter&&blkC cn.N cn.sc scope (ownP cn.N own)&&chkG cf T t ⟨cn.N,relS scope cn.sc,celB scope,false⟩ own tg&&chkE cf T kx ⟨cn.N,relS scope cn.sc,celB scope,false⟩ false ekx .And []&&chkE cf T vx ⟨cn.N,relS scope cn.sc,celB scope,false⟩ false evx .And []&&chkQ cf T oi ⟨cn.N,relS scope cn.sc,celB scope,false⟩ ifs
    | _,_=>false)):=rfl
theorem zpz {e t it oi own cn tm x u1 r}:chkE cf T (.lc e t it oi own) cn tm x u1 r=((match x,r with
    | .ListComp elt [⟨tg,iter,ifs,0⟩] scope _,[]=>zaS iter&&chkI cf T it cn tg iter&&blkC cn.N cn.sc scope (ownP cn.N own)&&chkG cf T t ⟨cn.N,relS scope cn.sc,celB scope,false⟩ own tg&&chkE cf T e ⟨cn.N,relS scope cn.sc,celB scope,false⟩ false elt .And []&&chkQ cf T oi ⟨cn.N,relS scope cn.sc,celB scope,false⟩ ifs
    | _,_=>false)):=rfl
theorem zoI {j es t it oi own cn tm x u1 r}:chkE cf T (.lct j es t it oi own) cn tm x u1 r=false:=rfl
theorem znp {a i cn tm x u1 r}:chkE cf T (.maxd a i) cn tm x u1 r=false:=rfl
theorem zmU {kvs cn tm x u1 r}:chkE cf T (.ddsp kvs) cn tm x u1 r=false:=rfl
theorem zok {a cn tm x u1 r}:chkE cf T (.rev a) cn tm x u1 r=false:=rfl
theorem znA {k i d cn tm x u1 r}:chkE cf T (.kget k i d) cn tm x u1 r=false:=rfl
theorem zn5 {a i d cn tm x u1 r}:chkE cf T (.dget a i d) cn tm x u1 r=false:=rfl
theorem zoq {a i d cn tm x u1 r}:chkE cf T (.sdf a i d) cn tm x u1 r=false:=rfl
theorem zlc {e t it oi own cn tm x u1 r}:chkE cf T (.lensc e t it oi own) cn tm x u1 r=false:=rfl
theorem zn7 {e t it oi own cn tm x u1 r}:chkE cf T (.srsi e t it oi own) cn tm x u1 r=false:=rfl
theorem zmD {e t it oi own t1 it1 oi1 vs1 cn tm x u1 r}:chkE cf T (.srs2 e t it oi own t1 it1 oi1 vs1) cn tm x u1 r=false:=rfl
theorem zmb {e t it oi own t1 it1 oi1 vs1 cn tm x u1 r}:chkE cf T (.lc2 e t it oi own t1 it1 oi1 vs1) cn tm x u1 r=((match x,r with
    | .ListComp elt [⟨tg,iter,ifs,0⟩,⟨tg1,iter1,ifs1,0⟩] scope _,[]=>zaS iter&&zaS iter1&&vs1.all (own.contains ·)&&chkI cf T it cn tg iter&&blkC cn.N cn.sc scope (ownP cn.N own)&&chkG cf T t ⟨cn.N,relS scope cn.sc,celB scope,false⟩ own tg&&chkQ cf T oi ⟨cn.N,relS scope cn.sc,celB scope,false⟩ ifs&&chkI cf T it1 ⟨cn.N,relS scope cn.sc,celB scope,false⟩ tg1 iter1&&chkG cf T t1 ⟨cn.N,relS scope cn.sc,celB scope,false⟩ vs1 tg1&&chkQ cf T oi1 ⟨cn.N,relS scope cn.sc,celB scope,false⟩ ifs1&&chkE cf T e ⟨cn.N,relS scope cn.sc,celB scope,false⟩ false elt .And []
    | _,_=>false)):=rfl
theorem znn {a cn tm x u1 r}:chkE cf T (.leno a) cn tm x u1 r=false:=rfl
theorem zoW {a cn u1 x u2 r}:chkE cf T (.unk a) cn u1 x u2 r=((match r with
    | []=>zcN x&&chkE cf T a cn false x .And []
    | _=>false)):=rfl
theorem zp8 {a cn tm x u1 r}:chkE cf T (.upp a) cn tm x u1 r=false:=rfl
theorem zmX {f n es ks kes cn tm x u1 r}:chkE cf T (.stat f n es ks kes) cn tm x u1 r=false:=rfl
theorem zoQ {j cn tm x u1 r}:chkE cf T (.lam j) cn tm x u1 r=false:=rfl
theorem zn8 {a es cn tm x u1 r}:chkE cf T (.try1 a es) cn tm x u1 r=false:=rfl
theorem zls {a es cn tm x u1 r}:chkE cf T (.tries a es) cn tm x u1 r=false:=rfl
theorem zgk {u1 xs}:chkAS cf T .nil u1 xs=(xs.isEmpty):=rfl
theorem zeZ {e cn xs}:chkAS cf T (.star e) cn xs=((match xs with
    | [.Starred x _]=>chkE cf T e cn false x .And []
    | _=>false)):=rfl
theorem zeY {e r cn xs}:chkAS cf T (.cons e r) cn xs=((match xs with
    | x::xs=>noStar x&&chkE cf T e cn false x .And []&&chkAS cf T r cn xs
    | []=>false)):=rfl
theorem zcY {u1 xs}:chkA cf T .nil u1 xs=(xs.isEmpty):=rfl
theorem zbY {u1 u2 u3}:chkA cf T (.star u1) u2 u3=(false):=rfl
theorem zbZ {e r cn xs}:chkA cf T (.cons e r) cn xs=((match xs with
    | x::xs=>noStar x&&chkE cf T e cn false x .And []&&chkA cf T r cn xs
    | []=>false)):=rfl
theorem zgc {u1 xs}:chkK cf T .nil u1 xs=(xs.isEmpty):=rfl
theorem zdZ {u1 u2 u3}:chkK cf T (.star u1) u2 u3=(false):=rfl
theorem zey {e r cn xs}:chkK cf T (.cons e r) cn xs=((match xs with
    | ⟨_,x,_⟩::xs=>chkE cf T e cn false x .And []&&chkK cf T r cn xs
    | []=>false)):=rfl
theorem zhW {u1 x}:chkO cf T .none u1 x=(x.isNone):=rfl
theorem zhI {e cn x}:chkO cf T (.some e) cn x=((match x with
    | some x=>chkE cf T e cn false x .And []
    | none=>false)):=rfl
theorem zkb {u1 xs}:chkQ cf T .none u1 xs=(xs.isEmpty):=rfl
theorem zkp {e cn xs}:chkQ cf T (.some e) cn xs=((match xs with
    | [x]=>chkE cf T e cn true x .And []
    | _=>false)):=rfl
theorem zfw {a cn u1 x}:chkI cf T (.seq a) cn u1 x=(chkE cf T a cn false x .And []):=rfl
theorem zc7 {a cn u1 x}:chkI cf T (.rng1 a) cn u1 x=((match x with
    | .Call (.Name f _) [x] [] _=>eqs f "range"&&glB cn f&&cf.blt.contains f&&noStar x&&chkE cf T a cn false x .And []
    | _=>false)):=rfl
theorem zdc {a b cn u1 x}:chkI cf T (.rng2 a b) cn u1 x=((match x with
    | .Call (.Name f _) [x,y] [] _=>eqs f "range"&&glB cn f&&cf.blt.contains f&&noStar x&&noStar y&&chkE cf T a cn false x .And []&&chkE cf T b cn false y .And []
    | _=>false)):=rfl
theorem zc4 {a cn t x}:chkI cf T (.enum a) cn t x=(zdA t&&(match x with
    | .Call (.Name f _) [x] [] _=>eqs f "enumerate"&&glB cn f&&cf.blt.contains f&&noStar x&&chkE cf T a cn false x .And []
    | _=>false)):=rfl
theorem zfx {a b cn t x}:chkI cf T (.zip a b) cn t x=(zdA t&&(match x with
    | .Call (.Name f _) [x,y] [] _=>eqs f "zip"&&glB cn f&&cf.blt.contains f&&noStar x&&noStar y&&chkE cf T a cn false x .And []&&chkE cf T b cn false y .And []
    | _=>false)):=rfl
theorem zfd {a b cn t x}:chkI cf T (.enz a b) cn t x=(zdA t&&(match x with
    | .Call (.Name f _) [.Call (.Name f2 _) [x,y] [] _] [] _=>eqs f "enumerate"&&glB cn f&&cf.blt.contains f&&eqs f2 "zip"&&glB cn f2&&cf.blt.contains f2&&noStar x&&noStar y&&chkE cf T a cn false x .And []&&chkE cf T b cn false y .And []
    | _=>false)):=rfl
theorem zc3 {a b c cn t x}:chkI cf T (.zip3 a b c) cn t x=(zdA t&&(match x with
    | .Call (.Name f _) [x,y,z] [] _=>eqs f "zip"&&glB cn f&&cf.blt.contains f&&noStar x&&noStar y&&noStar z&&chkE cf T a cn false x .And []&&chkE cf T b cn false y .And []&&chkE cf T c cn false z .And []
    | _=>false)):=rfl
theorem zfo {u1 u2 u3}:chkI cf T .bad u1 u2 u3=(true):=rfl
theorem zeN {i cn vs x}:chkG cf T (.var i) cn vs x=((match x with
    | .Name x _=>decide (cn.N[i]?=some x)&&locB cn x&&vs.contains i
    | _=>false)):=rfl
theorem zeQ {ts cn vs x}:chkG cf T (.tup ts) cn vs x=((match x with
    | .Tuple es _ _=>decide (es.length=zbi ts)&&es.all zaj&&chkGs cf T ts cn vs es
    | _=>false)):=rfl
theorem zcL {ts cn vs x}:chkG cf T (.star ts) cn vs x=((match x with
    | .Tuple es _ _=>(match es.getLast? with
      | some (.Starred te _)=>decide (es.dropLast.length+1=zbi ts)&&es.dropLast.all zaj&&zaj te&&chkGs cf T ts cn vs (es.dropLast++[te])
      | _=>false)
    | _=>false)):=rfl
theorem zcM {ts cn vs x}:chkG cf T (.sfst ts) cn vs x=((match x with
    | .Tuple (.Starred te _::es) _ _=>decide (es.length+1=zbi ts)&&es.all zaj&&zaj te&&chkGs cf T ts cn vs (te::es)
    | _=>false)):=rfl
theorem zeO {o i cn u1 x}:chkG cf T (.sub o i) cn u1 x=((match x with
    | .Subscript a b _=>zbc b&&chkE cf T o cn false a .And []&&chkE cf T i cn false b .And []
    | _=>false)):=rfl
theorem zc8 {o i cn u1 x}:chkG cf T (.dsub o i) cn u1 x=((match x with
    | .Subscript a b _=>zbc b&&chkE cf T o cn false a .And []&&chkE cf T i cn false b .And []
    | _=>false)):=rfl
theorem zcJ {o i cn u1 x}:chkG cf T (.nsub o i) cn u1 x=((match x with
    | .Subscript a b _=>zbc b&&chkE cf T o cn false a .And []&&chkE cf T i cn false b .And []
    | _=>false)):=rfl
theorem zcD {o n cn u1 x}:chkG cf T (.attr o n) cn u1 x=((match x with
    | .Attribute eo a _=>eqs a (cf.an n)&&chkE cf T o cn false eo .And []
    | _=>false)):=rfl
theorem zeE {u1 u2 u3}:chkG cf T .bad u1 u2 u3=(true):=rfl
theorem zhR {u1 u2 xs}:chkGs cf T .nil u1 u2 xs=(xs.isEmpty):=rfl
theorem zgt {t r cn vs xs}:chkGs cf T (.cons t r) cn vs xs=((match xs with
    | x::xs=>zaj x&&chkG cf T t cn vs x&&chkGs cf T r cn vs xs
    | []=>false)):=rfl
end
section
variable {cf:Cf} {T:Tb}
theorem zoU {t e cn s}:chkS cf T (.asg t e) cn s=((match s with
    | .Assign [tg] x pos=>asgB cf T t e cn tg x pos
    | _=>false)):=rfl
theorem zoM {is es cn s}:chkS cf T (.par is es) cn s=((match s with
    | .Assign [.Tuple [.Name x px,.Name y py] _ _] (.Tuple [a,b] _ _) _=>(match is with
      | [i,j]=>decide (cn.N[i]?=some x)&&decide (cn.N[j]?=some y)&&decide (i≠j)&&zcd cn x&&zcd cn y&&zlG x y px py [a,b]&&chkA cf T es cn [a,b]
      | _=>false)
    | .Assign [.Tuple [.Name x px,.Name y py,.Name z pz] _ _] (.Tuple [a,b,c] _ _) _=>(match is with
      | [i,j,l]=>decide (cn.N[i]?=some x)&&decide (cn.N[j]?=some y)&&decide (cn.N[l]?=some z)&&decide (i≠j)&&decide (i≠l)&&decide (j≠l)&&zcd cn x&&zcd cn y&&zcd cn z&&zk4 x y z px py pz [a,b,c]&&chkA cf T es cn [a,b,c]
      | _=>false)
    | _=>false)):=rfl
theorem zpF {i o e cn s}:chkS cf T (.aug i o e) cn s=((match s with
    | .AugAssign (.Name x _) op y _=>decide (op=opOf o)&&(decide (o=.add)||decide (o=.sub))&&decide (cn.N[i]?=some x)&&locB cn x&&chkE cf T e cn false y .And []
    | _=>false)):=rfl
theorem zmV {e cn s}:chkS cf T (.expr e) cn s=((match s with
    | .Expr x _=>zfz x&&chkE cf T e cn false x .And []
    | _=>false)):=rfl
theorem zqj {e cn s}:chkS cf T (.ret e) cn s=((match s with
    | .Return (some x) _=>chkE cf T e cn false x .And []
    | _=>false)):=rfl
theorem znh {u1 s}:chkS cf T .retn u1 s=((match s with
    | .Return none _=>true
    | _=>false)):=rfl
theorem zpk {u1 s}:chkS cf T .doc u1 s=((match s with
    | .Expr (.Constant (.str _) _ _) _=>true
    | _=>false)):=rfl
theorem zpP {c a b cn s}:chkS cf T (.ife c a b) cn s=((match s with
    | .If x y z _=>chkE cf T c cn true x .And []&&chkSs cf T a cn y&&chkSs cf T b cn z
    | _=>false)):=rfl
theorem zrL {t it b cn s}:chkS cf T (.fr t it b) cn s=((match s with
    | .For tg iter body [] _=>zaS iter&&chkI cf T it cn tg iter&&chkG cf T t cn (allS cn) tg&&chkSs cf T b cn body
    | _=>false)):=rfl
theorem zov {c b cn s}:chkS cf T (.whl c b) cn s=((match s with
    | .While x body [] _=>chkE cf T c cn true x .And []&&chkSs cf T b cn body
    | _=>false)):=rfl
theorem zob {u1 s}:chkS cf T .pass u1 s=((match s with
    | .Pass _=>true
    | _=>false)):=rfl
theorem zpx {u1 s}:chkS cf T .brk u1 s=((match s with
    | .Break _=>true
    | _=>false)):=rfl
theorem zm5 {u1 s}:chkS cf T .cont u1 s=((match s with
    | .Continue _=>true
    | _=>false)):=rfl
theorem zkX {c es cn s}:chkS cf T (.raise c es) cn s=((match s,cf.exs.lookup c with
    | .Raise (some (.Call (.Name y _) xs [] _)) none _,some _=>eqs y (cf.nm.cn c)&&cf.cls.contains c&&glB cn y&&ndB y&&chkA cf T es cn xs
    | _,_=>false)):=rfl
theorem zmt {c b cn s}:chkS cf T (.tryq c b) cn s=((match s with
    | .Try body [.ExceptHandler (some (.Name y _)) none (_::_) _] [] [] _=>eqs y (cf.nm.cn c)&&cf.cls.contains c&&glB cn y&&ndB y&&!cn.lw&&chkSs cf T b cn body
    | _=>false)):=rfl
theorem zmM {cs b c2 xs cn s}:chkS cf T (.tryr cs b c2 xs) cn s=((match s,cf.exs.lookup c2 with
    | .Try body [.ExceptHandler (some he) none [.Raise (some (.Call (.Name y _) es [] _)) (some (.Constant .none _ _)) _] _] [] [] _,some _=>clB cf cn cs he&&eqs y (cf.nm.cn c2)&&cf.cls.contains c2&&glB cn y&&ndB y&&suB cn.N cf.an (visB cn) xs es&&!es.isEmpty&&!cn.lw&&chkSs cf T b cn body
    | _,_=>false)):=rfl
theorem zmT {cs b d cn s}:chkS cf T (.tryk cs b d) cn s=((match s with
    | .Try body [.ExceptHandler (some he) none [.Return (some e) _] _] [] [] _=>clB cf cn cs he&&cstB d e&&!cn.lw&&chkSs cf T b cn body
    | _=>false)):=rfl
theorem zgq {u1 xs}:chkSs cf T .nil u1 xs=(xs.isEmpty):=rfl
theorem ze2 {u1 u2 u3 u4 u5 u6 u7 u8 u9 u10}:chkSs cf T (.repR u1 u2 u3 u4 u5 u6 u7 u8) u9 u10=(false):=rfl
theorem zeX {s r cn xs}:chkSs cf T (.cons s r) cn xs=((match xs with
    | x::xs=>chkS cf T s cn x&&chkSs cf T r cn xs
    | []=>false)):=rfl
end
end Mi
end
section
set_option maxHeartbeats 8000000
namespace Mi
open PySem PySem.Spec PyProof.Rows L2
section
variable {g:G} {T:Tb} {cf:Cf} {dt:Nat→FuncData} {C:Nat→List D→M D} {k:Nat} {X:Cx} {W:WX} {cn:Cn}
theorem zbC {x:Str} (n:CnOk g T cf dt C k X cn) (h:glB cn x=true):Gl X x:=by
 unfold glB at h
 show X.env.scope.names.lookup x=_
 rw [n.sc]
 split at h
 ·assumption
 ·cases h
theorem zl5 {x:Str} (n:CnOk g T cf dt C k X cn) (h:visB cn x=true):Vis X.env.scope x:=by
 unfold visB at h
 unfold Vis
 rw [n.sc]
 split at h
 ·exact .inl (by assumption)
 ·exact .inr (.inl (by assumption))
 ·exact .inr (.inr (by assumption))
 ·cases h
theorem zkn {x:Str} (n:CnOk g T cf dt C k X cn) (h:locB cn x=true):L2.Loc X.env.scope x∧(X.fn x=true∨X.env.scope.names.lookup x=some .local):=by
 unfold locB at h
 unfold L2.Loc
 rw [n.sc]
 split at h
 ·exact ⟨.inl (by assumption),.inr (by assumption)⟩
 ·exact ⟨.inr (by assumption),.inl (n.fn x h)⟩
 ·cases h
theorem zbQ {x:Str} (n:CnOk g T cf dt C k X cn) (h:zcd cn x=true):X.env.scope.names.lookup x=some .local:=by
 unfold zcd at h
 rw [n.sc]
 split at h
 ·assumption
 ·cases h
theorem zfF {x:Str} (h:ndB x=true):(x==("__debug__":Str))=false:=by
 unfold ndB at h
 simpa using h
theorem zrN {x:Str} (h:ncB x=true):(x==("__classdict__":Str))=false:=by
 unfold ncB at h
 simpa using h
theorem N_of {i:Nat} {x:Str} (n:CnOk g T cf dt C k X cn) (h:cn.N[i]?=some x):X.N[i]?=some x:=by rw [n.N]; exact h
theorem zlM {op:BoolOp} {x:Expr} {t:TE} {pos:Pos} (h:PE X x t):PE X (.BoolOp op [x] pos) t:=⟨fun pins s σ H Q I q=>h.run pins s σ H Q I q⟩
def OkE (g:G) (T:Tb) (C:Nat→List D→M D) (X:Cx) (W:WX) (e:Ex) (tm:Bool) (x:Expr) (op:BoolOp) (r:List Expr):Prop:=∀pos:Pos,match tm,r with
 | false,[]=>PE X x (tM g W (evE T C e))
 | false,y::ys=>PE X (.BoolOp op (x::y::ys) pos) (tM g W (evE T C e))
 | true,[]=>PT X x (tMT g W (evB T C e))
 | true,y::ys=>PW X (.BoolOp op (x::y::ys) pos) (tMT g W (evB T C e))
theorem OkE.pe {e:Ex} {x:Expr} {op:BoolOp} (h:OkE g T C X W e false x op []):PE X x (tM g W (evE T C e)):=h ⟨0,0,0,0⟩
theorem OkE.pt {e:Ex} {x:Expr} {op:BoolOp} (h:OkE g T C X W e true x op []):PT X x (tMT g W (evB T C e)):=h ⟨0,0,0,0⟩
theorem OkE.tail {e:Ex} {x:Expr} {op:BoolOp} {r:List Expr} {pos:Pos} (h:OkE g T C X W e false x op r):PE X (.BoolOp op (x::r) pos) (tM g W (evE T C e)):=by
 cases r with
 | nil=>exact zlM h.pe
 | cons y ys=>exact h pos
theorem OkE.tailA {e:Ex} {x:Expr} {r:List Expr} {pos:Pos} (h:OkE g T C X W e true x .And r):PW X (.BoolOp .And (x::r) pos) (tMT g W (evB T C e)):=by
 cases r with
 | nil=>exact pw_and1 h.pt
 | cons y ys=>exact h pos
theorem OkE.tailO {e:Ex} {x:Expr} {r:List Expr} {pos:Pos} (h:OkE g T C X W e true x .Or r):PW X (.BoolOp .Or (x::r) pos) (tMT g W (evB T C e)):=by
 cases r with
 | nil=>exact pw_or1 h.pt
 | cons y ys=>exact h pos
theorem okV {e:Ex} {tm:Bool} {x:Expr} {op:BoolOp} (c:CxOk g T cf dt C k X W) (hp:zcN x=true) (h:PE X x (tM g W (evE T C e))):OkE g T C X W e tm x op []:=by
 intro pos
 cases tm with
 | false=>exact h
 | true=>exact znP c hp h
theorem okT {e:Ex} {tm:Bool} {x:Expr} {op:BoolOp} (h:PE X x (tM g W (evE T C e))) (h':PT X x (tMT g W (evB T C e))):OkE g T C X W e tm x op []:=by
 intro pos
 cases tm with
 | false=>exact h
 | true=>exact h'
theorem zeV {x:Expr} (h:zdA x=true):∃es j p,x=.Tuple es j p:=by
 cases x<;>first | exact ⟨_,_,_,rfl⟩ | cases h
theorem zka (c:CxOk g T cf dt C k X W) (n:CnOk g T cf dt C k X cn):∀ {t:Ty} {x:Expr},tyB cf cn t x=true→PE X x (tC (tyV' g t))
 | .bt nm,.Name y p,h=>by
  simp only [tyB,Bool.and_eq_true] at h
  obtain ⟨⟨⟨h1,h2⟩,h3⟩,h4⟩:=h
  cases zap h1
  exact zq9 c h2 (zbC n h3) h4
 | .own cc,.Name y p,h=>by
  simp only [tyB,Bool.and_eq_true] at h
  obtain ⟨⟨⟨h1,h2⟩,h3⟩,h4⟩:=h
  cases zap h1
  exact zoj c h2 (zbC n h3) (zfF h4)
theorem zkw (c:CxOk g T cf dt C k X W) (n:CnOk g T cf dt C k X cn):∀ {ts:List Ty} {xs:List Expr},tysB cf cn ts xs=true→PA X xs (tys (g:=g) ts)
 | [],[],_=>zmQ
 | t::ts,x::xs,h=>by
  simp only [tysB,Bool.and_eq_true] at h
  exact zlP h.1.1 (zka c n h.1.2) (zkw c n h.2)
theorem ze3 {es:Exs} (h:chkA cf T es cn []=true):es=.nil:=by
 cases es with
 | nil=>rfl
 | star e=>simp only [zcY,zbY,zbZ] at h; cases h
 | cons e r=>simp only [zcY,zbY,zbZ] at h; cases h
theorem zgI {es:Exs} {ks:List Nat} (h:chkK cf T es cn []=true) (hk:zat []=some (ks.map cf.an)):es=.nil∧ks=[]:=by
 refine ⟨?_, ?_⟩
 ·cases es with
  | nil=>rfl
  | star e=>simp only [zgc,zdZ,zey] at h; cases h
  | cons e r=>simp only [zgc,zdZ,zey] at h; cases h
 ·simp only [zat,Option.some.injEq] at hk
  cases ks with
  | nil=>rfl
  | cons a b=>cases hk
theorem zbF:∀ {es:Exs} {xs:List Expr},chkA cf T es cn xs=true→xs.all noStar=true
 | .nil,[],_=>rfl
 | .star _,_,h=>by simp only [zcY,zbY,zbZ] at h; cases h
 | .nil,_::_,h=>by simp only [zcY,zbY,zbZ] at h; cases h
 | .cons e r,[],h=>by simp only [zcY,zbY,zbZ] at h; cases h
 | .cons e r,x::xs,h=>by
  simp only [zcY,zbY,zbZ,Bool.and_eq_true] at h
  rw [List.all_cons,h.1.1,zbF h.2]
  rfl
theorem zck {N:List Str}:∀own:List Nat,(ownP N own).map (·.2)=own
 | []=>rfl
 | v::vs=>congrArg (v::·) (zck vs)
theorem zcQ {scope:Scope} {cl:List (Str×Addr)} {C':Addr} {env:Env} {sc:Scope} (h:env.scope=sc):(compEnvC scope cl C' env).scope=relS scope sc:=by
 subst h
 rfl
end
section
variable {g:G} {T:Tb} {cf:Cf} {dt:Nat→FuncData} {C:Nat→List D→M D} {k:Nat}
mutual
theorem okE:∀(e:Ex) (cn:Cn) (tm:Bool) (x:Expr) (op:BoolOp) (r:List Expr) (X:Cx) (W:WX),CxOk g T cf dt C k X W→CnOk g T cf dt C k X cn→chkE cf T e cn tm x op r=true→OkE g T C X W e tm x op r
 | .var i,cn,tm,x,op,r,X,W,c,n,h=>by
  simp only [zqn] at h
  split at h
  ·simp only [Bool.and_eq_true,decide_eq_true_eq] at h
   obtain ⟨⟨⟨h1,h2⟩,h3⟩,h4⟩:=h
   exact okV c rfl (zsb (N_of n h1) (zl5 n h2) (zfF h3) (zrN h4))
  ·cases h
 | .cint i,cn,tm,x,op,r,X,W,c,n,h=>by
  simp only [znK] at h
  split at h
  ·cases of_decide_eq_true h
   exact okV c rfl zoA
  ·cases h
 | .cstr i,cn,tm,x,op,r,X,W,c,n,h=>by
  simp only [znb] at h
  split at h
  ·cases zap h
   exact okV c rfl zpc
  ·cases h
 | .cbl i,cn,tm,x,op,r,X,W,c,n,h=>by
  simp only [zoR] at h
  split at h
  ·cases of_decide_eq_true h
   exact okV c rfl zra
  ·cases h
 | .cnon,cn,tm,x,op,r,X,W,c,n,h=>by
  simp only [znI] at h
  split at h
  ·exact okV c rfl zpW
  ·cases h
 | .gcon i,cn,tm,x,op,r,X,W,c,n,h=>by
  simp only [znl,Bool.false_eq_true] at h
 | .bop o a b,cn,tm,x,op,r,X,W,c,n,h=>by
  simp only [zqr] at h
  split at h
  ·simp only [Bool.and_eq_true,decide_eq_true_eq] at h
   obtain ⟨⟨h1,h2⟩,h3⟩:=h
   subst h1
   exact okV c rfl (zre c (okE a _ _ _ _ _ X W c n h2).pe (okE b _ _ _ _ _ X W c n h3).pe)
  ·cases h
 | .neg a,cn,tm,x,op,r,X,W,c,n,h=>by
  simp only [zpK] at h
  split at h
  ·exact okV c rfl (zrI (okE a _ _ _ _ _ X W c n h).pe)
  ·cases h
 | .cmp o a b,cn,tm,x,op,r,X,W,c,n,h=>by
  simp only [zpZ] at h
  split at h
  ·simp only [Bool.and_eq_true,decide_eq_true_eq] at h
   obtain ⟨⟨⟨h1,h2⟩,h3⟩,h4⟩:=h
   subst h1
   have ha:=(okE a _ _ _ _ _ X W c n h3).pe
   have hb:=(okE b _ _ _ _ _ X W c n h4).pe
   exact okT (zrW c h2 ha hb) (zrz c h2 ha hb)
  ·cases h
 | .isn a,cn,tm,x,op,r,X,W,c,n,h=>by
  simp only [zp9] at h
  split at h
  ·have ha:=(okE a _ _ _ _ _ X W c n h).pe
   exact okT (zrK ha) (zrY ha)
  ·cases h
 | .nisn a,cn,tm,x,op,r,X,W,c,n,h=>by
  simp only [znj,Bool.false_eq_true] at h
 | .isb ng a p,cn,tm,x,op,r,X,W,c,n,h=>by
  simp only [zog,Bool.false_eq_true] at h
 | .chain o p a b c',cn,tm,x,op,r,X,W,c,n,h=>by
  simp only [zlr] at h
  split at h
  ·simp only [Bool.and_eq_true,decide_eq_true_eq] at h
   obtain ⟨⟨⟨⟨⟨h1,h1'⟩,h2⟩,h3⟩,h4⟩,h5⟩:=h
   subst h1 h1'
   have ha:=(okE a _ _ _ _ _ X W c n h3).pe
   have hb:=(okE b _ _ _ _ _ X W c n h4).pe
   have hc:=(okE c' _ _ _ _ _ X W c n h5).pe
   exact okT (znQ c h2 ha hb hc) (znE c h2 ha hb hc)
  ·cases h
 | .and a b,cn,tm,x,op,r,X,W,c,n,h=>by
  simp only [zqG] at h
  split at h
  ·split at h
   ·simp only [Bool.and_eq_true] at h
    have ha:=okE a _ _ _ _ _ X W c n h.1
    have hb:=okE b _ _ _ _ _ X W c n h.2
    cases tm with
    | false=>exact fun _=>zqB c ha.pe hb.tail
    | true=>exact fun _=>(zqN ha.pt hb.tailA).pt
   ·cases h
  ·simp only [Bool.and_eq_true,decide_eq_true_eq] at h
   obtain ⟨⟨h1,h2⟩,h3⟩:=h
   subst h1
   have ha:=okE a _ _ _ _ _ X W c n h2
   have hb:=okE b _ _ _ _ _ X W c n h3
   cases tm with
   | false=>exact fun _=>zqB c ha.pe hb.tail
   | true=>exact fun _=>zqN ha.pt hb.tailA
 | .or a b,cn,tm,x,op,r,X,W,c,n,h=>by
  simp only [zrl] at h
  split at h
  ·split at h
   ·simp only [Bool.and_eq_true] at h
    have ha:=okE a _ _ _ _ _ X W c n h.1
    have hb:=okE b _ _ _ _ _ X W c n h.2
    cases tm with
    | false=>exact fun _=>m_or c ha.pe hb.tail
    | true=>exact fun _=>(w_or ha.pt hb.tailO).pt
   ·cases h
  ·simp only [Bool.and_eq_true,decide_eq_true_eq] at h
   obtain ⟨⟨h1,h2⟩,h3⟩:=h
   subst h1
   have ha:=okE a _ _ _ _ _ X W c n h2
   have hb:=okE b _ _ _ _ _ X W c n h3
   cases tm with
   | false=>exact fun _=>m_or c ha.pe hb.tail
   | true=>exact fun _=>w_or ha.pt hb.tailO
 | .not a,cn,tm,x,op,r,X,W,c,n,h=>by
  simp only [zpO] at h
  split at h
  ·have ha:=okE a _ _ _ _ _ X W c n h
   cases tm with
   | false=>exact fun _=>zr7 c ha.pe
   | true=>exact fun _=>zri ha.pt
  ·cases h
 | .ife c' a b,cn,tm,x,op,r,X,W,c,n,h=>by
  simp only [zoC] at h
  split at h
  ·simp only [Bool.and_eq_true] at h
   obtain ⟨⟨⟨h0,h1⟩,h2⟩,h3⟩:=h
   cases tm with
   | true=>cases h0
   | false=>exact fun _=>zrn (okE c' _ _ _ _ _ X W c n h1).pt (okE a _ _ _ _ _ X W c n h2).pe (okE b _ _ _ _ _ X W c n h3).pe
  ·cases h
 | .tup es,cn,tm,x,op,r,X,W,c,n,h=>by
  simp only [zow] at h
  split at h
  ·exact okV c rfl (zrZ (okAS es _ _ X W c n h))
  ·cases h
 | .lst es,cn,tm,x,op,r,X,W,c,n,h=>by
  simp only [zo9] at h
  split at h
  ·exact okV c rfl (zq6 (okAS es _ _ X W c n h))
  ·cases h
 | .sl a lo hi,cn,tm,x,op,r,X,W,c,n,h=>by
  simp only [zq7] at h
  split at h
  ·simp only [Bool.and_eq_true] at h
   exact okV c rfl (m_sl c (okE a _ _ _ _ _ X W c n h.1.1).pe (okO lo _ _ X W c n h.1.2) (okO hi _ _ X W c n h.2))
  ·cases h
 | .ix a i,cn,tm,x,op,r,X,W,c,n,h=>by
  simp only [zrO] at h
  split at h
  ·simp only [Bool.and_eq_true] at h
   exact okV c rfl (m_ix c h.1.1 (okE a _ _ _ _ _ X W c n h.1.2).pe (okE i _ _ _ _ _ X W c n h.2).pe)
  ·cases h
 | .call f es ks kes,cn,tm,x,op,r,X,W,c,n,h=>by
  simp only [znw] at h
  split at h
  ·simp only [Bool.and_eq_true,decide_eq_true_eq] at h
   obtain ⟨⟨⟨⟨⟨⟨⟨⟨h1,h2⟩,h3⟩,h4⟩,h5⟩,h6⟩,h7⟩,h8⟩,h9⟩:=h
   cases zap h1
   exact okV c rfl (zo6 c h2 h3 (zbC n h4) (zfF h5) (zbF h8) h6 h7 (fun z=>by subst z; exact ze3 h8) (fun z=>by subst z; exact zgI h9 h7) (okA es _ _ X W c n h8) (okK kes _ _ X W c n h9))
  ·cases h
 | .mkS f a ks kes,cn,tm,x,op,r,X,W,c,n,h=>by
  simp only [zoP,Bool.false_eq_true] at h
 | .mkT f a es ks kes,cn,tm,x,op,r,X,W,c,n,h=>by
  simp only [zqK,Bool.false_eq_true] at h
 | .make f es ks kes,cn,tm,x,op,r,X,W,c,n,h=>by
  simp only [zn0,Bool.false_eq_true] at h
 | .meth o m es ks kes,cn,tm,x,op,r,X,W,c,n,h=>by
  simp only [znU,Bool.false_eq_true] at h
 | .mkx f es ks kn kes,cn,tm,x,op,r,X,W,c,n,h=>by
  simp only [zoh] at h
  split at h
  ·rename_i q hl
   obtain ⟨np,fl⟩:=q
   simp only [Bool.and_eq_true,decide_eq_true_eq] at h
   obtain ⟨⟨⟨⟨⟨⟨⟨⟨h1,h2⟩,h3⟩,h4⟩,h5⟩,h6⟩,h7⟩,h8⟩,h9⟩:=h
   cases zap h1
   exact okV c rfl (zrB c hl h2 (zbC n h3) (zfF h4) (zbF h8) h5 h6 h7 (fun z=>by subst z; exact ze3 h8) (fun z=>by subst z; exact zgI h9 h6) (okA es _ _ X W c n h8) (okK kes _ _ X W c n h9))
  ·cases h
 | .atx o m,cn,tm,x,op,r,X,W,c,n,h=>by
  simp only [zoB] at h
  split at h
  ·simp only [Bool.and_eq_true] at h
   cases zap h.1.1
   exact okV c rfl (zrj c h.1.2 (okE o _ _ _ _ _ X W c n h.2).pe)
  ·cases h
 | .isx a t,cn,tm,x,op,r,X,W,c,n,h=>by
  simp only [zqC] at h
  split at h
  ·simp only [Bool.and_eq_true] at h
   obtain ⟨⟨⟨⟨⟨⟨h1,h2⟩,h3⟩,h4⟩,h5⟩,h6⟩,h7⟩:=h
   cases zap h1
   exact okV c rfl (zr9 c (zbC n h2) h3 h4 h5 (okE a _ _ _ _ _ X W c n h6).pe (zka c n h7))
  ·cases h
 | .attr o m,cn,tm,x,op,r,X,W,c,n,h=>by
  simp only [zmH,Bool.false_eq_true] at h
 | .bi b es,cn,tm,x,op,r,X,W,c,n,h=>by
  simp only [zrq] at h
  split at h
  ·simp only [Bool.and_eq_true] at h
   obtain ⟨⟨⟨h1,h2⟩,h3⟩,h4⟩:=h
   cases zap h1
   have hst:=zbF h4
   rw [List.all_cons,Bool.and_eq_true] at hst
   exact okV c rfl (m_bi c (zbC n h2) h3 hst.1 hst.2 (okA es _ _ X W c n h4))
  ·cases h
 | .bm b o es,cn,tm,x,op,r,X,W,c,n,h=>by
  simp only [zrb] at h
  split at h
  ·simp only [Bool.and_eq_true] at h
   obtain ⟨⟨⟨⟨h1,h2⟩,h3⟩,h4⟩,h5⟩:=h
   cases zap h1
   have hst:=zbF h5
   rw [List.all_cons,Bool.and_eq_true] at hst
   exact okV c rfl (m_bm c h2 hst.1 hst.2 h3 (okE o _ _ _ _ _ X W c n h4).pe (okA es _ _ X W c n h5))
  ·cases h
 | .isin a ts,cn,tm,x,op,r,X,W,c,n,h=>by
  simp only [zm8] at h
  split at h
  ·simp only [Bool.and_eq_true] at h
   obtain ⟨⟨⟨⟨⟨h1,h2⟩,h3⟩,h4⟩,h5⟩,h6⟩:=h
   cases zap h1
   have ha:=(okE a _ _ _ _ _ X W c n h5).pe
   split at h6
   ·simp only [Bool.and_eq_true,decide_eq_true_eq] at h6
    exact okV c rfl (znc c (zbC n h2) h3 h4 (by
      intro z
      subst z
      have:=h6.1.1
      simp at this) h6.1.2 ha (zkw c n h6.2))
   ·split at h6
    ·simp only [Bool.and_eq_true] at h6
     exact okV c rfl (znW c (zbC n h2) h3 h4 h6.1 ha (zka c n h6.2))
    ·cases h6
  ·cases h
 | .fstr es,cn,tm,x,op,r,X,W,c,n,h=>by
  simp only [zms,Bool.false_eq_true] at h
 | .lrng a,cn,tm,x,op,r,X,W,c,n,h=>by
  simp only [zm2] at h
  split at h
  ·simp only [Bool.and_eq_true] at h
   obtain ⟨⟨⟨⟨⟨⟨⟨h1,h2⟩,h3⟩,h4⟩,h5⟩,h6⟩,h7⟩,h8⟩:=h
   have e1:=of_decide_eq_true h1
   have e2:=of_decide_eq_true h2
   subst e1 e2
   exact okV c rfl (zpn c (zbC n h3) h5 (zbC n h4) h6 h7 (okE a _ _ _ _ _ X W c n h8).pe)
  ·cases h
 | .lens a,cn,tm,x,op,r,X,W,c,n,h=>by
  simp only [znv,Bool.false_eq_true] at h
 | .srt a,cn,tm,x,op,r,X,W,c,n,h=>by
  simp only [zpJ,Bool.false_eq_true] at h
 | .dpr a,cn,tm,x,op,r,X,W,c,n,h=>by
  simp only [zoT,Bool.false_eq_true] at h
 | .ktu a,cn,tm,x,op,r,X,W,c,n,h=>by
  simp only [zqy,Bool.false_eq_true] at h
 | .tix o i,cn,tm,x,op,r,X,W,c,n,h=>by
  simp only [zpg,Bool.false_eq_true] at h
 | .eqo ng a b,cn,tm,x,op,r,X,W,c,n,h=>by
  simp only [zoV,Bool.false_eq_true] at h
 | .eql ng a b,cn,tm,x,op,r,X,W,c,n,h=>by
  simp only [zpT,Bool.false_eq_true] at h
 | .ino ng a b,cn,tm,x,op,r,X,W,c,n,h=>by
  simp only [zpe,Bool.false_eq_true] at h
 | .dix a i,cn,tm,x,op,r,X,W,c,n,h=>by
  simp only [zoi,Bool.false_eq_true] at h
 | .din ng a d,cn,tm,x,op,r,X,W,c,n,h=>by
  simp only [zpv,Bool.false_eq_true] at h
 | .nix a i,cn,tm,x,op,r,X,W,c,n,h=>by
  simp only [zqQ,Bool.false_eq_true] at h
 | .nin ng a d,cn,tm,x,op,r,X,W,c,n,h=>by
  simp only [zpH,Bool.false_eq_true] at h
 | .dnil,cn,tm,x,op,r,X,W,c,n,h=>by
  simp only [zn1,Bool.false_eq_true] at h
 | .kix k i,cn,tm,x,op,r,X,W,c,n,h=>by
  simp only [zqm,Bool.false_eq_true] at h
 | .kin ng k a,cn,tm,x,op,r,X,W,c,n,h=>by
  simp only [zqI,Bool.false_eq_true] at h
 | .dc kx vx t it oi own,cn,tm,x,op,r,X,W,c,n,h=>by
  simp only [zqd] at h
  split at h
  ·rename_i ekx evx tg iter ifs scope pos
   simp only [Bool.and_eq_true] at h
   obtain ⟨⟨⟨⟨⟨⟨h1,h2⟩,h3⟩,h4⟩,h5⟩,h5'⟩,h6⟩:=h
   have bn:∀(s:Shared) (H:Hp) (C':Addr) (cl:List (Str×Addr)) (fp:List Addr),CnOk g T cf dt C k (X.blk s H scope (compEnvC scope cl C' X.env) fp) ⟨cn.N,relS scope cn.sc,celB scope,false⟩:=fun s H C' cl fp=>⟨n.N,zcQ n.sc,(fun _ h=>h),fun z=>by cases z⟩
   refine okV c rfl (m_dc c (okIt it _ _ _ X W c n h2) (blkOk_by (own:=ownP cn.N own) (by rw [n.N,n.sc]; exact h3)) (zck own) (fun s H C' cl fp=>?_) (fun s H C' cl fp=>?_) (fun s H C' cl fp=>?_) (fun s H C' cl fp=>?_) h1)
   ·exact okG t _ _ _ _ _ (c.blk s H scope _ fp) (bn s H C' cl fp) h4
   ·exact okQ oi _ _ _ _ (c.blk s H scope _ fp) (bn s H C' cl fp) h6
   ·exact (okE kx _ _ _ _ _ _ _ (c.blk s H scope _ fp) (bn s H C' cl fp) h5).pe
   ·exact (okE vx _ _ _ _ _ _ _ (c.blk s H scope _ fp) (bn s H C' cl fp) h5').pe
  ·cases h
 | .repro a,cn,tm,x,op,r,X,W,c,n,h=>by
  simp only [zlp,Bool.false_eq_true] at h
 | .clsc cc m,cn,tm,x,op,r,X,W,c,n,h=>by
  simp only [zod,Bool.false_eq_true] at h
 | .lc e t it oi own,cn,tm,x,op,r,X,W,c,n,h=>by
  simp only [zpz] at h
  split at h
  ·rename_i elt tg iter ifs scope pos
   simp only [Bool.and_eq_true] at h
   obtain ⟨⟨⟨⟨⟨h1,h2⟩,h3⟩,h4⟩,h5⟩,h6⟩:=h
   have bn:∀(s:Shared) (H:Hp) (C':Addr) (cl:List (Str×Addr)) (fp:List Addr),CnOk g T cf dt C k (X.blk s H scope (compEnvC scope cl C' X.env) fp) ⟨cn.N,relS scope cn.sc,celB scope,false⟩:=fun s H C' cl fp=>⟨n.N,zcQ n.sc,(fun _ h=>h),fun z=>by cases z⟩
   refine okV c rfl (m_lc c (okIt it _ _ _ X W c n h2) (blkOk_by (own:=ownP cn.N own) (by rw [n.N,n.sc]; exact h3)) (zck own) (fun s H C' cl fp=>?_) (fun s H C' cl fp=>?_) (fun s H C' cl fp=>?_) h1)
   ·exact okG t _ _ _ _ _ (c.blk s H scope _ fp) (bn s H C' cl fp) h4
   ·exact okQ oi _ _ _ _ (c.blk s H scope _ fp) (bn s H C' cl fp) h6
   ·exact (okE e _ _ _ _ _ _ _ (c.blk s H scope _ fp) (bn s H C' cl fp) h5).pe
  ·cases h
 | .lct j es t it oi own,cn,tm,x,op,r,X,W,c,n,h=>by
  simp only [zoI,Bool.false_eq_true] at h
 | .maxd a i,cn,tm,x,op,r,X,W,c,n,h=>by
  simp only [znp,Bool.false_eq_true] at h
 | .ddsp kvs,cn,tm,x,op,r,X,W,c,n,h=>by
  simp only [zmU,Bool.false_eq_true] at h
 | .leno a,cn,tm,x,op,r,X,W,c,n,h=>by
  simp only [znn,Bool.false_eq_true] at h
 | .unk a,cn,tm,x,op,r,X,W,c,n,h=>by
  simp only [zoW] at h
  split at h
  ·simp only [Bool.and_eq_true] at h
   obtain ⟨h1,h2⟩:=h
   exact okV c h1 (zrx (okE a _ _ _ _ _ X W c n h2).pe)
  ·cases h
 | .upp a,cn,tm,x,op,r,X,W,c,n,h=>by
  simp only [zp8,Bool.false_eq_true] at h
 | .stat cc m es ks kes,cn,tm,x,op,r,X,W,c,n,h=>by
  simp only [zmX,Bool.false_eq_true] at h
 | .rev a,cn,tm,x,op,r,X,W,c,n,h=>by
  simp only [zok,Bool.false_eq_true] at h
 | .kget j i d,cn,tm,x,op,r,X,W,c,n,h=>by
  simp only [znA,Bool.false_eq_true] at h
 | .sdf a i d,cn,tm,x,op,r,X,W,c,n,h=>by
  simp only [zoq,Bool.false_eq_true] at h
 | .dget a i d,cn,tm,x,op,r,X,W,c,n,h=>by
  simp only [zn5,Bool.false_eq_true] at h
 | .lensc e t it oi own,cn,tm,x,op,r,X,W,c,n,h=>by
  simp only [zlc,Bool.false_eq_true] at h
 | .srsi e t it oi own,cn,tm,x,op,r,X,W,c,n,h=>by
  simp only [zn7,Bool.false_eq_true] at h
 | .srs2 e t it oi own t1 it1 oi1 vs1,cn,tm,x,op,r,X,W,c,n,h=>by
  simp only [zmD,Bool.false_eq_true] at h
 | .lc2 e t it oi own t1 it1 oi1 vs1,cn,tm,x,op,r,X,W,c,n,h=>by
  simp only [zmb] at h
  split at h
  ·rename_i elt tg iter ifs tg1 iter1 ifs1 scope _
   simp only [Bool.and_eq_true] at h
   obtain ⟨⟨⟨⟨⟨⟨⟨⟨⟨⟨h1,h1b⟩,hv⟩,h2⟩,h3⟩,h4⟩,h6⟩,k2⟩,k4⟩,k6⟩,h5⟩:=h
   have bn:∀(s:Shared) (H:Hp) (C':Addr) (cl:List (Str×Addr)) (fp:List Addr),CnOk g T cf dt C k (X.blk s H scope (compEnvC scope cl C' X.env) fp) ⟨cn.N,relS scope cn.sc,celB scope,false⟩:=fun s H C' cl fp=>⟨n.N,zcQ n.sc,(fun _ h=>h),fun z=>by cases z⟩
   refine okV c rfl (zrf c (okIt it _ _ _ X W c n h2) (blkOk_by (own:=ownP cn.N own) (by rw [n.N,n.sc]; exact h3)) (zck own) (fun i hi=>List.contains_iff_mem.mp (List.all_eq_true.mp hv i hi)) (fun s H C' cl fp=>?_) (fun s H C' cl fp=>?_) (fun s H C' cl fp=>?_) (fun s H C' cl fp=>?_) (fun s H C' cl fp=>?_) (fun s H C' cl fp=>?_) h1 h1b)
   ·exact okG t _ _ _ _ _ (c.blk s H scope _ fp) (bn s H C' cl fp) h4
   ·exact okQ oi _ _ _ _ (c.blk s H scope _ fp) (bn s H C' cl fp) h6
   ·exact okIt it1 _ _ _ _ _ (c.blk s H scope _ fp) (bn s H C' cl fp) k2
   ·exact okG t1 _ _ _ _ _ (c.blk s H scope _ fp) (bn s H C' cl fp) k4
   ·exact okQ oi1 _ _ _ _ (c.blk s H scope _ fp) (bn s H C' cl fp) k6
   ·exact (okE e _ _ _ _ _ _ _ (c.blk s H scope _ fp) (bn s H C' cl fp) h5).pe
  ·cases h
 | .lam j,cn,tm,x,op,r,X,W,c,n,h=>by
  simp only [zoQ,Bool.false_eq_true] at h
 | .try1 a es,cn,tm,x,op,r,X,W,c,n,h=>by
  simp only [zn8,Bool.false_eq_true] at h
 | .tries a es,cn,tm,x,op,r,X,W,c,n,h=>by
  simp only [zls,Bool.false_eq_true] at h
 | .bad,cn,tm,x,op,r,X,W,c,n,h=>by
  intro pos
  cases tm<;>cases r
  ·exact zqL
  ·exact zqL
  ·exact ⟨fun pins s σ H Q I ⟨m,L, ρ,hr,lr,po⟩=>po.elim⟩
  ·exact ⟨fun wh pins s σ H Q I ⟨m,L, ρ,hr,lr,po⟩=>po.elim⟩
termination_by structural e=>e
theorem okAS:∀(es:Exs) (cn:Cn) (xs:List Expr) (X:Cx) (W:WX),CxOk g T cf dt C k X W→CnOk g T cf dt C k X cn→chkAS cf T es cn xs=true→PA X xs (tMA g W (evEs T C es))
 | .nil,cn,[],X,W,c,n,h=>zor
 | .nil,cn,_::_,X,W,c,n,h=>by simp only [zgk,zeZ,zeY] at h; cases h
 | .star e,cn,xs,X,W,c,n,h=>by
  simp only [zgk,zeZ,zeY] at h
  split at h
  ·exact zoJ c (okE e _ _ _ _ _ X W c n h).pe
  ·cases h
 | .cons e r,cn,[],X,W,c,n,h=>by simp only [zgk,zeZ,zeY] at h; cases h
 | .cons e r,cn,x::xs,X,W,c,n,h=>by
  simp only [zgk,zeZ,zeY,Bool.and_eq_true] at h
  exact zmo h.1.1 (okE e _ _ _ _ _ X W c n h.1.2).pe (okAS r _ _ X W c n h.2)
termination_by structural e=>e
theorem okA:∀(es:Exs) (cn:Cn) (xs:List Expr) (X:Cx) (W:WX),CxOk g T cf dt C k X W→CnOk g T cf dt C k X cn→chkA cf T es cn xs=true→PA X xs (tMA g W (evEs T C es))
 | .nil,cn,[],X,W,c,n,h=>zor
 | .star _,cn,_,X,W,c,n,h=>by simp only [zcY,zbY,zbZ] at h; cases h
 | .nil,cn,_::_,X,W,c,n,h=>by simp only [zcY,zbY,zbZ] at h; cases h
 | .cons e r,cn,[],X,W,c,n,h=>by simp only [zcY,zbY,zbZ] at h; cases h
 | .cons e r,cn,x::xs,X,W,c,n,h=>by
  simp only [zcY,zbY,zbZ,Bool.and_eq_true] at h
  exact zmo h.1.1 (okE e _ _ _ _ _ X W c n h.1.2).pe (okA r _ _ X W c n h.2)
termination_by structural e=>e
theorem okK:∀(es:Exs) (cn:Cn) (xs:List Keyword) (X:Cx) (W:WX),CxOk g T cf dt C k X W→CnOk g T cf dt C k X cn→chkK cf T es cn xs=true→PK X xs (tMA g W (evEs T C es))
 | .nil,cn,[],X,W,c,n,h=>zrV
 | .star _,cn,_,X,W,c,n,h=>by simp only [zgc,zdZ,zey] at h; cases h
 | .nil,cn,_::_,X,W,c,n,h=>by simp only [zgc,zdZ,zey] at h; cases h
 | .cons e r,cn,[],X,W,c,n,h=>by simp only [zgc,zdZ,zey] at h; cases h
 | .cons e r,cn,⟨nm,x,kp⟩::xs,X,W,c,n,h=>by
  simp only [zgc,zdZ,zey,Bool.and_eq_true] at h
  exact zqM (okE e _ _ _ _ _ X W c n h.1).pe (okK r _ _ X W c n h.2)
termination_by structural e=>e
theorem okO:∀(o:Ox) (cn:Cn) (x:Option Expr) (X:Cx) (W:WX),CxOk g T cf dt C k X W→CnOk g T cf dt C k X cn→chkO cf T o cn x=true→PO X x (tMO g W (evO T C o))
 | .none,cn,none,X,W,c,n,h=>zpD
 | .none,cn,some _,X,W,c,n,h=>by simp only [zhW,zhI] at h; cases h
 | .some e,cn,none,X,W,c,n,h=>by simp only [zhW,zhI] at h; cases h
 | .some e,cn,some x,X,W,c,n,h=>by
  simp only [zhW,zhI] at h
  exact zqs (okE e _ _ _ _ _ X W c n h).pe
termination_by structural e=>e
theorem okQ:∀(o:Ox) (cn:Cn) (xs:List Expr) (X:Cx) (W:WX),CxOk g T cf dt C k X W→CnOk g T cf dt C k X cn→chkQ cf T o cn xs=true→PTs X xs (tMT g W (evT T C o))
 | .none,cn,[],X,W,c,n,h=>zot
 | .none,cn,_::_,X,W,c,n,h=>by simp only [zkb,zkp] at h; cases h
 | .some e,cn,xs,X,W,c,n,h=>by
  simp only [zkb,zkp] at h
  split at h
  ·exact zp2 (okE e _ _ _ _ _ X W c n h).pt
  ·cases h
termination_by structural e=>e
theorem okIt:∀(it:It) (cn:Cn) (tg x:Expr) (X:Cx) (W:WX),CxOk g T cf dt C k X W→CnOk g T cf dt C k X cn→chkI cf T it cn tg x=true→PI X tg x (tMI g W (evI T C it))
 | .seq a,cn,tg,x,X,W,c,n,h=>by
  simp only [zfw,zc7,zdc,zc4,zfx,zfd,zc3,zfo] at h
  exact zrs c (okE a _ _ _ _ _ X W c n h).pe
 | .rng1 a,cn,tg,x,X,W,c,n,h=>by
  simp only [zfw,zc7,zdc,zc4,zfx,zfd,zc3,zfo] at h
  split at h
  ·simp only [Bool.and_eq_true] at h
   obtain ⟨⟨⟨⟨h1,h2⟩,h3⟩,h4⟩,h5⟩:=h
   cases zap h1
   exact zpU c (zbC n h2) h3 h4 (okE a _ _ _ _ _ X W c n h5).pe
  ·cases h
 | .rng2 a b,cn,tg,x,X,W,c,n,h=>by
  simp only [zfw,zc7,zdc,zc4,zfx,zfd,zc3,zfo] at h
  split at h
  ·simp only [Bool.and_eq_true] at h
   obtain ⟨⟨⟨⟨⟨⟨h1,h2⟩,h3⟩,h4⟩,h5⟩,h6⟩,h7⟩:=h
   cases zap h1
   exact zo0 c (zbC n h2) h3 h4 h5 (okE a _ _ _ _ _ X W c n h6).pe (okE b _ _ _ _ _ X W c n h7).pe
  ·cases h
 | .enum a,cn,tg,x,X,W,c,n,h=>by
  simp only [zfw,zc7,zdc,zc4,zfx,zfd,zc3,zfo,Bool.and_eq_true] at h
  obtain ⟨h0,h⟩:=h
  obtain ⟨es,j,p,rfl⟩:=zeV h0
  split at h
  ·simp only [Bool.and_eq_true] at h
   obtain ⟨⟨⟨⟨h1,h2⟩,h3⟩,h4⟩,h5⟩:=h
   cases zap h1
   exact zqp c (zbC n h2) h3 h4 (okE a _ _ _ _ _ X W c n h5).pe
  ·cases h
 | .zip a b,cn,tg,x,X,W,c,n,h=>by
  simp only [zfw,zc7,zdc,zc4,zfx,zfd,zc3,zfo,Bool.and_eq_true] at h
  obtain ⟨h0,h⟩:=h
  obtain ⟨es,j,p,rfl⟩:=zeV h0
  split at h
  ·simp only [Bool.and_eq_true] at h
   obtain ⟨⟨⟨⟨⟨⟨h1,h2⟩,h3⟩,h4⟩,h5⟩,h6⟩,h7⟩:=h
   cases zap h1
   exact zrU c (zbC n h2) h3 h4 h5 (okE a _ _ _ _ _ X W c n h6).pe (okE b _ _ _ _ _ X W c n h7).pe
  ·cases h
 | .enz a b,cn,tg,x,X,W,c,n,h=>by
  simp only [zfw,zc7,zdc,zc4,zfx,zfd,zc3,zfo,Bool.and_eq_true] at h
  obtain ⟨h0,h⟩:=h
  obtain ⟨es,j,p,rfl⟩:=zeV h0
  split at h
  ·simp only [Bool.and_eq_true] at h
   obtain ⟨⟨⟨⟨⟨⟨⟨⟨⟨h1,h2⟩,h3⟩,g1⟩,g2⟩,g3⟩,h4⟩,h5⟩,h6⟩,h7⟩:=h
   cases zap h1
   cases zap g1
   exact zrr c (zbC n h2) h3 (zbC n g2) g3 h4 h5 (okE a _ _ _ _ _ X W c n h6).pe (okE b _ _ _ _ _ X W c n h7).pe
  ·cases h
 | .zip3 a b d,cn,tg,x,X,W,c,n,h=>by
  simp only [zfw,zc7,zdc,zc4,zfx,zfd,zc3,zfo,Bool.and_eq_true] at h
  obtain ⟨h0,h⟩:=h
  obtain ⟨es,j,p,rfl⟩:=zeV h0
  split at h
  ·simp only [Bool.and_eq_true] at h
   obtain ⟨⟨⟨⟨⟨⟨⟨⟨h1,h2⟩,h3⟩,h4⟩,h5⟩,h8⟩,h6⟩,h7⟩,h9⟩:=h
   cases zap h1
   exact zpS c (zbC n h2) h3 h4 h5 h8 (okE a _ _ _ _ _ X W c n h6).pe (okE b _ _ _ _ _ X W c n h7).pe (okE d _ _ _ _ _ X W c n h9).pe
  ·cases h
 | .bad,cn,tg,x,X,W,c,n,h=>zr1
termination_by structural e=>e
theorem okG:∀(t:Tg) (cn:Cn) (vs:List Nat) (x:Expr) (X:Cx) (W:WX),CxOk g T cf dt C k X W→CnOk g T cf dt C k X cn→chkG cf T t cn vs x=true→PG X x (tMG g vs (puT T C t))
 | .var i,cn,vs,x,X,W,c,n,h=>by
  simp only [zeN,zeQ,zcL,zcM,zeO,zc8,zcJ,zcD,zeE] at h
  split at h
  ·simp only [Bool.and_eq_true,decide_eq_true_eq] at h
   obtain ⟨⟨h1,h2⟩,h3⟩:=h
   obtain ⟨h4,h5⟩:=zkn n h2
   exact zry c.nd (N_of n h1) h4 h5 (by simpa using h3)
  ·cases h
 | .tup ts,cn,vs,x,X,W,c,n,h=>by
  simp only [zeN,zeQ,zcL,zcM,zeO,zc8,zcJ,zcD,zeE] at h
  split at h
  ·simp only [Bool.and_eq_true,decide_eq_true_eq] at h
   exact zrJ c h.1.1 h.1.2 (okGs ts _ _ _ X W c n h.2)
  ·cases h
 | .star ts,cn,vs,x,X,W,c,n,h=>by
  simp only [zeN,zeQ,zcL,zcM,zeO,zc8,zcJ,zcD,zeE] at h
  split at h
  ·rename_i es j p
   split at h
   ·rename_i te sp e
    simp only [Bool.and_eq_true,decide_eq_true_eq] at h
    obtain ⟨⟨⟨h1,h2⟩,h3⟩,h4⟩:=h
    have e2:es=es.dropLast++[.Starred te sp]:=by
     obtain ⟨ys,e3⟩:=List.getLast?_eq_some_iff.mp e
     rw [e3,List.dropLast_concat]
    rw [e2]
    exact zqE c h1 h2 h3 (okGs ts _ _ _ X W c n h4)
   ·cases h
  ·cases h
 | .sfst ts,cn,vs,x,X,W,c,n,h=>by
  simp only [zeN,zeQ,zcL,zcM,zeO,zc8,zcJ,zcD,zeE] at h
  split at h
  ·simp only [Bool.and_eq_true,decide_eq_true_eq] at h
   obtain ⟨⟨⟨h1,h2⟩,h3⟩,h4⟩:=h
   exact zou c h1 h2 h3 (okGs ts _ _ _ X W c n h4)
  ·cases h
 | .sub o i,cn,vs,x,X,W,c,n,h=>by
  simp only [zeN,zeQ,zcL,zcM,zeO,zc8,zcJ,zcD,zeE] at h
  split at h
  ·simp only [Bool.and_eq_true] at h
   exact zrF c h.1.1 (okE o _ _ _ _ _ X W c n h.1.2).pe (okE i _ _ _ _ _ X W c n h.2).pe
  ·cases h
 | .dsub o i,cn,vs,x,X,W,c,n,h=>by
  simp only [zeN,zeQ,zcL,zcM,zeO,zc8,zcJ,zcD,zeE] at h
  split at h
  ·simp only [Bool.and_eq_true] at h
   exact zqX c h.1.1 (okE o _ _ _ _ _ X W c n h.1.2).pe (okE i _ _ _ _ _ X W c n h.2).pe
  ·cases h
 | .nsub o i,cn,vs,x,X,W,c,n,h=>by
  simp only [zeN,zeQ,zcL,zcM,zeO,zcJ,zcD,zeE] at h
  split at h
  ·simp only [Bool.and_eq_true] at h
   exact zqh c h.1.1 (okE o _ _ _ _ _ X W c n h.1.2).pe (okE i _ _ _ _ _ X W c n h.2).pe
  ·cases h
 | .attr o m,cn,vs,x,X,W,c,n,h=>by
  simp only [zeN,zeQ,zcL,zcM,zeO,zc8,zcJ,zcD,zeE] at h
  split at h
  ·simp only [Bool.and_eq_true] at h
   cases zap h.1
   exact zqg c (okE o _ _ _ _ _ X W c n h.2).pe
  ·cases h
 | .bad,cn,vs,x,X,W,c,n,h=>zrc
termination_by structural e=>e
theorem okGs:∀(ts:Tgs) (cn:Cn) (vs:List Nat) (xs:List Expr) (X:Cx) (W:WX),CxOk g T cf dt C k X W→CnOk g T cf dt C k X cn→chkGs cf T ts cn vs xs=true→PGs X xs (tMGs g vs (puTs T C ts))
 | .nil,cn,vs,[],X,W,c,n,h=>zpf
 | .nil,cn,vs,_::_,X,W,c,n,h=>by simp only [zhR,zgt] at h; cases h
 | .cons t r,cn,vs,[],X,W,c,n,h=>by simp only [zhR,zgt] at h; cases h
 | .cons t r,cn,vs,x::xs,X,W,c,n,h=>by
  simp only [zhR,zgt,Bool.and_eq_true] at h
  exact znu h.1.1 (okG t _ _ _ X W c n h.1.2) (okGs r _ _ _ X W c n h.2)
termination_by structural e=>e
end
end
end Mi
end
section
set_option maxHeartbeats 8000000
namespace Mi
open PySem PySem.Spec PyProof.Rows L2
section
variable {g:G} {T:Tb} {cf:Cf} {dt:Nat→FuncData} {C:Nat→List D→M D} {k wf:Nat} {X:Cx} {W:WX} {cn:Cn}
theorem zig {p:Expr→Bool}:∀(ts:List Expr) (f:Expr→Option Str),ts.any p=true→(∀t,p t=true→f t=none)→(ts.filterMap f).length < ts.length
 | [],f,h,_=>by cases h
 | t::ts,f,h,hf=>by
  rw [List.any_cons,Bool.or_eq_true] at h
  have le:(ts.filterMap f).length≤ts.length:=List.length_filterMap_le ..
  rcases h with h | h
  ·rw [List.filterMap_cons_none (hf t h),List.length_cons]
   omega
  ·have:=zig ts f h hf
   rw [List.length_cons]
   cases e:f t with
   | none=>
    rw [List.filterMap_cons_none e]
    omega
   | some b=>
    rw [List.filterMap_cons_some e,List.length_cons]
    omega
theorem zlm {env:Env} (hs:env.scope=cn.sc) {x:Str} (h:zcd cn x=false):(env.kindOf x==some .local)=false:=by
 unfold zcd at h
 show (env.scope.names.lookup x==some .local)=false
 rw [hs]
 split at h
 ·cases h
 ·rename_i hne
  rw [beq_eq_false_iff_ne]
  exact fun z=>hne z
theorem zkf {tg e:Expr} {env:Env} (hs:env.scope=cn.sc) (h:zib cn tg e=true):swappedStores [tg] e env=pure none:=by
 unfold zib at h
 split at h
 ·rename_i ts k p vs k' p'
  unfold swappedStores
  simp only [Bool.or_eq_true] at h
  show (if _ then _ else _)=_
  by_cases c1:(!(ts.length==2||ts.length==3)||vs.length != ts.length||env.blockKind != .function)=true
  ·rw [if_pos c1]
  ·rw [if_neg c1]
   simp only [Bool.or_eq_true,not_or] at c1
   rcases h with (h | h) | h
   ·exact absurd h c1.1.1
   ·exact absurd h c1.1.2
   ·have lt:=zig ts (fun x=>(match x with
      | .Name id pos=>if env.kindOf id==some .local&&pos.line==(ts.head?.map (·.pos.line)).getD 0 then some id else none
      | _=>none)) h fun t ht=>by
      cases t with
      | Name id pos=>
       have q:zcd cn id=false:=by simpa [zqZ] using ht
       show (if env.kindOf id==some .local&&pos.line==(ts.head?.map (·.pos.line)).getD 0 then some id else none)=none
       rw [zlm hs q]
       rfl
      | _=>rfl
    show (if _ then _ else _)=_
    split
    ·rfl
    ·show (if _ then _ else _)=_
     rw [if_pos]
     rw [Bool.or_eq_true]
     left
     rw [bne_iff_ne]
     exact Nat.ne_of_lt lt
 ·cases h
 ·unfold swappedStores
  rename_i h1 h2
  split
  ·rename_i ts vs e1
   exfalso
   split at e1
   ·rename_i heq
    exact h1 _ _ _ _ _ _ (List.cons.inj heq).1 rfl
   ·rename_i heq
    exact h2 _ _ _ _ _ (List.cons.inj heq).1 rfl
   ·cases e1
  ·rfl
theorem zlu {x y:Str} {px py pt:Pos} {kt k2:Nat} {pt2:Pos} {a b:Expr} {env:Env} (hb:env.blockKind=.function) (hx:env.kindOf x=some .local) (hy:env.kindOf y=some .local) (h:zlG x y px py [a,b]=true):
  swappedStores [.Tuple [.Name x px,.Name y py] kt pt] (.Tuple [a,b] k2 pt2) env=pure (some [x,y]):=by
 unfold zlG at h
 simp only [Bool.and_eq_true,decide_eq_true_eq,Bool.not_eq_true'] at h
 obtain ⟨⟨⟨⟨h1,h2⟩,h3⟩,h4⟩,h5⟩:=h
 have hp:(Expr.Name x px).pos.line=px.line:=rfl
 have e0:([.Name x px,.Name y py]:List Expr).filterMap (fun x_1=>(match x_1 with
         | .Name id pos=>if env.kindOf id==some .local&&pos.line==(([.Name x px,.Name y py]:List Expr).head?.map (·.pos.line)).getD 0 then some id else none
         | _=>none))=[x,y]:=by
  simp [List.filterMap_cons,hx,hy,hp,h1]
 have e1:[x,y].eraseDups.length=2:=by
  have q:(y==x)=false:=by
   rw [beq_eq_false_iff_ne] at h2 ⊢
   exact Ne.symm h2
  simp [List.eraseDups_cons,q]
 have key:∀l:List Str,l=[x,y]→(if (l.length != 2||l.eraseDups.length != l.length)=true then (pure none:Sem (Option (List Str))) else if [a,b].all (foldedForSure 8)=true then pure none else
     if [a,b].all (constantsAlone 8)=true then (do let _ ← (unsupported "assign.tuple-of-constant-expressions:order-of-the-stores":Sem Unit); pure (some l)) else pure (some l))=pure (some [x,y]):=fun l e=>by
  subst e
  rw [if_neg (by rw [e1]; simp),h4,h5]
  rfl
 unfold swappedStores
 simp only
 rw [if_neg (by simp [hb])]
 refine (if_neg (fun z=>?_)).trans (key _ e0)
 exact nomatch (h3.symm.trans z)
theorem zll {x y z:Str} {px py pz pt:Pos} {kt k2:Nat} {pt2:Pos} {a b c:Expr} {env:Env} (hb:env.blockKind=.function) (hx:env.kindOf x=some .local) (hy:env.kindOf y=some .local) (hz:env.kindOf z=some .local) (h:zk4 x y z px py pz [a,b,c]=true):
  swappedStores [.Tuple [.Name x px,.Name y py,.Name z pz] kt pt] (.Tuple [a,b,c] k2 pt2) env=pure (some [x,y,z]):=by
 unfold zk4 at h
 simp only [Bool.and_eq_true,decide_eq_true_eq,Bool.not_eq_true'] at h
 obtain ⟨⟨⟨⟨⟨⟨⟨h1,h1'⟩,h2⟩,h2'⟩,h2''⟩,h3⟩,h4⟩,h5⟩:=h
 have hp:(Expr.Name x px).pos.line=px.line:=rfl
 have e0:([.Name x px,.Name y py,.Name z pz]:List Expr).filterMap (fun x_1=>(match x_1 with
         | .Name id pos=>if env.kindOf id==some .local&&pos.line==(([.Name x px,.Name y py,.Name z pz]:List Expr).head?.map (·.pos.line)).getD 0 then some id else none
         | _=>none))=[x,y,z]:=by
  simp [List.filterMap_cons,hx,hy,hz,hp,h1, ← h1']
 have e1:[x,y,z].eraseDups.length=3:=by
  have q:(y==x)=false:=by
   rw [beq_eq_false_iff_ne] at h2 ⊢
   exact Ne.symm h2
  have q':(z==x)=false:=by
   rw [beq_eq_false_iff_ne] at h2' ⊢
   exact Ne.symm h2'
  have q'':(z==y)=false:=by
   rw [beq_eq_false_iff_ne] at h2'' ⊢
   exact Ne.symm h2''
  simp [List.eraseDups_cons,q,q',q'']
 have key:∀l:List Str,l=[x,y,z]→(if (l.length != 3||l.eraseDups.length != l.length)=true then (pure none:Sem (Option (List Str))) else if [a,b,c].all (foldedForSure 8)=true then pure none else
     if [a,b,c].all (constantsAlone 8)=true then (do let _ ← (unsupported "assign.tuple-of-constant-expressions:order-of-the-stores":Sem Unit); pure (some l)) else pure (some l))=pure (some [x,y,z]):=fun l e=>by
  subst e
  rw [if_neg (by rw [e1]; simp),h4,h5]
  rfl
 unfold swappedStores
 simp only
 rw [if_neg (by simp [hb])]
 refine (if_neg (fun z=>?_)).trans (key _ e0)
 exact nomatch (h3.symm.trans z)
end
end Mi
end
section
set_option maxHeartbeats 8000000
namespace Mi
open PySem PySem.Spec PyProof.Rows L2
section
variable {g:G} {T:Tb} {cf:Cf} {dt:Nat→FuncData} {C:Nat→List D→M D} {k wf:Nat} {X:Cx} {W:WX} {cn:Cn}
theorem zrk {t:Tg} {e:Ex} {tg x:Expr} {pos:Pos} (c:SxOk g T cf dt C k X W) (n:CnOk g T cf dt C k X cn) (h:asgB cf T t e cn tg x pos=true):PS X (.Assign [tg] x pos) (tMS g W (exS T C wf (.asg t e))):=by
 have plain:zfz x=true→zib cn tg x=true→zaj tg=true→chkG cf T t cn (allS cn) tg=true→chkE cf T e cn false x .And []=true→PS X (.Assign [tg] x pos) (tMS g W (exS T C wf (.asg t e))):=fun h1 h2 h3 h4 h5=>
  zmN h3 (zbv h1) (zkf n.sc h2) (okE e _ _ _ _ _ X W c.cx n h5).pe (okG t _ _ _ X W c.cx n h4)
 unfold asgB at h
 split at h
 ·rename_i e' t' it oi own elt gens scope lpos
  split at h
  ·rename_i y py
   split at h
   ·rename_i j
    split at h
    ·rename_i q
     simp only [Bool.and_eq_true,decide_eq_true_eq,Bool.not_eq_true'] at q h
     obtain ⟨⟨q1,q2⟩,q3⟩:=q
     obtain ⟨h1,h2⟩:=h
     have hl:=zbQ n q1
     simp only [zpz] at h2
     split at h2
     ·rename_i elt' tg' iter ifs sc2 pos2 heq _
      injection heq with i1 i2 i3 i4
      subst i1 i2 i3 i4
      simp only [Bool.and_eq_true] at h2
      obtain ⟨⟨⟨⟨⟨g1,g2⟩,g3⟩,g4⟩,g5⟩,g6⟩:=h2
      have bn:∀(s:Shared) (H:Hp) (C':Addr) (cl:List (Str×Addr)) (fp:List Addr),CnOk g T cf dt C k (X.blk s H scope (compEnvC scope cl C' X.env) fp) ⟨cn.N,relS scope cn.sc,celB scope,false⟩:=fun s H C' cl fp=>⟨n.N,zcQ n.sc,(fun _ h=>h),fun z=>by cases z⟩
      refine zm4 c.cx (N_of n h1) hl ?_ (okIt it _ _ _ X W c.cx n g2) (blkOk_by (own:=ownP cn.N own) (by rw [n.N,n.sc]; exact g3)) (zck own) (fun s H C' cl fp=>?_) (fun s H C' cl fp=>?_) (fun s H C' cl fp=>?_) g1
      ·show (pure (X.env.blockKind==.function&&X.env.kindOf y==some .local&&py.line==lpos.line&&!(scope.names.any fun (n,k)=>n==y&&(k==.local||k==.cell))):Sem Bool)=pure true
       have e1:X.env.kindOf y=some .local:=hl
       rw [c.bk,e1,q2,q3]
       simp
      ·exact okG t' _ _ _ _ _ (c.cx.blk s H scope _ fp) (bn s H C' cl fp) g4
      ·exact okQ oi _ _ _ _ (c.cx.blk s H scope _ fp) (bn s H C' cl fp) g6
      ·exact (okE e' _ _ _ _ _ _ _ (c.cx.blk s H scope _ fp) (bn s H C' cl fp) g5).pe
     ·cases h2
    ·split at h
     ·rename_i q2
      obtain ⟨h2,h3⟩:=Bool.and_eq_true_iff.mp h
      refine zmN rfl ?_ rfl (okE _ _ _ _ _ _ X W c.cx n h3).pe (okG _ _ _ _ X W c.cx n h2)
      show (pure (X.env.blockKind==.function&&X.env.kindOf y==some .local&&py.line==lpos.line&&!(scope.names.any fun (n,k)=>n==y&&(k==.local||k==.cell))):Sem Bool)=pure false
      have e1:X.env.kindOf y=some .cell:=by
       show X.env.scope.names.lookup y=some .cell
       rw [n.sc]
       exact of_decide_eq_true q2
      have e2:((some NameKind.cell:Option NameKind)==some .local)=false:=by decide
      rw [e1,e2]
      simp
     ·cases h
   ·cases h
  ·rename_i hne
   simp only [Bool.and_eq_true] at h
   obtain ⟨⟨h1,h2⟩,h3⟩:=h
   refine zmN h1 ?_ ?_ (okE _ _ _ _ _ _ X W c.cx n h3).pe (okG t _ _ _ X W c.cx n h2)
   ·cases tg<;>first | rfl | exact absurd rfl (hne _ _)
   ·cases tg<;>first | rfl | cases h1
 ·rename_i kx vx t' it oi own ekx evx gens scope lpos
  split at h
  ·rename_i y py
   split at h
   ·rename_i j
    split at h
    ·rename_i q
     simp only [Bool.and_eq_true,decide_eq_true_eq,Bool.not_eq_true'] at q h
     obtain ⟨⟨q1,q2⟩,q3⟩:=q
     obtain ⟨h1,h2⟩:=h
     have hl:=zbQ n q1
     simp only [zqd] at h2
     split at h2
     ·rename_i ekx' evx' tg' iter ifs sc2 pos2 heq _
      injection heq with i1 i2 i3 i4 i5
      subst i1 i2 i3 i4 i5
      simp only [Bool.and_eq_true] at h2
      obtain ⟨⟨⟨⟨⟨⟨g1,g2⟩,g3⟩,g4⟩,g5⟩,g5'⟩,g6⟩:=h2
      have bn:∀(s:Shared) (H:Hp) (C':Addr) (cl:List (Str×Addr)) (fp:List Addr),CnOk g T cf dt C k (X.blk s H scope (compEnvC scope cl C' X.env) fp) ⟨cn.N,relS scope cn.sc,celB scope,false⟩:=fun s H C' cl fp=>⟨n.N,zcQ n.sc,(fun _ h=>h),fun z=>by cases z⟩
      refine znD c.cx (N_of n h1) hl ?_ (okIt it _ _ _ X W c.cx n g2) (blkOk_by (own:=ownP cn.N own) (by rw [n.N,n.sc]; exact g3)) (zck own) (fun s H C' cl fp=>?_) (fun s H C' cl fp=>?_) (fun s H C' cl fp=>?_) (fun s H C' cl fp=>?_) g1
      ·show (pure (X.env.blockKind==.function&&X.env.kindOf y==some .local&&py.line==lpos.line&&!(scope.names.any fun (n,k)=>n==y&&(k==.local||k==.cell))):Sem Bool)=pure true
       have e1:X.env.kindOf y=some .local:=hl
       rw [c.bk,e1,q2,q3]
       simp
      ·exact okG t' _ _ _ _ _ (c.cx.blk s H scope _ fp) (bn s H C' cl fp) g4
      ·exact okQ oi _ _ _ _ (c.cx.blk s H scope _ fp) (bn s H C' cl fp) g6
      ·exact (okE kx _ _ _ _ _ _ _ (c.cx.blk s H scope _ fp) (bn s H C' cl fp) g5).pe
      ·exact (okE vx _ _ _ _ _ _ _ (c.cx.blk s H scope _ fp) (bn s H C' cl fp) g5').pe
     ·cases h2
    ·cases h
   ·cases h
  ·cases h
 ·rename_i e' t' it oi own t1 it1 oi1 vs1 elt gens scope lpos
  split at h
  ·rename_i y py
   split at h
   ·rename_i j
    split at h
    ·rename_i q
     simp only [Bool.and_eq_true,decide_eq_true_eq,Bool.not_eq_true'] at q h
     obtain ⟨⟨q1,q2⟩,q3⟩:=q
     obtain ⟨h1,h2⟩:=h
     have hl:=zbQ n q1
     simp only [zmb] at h2
     split at h2
     ·rename_i elt' tg iter ifs tg1 iter1 ifs1 sc2 pos2 heq _
      injection heq with i1 i2 i3 i4
      subst i1 i2 i3 i4
      simp only [Bool.and_eq_true] at h2
      obtain ⟨⟨⟨⟨⟨⟨⟨⟨⟨⟨g1,g1b⟩,hv⟩,g2⟩,g3⟩,g4⟩,g6⟩,k2⟩,k4⟩,k6⟩,g5⟩:=h2
      have bn:∀(s:Shared) (H:Hp) (C':Addr) (cl:List (Str×Addr)) (fp:List Addr),CnOk g T cf dt C k (X.blk s H scope (compEnvC scope cl C' X.env) fp) ⟨cn.N,relS scope cn.sc,celB scope,false⟩:=fun s H C' cl fp=>⟨n.N,zcQ n.sc,(fun _ h=>h),fun z=>by cases z⟩
      refine zlR c.cx (N_of n h1) hl ?_ (okIt it _ _ _ X W c.cx n g2) (blkOk_by (own:=ownP cn.N own) (by rw [n.N,n.sc]; exact g3)) (zck own) (fun i hi=>List.contains_iff_mem.mp (List.all_eq_true.mp hv i hi)) (fun s H C' cl fp=>?_) (fun s H C' cl fp=>?_) (fun s H C' cl fp=>?_) (fun s H C' cl fp=>?_) (fun s H C' cl fp=>?_) (fun s H C' cl fp=>?_) g1 g1b
      ·show (pure (X.env.blockKind==.function&&X.env.kindOf y==some .local&&py.line==lpos.line&&!(scope.names.any fun (n,k)=>n==y&&(k==.local||k==.cell))):Sem Bool)=pure true
       have e1:X.env.kindOf y=some .local:=hl
       rw [c.bk,e1,q2,q3]
       simp
      ·exact okG t' _ _ _ _ _ (c.cx.blk s H scope _ fp) (bn s H C' cl fp) g4
      ·exact okQ oi _ _ _ _ (c.cx.blk s H scope _ fp) (bn s H C' cl fp) g6
      ·exact okIt it1 _ _ _ _ _ (c.cx.blk s H scope _ fp) (bn s H C' cl fp) k2
      ·exact okG t1 _ _ _ _ _ (c.cx.blk s H scope _ fp) (bn s H C' cl fp) k4
      ·exact okQ oi1 _ _ _ _ (c.cx.blk s H scope _ fp) (bn s H C' cl fp) k6
      ·exact (okE e' _ _ _ _ _ _ _ (c.cx.blk s H scope _ fp) (bn s H C' cl fp) g5).pe
     ·cases h2
    ·cases h
   ·cases h
  ·cases h
 ·simp only [Bool.and_eq_true] at h
  obtain ⟨⟨⟨⟨h1,h2⟩,h3⟩,h4⟩,h5⟩:=h
  exact plain h1 h2 h3 h4 h5
theorem zmj {cs:List Nat} {he:Expr} (n:CnOk g T cf dt C k X cn) (c:SxOk g T cf dt C k X W) (h:clB cf cn cs he=true):Tst X he (cs.map fun x=>.ref (g.cad x)):=by
 unfold clB at h
 split at h
 ·simp only [Bool.and_eq_true] at h
  obtain ⟨⟨⟨h1,h2⟩,h3⟩,h4⟩:=h
  cases zap h1
  exact zj6 (zbC n h3) (c.cx.lk.cls _ h2) (zfF h4)
 ·simp only [Bool.and_eq_true] at h
  obtain ⟨⟨⟨⟨⟨⟨⟨h1,h2⟩,h3⟩,h4⟩,h5⟩,h6⟩,h7⟩,h8⟩:=h
  cases zap h1
  cases zap h5
  exact znF (zbC n h3) (c.cx.lk.cls _ h2) (zfF h4) (zbC n h7) (c.cx.lk.cls _ h6) (zfF h8)
 ·cases h
mutual
theorem okS':∀(s:Sm) (cn:Cn) (st:Stmt) (X:Cx) (W:WX),CnOk g T cf dt C k X cn→SxOk g T cf dt C k X W→chkS cf T s cn st=true→PS X st (tMS g W (exS T C wf s))
 | .asg t e,cn,st,X,W,n,c,h=>by
  simp only [zoU] at h
  split at h
  ·exact zrk c n h
  ·cases h
 | .par is es,cn,st,X,W,n,c,h=>by
  simp only [zoM] at h
  split at h
  ·split at h
   ·simp only [Bool.and_eq_true,decide_eq_true_eq] at h
    obtain ⟨⟨⟨⟨⟨⟨h1,h2⟩,h3⟩,h4⟩,h5⟩,h6⟩,h7⟩:=h
    have hx:=zbQ n h4
    have hy:=zbQ n h5
    exact zoH c.cx (N_of n h1) (N_of n h2) h3 hx hy (zlu c.bk hx hy h6) (okA es _ _ X W c.cx n h7)
   ·cases h
  ·split at h
   ·simp only [Bool.and_eq_true,decide_eq_true_eq] at h
    obtain ⟨⟨⟨⟨⟨⟨⟨⟨⟨⟨h1,h2⟩,h2'⟩,h3⟩,h3'⟩,h3''⟩,h4⟩,h5⟩,h5'⟩,h6⟩,h7⟩:=h
    have hx:=zbQ n h4
    have hy:=zbQ n h5
    have hz:=zbQ n h5'
    exact zp5 c.cx (N_of n h1) (N_of n h2) (N_of n h2') h3 h3' h3'' hx hy hz (zll c.bk hx hy hz h6) (okA es _ _ X W c.cx n h7)
   ·cases h
  ·cases h
 | .aug i o e,cn,st,X,W,n,c,h=>by
  simp only [zpF] at h
  split at h
  ·simp only [Bool.and_eq_true,decide_eq_true_eq,Bool.or_eq_true] at h
   obtain ⟨⟨⟨⟨h1,h2⟩,h3⟩,h4⟩,h5⟩:=h
   subst h1
   obtain ⟨l1,l2⟩:=zkn n h4
   exact zrQ c.cx h2 (N_of n h3) l1 l2 (okE e _ _ _ _ _ X W c.cx n h5).pe
  ·cases h
 | .expr e,cn,st,X,W,n,c,h=>by
  simp only [zmV] at h
  split at h
  ·simp only [Bool.and_eq_true] at h
   exact zoZ h.1 (okE e _ _ _ _ _ X W c.cx n h.2).pe
  ·cases h
 | .ret e,cn,st,X,W,n,c,h=>by
  simp only [zqj] at h
  split at h
  ·exact zrS (okE e _ _ _ _ _ X W c.cx n h).pe
  ·cases h
 | .retn,cn,st,X,W,n,c,h=>by
  simp only [znh] at h
  split at h
  ·exact zo7
  ·cases h
 | .doc,cn,st,X,W,n,c,h=>by
  simp only [zpk] at h
  split at h
  ·exact zrE
  ·cases h
 | .ife e a b,cn,st,X,W,n,c,h=>by
  simp only [zpP] at h
  split at h
  ·simp only [Bool.and_eq_true] at h
   exact s_if (okE e _ _ _ _ _ X W c.cx n h.1.1).pt (okSs' a _ _ X W n c h.1.2) (okSs' b _ _ X W n c h.2)
  ·cases h
 | .fr t it b,cn,st,X,W,n,c,h=>by
  simp only [zrL] at h
  split at h
  ·simp only [Bool.and_eq_true] at h
   exact zq8 c (okIt it _ _ _ X W c.cx n h.1.1.2) (okG t _ _ _ X W c.cx n h.1.2) (okSs' b _ _ X W n c h.2) h.1.1.1
  ·cases h
 | .whl e b,cn,st,X,W,n,c,h=>by
  simp only [zov] at h
  split at h
  ·simp only [Bool.and_eq_true] at h
   exact zn9 c (okE e _ _ _ _ _ X W c.cx n h.1).pt (okSs' b _ _ X W n c h.2)
  ·cases h
 | .pass,cn,st,X,W,n,c,h=>by
  simp only [zob] at h
  split at h
  ·exact zom
  ·cases h
 | .brk,cn,st,X,W,n,c,h=>by
  simp only [zpx] at h
  split at h
  ·exact zrC
  ·cases h
 | .cont,cn,st,X,W,n,c,h=>by
  simp only [zm5] at h
  split at h
  ·exact zqx
  ·cases h
 | .raise cc es,cn,st,X,W,n,c,h=>by
  simp only [zkX] at h
  split at h
  ·rename_i y p xs pos' pos np fl e1
   simp only [Bool.and_eq_true] at h
   obtain ⟨⟨⟨⟨h1,h2⟩,h3⟩,h4⟩,h5⟩:=h
   cases zap h1
   obtain ⟨x1,x2,x3,_⟩:=c.cx.xo.1 _ _ e1
   exact zni (x:=Str.empty) c.cx x1 x2 h2 (zbC n h3) (zfF h4) x3 (zbF h5) (fun z=>by subst z; exact ze3 h5) (okA es _ _ X W c.cx n h5)
  ·cases h
 | .tryq cc b,cn,st,X,W,n,c,h=>by
  simp only [zmt] at h
  split at h
  ·rename_i body y p b0 suite p' pos
   simp only [Bool.and_eq_true,Bool.not_eq_true'] at h
   obtain ⟨⟨⟨⟨⟨h1,h2⟩,h3⟩,h4⟩,h5⟩,h6⟩:=h
   cases zap h1
   exact zqH c h2 (zbC n h3) (zfF h4) fun W' pn xe c'=>okSs' b _ _ (X.tr pn xe) W' ⟨n.N,n.sc,n.fn,fun z=>by rw [h5] at z; cases z⟩ c' h6
  ·cases h
 | .tryr cs b c2 xs,cn,st,X,W,n,c,h=>by
  simp only [zmM] at h
  split at h
  ·rename_i body he y p es cp j cpos rpos pos' pos r2 e1
   simp only [Bool.and_eq_true,Bool.not_eq_true'] at h
   obtain ⟨⟨⟨⟨⟨⟨⟨⟨h1,h2⟩,h3⟩,h4⟩,h5⟩,h6⟩,h7⟩,h8⟩,h9⟩:=h
   cases zap h2
   obtain ⟨x1,x2,x3,_⟩:=c.cx.xo.1 _ _ e1
   exact zqR c (zmj n c h1) (fun x hx=>zl5 n hx) x1 x2 h3 (zbC n h4) (zfF h5) x3 (by rw [n.N]; exact h6) (fun z=>by rw [z] at h7; cases h7) fun W' pn xe c'=>okSs' b _ _ (X.tr pn xe) W' ⟨n.N,n.sc,n.fn,fun z=>by rw [h8] at z; cases z⟩ c' h9
  ·cases h
 | .tryk cs b d,cn,st,X,W,n,c,h=>by
  simp only [zmT] at h
  split at h
  ·rename_i body he e rpos pos' pos
   simp only [Bool.and_eq_true,Bool.not_eq_true'] at h
   obtain ⟨⟨⟨h1,h2⟩,h3⟩,h4⟩:=h
   exact zpt c (zmj n c h1) h2 fun W' pn xe c'=>okSs' b _ _ (X.tr pn xe) W' ⟨n.N,n.sc,n.fn,fun z=>by rw [h3] at z; cases z⟩ c' h4
  ·cases h
 | .bad,cn,st,X,W,n,c,h=>zrd
 | .supE _ _ _ _ _,cn,st,X,W,n,c,h=>by simp [chkS] at h
 | .supR _ _ _ _ _ _,cn,st,X,W,n,c,h=>by simp [chkS] at h
theorem okSs':∀(s:Sms) (cn:Cn) (st:List Stmt) (X:Cx) (W:WX),CnOk g T cf dt C k X cn→SxOk g T cf dt C k X W→chkSs cf T s cn st=true→PSs X st (tMS g W (exSs T C wf s))
 | .nil,cn,[],X,W,n,c,h=>zpb
 | .repR _ _ _ _ _ _ _ _,cn,_,X,W,n,c,h=>by simp only [zgq,ze2,zeX] at h; cases h
 | .nil,cn,_::_,X,W,n,c,h=>by simp only [zgq,ze2,zeX] at h; cases h
 | .cons s r,cn,[],X,W,n,c,h=>by simp only [zgq,ze2,zeX] at h; cases h
 | .cons s r,cn,x::xs,X,W,n,c,h=>by
  simp only [zgq,ze2,zeX,Bool.and_eq_true] at h
  exact zpI (okS' s _ _ X W n c h.1) (okSs' r _ _ X W n c h.2)
end
theorem okS (s:Sm) (cn:Cn) (st:Stmt) (n:CnOk g T cf dt C k X cn) (c:SxOk g T cf dt C k X W) (h:chkS cf T s cn st=true):PS X st (tMS g W (exS T C wf s)):=okS' s cn st X W n c h
theorem okSs (s:Sms) (cn:Cn) (st:List Stmt) (n:CnOk g T cf dt C k X cn) (c:SxOk g T cf dt C k X W) (h:chkSs cf T s cn st=true):PSs X st (tMS g W (exSs T C wf s)):=okSs' s cn st X W n c h
theorem okTk {s:Sms} {st:List Stmt} (n:CnOk g T cf dt C k X cn) (c:SxOk g T cf dt C k X W) (h:chkT cf T s cn st=true):PSsT X st (tMS g W (exSs T C wf s)):=by
 unfold chkT at h
 split at h
 ·rename_i i o y z y' z' cc r x px e pos xs
  simp only [Bool.and_eq_true,decide_eq_true_eq] at h
  obtain ⟨⟨⟨⟨⟨⟨h1,h2⟩,h3⟩,h4⟩,h5⟩,h6⟩,h7⟩:=h
  obtain ⟨h8,h9⟩:=zkn n h2
  exact zq1 c (N_of n h1) h8 h9 (zbv h3) h4 h5 (okE o _ _ _ _ _ X W c.cx n h6).pe (okSs r _ _ n c h7)
 ·cases h
variable {f:Addr} {fd0:FuncData} {slf:Str} {d:Nat} {body:List Stmt}
theorem zlz (hb:X.env.blockKind=.function):interactive X.env=false:=by
 unfold interactive
 cases q:X.env.scope.kind==ScopeKind.module with
 | false=>rfl
 | true=>
  exfalso
  have e:X.env.scope.kind=ScopeKind.module:=beq_iff_eq.mp q
  have z:(if X.env.scope.kind.isAnnotationScope then ScopeKind.function else X.env.scope.kind)=ScopeKind.function:=hb
  rw [e] at z
  cases z
theorem zpA (s:Sm) (st:Stmt) (n:CnOk g T cf dt C k X cn) (c:SxOk g T cf dt C k X W) (S:SupX g cf X d f fd0 slf) (h:zlw cf T d s cn st=true):PSA X (.func body X.env) st (tMS g W (exS T C wf s)):=by
 have key:∀ {n':Nat} {es kes:Exs} {ks:List Nat} {x:Expr},zix cf T n' es ks kes cn x=true→∃(p0 p1 apos pos:Pos) (xs:List Expr) (kws:List Keyword),x=.Call (.Attribute (.Call (.Name "super" p0) [] [] p1) (cf.an n') apos) xs kws pos∧(cf.an n'==("__class__":Str))=false∧fewB xs kws apos pos=true∧ks.Nodup∧
   zat kws=some (ks.map cf.an)∧xs.all noStar=true∧(xs=[]→es=.nil)∧(kws=[]→kes=.nil∧ks=[])∧PA X xs (tMA g W (evEs T C es))∧PK X kws (tMA g W (evEs T C kes)):=fun {n' es kes ks x} h=>by
  unfold zix at h
  split at h
  ·rename_i y p0 p1 a apos xs kws pos
   simp only [Bool.and_eq_true,decide_eq_true_eq] at h
   obtain ⟨⟨⟨⟨⟨⟨⟨h1,h2⟩,h3⟩,h4⟩,h5⟩,h6⟩,h7⟩,h8⟩:=h
   have e1:=of_decide_eq_true h1
   have e2:=of_decide_eq_true h2
   subst e1 e2
   refine ⟨p0,p1,apos,pos,xs,kws,rfl,by unfold zoF at h3; simpa using h3,h4,h5,h6,zbF h7,fun e=>?_,fun e=>?_,okA es _ _ X W c.cx n h7,okK kes _ _ X W c.cx n h8⟩
   ·subst e
    exact ze3 h7
   ·subst e
    exact zgI h8 h6
  ·cases h
 cases s with
 | supE d' n' es ks kes=>
  simp only [zlw,Bool.and_eq_true,decide_eq_true_eq] at h
  obtain ⟨rfl,h⟩:=h
  split at h
  ·obtain ⟨p0,p1,apos,pos,xs,kws,rfl,k1,k2,k3,k4,k5,k6,k7,k8,k9⟩:=key h
   exact zqS c.cx S k1 k5 k3 k4 k2 k6 k7 k8 k9 (zlz c.bk)
  ·cases h
 | supR d' n' es ks kes e=>
  simp only [zlw,Bool.and_eq_true,decide_eq_true_eq] at h
  obtain ⟨rfl,h⟩:=h
  split at h
  ·simp only [Bool.and_eq_true] at h
   obtain ⟨p0,p1,apos,pos,xs,kws,rfl,k1,k2,k3,k4,k5,k6,k7,k8,k9⟩:=key h.1
   exact zps c.cx S k1 k5 k3 k4 k2 k6 k7 k8 k9 (okE e _ _ _ _ _ X W c.cx n h.2).tail
  ·cases h
 | _=>exact PSA.of (okS _ _ _ n c h)
theorem zqi (S:SupX g cf X d f fd0 slf):∀(s:Sms) (st:List Stmt),CnOk g T cf dt C k X cn→SxOk g T cf dt C k X W→chkB cf T d s cn st=true→PSsA X (.func body X.env) st (tMS g W (exSs T C wf s))
 | .nil,[],n,c,h=>zqk
 | .repR _ _ _ _ _ _ _ _,_,n,c,h=>by simp only [chkB] at h; cases h
 | .nil,_::_,n,c,h=>by simp only [chkB] at h; cases h
 | .cons s r,[],n,c,h=>by simp only [chkB] at h; cases h
 | .cons s r,x::xs,n,c,h=>by
  simp only [chkB,Bool.and_eq_true] at h
  exact zmY (zpA s x n c S h.1) (zqi S r xs n c h.2)
end
end Mi
end
section
set_option maxHeartbeats 8000000
namespace Mi
open PySem PySem.Spec PyProof.Rows L2
def Rw.gw (R:Rw) (K:PySem.W.Frag) (w:World):G:={ R.g K with w:=w }
theorem zlZ {R:Rw} (h:anB R=true):∀a b,R.an a=R.an b→a=b:=by
 unfold anB at h
 simp only [Bool.and_eq_true,decide_eq_true_eq] at h
 obtain ⟨h1,h2⟩:=h
 have small:∀ {i s},R.ans[i]?=some s→∀j,s≠(⟨#[2000000+j]⟩:Str):=fun {i s} e j z=>by
  have q:=List.all_eq_true.mp h2 s (List.mem_of_getElem? e)
  rw [z] at q
  simp at q
  omega
 intro a b e
 unfold Rw.an at e
 cases ea:R.ans[a]? with
 | some s=>
  rw [ea] at e
  cases eb:R.ans[b]? with
  | some t=>
   rw [eb] at e
   have e:s=t:=e
   subst e
   exact (List.getElem?_inj (List.getElem?_eq_some_iff.mp ea).1 h1).mp (ea.trans eb.symm)
  | none=>
   rw [eb] at e
   exact absurd e (small ea b)
 | none=>
  rw [ea] at e
  cases eb:R.ans[b]? with
  | some t=>
   rw [eb] at e
   exact absurd e.symm (small eb a)
  | none=>
   rw [eb] at e
   have e:(⟨#[2000000+a]⟩:Str)=⟨#[2000000+b]⟩:=e
   injection e with e
   have e2:2000000+a=2000000+b:=by simpa using e
   omega
theorem ze0 {N P:List Str} {sc:Scope} (h:ziz N P sc=true):FnScope N P sc:=by
 unfold ziz at h
 simp only [Bool.and_eq_true,decide_eq_true_eq,Bool.not_eq_true'] at h
 obtain ⟨⟨⟨⟨⟨⟨h1,h2⟩,h3⟩,h4⟩,h5⟩,h6⟩,h7⟩:=h
 refine ⟨?_,h2,h3,h4,h5,fun x hx=>?_,fun y hy e=>?_⟩
 ·split at h1
  ·assumption
  ·cases h1
 ·have q:=List.all_eq_true.mp h6 x hx
  split at q
  ·exact .inl (by assumption)
  ·exact .inr (by assumption)
  ·cases q
 ·have q:=List.all_eq_true.mp h7 y hy
  rw [e] at q
  cases q
theorem zh5 {R:Rw}:∀ {qs:List (Fd×He.DefD×List Str)} {k i:Nat} {q:Fd×He.DefD×List Str},allB R k qs=true→qs[i]?=some q→fnB R (k+i) q=true
 | [],_,_,_,_,e=>by simp at e
 | p::ps,k,0,q,h,e=>by
  cases (show some p=some q from by simpa using e)
  exact (Bool.and_eq_true_iff.mp h).1
 | p::ps,k,i+1,q,h,e=>by
  have:=zh5 (Bool.and_eq_true_iff.mp h).2 (show ps[i]?=some q by simpa using e)
  rw [show k+(i+1)=k+1+i by omega]
  exact this
theorem CRel.sq {g:G} {ds:List D} {vs:List V} (h:Paired (CRel g) ds vs):∀m H,RelDs g m H ds vs:=fun m H=>by
 induction h with
 | nil=>exact .nil
 | cons h _ ih=>exact .cons (h m H) ih
mutual
theorem zdb {g:G}:∀(n:Nat) (d:D) (u:Value),kval g.K n d u=true→∃v,RelV v u∧CRel g d v
 | n,.non,.none,h=>⟨.non,rfl,fun _ _=>.non⟩
 | n,.bl b,.bool c,h=>by
  cases n<;>(simp only [kval,decide_eq_true_eq] at h; subst h; exact ⟨.bl b,rfl,fun _ _=>.bl b⟩)
 | n,.int i,.int j t,h=>by
  cases n<;>(simp only [kval,decide_eq_true_eq] at h; subst h; exact ⟨.int i,⟨t,rfl⟩,fun _ _=>.int i⟩)
 | n,.str s,.str z t,h=>by
  cases n<;>(simp only [kval,decide_eq_true_eq] at h; subst h; exact ⟨.str s,⟨t,rfl⟩,fun _ _=>.str s⟩)
 | n+1,.tup ds,.ref a,h=>by
  simp only [kval] at h
  split at h
  ·rename_i c its m sl e
   simp only [Bool.and_eq_true,decide_eq_true_eq] at h
   obtain ⟨⟨h1,h2⟩,h3⟩:=h
   subst h1
   obtain ⟨vs,r1,r2⟩:=kvals_ok n ds its.toList h3
   exact ⟨.ref a,rfl,fun m H=>.tup (.inr ⟨_,its,_,e,rfl,rfl,by rw [sizeLine_eq]; exact h2,r1⟩) (CRel.sq r2 m H)⟩
  ·cases h
 | n+1,.fzl ds,.ref a,h=>by
  simp only [kval] at h
  split at h
  ·rename_i c its m sl e
   simp only [Bool.and_eq_true,decide_eq_true_eq] at h
   obtain ⟨⟨h1,h2⟩,h3⟩:=h
   subst h1
   obtain ⟨vs,r1,r2⟩:=kvals_ok n ds its.toList h3
   exact ⟨.ref a,rfl,fun m H=>.fzl (.inr ⟨_,its,_,e,rfl,rfl,rfl,by rw [sizeLine_eq]; exact h2,r1⟩) (CRel.sq r2 m H)⟩
  ·cases h
theorem kvals_ok {g:G}:∀(n:Nat) (ds:List D) (us:List Value),kvals g.K n ds us=true→∃vs,Vals vs us∧Paired (CRel g) ds vs
 | n,[],[],h=>⟨[],.nil,.nil⟩
 | n,d::ds,u::us,h=>by
  cases n<;>(
    simp only [kvals,Bool.and_eq_true] at h
    obtain ⟨v,r1,r2⟩:=zdb _ d u h.1
    obtain ⟨vs,r3,r4⟩:=kvals_ok _ ds us h.2
    exact ⟨v::vs,.cons r1 r3,.cons r2 r4⟩)
end
def zkc (K:PySem.W.Frag) (v:He.Dv):Bool:=dvOk v&&adrB K v
theorem zbg {a:Option (Option Value)} {b:Addr} (h:eqA a b=true):a=some (some (.ref b)):=by
 unfold eqA at h
 split at h
 ·rw [of_decide_eq_true h]
 ·cases h
theorem zcb {a:Option (Option Value)} {b:String} (h:eqI a b=true):a=some (some (.builtin b)):=by
 unfold eqI at h
 split at h
 ·rw [of_decide_eq_true h]
 ·cases h
theorem zde {a:Option (Option Value)} (h:eqN a=true):a=some none:=by
 unfold eqN at h
 split at h
 ·rfl
 ·cases h
theorem ze5 {K:PySem.W.Frag} {C:Addr} (h:clsB K C=true):Cls K C:=by
 simp only [clsB,Bool.and_eq_true] at h
 exact ⟨h.1.1.1,h.1.1.2,h.1.2,zcb h.2⟩
theorem zcs {a:Option Bool} {b:Bool} (h:eqB a b=true):a=some b:=by
 unfold eqB at h
 split at h
 ·rw [beq_iff_eq.mp h]
 ·cases h
theorem zjZ {K:PySem.W.Frag} {C:Addr} (h:insB K C=true):zjU K C:=by
 simp only [insB,Bool.and_eq_true] at h
 exact ⟨ze5 h.1.1.1.1,zcb h.1.1.1.2,zcb h.1.1.2,zcs h.1.2,zcs h.2⟩
theorem zc9 {K:PySem.W.Frag} {a:Addr} (h:tyFn K a=true):PySem.W.typeIn K (.ref a)=some (.type "function"):=by
 unfold tyFn at h
 split at h
 ·rename_i t e
  rw [e,of_decide_eq_true h]
 ·cases h
structure SupD (K:PySem.W.Frag) (d:He.DefD) (file:Str) (D a:Addr) (data:FuncData):Prop where
 ex:∃(cc:Addr) (dV kV doc pm ct oc:Value) (an od:Option Addr) (c:Addr) (osl:Array (Option Value)),data=PySem.W.fnX d.name d.qual d.params d.body d.scope [("__class__",cc)] dV kV doc pm an (.ref c) ct∧K.lookup a=some ⟨oc,od,.func data,osl⟩∧PySem.W.codeIn K (.ref c) d.qual=true∧
  DflV K dV (d.dvs K)∧KwdV K kV (d.kws K)∧(∃cl cld csl,K.lookup cc=some ⟨cl,cld,.cell (some (.ref D)),csl⟩)∧∃ccl cdd ccs,∃vs:Array Value,∃tf,K.lookup c=some ⟨ccl,cdd,.fields vs,ccs⟩∧vs[2]?=some (.str file tf)
 kp:PySem.W.keepIn K (.ref a)=true
theorem zmZ {K:PySem.W.Frag} {d:He.DefD} {file:Str} {D:Addr} (e:fnC K false d.at_=valC (false,d)) (h:ziw file K d D=true):∃data,SupD K d file D (He.fAd K d.at_) data:=by
 unfold ziw at h
 obtain ⟨kp,h⟩:=Bool.and_eq_true_iff.mp h
 unfold fnC adC at e
 simp only [Bool.false_eq_true,if_false] at e
 cases q:K.lookup (He.fAd K d.at_) with
 | none=>rw [q] at h; cases h
 | some o=>
  obtain ⟨oc,od,dt,osl⟩:=o
  rw [q] at h e
  cases dt with
  | func fd=>
   obtain ⟨n1,n2,n3,n4,n5,n6,n7,n8,n9,n10,n11,n12,n13,n14,n15⟩:=fd
   simp only [Bool.and_eq_true] at h
   obtain ⟨⟨⟨⟨h1,h2⟩,h3⟩,h4⟩,h5⟩:=h
   simp only [valC,Bool.false_eq_true,if_false,Option.some.injEq,Prod.mk.injEq] at e
   obtain ⟨e1,e2,e3,e4,e5,e6,e7,e8⟩:=e
   subst e1 e2 e3 e4 e5 e6 e8
   split at h4
   ·rename_i y cc
    have ey:y="__class__":=by simpa using e7
    subst ey
    split at h4
    ·rename_i cl cld b csl hc
     have eb:=of_decide_eq_true h4
     subst eb
     split at h5
     ·rename_i c
      split at h5
      ·rename_i ccl cdd vs ccs hcc
       split at h5
       ·rename_i f tf hv
        have ef:=of_decide_eq_true h5
        subst ef
        exact ⟨_,⟨⟨cc,n8,n9,n10,n11,n14,oc,n12,od,c,osl,rfl,q,h1,He.dflB_ok h2,He.kwdB_ok h3,⟨cl,cld,csl,hc⟩,ccl,cdd,ccs,vs,tf,hcc,hv⟩,kp⟩⟩
       ·cases h5
      ·cases h5
     ·cases h5
    ·cases h4
   ·cases h4
  | _=>cases h
theorem zly {K:PySem.W.Frag} {d:He.DefD} (e:fnC K true d.at_=valC (true,d)) (h:zgz K d (adC K true d.at_)=true):∃data,FunD K d.name d.qual d.params d.body d.scope (d.dvs K) (d.kws K) (adC K true d.at_) data:=by
 unfold zgz at h
 obtain ⟨kp,h⟩:=Bool.and_eq_true_iff.mp h
 unfold fnC at e
 cases q:K.lookup (adC K true d.at_) with
 | none=>rw [q] at h; cases h
 | some o=>
  obtain ⟨oc,od,dt,osl⟩:=o
  rw [q] at h e
  cases dt with
  | func fd=>
   obtain ⟨n1,n2,n3,n4,n5,n6,n7,n8,n9,n10,n11,n12,n13,n14,n15⟩:=fd
   simp only [Bool.and_eq_true] at h
   obtain ⟨⟨h1,h2⟩,h3⟩:=h
   simp only [valC,if_true,Option.some.injEq,Prod.mk.injEq] at e
   obtain ⟨e1,e2,e3,e4,e5,e6,e7,e8⟩:=e
   have e7:=List.map_eq_nil_iff.mp e7
   subst e1 e2 e3 e4 e5 e6 e7 e8
   exact ⟨_,⟨⟨oc,od,n8,n9,n10,n11,n12,n13,n14,osl,rfl,q,h1,He.dflB_ok h2,He.kwdB_ok h3⟩,kp⟩⟩
  | _=>cases h
theorem zlH {K:PySem.W.Frag} {d:Addr} {kvs:List (Str×D)} (h:zlh K d (kvs.map (·.1))=true) {s:Str} (hs:kvs.lookup s=none):PySem.W.nsIn K d s=some none:=by
 unfold zlh at h
 unfold PySem.W.nsIn
 split at h
 ·rename_i c dd es nn sl e
  rw [e]
  have hk:∀x∈es.toList,x.key.isStr s=false∧x.refKey=false:=fun x hx=>by
   have hx:=List.all_eq_true.mp h x hx
   split at hx
   ·rename_i y t ek
    obtain ⟨k,k1,k2⟩:=List.any_eq_true.mp hx
    obtain ⟨p,p1,p2⟩:=List.mem_map.mp k1
    have hne:=List.lookup_eq_none_iff.mp hs p p1
    have e1:k=y:=eq_of_beq k2
    refine ⟨?_, ?_⟩
    ·rw [ek]
     show (y==s)=false
     rw [← e1, ← p2]
     cases q:(p.1==s) with
     | false=>rfl
     | true=>
      rw [eq_of_beq q] at hne
      simp at hne
    ·unfold DictEntry.refKey
     rw [ek]
   ·cases hx
  have h1:es.toList.find? (fun x=>x.key.isStr s)=none:=List.find?_eq_none.mpr fun x hx=>by rw [(hk x hx).1]; decide
  have h2:es.toList.any (fun x=>x.refKey)=false:=List.any_eq_false.mpr fun x hx=>by rw [(hk x hx).2]; decide
  simp only [h1,h2]
  rfl
 ·cases h
theorem zk9 {K:PySem.W.Frag} {C:Addr} {m:Str} {f:Addr} (h:zlN K C m f=true):zl8 K C m f:=by
 unfold zlN at h
 obtain ⟨h,kp⟩:=Bool.and_eq_true_iff.mp h
 split at h
 ·rename_i mc e1
  simp only [Bool.and_eq_true] at h
  obtain ⟨⟨h1,h2⟩,h3⟩:=h
  split at h3
  ·rename_i z p D e2
   simp only [Bool.and_eq_true,decide_eq_true_eq] at h3
   obtain ⟨⟨h3,h4⟩,h5⟩:=h3
   split at h5
   ·rename_i a rest e3
    have e4:=of_decide_eq_true h5
    subst h3 h4 e4
    exact ⟨⟨mc,p,rest,⟨h1,zcb h2⟩,e2,e3⟩,kp⟩
   ·cases h5
  ·cases h3
 ·cases h
end Mi
end
section
set_option maxHeartbeats 8000000
namespace Mi
open PySem PySem.Spec PyProof.Rows L2
theorem zaf {α β γ:Type} [BEq α] [LawfulBEq α] {f:β→γ} {k:α}:∀ {l:List (α×β)} {v:β},l.lookup k=some v→(k,v)∈l
 | (a,b)::r,v,h=>by
  rw [List.lookup_cons] at h
  cases q:k==a with
  | true=>
   rw [q] at h
   cases h
   rw [beq_iff_eq.mp q]
   exact List.mem_cons_self
  | false=>
   rw [q] at h
   exact List.mem_cons_of_mem _ (zaf (f:=f) h)
theorem zqJ {α:Type} {l:List α} {p:α→Bool} {i:Nat} {x:α} (h:l.all p=true) (e:l[i]?=some x):p x=true:=List.all_eq_true.mp h x (List.mem_of_getElem? e)
theorem zgL {α:Type} {l:List α} {p q:α→Bool} (h1:l.all p=true) (h2:l.all q=true):l.all (fun x=>p x&&q x)=true:=
 List.all_eq_true.mpr fun x hx=>by rw [List.all_eq_true.mp h1 x hx,List.all_eq_true.mp h2 x hx]; rfl
theorem zmn {g:G} {K:PySem.W.Frag} {v:He.Dv} {u:Value} (hK:g.K=K) (h:zkc K v=true) (r:RelV (v.v K) u) (m:List Addr) (H:Hp):RelU g m H (dvD v) u:=by
 subst hK
 unfold zkc at h
 obtain ⟨h1,h2⟩:=Bool.and_eq_true_iff.mp h
 cases v with
 | adr p=>
  obtain ⟨x,r1,r2⟩:=zdb (g:=g) 8 (.tup []) (.ref (p g.K)) h2
  have hu:u=Value.ref (p g.K):=r
  subst hu
  exact ⟨x,r2 m H,r1⟩
 | glo y=>
  obtain ⟨x,r1,r2⟩:=zdb (g:=g) 8 (gloD y) (.ref (He.ga g.K y)) h2
  have hu:u=Value.ref (He.ga g.K y):=r
  subst hu
  exact ⟨x,r2 m H,r1⟩
 | _=>refine ⟨_, ?_,r⟩; first | exact .non | exact .bl _ | exact .int _ | exact .str _ | cases h1
section
variable {κ κ' α:Type} [BEq κ] [LawfulBEq κ] [BEq κ'] [LawfulBEq κ'] {an:κ→κ'}
theorem zec (inj:∀a b,an a=an b→a=b) (k:κ):∀(ps:List κ) (vs:List α),((ps.map an).zip vs).lookup (an k)=(ps.zip vs).lookup k
 | [],_=>by simp
 | p::ps,[]=>by simp
 | p::ps,v::vs=>by
  rw [List.map_cons,List.zip_cons_cons,List.zip_cons_cons,List.lookup_cons,List.lookup_cons,zec inj k ps vs]
  by_cases q:k=p
  ·subst q
   simp
  ·rw [beq_eq_false_iff_ne.mpr q,beq_eq_false_iff_ne.mpr fun z=>q (inj _ _ z)]
theorem zkJ (inj:∀a b,an a=an b→a=b) {ps:List κ} {np:Nat} {dfl:List (Option α)} {vs zs:List α} {ks:List κ} {ds:List α} (h:zbb ps np dfl vs ks zs=some ds):zbb (ps.map an) np dfl vs (ks.map an) zs=some ds:=by
 unfold zbb at h ⊢
 split at h
 ·rename_i c
  simp only [Bool.and_eq_true,decide_eq_true_eq] at c
  have c2:(decide (vs.length≤np)&&decide ((ks.map an).length=zs.length)&&(ks.map an).all fun k=>((ps.map an).drop vs.length).contains k)=true:=by
   simp only [Bool.and_eq_true,decide_eq_true_eq,List.length_map]
   refine ⟨c.1, ?_⟩
   rw [List.all_map,List.all_eq_true]
   intro k hk
   have:=List.all_eq_true.mp c.2 k hk
   have hm:k∈ps.drop vs.length:=by simpa using this
   have:an k∈(ps.map an).drop vs.length:=by
    rw [← List.map_drop]
    exact List.mem_map_of_mem hm
   simpa using this
  rw [if_pos c2]
  have go:∀(qs:List κ) (d:List (Option α)),mapO (fun p=>(((ps.map an).zip vs++(ks.map an).zip zs).lookup p.1).or p.2) ((qs.map an).zip d)=mapO (fun p=>((ps.zip vs++ks.zip zs).lookup p.1).or p.2) (qs.zip d):=by
   intro qs
   induction qs with
   | nil=>intro d; rfl
   | cons q qs ih=>
    intro d
    cases d with
    | nil=>rfl
    | cons x d=>
     simp only [List.map_cons,List.zip_cons_cons,mapO,ih]
     have e:((ps.map an).zip vs++(ks.map an).zip zs).lookup (an q)=(ps.zip vs++ks.zip zs).lookup q:=by
      rw [List.lookup_append,List.lookup_append,zec inj,zec inj]
     rw [e]
  rw [go]
  exact h
 ·cases h
end
theorem zhO {α β:Type} {R:α→β→Prop}:∀ {xs xs':List α} {ys ys':List β},Paired R xs ys→Paired R xs' ys'→Paired R (xs++xs') (ys++ys')
 | _,_,_,_,.nil,h=>h
 | _,_,_,_,.cons h t,h'=>.cons h (zhO t h')
theorem zmc {g:G} {K:PySem.W.Frag} (hK:g.K=K) {ps:List Nat} {np:Nat} {dfl:List (Option D)} {d:He.DefD} {x qual:Str} {body:List Stmt} {scope:Scope} {dV kV doc pm:Value} {an:Option Addr} {cdv ct:Value} (inj:∀a b,g.an a=g.an b→a=b) (hdfl:dfl=zcm d)
  (hD:DflV K dV (d.dvs K)) (hKw:KwdV K kV (d.kws K)) {as ko:List Arg} {va:Option Arg} {kdx:List (Option Expr)} {ddx:List Expr} (hp:d.params=⟨[],as,va,ko,kdx,none,ddx⟩) (h1:ps.map g.an=as.map (·.arg)++ko.map (·.arg)) (h2:np=as.length)
  (h3:(as.map (·.arg)++ko.map (·.arg)).Nodup) (h4:d.dfl.length≤as.length) (h5:d.dfl.all (zkc K)=true) (h6:d.kwd.all (fun q=>zkc K q.2)=true):FnB g K ps np dfl (PySem.W.fnOf x qual ⟨[],as,none,ko,kdx,none,ddx⟩ body scope dV kV doc pm an cdv ct):=by
 obtain ⟨its,o,hits,ho,hlooks⟩:∃(its:List Value) (o:Option (Array Value)),Vals (d.dvs K) its∧(o.getD #[]).toList=its∧∀(M:Model) (h:Heap),K.In h→PySem.W.Looks M h (seqItems? dV) o:=by
  rcases hD with ⟨e1,e2⟩ | ⟨_,Ta,ob,its,n,rfl,lT,oT,rT⟩
  ·refine ⟨[],none,by rw [e1]; exact .nil,rfl,fun M h _=>?_⟩
   subst e2
   exact .of_pure rfl
  ·refine ⟨its,some its.toArray,rT,rfl,fun M h X=>?_⟩
   have:=looks_items (M:=M) (k:=pure) X lT oT (.of_pure rfl)
   rwa [bind_pure] at this
 have kv:∀q∈d.kwd,∃u D,kV=.ref D∧PySem.W.nsIn K D q.1=some (some u)∧RelV (q.2.v K) u:=fun q hq=>by
  rcases hKw with e | ⟨D,e,hq2⟩
  ·exfalso
   have hl:=congrArg List.length e
   unfold He.DefD.kws at hl
   rw [List.length_map] at hl
   cases hk:d.kwd with
   | nil=>rw [hk] at hq; cases hq
   | cons _ _=>rw [hk] at hl; cases hl
  ·obtain ⟨u,h1,h2⟩:=hq2 (q.1,q.2.v K) (List.mem_map.mpr ⟨q,hq,rfl⟩)
   exact ⟨u,D,e,h1,h2⟩
 have kdv:∀ko:List Arg,∃kd:List (Option Value),kd.length=ko.length∧Paired (zcr fun d u=>∀m H,RelU g m H d u) (ko.map fun a=>(d.kwd.lookup a.arg).map dvD) kd∧
   ∀n v,(n,some v)∈(ko.map (·.arg)).zip kd→∃D,kV=.ref D∧∀(M:Model) (h:Heap),K.In h→PySem.W.Looks M h (nsGet D n) (some v):=by
  intro ko
  induction ko with
  | nil=>exact ⟨[],rfl,.nil,fun n v h=>by cases h⟩
  | cons b ko ih=>
   obtain ⟨kd,i1,i2,i3⟩:=ih
   cases e:d.kwd.lookup b.arg with
   | none=>
    refine ⟨none::kd,congrArg Nat.succ i1, ?_,fun n v h=>?_⟩
    ·rw [List.map_cons,e]
     exact .cons .none i2
    ·rw [List.map_cons,List.zip_cons_cons] at h
     rcases List.mem_cons.mp h with h | h
     ·cases h
     ·exact i3 n v h
   | some dv=>
    have hm:=zaf (f:=fun x:He.Dv=>x) e
    obtain ⟨u,D,e1,e2,e3⟩:=kv _ hm
    refine ⟨some u::kd,congrArg Nat.succ i1, ?_,fun n v h=>?_⟩
    ·rw [List.map_cons,e]
     exact .cons (.some fun m H=>zmn hK (List.all_eq_true.mp h6 _ hm) e3 m H) i2
    ·rw [List.map_cons,List.zip_cons_cons] at h
     rcases List.mem_cons.mp h with h | h
     ·cases h
      exact ⟨D,e1,fun M h X=>PySem.W.looks_nsIn X e2⟩
     ·exact i3 n v h
 obtain ⟨kd,k1,k2,k3⟩:=kdv ko
 have hil:its.length=d.dfl.length:=by
  rw [← hits.length]
  exact List.length_map ..
 refine ⟨List.replicate (as.length - its.length) none++its.map some++kd, ?_,fun s us ws us' ks X nk hb=>?_⟩
 ·rw [hdfl]
  unfold zcm
  rw [hp]
  refine zhO (zhO ?_ ?_) k2
  ·rw [hil]
   generalize as.length - d.dfl.length=n
   induction n with
   | zero=>exact .nil
   | succ n ih=>exact .cons .none ih
  ·have:∀(l:List He.Dv) (us:List Value),l.all (zkc K)=true→Vals (l.map (He.Dv.v K)) us→Paired (zcr fun d u=>∀m H,RelU g m H d u) (l.map fun v=>some (dvD v)) (us.map some):=by
    intro l
    induction l with
    | nil=>
     intro us _ h
     cases h
     exact .nil
    | cons v l ih=>
     intro us ha h
     rw [List.all_cons,Bool.and_eq_true] at ha
     cases h with
     | cons r rr=>exact .cons (.some fun m H=>zmn hK ha.1 r m H) (ih _ ha.2 rr)
   exact this d.dfl its h5 hits
 ·refine BindsTo.of_looks fun M=>?_
  have hb2:=zkJ inj hb
  rw [h1]
  rw [h1,h2] at hb2
  refine zd6 h3 (hlooks M s.heap X) ho (by rw [hil]; exact h4) k1 ?_ (fun n v h=>?_) hb2
  ·exact List.pairwise_map.mpr (nk.imp fun hne z=>hne (inj _ _ z))
  ·obtain ⟨D,h7,h8⟩:=k3 n v h
   exact ⟨D,h7,h8 M s.heap X⟩
theorem zkK {g:G} {K:PySem.W.Frag} (hK:g.K=K) {R:Rw} {fd:Fd} {d:He.DefD} {data:FuncData} {x qual:Str} {body:List Stmt} {scope:Scope} {cl:List (Str×Addr)} {dV kV doc pm:Value} {an:Option Addr} {cdv ct:Value} (inj:∀a b,g.an a=g.an b→a=b) (han:g.an=R.an) (hdfl:fd.dfl=zcm d)
  (hD:DflV K dV (d.dvs K)) (hKw:KwdV K kV (d.kws K)) (hp:parB R fd d=true) (hA:(d.dfl.all (adrB K)&&d.kwd.all fun p=>adrB K p.2)=true) (ed:data=PySem.W.fnX x qual d.params body scope cl dV kV doc pm an cdv ct):FnL g K fd data:=by
 unfold parB at hp
 split at hp
 ·rename_i as va ko kdx ddx ep
  simp only [Bool.and_eq_true,decide_eq_true_eq] at hp
  obtain ⟨⟨⟨⟨⟨h0,h2⟩,h3⟩,h4⟩,h5⟩,h6⟩:=hp
  have dl:fd.dfl.length=as.length+ko.length:=by
   rw [hdfl]
   unfold zcm
   rw [ep]
   simp only [List.length_append,List.length_replicate,List.length_map]
   omega
  cases va with
  | none=>
   simp only [Bool.and_eq_true,decide_eq_true_eq,Bool.not_eq_true'] at h0
   obtain ⟨ha,h1⟩:=h0
   have B:=zmc hK (g:=g) (K:=K) (x:=x) (qual:=qual) (body:=body) (scope:=scope) (doc:=doc) (pm:=pm) (an:=an) (cdv:=cdv) (ct:=ct) inj hdfl hD hKw ep (by rw [han]; exact h1) h2 h3 h4 (zgL h5 (Bool.and_eq_true_iff.mp hA).1) (zgL h6 (Bool.and_eq_true_iff.mp hA).2)
   refine zkm (data:=data) ⟨?_⟩ ?_ ha
   ·obtain ⟨dfl',e1,e2⟩:=B.bind
    refine ⟨dfl',e1,fun s us ws us' ks X nk hb=>?_⟩
    have z:=e2 s us ws us' ks X nk hb
    rw [ed,ep]
    exact z
   ·have l1:=congrArg List.length h1
    simp only [List.length_map,List.length_append] at l1
    rw [dl,l1]
  | some v=>
   simp only [Bool.and_eq_true,decide_eq_true_eq] at h0
   obtain ⟨ha,h1⟩:=h0
   have hne:fd.ps≠[]:=fun e=>by
    rw [e] at h1
    simp at h1
   have hps:fd.ps=fd.ps.dropLast++[fd.ps.getLast hne]:=(List.dropLast_concat_getLast hne).symm
   have h1':=h1
   rw [hps,List.map_append,List.map_cons,List.map_nil] at h1'
   have l2:(fd.ps.dropLast.map R.an).length=(as.map (·.arg)++ko.map (·.arg)).length:=by
    have:=congrArg List.length h1'
    rw [List.length_append,List.length_append] at this
    simp only [List.length_singleton] at this
    omega
   obtain ⟨q1,q2⟩:=List.append_inj h1' l2
   have B:=zmc hK (g:=g) (K:=K) (ps:=fd.ps.dropLast) (x:=x) (qual:=qual) (body:=body) (scope:=scope) (doc:=doc) (pm:=pm) (an:=an) (cdv:=cdv) (ct:=ct) inj hdfl hD hKw ep (by rw [han]; exact q1) h2 h3 h4 (zgL h5 (Bool.and_eq_true_iff.mp hA).1) (zgL h6 (Bool.and_eq_true_iff.mp hA).2)
   refine zkV B hps ?_ ha fun us kw=>?_
   ·have l1:=congrArg List.length q1
    simp only [List.length_map,List.length_append] at l1
    rw [dl,l1]
   ·have ev:g.an (fd.ps.getLast hne)=v.arg:=by
     rw [han]
     exact (List.cons.inj q2).1
    rw [ed,ep,ev,h2]
    exact zkH
 ·cases hp
end Mi
end
section
set_option maxHeartbeats 8000000
namespace Mi
open PySem PySem.Spec PyProof.Rows L2
def zo8:FuncData:=PySem.W.fnOf Str.empty Str.empty ⟨[],[],none,[],[],none,[]⟩ [] ⟨.function,[],false,false,[]⟩ .none .none .none .none none .none .none
def zbK (K:PySem.W.Frag) (a:Addr):FuncData:=match K.lookup a with
 | some ⟨_,_,.func fd,_⟩=>fd
 | _=>zo8
theorem znk {K:PySem.W.Frag} {a:Addr} {oc:Value} {od:Option Addr} {fd:FuncData} {osl:Array (Option Value)} (lk:K.lookup a=some ⟨oc,od,.func fd,osl⟩):zbK K a=fd:=by
 unfold zbK
 rw [lk]
theorem zkF {K:PySem.W.Frag} {x qual:Str} {params:Arguments} {body:List Stmt} {scope:Scope} {dvs:List V} {kws:List (Str×V)} {a:Addr} {fd:FuncData} (F:FunD K x qual params body scope dvs kws a fd):zbK K a=fd:=by
 obtain ⟨oc,od,dV,kV,doc,pm,an,cdv,ct,osl,_,lk,_⟩:=F.ex
 unfold zbK
 rw [lk]
section
variable {g0 g:G} {m:List Addr} {H:Hp}
mutual
theorem RelD.cp (h0:g0.lams=[]) (e1:g0.K=g.K) (e2:g0.gad=g.gad):∀ {d:D} {v:V},RelD g0 m H d v→RelD g m H d v
 | _,_,.non=>.non
 | _,_,.bl b=>.bl b
 | _,_,.int i=>.int i
 | _,_,.str s=>.str s
 | _,_,.ty n=>.ty n
 | _,_,.ref h=>.ref h
 | _,_,.glo k=>by
  rw [e2]
  exact .glo k
 | _,_,.tup h r=>.tup (e1 ▸ h) (RelDs.cp h0 e1 e2 r)
 | _,_,.fzl h r=>.fzl (e1 ▸ h) (RelDs.cp h0 e1 e2 r)
 | _,_,.clo h=>by
  rcases h with ⟨l,c',dV,h1,_⟩ | ⟨_,_,_,_,_,⟨_,h1⟩,_⟩
  ·rw [h0] at h1
   simp at h1
  ·exact absurd h0 h1
theorem RelDs.cp (h0:g0.lams=[]) (e1:g0.K=g.K) (e2:g0.gad=g.gad):∀ {ds:List D} {vs:List V},RelDs g0 m H ds vs→RelDs g m H ds vs
 | _,_,.nil=>.nil
 | _,_,.cons h r=>.cons (RelD.cp h0 e1 e2 h) (RelDs.cp h0 e1 e2 r)
end
end
structure GOk (R:Rw) (K:PySem.W.Frag) (w:World) (g:G):Prop where
 kk:g.K=K
 an:g.an=R.an
 cad:g.cad=(R.g K).cad
 gad:g.gad=(R.g K).gad
 fr:g.fr=(R.g K).fr
 w:g.w=w
theorem Lk.cp {g0 g:G} {T:Tb} {cf:Cf} {K:PySem.W.Frag} {w:World} {mg:Str→Option Value} {dt:Nat→FuncData} (h0:g0.lams=[]) (e1:g0.K=g.K) (e2:g0.an=g.an) (e3:g0.cad=g.cad) (e4:g0.gad=g.gad) (e6:g.w=w) (l:Lk g0 T cf K w mg dt):Lk g T cf K w mg dt:=by
 have cr:∀ {d v},CRel g0 d v→CRel g d v:=fun c m H=>RelD.cp h0 e1 e4 (c m H)
 obtain ⟨K1,an1,cad1,gad1,t1,l1,c1,q1,f1,s1⟩:=g
 obtain ⟨K2,an2,cad2,gad2,t2,l2,c2,q2,f2,s2⟩:=g0
 dsimp only at e1 e2 e3 e4 h0
 subst e1 e2 e3 e4
 exact ⟨e6,l.an,l.inj,l.glob,fun k d e=>by
   obtain ⟨u,v,a,b,c⟩:=l.con k d e
   exact ⟨u,v,a,b,cr c⟩,l.blt,l.cls,l.noat,l.meth,fun c n d e=>by
   obtain ⟨u,v,a,b,x⟩:=l.ccon c n d e
   exact ⟨u,v,a,b,cr x⟩,l.prop,l.init,fun t y b e=>by
   have z:=l.kit t y b e
   cases t<;>cases y<;>exact z,l.kin,l.sup,fun c t f e=>by
   have z:=l.eqf c t f e
   cases t<;>exact z,l.rpf,fun k kvs e=>by
   obtain ⟨d,es,n,a,b,c,c2⟩:=l.kd k kvs e
   refine ⟨d,es,n,a,b,fun s v hv=>?_,c2⟩
   obtain ⟨u,x,p,q,r⟩:=c s v hv
   exact ⟨u,x,p,q,cr r⟩,fun c n d e=>by
   obtain ⟨mc,u,v,a,b,x⟩:=l.clc c n d e
   exact ⟨mc,u,v,a,b,cr x⟩,l.lnf,l.cnf,l.stat⟩
section
variable {R:Rw} {K:PySem.W.Frag} {h:Heap} {mg:Str→Option Value}
theorem zlW {f:Nat} {fd:Fd} (e:(R.T).fn f=some fd):∃d N,R.fns[f]?=some (fd,d,N):=by
 have e:R.fns[f]?.map (·.1)=some fd:=e
 cases q:R.fns[f]? with
 | none=>rw [q] at e; cases e
 | some z=>
  rw [q] at e
  obtain ⟨fd',d,N⟩:=z
  cases e
  exact ⟨d,N,rfl⟩
theorem zkk {f:Nat} {z:Fd×He.DefD×List Str} (e:R.fns[f]?=some z):R.fad K f=adC K (R.pfns.contains f) z.2.1.at_:=by
 unfold Rw.fad
 rw [e]
theorem zl7 {w:World} (X:K.In h) (G0:h.Ns mainGlobals mg) (ok:R.ok=true) (ck:rowK R K=true) (hkd:∀q∈R.kds,∃es n,KDict K w (He.ga K q.1) es n):
  Lk (R.gw K w) R.T R.cf K w mg fun f=>zbK K (R.fad K f):=by
 simp only [Rw.ok,Bool.and_eq_true] at ok
 obtain ⟨ok1,ok2⟩:=ok
 simp only [rowK,Bool.and_eq_true] at ck
 obtain ⟨⟨⟨⟨⟨⟨⟨⟨⟨⟨⟨⟨⟨⟨⟨⟨⟨c1,c2⟩,c3⟩,c4⟩,c5⟩,c6⟩,c7⟩,c8⟩,c9⟩,c10⟩,c11⟩,c12⟩,c13⟩,c14⟩,c15⟩,c18⟩,c17⟩,c16⟩:=ck
 have inj:=zlZ ok1
 refine ⟨rfl,rfl,inj,fun f hf=>?_,fun k d e=>?_,fun x hx=>?_,fun c hc=>?_,fun c n hn=>?_,fun c n f e=>?_,fun c n d e=>?_,fun c n f e=>?_,fun c f e=>?_,fun t y b e=>?_,fun c y b e=>?_,fun c d n f e=>?_,fun c t f e=>?_,fun c f e=>?_,fun j kvs e=>?_,fun c n d e=>?_,fun c f e=>?_,fun c f e=>?_,fun c n f e=>zk9 (List.all_eq_true.mp c15.2 _ (zaf (f:=fun x:Nat=>x) e))⟩
 ·have hf:R.glob.contains f=true:=hf
  have hm:f∈R.glob:=by simpa using hf
  obtain ⟨_,h2⟩:=List.mem_filter.mp hm
  cases q:R.fns[f]? with
  | none=>rw [q] at h2; cases h2
  | some z=>
   rw [q] at h2
   have b:=List.all_eq_true.mp c1 f (List.mem_range.mpr (List.getElem?_eq_some_iff.mp q).1)
   rw [q] at b
   have h2:z.2.1.at_.2.isNone=true:=h2
   simp only [h2] at b
   have e1:PySem.W.nsIn K mainGlobals z.2.1.at_.1=_:=zbg b
   have e2:=PySem.W.mg_of X G0 e1
   show mg (match R.fns[f]? with | some q=>q.2.1.at_.1 | none=>Str.empty)=some (.ref (R.fad K f))
   rw [q]
   exact e2
 ·have e:R.kns[k]?.map (·.2)=some d:=e
  cases q:R.kns[k]? with
  | none=>rw [q] at e; cases e
  | some z=>
   rw [q] at e
   cases e
   have b:=zqJ c3 q
   split at b
   ·rename_i u e1
    obtain ⟨v,r1,r2⟩:=zdb (g:=R.gw K w) 8 z.2 u b
    refine ⟨u,v, ?_,r1,r2⟩
    show mg (match R.kns[k]? with | some q=>q.1 | none=>Str.empty)=some u
    rw [q]
    exact PySem.W.mg_of X G0 e1
   ·cases b
 ·have hm:x∈R.blts:=by
   have hx:R.blts.contains x=true:=hx
   simpa using hx
  exact PySem.W.mg_none_of X G0 (zde (List.all_eq_true.mp c4 x hm))
 ·have hm:c < R.cns.length:=by
   have hc:(List.range R.cns.length).contains c=true:=hc
   simpa using hc
  have e1:R.cns.getD c Str.empty=R.cns[c]:=by simp [List.getD,hm]
  show mg (R.cns.getD c Str.empty)=some (.ref (He.ga K (R.cns.getD c Str.empty)))
  rw [e1]
  exact PySem.W.mg_of X G0 (zbg (List.all_eq_true.mp c2 _ (List.getElem_mem hm)))
 ·have hm:(c,n)∈R.noats:=by
   have hn:R.noats.contains (c,n)=true:=hn
   simpa using hn
  have b:=List.all_eq_true.mp c7 _ hm
  simp only [Bool.and_eq_true] at b
  exact ⟨ze5 b.1,zde b.2⟩
 ·have b:=List.all_eq_true.mp c5 _ (zaf (f:=fun x:Nat=>x) e)
  simp only [Bool.and_eq_true] at b
  exact ⟨ze5 b.1.1.1,zbg b.1.1.2,b.1.2,b.2⟩
 ·have b:=List.all_eq_true.mp c6 _ (zaf (f:=fun x:D=>x) e)
  simp only [Bool.and_eq_true,Bool.not_eq_true'] at b
  obtain ⟨⟨b1,b2⟩,b3⟩:=b
  split at b3
  ·rename_i u e1
   simp only [Bool.and_eq_true] at b3
   obtain ⟨v,r1,r2⟩:=zdb (g:=R.gw K w) 8 d u b3.1
   exact ⟨u,v,ze5 b1,⟨e1,r1,zde b3.2,b2⟩,r2⟩
  ·cases b3
 ·have b:=List.all_eq_true.mp c12 _ (zaf (f:=fun x:Nat=>x) e)
  simp only [Bool.and_eq_true] at b
  obtain ⟨b1,b2⟩:=b
  split at b2
  ·rename_i p e1
   simp only [Bool.and_eq_true] at b2
   obtain ⟨⟨b3,b4⟩,b5⟩:=b2
   split at b5
   ·rename_i a rest e2
    have e3:=of_decide_eq_true b5
    subst e3
    exact ⟨ze5 b1,p,⟨e1,zcb b3,zcs b4,rest,e2⟩⟩
   ·cases b5
  ·cases b2
 ·have b:=List.all_eq_true.mp c8 _ (zaf (f:=fun x:Nat=>x) e)
  simp only [Bool.and_eq_true] at b
  exact ⟨b.1.1.1,zbg b.1.1.2,b.1.2,b.2⟩
 ·have b:=List.all_eq_true.mp c9 _ (zaf (f:=fun x:Bool=>x) e)
  simp only [Bool.and_eq_true] at b
  exact zcs b.1
 ·have b:=List.all_eq_true.mp c9 _ (zaf (f:=fun x:Bool=>x) e)
  simp only [Bool.and_eq_true] at b
  exact zjZ b.2
 ·have b:=List.all_eq_true.mp c10 _ (zaf (f:=fun x:Nat=>x) e)
  simp only [Bool.and_eq_true] at b
  exact ⟨zcs b.1.1.1.1,zbg b.1.1.1.2,zc9 b.1.1.2,zde b.1.2,b.2⟩
 ·have b:=List.all_eq_true.mp c13 _ (zaf (f:=fun x:Nat=>x) e)
  simp only [Bool.and_eq_true] at b
  obtain ⟨⟨⟨⟨⟨b1,b2⟩,b3⟩,b4⟩,b5⟩,b6⟩:=b
  refine ⟨⟨b1,zbg b2,b3,zcb b4,zcs b5⟩,fun z ez=>?_⟩
  subst ez
  exact zjZ b6
 ·have b:=List.all_eq_true.mp c14.1 _ (zaf (f:=fun x:Nat=>x) e)
  simp only [Bool.and_eq_true] at b
  exact ⟨zbg b.1,b.2⟩
 ·have e:R.kds[j]?.map (·.2)=some kvs:=e
  cases q:R.kds[j]? with
  | none=>rw [q] at e; cases e
  | some z=>
   rw [q] at e
   cases e
   have hm:=List.mem_of_getElem? q
   have b:=List.all_eq_true.mp c17 z hm
   rw [Bool.and_eq_true,Bool.and_eq_true] at b
   obtain ⟨b,bo⟩:=b
   obtain ⟨es,n,kd⟩:=hkd z hm
   refine ⟨He.ga K z.1,es,n, ?_,kd,fun s v hv=>?_,fun s hs=>zlH bo hs⟩
   ·show mg (match R.kds[j]? with | some q=>q.1 | none=>Str.empty)=_
    rw [q]
    exact PySem.W.mg_of X G0 (zbg b.1)
   ·have b2:=List.all_eq_true.mp b.2 _ (zaf (f:=fun x:D=>x) hv)
    split at b2
    ·rename_i u e1
     obtain ⟨x,r1,r2⟩:=zdb (g:=R.gw K w) 8 v u b2
     exact ⟨u,x,e1,r1,r2⟩
    ·cases b2
 ·have b:=List.all_eq_true.mp c15.1 _ (zaf (f:=fun x:D=>x) e)
  split at b
  ·rename_i mc e1
   simp only [Bool.and_eq_true] at b
   obtain ⟨⟨b1,b2⟩,b3⟩:=b
   split at b3
   ·rename_i u e2
    obtain ⟨v,r1,r2⟩:=zdb (g:=R.gw K w) 8 d u b3
    exact ⟨mc,u,v,⟨b1,zcb b2⟩,⟨e2,r1⟩,r2⟩
   ·cases b3
  ·cases b
 ·have b:=List.all_eq_true.mp c14.2.1 _ (zaf (f:=fun x:Nat=>x) e)
  simp only [Bool.and_eq_true] at b
  exact ⟨zbg b.1,b.2⟩
 ·have b:=List.all_eq_true.mp c14.2.2 _ (zaf (f:=fun x:Nat=>x) e)
  simp only [Bool.and_eq_true] at b
  exact ⟨zbg b.1,b.2⟩
theorem zny {g:G} {w:World} (gok:GOk R K w g) {P:Program} {file:Str} (wf:Nat) (X:K.In h) (G0:h.Ns mainGlobals mg) (hfile:P.main.file=R.file) (htop:(P.main.scope.names.lookup ("super":Str)).isSome=false) (hdf:∀z∈R.fns,z.1.dfl=zcm z.2.1)
  (hd:∀f z,R.fns[f]?=some z→R.sfns.lookup f=none→∃fd,FunD K z.2.1.name z.2.1.qual z.2.1.params z.2.1.body z.2.1.scope (z.2.1.dvs K) (z.2.1.kws K) (R.fad K f) fd)
  (hs:∀f z d,R.fns[f]?=some z→R.sfns.lookup f=some d→fnC K false z.2.1.at_=valC (false,z.2.1)) (ok:R.ok=true) (ck:rowK R K=true) (hkd:∀q∈R.kds,∃es n,KDict K w (He.ga K q.1) es n) (f:Nat) (fd:Fd) (e:(R.T).fn f=some fd):How g R.T R.cf (fun f=>zbK K (R.fad K f)) wf P K mg f fd:=by
 obtain ⟨K1,an1,cad1,gad1,t1,l1,cl1,q1,f1,s1⟩:=g
 obtain ⟨g1,g2,g3,g4⟩:=gok
 dsimp only at g1 g2 g3 g4
 have g1:=g1.symm
 subst g1 g2 g3 g4
 obtain ⟨d,N,e1⟩:=zlW e
 have hm:=List.mem_of_getElem? e1
 have lk:=zl7 X G0 ok ck hkd
 simp only [Rw.ok,Bool.and_eq_true] at ok
 have inj:=zlZ ok.1
 have b1:=zh5 ok.2 e1
 rw [Nat.zero_add] at b1
 simp only [fnB,Bool.and_eq_true,decide_eq_true_eq] at b1
 obtain ⟨⟨bp,bn⟩,bb⟩:=b1
 have hA:(d.dfl.all (adrB K)&&d.kwd.all fun p=>adrB K p.2)=true:=by
  have ck:=ck
  simp only [rowK,Bool.and_eq_true] at ck
  have z:=List.all_eq_true.mp ck.1.1.2 _ hm
  exact z
 cases q:R.sfns.lookup f with
 | none=>
  rw [q] at bb
  simp only [Bool.and_eq_true] at bb
  obtain ⟨data,F⟩:=hd f _ e1 q
  have ed:zbK K (R.fad K f)=data:=zkF F
  obtain ⟨b2,b3⟩:=bb
  split at b3
  ·simp only [Bool.and_eq_true] at b3
   obtain ⟨⟨b4,b5⟩,b6⟩:=b3
   refine .tok (N:=N) (body:=d.body) (scope:=d.scope) ⟨⟨d.name,d.qual,d.params,d.dvs K,d.kws K, ?_⟩,ze0 b2,bn⟩ ?_ (fun y hy=>?_) ?_ fun C k X W c n=>okTk n c b6
   ·show FunD K _ _ _ _ _ _ _ (R.fad K f) (zbK K (R.fad K f))
    rw [ed]
    exact F
   ·obtain ⟨oc,od,dV,kV,doc,pm,an,cdv,ct,osl,e0,lku,hcd,hD,hKw⟩:=F.ex
    show FnL _ K fd (zbK K (R.fad K f))
    rw [ed]
    exact zkK rfl (cl:=[]) inj rfl (hdf _ hm) hD hKw bp hA e0
   ·have:=List.all_eq_true.mp b5 y hy
    simpa using this
   ·cases q2:fd.ps with
    | nil=>rw [q2] at b4; cases b4
    | cons x r=>simp
  ·refine .plain (N:=N) (body:=d.body) (scope:=d.scope) ⟨⟨d.name,d.qual,d.params,d.dvs K,d.kws K, ?_⟩,ze0 b2,bn⟩ ?_ fun C k X W c n=>okSs fd.body _ _ n c b3
   ·show FunD K _ _ _ _ _ _ _ (R.fad K f) (zbK K (R.fad K f))
    rw [ed]
    exact F
   ·obtain ⟨oc,od,dV,kV,doc,pm,an,cdv,ct,osl,e0,lku,hcd,hD,hKw⟩:=F.ex
    show FnL _ K fd (zbK K (R.fad K f))
    rw [ed]
    exact zkK rfl (cl:=[]) inj rfl (hdf _ hm) hD hKw bp hA e0
 | some c=>
  rw [q] at bb
  simp only [supB,Bool.and_eq_true,Bool.not_eq_true'] at bb
  obtain ⟨⟨⟨⟨⟨s1,s2⟩,s3⟩,s4⟩,s5⟩,s6⟩:=bb
  simp only [rowK,Bool.and_eq_true] at ck
  have c11:=ck.1.1.1.1.1.1.1.2
  have b:=List.all_eq_true.mp c11 _ (zaf (f:=fun x:Nat=>x) q)
  rw [Bool.and_eq_true,Bool.and_eq_true] at b
  obtain ⟨⟨k0,k1⟩,k2⟩:=b
  simp only [e1] at k2
  have ea:R.fad K f=He.fAd K d.at_:=by
   rw [zkk e1,(Bool.not_eq_true' _).mp k0]
   rfl
  obtain ⟨data,F⟩:=zmZ (hs f _ c e1 q) k2
  obtain ⟨cc,dV,kV,doc,pm,ct,oc,an,od,co,osl,ed0,lku,hcd,hD,hKw,hcell,ccl,cdd,ccs,vs,tf,hc1,hc2⟩:=F.ex
  have ed:zbK K (R.fad K f)=data:=by rw [ea]; exact znk lku
  have hsb:mg "super"=none:=lk.blt _ s5
  refine .sup (d:=c) (N:=N) (body:=d.body) (scope:=d.scope) hsb ⟨⟨d.name,d.qual,d.params,cc,dV,kV,doc,pm,ct,oc,an,od,co,osl, ?_, ?_,hcd,hcell,⟨ccl,cdd,ccs,vs,R.file,tf,hc1,hc2,by rw [hfile]; exact beq_self_eq_true _⟩, ?_⟩, ?_,NdefX.nscope_by s1,bn,htop, ?_, ?_,Option.isSome_iff_exists.mp k1⟩ ?_ fun C k X W c n ⟨slf,S⟩=>zqi S fd.body _ n c s6
  ·show zbK K (R.fad K f)=_
   rw [ed]
   exact ed0
  ·show K.lookup (R.fad K f)=some ⟨oc,od,.func (zbK K (R.fad K f)),osl⟩
   rw [ed,ea]
   exact lku
  ·split at s3
   ·rename_i a as ep
    refine ⟨a, ?_,of_decide_eq_true s3⟩
    unfold parB at bp
    split at bp
    ·rename_i as' va ko kdx ddx ep2
     rw [ep2] at ep ⊢
     have ep:as'=a::as:=ep
     rw [ep]
     rfl
    ·cases bp
   ·cases s3
  ·show PySem.W.keepIn K (.ref (R.fad K f))=true
   rw [ea]
   exact F.kp
  ·split at s2
   ·assumption
   ·cases s2
  ·cases hps:fd.ps with
   | nil=>rw [hps] at s4; cases s4
   | cons _ _=>simp
  ·show FnL _ K fd (zbK K (R.fad K f))
   rw [ed]
   exact zkK rfl inj rfl (hdf _ hm) hD hKw bp hA ed0
theorem zq0 (ck:rowK R K=true) (h1:∀f z,R.fns[f]?=some z→R.sfns.lookup f=none→R.pfns.contains f=false→∃fd,FunD K z.2.1.name z.2.1.qual z.2.1.params z.2.1.body z.2.1.scope (z.2.1.dvs K) (z.2.1.kws K) (He.fAd K z.2.1.at_) fd)
  (h2:∀f z,R.fns[f]?=some z→R.pfns.contains f=true→fnC K true z.2.1.at_=valC (true,z.2.1)) (f:Nat) (z:Fd×He.DefD×List Str) (e:R.fns[f]?=some z) (q:R.sfns.lookup f=none):
  ∃fd,FunD K z.2.1.name z.2.1.qual z.2.1.params z.2.1.body z.2.1.scope (z.2.1.dvs K) (z.2.1.kws K) (R.fad K f) fd:=by
 cases p:R.pfns.contains f with
 | false=>
  have ea:R.fad K f=He.fAd K z.2.1.at_:=by
   rw [zkk e,p]
   rfl
  rw [ea]
  exact h1 f z e q p
 | true=>
  have ea:R.fad K f=adC K true z.2.1.at_:=by rw [zkk e,p]
  simp only [rowK,Bool.and_eq_true] at ck
  have b:=List.all_eq_true.mp ck.2 f (by simpa using p)
  rw [e] at b
  rw [ea] at b ⊢
  exact zly (h2 f z e p) b
end
theorem zlF {l:PySem.W.OpenLaw} {n k:Nat} {q:Program} {loose:List Str} {XP:(Str→Option Value)→Heap→Prop} {YP:World→Heap→Prop} {d:DefRec} {x:Str} (hn:l.most=some n) (hn2:n≤sizeLine) (hdf:d.params.defaults=[])
  (hr:Room k callerA)
  (F:∀(w:World) (mg:Str→Option Value) (fa:Addr) (h:Heap),YP w h→h.Ns mainGlobals mg→mg d.name=some (.ref fa)→∃(fr:Addr→Bool) (K:PySem.W.Frag) (fd:FuncData) (sp:Sp),K.In h∧(∀(s:Shared) (u:Value),BindsTo s fd ⟨[u],[]⟩ [(x,u)])∧
    (∀(H:Hp) (a:Addr) (ns:List Int),ns.length≤n→(∀z∈ns,Builtin.Int.intBits z≤1048576)→Only H→SqL K H a (ns.map V.int)→sp [.ref a] H (fun v _=>v=.bl true) fun _ _ _=>False)∧∀base:Heap,FnOk l.prog w K mg base (CXM fr l.prog w) k fa fd [x] sp):
  PySem.W.WalkO q loose XP YP l.row.toRowW d [] (fun f vs=>PySem.call f vs):=by
 refine Att.attach_callB hn hdf fun w s0 s1 mg mb fa o pm cd doc a vs ns G0 Y ho hd hcd hmg hobj hints hlen hbits hg=>?_
 obtain ⟨fr,K,fd,sp,KX,hb,hsp,hF⟩:=F w mg fa _ Y G0.T.g hmg
 refine law_call KX G0.T.g G0.T.b G0.T.builtins G0.T.nolimit hg hobj hints (Nat.le_trans hlen hn2) hr (fun base _ _=>hF base) hb (fun H hO hS=>hsp H a ns hlen hbits hO hS) fun H e s' hc=>?_
 exact CXM.none hc
end Mi
end
section
set_option maxHeartbeats 8000000
namespace Mi
open PySem PySem.Spec PyProof.Rows L2
theorem zfI {κ α:Type} [BEq κ] [LawfulBEq κ]:∀ {ps:List κ} {us:List α},ps.Nodup→∀x∈ps.zip us,(ps.zip us).lookup x.1=some x.2
 | [],_,_,x,h=>by simp at h
 | p::ps,[],_,x,h=>by simp at h
 | p::ps,u::us,nd,x,h=>by
  rw [List.zip_cons_cons] at h ⊢
  rw [List.lookup_cons]
  rcases List.mem_cons.mp h with e | h
  ·subst e
   simp
  ·have hm:x.1∈ps:=(List.of_mem_zip (show (x.1,x.2)∈ps.zip us from h)).1
   have ne:(x.1==p)=false:=beq_eq_false_iff_ne.mpr fun z=>(List.nodup_cons.mp nd).1 (z ▸ hm)
   rw [ne]
   exact zfI (List.nodup_cons.mp nd).2 x h
theorem zkA {κ α:Type} [BEq κ] [LawfulBEq κ] {ps:List κ} (nd:ps.Nodup) {us:List α} (hl:us.length=ps.length):zbb ps ps.length (List.replicate ps.length none) us [] []=some us:=by
 unfold zbb
 rw [if_pos (by simp [hl])]
 have key:∀(qs:List κ) (ws:List α) (t:List (κ×α)),qs.length=ws.length→(∀x∈qs.zip ws,t.lookup x.1=some x.2)→mapO (fun p:κ×Option α=>(t.lookup p.1).or p.2) (qs.zip (List.replicate qs.length none))=some ws:=by
  intro qs
  induction qs with
  | nil=>
   intro ws t e _
   cases ws with
   | nil=>rfl
   | cons _ _=>cases e
  | cons q qs ih=>
   intro ws t e h
   cases ws with
   | nil=>cases e
   | cons w ws=>
    simp only [List.length_cons,List.replicate_succ,List.zip_cons_cons,mapO]
    rw [h (q,w) (by simp),ih ws t (by simpa using e) fun x hx=>h x (by simp only [List.zip_cons_cons]; exact List.mem_cons_of_mem _ hx)]
    rfl
 exact key ps us _ hl.symm fun x hx=>by
  have z:=zfI nd x hx
  simpa using z
theorem zql {K:PySem.W.Frag} {x qual:Str} {params:Arguments} {body:List Stmt} {scope:Scope} {f:Addr} {fd:FuncData} {as:List Arg} (F:FunD K x qual params body scope [] [] f fd) (hp:params=⟨[],as,none,[],[],none,[]⟩) (nd:(as.map (·.arg)).Nodup) (s:Shared) (us:List Value) (hl:us.length=(as.map (·.arg)).length):BindsTo s fd ⟨us,[]⟩ ((as.map (·.arg)).zip us):=by
 obtain ⟨oc,od,dV,kV,doc,pm,an,cdv,ct,osl,rfl,lk,hcd,hD,hK⟩:=F.ex
 rcases hD with ⟨_,rfl⟩ | ⟨e,_⟩
 ·subst hp
  have nd2:(as.map (·.arg)++([]:List Arg).map (·.arg)).Nodup:=by simpa using nd
  have hb:=zkA nd hl
  have z:∀M,PySem.W.Looks M s.heap (bindArgs (PySem.W.fnOf x qual ⟨[],as,none,[],[],none,[]⟩ body scope .none kV doc pm an cdv ct) ⟨us,([]:List Str).zip []⟩) ((as.map (·.arg)++([]:List Arg).map (·.arg)).zip us):=fun M=>
   zd6 (its:=[]) (kdv:=[]) (o:=none) nd2 (.of_pure rfl) rfl (Nat.zero_le _) rfl .nil (fun n v h=>by simp at h) (by
     simp only [List.map_nil,List.append_nil,List.length_nil,Nat.sub_zero]
     rw [List.length_map] at hb
     exact hb)
  simp only [List.map_nil,List.append_nil,List.zip_nil_right] at z
  exact BindsTo.of_looks z
 ·exact absurd rfl e
theorem zmy {K:PySem.W.Frag} {x qual:Str} {params:Arguments} {body:List Stmt} {scope:Scope} {f:Addr} {fd:FuncData} {as:List Arg} (F:FunD K x qual params body scope [] [] f fd) (hp:params=⟨[],as,none,[],[],none,[]⟩) (nd:(as.map (·.arg)).Nodup):KwB fd (as.map (·.arg)):=fun s us uz us' ks nk hb=>by
 obtain ⟨oc,od,dV,kV,doc,pm,an,cdv,ct,osl,rfl,lk,hcd,hD,hK⟩:=F.ex
 rcases hD with ⟨_,rfl⟩ | ⟨e,_⟩
 ·subst hp
  have nd2:(as.map (·.arg)++([]:List Arg).map (·.arg)).Nodup:=by simpa using nd
  have z:∀M,PySem.W.Looks M s.heap (bindArgs (PySem.W.fnOf x qual ⟨[],as,none,[],[],none,[]⟩ body scope .none kV doc pm an cdv ct) ⟨us,ks.zip uz⟩) ((as.map (·.arg)++([]:List Arg).map (·.arg)).zip us'):=fun M=>
   zd6 (its:=[]) (kdv:=[]) (o:=none) nd2 (.of_pure rfl) rfl (Nat.zero_le _) rfl nk (fun n v h=>by simp at h) (by
     simp only [List.map_nil,List.append_nil,List.length_nil,Nat.sub_zero]
     rw [List.length_map] at hb
     exact hb)
  simp only [List.map_nil,List.append_nil] at z
  exact BindsTo.of_looks z
 ·exact absurd rfl e
theorem zdt {K:PySem.W.Frag} {N P:List Str} {d:He.DefD} {a:Addr} {data:FuncData} (h:zfr N P d=true) (F:FunD K d.name d.qual d.params d.body d.scope (d.dvs K) (d.kws K) a data):
  FunD K d.name d.qual d.params d.body d.scope [] [] a data∧FnScope N P d.scope∧Binds K data P []∧(∀(s:Shared) (us:List Value),us.length=P.length→BindsTo s data ⟨us,[]⟩ (P.zip us))∧KwB data P∧P.Nodup:=by
 unfold zfr at h
 simp only [Bool.and_eq_true,decide_eq_true_eq] at h
 obtain ⟨⟨⟨⟨h1,h2⟩,h3⟩,h4⟩,h5⟩:=h
 have e1:d.dvs K=[]:=by
  unfold He.DefD.dvs
  rw [List.isEmpty_iff.mp h1]
  rfl
 have e2:d.kws K=[]:=by
  unfold He.DefD.kws
  rw [List.isEmpty_iff.mp h2]
  rfl
 rw [e1,e2] at F
 refine ⟨F,ze0 h3, ?_⟩
 split at h5
 ·rename_i as ep
  have e3:as.map (·.arg)=P:=of_decide_eq_true h5
  have z:=zql F ep (by rw [e3]; exact h4)
  have z2:=zmy F ep (by rw [e3]; exact h4)
  rw [e3] at z z2
  exact ⟨fun s us _ hl=>by
    rw [List.append_nil] at hl ⊢
    exact z s us hl,z,z2,h4⟩
 ·cases h5
theorem zc2 {sc:Scope} {x:Str} (h:glSc sc x=true):sc.names.lookup x=some .globalImplicit:=by
 unfold glSc at h
 split at h
 ·assumption
 ·cases h
theorem zem {bk:Bs} {K:PySem.W.Frag} {C:Addr} (h:oexB bk K C=true):OexB K bk C:=by
 simp only [oexB,Bool.and_eq_true] at h
 obtain ⟨⟨⟨⟨h1,h2⟩,h3⟩,h4⟩,h5⟩:=h
 refine ⟨?_,zcb h2,zcs h3, ?_,h5⟩
 ·split at h1
  ·rename_i t dd cd sl ho
   simp only [Bool.and_eq_true,decide_eq_true_eq] at h1
   obtain ⟨rfl,h1⟩:=h1
   split at h1
   ·rename_i C' bm k0 k1 k2 k3 n k5 hm hs
    simp only [Bool.and_eq_true,decide_eq_true_eq,Bool.not_eq_true'] at h1
    obtain ⟨⟨⟨⟨rfl,rfl⟩,hdel⟩,hdict⟩,ht⟩:=h1
    obtain ⟨nm,bs,mro,ns,qn,hd,sn,sub,ab,col,del⟩:=cd
    dsimp only at hm hdel hdict
    subst hm hdel hdict
    have hsl:sl=#[k0,k1,k2,k3,some (.builtin bk.new),k5]:=by
     obtain ⟨l⟩:=sl
     simp only at hs
     rw [hs]
    subst hsl
    exact ⟨nm,qn,ns,bs,bm,sn,sub,ab,col,dd,k0,k1,k2,k3,k5,ho,ht⟩
   ·cases h1
  ·cases h1
 ·split at h4
  ·rename_i t e
   rw [e,of_decide_eq_true h4]
  ·cases h4
section
variable {R:Rw} {K:PySem.W.Frag} {h:Heap} {mg:Str→Option Value}
theorem zpl {g:G} {w:World} (gok:GOk R K w g) {P:Program} {base:Heap} (X:K.In h) (G0:h.Ns mainGlobals mg) (hlk:∀x,R.blts.contains x=true→mg x=none) (ok:R.xok=true) (ck:rowX R K=true) (cns:(R.cns.all fun x=>eqA (PySem.W.nsIn K mainGlobals x) (He.ga K x))=true)
  (hd:∀d,(d∈R.xb.map (·.d)∨d∈R.xcs.map (·.d)∨d∈R.xns.map (·.d))→∃fd,FunD K d.name d.qual d.params d.body d.scope (d.dvs K) (d.kws K) (He.fAd K d.at_) fd):XO g R.T R.cf P w K mg base:=by
 have cxm:xmK R K=true:=by
  unfold rowX at ck
  exact (Bool.and_eq_true_iff.mp (Bool.and_eq_true_iff.mp ck).1).1
 have cxv:xvK R K=true:=by
  unfold rowX at ck
  exact (Bool.and_eq_true_iff.mp (Bool.and_eq_true_iff.mp ck).1).2
 unfold xvK at cxv
 simp only [Bool.and_eq_true] at cxv
 obtain ⟨v0,⟨v1,v2⟩,v3⟩:=cxv
 refine ⟨fun c r e=>?_,fun c cs b e=>?_,fun c b e=>?_,fun c t b e=>?_,fun c n e=>?_⟩
 rotate_left
 ·have ck:=(Bool.and_eq_true_iff.mp cxm).1
  have e:R.exms.lookup (c,cs)=some b:=e
  have z:=List.all_eq_true.mp ck _ (zaf (f:=fun x:Bool=>x) e)
  rw [gok.cad]
  exact zcs z
 ·have ck:=(Bool.and_eq_true_iff.mp cxm).2
  have e:R.frs.lookup c=some b:=e
  have z:=List.all_eq_true.mp ck _ (zaf (f:=fun x:Bool=>x) e)
  rw [gok.cad,gok.fr]
  exact of_decide_eq_true z
 ·have e:R.kixs.lookup (c,t)=some b:=e
  have z:=List.all_eq_true.mp v1 _ (zaf (f:=fun x:Bool=>x) e)
  simp only [Bool.and_eq_true] at z
  unfold exB at z
  simp only [Bool.and_eq_true] at z
  obtain ⟨⟨⟨⟨⟨⟨⟨⟨z1,z2⟩,z3⟩,z4⟩,z5⟩,z6⟩,z7⟩,z8⟩,z9⟩:=z
  rw [gok.cad]
  refine ⟨⟨zcb z1,zde z2,zcs z3,z4,zcb z5,zcb z6,zcs z7,zcs z8⟩, ?_⟩
  have et:zcC g t=zcC (R.g K) t:=by
   cases t with
   | bt n=>rfl
   | own d=>show Value.ref (g.cad d)=_; rw [gok.cad]; rfl
  rw [et]
  exact zcs z9
 ·have e:R.xats.contains (c,n)=true:=e
  have z:=List.all_eq_true.mp v2 _ (List.contains_iff_mem.mp e)
  simp only [Bool.and_eq_true] at z
  rw [gok.cad,gok.an]
  exact ⟨xfB_ok z.1,zde z.2⟩
 have e:(((R.xcs.map fun x:Xc=>(x.c,x.np,x.fl))++(if R.xvb then R.xb.map fun b:Xb=>(b.c,1,[(R.ncode,(Sum.inl 0:Nat ⊕ Str))]) else []))++R.xns.map fun x:Xn=>(x.c,0,[(R.ncode,(Sum.inr x.code:Nat ⊕ Str))])).lookup c=some r:=e
 rw [List.lookup_append,List.lookup_append] at e
 obtain ⟨np,fl⟩:=r
 cases e0:(R.xcs.map fun x:Xc=>(x.c,x.np,x.fl)).lookup c with
 | none=>
  rw [e0,Option.none_or] at e
  cases e9:(if R.xvb then R.xb.map fun b:Xb=>(b.c,1,[(R.ncode,(Sum.inl 0:Nat ⊕ Str))]) else []).lookup c with
  | none=>
   rw [e9,Option.none_or] at e
   have hx:∃x,R.xns.find? (fun x=>x.c==c)=some x∧x.c=c∧np=0∧fl=[(R.ncode,.inr x.code)]∧x∈R.xns:=by
    have:∀l:List Xn,(l.map fun x=>(x.c,0,[(R.ncode,(Sum.inr x.code:Nat ⊕ Str))])).lookup c=some (np,fl)→∃x,l.find? (fun x=>x.c==c)=some x∧x.c=c∧np=0∧fl=[(R.ncode,.inr x.code)]∧x∈l:=by
     intro l
     induction l with
     | nil=>intro h; cases h
     | cons y l ih=>
      intro h
      rw [List.map_cons,List.lookup_cons] at h
      by_cases q:y.c=c
      ·subst q
       rw [beq_self_eq_true] at h
       have h:=Option.some.inj h
       injection h with i1 i2
       exact ⟨y,by rw [List.find?_cons]; simp,rfl,i1.symm,i2.symm,List.mem_cons_self⟩
      ·have q2:(c==y.c)=false:=beq_eq_false_iff_ne.mpr fun z=>q z.symm
       rw [q2] at h
       obtain ⟨x,a1,a2,a3,a4,a5⟩:=ih h
       refine ⟨x, ?_,a2,a3,a4,List.mem_cons_of_mem _ a5⟩
       rw [List.find?_cons,beq_eq_false_iff_ne.mpr q]
       exact a1
    exact this R.xns e
   obtain ⟨x,hf,rfl,rfl,rfl,hm⟩:=hx
   unfold Rw.xok at ok
   rw [Bool.and_eq_true,Bool.and_eq_true] at ok
   have xv:=ok.1.1
   unfold xvOk at xv
   have ox:=List.all_eq_true.mp (Bool.and_eq_true_iff.mp xv).1 x hm
   have cx:=List.all_eq_true.mp v0 x hm
   unfold xnOk at ox
   unfold xnK at cx
   simp only [Bool.and_eq_true,decide_eq_true_eq] at ox cx
   obtain ⟨⟨⟨⟨⟨⟨⟨o1,o2⟩,o3⟩,o4⟩,o5⟩,o6⟩,o7⟩,_⟩:=ox
   obtain ⟨⟨⟨⟨c1,k1⟩,k2⟩,k3⟩,k4⟩:=cx
   have o6:=Option.isNone_iff_eq_none.mp o6
   have o7:=Option.isNone_iff_eq_none.mp o7
   obtain ⟨dX,FX0⟩:=hd x.d (.inr (.inr (List.mem_map.mpr ⟨x,hm,rfl⟩)))
   obtain ⟨FX,SX,BX,_,KX,ndX⟩:=zdt o1 FX0
   have hv:PySem.W.findCls K (.type x.b.n) (.type "type") "__init__"=some (.val (.builtin x.b.ini)):=by
    split at c1
    ·rename_i z e1
     rw [e1,of_decide_eq_true c1]
    ·cases c1
   have b0:=zpV (P:=P) (w:=w) (base:=base) (mg:=mg) FX SX o2 (zc2 o3) (hlk _ o4) hv
   have b1:=b0.1.mono (show 1≤2 by decide)
   have b2:=b0.2
   have efl:flS g [(R.ncode,Sum.inr x.code)]=[(x.f,.con x.code)]:=by
    unfold flS
    rw [gok.an]
    show [(R.an R.ncode,ExS.con x.code)]=_
    rw [o5]
   have hnany:(R.xb.any fun y=>y.c==x.c)=false:=by
    cases q:R.xb.any fun y=>y.c==x.c with
    | false=>rfl
    | true=>
     obtain ⟨y,my,ey⟩:=List.any_eq_true.mp q
     exact absurd ey (by simpa using List.find?_eq_none.mp o7 y my)
   have hno:∀q∈flS g [(R.ncode,Sum.inr x.code)],PySem.W.findIn K (.ref (g.cad x.c)) q.1=some none:=fun q hq=>by
    rw [efl] at hq
    rw [List.mem_singleton.mp hq,gok.cad]
    exact zde k2
   obtain ⟨s0,hN⟩:∃s0,x.N=[s0]:=by
    have:=zhL o2
    match x.N,this with
    | [s0],_=>exact ⟨s0,rfl⟩
   refine ⟨?_,by show 0≤100; decide,⟨hno,x.b,by rw [gok.cad]; exact zem k1,He.fAd K x.d.at_,dX,x.N,by rw [gok.cad]; exact zbg k3,zc9 k4,by rw [efl]; exact b1,BX, ?_⟩,x.b,by rw [gok.cad]; exact zem k1,He.fAd K x.d.at_,dX,s0,by rw [gok.cad]; exact zbg k3,zc9 k4, ?_⟩
   ·show (match R.xcs.find? fun y=>y.c==x.c with | some x=>exF x.fl x.np | none=>if R.xvb&&R.xb.any fun y=>y.c==x.c then exF [(R.ncode,.inl 0)] 1 else (match R.xns.find? fun y:Xn=>y.c==x.c with | some x=>exF [(R.ncode,.inr x.code)] 0 | none=>fun _=>none))=_
    rw [o6,hnany,Bool.and_false,hf]
    rfl
   ·rw [efl]
    exact ⟨b2.len,fun A outer s H args us vs Q E p hr=>b2.run A outer s H args us vs Q E p (hr.mono (by decide))⟩
   ·have ex:R.T.exp x.c=[]:=by
     show (match R.xcs.find? fun y=>y.c==x.c with | some x=>x.N.tail | none=>(match R.xb.find? fun y:Xb=>y.c==x.c with | some y=>y.N.tail | none=>[]))=_
     rw [o6,o7]
    rw [ex, ← hN,efl]
    exact ⟨b1,KX,List.not_mem_nil⟩
  | some r'=>
  rw [e9,Option.some_or] at e
  cases e
  have e:=e9
  cases hvb:R.xvb with
  | false=>rw [hvb] at e; cases e
  | true=>
   rw [hvb,if_pos rfl] at e
   have hb:∃b∈R.xb,b.c=c∧np=1∧fl=[(R.ncode,.inl 0)]:=by
    have:∀l:List Xb,(l.map fun b=>(b.c,1,[(R.ncode,(Sum.inl 0:Nat ⊕ Str))])).lookup c=some (np,fl)→∃b∈l,b.c=c∧np=1∧fl=[(R.ncode,.inl 0)]:=by
     intro l
     induction l with
     | nil=>intro h; cases h
     | cons y l ih=>
      intro h
      rw [List.map_cons,List.lookup_cons] at h
      by_cases q:y.c=c
      ·subst q
       rw [beq_self_eq_true] at h
       have h:=Option.some.inj h
       injection h with i1 i2
       exact ⟨y,List.mem_cons_self,rfl,i1.symm,i2.symm⟩
      ·have q2:(c==y.c)=false:=beq_eq_false_iff_ne.mpr fun z=>q z.symm
       rw [q2] at h
       obtain ⟨x,a1,a2⟩:=ih h
       exact ⟨x,List.mem_cons_of_mem _ a1,a2⟩
    exact this R.xb e
   obtain ⟨b,mb,rfl,rfl,rfl⟩:=hb
   rw [hvb] at v3
   have w3:=List.all_eq_true.mp (show (R.xb.all _)=true from v3) b mb
   simp only [Bool.and_eq_true] at w3
   obtain ⟨⟨⟨k1,k2⟩,k3⟩,k4⟩:=w3
   unfold Rw.xok at ok
   unfold rowX at ck
   have ck:=(Bool.and_eq_true_iff.mp ck).2
   rw [Bool.and_eq_true] at ck
   rw [Bool.and_eq_true,Bool.and_eq_true] at ok
   have ob:=List.all_eq_true.mp ok.1.2 b mb
   have cb:=List.all_eq_true.mp ck.1 b mb
   have xv:=ok.1.1
   unfold xvOk at xv
   rw [hvb] at xv
   have xv:=List.all_eq_true.mp (show (R.xb.all _)=true from (Bool.and_eq_true_iff.mp xv).2) b mb
   simp only [Bool.and_eq_true,decide_eq_true_eq] at xv
   obtain ⟨⟨y1,y2⟩,y3⟩:=xv
   have y2:=Option.isNone_iff_eq_none.mp y2
   unfold xbOk at ob
   unfold xbK at cb
   simp only [Bool.and_eq_true,decide_eq_true_eq] at ob cb
   obtain ⟨⟨⟨⟨o1,o2⟩,o3⟩,o4⟩,o5⟩:=ob
   obtain ⟨c1,c2⟩:=cb
   obtain ⟨dB,FB0⟩:=hd b.d (.inl (List.mem_map.mpr ⟨b,mb,rfl⟩))
   obtain ⟨FB,SB,BB,_,KBb,ndB⟩:=zdt o1 FB0
   have hv:PySem.W.findCls K (.type b.b.n) (.type "type") "__init__"=some (.val (.builtin b.b.ini)):=by
    split at c1
    ·rename_i z e1
     rw [e1,of_decide_eq_true c1]
    ·cases c1
   have b1:=(zkg (P:=P) (w:=w) (base:=base) (mg:=mg) FB SB o2 (zc2 o3) (hlk _ o4) hv).mono (show 1≤2 by decide)
   have b2:=zif (P:=P) (w:=w) (base:=base) (mg:=mg) FB SB o2 (zc2 o3) (hlk _ o4) hv
   have efl:flS g [(R.ncode,Sum.inl 0)]=[(b.f,.par 0)]:=by
    unfold flS
    rw [gok.an]
    show [(R.an R.ncode,ExS.par 0)]=_
    rw [y1]
   have hany:(R.xb.any fun y=>y.c==b.c)=true:=List.any_eq_true.mpr ⟨b,mb,by simp⟩
   have hno:∀q∈flS g [(R.ncode,Sum.inl 0)],PySem.W.findIn K (.ref (g.cad b.c)) q.1=some none:=fun q hq=>by
    rw [efl] at hq
    rw [List.mem_singleton.mp hq,gok.cad]
    exact zde k2
   obtain ⟨s0,n1,hN⟩:∃s0 n1,b.N=[s0,n1]:=by
    have:=zgl o2
    match b.N,this with
    | [s0,n1],_=>exact ⟨s0,n1,rfl⟩
   refine ⟨?_,by show 1≤100; decide,⟨hno,b.b,by rw [gok.cad]; exact zem k1,He.fAd K b.d.at_,dB,b.N,by rw [gok.cad]; exact zbg k3,zc9 k4,by rw [efl]; exact b1,BB, ?_⟩,b.b,by rw [gok.cad]; exact zem k1,He.fAd K b.d.at_,dB,s0,by rw [gok.cad]; exact zbg k3,zc9 k4, ?_⟩
   ·show (match R.xcs.find? fun y=>y.c==b.c with | some x=>exF x.fl x.np | none=>if R.xvb&&R.xb.any fun y=>y.c==b.c then exF [(R.ncode,.inl 0)] 1 else (match R.xns.find? fun y:Xn=>y.c==b.c with | some x=>exF [(R.ncode,.inr x.code)] 0 | none=>fun _=>none))=_
    rw [y2,hvb,hany]
    rfl
   ·rw [efl]
    exact ⟨b2.len,fun A outer s H args us vs Q E p hr=>b2.run A outer s H args us vs Q E p (hr.mono (by decide))⟩
   ·have hq:∃y,(R.xb.find? fun y=>y.c==b.c)=some y∧y.N=b.N:=by
     cases q:(R.xb.find? fun y=>y.c==b.c) with
     | none=>rw [q] at y3; cases y3
     | some y=>rw [q] at y3; exact ⟨y,rfl,of_decide_eq_true y3⟩
    obtain ⟨y,ey,eN⟩:=hq
    have ex:R.T.exp b.c=[n1]:=by
     show (match R.xcs.find? fun x=>x.c==b.c with | some x=>x.N.tail | none=>(match R.xb.find? fun y:Xb=>y.c==b.c with | some y=>y.N.tail | none=>[]))=_
     rw [y2,ey]
     show y.N.tail=[n1]
     rw [eN,hN]
     rfl
    rw [ex, ← hN,efl]
    rw [hN] at ndB
    exact ⟨b1,KBb,fun z=>by rw [List.mem_singleton.mp z] at ndB; simp at ndB⟩
 | some r'=>
 rw [e0,Option.some_or] at e
 cases e
 have e:=e0
 have hx:∃x,R.xcs.find? (fun x=>x.c==c)=some x∧x.c=c∧x.np=np∧x.fl=fl∧x∈R.xcs:=by
  have:∀l:List Xc,(l.map fun x=>(x.c,x.np,x.fl)).lookup c=some (np,fl)→∃x,l.find? (fun x=>x.c==c)=some x∧x.c=c∧x.np=np∧x.fl=fl∧x∈l:=by
   intro l
   induction l with
   | nil=>intro h; cases h
   | cons y l ih=>
    intro h
    rw [List.map_cons,List.lookup_cons] at h
    by_cases q:y.c=c
    ·subst q
     rw [beq_self_eq_true] at h
     have h:=Option.some.inj h
     injection h with i1 i2
     exact ⟨y,by rw [List.find?_cons]; simp,rfl,i1,i2,List.mem_cons_self⟩
    ·have q2:(c==y.c)=false:=beq_eq_false_iff_ne.mpr fun z=>q z.symm
     rw [q2] at h
     obtain ⟨x,a1,a2,a3,a4,a5⟩:=ih h
     refine ⟨x, ?_,a2,a3,a4,List.mem_cons_of_mem _ a5⟩
     rw [List.find?_cons]
     have q3:(y.c==c)=false:=beq_eq_false_iff_ne.mpr q
     rw [q3]
     exact a1
  exact this R.xcs e
 obtain ⟨x,hf,rfl,rfl,rfl,hm⟩:=hx
 unfold Rw.xok at ok
 unfold rowX at ck
 have ck:=(Bool.and_eq_true_iff.mp ck).2
 rw [Bool.and_eq_true] at ck
 rw [Bool.and_eq_true,Bool.and_eq_true] at ok
 have ox:=List.all_eq_true.mp ok.2 x hm
 have cx:=List.all_eq_true.mp ck.2 x hm
 cases hb:R.xb[x.ix]? with
 | none=>
  rw [hb] at ox
  cases ox
 | some b=>
  rw [hb] at ox cx
  have mb:b∈R.xb:=List.mem_of_getElem? hb
  have ob:=List.all_eq_true.mp ok.1.2 b mb
  have cb:=List.all_eq_true.mp ck.1 b mb
  unfold xbOk at ob
  unfold xbK at cb
  have ox:xcOk R b x=true:=ox
  have cx:xcK R K b x=true:=cx
  unfold xcOk at ox
  unfold xcK at cx
  simp only [Bool.and_eq_true,decide_eq_true_eq] at ob cb ox cx
  obtain ⟨⟨⟨⟨o1,o2⟩,o3⟩,o4⟩,o5⟩:=ob
  obtain ⟨c1,c2⟩:=cb
  obtain ⟨⟨⟨⟨⟨⟨p1,p2⟩,p3⟩,p4⟩,p5⟩,p6⟩,_⟩:=ox
  obtain ⟨⟨⟨k1,k2⟩,k3⟩,k4⟩:=cx
  obtain ⟨dB,FB0⟩:=hd b.d (.inl (List.mem_map.mpr ⟨b,mb,rfl⟩))
  obtain ⟨FB,SB,BB,_⟩:=zdt o1 FB0
  obtain ⟨dx,FX0⟩:=hd x.d (.inr (.inl (List.mem_map.mpr ⟨x,hm,rfl⟩)))
  obtain ⟨FX,SX,BX,_,KX,ndX⟩:=zdt p1 FX0
  have hv:PySem.W.findCls K (.type b.b.n) (.type "type") "__init__"=some (.val (.builtin b.b.ini)):=by
   split at c1
   ·rename_i z e1
    rw [e1,of_decide_eq_true c1]
   ·cases c1
  have b1:=zkg (P:=P) (w:=w) (base:=base) (mg:=mg) FB SB o2 (zc2 o3) (hlk _ o4) hv
  have b2:=zif (P:=P) (w:=w) (base:=base) (mg:=mg) FB SB o2 (zc2 o3) (hlk _ o4) hv
  have hmB:mg (R.cns.getD b.c Str.empty)=some (.ref ((R.g K).cad b.c)):=by
   have e1:R.cns.getD b.c Str.empty=R.cns[b.c]:=by simp [List.getD,o5]
   show mg (R.cns.getD b.c Str.empty)=some (.ref (He.ga K (R.cns.getD b.c Str.empty)))
   rw [e1]
   exact PySem.W.mg_of X G0 (zbg (List.all_eq_true.mp cns _ (List.getElem_mem o5)))
  split at c2
  ·rename_i mc e1
   simp only [Bool.and_eq_true] at c2
   obtain ⟨⟨r1,r2⟩,r3⟩:=c2
   split at r3
   ·rename_i z e2
    have ez:=of_decide_eq_true r3
    subst ez
    have d1:=zqt (P:=P) (w:=w) (base:=base) (mg:=mg) (K:=K) FX SX p2 (zc2 p3) hmB ⟨r1,zcb r2⟩ e2 FB.kp b1 BB
    have d2:=zm9 (P:=P) (w:=w) (base:=base) (mg:=mg) (K:=K) FX SX p2 (zc2 p3) hmB ⟨r1,zcb r2⟩ e2 FB.kp b2 BB
    have efl:flS g x.fl=derF b.f x.code x.qs:=by
     unfold flS
     rw [gok.an]
     exact p6
    refine ⟨?_,p5, ?_, ?_⟩
    ·show (match R.xcs.find? fun y=>y.c==x.c with | some x=>exF x.fl x.np | none=>_)=_
     rw [hf]
    rotate_left
    ·obtain ⟨s0,px,hN⟩:∃s0 px,x.N=s0::px:=by
      have:=zkd p2
      match x.N,this.2 with
      | s0::px,_=>exact ⟨s0,px,rfl⟩
     have ex:R.T.exp x.c=px:=by
      show (match R.xcs.find? fun y=>y.c==x.c with | some x=>x.N.tail | none=>_)=_
      rw [hf]
      show x.N.tail=px
      rw [hN]
      rfl
     rw [ex]
     refine ⟨b.b,by rw [gok.cad]; exact zem k1,He.fAd K x.d.at_,dx,s0,by rw [gok.cad]; exact zbg k3,zc9 k4, ?_,by rw [← hN]; exact KX,fun z=>?_⟩
     ·rw [efl, ← hN]
      show FnOk P w K mg base (L2.CX P w) 2 _ dx x.N (spI K b.b x.np _)
      rw [p4]
      exact d1
     ·rw [hN] at ndX
      exact (List.nodup_cons.mp ndX).1 z
    ·refine ⟨fun q hq=>?_,b.b,by rw [gok.cad]; exact zem k1,He.fAd K x.d.at_,dx,x.N,by rw [gok.cad]; exact zbg k3,zc9 k4, ?_,BX, ?_⟩
     ·unfold flS at hq
      obtain ⟨y,hy,ey⟩:=List.mem_map.mp hq
      rw [gok.cad, ← ey,gok.an]
      exact zde (List.all_eq_true.mp k2 y hy)
     ·rw [efl]
      show FnOk P w K mg base (L2.CX P w) 2 _ dx x.N (spI K b.b x.np _)
      rw [p4]
      exact d1
     ·rw [efl]
      show L2H.FnH P w K mg base (L2.CX P w) 2 _ dx x.N (spI K b.b x.np _)
      rw [p4]
      exact d2
   ·cases r3
  ·cases c2
end
end Mi
end
section
set_option maxHeartbeats 8000000
namespace Mi
open PySem PySem.Spec PyProof.Rows L2
theorem How.keep {g:G} {T:Tb} {cf:Cf} {dt:Nat→FuncData} {wf:Nat} {P:Program} {K:PySem.W.Frag} {mg:Str→Option Value} {f:Nat} {fd:Fd} (h:How g T cf dt wf P K mg f fd):PySem.W.keepIn K (.ref (g.gad f))=true:=by
 cases h with
 | plain F B hb=>exact F.fun_.elim fun _ ⟨_,_,_,_,FD⟩=>FD.kp
 | tok F B hnc hps hb=>exact F.fun_.elim fun _ ⟨_,_,_,_,FD⟩=>FD.kp
 | sup hs F B hb=>exact F.kp
section
variable {R:Rw} {K:PySem.W.Frag} {h:Heap} {mg:Str→Option Value}
def Rw.gl (R:Rw) (K:PySem.W.Frag) (w:World) (P0:Addr) (lq:Str) (cl:List (Str×Addr)):G:={ R.gw K w with tabs:=[(P0,lq)],lams:=R.lams,cl:=cl,lq:=lq }
end
end Mi
end
section
set_option maxHeartbeats 4000000
namespace Mi
open PySem PySem.Spec L2
structure Runs {α:Type} (r:Res α) (Q:α→MH→Prop):Prop where
 get:∃a L,r=.ok a L∧Q a L
section
variable {α β:Type} {r:Res α} {Q Q':α→MH→Prop} {Q2:β→MH→Prop} {a:α} {L:MH} {ρ:Loc}
theorem Runs.ok (h:Q a L):Runs (.ok a L) Q:=⟨a,L,rfl,h⟩
theorem Runs.of (h:Runs (.ok a L) Q):Q a L:=by
 obtain ⟨b,L1,e,q⟩:=h.get
 cases e
 exact q
theorem zam:Runs (.ok a L) Q=Q a L:=propext ⟨Runs.of,Runs.ok⟩
theorem zeW {c:Nat} {fs:List (Nat×D)}:¬ Runs (.exc c fs L) Q:=fun h=>by
 obtain ⟨b,L1,e,q⟩:=h.get
 cases e
theorem ze4:¬ Runs .stk Q:=fun h=>by
 obtain ⟨b,L1,e,q⟩:=h.get
 cases e
theorem zag {f:α→M β}:Runs (r.bind f) Q2=Runs r fun a L=>Runs (f a L) Q2:=by
 cases r with
 | ok a L=>
  rw [zam]
  rfl
 | exc c fs L=>exact propext ⟨fun h=>(zeW h).elim,fun h=>(zeW h).elim⟩
 | stk=>exact propext ⟨fun h=>(ze4 h).elim,fun h=>(ze4 h).elim⟩
theorem zaz:Runs r.quiet Q=Runs r Q:=by
 cases r with
 | ok a L=>rfl
 | exc c fs L=>exact propext ⟨fun h=>(ze4 h).elim,fun h=>(zeW h).elim⟩
 | stk=>rfl
theorem Runs.bindX {f:α→M Fl} {Q2:Fl→MH→Prop} (h:Runs r fun a L=>Runs (f a L) Q2):Runs (r.bindX ρ f) Q2:=by
 cases r with
 | ok a L=>exact h.of
 | exc c fs L=>exact (zeW h).elim
 | stk=>exact (ze4 h).elim
theorem Runs.imp (h:Runs r Q) (k:∀a L,Q a L→Q' a L):Runs r Q':=by
 obtain ⟨a,L,e,q⟩:=h.get
 exact ⟨a,L,e,k a L q⟩
end
section
variable {T:Tb} {C:Nat→List D→M D} {wf:Nat} {ρ:Loc} {L:MH}
def Then (Q:Fl→MH→Prop) (k:Loc→M Fl):Fl→MH→Prop:=fun fl L=>match fl with
 | .nx ρ=>Runs (k ρ L) Q
 | fl=>Q fl L
theorem zcp {Q:Fl→MH→Prop} (h:Q (.nx ρ) L):Runs (exSs T C wf .nil ρ L) Q:=⟨_,_,rfl,h⟩
theorem zab {s:Sm} {r:Sms} {Q:Fl→MH→Prop} (h:Runs (exS T C wf s ρ L) (Then Q (exSs T C wf r))):Runs (exSs T C wf (.cons s r) ρ L) Q:=by
 simp only [exSs,zag]
 refine h.imp fun fl L1 q=>?_
 cases fl<;>first | exact q | exact Runs.ok q
theorem zfq {t:Tg} {e:Ex} {Q:Fl→MH→Prop} (h:Runs (evE T C e ρ L) fun d L1=>Runs (puT T C t d ρ L1) fun ρ1 L2=>Q (.nx ρ1) L2):Runs (exS T C wf (.asg t e) ρ L) Q:=by
 simp only [exS]
 refine Runs.bindX (h.imp fun d L1 q=>?_)
 rw [zag,zaz]
 exact q.imp fun ρ1 L2 z=>Runs.ok z
theorem zau {i:Nat} {e:Ex} {Q:Fl→MH→Prop} (h:Runs (evE T C e ρ L) fun d L1=>Q (.nx (ρ.set i (some d))) L1):Runs (exS T C wf (.asg (.var i) e) ρ L) Q:=zfq (h.imp fun d L1 q=>Runs.ok q)
theorem zmK {e:Ex} {Q:Fl→MH→Prop} (h:Runs (evE T C e ρ L) fun d L1=>Q (.nx ρ) L1):Runs (exS T C wf (.expr e) ρ L) Q:=by
 simp only [exS]
 exact Runs.bindX (h.imp fun d L1 q=>Runs.ok q)
theorem zay {e:Ex} {Q:Fl→MH→Prop} (h:Runs (evE T C e ρ L) fun d L1=>Q (.rt d) L1):Runs (exS T C wf (.ret e) ρ L) Q:=by
 simp only [exS]
 exact Runs.bindX (h.imp fun d L1 q=>Runs.ok q)
theorem zfk {e:Ex} {a b:Sms} {Q:Fl→MH→Prop} (h:Runs (evB T C e ρ L) fun k L1=>Runs (if k then exSs T C wf a ρ L1 else exSs T C wf b ρ L1) Q):Runs (exS T C wf (.ife e a b) ρ L) Q:=by
 simp only [exS]
 refine Runs.bindX (h.imp fun d L1 q=>?_)
 cases d<;>exact q
theorem zl9 {is:List Nat} {es:Exs} {Q:Fl→MH→Prop} (h:Runs (evEs T C es ρ L) fun ds L1=>is.length=ds.length∧Q (.nx (zjP ρ is ds)) L1):Runs (exS T C wf (.par is es) ρ L) Q:=by
 simp only [exS]
 refine Runs.bindX (h.imp fun ds L1 q=>?_)
 rw [if_pos q.1]
 exact Runs.ok q.2
theorem zim {t:Tg} {it:It} {b:Sms} {Q:Fl→MH→Prop} (h:Runs (evI T C it ρ L) fun w L1=>Runs (forL (exSs T C wf b) (puT T C t) w (w.len L1) 0 ρ L1) Q):Runs (exS T C wf (.fr t it b) ρ L) Q:=by
 simp only [exS]
 exact Runs.bindX h
def zaB (Q:D→MH→Prop):Fl→MH→Prop:=fun fl L=>match fl with
 | .nx _=>Q .non L
 | .rt d=>Q d L
 | _=>False
theorem zcP {Q:D→MH→Prop} {d:D} {L:MH}:zaB Q (.rt d) L=Q d L:=rfl
theorem zcV {Q:D→MH→Prop} {ρ:Loc} {L:MH}:zaB Q (.nx ρ) L=Q .non L:=rfl
theorem zcF {n f:Nat} {fd:Fd} {ds:List D} {Q:D→MH→Prop} (e:T.fn f=some fd) (hl:ds.length=fd.ps.length)
  (h:Runs (exSs T (zak T wf n) wf fd.body (ds.map some++List.replicate (fd.ns - ds.length) none) L) (zaB Q)):Runs (zak T wf (n+1) f ds L) Q:=by
 unfold zak
 rw [e]
 simp only [hl,if_true]
 unfold runD
 rw [zag,zaz,hl] at*
 refine h.imp fun fl L1 q=>?_
 cases fl<;>first | exact Runs.ok q | exact q.elim
end
section
variable {L:MH} {i j:Int} {s t:Str} {xs ys:List D} {a b k:Nat} {d e:D} {p q:Bool}
theorem zjD:binD .add (.int i) (.int j) L=.ok (.int (i+j)) L:=rfl
theorem ziN:binD .sub (.int i) (.int j) L=.ok (.int (i - j)) L:=rfl
theorem zfL:binD .add (.str s) (.str t) L=if zad (s.length+t.length) then .ok (.str (s++t)) L else .stk:=rfl
theorem zf6:binD .add (.tup xs) (.tup ys) L=if zad (xs.length+ys.length) then .ok (.tup (xs++ys)) L else .stk:=rfl
theorem zfc:binD .add (.ref a) (.ref b) L=(match L[a]?,L[b]? with
    | some (.lst xs),some (.lst ys)=>if zad (xs.length+ys.length) then newL (xs++ys) L else .stk
    | _,_=>.stk):=rfl
theorem zjG:binD .mul (.int i) (.int j) L=if okI i||okI j then .ok (.int (i*j)) L else .stk:=rfl
theorem zfZ:binD .fdiv (.int i) (.int j) L=if decide (j≠0)&&decide (j.natAbs < 1073741824) then .ok (.int (i.fdiv j)) L else .stk:=rfl
theorem ziE:binD .mod (.int i) (.int j) L=if decide (j≠0) then .ok (.int (i.fmod j)) L else .stk:=rfl
theorem zjj:binD .pow (.int i) (.int j) L=if decide (0≤j)&&decide (j≤1000000)&&decide (i.natAbs < 2 ^ 64) then .ok (.int (i ^ j.toNat)) L else .stk:=rfl
theorem c_eq:cmpD L .Eq d e=eqD L d e:=rfl
theorem c_ne:cmpD L .NotEq d e=(eqD L d e).map (!·):=rfl
theorem c_in:cmpD L .In d e=inD L d e:=rfl
theorem zjd:cmpD L .NotIn d e=(inD L d e).map (!·):=rfl
theorem c_lt:cmpD L .Lt (.int i) (.int j)=some (decide (i < j)):=rfl
theorem c_le:cmpD L .LtE (.int i) (.int j)=some (decide (i≤j)):=rfl
theorem c_gt:cmpD L .Gt (.int i) (.int j)=some (decide (j < i)):=rfl
theorem c_ge:cmpD L .GtE (.int i) (.int j)=some (decide (j≤i)):=rfl
theorem e_ii:eqD L (.int i) (.int j)=some (decide (i=j)):=rfl
theorem e_ss:eqD L (.str s) (.str t)=some (decide (s=t)):=rfl
theorem e_bb:eqD L (.bl p) (.bl q)=some (decide (p=q)):=rfl
theorem t_bl:truD L (.bl p)=some p:=rfl
theorem zjo:truD L (.int i)=some (i != 0):=rfl
theorem zjL:truD L .non=some false:=rfl
theorem zjH:truD L (.str s)=if zad s.length then some (s.length != 0) else none:=rfl
theorem ziZ:truD L (.ref a)=(match L[a]? with
    | some (.lst xs)=>some (!xs.isEmpty)
    | some (.ktp xs)=>some (!xs.isEmpty)
    | _=>none):=by
 cases h:L[a]? with
 | none=>simp [truD,seqD,h]
 | some o=>cases o<;>simp [truD,seqD,h]
theorem ziC:truD L (.tup xs)=some (!xs.isEmpty):=rfl
theorem ziX:seqD L (.ref a)=(match L[a]? with
    | some (.lst xs)=>some xs
    | some (.ktp xs)=>some xs
    | _=>none):=rfl
theorem zji:seqD L (.tup xs)=some xs:=rfl
theorem ziF:seqD L (.fzl xs)=some xs:=rfl
theorem zjn:zaD L (.ref a)=(match L[a]? with
    | some (.lst xs)=>some xs
    | _=>none):=rfl
theorem zjK:zaD L (.fzl xs)=some xs:=rfl
theorem zjt:zaD L (.tup xs)=none:=rfl
theorem zjy:ixD L (.ref a) (.int i)=(match L[a]? with
    | some (.lst xs)=>atI xs i
    | some (.ktp xs)=>atI xs i
    | _=>none):=by
 cases h:L[a]? with
 | none=>simp [ixD,seqD,h]
 | some o=>cases o<;>simp [ixD,seqD,h]
theorem zjA:ixD L (.tup xs) (.int i)=atI xs i:=rfl
theorem zja:ixD L (.fzl xs) (.int i)=atI xs i:=rfl
theorem ziW:ixD L (.str s) (.int i)=if zad s.length then (atI s.cps.toList i).map fun c=>.str ⟨#[c]⟩ else none:=rfl
theorem zdH:zgo (.ref a) (.int i) d L=(match L[a]? with
    | some (.lst xs)=>(match ixN xs.length i with
      | some j=>.ok () (L.set a (.lst (xs.set j d)))
      | none=>.stk)
    | _=>.stk):=rfl
theorem zd7 {lo hi:Option Int}:slD (.fzl xs) lo hi L=newL (cutD xs lo hi) L:=rfl
theorem zef {lo hi:Option Int}:slD (.str s) lo hi L=if zad s.length then .ok (.str (Txt.slice s lo hi)) L else .stk:=rfl
theorem zhU:newL xs L=.ok (.ref L.length) (L++[.lst xs]):=rfl
theorem zeR:intD (.int i)=some i:=rfl
theorem zdP:zcz L (.fzl xs)=some (.val xs):=rfl
theorem zeu:zcz L (.tup xs)=some (.val xs):=rfl
theorem zeq:zcz L (.str s)=if zad s.length then some (.val (s.cps.toList.map fun c=>.str ⟨#[c]⟩)) else none:=rfl
theorem zdT:zcz L (.ref a)=(match L[a]? with
    | some (.lst _)=>some (.lst a)
    | _=>none):=rfl
theorem zai {o:O}:(L++[o])[L.length]?=some o:=by simp
theorem zdI:biD .len [.str s] L=if zad s.length then .ok (.int s.length) L else .stk:=rfl
theorem zdD:biD .len [.tup xs] L=.ok (.int xs.length) L:=rfl
theorem zd1:biD .len [.ref a] L=(match L[a]? with
    | some (.lst xs)=>.ok (.int xs.length) L
    | some (.ktp xs)=>.ok (.int xs.length) L
    | some (.dct kvs)=>.ok (.int kvs.length) L
    | _=>.stk):=by
 cases h:L[a]? with
 | none=>simp [biD,seqD,zfE,h]
 | some o=>cases o<;>simp [biD,seqD,zfE,h]
theorem zeg:biD .len [.fzl xs] L=.ok (.int xs.length) L:=rfl
theorem zdG:biD .int1 [.int i] L=.ok (.int i) L:=rfl
theorem zdK:biD .int1 [.bl p] L=.ok (.int (if p then 1 else 0)) L:=rfl
theorem zdY:biD .int1 [.str s] L=if decide (s.length≤640) then (match PySem.intText? s with
    | some n=>.ok (.int n) L
    | none=>.stk) else .stk:=rfl
theorem zi9:biD .abs [.int i] L=.ok (.int (if i < 0 then -i else i)) L:=rfl
theorem zdJ:biD .tuple1 [.ref a] L=(match L[a]? with
    | some (.lst xs)=>.ok (.tup xs) L
    | _=>.stk):=by
 cases h:L[a]? with
 | none=>simp [biD,zaD,h]
 | some o=>cases o<;>simp [biD,zaD,h]
theorem zd3:biD .list1 [.ref a] L=(match L[a]? with
    | some (.lst xs)=>newL xs L
    | some (.ktp xs)=>newL xs L
    | _=>.stk):=by
 cases h:L[a]? with
 | none=>simp [biD,seqD,h]
 | some o=>cases o<;>simp [biD,seqD,h]
theorem zdO:biD .str1 [.int i] L=if decide (i.natAbs.log2 < 1920) then .ok (.str (toString i)) L else .stk:=rfl
theorem zei:biD .str1 [.str s] L=.ok (.str s) L:=rfl
theorem zfK:zeS .non=true:=rfl
theorem zge:zeS (.int i)=false:=rfl
theorem zf7:zeS (.str s)=false:=rfl
theorem zjE:zeS (.bl p)=false:=rfl
theorem zfS:zeS (.tup xs)=false:=rfl
theorem zfG:zeS (.ref a)=false:=rfl
theorem zbw:zb3 L (.str s)=some .str:=rfl
theorem zbs:zb3 L (.int i)=some .int:=rfl
theorem zb4:zb3 L (.bl p)=some .bl:=rfl
theorem zbu:zb3 L .non=some .non:=rfl
theorem zbt:zb3 L (.tup xs)=some .tup:=rfl
theorem zbx:zb3 L (.ref a)=(match L[a]? with
    | some (.lst _)=>some .lst
    | some (.ins c _)=>some (.ins c)
    | _=>none):=rfl
end
section
variable {T:Tb} {C:Nat→List D→M D} {ρ:Loc} {a b c e o2:Ex} {es kes:Exs}
theorem zdm {i:Nat}:evE T C (.var i) ρ=((match ρ[i]? with
    | some (some d)=>ret d
    | _=>zas)):=by simp only [evE]<;>rfl
theorem zdW {i:Int}:evE T C (.cint i) ρ=(ret (.int i)):=by simp only [evE]<;>rfl
theorem zdU {s:Str}:evE T C (.cstr s) ρ=(ret (.str s)):=by simp only [evE]<;>rfl
theorem zfV {b:Bool}:evE T C (.cbl b) ρ=(ret (.bl b)):=by simp only [evE]<;>rfl
theorem zer  : evE T C (.cnon) ρ=(ret .non):=by simp only [evE]<;>rfl
theorem zd9 {k:Nat}:evE T C (.gcon k) ρ=(must (T.con k)):=by simp only [evE]<;>rfl
theorem zfp {o:BOp} {a:Ex} {b:Ex}:evE T C (.bop o a b) ρ=(fun L=>(evE T C a ρ L).bind fun d L1=>(evE T C b ρ L1).bind fun e L2=>binD o d e L2):=by simp only [evE]<;>rfl
theorem zf0 {a:Ex}:evE T C (.neg a) ρ=(fun L=>(evE T C a ρ L).bind fun d=>must (negD d)):=by simp only [evE]<;>rfl
theorem zby {o:CmpOp} {a:Ex} {b:Ex}:evE T C (.cmp o a b) ρ=(fun L=>(evE T C a ρ L).bind fun d L1=>(evE T C b ρ L1).bind fun e L2=>must ((cmpD L2 o d e).map .bl) L2):=by simp only [evE]<;>rfl
theorem zfO {a:Ex}:evE T C (.isn a) ρ=(fun L=>(evE T C a ρ L).bind fun d=>ret (.bl (zeS d))):=by simp only [evE]<;>rfl
theorem zeb {a:Ex}:evE T C (.nisn a) ρ=(fun L=>(evE T C a ρ L).bind fun d=>ret (.bl (!zeS d))):=by simp only [evE]<;>rfl
theorem zcS {o:CmpOp} {p:CmpOp} {a:Ex} {b:Ex} {c:Ex}:evE T C (.chain o p a b c) ρ=(fun L=>(evE T C a ρ L).bind fun d L1=>(evE T C b ρ L1).bind fun e L2=>(match cmpD L2 o d e with
    | some true=>(evE T C c ρ L2).bind fun f L3=>must ((cmpD L3 p e f).map .bl) L3
    | some false=>.ok (.bl false) L2
    | none=>.stk)):=by simp only [evE]<;>rfl
theorem zfX {a:Ex} {b:Ex}:evE T C (.and a b) ρ=(fun L=>(evE T C a ρ L).bind fun d L1=>(match truD L1 d with
    | some true=>evE T C b ρ L1
    | some false=>.ok d L1
    | none=>.stk)):=by simp only [evE]<;>rfl
theorem ziR {a:Ex} {b:Ex}:evE T C (.or a b) ρ=(fun L=>(evE T C a ρ L).bind fun d L1=>(match truD L1 d with
    | some true=>.ok d L1
    | some false=>evE T C b ρ L1
    | none=>.stk)):=by simp only [evE]<;>rfl
theorem zf3 {a:Ex}:evE T C (.not a) ρ=(fun L=>(evE T C a ρ L).bind fun d L1=>must ((truD L1 d).map fun b=>.bl (!b)) L1):=by simp only [evE]<;>rfl
theorem zfR {c:Ex} {a:Ex} {b:Ex}:evE T C (.ife c a b) ρ=(fun L=>(evE T C c ρ L).bind fun d L1=>(match truD L1 d with
    | some true=>evE T C a ρ L1
    | some false=>evE T C b ρ L1
    | none=>.stk)):=by simp only [evE]<;>rfl
theorem zbm {es:Exs}:evE T C (.tup es) ρ=(fun L=>(evEs T C es ρ L).bind fun ds=>if zad ds.length then ret (.tup ds) else zas):=by simp only [evE]<;>rfl
theorem zfB {es:Exs}:evE T C (.lst es) ρ=(fun L=>(evEs T C es ρ L).bind fun ds=>if zad ds.length then newL ds else zas):=by simp only [evE]<;>rfl
theorem zje {a:Ex} {i:Ex}:evE T C (.ix a i) ρ=(fun L=>(evE T C a ρ L).bind fun d L1=>(evE T C i ρ L1).bind fun e L2=>must (ixD L2 d e) L2):=by simp only [evE]<;>rfl
theorem ziS {a:Ex} {lo:Ox} {hi:Ox}:evE T C (.sl a lo hi) ρ=(fun L=>(evE T C a ρ L).bind fun d L1=>(evO T C lo ρ L1).bind fun l L2=>(evO T C hi ρ L2).bind fun h L3=>slD d l h L3):=by simp only [evE]<;>rfl
theorem zdX {f:Nat} {es:Exs} {ks:List Nat} {kes:Exs}:evE T C (.call f es ks kes) ρ=(fun L=>(evEs T C es ρ L).bind fun ds L1=>(evEs T C kes ρ L1).bind fun zs=>zaI T C f ds ks zs):=by simp only [evE]<;>rfl
theorem zdE {o:Ex} {n:Nat} {es:Exs} {ks:List Nat} {kes:Exs}:evE T C (.meth o n es ks kes) ρ=(fun L=>(evE T C o ρ L).bind fun d L1=>(match zdf L1 d with
    | some (c,fs)=>(match fs.lookup n,T.meth c n with
      | none,some f=>(evEs T C es ρ L1).bind fun ds L2=>(evEs T C kes ρ L2).bind fun zs=>zaI T C f (d::ds) ks zs
      | _,_=>.stk)
    | none=>.stk)):=by simp only [evE]<;>rfl
theorem zdR {c:Nat} {es:Exs} {ks:List Nat} {kes:Exs}:evE T C (.make c es ks kes) ρ=(fun L=>(evEs T C es ρ L).bind fun ds L1=>(evEs T C kes ρ L1).bind fun zs=>zkU T C c ds ks zs):=by simp only [evE]<;>rfl
theorem zen {o:Ex} {n:Nat}:evE T C (.attr o n) ρ=(fun L=>(evE T C o ρ L).bind fun d=>zos T C d n):=by simp only [evE]<;>rfl
theorem ziQ {b:Bi} {es:Exs}:evE T C (.bi b es) ρ=(fun L=>(evEs T C es ρ L).bind fun ds=>biD b ds):=by simp only [evE]<;>rfl
theorem zju {b:Bm} {o:Ex} {es:Exs}:evE T C (.bm b o es) ρ=(fun L=>(evE T C o ρ L).bind fun d L1=>if zb3 L1 d=some (zg5 b) then (evEs T C es ρ L1).bind fun ds=>bmD b d ds else .stk):=by simp only [evE]<;>rfl
theorem zdS {a:Ex} {ts:List Ty}:evE T C (.isin a ts) ρ=(fun L=>(evE T C a ρ L).bind fun d L1=>must ((zav T L1 d ts).map .bl) L1):=by simp only [evE]<;>rfl
theorem zd4 {es:Exs}:evE T C (.fstr es) ρ=(fun L=>(evFs T C es Str.empty ρ L).bind fun s=>ret (.str s)):=by simp only [evE]<;>rfl
end
theorem zf8 {T:Tb} {C:Nat→List D→M D} {acc:Str} {ρ:Loc}:evFs T C .nil acc ρ=ret acc:=by simp only [evFs]
theorem zea {T:Tb} {C:Nat→List D→M D} {e:Ex} {r:Exs} {acc:Str} {ρ:Loc}:evFs T C (.cons e r) acc ρ=fun L=>(evE T C e ρ L).bind fun d L1=>(match fmtD d with
    | some y=>if zad (acc++y).length then evFs T C r (acc++y) ρ L1 else .stk
    | none=>.stk):=by simp only [evFs]<;>rfl
theorem zez {s:Str}:fmtD (.str s)=if zad s.length then some s else none:=rfl
theorem zd2 {i:Int}:fmtD (.int i)=if decide (i.natAbs.log2 < 1920) then some (Str.ofString (toString i)) else none:=rfl
theorem zc6 {T:Tb} {C:Nat→List D→M D} {wf:Nat} {ρ:Loc} {L:MH} {Q:Fl→MH→Prop} {k:Loc→M Fl} (h:Runs (k ρ L) Q):Runs (exSs T C wf .nil ρ L) (Then Q k):=Runs.ok h
section
theorem zex {body:Loc→M Fl} {put:D→Loc→M Loc} {w:Wk} {xs:List D} {Q:Fl→MH→Prop} (I:Nat→Loc→MH→Prop) (hat:∀i ρ L,I i ρ L→w.at L i=some xs[i]?)
  (step:∀i x ρ L,xs[i]?=some x→I i ρ L→Runs (put x ρ L) fun ρ1 L1=>Runs (body ρ1 L1) fun fl L2=>match fl with
    | .nx ρ2=>I (i+1) ρ2 L2
    | .ct ρ2=>I (i+1) ρ2 L2
    | .bk ρ2=>Q (.nx ρ2) L2
    | fl=>Q fl L2) (fin:∀ ρ L,I xs.length ρ L→Q (.nx ρ) L):
  ∀(k i:Nat) (ρ:Loc) (L:MH),i≤xs.length→xs.length≤i+k→I i ρ L→Runs (forL body put w k i ρ L) Q
 | 0,i, ρ,L,h1,h2,h=>by
  have e:i=xs.length:=by omega
  simp only [forL,hat i ρ L h]
  rw [List.getElem?_eq_none (by omega)]
  exact Runs.ok (fin ρ L (by rw [← e]; exact h))
 | k+1,i, ρ,L,h1,h2,h=>by
  simp only [forL,hat i ρ L h]
  cases q:xs[i]? with
  | none=>
   have:=List.getElem?_eq_none_iff.mp q
   have e:i=xs.length:=by omega
   exact Runs.ok (fin ρ L (by rw [← e]; exact h))
  | some x=>
   have hlt:=(List.getElem?_eq_some_iff.mp q).1
   simp only [zag,zaz]
   refine (step i x ρ L q h).imp fun ρ1 L1 h3=>h3.imp fun fl L2 h4=>?_
   cases fl with
   | nx ρ2=>exact zex I hat step fin k (i+1) ρ2 L2 (by omega) (by omega) h4
   | ct ρ2=>exact zex I hat step fin k (i+1) ρ2 L2 (by omega) (by omega) h4
   | bk ρ2=>exact Runs.ok h4
   | rt d=>exact Runs.ok h4
   | xc ρ2 c fs=>exact Runs.ok h4
theorem ziv {elt:Loc→M D} {test:Loc→M Bool} {put:D→Loc→M Loc} {w:Wk} {n:Nat} {ρ:Loc} {xs:List D} {Q:Unit→MH→Prop} (I:Nat→List D→MH→Prop) (hat:∀i acc L,I i acc L→w.at L i=some xs[i]?)
  (step:∀i x acc L,xs[i]?=some x→I i acc L→Runs (put x ρ L) fun ρ1 L1=>Runs (test ρ1 L1) fun b L2=>if b=true then Runs (elt ρ1 L2) fun d L3=>L3[n]?=some (.lst acc)∧acc.length < 16777216∧I (i+1) (acc++[d]) (L3.set n (.lst (acc++[d]))) else I (i+1) acc L2)
  (fin:∀acc L,I xs.length acc L→Q () L):
  ∀(k i:Nat) (acc:List D) (L:MH),i≤xs.length→xs.length≤i+k→I i acc L→Runs (lcL elt test put w n ρ k i L) Q
 | 0,i,acc,L,h1,h2,h=>by
  have e:i=xs.length:=by omega
  simp only [lcL,hat i acc L h]
  rw [List.getElem?_eq_none (by omega)]
  exact Runs.ok (fin acc L (by rw [← e]; exact h))
 | k+1,i,acc,L,h1,h2,h=>by
  simp only [lcL,hat i acc L h]
  cases q:xs[i]? with
  | none=>
   have:=List.getElem?_eq_none_iff.mp q
   have e:i=xs.length:=by omega
   exact Runs.ok (fin acc L (by rw [← e]; exact h))
  | some x=>
   have hlt:=(List.getElem?_eq_some_iff.mp q).1
   simp only [zag]
   refine (step i x acc L q h).imp fun ρ1 L1 h3=>h3.imp fun b L2 h4=>?_
   cases b with
   | false=>
    rw [if_neg Bool.false_ne_true] at h4 ⊢
    exact ziv I hat step fin k (i+1) acc L2 (by omega) (by omega) h4
   | true=>
    rw [if_pos rfl] at h4 ⊢
    rw [zag]
    refine h4.imp fun d L3 ⟨h5,h6,h7⟩=>?_
    simp only [h5,decide_eq_true h6,if_true]
    exact ziv I hat step fin k (i+1) (acc++[d]) _ (by omega) (by omega) h7
variable {T:Tb} {C:Nat→List D→M D} {L:MH} {ρ:Loc}
theorem zn4 {e:Ex} {t:Tg} {it:It} {oi:Ox} {own:List Nat} {Q:D→MH→Prop}
  (h:Runs (evI T C it ρ L) fun w L1=>Runs (lcL (evE T C e) (evT T C oi) (puT T C t) w L1.length (zaA ρ own) (w.len (L1++[.lst []])) 0 (L1++[.lst []])) fun _ L2=>Q (.ref L1.length) L2):Runs (evE T C (.lc e t it oi own) ρ L) Q:=by
 simp only [evE,zag,zaz]
 exact h.imp fun w L1 q=>q.imp fun _ L2 z=>Runs.ok z
def rngL (lo:Int) (n:Nat):List D:=(List.range n).map fun i=>.int (lo+(i:Nat))
theorem zgO (lo:Int) (n:Nat):(rngL lo n).length=n:=by unfold rngL; simp
theorem zmi (lo:Int) (n i:Nat) (L:MH):(Wk.rng lo n).at L i=some (rngL lo n)[i]?:=by
 unfold rngL
 simp only [Wk.at,List.getElem?_map]
 by_cases h:i < n
 ·simp [h]
 ·simp [h]
end
end Mi
end
section
set_option maxHeartbeats 4000000
namespace Mi
open PySem PySem.Spec L2
section
variable {T:Tb} {C:Nat→List D→M D} {wf:Nat} {ρ:Loc} {L:MH} {a c n f:Nat} {fs:List (Nat×D)} {d e:D} {xs:List D} {s:Str} {j:Int}
theorem zdF:zdf L (.ref a)=(match L[a]? with
    | some (.ins c fs)=>some (c,fs)
    | _=>none):=rfl
theorem zel {a i:Ex}:evE T C (.maxd a i) ρ=(fun L=>(evE T C a ρ L).bind fun d L1=>(evE T C i ρ L1).bind fun e L2=>must (zq4 L2 d e) L2):=by simp only [evE]<;>rfl
theorem zdV {kvs:List (Str×D)}:evE T C (.ddsp kvs) ρ=(fun L=>.ok (.ref L.length) (L++[.dct (zqu kvs)])):=by simp only [evE]<;>rfl
theorem zdN {k:Nat} {i:Ex} {e:D}:evE T C (.kget k i e) ρ=(fun L=>(evE T C i ρ L).bind fun d=>must ((strD d).bind fun s=>(T.kd k).map fun kvs=>(kvs.lookup s).getD e)):=by simp only [evE]<;>rfl
theorem zoY {c:Nat} {es kes:Exs} {ks:List Nat} {kn:List Str}:evE T C (.mkx c es ks kn kes) ρ=(fun L=>(evEs T C es ρ L).bind fun ds L1=>(evEs T C kes ρ L1).bind fun zs=>mkxD T c ds kn zs):=by simp only [evE]<;>rfl
theorem zjS {o:Ex} {n:Nat}:evE T C (.atx o n) ρ=(fun L=>(evE T C o ρ L).bind fun d=>atxD T n d):=by simp only [evE]<;>rfl
theorem zpC {a:Ex} {t:Ty}:evE T C (.isx a t) ρ=(fun L=>(evE T C a ρ L).bind fun d=>isxD T t d):=by simp only [evE]<;>rfl
theorem zoc {a:Ex}:evE T C (.lrng a) ρ=(fun L=>(evE T C a ρ L).bind fun d=>zld d):=by simp only [evE]<;>rfl
theorem zfY {a:Ex}:evE T C (.rev a) ρ=(fun L=>(evE T C a ρ L).bind fun d=>revD d):=by simp only [evE]<;>rfl
theorem zej {a i e:Ex}:evE T C (.dget a i e) ρ=(fun L=>(evE T C a ρ L).bind fun x L1=>if (zfE L1 x).isSome then (evE T C i ρ L1).bind fun y L2=>(evE T C e ρ L2).bind fun z L3=>must (zqY L3 x y z) L3 else .stk):=by simp only [evE]<;>rfl
theorem zes {x:Ex}:evE T C (.lens x) ρ=(fun L=>(evE T C x ρ L).bind fun d=>znd d):=by simp only [evE]<;>rfl
theorem zf5 {x:Ex}:evE T C (.srt x) ρ=(fun L=>(evE T C x ρ L).bind fun d=>srtD d):=by simp only [evE]<;>rfl
theorem zgi {x:Ex}:evE T C (.dpr x) ρ=(fun L=>(evE T C x ρ L).bind fun d=>dprD d):=by simp only [evE]<;>rfl
theorem zfQ {x:Ex}:evE T C (.ktu x) ρ=(fun L=>(evE T C x ρ L).bind fun d=>ktuD d):=by simp only [evE]<;>rfl
theorem zf9 {x i:Ex}:evE T C (.tix x i) ρ=(fun L=>(evE T C x ρ L).bind fun d L1=>if ktpB L1 d then (evE T C i ρ L1).bind fun e L2=>must (tixD L2 d e) L2 else .stk):=by simp only [evE]<;>rfl
theorem zgd {neg:Bool} {x y:Ex}:evE T C (.eqo neg x y) ρ=(fun L=>(evE T C x ρ L).bind fun d L1=>(evE T C y ρ L1).bind fun e=>eqoD T C neg d e):=by simp only [evE]<;>rfl
theorem zcU {x:Ex}:evE T C (.repro x) ρ=(fun L=>(evE T C x ρ L).bind fun d=>zl3 T C d):=by simp only [evE]<;>rfl
theorem zdM {c n:Nat}:evE T C (.clsc c n) ρ=must (T.clc c n):=by simp only [evE]
theorem zga:binD .mul (.ref a) (.int j) L=(match L[a]? with
    | some (.lst xs)=>if decide (-1000≤j)&&decide (j≤1000)&&decide (xs.length≤1000) then newL (List.replicate j.toNat xs).flatten L else .stk
    | _=>.stk):=rfl
theorem zgb:binD .mul (.tup xs) (.int j) L=if decide (0≤j)&&decide (j≤1000)&&decide (xs.length≤1000)&&!xs.isEmpty then .ok (.tup (List.replicate j.toNat xs).flatten) L else .stk:=rfl
theorem zet:biD .list1 [.tup xs] L=newL xs L:=rfl
theorem zee:biD .list1 [.fzl xs] L=newL xs L:=rfl
theorem zd8:biD .tuple1 [.tup xs] L=.ok (.tup xs) L:=rfl
theorem zeh {lo hi:Option Int}:slD (.tup xs) lo hi L=.ok (.tup (cutD xs lo hi)) L:=rfl
theorem zdL:negD (.int j)=some (.int (-j)):=rfl
theorem zfW:znd (.tup xs) L=(match mapO strD xs with
    | some ys=>if decide (ys.length≤30) then .ok (.int (ys.eraseDups.length:Nat)) L else .stk
    | none=>.stk):=rfl
theorem zgF {ws:List Str}:inD L (.str s) (.tup (ws.map D.str))=some (decide (s∈ws)):=by
 have e1:(ws.map D.str).all zbE=true:=by
  rw [List.all_map]
  simp [zbE]
 show ((seqD L (.tup _)).bind fun xs=>if zbE (.str s)&&xs.all zbE then some (xs.any fun z=>eqf z (.str s)) else _)=_
 simp only [seqD,Option.bind_some,e1,zbE,Bool.and_self,if_true,Option.some.injEq,List.any_map]
 rw [Bool.eq_iff_iff,List.any_eq_true,decide_eq_true_iff]
 constructor
 ·rintro ⟨x,hx,he⟩
  have he:(x==s)=true:=he
  rw [beq_iff_eq] at he
  rw [← he]
  exact hx
 ·intro hl
  exact ⟨s,hl,show (s==s)=true from beq_self_eq_true s⟩
end
section
variable {α:Type} {p q r s t:α}
theorem ziJ:atI [p] 0=some p:=rfl
theorem ziK:atI [p,q] 0=some p:=rfl
theorem zjF:atI [p,q] 1=some q:=rfl
theorem ziI:atI [p,q,r] 0=some p:=rfl
theorem zjg:atI [p,q,r] 1=some q:=rfl
theorem zjq:atI [p,q,r] 2=some r:=rfl
theorem zi0:atI [p,q,r,s] 0=some p:=rfl
theorem ziD:atI [p,q,r,s] 1=some q:=rfl
theorem zjr:atI [p,q,r,s] 2=some r:=rfl
theorem zjb:atI [p,q,r,s] 3=some s:=rfl
end
section
variable {A:MH} {x x1 x2 x3 x4 x5 x6 x7 x8 x9:O}
theorem pk1:(A++[x]++[x1])[A.length]?=some x:=by simp [List.getElem?_append]
theorem pk2:(A++[x]++[x1]++[x2])[A.length]?=some x:=by simp [List.getElem?_append]
theorem pk3:(A++[x]++[x1]++[x2]++[x3])[A.length]?=some x:=by simp [List.getElem?_append]
theorem pk4:(A++[x]++[x1]++[x2]++[x3]++[x4])[A.length]?=some x:=by simp [List.getElem?_append]
theorem pk5:(A++[x]++[x1]++[x2]++[x3]++[x4]++[x5])[A.length]?=some x:=by simp [List.getElem?_append]
theorem pk6:(A++[x]++[x1]++[x2]++[x3]++[x4]++[x5]++[x6])[A.length]?=some x:=by simp [List.getElem?_append]
theorem pk7:(A++[x]++[x1]++[x2]++[x3]++[x4]++[x5]++[x6]++[x7])[A.length]?=some x:=by simp [List.getElem?_append]
theorem pk8:(A++[x]++[x1]++[x2]++[x3]++[x4]++[x5]++[x6]++[x7]++[x8])[A.length]?=some x:=by simp [List.getElem?_append]
theorem pk9:(A++[x]++[x1]++[x2]++[x3]++[x4]++[x5]++[x6]++[x7]++[x8]++[x9])[A.length]?=some x:=by simp [List.getElem?_append]
end
end Mi
end
section
set_option maxHeartbeats 4000000
namespace Mi
open PySem PySem.Spec L2
structure Exc {α:Type} (r:Res α) (E:Nat→List (Nat×D)→MH→Prop):Prop where
 get:∃c fs L,r=.exc c fs L∧E c fs L
section
variable {α β:Type} {r:Res α} {E E':Nat→List (Nat×D)→MH→Prop} {Q:α→MH→Prop} {L:MH} {ρ:Loc}
theorem Exc.exc {c:Nat} {fs:List (Nat×D)} (h:E c fs L):Exc (.exc c fs L:Res α) E:=⟨c,fs,L,rfl,h⟩
theorem Exc.imp (h:Exc r E) (k:∀c fs L,E c fs L→E' c fs L):Exc r E':=by
 obtain ⟨c,fs,L,e,q⟩:=h.get
 exact ⟨c,fs,L,e,k _ _ _ q⟩
theorem Exc.bind {f:α→M β} (h:Exc r E):Exc (r.bind f) E:=by
 obtain ⟨c,fs,L,e,q⟩:=h.get
 subst e
 exact .exc q
end
end Mi
end
section
set_option maxHeartbeats 4000000
namespace Mi
open PySem PySem.Spec PyProof.Rows L2
section
variable {R:Rw} {K:PySem.W.Frag} {h:Heap} {mg:Str→Option Value}
theorem zla {P:Program} {w:World} {base:Heap} {n wf f:Nat} {fd:Fd} (X:K.In h) (G0:h.Ns mainGlobals mg) (hfile:P.main.file=R.file) (htop:(P.main.scope.names.lookup ("super":Str)).isSome=false) (ok:R.ok=true) (xok:R.xok=true) (ck:rowK R K=true) (ckX:rowX R K=true) (hdf:∀z∈R.fns,z.1.dfl=zcm z.2.1)
  (hd:∀f z,R.fns[f]?=some z→R.sfns.lookup f=none→∃fd,FunD K z.2.1.name z.2.1.qual z.2.1.params z.2.1.body z.2.1.scope (z.2.1.dvs K) (z.2.1.kws K) (R.fad K f) fd)
  (hs:∀f z d,R.fns[f]?=some z→R.sfns.lookup f=some d→fnC K false z.2.1.at_=valC (false,z.2.1)) (hkd:∀q∈R.kds,∃es n,KDict K w (He.ga K q.1) es n)
  (hdX:∀d,(d∈R.xb.map (·.d)∨d∈R.xcs.map (·.d)∨d∈R.xns.map (·.d))→∃fd,FunD K d.name d.qual d.params d.body d.scope (d.dvs K) (d.kws K) (He.fAd K d.at_) fd)
  (e:(R.T).fn f=some fd) (hn:R.sfns.lookup f=none) (hnr:zqW fd.body=false:=by rfl):
  FnOk P w K mg base (CXM (R.gw K w).fr P w) (2*n+8) (R.fad K f) (zbK K (R.fad K f)) (fd.ps.map R.an) (spM (R.gw K w) fd.ps.length (zak R.T wf (n+1) f)):=by
 have lk:=zl7 X G0 ok ck hkd
 have gk:GOk R K w (R.gw K w):=⟨rfl,rfl,rfl,rfl,rfl,rfl⟩
 have cns:(R.cns.all fun x=>eqA (PySem.W.nsIn K mainGlobals x) (He.ga K x))=true:=by
  have ck:=ck
  simp only [rowK,Bool.and_eq_true] at ck
  exact ck.1.1.1.1.1.1.1.1.1.1.1.1.1.1.1.1.2
 have xo:XO (R.gw K w) R.T R.cf P w K mg base:=zpl gk X G0 lk.blt xok ckX cns hdX
 have how:∀f fd,(R.T).fn f=some fd→How (R.gw K w) R.T R.cf (fun f=>zbK K (R.fad K f)) wf P K mg f fd:=fun f fd e=>zny gk (file:=R.file) wf X G0 hfile htop hdf hd hs ok ck hkd f fd e
 obtain ⟨d,N,e1⟩:=zlW e
 obtain ⟨data,F⟩:=hd f _ e1 hn
 simp only [Rw.ok,Bool.and_eq_true] at ok
 have b1:=zh5 ok.2 e1
 rw [Nat.zero_add] at b1
 simp only [fnB,Bool.and_eq_true,decide_eq_true_eq] at b1
 obtain ⟨⟨bp,bn⟩,bb⟩:=b1
 rw [hn] at bb
 simp only [Bool.and_eq_true,hnr,Bool.false_eq_true,if_false] at bb
 have ed:zbK K (R.fad K f)=data:=zkF F
 have FA:FnAt K (R.gw K w) fd N d.body d.scope ((R.gw K w).gad f) (zbK K (R.fad K f)):=⟨⟨d.name,d.qual,d.params,d.dvs K,d.kws K,by
   show FunD K _ _ _ _ _ _ _ (R.fad K f) (zbK K (R.fad K f))
   rw [ed]
   exact F⟩,ze0 bb.1,bn⟩
 have z:=znr (P:=P) (w:=w) (base:=base) (wf:=wf) (g:=R.gw K w) (dt:=fun f=>zbK K (R.fad K f)) (T:=R.T) (cf:=R.cf) (C:=zak R.T wf n) (k:=2*n+6) (f:=f) (fd:=fd) rfl (by omega) lk xo (zgM (g:=R.gw K w) rfl lk xo how n) FA (fun X W c n=>okSs fd.body _ _ n c bb.2)
 refine z.imp fun vs H Q E ⟨m,L,ds,hr,r,hl,po⟩=>⟨m,L,ds,hr,r,hl, ?_⟩
 unfold zak at po
 rw [e] at po
 exact po
end
def spL (g:G) (T:Tb) (wf n f:Nat):Sp:=spM g 1 (zak T wf n f)
theorem zk5 {g:G} {T:Tb} {wf n f:Nat} {H:Hp} {a:Addr} {ns:List Int} {L':MH} (hfz:∀m H,g.fz m H) (htb:g.tabs=[]) (hO:Only H) (hS:SqL g.K H a (ns.map V.int)) (h:zak T wf n f [.fzl (ns.map D.int)] []=.ok (.bl true) L'):
  spL g T wf n f [.ref a] H (fun v _=>v=.bl true) fun _ _ _=>False:=by
 have fz:FzL g.K H a (ns.map V.int):=by
  rcases hS with (h | ⟨o,h⟩) | h
  ·rcases hO a with z | ⟨o,xs,z⟩
   ·rw [z] at h; cases h
   ·rw [z] at h; cases h
  ·exact .inl ⟨o,h⟩
  ·exact .inr h
 refine ⟨[],[],_,⟨rfl,List.nodup_nil,fun a h=>(List.not_mem_nil h).elim,fun n o a h=>by simp at h,fun p hp=>(by rw [htb] at hp; exact (List.not_mem_nil hp).elim),hfz _ _⟩,.cons (.fzl fz RelDs.ints) .nil,rfl, ?_⟩
 rw [h]
 intro m1 H1 v e hr rd
 cases rd
 rfl
end Mi
end
section
set_option maxHeartbeats 4000000
namespace Row
open PySem PySem.Spec L2 Mi
abbrev wf:Nat:=100
section
variable {n:Nat} {L L':MH} {b c:Nat}
@[reducible] def bagO (c:Nat) (i cur seed cnt:Int):O:=.lst [.ref c,.int i,.int cur,.int seed,.int cnt]
def Bag (L:MH) (b c:Nat):Prop:=∃(is:List Int) (i:Nat) (cur seed cnt:Int),c≠b∧L[b]?=some (bagO c i cur seed cnt)∧L[c]?=some (.lst (is.map D.int))∧is.length≤63∧i≤is.length∧0≤cur∧0≤seed∧seed < 2147483563
structure Step (b c:Nat) (L L':MH):Prop where
 bag:Bag L' b c
 len:L.length≤L'.length
 keep:∀a,a≠b→a < L.length→L'[a]?=L[a]?
theorem zgD {α:Type} (xs:List α) (i:Nat) (h:i < xs.length):atI xs (i:Int)=xs[i]?:=by
 unfold atI ixN
 simp [h]
section
variable {α:Type} {p q r s t:α}
theorem ziO:atI [p,q,r,s,t] 0=some p:=rfl
theorem zjc:atI [p,q,r,s,t] 1=some q:=rfl
theorem zi5:atI [p,q,r,s,t] 2=some r:=rfl
theorem zi6:atI [p,q,r,s,t] 3=some s:=rfl
theorem ziH:atI [p,q,r,s,t] 4=some t:=rfl
theorem sz0:zad (0)=true:=rfl
theorem sz1:zad (0+1)=true:=rfl
theorem sz2:zad (0+1+1)=true:=rfl
theorem sz3:zad (0+1+1+1)=true:=rfl
theorem sz4:zad (0+1+1+1+1)=true:=rfl
theorem sz5:zad (0+1+1+1+1+1)=true:=rfl
theorem sz6:zad (0+1+1+1+1+1+1)=true:=rfl
theorem sz7:zad (0+1+1+1+1+1+1+1)=true:=rfl
theorem sz8:zad (0+1+1+1+1+1+1+1+1)=true:=rfl
theorem sz9:zad (0+1+1+1+1+1+1+1+1+1)=true:=rfl
theorem sz10:zad (0+1+1+1+1+1+1+1+1+1+1)=true:=rfl
theorem sz11:zad (0+1+1+1+1+1+1+1+1+1+1+1)=true:=rfl
theorem sz12:zad (0+1+1+1+1+1+1+1+1+1+1+1+1)=true:=rfl
theorem ziG:ixN (0+1+1+1+1+1) 1=some 1:=rfl
theorem zi4:ixN (0+1+1+1+1+1) 2=some 2:=rfl
theorem zjp:ixN (0+1+1+1+1+1) 3=some 3:=rfl
theorem zjI:ixN (0+1+1+1+1+1) 4=some 4:=rfl
theorem na10:decide (Int.natAbs 10 < 18446744073709551616)=true:=rfl
theorem zi8:ixN 5 1=some 1:=rfl
theorem zjx:ixN 5 2=some 2:=rfl
theorem zjw:ixN 5 3=some 3:=rfl
theorem ziM:ixN 5 4=some 4:=rfl
end
theorem Step.set {o:O} (h:Bag (L.set b o) b c):Step b c L (L.set b o):=⟨h,by rw [List.length_set]; exact Nat.le_refl _,fun a ha _=>by rw [List.getElem?_set_ne (Ne.symm ha)]⟩
theorem zb1 (a:Int) {m:Int} (h:0 < m):0≤a.fmod m∧a.fmod m < m:=⟨Int.fmod_nonneg_of_pos _ h,Int.fmod_lt_of_pos _ h⟩
local macro_rules | `(tactic| simp_arith [$ts,*]) => `(tactic| try simp -implicitDefEqProofs only [zf8,zea,zez,zd2,zdm,zdW,zdU,zfV,zer,zd9,zfp,zf0,zby,zfO,zeb,zcS,zfX,ziR,zf3,zfR,zbm,zfB,zje,ziS,zdX,zdE,zdR,zen,ziQ,zju,zdS,zd4,evEs,evB,evT,evO,evI,puT,puTs,List.map,List.replicate,List.length,Nat.sub_self,List.append,List.cons_append,List.nil_append,List.getElem?_cons_zero,List.getElem?_cons_succ,must,Option.bind_some,Mi.ret,ziO,zjc,zi5,zi6,ziH,zi8,zjx,zjw,ziM,List.set_cons_succ,List.set_cons_zero,zam,zag,zaz,Then,zcP,zcV,Option.map_some,List.length_map,zbi,if_true,if_false,eq_self,Bool.false_eq_true,reduceIte,zg5,Bool.and_self,sz0,sz1,sz2,sz3,sz4,sz5,sz6,sz7,sz8,sz9,sz10,sz11,sz12,Int.reduceLE,Int.reduceLT,Int.reduceToNat,Int.reduceNe,Int.reduceEq,Int.reduceNeg,decide_true,decide_false,Bool.true_and,Bool.and_true,Bool.or_true,Bool.true_or,Bool.not_true,Bool.not_false,ne_eq,not_false_eq_true,Nat.reducePow,Int.reducePow,na10,zeR,ziG,zi4,zjp,zjI,zjD,ziN,zfL,zf6,zfc,zjG,zfZ,ziE,zjj,c_eq,c_ne,c_in,zjd,c_lt,c_le,c_gt,c_ge,e_ii,e_ss,e_bb,t_bl,zjo,zjL,zjH,ziZ,ziC,ziX,zji,ziF,zjn,zjK,zjt,zjy,zjA,zja,ziW,zdH,zd7,zef,zhU,zeR,zdP,zeu,zeq,zdT,zai,zdI,zdD,zd1,zeg,zdG,zdK,zdY,zi9,zdJ,zd3,zdO,zei,zfK,zge,zf7,zjE,zfS,zfG,zbw,zbs,zb4,zbu,zbt,zbx,Option.some.injEq,reduceCtorEq,zdF,zel,zdV,zdN,zfY,zej,zes,zf5,zgi,zfQ,zf9,zgd,zcU,zdM,zga,zgb,zet,zee,zd8,zeh,zdL,zfW,ziJ,ziK,zjF,ziI,zjg,zjq,zi0,ziD,zjr,zjb,pk1,pk2,pk3,pk4,pk5,pk6,pk7,pk8,pk9,$ts,*])
theorem zdd (s:Int) (hs:0 < s) (hs2:s < 1073741824) (h:Bag L b c):Runs (zak R.T wf (n+1) zfv [.ref b,.int s] L) fun d L'=>(∃r,d=.int r∧0≤r∧r < s)∧Step b c L L':=by
 obtain ⟨is,i,cur,seed,cnt,hbc,hb,hc,h63,hi,h0,h1,h2⟩:=h
 have hbl:b < L.length:=(List.getElem?_eq_some_iff.mp hb).1
 have hbs:∀o:O,(L.set b o)[b]?=some o:=fun o=>List.getElem?_set_self hbl
 have hcs:∀o:O,(L.set b o)[c]?=some (.lst (is.map D.int)):=fun o=>by rw [List.getElem?_set_ne (Ne.symm hbc)]; exact hc
 have hss:∀o o':O,(L.set b o).set b o'=L.set b o':=fun o o'=>List.set_set ..
 have fin:∀(i':Nat) (cur' seed' cnt':Int),i'≤is.length→0≤cur'→0≤seed'→seed' < 2147483563→Step b c L (L.set b (bagO c i' cur' seed' cnt')):=fun i' cur' seed' cnt' e1 e2 e3 e4=>
  Step.set ⟨is,i',cur',seed',cnt',hbc,hbs _,hcs _,h63,e1,e2,e3,e4⟩
 have hs0:s≠0:=by omega
 have hs3:s.natAbs < 1073741824:=by omega
 refine zcF (fd:=zbP) rfl rfl ?_
 simp only [zbP,zeM]
 refine zab (zfq ?_)
 simp_arith [hb]
 have tail:∀(cell:Option D) (i':Nat) (cur' seed' cnt':Int),i'≤is.length→0≤cur'→0≤seed'→seed' < 2147483563→
   Runs (exSs R.T (zak R.T wf n) wf (.cons (.ife (.cmp .Gt (.ix (.var 0) (.cint 2)) (.cint 0)) (.cons (.asg (.tup (.cons (.var 3) (.cons (.sub (.var 0) (.cint 2)) .nil))) (.tup (.cons (.bop .mod (.bi .int1 (.cons (.ix (.var 0) (.cint 2)) .nil)) (.var 1)) (.cons (.bop .fdiv (.ix (.var 0) (.cint 2)) (.var 1)) .nil)))) (.cons (.ret (.var 3)) .nil)) .nil) (.cons (.asg (.var 4) (.ix (.var 0) (.cint 3))) (.cons (.asg (.sub (.var 0) (.cint 3)) (.bop .mod (.bi .int1 (.cons (.bop .add (.bop .add (.bop .add (.bop .pow (.var 4) (.cint 3)) (.bop .mul (.var 4) (.cint 38543))) (.bop .mul (.ix (.var 0) (.cint 4)) (.cint 1299721))) (.cint 65269)) .nil)) (.cint 2147483563))) (.cons (.ret (.bop .mod (.bi .int1 (.cons (.bop .add (.bop .fdiv (.ix (.var 0) (.cint 3)) (.cint 97)) (.bop .mul (.bop .mod (.bi .int1 (.cons (.ix (.var 0) (.cint 3)) .nil)) (.cint 7927)) (.cint 67))) .nil)) (.var 1))) .nil)))) [some (.ref b),some (.int s),cell,none,none] (L.set b (bagO c i' cur' seed' cnt'))) (zaB fun d L'=>(∃r,d=.int r∧0≤r∧r < s)∧Step b c L L'):=by
  intro cell i' cur' seed' cnt' e1 e2 e3 e4
  refine zab (zfk ?_)
  simp_arith [hbs]
  by_cases hc0:0 < cur'
  ·simp only [decide_eq_true hc0,if_true]
   refine zab (zfq ?_)
   simp_arith [hbs,hss,decide_eq_true hs0,decide_eq_true hs3,Bool.and_self]
   refine zab (zay ?_)
   simp_arith [hbs]
   refine ⟨⟨_,rfl,(zb1 _ hs).1,(zb1 _ hs).2⟩,fin i' _ _ _ e1 ?_ e3 e4⟩
   exact Int.fdiv_nonneg e2 (by omega)
  ·simp only [decide_eq_false hc0,Bool.false_eq_true,if_false]
   refine zcp (T:=R.T) (C:=zak R.T wf n) (wf:=wf) ?_
   refine zab (zau ?_)
   simp_arith [hbs]
   refine zab (zfq ?_)
   have hp:seed'.natAbs < 18446744073709551616:=by omega
   simp_arith [hbs,hss,show okI 38543=true from rfl,show okI 1299721=true from rfl,decide_eq_true hp]
   refine zab (zay ?_)
   simp_arith [hbs,show okI 67=true from rfl,hs0,show decide (Int.natAbs 97 < 1073741824)=true from rfl]
   exact ⟨⟨_,rfl,(zb1 _ hs).1,(zb1 _ hs).2⟩,fin i' _ _ _ e1 e2 (zb1 _ (by decide)).1 (zb1 _ (by decide)).2⟩
 refine zab (zfk ?_)
 by_cases hc0:cur=0
 ·by_cases hl:(i:Int) < (is.length:Nat)
  ·have hil:i < is.length:=by omega
   have hat:atI (is.map D.int) (i:Int)=some (.int is[i]):=by
    rw [zgD _ _ (by rw [List.length_map]; exact hil)]
    simp [hil]
   simp_arith [hbs,hcs,hss,decide_eq_true hc0,decide_eq_true hl]
   refine zab (zfq ?_)
   simp_arith [hbs,hcs,hss,hat]
   refine zab (zfk ?_)
   have fin2:∀cur',0≤cur'→Runs (exSs R.T (zak R.T wf n) wf (.cons (.asg (.sub (.var 0) (.cint 3)) (.bop .mod (.bi .int1 (.cons (.bop .add (.bop .add (.bop .mul (.ix (.var 0) (.cint 3)) (.cint 39227)) (.bop .mul (.bop .mod (.bi .int1 (.cons (.var 2) .nil)) (.cint 2147483543)) (.cint 40343))) (.cint 47)) .nil)) (.cint 2147483563))) .nil) [some (.ref b),some (.int s),some (.int is[i]),none,none] (L.set b (bagO c ((i:Int)+1) cur' seed (cnt+1)))) fun fl L1=>∃seed',fl=.nx [some (.ref b),some (.int s),some (.int is[i]),none,none]∧L1=L.set b (bagO c ((i:Int)+1) cur' seed' (cnt+1))∧0≤seed'∧seed' < 2147483563:=by
    intro cur' _
    refine zab (zfq ?_)
    simp_arith [hbs,hss,show okI 39227=true from rfl,show okI 40343=true from rfl]
    exact zcp ⟨_,rfl,rfl,(zb1 _ (by decide)).1,(zb1 _ (by decide)).2⟩
   have go2:∀cur',0≤cur'→∀fl L1,(∃seed',fl=Fl.nx [some (.ref b),some (.int s),some (.int is[i]),none,none]∧L1=L.set b (bagO c ((i:Int)+1) cur' seed' (cnt+1))∧0≤seed'∧seed' < 2147483563)→∃seed',fl=Fl.nx [some (.ref b),some (.int s),some (.int is[i]),none,none]∧L1=L.set b (bagO c ((i+1:Nat):Int) cur' seed' (cnt+1))∧0≤seed'∧seed' < 2147483563:=fun _ _ _ _ ⟨x,h1,h2,h3⟩=>⟨x,h1,h2,h3⟩
   by_cases hbig:(1000000000000000000:Int)≤is[i]
   ·simp_arith [hbs,hss,decide_eq_true hbig]
    refine zab (zfq ?_)
    simp_arith [hbs,hss]
    refine zcp ?_
    have h10:(0:Int)≤is[i]:=Int.le_trans (by decide) hbig
    refine (fin2 is[i] h10).imp fun fl L1 ⟨sd,q1,q2,q3,q4⟩=>?_
    subst q1 q2
    exact tail _ (i+1) is[i] sd (cnt+1) hil h10 q3 q4
   ·simp_arith [hbs,hss,decide_eq_false hbig]
    refine zcp ?_
    refine (fin2 cur h0).imp fun fl L1 ⟨sd,q1,q2,q3,q4⟩=>?_
    subst q1 q2
    exact tail _ (i+1) cur sd (cnt+1) hil h0 q3 q4
  ·simp_arith [hbs,hcs,hss,decide_eq_true hc0,decide_eq_false hl]
   exact zcp (tail _ i cur seed (cnt+1) hi h0 h1 h2)
 ·simp_arith [hbs,hcs,hss,decide_eq_false hc0]
  exact zcp (tail _ i cur seed (cnt+1) hi h0 h1 h2)
theorem zaW {C:Nat→List D→M D} {x0:D}:zaI R.T C 0 [x0] [] []=C 0 [x0]:=rfl
theorem za1 {C:Nat→List D→M D} {x0:D}:zaI R.T C 1 [x0] [] []=C 1 [x0]:=rfl
theorem zbh {C:Nat→List D→M D} {x0 x1:D}:zaI R.T C 2 [x0,x1] [] []=C 2 [x0,x1]:=rfl
theorem zbH {C:Nat→List D→M D} {x0 x1:D}:zaI R.T C 3 [x0,x1] [] []=C 3 [x0,x1]:=rfl
theorem zaZ {C:Nat→List D→M D} {x0 x1:D}:zaI R.T C 4 [x0,x1] [] []=C 4 [x0,x1]:=rfl
theorem zbk {C:Nat→List D→M D} {x0 x1:D}:zaI R.T C 5 [x0,x1] [] []=C 5 [x0,x1]:=rfl
theorem zbG {C:Nat→List D→M D} {x0:D}:zaI R.T C 6 [x0] [] []=C 6 [x0]:=rfl
theorem zaU {C:Nat→List D→M D} {x0:D}:zaI R.T C 7 [x0] [] []=C 7 [x0]:=rfl
theorem zaX {C:Nat→List D→M D} {x0:D}:zaI R.T C 8 [x0] [] []=C 8 [x0]:=rfl
theorem zaR {C:Nat→List D→M D}:zaI R.T C 9 [] [] []=C 9 []:=rfl
theorem zaJ {C:Nat→List D→M D} {x0 x1:D}:zaI R.T C 10 [x0,x1] [] []=C 10 [x0,x1]:=rfl
theorem zhg {C:Nat→List D→M D} {x0:D}:zaI R.T C 11 [x0] [] []=C 11 [x0]:=rfl
theorem zfJ {M:MH} {o p:O}:(M++[o]++[p])[M.length]?=some o:=by
 rw [List.getElem?_append_left (by simp)]
 exact zai
theorem Bag.mono (h:Bag L b c) (k:∀a,a < L.length→L'[a]?=L[a]?):Bag L' b c:=by
 obtain ⟨is,i,cur,seed,cnt,hbc,hb,hc,r⟩:=h
 exact ⟨is,i,cur,seed,cnt,hbc,(k b (List.getElem?_eq_some_iff.mp hb).1).trans hb,(k c (List.getElem?_eq_some_iff.mp hc).1).trans hc,r⟩
theorem Step.refl (h:Bag L b c):Step b c L L:=⟨h,Nat.le_refl _,fun _ _ _=>rfl⟩
theorem Step.trans {L2:MH} (h:Step b c L L') (k:Step b c L' L2):Step b c L L2:=⟨k.bag,Nat.le_trans h.len k.len,fun a h1 h2=>(k.keep a h1 (Nat.lt_of_lt_of_le h2 h.len)).trans (h.keep a h1 h2)⟩
theorem Step.alloc {o:O} (h:Bag L b c):Step b c L (L++[o]):=⟨h.mono fun a ha=>by rw [List.getElem?_append_left ha],by simp,fun a _ ha=>by rw [List.getElem?_append_left ha]⟩
theorem Step.get (h:Step b c L L') {a:Nat} {o:O} (ha:a≠b) (e:L[a]?=some o):L'[a]?=some o:=(h.keep a ha (List.getElem?_eq_some_iff.mp e).1).trans e
theorem zqD {xs:List D} (h:xs.length≤63):cutD xs none (some 63)=xs:=by
 unfold cutD HT.sIx
 simp
 rw [Nat.min_eq_right h,List.take_length]
theorem ziY {ns:List Int} (h:ns.length≤63):Runs (zak R.T wf (n+1) zg9 [.fzl (ns.map D.int)] L) fun d L'=>∃b c,d=.ref b∧Bag L' b c:=by
 refine zcF (fd:=zbn) rfl rfl ?_
 have hl:(ns.map D.int).length≤63:=by rw [List.length_map]; exact h
 simp only [zbn,zdg]
 refine zab (zau ?_)
 simp_arith [eq_self]
 refine zab (zim ?_)
 simp_arith [zqD hl]
 refine zex (xs:=ns.map D.int) (fun i ρ L1=>(∃(seed:Int) (c:Option D),0≤seed∧seed < 2147483563∧ρ=[some (.fzl (ns.map D.int)),some (.int seed),c])∧L1=L++[.lst (ns.map D.int)]) ?hat ?step ?fin _ 0 _ _ (Nat.zero_le _) ?fuel ⟨⟨5630,none,by decide,by decide,rfl⟩,rfl⟩
 case hat=>
  intro i ρ L1 ⟨_,e⟩
  subst e
  simp only [Wk.at,Src.at,zai]
 case step=>
  intro i x ρ L1 e ⟨⟨seed,c,s1,s2,e1⟩,e2⟩
  subst e1 e2
  have hx:∃z,x=D.int z:=by
   rw [List.getElem?_map] at e
   cases q:ns[i]? with
   | none=>rw [q] at e; cases e
   | some z=>rw [q] at e; cases e; exact ⟨z,rfl⟩
  obtain ⟨z,rfl⟩:=hx
  simp_arith [eq_self]
  refine zab (zau ?_)
  simp_arith [show okI 45179=true from rfl]
  refine zcp ?_
  exact ⟨⟨_,_,(zb1 _ (by decide)).1,(zb1 _ (by decide)).2,rfl⟩,rfl⟩
 case fin=>
  intro ρ L1 ⟨⟨seed,c,s1,s2,e1⟩,e2⟩
  subst e1 e2
  simp_arith [eq_self]
  refine zab (zay ?_)
  simp_arith [zqD hl]
  exact ⟨_,_,rfl,ns,0,0,seed,0,by simp,zai,zfJ,h,Nat.zero_le _,by decide,s1,s2⟩
 case fuel=>
  simp only [Wk.len,Src.len,zai]
  omega
local macro_rules | `(tactic| simp_arith! [$ts,*]) => `(tactic| simp_arith [zaW,za1,zbh,zbH,zaZ,zbk,zbG,zaU,zaX,zaR,zaJ,zhg,$ts,*])
theorem zh9 {a:Nat} {xs:List D} (h:Bag L b c) (ha:a≠b) (e:L[a]?=some (.lst xs)) (hne:xs≠[]) (hl:xs.length < 1000):Runs (zak R.T wf (n+2) ziV [.ref b,.ref a] L) fun d L'=>d∈xs∧Step b c L L':=by
 refine zcF (fd:=zcf) rfl rfl ?_
 simp only [zcf,zfi]
 refine zab (zay ?_)
 simp_arith! [e]
 have hp:0 < xs.length:=List.length_pos_iff.mpr hne
 refine (zdd (n:=n) xs.length (by omega) (by omega) h).imp fun d L1 ⟨⟨r,e1,e2,e3⟩,st⟩=>?_
 subst e1
 obtain ⟨k,rfl⟩:=Int.eq_ofNat_of_zero_le e2
 have hk:k < xs.length:=by omega
 have e4:=st.get ha e
 simp_arith [e4,zgD xs k hk,List.getElem?_eq_getElem hk]
 exact ⟨List.getElem_mem hk,st⟩
end
section
variable {n:Nat} {L L':MH} {a:Nat} {i:Int} {s:Str} {xs:List D}
theorem zmR:zav R.T L (.int i) [.bt "list",.bt "tuple"]=some false:=rfl
theorem zqU:zav R.T L (.int i) [.bt "list"]=some false:=rfl
theorem zqv:zav R.T L (.int i) [.bt "tuple"]=some false:=rfl
theorem zo3:zav R.T L (.int i) [.bt "bool"]=some false:=rfl
theorem zoO:zav R.T L (.int i) [.bt "int"]=some true:=rfl
theorem zqP:zav R.T L (.int i) [.bt "str"]=some false:=rfl
theorem zmE:zav R.T L (.str s) [.bt "list",.bt "tuple"]=some false:=rfl
theorem zqz:zav R.T L (.str s) [.bt "list"]=some false:=rfl
theorem zp6:zav R.T L (.str s) [.bt "tuple"]=some false:=rfl
theorem zpu:zav R.T L (.str s) [.bt "bool"]=some false:=rfl
theorem zof:zav R.T L (.str s) [.bt "int"]=some false:=rfl
theorem zpi:zav R.T L (.str s) [.bt "str"]=some true:=rfl
theorem zmv:zav R.T L .non [.bt "list",.bt "tuple"]=some false:=rfl
theorem zqT:zav R.T L .non [.bt "list"]=some false:=rfl
theorem zpR:zav R.T L .non [.bt "tuple"]=some false:=rfl
theorem zp0:zav R.T L .non [.bt "bool"]=some false:=rfl
theorem zqf:zav R.T L .non [.bt "int"]=some false:=rfl
theorem zpp:zav R.T L .non [.bt "str"]=some false:=rfl
theorem zmJ:zav R.T L (.tup xs) [.bt "list",.bt "tuple"]=some true:=rfl
theorem zqV:zav R.T L (.tup xs) [.bt "list"]=some false:=rfl
theorem zol:zav R.T L (.tup xs) [.bt "tuple"]=some true:=rfl
theorem zoK:zav R.T L (.tup xs) [.bt "bool"]=some false:=rfl
theorem zpa:zav R.T L (.tup xs) [.bt "int"]=some false:=rfl
theorem zqq:zav R.T L (.tup xs) [.bt "str"]=some false:=rfl
theorem znC {p:Bool}:zav R.T L (.bl p) [.bt "list",.bt "tuple"]=some false:=rfl
theorem zpX {p:Bool}:zav R.T L (.bl p) [.bt "list"]=some false:=rfl
theorem zpY {p:Bool}:zav R.T L (.bl p) [.bt "tuple"]=some false:=rfl
theorem zo1 {p:Bool}:zav R.T L (.bl p) [.bt "bool"]=some true:=rfl
theorem zqa {p:Bool}:zav R.T L (.bl p) [.bt "int"]=some true:=rfl
theorem zon {p:Bool}:zav R.T L (.bl p) [.bt "str"]=some false:=rfl
theorem znX (h:L[a]?=some (.lst xs)):zav R.T L (.ref a) [.bt "list",.bt "tuple"]=some true:=by
 simp only [zav,mapO,tyIs,zb3,h]
 rfl
theorem zma (h:L[a]?=some (.lst xs)):zav R.T L (.ref a) [.bt "list"]=some true:=by
 simp only [zav,mapO,tyIs,zb3,h]
 rfl
theorem zlY (h:L[a]?=some (.lst xs)):zav R.T L (.ref a) [.bt "tuple"]=some false:=by
 simp only [zav,mapO,tyIs,zb3,h]
 rfl
end
def like (L:MH):Nat→D→D→Prop
 | 0,_,_=>False
 | _+1,.int i,.int j=>i=j
 | _+1,.bl p,.bl q=>p=q
 | _+1,.str s,.str t=>s=t
 | _+1,.non,.non=>True
 | d+1,.tup xs,.tup ys=>xs.length=ys.length∧xs.length < 16777216∧∀(i:Nat) (x y:D),xs[i]?=some x→ys[i]?=some y→like L d x y
 | d+1,.ref a,.ref b=>∃xs ys,L[a]?=some (.lst xs)∧L[b]?=some (.lst ys)∧xs.length=ys.length∧xs.length < 16777216∧∀(i:Nat) (x y:D),xs[i]?=some x→ys[i]?=some y→like L d x y
 | _,_,_=>False
theorem zkt {L L':MH} (k:∀(a:Nat) (o:O),L[a]?=some o→L'[a]?=some o):∀(d:Nat) (x y:D),like L d x y→like L' d x y:=by
 intro d
 induction d with
 | zero=>intro x y h; cases h
 | succ d ih=>
  intro x y h
  cases x<;>cases y<;>first | exact h | (simp only [like] at h; done) | skip
  ·exact ⟨h.1,h.2.1,fun i x y e1 e2=>ih _ _ (h.2.2 i x y e1 e2)⟩
  ·obtain ⟨xs,ys,h1,h2,h3,h4,h5⟩:=h
   exact ⟨xs,ys,k _ _ h1,k _ _ h2,h3,h4,fun i x y e1 e2=>ih _ _ (h5 i x y e1 e2)⟩
theorem zbd {L t:MH} {a:Nat} {o:O} (h:L[a]?=some o):(L++t)[a]?=some o:=by
 rw [List.getElem?_append_left (List.getElem?_eq_some_iff.mp h).1]
 exact h
section
variable {n:Nat} {L:MH}
theorem zir {L:MH} {m k:Nat} (h:L[m]?=some (.lst (List.replicate k (.bl true)))):biD .all [.ref m] L=.ok (.bl true) L:=by
 have e:∀k,mapO blD (List.replicate k (D.bl true))=some (List.replicate k true):=by
  intro k
  induction k with
  | zero=>rfl
  | succ k ih=>simp [List.replicate_succ,mapO,blD,ih]
 simp [biD,zaD,h,e]
local macro_rules | `(tactic| simp_arith! [$ts,*]) => `(tactic| try simp -implicitDefEqProofs only [zf8,zea,zez,zd2,zdm,zdW,zdU,zfV,zer,zd9,zfp,zf0,zby,zfO,zeb,zcS,zfX,ziR,zf3,zfR,zbm,zfB,zje,ziS,zdX,zdE,zdR,zen,ziQ,zju,zdS,zd4,evEs,evB,evT,evO,evI,puT,puTs,List.map,List.replicate,List.length,Nat.sub_self,List.append,List.cons_append,List.nil_append,List.getElem?_cons_zero,List.getElem?_cons_succ,must,Option.bind_some,Mi.ret,ziO,zjc,zi5,zi6,ziH,zi8,zjx,zjw,ziM,List.set_cons_succ,List.set_cons_zero,zam,zag,zaz,Then,zcP,zcV,Option.map_some,List.length_map,zbi,if_true,if_false,eq_self,Bool.false_eq_true,reduceIte,zg5,Bool.and_self,sz0,sz1,sz2,sz3,sz4,sz5,sz6,sz7,sz8,sz9,sz10,sz11,sz12,Int.reduceLE,Int.reduceLT,Int.reduceToNat,Int.reduceNe,Int.reduceEq,Int.reduceNeg,decide_true,decide_false,Bool.true_and,Bool.and_true,Bool.or_true,Bool.true_or,Bool.not_true,Bool.not_false,ne_eq,not_false_eq_true,Nat.reducePow,Int.reducePow,na10,zeR,ziG,zi4,zjp,zjI,zjD,ziN,zfL,zf6,zfc,zjG,zfZ,ziE,zjj,c_eq,c_ne,c_in,zjd,c_lt,c_le,c_gt,c_ge,e_ii,e_ss,e_bb,t_bl,zjo,zjL,zjH,ziZ,ziC,ziX,zji,ziF,zjn,zjK,zjt,zjy,zjA,zja,ziW,zdH,zd7,zef,zhU,zeR,zdP,zeu,zeq,zdT,zai,zdI,zdD,zd1,zeg,zdG,zdK,zdY,zi9,zdJ,zd3,zdO,zei,zfK,zge,zf7,zjE,zfS,zfG,zbw,zbs,zb4,zbu,zbt,zbx,Option.some.injEq,reduceCtorEq,zdF,zel,zdV,zdN,zfY,zej,zes,zf5,zgi,zfQ,zf9,zgd,zcU,zdM,zga,zgb,zet,zee,zd8,zeh,zdL,zfW,ziJ,ziK,zjF,ziI,zjg,zjq,zi0,ziD,zjr,zjb,pk1,pk2,pk3,pk4,pk5,pk6,pk7,pk8,pk9,zaW,za1,zbh,zbH,zaZ,zbk,zbG,zaU,zaX,zaR,zaJ,zhg,$ts,*])
theorem zgh {d:Nat} {w:Wk} {xs ys:List D} {ρ:Mi.Loc} (ih:∀(L:MH) (x y:D),like L d x y→Runs (zak R.T wf (n+d) zfu [x,y] L) fun r L'=>r=.bl true∧∃t,L'=L++t) (hρ:ρ.length=5)
  (hl:xs.length=ys.length) (hz:xs.length < 16777216) (hw:∀t,w.at (L++t)=fun i=>some ((xs.zip ys)[i]?.map fun p=>.tup [p.1,p.2])) (hn:w.len (L++[.lst []])=xs.length) (he:∀(i:Nat) (x y:D),xs[i]?=some x→ys[i]?=some y→like L d x y):
  Runs (lcL (evE R.T (zak R.T wf (n+d)) (.call 5 (.cons (.var 3) (.cons (.var 4) .nil)) [] .nil)) (evT R.T (zak R.T wf (n+d)) .none) (puT R.T (zak R.T wf (n+d)) (.tup (.cons (.var 3) (.cons (.var 4) .nil)))) w L.length (zaA ρ [3,4]) (w.len (L++[.lst []])) 0 (L++[.lst []]))
   fun _ L2=>∃t,L2=L++[.lst (List.replicate xs.length (.bl true))]++t:=by
 refine ziv (xs:=(xs.zip ys).map fun p=>.tup [p.1,p.2]) (fun i acc L1=>acc=List.replicate i (.bl true)∧i≤xs.length∧∃t,L1=L++[.lst acc]++t) ?hat ?step ?fin _ 0 [] _ (Nat.zero_le _) ?fuel ⟨rfl,Nat.zero_le _,[],(List.append_nil _).symm⟩
 case hat=>
  intro i acc L1 ⟨_,_,t,e⟩
  subst e
  rw [List.append_assoc,hw,List.getElem?_map]
 case fin=>
  intro acc L1 ⟨e1,_,t,e⟩
  subst e1 e
  refine ⟨t, ?_⟩
  simp [hl]
 case fuel=>
  rw [hn]
  simp [hl]
 case step=>
  intro i x acc L1 e ⟨e1,e2,t,e3⟩
  subst e3
  rw [List.getElem?_map] at e
  cases q:(xs.zip ys)[i]? with
  | none=>rw [q] at e; cases e
  | some p=>
   rw [q] at e
   cases e
   obtain ⟨q1,q2⟩:=List.getElem?_zip_eq_some.mp q
   match ρ,hρ with
   | [r0,r1,r2,r3,r4],_=>
    simp_arith! [zaA]
    refine (ih _ _ _ (zkt (fun a o h=>by rw [List.append_assoc]; exact zbd h) d _ _ (he i _ _ q1 q2))).imp fun r L2 ⟨h1,t2,h2⟩=>?_
    subst h1 h2
    have hi:i < xs.length:=(List.getElem?_eq_some_iff.mp q1).1
    refine ⟨?_,by rw [e1,List.length_replicate]; omega, ?_,hi,t++t2, ?_⟩
    ·rw [List.append_assoc,List.append_assoc]
     simp
    ·rw [e1]
     exact List.replicate_succ'.symm
    ·simp [List.set_append]
theorem zkQ {xs ys:List D} (i:Nat):Wk.at L (.zip (.val xs) (.val ys)) i=some ((xs.zip ys)[i]?.map fun p=>.tup [p.1,p.2]):=by
 simp only [Wk.at,Src.at,Option.bind_some,Option.map_some,Option.some.injEq]
 cases e1:xs[i]? with
 | none=>
  have:(xs.zip ys)[i]?=none:=by
   rw [List.getElem?_eq_none_iff,List.length_zip]
   have:=List.getElem?_eq_none_iff.mp e1
   omega
  rw [this]
  cases ys[i]?<;>rfl
 | some x=>
  cases e2:ys[i]? with
  | none=>
   have:(xs.zip ys)[i]?=none:=by
    rw [List.getElem?_eq_none_iff,List.length_zip]
    have:=List.getElem?_eq_none_iff.mp e2
    omega
   rw [this]
   rfl
  | some y=>
   rw [(List.getElem?_zip_eq_some (z:=(x,y))).mpr ⟨e1,e2⟩]
   rfl
theorem znG {a b:Nat} {xs ys:List D} (h1:L[a]?=some (.lst xs)) (h2:L[b]?=some (.lst ys)) (i:Nat):Wk.at L (.zip (.lst a) (.lst b)) i=some ((xs.zip ys)[i]?.map fun p=>.tup [p.1,p.2]):=by
 have e:Wk.at L (.zip (.lst a) (.lst b)) i=Wk.at L (.zip (.val xs) (.val ys)) i:=by simp only [Wk.at,Src.at,h1,h2]
 rw [e]
 exact zkQ i
local macro_rules | `(tactic| simp_arith [$ts,*]) => `(tactic| try simp -implicitDefEqProofs only [zf8,zea,zez,zd2,zdm,zdW,zdU,zfV,zer,zd9,zfp,zf0,zby,zfO,zeb,zcS,zfX,ziR,zf3,zfR,zbm,zfB,zje,ziS,zdX,zdE,zdR,zen,ziQ,zju,zdS,zd4,evEs,evB,evT,evO,evI,puT,puTs,List.map,List.replicate,List.length,Nat.sub_self,List.append,List.cons_append,List.nil_append,List.getElem?_cons_zero,List.getElem?_cons_succ,must,Option.bind_some,Mi.ret,ziO,zjc,zi5,zi6,ziH,zi8,zjx,zjw,ziM,List.set_cons_succ,List.set_cons_zero,zam,zag,zaz,Then,zcP,zcV,Option.map_some,List.length_map,zbi,if_true,if_false,eq_self,Bool.false_eq_true,reduceIte,zg5,Bool.and_self,sz0,sz1,sz2,sz3,sz4,sz5,sz6,sz7,sz8,sz9,sz10,sz11,sz12,Int.reduceLE,Int.reduceLT,Int.reduceToNat,Int.reduceNe,Int.reduceEq,Int.reduceNeg,decide_true,decide_false,Bool.true_and,Bool.and_true,Bool.or_true,Bool.true_or,Bool.not_true,Bool.not_false,ne_eq,not_false_eq_true,Nat.reducePow,Int.reducePow,na10,zeR,ziG,zi4,zjp,zjI,zjD,ziN,zfL,zf6,zfc,zjG,zfZ,ziE,zjj,c_eq,c_ne,c_in,zjd,c_lt,c_le,c_gt,c_ge,e_ii,e_ss,e_bb,t_bl,zjo,zjL,zjH,ziZ,ziC,ziX,zji,ziF,zjn,zjK,zjt,zjy,zjA,zja,ziW,zdH,zd7,zef,zhU,zeR,zdP,zeu,zeq,zdT,zai,zdI,zdD,zd1,zeg,zdG,zdK,zdY,zi9,zdJ,zd3,zdO,zei,zfK,zge,zf7,zjE,zfS,zfG,zbw,zbs,zb4,zbu,zbt,zbx,Option.some.injEq,reduceCtorEq,zdF,zel,zdV,zdN,zfY,zej,zes,zf5,zgi,zfQ,zf9,zgd,zcU,zdM,zga,zgb,zet,zee,zd8,zeh,zdL,zfW,ziJ,ziK,zjF,ziI,zjg,zjq,zi0,ziD,zjr,zjb,pk1,pk2,pk3,pk4,pk5,pk6,pk7,pk8,pk9,$ts,*])
local macro_rules | `(tactic| simp_all_arith [$ts,*]) => `(tactic| simp_arith [zmR,zqU,zqv,zo3,zoO,zqP,zmE,zqz,zp6,zpu,zof,zpi,zmv,zqT,zpR,zp0,zqf,zpp,zmJ,zqV,zol,zoK,zpa,zqq,znC,zpX,zpY,zo1,zqa,zon,$ts,*])
theorem zhB:∀(d:Nat) (L:MH) (x y:D),like L d x y→Runs (zak R.T wf (n+d) zfu [x,y] L) fun r L'=>r=.bl true∧∃t,L'=L++t:=by
 intro d
 induction d with
 | zero=>intro L x y h; cases h
 | succ d ih=>
  intro L x y h
  refine zcF (fd:=zbM) (n:=n+d) rfl rfl ?_
  simp only [zbM,zeC]
  refine zab (zfk ?_)
  cases x<;>cases y<;>first | (simp only [like] at h; done) | skip
  ·-- None
   simp_all_arith [eq_self]
   refine zc6 (zab (zfk ?_))
   simp_all_arith [eq_self]
   refine zab (zay ?_)
   simp_arith [eq_self]
   exact ⟨trivial,[],(List.append_nil _).symm⟩
  ·cases (show _=_ from h)
   simp_all_arith [eq_self]
   refine zc6 (zab (zfk ?_))
   simp_all_arith [eq_self]
   refine zc6 (zab (zay ?_))
   simp_all_arith [eq_self]
   exact ⟨trivial,[],(List.append_nil _).symm⟩
  ·cases (show _=_ from h)
   simp_all_arith [eq_self]
   refine zc6 (zab (zfk ?_))
   simp_all_arith [eq_self]
   refine zc6 (zab (zay ?_))
   simp_all_arith [eq_self]
   exact ⟨trivial,[],(List.append_nil _).symm⟩
  ·cases (show _=_ from h)
   simp_all_arith [eq_self]
   refine zc6 (zab (zfk ?_))
   simp_all_arith [eq_self]
   refine zc6 (zab (zay ?_))
   simp_all_arith [eq_self]
   exact ⟨trivial,[],(List.append_nil _).symm⟩
  ·rename_i xs ys
   obtain ⟨hl,hz,he⟩:=h
   simp_all_arith [eq_self]
   refine zab (zau ?_)
   simp_all_arith [eq_self]
   refine zab (zay ?_)
   simp_all_arith [hl]
   refine zn4 ?_
   simp_arith [show zeU L (.tup xs) (.tup ys)=some (.zip (.val xs) (.val ys)) from rfl]
   refine (zgh ih rfl hl hz (fun t=>funext fun i=>zkQ i) (by simp [Wk.len,Src.len,hl]) he).imp fun _ L2 ⟨t,e⟩=>?_
   subst e
   rw [zir (k:=xs.length) (zbd zai),zam]
   exact ⟨rfl,_,List.append_assoc _ _ _⟩
  ·rename_i a b
   obtain ⟨xs,ys,h1,h2,hl,hz,he⟩:=h
   simp_arith [znX h2]
   refine zab (zau ?_)
   simp_arith [zma h1,zma h2,zlY h1,zlY h2]
   refine zab (zay ?_)
   simp_arith [h1,h2,hl]
   refine zn4 ?_
   have hz':zeU L (.ref a) (.ref b)=some (.zip (.lst a) (.lst b)):=by simp only [zeU,zaD,zcz,h1,h2,Option.bind_some,Option.map_some]
   simp_arith [hz']
   refine (zgh ih rfl hl hz (fun t=>funext fun i=>znG (zbd h1) (zbd h2) i) (by simp [Wk.len,Src.len,zbd h1,zbd h2,hl]) he).imp fun _ L2 ⟨t,e⟩=>?_
   subst e
   rw [zir (k:=xs.length) (zbd zai),zam]
   exact ⟨rfl,_,List.append_assoc _ _ _⟩
end
section
variable {n:Nat} {L L':MH} {b c:Nat} {C:Nat→List D→M D}
theorem Bag.ltb (h:Bag L b c):b < L.length:=by
 obtain ⟨is,i,cur,seed,cnt,hbc,hb,hc,r⟩:=h
 exact (List.getElem?_eq_some_iff.mp hb).1
theorem Bag.ltc (h:Bag L b c):c < L.length:=by
 obtain ⟨is,i,cur,seed,cnt,hbc,hb,hc,r⟩:=h
 exact (List.getElem?_eq_some_iff.mp hc).1
theorem zqw {elt:Mi.Loc→M D} {test:Mi.Loc→M Bool} {put:D→Mi.Loc→M Mi.Loc} {w:Wk} {ρ:Mi.Loc} {xs:List D} (f:D→D) (htest:∀ ρ L,test ρ L=.ok true L) (hz:xs.length < 16777216) (hat:∀(u:MH) (i:Nat),w.at (L++u) i=some xs[i]?) (hn:w.len (L++[.lst []])=xs.length)
  (step:∀x∈xs,∀u:MH,Runs (put x ρ (L++u)) fun ρ1 L2=>Runs (elt ρ1 L2) fun d L3=>d=f x∧∃v,L3=L++u++v):
  Runs (lcL elt test put w L.length ρ (w.len (L++[.lst []])) 0 (L++[.lst []])) fun _ L2=>∃u,L2=L++[.lst (xs.map f)]++u:=by
 refine ziv (xs:=xs) (fun i acc L1=>acc=(xs.take i).map f∧i≤xs.length∧∃u,L1=L++[.lst acc]++u) ?hat ?step ?fin _ 0 [] _ (Nat.zero_le _) (by rw [hn]; omega) ⟨by simp,Nat.zero_le _,[],(List.append_nil _).symm⟩
 case hat=>
  intro i acc L1 ⟨_,_,u,e⟩
  rw [e,List.append_assoc]
  exact hat _ _
 case fin=>
  intro acc L1 ⟨e1,_,u,e⟩
  rw [List.take_length] at e1
  exact ⟨u,by rw [e,e1]⟩
 case step=>
  intro i x acc L1 e1 ⟨e2,e3,u,e4⟩
  have hi:=(List.getElem?_eq_some_iff.mp e1).1
  rw [e4,List.append_assoc]
  refine (step x (List.mem_of_getElem? e1) _).imp fun ρ1 L2 h1=>?_
  simp only [htest,zam,if_true]
  refine h1.imp fun d L3 ⟨h2,v,h3⟩=>?_
  refine ⟨?_, ?_, ?_,hi,u++v, ?_⟩
  ·rw [h3]
   simp
  ·rw [e2,List.length_map,List.length_take]
   omega
  ·rw [e2,h2]
   have:xs.take (i+1)=xs.take i++[x]:=by
    rw [List.take_succ,e1]
    rfl
   rw [this,List.map_append]
   rfl
  ·rw [h3]
   simp [List.set_append]
end
section
variable {n:Nat} {L L':MH} {b c:Nat} {C:Nat→List D→M D}
def big:Int:=10 ^ 60
def Far (d:D):Prop:=∃z,d=.int z∧-big < z∧z < big
local macro_rules | `(tactic| simp_arith [$ts,*]) => `(tactic| try simp -implicitDefEqProofs only [zf8,zea,zez,zd2,zdm,zdW,zdU,zfV,zer,zd9,zfp,zf0,zby,zfO,zeb,zcS,zfX,ziR,zf3,zfR,zbm,zfB,zje,ziS,zdX,zdE,zdR,zen,ziQ,zju,zdS,zd4,evEs,evB,evT,evO,evI,puT,puTs,List.map,List.replicate,List.length,Nat.sub_self,List.append,List.cons_append,List.nil_append,List.getElem?_cons_zero,List.getElem?_cons_succ,must,Option.bind_some,Mi.ret,ziO,zjc,zi5,zi6,ziH,zi8,zjx,zjw,ziM,List.set_cons_succ,List.set_cons_zero,zam,zag,zaz,Then,zcP,zcV,Option.map_some,List.length_map,zbi,if_true,if_false,eq_self,Bool.false_eq_true,reduceIte,zg5,Bool.and_self,sz0,sz1,sz2,sz3,sz4,sz5,sz6,sz7,sz8,sz9,sz10,sz11,sz12,Int.reduceLE,Int.reduceLT,Int.reduceToNat,Int.reduceNe,Int.reduceEq,Int.reduceNeg,decide_true,decide_false,Bool.true_and,Bool.and_true,Bool.or_true,Bool.true_or,Bool.not_true,Bool.not_false,ne_eq,not_false_eq_true,Nat.reducePow,Int.reducePow,na10,zeR,ziG,zi4,zjp,zjI,zjD,ziN,zfL,zf6,zfc,zjG,zfZ,ziE,zjj,c_eq,c_ne,c_in,zjd,c_lt,c_le,c_gt,c_ge,e_ii,e_ss,e_bb,t_bl,zjo,zjL,zjH,ziZ,ziC,ziX,zji,ziF,zjn,zjK,zjt,zjy,zjA,zja,ziW,zdH,zd7,zef,zhU,zeR,zdP,zeu,zeq,zdT,zai,zdI,zdD,zd1,zeg,zdG,zdK,zdY,zi9,zdJ,zd3,zdO,zei,zfK,zge,zf7,zjE,zfS,zfG,zbw,zbs,zb4,zbu,zbt,zbx,Option.some.injEq,reduceCtorEq,zdF,zel,zdV,zdN,zfY,zej,zes,zf5,zgi,zfQ,zf9,zgd,zcU,zdM,zga,zgb,zet,zee,zd8,zeh,zdL,zfW,ziJ,ziK,zjF,ziI,zjg,zjq,zi0,ziD,zjr,zjb,pk1,pk2,pk3,pk4,pk5,pk6,pk7,pk8,pk9,$ts,*])
local macro_rules | `(tactic| simp_arith! [$ts,*]) => `(tactic| simp_arith [zaW,za1,zbh,zbH,zaZ,zbk,zbG,zaU,zaX,zaR,zaJ,zhg,$ts,*])
theorem ziy (h:Bag L b c):Runs (zak R.T wf (n+3) zjC [.ref b] L) fun d L'=>Far d∧Step b c L L':=by
 refine zcF (fd:=zcc) rfl rfl ?_
 simp only [zcc,ze9]
 refine zab (zau ?_)
 simp_arith! [eq_self]
 refine (zdd (n:=n+1) 1000000000 (by decide) (by decide) h).imp fun d L1 ⟨⟨r,e1,e2,e3⟩,st⟩=>?_
 subst e1
 refine zab (zay ?_)
 simp_arith! [negD]
 refine (zdd (n:=n+1) 9 (by decide) (by decide) st.bag).imp fun d L2 ⟨⟨r2,e4,e5,e6⟩,st2⟩=>?_
 subst e4
 simp_arith [negD]
 have b2:=st2.bag
 refine (zh9 (n:=n) (L:=L2++[_]) (Step.alloc b2).bag (Nat.ne_of_gt b2.ltb) zai (by simp) (by simp)).imp fun d L3 ⟨hm,st3⟩=>⟨?_,st.trans (st2.trans ((Step.alloc b2).trans st3))⟩
 unfold Far big
 simp only [List.mem_cons,List.not_mem_nil,or_false] at hm
 rcases hm with rfl | rfl | rfl | rfl | rfl | rfl | rfl | rfl
 all_goals exact ⟨_,rfl,by omega,by omega⟩
theorem zie {r:Int} (h0:0≤r) (h1:r < 1000):zfM r=true:=by
 unfold zfM
 simp only [Bool.and_eq_true,decide_eq_true_eq]
 omega
theorem zkr {s:Int} {Q:D→MH→Prop} (hs:0 < s) (hs2:s < 1073741824) (h:Bag L b c) (k:∀(r:Int) (L':MH),0≤r→r < s→Step b c L L'→Q (.int r) L'):Runs (zak R.T wf (n+1) zfv [.ref b,.int s] L) Q:=
 (zdd s hs hs2 h).imp fun d L' ⟨⟨r,e1,e2,e3⟩,st⟩=>e1 ▸ k r L' e2 e3 st
end
end Row
end
section
namespace Row
end Row
end
section
set_option maxHeartbeats 4000000
namespace Row
open PySem PySem.Spec L2 Mi SX
local macro_rules | `(tactic| simp_arith [$ts,*]) => `(tactic| try simp -implicitDefEqProofs only [zf8,zea,zez,zd2,zdm,zdW,zdU,zfV,zer,zd9,zfp,zf0,zby,zfO,zeb,zcS,zfX,ziR,zf3,zfR,zbm,zfB,zje,ziS,zdX,zdE,zdR,zen,ziQ,zju,zdS,zd4,evEs,evB,evT,evO,evI,puT,puTs,List.map,List.replicate,List.length,Nat.sub_self,List.append,List.cons_append,List.nil_append,List.getElem?_cons_zero,List.getElem?_cons_succ,must,Option.bind_some,Mi.ret,ziO,zjc,zi5,zi6,ziH,zi8,zjx,zjw,ziM,List.set_cons_succ,List.set_cons_zero,zam,zag,zaz,Then,zcP,zcV,Option.map_some,List.length_map,zbi,if_true,if_false,eq_self,Bool.false_eq_true,reduceIte,zg5,Bool.and_self,sz0,sz1,sz2,sz3,sz4,sz5,sz6,sz7,sz8,sz9,sz10,sz11,sz12,Int.reduceLE,Int.reduceLT,Int.reduceToNat,Int.reduceNe,Int.reduceEq,Int.reduceNeg,decide_true,decide_false,Bool.true_and,Bool.and_true,Bool.or_true,Bool.true_or,Bool.not_true,Bool.not_false,ne_eq,not_false_eq_true,Nat.reducePow,Int.reducePow,na10,zeR,ziG,zi4,zjp,zjI,zjD,ziN,zfL,zf6,zfc,zjG,zfZ,ziE,zjj,c_eq,c_ne,c_in,zjd,c_lt,c_le,c_gt,c_ge,e_ii,e_ss,e_bb,t_bl,zjo,zjL,zjH,ziZ,ziC,ziX,zji,ziF,zjn,zjK,zjt,zjy,zjA,zja,ziW,zdH,zd7,zef,zhU,zeR,zdP,zeu,zeq,zdT,zai,zdI,zdD,zd1,zeg,zdG,zdK,zdY,zi9,zdJ,zd3,zdO,zei,zfK,zge,zf7,zjE,zfS,zfG,zbw,zbs,zb4,zbu,zbt,zbx,Option.some.injEq,reduceCtorEq,zdF,zel,zdV,zdN,zfY,zej,zes,zf5,zgi,zfQ,zf9,zgd,zcU,zdM,zga,zgb,zet,zee,zd8,zeh,zdL,zfW,ziJ,ziK,zjF,ziI,zjg,zjq,zi0,ziD,zjr,zjb,pk1,pk2,pk3,pk4,pk5,pk6,pk7,pk8,pk9,$ts,*])
local macro_rules | `(tactic| simp_arith! [$ts,*]) => `(tactic| simp_arith [zaW,za1,zbh,zbH,zaZ,zbk,zbG,zaU,zaX,zaR,zaJ,zhg,$ts,*])
section
variable {n:Nat} {L L' L3:MH} {b c:Nat} {C:Nat→List D→M D} {a:Nat} {ρ:Mi.Loc}
theorem Step.put {r:Nat} {o:O} (hb:Bag L b c) (st:Step b c L L3) (hr:L.length≤r):Step b c L (L3.set r o):=by
 have e:∀a,a < L.length→(L3.set r o)[a]?=L3[a]?:=fun a ha=>by rw [List.getElem?_set_ne (by omega)]
 have lb:=hb.ltb
 have lc:=hb.ltc
 refine ⟨?_,by rw [List.length_set]; exact st.len,fun a h1 h2=>(e a h2).trans (st.keep a h1 h2)⟩
 obtain ⟨is,i,cur,seed,cnt,h1,h2,h3,h4⟩:=st.bag
 by_cases hc:c < L.length
 ·exact ⟨is,i,cur,seed,cnt,h1,(e b lb).trans h2,(e c hc).trans h3,h4⟩
 ·omega
theorem znZ {r:Nat} {o:O} (h:r < L.length):(L.set r o)[r]?=some o:=List.getElem?_set_self h
theorem zkq {xs:List D} {d:D} {i:Int} (h:L[a]?=some (.lst xs)) (z:xs.length < 16777216) (h0:0≤i) (h1:i < 1000000):bmD .insert (.ref a) [.int i,d] L=.ok .non (L.set a (.lst (xs.take i.toNat++[d]++xs.drop i.toNat))):=by
 have e:bmD .insert (.ref a) [.int i,d] L=match L[a]? with
  | some (.lst xs)=>if decide (xs.length < 16777216)&&decide (0≤i)&&decide (i < 2 ^ 63) then .ok .non (L.set a (.lst (xs.take i.toNat++[d]++xs.drop i.toNat))) else .stk
  | _=>.stk:=rfl
 have h2:i < 2 ^ 63:=by omega
 rw [e,h]
 simp only [decide_eq_true z,decide_eq_true h0,decide_eq_true h2,Bool.and_self,if_true]
theorem zjB {q:Nat} {xs:List D} (h:Bag L b c) (hq:L[q]?=some (.lst xs)) (hqb:q≠b) (hz:xs.length < 1000):
  Runs (zak R.T wf (n+2) zgX [.ref b,.ref q] L) fun d L'=>(∃(r:Nat) (ys:List D),d=.ref r∧L.length≤r∧L'[r]?=some (.lst ys)∧ys.Perm xs)∧Step b c L L':=by
 refine zcF (fd:=zbr) (n:=n+1) rfl rfl ?_
 simp only [zbr,zdj]
 refine zab (zau ?_)
 simp_arith [eq_self]
 refine zab (zim ?_)
 have hq2:(L++[O.lst []])[q]?=some (.lst xs):=zbd hq
 simp_arith [hq2]
 have lq:=(List.getElem?_eq_some_iff.mp hq).1
 refine zex (xs:=xs) (fun i ρ L3=>(∃(ys:List D) (p3:Option D),L3[L.length]?=some (.lst ys)∧ys.Perm (xs.take i)∧ρ=[some (.ref b),some (.ref q),some (.ref L.length),p3])∧Step b c L L3∧i≤xs.length) (fun i ρ L3 hI=>?hat) ?step ?fin _ 0 _ _ (Nat.zero_le _) ?fuel ⟨⟨[],_,zai,by simp,rfl⟩,Step.alloc h,Nat.zero_le _⟩
 case hat=>
  obtain ⟨_,st,_⟩:=hI
  have g:=st.get hqb hq
  simp only [Wk.at,Src.at,g]
 case fuel=>
  simp only [Wk.len,Src.len,hq2]
  omega
 case step=>
  intro i x ρ L3 hx ⟨⟨ys,p3,g,pm,e⟩,st,hi⟩
  subst e
  have li:=(List.getElem?_eq_some_iff.mp hx).1
  have ly:ys.length=i:=by
   rw [pm.length_eq,List.length_take]
   omega
  show Mi.Runs (Res.ok [some (.ref b),some (.ref q),some (.ref L.length),some x] L3) _
  rw [zam]
  refine zab (zmK ?_)
  simp_arith! [g,ly]
  refine zkr (n:=n) (s:=(i:Int)+1) (by omega) (by omega) st.bag fun r L4 h0 h1 st4=>?_
  have rb:L.length≠b:=Nat.ne_of_gt h.ltb
  have g4:=st4.get rb g
  have bi:=zkq (d:=x) g4 (by omega) h0 (by omega)
  simp_arith [bi]
  refine zcp ⟨⟨_,_,znZ (List.getElem?_eq_some_iff.mp g4).1, ?_,rfl⟩,Step.put h (st.trans st4) (Nat.le_refl _),by omega⟩
  have e1:xs.take (i+1)=xs.take i++[x]:=by
   rw [List.take_succ,hx]
   rfl
  rw [e1]
  have p1:(ys.take r.toNat++[x]++ys.drop r.toNat).Perm (ys++[x]):=by
   have p2:([x]++ys.drop r.toNat).Perm (ys.drop r.toNat++[x]):=List.perm_append_comm
   have p3:=p2.append_left (ys.take r.toNat)
   rw [← List.append_assoc, ← List.append_assoc,List.take_append_drop] at p3
   exact p3
  exact p1.trans (pm.append_right [x])
 case fin=>
  intro ρ L3 ⟨⟨ys,p3,g,pm,e⟩,st,_⟩
  subst e
  rw [List.take_length] at pm
  refine zab (zay ?_)
  simp_arith [eq_self]
  exact ⟨⟨_,ys,rfl,Nat.le_refl _,g,pm⟩,st⟩
end
end Row
end
section
set_option maxHeartbeats 4000000
namespace Row
open PySem PySem.Spec L2 Mi
section
variable {n:Nat} {L L' L2:MH} {b c k cc:Nat} {C:Nat→List D→Mi.M D} {a p:Nat} {d d1 d2:D} {ρ:Mi.Loc}
def Grow (L L':MH):Prop:=∃t,L'=L++t
theorem Grow.refl:Grow L L:=⟨[],(List.append_nil _).symm⟩
theorem Grow.trans (h:Grow L L') (k:Grow L' L2):Grow L L2:=by
 obtain ⟨t,rfl⟩:=h
 obtain ⟨u,rfl⟩:=k
 exact ⟨t++u,List.append_assoc ..⟩
theorem Grow.get {o:O} (h:Grow L L') (e:L[a]?=some o):L'[a]?=some o:=by
 obtain ⟨t,rfl⟩:=h
 exact zbd e
theorem Grow.one {o:O}:Grow L (L++[o]):=⟨_,rfl⟩
theorem Bag.grow (h:Bag L b c) (g:Grow L L'):Bag L' b c:=h.mono fun a ha=>by
 obtain ⟨t,rfl⟩:=g
 exact List.getElem?_append_left ha
def cds:List Str:=["InvalidName", "DuplicateName", "InvalidWords", "InvalidSlot", "InvalidCondition", "InvalidText", "InvalidAction", "InvalidModel", "InvalidState", "InvalidSight", "InvalidStep", "Blocked", "InvalidAnswer", "Unseen", "InvalidPrices", "InvalidNote", "InvalidLimit", "TooWide", "NotReached", "NotOpen", "NotAlike", "InvalidCommand", "WrongKind", "InUse", "Breaks", "Aborted", "Full", "InvalidPage", "UnknownName", "NothingLeft"]
def flds (d1 d2:D):Nat→List (Nat×D)
 | 0=>[(1,d1),(0,.str "InvalidName")]
 | 1=>[(1,d1),(0,.str "DuplicateName")]
 | 2=>[(0,.str "InvalidWords")]
 | 3=>[(1,d1),(0,.str "InvalidSlot")]
 | 4=>[(3,d1),(0,.str "InvalidCondition")]
 | 5=>[(4,d1),(0,.str "InvalidText")]
 | 6=>[(2,d2),(1,d1),(0,.str "InvalidAction")]
 | 7=>[(2,d1),(0,.str "InvalidModel")]
 | 8=>[(4,d1),(0,.str "InvalidState")]
 | 9=>[(0,.str "InvalidSight")]
 | 10=>[(4,d1),(0,.str "InvalidStep")]
 | 11=>[(2,d2),(1,d1),(0,.str "Blocked")]
 | 12=>[(5,d1),(0,.str "InvalidAnswer")]
 | 13=>[(1,d1),(0,.str "Unseen")]
 | 14=>[(0,.str "InvalidPrices")]
 | 15=>[(1,d1),(0,.str "InvalidNote")]
 | 16=>[(5,d1),(0,.str "InvalidLimit")]
 | 17=>[(8,d1),(0,.str "TooWide")]
 | 18=>[(0,.str "NotReached")]
 | 19=>[(0,.str "NotOpen")]
 | 20=>[(0,.str "NotAlike")]
 | 21=>[(0,.str "InvalidCommand")]
 | 22=>[(1,d1),(0,.str "WrongKind")]
 | 23=>[(6,d1),(0,.str "InUse")]
 | 24=>[(7,d2),(6,d1),(0,.str "Breaks")]
 | 25=>[(7,d2),(4,d1),(0,.str "Aborted")]
 | 26=>[(9,d1),(0,.str "Full")]
 | 27=>[(10,d1),(0,.str "InvalidPage")]
 | 28=>[(1,d1),(0,.str "UnknownName")]
 | 29=>[(0,.str "NothingLeft")]
 | _=>[]
def due (d1 d2:D) (k:Nat):List D:=if k∈[2,9,14,18,19,20,21,29] then [] else if k∈[6,11,24,25] then [d1,d2] else [d1]
theorem zaC {x:Nat×List (Nat×D)} (g:Grow L L') (h:zal L d=some x):zal L' d=some x:=by
 unfold zal at h ⊢
 split at h
 ·rename_i m
  split at h
  ·rename_i c' k' e1
   split at h
   ·rename_i fs e2
    simp only [g.get e1,g.get e2]
    exact h
   ·cases h
  ·cases h
 ·cases h
theorem zhE {fs:List (Nat×D)}:zal (L++[.xdt fs]++[.exn cc L.length]) (.ref (L.length+1))=some (cc,fs):=by
 have e1:(L++[O.xdt fs]++[.exn cc L.length])[L.length+1]?=some (.exn cc L.length):=by
  have:=zai (L:=L++[O.xdt fs]) (o:=.exn cc L.length)
  rw [List.length_append] at this
  exact this
 have e2:(L++[O.xdt fs]++[.exn cc L.length])[L.length]?=some (.xdt fs):=zfJ
 unfold zal
 simp only [e1,e2]
def Errs (L:MH) (ds:List D) (qs:List (Nat×List (Nat×D))):Prop:=ds.length=qs.length∧∀(i:Nat) (q:Nat×List (Nat×D)),qs[i]?=some q→∃p,ds[i]?=some (.ref p)∧zal L (.ref p)=some q
theorem Errs.grow {ds:List D} {qs:List (Nat×List (Nat×D))} (g:Grow L L') (h:Errs L ds qs):Errs L' ds qs:=⟨h.1,fun i q e=>by
  obtain ⟨p,h1,h2⟩:=h.2 i q e
  exact ⟨p,h1,zaC g h2⟩⟩
theorem Errs.app {ds es:List D} {qs rs:List (Nat×List (Nat×D))} (h:Errs L ds qs) (k:Errs L es rs):Errs L (ds++es) (qs++rs):=by
 refine ⟨by rw [List.length_append,List.length_append,h.1,k.1],fun i q e=>?_⟩
 by_cases hi:i < qs.length
 ·rw [List.getElem?_append_left hi] at e
  rw [List.getElem?_append_left (by rw [h.1]; exact hi)]
  exact h.2 i q e
 ·rw [List.getElem?_append_right (by omega)] at e
  rw [List.getElem?_append_right (by rw [h.1]; omega),h.1]
  exact k.2 _ q e
def MkE (C:Nat→List D→Mi.M D) (ρ:Mi.Loc) (e:Ex) (q:Nat×List (Nat×D)):Prop:=∀L:MH,evE R.T C e ρ L=.ok (.ref (L.length+1)) (L++[.xdt q.2]++[.exn q.1 L.length])
def MkA (C:Nat→List D→Mi.M D) (ρ:Mi.Loc):Exs→List (Nat×List (Nat×D))→Prop
 | .nil,[]=>True
 | .cons e es,q::qs=>MkE C ρ e q∧MkA C ρ es qs
 | _,_=>False
theorem zc5:∀ {es:Exs} {qs:List (Nat×List (Nat×D))} {L:MH},MkA C ρ es qs→∃ds L',evEs R.T C es ρ L=.ok ds L'∧Grow L L'∧Errs L' ds qs
 | .nil,[],L,_=>⟨[],L,by simp only [evEs]<;>rfl,Grow.refl,rfl,fun i q e=>by simp at e⟩
 | .cons e es,q::qs,L,h=>by
  obtain ⟨ds,L',e1,g,r⟩:=zc5 (L:=L++[.xdt q.2]++[.exn q.1 L.length]) h.2
  have g2:Grow L (L++[O.xdt q.2]++[.exn q.1 L.length]):=Grow.one.trans Grow.one
  refine ⟨.ref (L.length+1)::ds,L', ?_,g2.trans g,by rw [List.length_cons,List.length_cons,r.1],fun i x e=>?_⟩
  ·have e2:evEs R.T C (.cons e es) ρ=(fun L=>(evE R.T C e ρ L).bind fun d L1=>(evEs R.T C es ρ L1).bind fun ds=>Mi.ret (d::ds)):=by simp only [evEs]<;>rfl
   rw [e2]
   show (evE R.T C e ρ L).bind _=_
   rw [h.1 L]
   show (evEs R.T C es ρ _).bind _=_
   rw [e1]
   rfl
  ·cases i with
   | zero=>
    cases e
    exact ⟨_,rfl,zaC g zhE⟩
   | succ i=>exact r.2 i x e
 | .nil,_::_,_,h=>h.elim
 | .cons _ _,[],_,h=>h.elim
 | .star _,_,_,h=>h.elim
theorem zgG {es:Exs} {ds:List D} (e3:evEs R.T C es ρ L=.ok ds L') (hl:ds.length < 1000):Runs (evE R.T C (.lst es) ρ L) fun d L2=>∃a,d=.ref a∧L2[a]?=some (.lst ds)∧Grow L' L2:=by
 have z:zad ds.length=true:=decide_eq_true (by omega)
 rw [zfB,zag,e3,zam,z]
 exact ⟨_,_,rfl,_,rfl,zai,Grow.one⟩
theorem zaw {es:Exs} {xs ds:List D} {i:Nat} (e1:ρ[i]?=some (some (.ref a))) (e2:L[a]?=some (.lst xs)) (e3:evEs R.T C es ρ L=.ok ds L') (g:Grow L L') (hl:xs.length+ds.length < 1000):Runs (evE R.T C (.bop .add (.var i) (.lst es)) ρ L) fun d L2=>∃a',d=.ref a'∧L2[a']?=some (.lst (xs++ds))∧Grow L' L2:=by
 rw [zfp]
 simp only [zag,zdm,e1,Mi.ret,zam]
 refine (zgG e3 (by omega)).imp fun d L2 ⟨a2,q1,q2,g2⟩=>?_
 subst q1
 have e4:=g2.get (g.get e2)
 have z:zad (xs.length+ds.length)=true:=decide_eq_true (by omega)
 rw [zfc,e4,q2]
 simp only [z,if_true,zhU,zam]
 exact ⟨_,rfl,zai,g2.trans Grow.one⟩
def qs (d1 d2:D):List (Nat×List (Nat×D)):=(List.range 30).map fun k=>(k+2,flds d1 d2 k)
def qs0 (d1 d2:D):List (Nat×List (Nat×D)):=[(2,[(1,d1),(0,.str "InvalidName")]),(3,[(1,d1),(0,.str "DuplicateName")]),(4,[(0,.str "InvalidWords")]),(5,[(1,d1),(0,.str "InvalidSlot")]),(6,[(3,d1),(0,.str "InvalidCondition")])]
theorem mk0:MkA C [some d1,some d2,none] (.cons (.mkx 2 (.cons (.var 0) .nil) [] [] .nil) (.cons (.mkx 3 (.cons (.var 0) .nil) [] [] .nil) (.cons (.mkx 4 .nil [] [] .nil) (.cons (.mkx 5 (.cons (.var 0) .nil) [] [] .nil) (.cons (.mkx 6 (.cons (.var 0) .nil) [] [] .nil) .nil))))) (qs0 d1 d2):=⟨fun L=>by kernel_rfl,fun L=>by kernel_rfl,fun L=>by kernel_rfl,fun L=>by kernel_rfl,fun L=>by kernel_rfl,trivial⟩
def qs1 (d1 d2:D):List (Nat×List (Nat×D)):=[(7,[(4,d1),(0,.str "InvalidText")]),(8,[(2,d2),(1,d1),(0,.str "InvalidAction")]),(9,[(2,d1),(0,.str "InvalidModel")]),(10,[(4,d1),(0,.str "InvalidState")])]
theorem mk1:MkA C [some d1,some d2,some (.ref a)] (.cons (.mkx 7 (.cons (.var 0) .nil) [] [] .nil) (.cons (.mkx 8 .nil [2,1] ["part", "name"] (.cons (.var 1) (.cons (.var 0) .nil))) (.cons (.mkx 9 (.cons (.var 0) .nil) [] [] .nil) (.cons (.mkx 10 (.cons (.var 0) .nil) [] [] .nil) .nil)))) (qs1 d1 d2):=⟨fun L=>by kernel_rfl,fun L=>by kernel_rfl,fun L=>by kernel_rfl,fun L=>by kernel_rfl,trivial⟩
def qs2 (d1 d2:D):List (Nat×List (Nat×D)):=[(11,[(0,.str "InvalidSight")]),(12,[(4,d1),(0,.str "InvalidStep")]),(13,[(2,d2),(1,d1),(0,.str "Blocked")]),(14,[(5,d1),(0,.str "InvalidAnswer")]),(15,[(1,d1),(0,.str "Unseen")])]
theorem mk2:MkA C [some d1,some d2,some (.ref a)] (.cons (.mkx 11 .nil [] [] .nil) (.cons (.mkx 12 (.cons (.var 0) .nil) [] [] .nil) (.cons (.mkx 13 (.cons (.var 0) (.cons (.var 1) .nil)) [] [] .nil) (.cons (.mkx 14 (.cons (.var 0) .nil) [] [] .nil) (.cons (.mkx 15 (.cons (.var 0) .nil) [] [] .nil) .nil))))) (qs2 d1 d2):=⟨fun L=>by kernel_rfl,fun L=>by kernel_rfl,fun L=>by kernel_rfl,fun L=>by kernel_rfl,fun L=>by kernel_rfl,trivial⟩
def qs3 (d1 d2:D):List (Nat×List (Nat×D)):=[(16,[(0,.str "InvalidPrices")]),(17,[(1,d1),(0,.str "InvalidNote")]),(18,[(5,d1),(0,.str "InvalidLimit")]),(19,[(8,d1),(0,.str "TooWide")]),(20,[(0,.str "NotReached")]),(21,[(0,.str "NotOpen")])]
theorem mk3:MkA C [some d1,some d2,some (.ref a)] (.cons (.mkx 16 .nil [] [] .nil) (.cons (.mkx 17 (.cons (.var 0) .nil) [] [] .nil) (.cons (.mkx 18 .nil [5] ["given"] (.cons (.var 0) .nil)) (.cons (.mkx 19 (.cons (.var 0) .nil) [] [] .nil) (.cons (.mkx 20 .nil [] [] .nil) (.cons (.mkx 21 .nil [] [] .nil) .nil)))))) (qs3 d1 d2):=⟨fun L=>by kernel_rfl,fun L=>by kernel_rfl,fun L=>by kernel_rfl,fun L=>by kernel_rfl,fun L=>by kernel_rfl,fun L=>by kernel_rfl,trivial⟩
def qs4 (d1 d2:D):List (Nat×List (Nat×D)):=[(22,[(0,.str "NotAlike")]),(23,[(0,.str "InvalidCommand")]),(24,[(1,d1),(0,.str "WrongKind")]),(25,[(6,d1),(0,.str "InUse")]),(26,[(7,d2),(6,d1),(0,.str "Breaks")])]
theorem mk4:MkA C [some d1,some d2,some (.ref a)] (.cons (.mkx 22 .nil [] [] .nil) (.cons (.mkx 23 .nil [] [] .nil) (.cons (.mkx 24 (.cons (.var 0) .nil) [] [] .nil) (.cons (.mkx 25 .nil [6] ["user"] (.cons (.var 0) .nil)) (.cons (.mkx 26 .nil [7,6] ["why", "user"] (.cons (.var 1) (.cons (.var 0) .nil))) .nil))))) (qs4 d1 d2):=⟨fun L=>by kernel_rfl,fun L=>by kernel_rfl,fun L=>by kernel_rfl,fun L=>by kernel_rfl,fun L=>by kernel_rfl,trivial⟩
def qs5 (d1 d2:D):List (Nat×List (Nat×D)):=[(27,[(7,d2),(4,d1),(0,.str "Aborted")]),(28,[(9,d1),(0,.str "Full")]),(29,[(10,d1),(0,.str "InvalidPage")]),(30,[(1,d1),(0,.str "UnknownName")]),(31,[(0,.str "NothingLeft")])]
theorem mk5:MkA C [some d1,some d2,some (.ref a)] (.cons (.mkx 27 (.cons (.var 0) (.cons (.var 1) .nil)) [] [] .nil) (.cons (.mkx 28 .nil [9] ["limit"] (.cons (.var 0) .nil)) (.cons (.mkx 29 (.cons (.var 0) .nil) [] [] .nil) (.cons (.mkx 30 .nil [1] ["name"] (.cons (.var 0) .nil)) (.cons (.mkx 31 .nil [] [] .nil) .nil))))) (qs5 d1 d2):=⟨fun L=>by kernel_rfl,fun L=>by kernel_rfl,fun L=>by kernel_rfl,fun L=>by kernel_rfl,fun L=>by kernel_rfl,trivial⟩
theorem zrm:qs d1 d2=qs0 d1 d2++qs1 d1 d2++qs2 d1 d2++qs3 d1 d2++qs4 d1 d2++qs5 d1 d2:=rfl
theorem zhM:Runs (zak R.T wf (n+1) zgj [d1,d2] L) fun d L'=>Grow L L'∧∃a ds,d=.ref a∧L'[a]?=some (.lst ds)∧Errs L' ds (qs d1 d2):=by
 refine zcF (fd:=zbe) rfl rfl ?_
 simp only [zbe,zcZ]
 refine zab (zau ?_)
 obtain ⟨ds0,L0,e0,g0,r0⟩:=zc5 (L:=L) (mk0 (C:=zak R.T wf n) (d1:=d1) (d2:=d2))
 have n0:ds0.length=5:=r0.1
 refine (zgG e0 (by omega)).imp fun d M0 ⟨a0,q0,l0,h0⟩=>?_
 subst q0
 have f0:=r0.grow h0
 refine zab (zau ?_)
 obtain ⟨ds1,L1,e1,g1,r1⟩:=zc5 (L:=M0) (mk1 (C:=zak R.T wf n) (d1:=d1) (d2:=d2) (a:=a0))
 have n1:ds1.length=4:=r1.1
 refine (zaw (i:=2) (a:=a0) rfl l0 e1 g1 (by (try simp only [List.length_append]); omega)).imp fun d M1 ⟨a1,q1,l1,h1⟩=>?_
 subst q1
 have f1:=(f0.grow (g1.trans h1)).app (r1.grow h1)
 refine zab (zau ?_)
 obtain ⟨ds2,L2,e2,g2,r2⟩:=zc5 (L:=M1) (mk2 (C:=zak R.T wf n) (d1:=d1) (d2:=d2) (a:=a1))
 have n2:ds2.length=5:=r2.1
 refine (zaw (i:=2) (a:=a1) rfl l1 e2 g2 (by (try simp only [List.length_append]); omega)).imp fun d M2 ⟨a2,q2,l2,h2⟩=>?_
 subst q2
 have f2:=(f1.grow (g2.trans h2)).app (r2.grow h2)
 refine zab (zau ?_)
 obtain ⟨ds3,L3,e3,g3,r3⟩:=zc5 (L:=M2) (mk3 (C:=zak R.T wf n) (d1:=d1) (d2:=d2) (a:=a2))
 have n3:ds3.length=6:=r3.1
 refine (zaw (i:=2) (a:=a2) rfl l2 e3 g3 (by (try simp only [List.length_append]); omega)).imp fun d M3 ⟨a3,q3,l3,h3⟩=>?_
 subst q3
 have f3:=(f2.grow (g3.trans h3)).app (r3.grow h3)
 refine zab (zau ?_)
 obtain ⟨ds4,L4,e4,g4,r4⟩:=zc5 (L:=M3) (mk4 (C:=zak R.T wf n) (d1:=d1) (d2:=d2) (a:=a3))
 have n4:ds4.length=5:=r4.1
 refine (zaw (i:=2) (a:=a3) rfl l3 e4 g4 (by (try simp only [List.length_append]); omega)).imp fun d M4 ⟨a4,q4,l4,h4⟩=>?_
 subst q4
 have f4:=(f3.grow (g4.trans h4)).app (r4.grow h4)
 refine zab (zay ?_)
 obtain ⟨ds5,L5,e5,g5,r5⟩:=zc5 (L:=M4) (mk5 (C:=zak R.T wf n) (d1:=d1) (d2:=d2) (a:=a4))
 have n5:ds5.length=5:=r5.1
 refine (zaw (i:=2) (a:=a4) rfl l4 e5 g5 (by (try simp only [List.length_append]); omega)).imp fun d M5 ⟨a5,q5,l5,h5⟩=>?_
 subst q5
 have f5:=(f4.grow (g5.trans h5)).app (r5.grow h5)
 exact ⟨(((((g0.trans h0).trans (g1.trans h1)).trans (g2.trans h2)).trans (g3.trans h3)).trans (g4.trans h4)).trans (g5.trans h5),_,_,rfl,l5,by rw [zrm]; exact f5⟩
def isxs:List (Ty×Bool)→Exs
 | []=>.nil
 | q::l=>.cons (.isx (.var 0) q.1) (isxs l)
theorem zgP {l:List (Ty×Bool)} {fs:List (Nat×D)} (hx:zal L (.ref p)=some (cc,fs)) (h0:ρ[0]?=some (some (.ref p))) (h:∀q∈l,R.T.kix cc q.1=some q.2):evEs R.T C (isxs l) ρ L=.ok (l.map fun q=>.bl q.2) L:=by
 induction l with
 | nil=>simp only [isxs,evEs]<;>rfl
 | cons q l ih=>
  have e2:evEs R.T C (.cons (.isx (.var 0) q.1) (isxs l)) ρ=(fun L=>(evE R.T C (.isx (.var 0) q.1) ρ L).bind fun d L1=>(evEs R.T C (isxs l) ρ L1).bind fun ds=>Mi.ret (d::ds)):=by simp only [evEs]<;>rfl
  have e3:evE R.T C (.isx (.var 0) q.1) ρ L=.ok (.bl q.2) L:=by
   have:=h q List.mem_cons_self
   simp only [zpC,zdm,h0]
   show isxD R.T q.1 (.ref p) L=_
   unfold isxD
   simp only [hx,this]
  show evEs R.T C (.cons (.isx (.var 0) q.1) (isxs l)) ρ L=_
  rw [e2]
  show (evE R.T C (.isx (.var 0) q.1) ρ L).bind _=_
  rw [e3]
  show (evEs R.T C (isxs l) ρ L).bind _=_
  rw [ih fun q hq=>h q (List.mem_cons_of_mem _ hq)]
  rfl
def kf (k:Nat):Ty→Bool
 | .own 0=>decide (k < 28)
 | .own 1=>decide (k=28)
 | .own (j+2)=>decide (j=k)
 | .bt x=>if x="ValueError" then decide (k < 28) else if x="LookupError" then decide (27 < k) else if x="IndexError" then decide (k=29) else false
def flt (c:Nat) (l:List ((Nat×Ty)×Bool)):List (Ty×Bool):=l.filterMap fun q=>if q.1.1=c then some (q.1.2,q.2) else none
theorem zf4 {c:Nat} {t:Ty}:∀ {l:List ((Nat×Ty)×Bool)},l.lookup (c,t)=(flt c l).lookup t
 | []=>rfl
 | ((c',t'),x)::l=>by
  have ih:=zf4 (c:=c) (t:=t) (l:=l)
  unfold flt at ih ⊢
  rw [List.lookup_cons,List.filterMap_cons]
  by_cases h:c'=c
  ·subst h
   simp only [if_true,List.lookup_cons]
   by_cases h2:t=t'
   ·subst h2
    simp
   ·have e1:((c',t)==(c',t'))=false:=beq_eq_false_iff_ne.mpr fun z=>h2 (congrArg Prod.snd z)
    have e2:(t==t')=false:=beq_eq_false_iff_ne.mpr h2
    rw [e1,e2]
    exact ih
  ·have e1:((c,t)==(c',t'))=false:=beq_eq_false_iff_ne.mpr fun z=>h (congrArg Prod.fst z).symm
   simp only [if_neg h,e1]
   exact ih
theorem zfT {f:Ty→Bool} {t:Ty}:∀ {l:List (Ty×Bool)},(∀q∈l,q.2=f q.1)→t∈l.map (·.1)→l.lookup t=some (f t)
 | [],_,h=>by simp at h
 | q::l,h,m=>by
  rw [List.lookup_cons]
  by_cases e:t=q.1
  ·rw [e,beq_self_eq_true]
   exact congrArg some (h q List.mem_cons_self)
  ·rw [beq_eq_false_iff_ne.mpr e]
   refine zfT (fun q hq=>h q (List.mem_cons_of_mem _ hq)) ?_
   rcases List.mem_cons.mp m with z | z
   ·exact absurd z e
   ·exact z
def tys:List Ty:=[(.own 27),(.own 13),(.own 26),(.own 3),(.own 28),(.own 25),(.bt "IndexError"),(.own 8),(.own 14),(.own 23),(.own 6),(.own 18),(.own 9),(.own 2),(.own 17),(.own 29),(.own 16),(.own 11),(.own 5),(.own 10),(.own 12),(.own 7),(.own 4),(.bt "KeyError"),(.bt "LookupError"),(.own 1),(.own 22),(.own 21),(.own 20),(.own 31),(.own 0),(.own 19),(.own 30),(.own 15),(.bt "ValueError"),(.own 24)]
theorem zkh:∀k,k < 30→(flt (k+2) R.kixs).map (·.1)=tys∧∀q∈flt (k+2) R.kixs,q.2=kf k q.1:=by decide +kernel
theorem zfn {t:Ty} (hk:k < 30) (m:t∈tys):R.T.kix (k+2) t=some (kf k t):=by
 show R.kixs.lookup (k+2,t)=_
 rw [zf4]
 exact zfT (zkh k hk).2 (by rw [(zkh k hk).1]; exact m)
theorem zo5:∀j,j < 30→(Ty.own (j+2))∈tys:=by decide +kernel
theorem zns (k:Nat) (hk:k < 30) (j:Nat) (hj:j < 30):R.T.kix (k+2) (.own (j+2))=some (decide (j=k)):=zfn hk (zo5 j hj)
theorem znM (k:Nat) (hk:k < 30):∀q∈[((.own 0:Ty),decide (k < 28)),(.bt "ValueError",decide (k < 28)),(.own 1,decide (k=28)),(.bt "LookupError",decide (27 < k)),(.bt "IndexError",decide (k=29)),(.bt "KeyError",false)],R.T.kix (k+2) q.1=some q.2:=by
 intro q hq
 simp only [List.mem_cons,List.not_mem_nil,or_false] at hq
 rcases hq with rfl | rfl | rfl | rfl | rfl | rfl
 ·exact zfn (t:=.own 0) hk (by decide +kernel)
 ·exact zfn (t:=.bt "ValueError") hk (by decide +kernel)
 ·exact zfn (t:=.own 1) hk (by decide +kernel)
 ·exact zfn (t:=.bt "LookupError") hk (by decide +kernel)
 ·exact zfn (t:=.bt "IndexError") hk (by decide +kernel)
 ·exact zfn (t:=.bt "KeyError") hk (by decide +kernel)
def owl (k:Nat) (js:List Nat):List (Ty×Bool):=js.map fun j=>(.own (j+2),decide (j=k))
theorem zb0 {js:List Nat} {fs:List (Nat×D)} (hx:zal L (.ref p)=some (k+2,fs)) (hk:k < 30) (h0:ρ[0]?=some (some (.ref p))) (h:∀j∈js,j < 30):evEs R.T C (isxs (owl k js)) ρ L=.ok (js.map fun j=>.bl (decide (j=k))) L:=by
 rw [zgP (l:=owl k js) hx h0 fun q hq=>?_]
 ·unfold owl
  rw [List.map_map]
  rfl
 ·obtain ⟨j,hj,rfl⟩:=List.mem_map.mp hq
  exact zns k hk j (h j hj)
theorem zjv {fs:List (Nat×D)} (hx:zal L (.ref p)=some (k+2,fs)) (hk:k < 30):Runs (zak R.T wf (n+1) zhu [.ref p] L) fun d L'=>Grow L L'∧∃a,d=.ref a∧L'[a]?=some (.lst ((List.range 30).map fun j=>.bl (decide (j=k)))):=by
 refine zcF (fd:=zbp) rfl rfl ?_
 simp only [zbp,zds]
 refine zab (zau ?_)
 refine (zgG (zb0 (js:=[0,1,2]) hx hk rfl (by decide)) (by simp)).imp fun d M0 ⟨a0,q0,l0,h0⟩=>?_
 subst q0
 refine zab (zau ?_)
 refine (zaw (i:=1) (a:=a0) rfl l0 (zb0 (js:=[3,4,5]) (zaC (h0) hx) hk rfl (by decide)) Grow.refl (by simp)).imp fun d M1 ⟨a1,q1,l1,h1⟩=>?_
 subst q1
 refine zab (zau ?_)
 refine (zaw (i:=1) (a:=a1) rfl l1 (zb0 (js:=[6,7,8]) (zaC ((h0).trans h1) hx) hk rfl (by decide)) Grow.refl (by simp)).imp fun d M2 ⟨a2,q2,l2,h2⟩=>?_
 subst q2
 refine zab (zau ?_)
 refine (zaw (i:=1) (a:=a2) rfl l2 (zb0 (js:=[9,10,11]) (zaC (((h0).trans h1).trans h2) hx) hk rfl (by decide)) Grow.refl (by simp)).imp fun d M3 ⟨a3,q3,l3,h3⟩=>?_
 subst q3
 refine zab (zau ?_)
 refine (zaw (i:=1) (a:=a3) rfl l3 (zb0 (js:=[12,13,14]) (zaC ((((h0).trans h1).trans h2).trans h3) hx) hk rfl (by decide)) Grow.refl (by simp)).imp fun d M4 ⟨a4,q4,l4,h4⟩=>?_
 subst q4
 refine zab (zau ?_)
 refine (zaw (i:=1) (a:=a4) rfl l4 (zb0 (js:=[15,16,17]) (zaC (((((h0).trans h1).trans h2).trans h3).trans h4) hx) hk rfl (by decide)) Grow.refl (by simp)).imp fun d M5 ⟨a5,q5,l5,h5⟩=>?_
 subst q5
 refine zab (zau ?_)
 refine (zaw (i:=1) (a:=a5) rfl l5 (zb0 (js:=[18,19,20]) (zaC ((((((h0).trans h1).trans h2).trans h3).trans h4).trans h5) hx) hk rfl (by decide)) Grow.refl (by simp)).imp fun d M6 ⟨a6,q6,l6,h6⟩=>?_
 subst q6
 refine zab (zau ?_)
 refine (zaw (i:=1) (a:=a6) rfl l6 (zb0 (js:=[21,22,23]) (zaC (((((((h0).trans h1).trans h2).trans h3).trans h4).trans h5).trans h6) hx) hk rfl (by decide)) Grow.refl (by simp)).imp fun d M7 ⟨a7,q7,l7,h7⟩=>?_
 subst q7
 refine zab (zau ?_)
 refine (zaw (i:=1) (a:=a7) rfl l7 (zb0 (js:=[24,25,26,27]) (zaC ((((((((h0).trans h1).trans h2).trans h3).trans h4).trans h5).trans h6).trans h7) hx) hk rfl (by decide)) Grow.refl (by simp)).imp fun d M8 ⟨a8,q8,l8,h8⟩=>?_
 subst q8
 refine zab (zay ?_)
 refine (zaw (i:=1) (a:=a8) rfl l8 (zb0 (js:=[28,29]) (zaC (((((((((h0).trans h1).trans h2).trans h3).trans h4).trans h5).trans h6).trans h7).trans h8) hx) hk rfl (by decide)) Grow.refl (by simp)).imp fun d M9 ⟨a9,q9,l9,h9⟩=>?_
 subst q9
 exact ⟨(((((((((h0).trans h1).trans h2).trans h3).trans h4).trans h5).trans h6).trans h7).trans h8).trans h9,_,rfl,l9⟩
theorem ziT {fs:List (Nat×D)} (hx:zal L (.ref p)=some (k+2,fs)) (hk:k < 30):Runs (zak R.T wf (n+1) zg4 [.ref p] L) fun d L'=>Grow L L'∧∃a,d=.ref a∧L'[a]?=some (.lst [.bl (decide (k < 28)),.bl (decide (k < 28)),.bl (decide (k=28)),.bl (decide (27 < k)),.bl (decide (k=29)),.bl false]):=by
 refine zcF (fd:=zbo) rfl rfl ?_
 simp only [zbo,zdx]
 have z:=znM k hk
 refine zab (zau ?_)
 refine (zgG (zgP (l:=[(.own 0,decide (k < 28)),(.bt "ValueError",decide (k < 28)),(.own 1,decide (k=28))]) hx rfl fun q hq=>z q (List.mem_append_left [((.bt "LookupError":Ty),decide (27 < k)),(.bt "IndexError",decide (k=29)),(.bt "KeyError",false)] hq)) (by simp)).imp fun d M0 ⟨a0,q0,l0,h0⟩=>?_
 subst q0
 refine zab (zay ?_)
 refine (zaw (i:=1) (a:=a0) rfl l0 (zgP (l:=[(.bt "LookupError",decide (27 < k)),(.bt "IndexError",decide (k=29)),(.bt "KeyError",false)]) (zaC h0 hx) rfl fun q hq=>z q (List.mem_append_right [((.own 0:Ty),decide (k < 28)),(.bt "ValueError",decide (k < 28)),(.own 1,decide (k=28))] hq)) Grow.refl (by simp)).imp fun d M1 ⟨a1,q1,l1,h1⟩=>?_
 subst q1
 exact ⟨h0.trans h1,_,rfl,l1⟩
end
section
variable {n:Nat} {L L':MH} {b c k cc:Nat} {C:Nat→List D→Mi.M D} {a p:Nat} {d d1 d2:D} {ρ:Mi.Loc} {s:Str}
theorem zgF {ts:List Str}:inD L (.str s) (.tup (ts.map .str))=some (decide (s∈ts)):=by
 have e1:(ts.map D.str).all zbE=true:=List.all_eq_true.mpr fun x hx=>by
  obtain ⟨y,_,rfl⟩:=List.mem_map.mp hx
  rfl
 have e2:(ts.map D.str).any (fun z=>eqf z (.str s))=decide (s∈ts):=by
  induction ts with
  | nil=>rfl
  | cons y ts ih=>
   rw [List.map_cons,List.any_cons,ih (List.all_eq_true.mpr fun x hx=>by
     obtain ⟨y,_,rfl⟩:=List.mem_map.mp hx
     rfl)]
   have e3:eqf (.str y) (.str s)=decide (y=s):=rfl
   rw [e3]
   by_cases h:y=s
   ·subst h
    simp
   ·have h2:¬ s=y:=fun z=>h z.symm
    simp [h,h2]
 show (if zbE (.str s)&&(ts.map D.str).all zbE then some ((ts.map D.str).any fun z=>eqf z (.str s)) else _)=_
 rw [e1,e2]
 rfl
theorem zae {x:D} {m:Nat} {fs:List (Nat×D)} (hx:zal L (.ref p)=some (cc,fs)) (h1:R.T.xat cc m=true) (h2:fs.lookup m=some x):atxD R.T m (.ref p) L=.ok x L:=by
 unfold atxD
 simp only [hx,h1,h2,if_true]
theorem zaE {x:D} {m:Nat} (h:atxD R.T m (.ref p) L=.ok x L):evE R.T C (.atx (.var 0) m) [some (.ref p)] L=.ok x L:=by
 simp only [zjS,zdm,List.getElem?_cons_zero]
 exact h
theorem zii {es:Exs} {ts:List Str} (h0:atxD R.T 0 (.ref p) L=.ok (.str s) L) (he:evEs R.T C es [some (.ref p)] L=.ok (ts.map .str) L) (hl:ts.length < 1000):evB R.T C (.cmp .In (.atx (.var 0) 0) (.tup es)) [some (.ref p)] L=.ok (decide (s∈ts)) L:=by
 have z:zad (ts.map D.str).length=true:=by
  rw [List.length_map]
  exact decide_eq_true (by omega)
 unfold evB
 rw [zby]
 show ((evE R.T C (.atx (.var 0) 0) [some (.ref p)] L).bind _).bind _=_
 rw [zaE h0]
 show ((evE R.T C (.tup es) [some (.ref p)] L).bind _).bind _=_
 rw [zbm]
 show (((evEs R.T C es [some (.ref p)] L).bind _).bind _).bind _=_
 rw [he]
 show (((if zad (ts.map D.str).length then Mi.ret (D.tup (ts.map .str)) else zas) L).bind _).bind _=_
 rw [z]
 show ((must ((inD L (.str s) (.tup (ts.map .str))).map D.bl) L).bind _)=_
 rw [zgF]
 rfl
theorem f_no {e:Ex} {B r:Sms} {q:Bool} {Q:Fl→MH→Prop} (h:evB R.T C e ρ L=.ok q L) (hq:q=false) (k:Runs (exSs R.T C wf r ρ L) Q):Runs (exSs R.T C wf (.cons (.ife e B .nil) r) ρ L) Q:=by
 subst hq
 refine zab (zfk ?_)
 rw [h,zam]
 exact zcp (T:=R.T) (C:=C) (wf:=wf) k
theorem zbL {e:Ex} {es:Exs} {ds:List D} {r:Sms} {q:Bool} {Q:D→MH→Prop} (h:evB R.T C e ρ L=.ok q L) (hq:q=true) (he:evEs R.T C es ρ L=.ok ds L) (hl:ds.length < 1000) (k:Q (.tup ds) L):Runs (exSs R.T C wf (.cons (.ife e (.cons (.ret (.tup es)) .nil) .nil) r) ρ L) (zaB Q):=by
 subst hq
 refine zab (zfk ?_)
 have z:zad ds.length=true:=decide_eq_true (by omega)
 rw [h,zam,if_pos rfl]
 refine zab (zay ?_)
 rw [zbm,zag,he,zam,z]
 exact Runs.ok k
theorem es1 {e:Ex} {x:D} (h:evE R.T C e ρ L=.ok x L):evEs R.T C (.cons e .nil) ρ L=.ok [x] L:=by
 simp only [evEs,h]<;>rfl
theorem es2 {e e':Ex} {x y:D} (h:evE R.T C e ρ L=.ok x L) (h':evE R.T C e' ρ L=.ok y L):evEs R.T C (.cons e (.cons e' .nil)) ρ L=.ok [x,y] L:=by
 simp only [evEs,h,Res.bind,h']<;>rfl
theorem t0 (h0:atxD R.T 0 (.ref p) L=.ok (.str s) L):evB R.T C (.cmp .In (.atx (.var 0) 0) (.tup (.cons (.cstr "InvalidName") (.cons (.cstr "DuplicateName") (.cons (.cstr "InvalidSlot") (.cons (.cstr "Unseen") (.cons (.cstr "InvalidNote") (.cons (.cstr "WrongKind") (.cons (.cstr "UnknownName") .nil))))))))) [some (.ref p)] L=.ok (decide (s∈(["InvalidName", "DuplicateName", "InvalidSlot", "Unseen", "InvalidNote", "WrongKind", "UnknownName"]:List Str))) L:=by
 exact zii (ts:=["InvalidName", "DuplicateName", "InvalidSlot", "Unseen", "InvalidNote", "WrongKind", "UnknownName"]) h0 (by kernel_rfl) (by decide)
theorem t1 (h0:atxD R.T 0 (.ref p) L=.ok (.str s) L):evB R.T C (.cmp .In (.atx (.var 0) 0) (.tup (.cons (.cstr "InvalidAction") (.cons (.cstr "Blocked") .nil)))) [some (.ref p)] L=.ok (decide (s∈(["InvalidAction", "Blocked"]:List Str))) L:=by
 exact zii (ts:=["InvalidAction", "Blocked"]) h0 (by kernel_rfl) (by decide)
theorem t2 (h0:atxD R.T 0 (.ref p) L=.ok (.str s) L):evB R.T C (.cmp .Eq (.atx (.var 0) 0) (.cstr "InvalidCondition")) [some (.ref p)] L=.ok (decide (s∈(["InvalidCondition"]:List Str))) L:=by
 unfold evB
 rw [zby]
 show ((evE R.T C (.atx (.var 0) 0) [some (.ref p)] L).bind _).bind _=_
 rw [zaE h0]
 have q:decide (s∈(["InvalidCondition"]:List Str))=decide (s="InvalidCondition"):=by simp
 rw [q]
 rfl
theorem t3 (h0:atxD R.T 0 (.ref p) L=.ok (.str s) L):evB R.T C (.cmp .Eq (.atx (.var 0) 0) (.cstr "InvalidModel")) [some (.ref p)] L=.ok (decide (s∈(["InvalidModel"]:List Str))) L:=by
 unfold evB
 rw [zby]
 show ((evE R.T C (.atx (.var 0) 0) [some (.ref p)] L).bind _).bind _=_
 rw [zaE h0]
 have q:decide (s∈(["InvalidModel"]:List Str))=decide (s="InvalidModel"):=by simp
 rw [q]
 rfl
theorem t4 (h0:atxD R.T 0 (.ref p) L=.ok (.str s) L):evB R.T C (.cmp .In (.atx (.var 0) 0) (.tup (.cons (.cstr "InvalidText") (.cons (.cstr "InvalidState") (.cons (.cstr "InvalidStep") .nil))))) [some (.ref p)] L=.ok (decide (s∈(["InvalidText", "InvalidState", "InvalidStep"]:List Str))) L:=by
 exact zii (ts:=["InvalidText", "InvalidState", "InvalidStep"]) h0 (by kernel_rfl) (by decide)
theorem t5 (h0:atxD R.T 0 (.ref p) L=.ok (.str s) L):evB R.T C (.cmp .In (.atx (.var 0) 0) (.tup (.cons (.cstr "InvalidAnswer") (.cons (.cstr "InvalidLimit") .nil)))) [some (.ref p)] L=.ok (decide (s∈(["InvalidAnswer", "InvalidLimit"]:List Str))) L:=by
 exact zii (ts:=["InvalidAnswer", "InvalidLimit"]) h0 (by kernel_rfl) (by decide)
theorem t6 (h0:atxD R.T 0 (.ref p) L=.ok (.str s) L):evB R.T C (.cmp .Eq (.atx (.var 0) 0) (.cstr "InUse")) [some (.ref p)] L=.ok (decide (s∈(["InUse"]:List Str))) L:=by
 unfold evB
 rw [zby]
 show ((evE R.T C (.atx (.var 0) 0) [some (.ref p)] L).bind _).bind _=_
 rw [zaE h0]
 have q:decide (s∈(["InUse"]:List Str))=decide (s="InUse"):=by simp
 rw [q]
 rfl
theorem t7 (h0:atxD R.T 0 (.ref p) L=.ok (.str s) L):evB R.T C (.cmp .Eq (.atx (.var 0) 0) (.cstr "Breaks")) [some (.ref p)] L=.ok (decide (s∈(["Breaks"]:List Str))) L:=by
 unfold evB
 rw [zby]
 show ((evE R.T C (.atx (.var 0) 0) [some (.ref p)] L).bind _).bind _=_
 rw [zaE h0]
 have q:decide (s∈(["Breaks"]:List Str))=decide (s="Breaks"):=by simp
 rw [q]
 rfl
theorem t8 (h0:atxD R.T 0 (.ref p) L=.ok (.str s) L):evB R.T C (.cmp .Eq (.atx (.var 0) 0) (.cstr "TooWide")) [some (.ref p)] L=.ok (decide (s∈(["TooWide"]:List Str))) L:=by
 unfold evB
 rw [zby]
 show ((evE R.T C (.atx (.var 0) 0) [some (.ref p)] L).bind _).bind _=_
 rw [zaE h0]
 have q:decide (s∈(["TooWide"]:List Str))=decide (s="TooWide"):=by simp
 rw [q]
 rfl
theorem t9 (h0:atxD R.T 0 (.ref p) L=.ok (.str s) L):evB R.T C (.cmp .Eq (.atx (.var 0) 0) (.cstr "Full")) [some (.ref p)] L=.ok (decide (s∈(["Full"]:List Str))) L:=by
 unfold evB
 rw [zby]
 show ((evE R.T C (.atx (.var 0) 0) [some (.ref p)] L).bind _).bind _=_
 rw [zaE h0]
 have q:decide (s∈(["Full"]:List Str))=decide (s="Full"):=by simp
 rw [q]
 rfl
theorem t10 (h0:atxD R.T 0 (.ref p) L=.ok (.str s) L):evB R.T C (.cmp .Eq (.atx (.var 0) 0) (.cstr "Aborted")) [some (.ref p)] L=.ok (decide (s∈(["Aborted"]:List Str))) L:=by
 unfold evB
 rw [zby]
 show ((evE R.T C (.atx (.var 0) 0) [some (.ref p)] L).bind _).bind _=_
 rw [zaE h0]
 have q:decide (s∈(["Aborted"]:List Str))=decide (s="Aborted"):=by simp
 rw [q]
 rfl
theorem t11 (h0:atxD R.T 0 (.ref p) L=.ok (.str s) L):evB R.T C (.cmp .Eq (.atx (.var 0) 0) (.cstr "InvalidPage")) [some (.ref p)] L=.ok (decide (s∈(["InvalidPage"]:List Str))) L:=by
 unfold evB
 rw [zby]
 show ((evE R.T C (.atx (.var 0) 0) [some (.ref p)] L).bind _).bind _=_
 rw [zaE h0]
 have q:decide (s∈(["InvalidPage"]:List Str))=decide (s="InvalidPage"):=by simp
 rw [q]
 rfl
theorem f0 (hx:zal L (.ref p)=some (0+2,flds d1 d2 0)):Runs (exSs R.T C wf zaa [some (.ref p)] L) (zaB fun d L'=>d=.tup (due d1 d2 0)∧L'=L):=by
 have h0:atxD R.T 0 (.ref p) L=.ok (.str "InvalidName") L:=zae hx (by decide +kernel) rfl
 unfold zaa
 exact zbL (t0 h0) (by decide) (es1 (zaE (zae (m:=1) hx (by decide +kernel) rfl))) (by simp) ⟨rfl,rfl⟩
theorem f1 (hx:zal L (.ref p)=some (1+2,flds d1 d2 1)):Runs (exSs R.T C wf zaa [some (.ref p)] L) (zaB fun d L'=>d=.tup (due d1 d2 1)∧L'=L):=by
 have h0:atxD R.T 0 (.ref p) L=.ok (.str "DuplicateName") L:=zae hx (by decide +kernel) rfl
 unfold zaa
 exact zbL (t0 h0) (by decide) (es1 (zaE (zae (m:=1) hx (by decide +kernel) rfl))) (by simp) ⟨rfl,rfl⟩
theorem f2 (hx:zal L (.ref p)=some (2+2,flds d1 d2 2)):Runs (exSs R.T C wf zaa [some (.ref p)] L) (zaB fun d L'=>d=.tup (due d1 d2 2)∧L'=L):=by
 have h0:atxD R.T 0 (.ref p) L=.ok (.str "InvalidWords") L:=zae hx (by decide +kernel) rfl
 unfold zaa
 refine f_no (t0 h0) (by decide) ?_
 refine f_no (t1 h0) (by decide) ?_
 refine f_no (t2 h0) (by decide) ?_
 refine f_no (t3 h0) (by decide) ?_
 refine f_no (t4 h0) (by decide) ?_
 refine f_no (t5 h0) (by decide) ?_
 refine f_no (t6 h0) (by decide) ?_
 refine f_no (t7 h0) (by decide) ?_
 refine f_no (t8 h0) (by decide) ?_
 refine f_no (t9 h0) (by decide) ?_
 refine f_no (t10 h0) (by decide) ?_
 refine f_no (t11 h0) (by decide) ?_
 refine zab (zay ?_)
 simp only [zbm,evEs,Mi.ret,Res.bind,List.length,show zad 0=true from rfl,if_true,zag,zam]
 exact ⟨rfl,rfl⟩
theorem f3 (hx:zal L (.ref p)=some (3+2,flds d1 d2 3)):Runs (exSs R.T C wf zaa [some (.ref p)] L) (zaB fun d L'=>d=.tup (due d1 d2 3)∧L'=L):=by
 have h0:atxD R.T 0 (.ref p) L=.ok (.str "InvalidSlot") L:=zae hx (by decide +kernel) rfl
 unfold zaa
 exact zbL (t0 h0) (by decide) (es1 (zaE (zae (m:=1) hx (by decide +kernel) rfl))) (by simp) ⟨rfl,rfl⟩
theorem f4 (hx:zal L (.ref p)=some (4+2,flds d1 d2 4)):Runs (exSs R.T C wf zaa [some (.ref p)] L) (zaB fun d L'=>d=.tup (due d1 d2 4)∧L'=L):=by
 have h0:atxD R.T 0 (.ref p) L=.ok (.str "InvalidCondition") L:=zae hx (by decide +kernel) rfl
 unfold zaa
 refine f_no (t0 h0) (by decide) ?_
 refine f_no (t1 h0) (by decide) ?_
 exact zbL (t2 h0) (by decide) (es1 (zaE (zae (m:=3) hx (by decide +kernel) rfl))) (by simp) ⟨rfl,rfl⟩
theorem f5 (hx:zal L (.ref p)=some (5+2,flds d1 d2 5)):Runs (exSs R.T C wf zaa [some (.ref p)] L) (zaB fun d L'=>d=.tup (due d1 d2 5)∧L'=L):=by
 have h0:atxD R.T 0 (.ref p) L=.ok (.str "InvalidText") L:=zae hx (by decide +kernel) rfl
 unfold zaa
 refine f_no (t0 h0) (by decide) ?_
 refine f_no (t1 h0) (by decide) ?_
 refine f_no (t2 h0) (by decide) ?_
 refine f_no (t3 h0) (by decide) ?_
 exact zbL (t4 h0) (by decide) (es1 (zaE (zae (m:=4) hx (by decide +kernel) rfl))) (by simp) ⟨rfl,rfl⟩
theorem f6 (hx:zal L (.ref p)=some (6+2,flds d1 d2 6)):Runs (exSs R.T C wf zaa [some (.ref p)] L) (zaB fun d L'=>d=.tup (due d1 d2 6)∧L'=L):=by
 have h0:atxD R.T 0 (.ref p) L=.ok (.str "InvalidAction") L:=zae hx (by decide +kernel) rfl
 unfold zaa
 refine f_no (t0 h0) (by decide) ?_
 exact zbL (t1 h0) (by decide) (es2 (zaE (zae (m:=1) hx (by decide +kernel) rfl)) (zaE (zae (m:=2) hx (by decide +kernel) rfl))) (by simp) ⟨rfl,rfl⟩
theorem f7 (hx:zal L (.ref p)=some (7+2,flds d1 d2 7)):Runs (exSs R.T C wf zaa [some (.ref p)] L) (zaB fun d L'=>d=.tup (due d1 d2 7)∧L'=L):=by
 have h0:atxD R.T 0 (.ref p) L=.ok (.str "InvalidModel") L:=zae hx (by decide +kernel) rfl
 unfold zaa
 refine f_no (t0 h0) (by decide) ?_
 refine f_no (t1 h0) (by decide) ?_
 refine f_no (t2 h0) (by decide) ?_
 exact zbL (t3 h0) (by decide) (es1 (zaE (zae (m:=2) hx (by decide +kernel) rfl))) (by simp) ⟨rfl,rfl⟩
theorem f8 (hx:zal L (.ref p)=some (8+2,flds d1 d2 8)):Runs (exSs R.T C wf zaa [some (.ref p)] L) (zaB fun d L'=>d=.tup (due d1 d2 8)∧L'=L):=by
 have h0:atxD R.T 0 (.ref p) L=.ok (.str "InvalidState") L:=zae hx (by decide +kernel) rfl
 unfold zaa
 refine f_no (t0 h0) (by decide) ?_
 refine f_no (t1 h0) (by decide) ?_
 refine f_no (t2 h0) (by decide) ?_
 refine f_no (t3 h0) (by decide) ?_
 exact zbL (t4 h0) (by decide) (es1 (zaE (zae (m:=4) hx (by decide +kernel) rfl))) (by simp) ⟨rfl,rfl⟩
theorem f9 (hx:zal L (.ref p)=some (9+2,flds d1 d2 9)):Runs (exSs R.T C wf zaa [some (.ref p)] L) (zaB fun d L'=>d=.tup (due d1 d2 9)∧L'=L):=by
 have h0:atxD R.T 0 (.ref p) L=.ok (.str "InvalidSight") L:=zae hx (by decide +kernel) rfl
 unfold zaa
 refine f_no (t0 h0) (by decide) ?_
 refine f_no (t1 h0) (by decide) ?_
 refine f_no (t2 h0) (by decide) ?_
 refine f_no (t3 h0) (by decide) ?_
 refine f_no (t4 h0) (by decide) ?_
 refine f_no (t5 h0) (by decide) ?_
 refine f_no (t6 h0) (by decide) ?_
 refine f_no (t7 h0) (by decide) ?_
 refine f_no (t8 h0) (by decide) ?_
 refine f_no (t9 h0) (by decide) ?_
 refine f_no (t10 h0) (by decide) ?_
 refine f_no (t11 h0) (by decide) ?_
 refine zab (zay ?_)
 simp only [zbm,evEs,Mi.ret,Res.bind,List.length,show zad 0=true from rfl,if_true,zag,zam]
 exact ⟨rfl,rfl⟩
theorem f10 (hx:zal L (.ref p)=some (10+2,flds d1 d2 10)):Runs (exSs R.T C wf zaa [some (.ref p)] L) (zaB fun d L'=>d=.tup (due d1 d2 10)∧L'=L):=by
 have h0:atxD R.T 0 (.ref p) L=.ok (.str "InvalidStep") L:=zae hx (by decide +kernel) rfl
 unfold zaa
 refine f_no (t0 h0) (by decide) ?_
 refine f_no (t1 h0) (by decide) ?_
 refine f_no (t2 h0) (by decide) ?_
 refine f_no (t3 h0) (by decide) ?_
 exact zbL (t4 h0) (by decide) (es1 (zaE (zae (m:=4) hx (by decide +kernel) rfl))) (by simp) ⟨rfl,rfl⟩
theorem f11 (hx:zal L (.ref p)=some (11+2,flds d1 d2 11)):Runs (exSs R.T C wf zaa [some (.ref p)] L) (zaB fun d L'=>d=.tup (due d1 d2 11)∧L'=L):=by
 have h0:atxD R.T 0 (.ref p) L=.ok (.str "Blocked") L:=zae hx (by decide +kernel) rfl
 unfold zaa
 refine f_no (t0 h0) (by decide) ?_
 exact zbL (t1 h0) (by decide) (es2 (zaE (zae (m:=1) hx (by decide +kernel) rfl)) (zaE (zae (m:=2) hx (by decide +kernel) rfl))) (by simp) ⟨rfl,rfl⟩
theorem f12 (hx:zal L (.ref p)=some (12+2,flds d1 d2 12)):Runs (exSs R.T C wf zaa [some (.ref p)] L) (zaB fun d L'=>d=.tup (due d1 d2 12)∧L'=L):=by
 have h0:atxD R.T 0 (.ref p) L=.ok (.str "InvalidAnswer") L:=zae hx (by decide +kernel) rfl
 unfold zaa
 refine f_no (t0 h0) (by decide) ?_
 refine f_no (t1 h0) (by decide) ?_
 refine f_no (t2 h0) (by decide) ?_
 refine f_no (t3 h0) (by decide) ?_
 refine f_no (t4 h0) (by decide) ?_
 exact zbL (t5 h0) (by decide) (es1 (zaE (zae (m:=5) hx (by decide +kernel) rfl))) (by simp) ⟨rfl,rfl⟩
theorem f13 (hx:zal L (.ref p)=some (13+2,flds d1 d2 13)):Runs (exSs R.T C wf zaa [some (.ref p)] L) (zaB fun d L'=>d=.tup (due d1 d2 13)∧L'=L):=by
 have h0:atxD R.T 0 (.ref p) L=.ok (.str "Unseen") L:=zae hx (by decide +kernel) rfl
 unfold zaa
 exact zbL (t0 h0) (by decide) (es1 (zaE (zae (m:=1) hx (by decide +kernel) rfl))) (by simp) ⟨rfl,rfl⟩
theorem f14 (hx:zal L (.ref p)=some (14+2,flds d1 d2 14)):Runs (exSs R.T C wf zaa [some (.ref p)] L) (zaB fun d L'=>d=.tup (due d1 d2 14)∧L'=L):=by
 have h0:atxD R.T 0 (.ref p) L=.ok (.str "InvalidPrices") L:=zae hx (by decide +kernel) rfl
 unfold zaa
 refine f_no (t0 h0) (by decide) ?_
 refine f_no (t1 h0) (by decide) ?_
 refine f_no (t2 h0) (by decide) ?_
 refine f_no (t3 h0) (by decide) ?_
 refine f_no (t4 h0) (by decide) ?_
 refine f_no (t5 h0) (by decide) ?_
 refine f_no (t6 h0) (by decide) ?_
 refine f_no (t7 h0) (by decide) ?_
 refine f_no (t8 h0) (by decide) ?_
 refine f_no (t9 h0) (by decide) ?_
 refine f_no (t10 h0) (by decide) ?_
 refine f_no (t11 h0) (by decide) ?_
 refine zab (zay ?_)
 simp only [zbm,evEs,Mi.ret,Res.bind,List.length,show zad 0=true from rfl,if_true,zag,zam]
 exact ⟨rfl,rfl⟩
theorem f15 (hx:zal L (.ref p)=some (15+2,flds d1 d2 15)):Runs (exSs R.T C wf zaa [some (.ref p)] L) (zaB fun d L'=>d=.tup (due d1 d2 15)∧L'=L):=by
 have h0:atxD R.T 0 (.ref p) L=.ok (.str "InvalidNote") L:=zae hx (by decide +kernel) rfl
 unfold zaa
 exact zbL (t0 h0) (by decide) (es1 (zaE (zae (m:=1) hx (by decide +kernel) rfl))) (by simp) ⟨rfl,rfl⟩
theorem f16 (hx:zal L (.ref p)=some (16+2,flds d1 d2 16)):Runs (exSs R.T C wf zaa [some (.ref p)] L) (zaB fun d L'=>d=.tup (due d1 d2 16)∧L'=L):=by
 have h0:atxD R.T 0 (.ref p) L=.ok (.str "InvalidLimit") L:=zae hx (by decide +kernel) rfl
 unfold zaa
 refine f_no (t0 h0) (by decide) ?_
 refine f_no (t1 h0) (by decide) ?_
 refine f_no (t2 h0) (by decide) ?_
 refine f_no (t3 h0) (by decide) ?_
 refine f_no (t4 h0) (by decide) ?_
 exact zbL (t5 h0) (by decide) (es1 (zaE (zae (m:=5) hx (by decide +kernel) rfl))) (by simp) ⟨rfl,rfl⟩
theorem f17 (hx:zal L (.ref p)=some (17+2,flds d1 d2 17)):Runs (exSs R.T C wf zaa [some (.ref p)] L) (zaB fun d L'=>d=.tup (due d1 d2 17)∧L'=L):=by
 have h0:atxD R.T 0 (.ref p) L=.ok (.str "TooWide") L:=zae hx (by decide +kernel) rfl
 unfold zaa
 refine f_no (t0 h0) (by decide) ?_
 refine f_no (t1 h0) (by decide) ?_
 refine f_no (t2 h0) (by decide) ?_
 refine f_no (t3 h0) (by decide) ?_
 refine f_no (t4 h0) (by decide) ?_
 refine f_no (t5 h0) (by decide) ?_
 refine f_no (t6 h0) (by decide) ?_
 refine f_no (t7 h0) (by decide) ?_
 exact zbL (t8 h0) (by decide) (es1 (zaE (zae (m:=8) hx (by decide +kernel) rfl))) (by simp) ⟨rfl,rfl⟩
theorem f18 (hx:zal L (.ref p)=some (18+2,flds d1 d2 18)):Runs (exSs R.T C wf zaa [some (.ref p)] L) (zaB fun d L'=>d=.tup (due d1 d2 18)∧L'=L):=by
 have h0:atxD R.T 0 (.ref p) L=.ok (.str "NotReached") L:=zae hx (by decide +kernel) rfl
 unfold zaa
 refine f_no (t0 h0) (by decide) ?_
 refine f_no (t1 h0) (by decide) ?_
 refine f_no (t2 h0) (by decide) ?_
 refine f_no (t3 h0) (by decide) ?_
 refine f_no (t4 h0) (by decide) ?_
 refine f_no (t5 h0) (by decide) ?_
 refine f_no (t6 h0) (by decide) ?_
 refine f_no (t7 h0) (by decide) ?_
 refine f_no (t8 h0) (by decide) ?_
 refine f_no (t9 h0) (by decide) ?_
 refine f_no (t10 h0) (by decide) ?_
 refine f_no (t11 h0) (by decide) ?_
 refine zab (zay ?_)
 simp only [zbm,evEs,Mi.ret,Res.bind,List.length,show zad 0=true from rfl,if_true,zag,zam]
 exact ⟨rfl,rfl⟩
theorem f19 (hx:zal L (.ref p)=some (19+2,flds d1 d2 19)):Runs (exSs R.T C wf zaa [some (.ref p)] L) (zaB fun d L'=>d=.tup (due d1 d2 19)∧L'=L):=by
 have h0:atxD R.T 0 (.ref p) L=.ok (.str "NotOpen") L:=zae hx (by decide +kernel) rfl
 unfold zaa
 refine f_no (t0 h0) (by decide) ?_
 refine f_no (t1 h0) (by decide) ?_
 refine f_no (t2 h0) (by decide) ?_
 refine f_no (t3 h0) (by decide) ?_
 refine f_no (t4 h0) (by decide) ?_
 refine f_no (t5 h0) (by decide) ?_
 refine f_no (t6 h0) (by decide) ?_
 refine f_no (t7 h0) (by decide) ?_
 refine f_no (t8 h0) (by decide) ?_
 refine f_no (t9 h0) (by decide) ?_
 refine f_no (t10 h0) (by decide) ?_
 refine f_no (t11 h0) (by decide) ?_
 refine zab (zay ?_)
 simp only [zbm,evEs,Mi.ret,Res.bind,List.length,show zad 0=true from rfl,if_true,zag,zam]
 exact ⟨rfl,rfl⟩
theorem f20 (hx:zal L (.ref p)=some (20+2,flds d1 d2 20)):Runs (exSs R.T C wf zaa [some (.ref p)] L) (zaB fun d L'=>d=.tup (due d1 d2 20)∧L'=L):=by
 have h0:atxD R.T 0 (.ref p) L=.ok (.str "NotAlike") L:=zae hx (by decide +kernel) rfl
 unfold zaa
 refine f_no (t0 h0) (by decide) ?_
 refine f_no (t1 h0) (by decide) ?_
 refine f_no (t2 h0) (by decide) ?_
 refine f_no (t3 h0) (by decide) ?_
 refine f_no (t4 h0) (by decide) ?_
 refine f_no (t5 h0) (by decide) ?_
 refine f_no (t6 h0) (by decide) ?_
 refine f_no (t7 h0) (by decide) ?_
 refine f_no (t8 h0) (by decide) ?_
 refine f_no (t9 h0) (by decide) ?_
 refine f_no (t10 h0) (by decide) ?_
 refine f_no (t11 h0) (by decide) ?_
 refine zab (zay ?_)
 simp only [zbm,evEs,Mi.ret,Res.bind,List.length,show zad 0=true from rfl,if_true,zag,zam]
 exact ⟨rfl,rfl⟩
theorem f21 (hx:zal L (.ref p)=some (21+2,flds d1 d2 21)):Runs (exSs R.T C wf zaa [some (.ref p)] L) (zaB fun d L'=>d=.tup (due d1 d2 21)∧L'=L):=by
 have h0:atxD R.T 0 (.ref p) L=.ok (.str "InvalidCommand") L:=zae hx (by decide +kernel) rfl
 unfold zaa
 refine f_no (t0 h0) (by decide) ?_
 refine f_no (t1 h0) (by decide) ?_
 refine f_no (t2 h0) (by decide) ?_
 refine f_no (t3 h0) (by decide) ?_
 refine f_no (t4 h0) (by decide) ?_
 refine f_no (t5 h0) (by decide) ?_
 refine f_no (t6 h0) (by decide) ?_
 refine f_no (t7 h0) (by decide) ?_
 refine f_no (t8 h0) (by decide) ?_
 refine f_no (t9 h0) (by decide) ?_
 refine f_no (t10 h0) (by decide) ?_
 refine f_no (t11 h0) (by decide) ?_
 refine zab (zay ?_)
 simp only [zbm,evEs,Mi.ret,Res.bind,List.length,show zad 0=true from rfl,if_true,zag,zam]
 exact ⟨rfl,rfl⟩
theorem f22 (hx:zal L (.ref p)=some (22+2,flds d1 d2 22)):Runs (exSs R.T C wf zaa [some (.ref p)] L) (zaB fun d L'=>d=.tup (due d1 d2 22)∧L'=L):=by
 have h0:atxD R.T 0 (.ref p) L=.ok (.str "WrongKind") L:=zae hx (by decide +kernel) rfl
 unfold zaa
 exact zbL (t0 h0) (by decide) (es1 (zaE (zae (m:=1) hx (by decide +kernel) rfl))) (by simp) ⟨rfl,rfl⟩
theorem f23 (hx:zal L (.ref p)=some (23+2,flds d1 d2 23)):Runs (exSs R.T C wf zaa [some (.ref p)] L) (zaB fun d L'=>d=.tup (due d1 d2 23)∧L'=L):=by
 have h0:atxD R.T 0 (.ref p) L=.ok (.str "InUse") L:=zae hx (by decide +kernel) rfl
 unfold zaa
 refine f_no (t0 h0) (by decide) ?_
 refine f_no (t1 h0) (by decide) ?_
 refine f_no (t2 h0) (by decide) ?_
 refine f_no (t3 h0) (by decide) ?_
 refine f_no (t4 h0) (by decide) ?_
 refine f_no (t5 h0) (by decide) ?_
 exact zbL (t6 h0) (by decide) (es1 (zaE (zae (m:=6) hx (by decide +kernel) rfl))) (by simp) ⟨rfl,rfl⟩
theorem f24 (hx:zal L (.ref p)=some (24+2,flds d1 d2 24)):Runs (exSs R.T C wf zaa [some (.ref p)] L) (zaB fun d L'=>d=.tup (due d1 d2 24)∧L'=L):=by
 have h0:atxD R.T 0 (.ref p) L=.ok (.str "Breaks") L:=zae hx (by decide +kernel) rfl
 unfold zaa
 refine f_no (t0 h0) (by decide) ?_
 refine f_no (t1 h0) (by decide) ?_
 refine f_no (t2 h0) (by decide) ?_
 refine f_no (t3 h0) (by decide) ?_
 refine f_no (t4 h0) (by decide) ?_
 refine f_no (t5 h0) (by decide) ?_
 refine f_no (t6 h0) (by decide) ?_
 exact zbL (t7 h0) (by decide) (es2 (zaE (zae (m:=6) hx (by decide +kernel) rfl)) (zaE (zae (m:=7) hx (by decide +kernel) rfl))) (by simp) ⟨rfl,rfl⟩
theorem f25 (hx:zal L (.ref p)=some (25+2,flds d1 d2 25)):Runs (exSs R.T C wf zaa [some (.ref p)] L) (zaB fun d L'=>d=.tup (due d1 d2 25)∧L'=L):=by
 have h0:atxD R.T 0 (.ref p) L=.ok (.str "Aborted") L:=zae hx (by decide +kernel) rfl
 unfold zaa
 refine f_no (t0 h0) (by decide) ?_
 refine f_no (t1 h0) (by decide) ?_
 refine f_no (t2 h0) (by decide) ?_
 refine f_no (t3 h0) (by decide) ?_
 refine f_no (t4 h0) (by decide) ?_
 refine f_no (t5 h0) (by decide) ?_
 refine f_no (t6 h0) (by decide) ?_
 refine f_no (t7 h0) (by decide) ?_
 refine f_no (t8 h0) (by decide) ?_
 refine f_no (t9 h0) (by decide) ?_
 exact zbL (t10 h0) (by decide) (es2 (zaE (zae (m:=4) hx (by decide +kernel) rfl)) (zaE (zae (m:=7) hx (by decide +kernel) rfl))) (by simp) ⟨rfl,rfl⟩
theorem f26 (hx:zal L (.ref p)=some (26+2,flds d1 d2 26)):Runs (exSs R.T C wf zaa [some (.ref p)] L) (zaB fun d L'=>d=.tup (due d1 d2 26)∧L'=L):=by
 have h0:atxD R.T 0 (.ref p) L=.ok (.str "Full") L:=zae hx (by decide +kernel) rfl
 unfold zaa
 refine f_no (t0 h0) (by decide) ?_
 refine f_no (t1 h0) (by decide) ?_
 refine f_no (t2 h0) (by decide) ?_
 refine f_no (t3 h0) (by decide) ?_
 refine f_no (t4 h0) (by decide) ?_
 refine f_no (t5 h0) (by decide) ?_
 refine f_no (t6 h0) (by decide) ?_
 refine f_no (t7 h0) (by decide) ?_
 refine f_no (t8 h0) (by decide) ?_
 exact zbL (t9 h0) (by decide) (es1 (zaE (zae (m:=9) hx (by decide +kernel) rfl))) (by simp) ⟨rfl,rfl⟩
theorem f27 (hx:zal L (.ref p)=some (27+2,flds d1 d2 27)):Runs (exSs R.T C wf zaa [some (.ref p)] L) (zaB fun d L'=>d=.tup (due d1 d2 27)∧L'=L):=by
 have h0:atxD R.T 0 (.ref p) L=.ok (.str "InvalidPage") L:=zae hx (by decide +kernel) rfl
 unfold zaa
 refine f_no (t0 h0) (by decide) ?_
 refine f_no (t1 h0) (by decide) ?_
 refine f_no (t2 h0) (by decide) ?_
 refine f_no (t3 h0) (by decide) ?_
 refine f_no (t4 h0) (by decide) ?_
 refine f_no (t5 h0) (by decide) ?_
 refine f_no (t6 h0) (by decide) ?_
 refine f_no (t7 h0) (by decide) ?_
 refine f_no (t8 h0) (by decide) ?_
 refine f_no (t9 h0) (by decide) ?_
 refine f_no (t10 h0) (by decide) ?_
 exact zbL (t11 h0) (by decide) (es1 (zaE (zae (m:=10) hx (by decide +kernel) rfl))) (by simp) ⟨rfl,rfl⟩
theorem f28 (hx:zal L (.ref p)=some (28+2,flds d1 d2 28)):Runs (exSs R.T C wf zaa [some (.ref p)] L) (zaB fun d L'=>d=.tup (due d1 d2 28)∧L'=L):=by
 have h0:atxD R.T 0 (.ref p) L=.ok (.str "UnknownName") L:=zae hx (by decide +kernel) rfl
 unfold zaa
 exact zbL (t0 h0) (by decide) (es1 (zaE (zae (m:=1) hx (by decide +kernel) rfl))) (by simp) ⟨rfl,rfl⟩
theorem f29 (hx:zal L (.ref p)=some (29+2,flds d1 d2 29)):Runs (exSs R.T C wf zaa [some (.ref p)] L) (zaB fun d L'=>d=.tup (due d1 d2 29)∧L'=L):=by
 have h0:atxD R.T 0 (.ref p) L=.ok (.str "NothingLeft") L:=zae hx (by decide +kernel) rfl
 unfold zaa
 refine f_no (t0 h0) (by decide) ?_
 refine f_no (t1 h0) (by decide) ?_
 refine f_no (t2 h0) (by decide) ?_
 refine f_no (t3 h0) (by decide) ?_
 refine f_no (t4 h0) (by decide) ?_
 refine f_no (t5 h0) (by decide) ?_
 refine f_no (t6 h0) (by decide) ?_
 refine f_no (t7 h0) (by decide) ?_
 refine f_no (t8 h0) (by decide) ?_
 refine f_no (t9 h0) (by decide) ?_
 refine f_no (t10 h0) (by decide) ?_
 refine f_no (t11 h0) (by decide) ?_
 refine zab (zay ?_)
 simp only [zbm,evEs,Mi.ret,Res.bind,List.length,show zad 0=true from rfl,if_true,zag,zam]
 exact ⟨rfl,rfl⟩
theorem zjz (hk:k < 30) (hx:zal L (.ref p)=some (k+2,flds d1 d2 k)):Runs (zak R.T wf (n+1) zht [.ref p] L) fun d L'=>d=.tup (due d1 d2 k)∧L'=L:=by
 refine zcF (fd:=zcn) rfl rfl ?_
 show Runs (exSs R.T (zak R.T wf n) wf zaa [some (.ref p)] L) _
 match k,hk,hx with
 | 0,_,hx=>exact f0 hx
 | 1,_,hx=>exact f1 hx
 | 2,_,hx=>exact f2 hx
 | 3,_,hx=>exact f3 hx
 | 4,_,hx=>exact f4 hx
 | 5,_,hx=>exact f5 hx
 | 6,_,hx=>exact f6 hx
 | 7,_,hx=>exact f7 hx
 | 8,_,hx=>exact f8 hx
 | 9,_,hx=>exact f9 hx
 | 10,_,hx=>exact f10 hx
 | 11,_,hx=>exact f11 hx
 | 12,_,hx=>exact f12 hx
 | 13,_,hx=>exact f13 hx
 | 14,_,hx=>exact f14 hx
 | 15,_,hx=>exact f15 hx
 | 16,_,hx=>exact f16 hx
 | 17,_,hx=>exact f17 hx
 | 18,_,hx=>exact f18 hx
 | 19,_,hx=>exact f19 hx
 | 20,_,hx=>exact f20 hx
 | 21,_,hx=>exact f21 hx
 | 22,_,hx=>exact f22 hx
 | 23,_,hx=>exact f23 hx
 | 24,_,hx=>exact f24 hx
 | 25,_,hx=>exact f25 hx
 | 26,_,hx=>exact f26 hx
 | 27,_,hx=>exact f27 hx
 | 28,_,hx=>exact f28 hx
 | 29,_,hx=>exact f29 hx
 | k+30,hk,_=>exact absurd hk (by omega)
end
section
variable {n:Nat} {L L' L2 M:MH} {b c k cc:Nat} {C:Nat→List D→Mi.M D} {a p:Nat} {d d1 d2:D} {ρ:Mi.Loc} {s:Str}
theorem zjk:Runs (zak R.T wf (n+1) zeG [] L) fun d L'=>Grow L L'∧∃a,d=.ref a∧L'[a]?=some (.lst (cds.map .str)):=by
 have e:zak R.T wf (n+1) zeG [] L=.ok (.ref L.length) (L++[.lst (cds.map .str)]):=by kernel_rfl
 exact ⟨_,_,e,Grow.one,_,rfl,zai⟩
def Dr (d:D):Prop:=d=.str "a"∨d=.str ""∨d=.tup [.int 1,.int 2]∨d=.non∨Far d
theorem zia {xs:List D} {m:Nat} (hz:xs.length < 1000) (h:∀x∈xs,like M m x x):like M (m+1) (.tup xs) (.tup xs):=by
 refine ⟨rfl,by omega,fun i x y e1 e2=>?_⟩
 rw [e1] at e2
 cases e2
 exact h x (List.mem_of_getElem? e1)
theorem zhH {m:Nat} (h:Dr d):like M (m+2) d d:=by
 rcases h with rfl | rfl | rfl | rfl | ⟨z,rfl,_,_⟩
 ·exact rfl
 ·exact rfl
 ·refine zia (by simp) fun x hx=>?_
  simp only [List.mem_cons,List.not_mem_nil,or_false] at hx
  rcases hx with rfl | rfl<;>exact rfl
 ·exact trivial
 ·exact rfl
theorem zk3 {m:Nat} (h1:Dr d1) (h2:Dr d2):like M (m+3) (.tup (due d1 d2 k)) (.tup (due d1 d2 k)):=by
 refine zia ?_ fun x hx=>?_
 ·unfold due
  split
  ·simp
  ·split<;>simp
 ·unfold due at hx
  split at hx
  ·cases hx
  ·split at hx
   ·simp only [List.mem_cons,List.not_mem_nil,or_false] at hx
    rcases hx with rfl | rfl
    ·exact zhH h1
    ·exact zhH h2
   ·rw [List.mem_singleton.mp hx]
    exact zhH h1
theorem zio {x y:Nat} {bs:List D} {m:Nat} (hx:M[x]?=some (.lst bs)) (hy:M[y]?=some (.lst bs)) (hz:bs.length < 1000) (h:∀z∈bs,∃q,z=.bl q):like M (m+2) (.ref x) (.ref y):=by
 refine ⟨bs,bs,hx,hy,rfl,by omega,fun i u v e1 e2=>?_⟩
 rw [e1] at e2
 cases e2
 obtain ⟨q,rfl⟩:=h _ (List.mem_of_getElem? e1)
 exact rfl
theorem zkG {x y f g f' g':Nat} {s:Str} {v:D} {bs cs:List D} (hx:M[x]?=some (.lst [.str s,v,.ref f,.ref g])) (hy:M[y]?=some (.lst [.str s,v,.ref f',.ref g'])) (hv:like M 3 v v) (hf:M[f]?=some (.lst bs)) (hf':M[f']?=some (.lst bs)) (hg:M[g]?=some (.lst cs)) (hg':M[g']?=some (.lst cs))
  (z1:bs.length < 1000) (z2:cs.length < 1000) (h1:∀z∈bs,∃q,z=.bl q) (h2:∀z∈cs,∃q,z=.bl q):like M 4 (.ref x) (.ref y):=by
 refine ⟨_,_,hx,hy,rfl,by simp,fun i u v' e1 e2=>?_⟩
 match i,e1,e2 with
 | 0,e1,e2=>cases e1; cases e2; exact rfl
 | 1,e1,e2=>cases e1; cases e2; exact hv
 | 2,e1,e2=>cases e1; cases e2; exact zio hf hf' z1 h1
 | 3,e1,e2=>cases e1; cases e2; exact zio hg hg' z2 h2
 | i+4,e1,e2=>simp at e1
end
local macro_rules | `(tactic| simp_arith [$ts,*]) => `(tactic| try simp -implicitDefEqProofs only [zf8,zea,zez,zd2,zdm,zdW,zdU,zfV,zer,zd9,zfp,zf0,zby,zfO,zeb,zcS,zfX,ziR,zf3,zfR,zbm,zfB,zje,ziS,zdX,zdE,zdR,zen,ziQ,zju,zdS,zd4,evEs,evB,evT,evO,evI,puT,puTs,List.map,List.replicate,List.length,Nat.sub_self,List.append,List.cons_append,List.nil_append,List.getElem?_cons_zero,List.getElem?_cons_succ,must,Option.bind_some,Mi.ret,ziO,zjc,zi5,zi6,ziH,zi8,zjx,zjw,ziM,List.set_cons_succ,List.set_cons_zero,zam,zag,zaz,Then,zcP,zcV,Option.map_some,List.length_map,zbi,if_true,if_false,eq_self,Bool.false_eq_true,reduceIte,zg5,Bool.and_self,sz0,sz1,sz2,sz3,sz4,sz5,sz6,sz7,sz8,sz9,sz10,sz11,sz12,Int.reduceLE,Int.reduceLT,Int.reduceToNat,Int.reduceNe,Int.reduceEq,Int.reduceNeg,decide_true,decide_false,Bool.true_and,Bool.and_true,Bool.or_true,Bool.true_or,Bool.not_true,Bool.not_false,ne_eq,not_false_eq_true,Nat.reducePow,Int.reducePow,na10,zeR,ziG,zi4,zjp,zjI,zjD,ziN,zfL,zf6,zfc,zjG,zfZ,ziE,zjj,c_eq,c_ne,c_in,zjd,c_lt,c_le,c_gt,c_ge,e_ii,e_ss,e_bb,t_bl,zjo,zjL,zjH,ziZ,ziC,ziX,zji,ziF,zjn,zjK,zjt,zjy,zjA,zja,ziW,zdH,zd7,zef,zhU,zeR,zdP,zeu,zeq,zdT,zai,zdI,zdD,zd1,zeg,zdG,zdK,zdY,zi9,zdJ,zd3,zdO,zei,zfK,zge,zf7,zjE,zfS,zfG,zbw,zbs,zb4,zbu,zbt,zbx,Option.some.injEq,reduceCtorEq,zdF,zel,zdV,zdN,zfY,zej,zes,zf5,zgi,zfQ,zf9,zgd,zcU,zdM,zga,zgb,zet,zee,zd8,zeh,zdL,zfW,ziJ,ziK,zjF,ziI,zjg,zjq,zi0,ziD,zjr,zjb,pk1,pk2,pk3,pk4,pk5,pk6,pk7,pk8,pk9,$ts,*])
local macro_rules | `(tactic| simp_arith! [$ts,*]) => `(tactic| simp_arith [zaW,za1,zbh,zbH,zaZ,zbk,zbG,zaU,zaX,zaR,zaJ,zhg,$ts,*])
@[reducible] def St1:Sm:=(.par [3,4] (.cons (.call 3 (.cons (.var 1) (.cons (.lst (.cons (.cstr "a") (.cons (.cstr "") (.cons (.tup (.cons (.cint 1) (.cons (.cint 2) .nil))) (.cons .cnon (.cons (.call 6 (.cons (.var 1) .nil) [] .nil) .nil)))))) .nil)) [] .nil) (.cons (.call 6 (.cons (.var 1) .nil) [] .nil) .nil)))
@[reducible] def St2:Sm:=(.par [5,6] (.cons (.call 10 (.cons (.var 3) (.cons (.var 4) .nil)) [] .nil) (.cons (.call 9 .nil [] .nil) .nil)))
@[reducible] def Bd1:Sm:=(.asg (.var 8) (.ix (.var 5) (.var 7)))
@[reducible] def Bd2:Sm:=(.asg (.var 9) (.ife (.cmp .In (.ix (.var 6) (.var 7)) (.tup (.cons (.cstr "InvalidAction") (.cons (.cstr "Blocked") (.cons (.cstr "Breaks") (.cons (.cstr "Aborted") .nil)))))) (.tup (.cons (.var 3) (.cons (.var 4) .nil))) (.tup (.cons (.var 3) .nil))))
@[reducible] def Bd3:Sm:=(.asg (.var 9) (.ife (.cmp .In (.ix (.var 6) (.var 7)) (.tup (.cons (.cstr "InvalidWords") (.cons (.cstr "InvalidSight") (.cons (.cstr "InvalidPrices") (.cons (.cstr "NotReached") (.cons (.cstr "NotOpen") (.cons (.cstr "NotAlike") (.cons (.cstr "InvalidCommand") (.cons (.cstr "NothingLeft") .nil)))))))))) (.tup .nil) (.var 9)))
@[reducible] def Bd4:Sm:=(.asg (.var 10) (.lst (.cons (.cmp .Lt (.var 7) (.cint 28)) (.cons (.cmp .Lt (.var 7) (.cint 28)) (.cons (.cmp .Eq (.var 7) (.cint 28)) (.cons (.cmp .Gt (.var 7) (.cint 27)) (.cons (.cmp .Eq (.var 7) (.cint 29)) (.cons (.cbl false) .nil))))))))
@[reducible] def Bd5:Sm:=(.ife (.not (.call 5 (.cons (.lst (.cons (.atx (.var 8) 0) (.cons (.call 0 (.cons (.var 8) .nil) [] .nil) (.cons (.call 7 (.cons (.var 8) .nil) [] .nil) (.cons (.call 8 (.cons (.var 8) .nil) [] .nil) .nil))))) (.cons (.lst (.cons (.ix (.var 6) (.var 7)) (.cons (.var 9) (.cons (.lc (.cmp .Eq (.var 11) (.var 7)) (.var 11) (.rng1 (.cint 30)) .none [11]) (.cons (.var 10) .nil))))) .nil)) [] .nil)) (.cons (.ret (.cbl false)) .nil) .nil)
def Bd:Sms:=(.cons Bd1 (.cons Bd2 (.cons Bd3 (.cons Bd4 (.cons Bd5 .nil)))))
@[reducible] def St3:Sm:=(.fr (.var 7) (.seq (.call 4 (.cons (.var 1) (.cons (.lrng (.cint 30)) .nil)) [] .nil)) Bd)
@[reducible] def Tl1:Sm:=(.ret (.call 5 (.cons (.lst (.cons (.atx (.mkx 0 (.cons (.cstr "some") .nil) [] [] .nil) 0) (.cons (.atx (.mkx 1 (.cons (.cstr "other") .nil) [] [] .nil) 0) .nil))) (.cons (.lst (.cons (.cstr "some") (.cons (.cstr "other") .nil))) .nil)) [] .nil))
def zn2:Sms:=(.cons St1 (.cons St2 (.cons St3 .nil)))
def znR:Sms:=(.cons Tl1 .nil)
section
variable {n:Nat} {L L' L2 M:MH} {b c k cc:Nat} {C:Nat→List D→Mi.M D} {a p a5 a6:Nat} {d d1 d2:D} {ρ:Mi.Loc} {s:Str}
def cd (k:Nat):Str:=cds.getD k Str.empty
theorem zpB (hk:k < 30):cds[k]?=some (cd k):=by
 have h:k < cds.length:=hk
 unfold cd
 simp [List.getD,h]
theorem zlj:∀k,k < 30→(flds d1 d2 k).lookup 0=some (.str (cd k))
 | 0,_=>by kernel_rfl
 | 1,_=>by kernel_rfl
 | 2,_=>by kernel_rfl
 | 3,_=>by kernel_rfl
 | 4,_=>by kernel_rfl
 | 5,_=>by kernel_rfl
 | 6,_=>by kernel_rfl
 | 7,_=>by kernel_rfl
 | 8,_=>by kernel_rfl
 | 9,_=>by kernel_rfl
 | 10,_=>by kernel_rfl
 | 11,_=>by kernel_rfl
 | 12,_=>by kernel_rfl
 | 13,_=>by kernel_rfl
 | 14,_=>by kernel_rfl
 | 15,_=>by kernel_rfl
 | 16,_=>by kernel_rfl
 | 17,_=>by kernel_rfl
 | 18,_=>by kernel_rfl
 | 19,_=>by kernel_rfl
 | 20,_=>by kernel_rfl
 | 21,_=>by kernel_rfl
 | 22,_=>by kernel_rfl
 | 23,_=>by kernel_rfl
 | 24,_=>by kernel_rfl
 | 25,_=>by kernel_rfl
 | 26,_=>by kernel_rfl
 | 27,_=>by kernel_rfl
 | 28,_=>by kernel_rfl
 | 29,_=>by kernel_rfl
 | k+30,hk=>absurd hk (by omega)
theorem xat0:∀k,k < 30→R.T.xat (k+2) 0=true:=by decide +kernel
theorem in4:∀k,k < 30→decide (cd k∈(["InvalidAction", "Blocked", "Breaks", "Aborted"]:List Str))=decide (k∈[6,11,24,25]):=by decide +kernel
theorem in8:∀k,k < 30→decide (cd k∈(["InvalidWords", "InvalidSight", "InvalidPrices", "NotReached", "NotOpen", "NotAlike", "InvalidCommand", "NothingLeft"]:List Str))=decide (k∈[2,9,14,18,19,20,21,29]):=by decide +kernel
theorem in4L (hk:k < 30):inD L (.str (cd k)) (.tup [.str "InvalidAction",.str "Blocked",.str "Breaks",.str "Aborted"])=some (decide (k∈[6,11,24,25])):=by
 rw [← in4 k hk]
 exact zgF (ts:=["InvalidAction", "Blocked", "Breaks", "Aborted"])
theorem in8L (hk:k < 30):inD L (.str (cd k)) (.tup [.str "InvalidWords",.str "InvalidSight",.str "InvalidPrices",.str "NotReached",.str "NotOpen",.str "NotAlike",.str "InvalidCommand",.str "NothingLeft"])=some (decide (k∈[2,9,14,18,19,20,21,29])):=by
 rw [← in8 k hk]
 exact zgF (ts:=["InvalidWords", "InvalidSight", "InvalidPrices", "NotReached", "NotOpen", "NotAlike", "InvalidCommand", "NothingLeft"])
theorem zki (hk:k < 30):atI (cds.map D.str) (k:Int)=some (.str (cd k)):=by
 rw [zgD _ _ (by rw [List.length_map]; exact hk),List.getElem?_map,zpB hk]
 rfl
structure Wd (L:MH) (a5 a6:Nat) (d1 d2:D):Prop where
 es:∃ds,L[a5]?=some (.lst ds)∧Errs L ds (qs d1 d2)
 cs:L[a6]?=some (.lst (cds.map .str))
 o1:Dr d1
 o2:Dr d2
theorem Wd.grow (h:Wd L a5 a6 d1 d2) (g:Grow L L'):Wd L' a5 a6 d1 d2:=⟨by
  obtain ⟨ds,h1,h2⟩:=h.es
  exact ⟨ds,g.get h1,h2.grow g⟩,g.get h.cs,h.o1,h.o2⟩
theorem st1 {o0 o1 o2 o8 o9 o10 o11:Option D} {r:Sms} {Q:Fl→MH→Prop} (w:Wd L a5 a6 d1 d2) (hk:k < 30) (K:∀p,zal L (.ref p)=some (k+2,flds d1 d2 k)→Runs (exSs R.T C wf r [o0,o1,o2,some d1,some d2,some (.ref a5),some (.ref a6),some (.int (k:Nat)),some (.ref p),o9,o10,o11] L) Q):Runs (exSs R.T C wf (.cons Bd1 r) [o0,o1,o2,some d1,some d2,some (.ref a5),some (.ref a6),some (.int (k:Nat)),o8,o9,o10,o11] L) Q:=by
 obtain ⟨ds,h1,h2⟩:=w.es
 have q:(qs d1 d2)[k]?=some (k+2,flds d1 d2 k):=by
  unfold qs
  rw [List.getElem?_map,List.getElem?_range hk]
  rfl
 obtain ⟨p,e1,e2⟩:=h2.2 k _ q
 have hl:k < ds.length:=(List.getElem?_eq_some_iff.mp e1).1
 have e3:atI ds (k:Int)=some (.ref p):=by rw [zgD _ _ hl,e1]
 refine zab (zau ?_)
 simp_arith [h1,e3]
 exact K p e2
theorem st2 {o0 o1 o2 o5 o8 o9 o10 o11:Option D} {r:Sms} {Q:Fl→MH→Prop} (h6:L[a6]?=some (.lst (cds.map .str))) (hk:k < 30) (K:Runs (exSs R.T C wf r [o0,o1,o2,some d1,some d2,o5,some (.ref a6),some (.int (k:Nat)),o8,some (.tup (due d1 d2 k)),o10,o11] L) Q):Runs (exSs R.T C wf (.cons Bd2 (.cons Bd3 r)) [o0,o1,o2,some d1,some d2,o5,some (.ref a6),some (.int (k:Nat)),o8,o9,o10,o11] L) Q:=by
 have z:=zki hk
 have i4:=in4L (L:=L) hk
 have i8:=in8L (L:=L) hk
 refine zab (zau ?_)
 simp_arith [h6,z,i4]
 by_cases hB:k∈[6,11,24,25]
 ·simp only [decide_eq_true hB]
  simp_arith [eq_self]
  refine zab (zau ?_)
  simp_arith [h6,z,i8]
  by_cases hA:k∈[2,9,14,18,19,20,21,29]
  ·simp only [decide_eq_true hA]
   simp_arith [eq_self]
   have e:due d1 d2 k=[]:=by unfold due; rw [if_pos hA]
   rw [e] at K
   exact K
  ·simp only [decide_eq_false hA]
   simp_arith [eq_self]
   have e:due d1 d2 k=[d1,d2]:=by unfold due; rw [if_neg hA,if_pos hB]
   rw [e] at K
   exact K
 ·simp only [decide_eq_false hB]
  simp_arith [eq_self]
  refine zab (zau ?_)
  simp_arith [h6,z,i8]
  by_cases hA:k∈[2,9,14,18,19,20,21,29]
  ·simp only [decide_eq_true hA]
   simp_arith [eq_self]
   have e:due d1 d2 k=[]:=by unfold due; rw [if_pos hA]
   rw [e] at K
   exact K
  ·simp only [decide_eq_false hA]
   simp_arith [eq_self]
   have e:due d1 d2 k=[d1]:=by unfold due; rw [if_neg hA,if_neg hB]
   rw [e] at K
   exact K
def bsL (k:Nat):List D:=[.bl (decide (k < 28)),.bl (decide (k < 28)),.bl (decide (k=28)),.bl (decide (27 < k)),.bl (decide (k=29)),.bl false]
theorem st4 {o0 o1 o2 o3 o4 o5 o6 o8 o9 o10 o11:Option D} {r:Sms} {Q:Fl→MH→Prop} (K:∀t L',Grow L L'→L'[t]?=some (.lst (bsL k))→Runs (exSs R.T C wf r [o0,o1,o2,o3,o4,o5,o6,some (.int (k:Nat)),o8,o9,some (.ref t),o11] L') Q):Runs (exSs R.T C wf (.cons Bd4 r) [o0,o1,o2,o3,o4,o5,o6,some (.int (k:Nat)),o8,o9,o10,o11] L) Q:=by
 have e1:decide ((k:Int) < 28)=decide (k < 28):=decide_eq_decide.mpr (by omega)
 have e2:decide ((k:Int)=28)=decide (k=28):=decide_eq_decide.mpr (by omega)
 have e3:decide ((27:Int) < k)=decide (27 < k):=decide_eq_decide.mpr (by omega)
 have e4:decide ((k:Int)=29)=decide (k=29):=decide_eq_decide.mpr (by omega)
 refine zab (zau ?_)
 simp_arith [e1,e2,e3,e4]
 exact K _ _ Grow.one zai
def flL (k:Nat):List D:=(List.range 30).map fun j=>.bl (decide (j=k))
def eqk (k:Nat):D→D
 | .int z=>.bl (decide (z=(k:Nat)))
 | _=>.non
theorem zkI:(rngL 0 30).map (eqk k)=flL k:=by
 unfold rngL flL
 rw [List.map_map]
 refine List.map_congr_left fun j _=>?_
 show D.bl (decide ((0:Int)+(j:Nat)=(k:Nat)))=.bl (decide (j=k))
 rw [decide_eq_decide.mpr (show (0:Int)+(j:Nat)=(k:Nat)↔j=k by omega)]
theorem st5 {o0 o1 o2 o3 o4 o5 o11:Option D} {t:Nat} {Q:Fl→MH→Prop} (hk:k < 30) (o1':Dr d1) (o2':Dr d2) (h6:L[a6]?=some (.lst (cds.map .str))) (hx:zal L (.ref p)=some (k+2,flds d1 d2 k)) (ht:L[t]?=some (.lst (bsL k)))
  (K:∀L',Grow L L'→Q (.nx [o0,o1,o2,o3,o4,o5,some (.ref a6),some (.int (k:Nat)),some (.ref p),some (.tup (due d1 d2 k)),some (.ref t),o11]) L'):Runs (exSs R.T (zak R.T wf 39) wf (.cons Bd5 .nil) [o0,o1,o2,o3,o4,o5,some (.ref a6),some (.int (k:Nat)),some (.ref p),some (.tup (due d1 d2 k)),some (.ref t),o11] L) Q:=by
 have h0:atxD R.T 0 (.ref p) L=.ok (.str (cd k)) L:=zae hx (xat0 k hk) (zlj k hk)
 refine zab (zfk ?_)
 simp_arith! [zjS,h0]
 refine (zjz (n:=38) hk hx).imp fun d L1 ⟨q1,q2⟩=>?_
 subst q1 q2
 simp_arith! [eq_self]
 refine (zjv (n:=38) hx hk).imp fun d L2 ⟨g2,f,q3,hf⟩=>?_
 subst q3
 simp_arith! [eq_self]
 refine (ziT (n:=38) (zaC g2 hx) hk).imp fun d L3 ⟨g3,g,q4,hg⟩=>?_
 subst q4
 have z:=zki hk
 have h6':(L3++[O.lst [D.str (cd k),D.tup (due d1 d2 k),D.ref f,D.ref g]])[a6]?=some (.lst (cds.map .str)):=((g2.trans g3).trans Grow.one).get h6
 simp_arith [h6',z]
 refine zn4 ?_
 simp_arith [zie (show (0:Int)≤30 by decide) (by decide),zaA]
 refine (zqw (xs:=rngL 0 30) (eqk k) (fun _ _=>rfl) (by rw [zgO]; decide) (fun u i=>zmi _ _ _ _) (by rw [zgO]; rfl) fun x hx u=>?_).imp fun _ L4 ⟨u4,q5⟩=>?_
 ·obtain ⟨j,hj,rfl⟩:=List.mem_map.mp hx
  refine Runs.ok ?_
  simp_arith [eq_self]
  exact ⟨rfl,[],(List.append_nil _).symm⟩
 subst q5
 simp_arith! [eq_self]
 have g1:Grow L3 (L3++[O.lst [D.str (cd k),D.tup (due d1 d2 k),D.ref f,D.ref g]]):=Grow.one
 have gA:Grow (L3++[O.lst [D.str (cd k),D.tup (due d1 d2 k),D.ref f,D.ref g]]) (L3++[O.lst [D.str (cd k),D.tup (due d1 d2 k),D.ref f,D.ref g]]++[O.lst (List.map (eqk k) (rngL 0 30))]):=Grow.one
 have gB:Grow (L3++[O.lst [D.str (cd k),D.tup (due d1 d2 k),D.ref f,D.ref g]]++[O.lst (List.map (eqk k) (rngL 0 30))]) (L3++[O.lst [D.str (cd k),D.tup (due d1 d2 k),D.ref f,D.ref g]]++[O.lst (List.map (eqk k) (rngL 0 30))]++u4):=⟨u4,rfl⟩
 have gC:Grow (L3++[O.lst [D.str (cd k),D.tup (due d1 d2 k),D.ref f,D.ref g]]++[O.lst (List.map (eqk k) (rngL 0 30))]++u4) (L3++[O.lst [D.str (cd k),D.tup (due d1 d2 k),D.ref f,D.ref g]]++[O.lst (List.map (eqk k) (rngL 0 30))]++u4++[O.lst [D.str (cd k),D.tup (due d1 d2 k),D.ref (List.length (L3++[O.lst [D.str (cd k),D.tup (due d1 d2 k),D.ref f,D.ref g]])),D.ref t]]):=Grow.one
 have gD:=gA.trans (gB.trans gC)
 have y1:=gD.get (zai (L:=L3) (o:=O.lst [D.str (cd k),D.tup (due d1 d2 k),D.ref f,D.ref g]))
 have y2:=(gB.trans gC).get (zai (L:=L3++[O.lst [D.str (cd k),D.tup (due d1 d2 k),D.ref f,D.ref g]]) (o:=O.lst (List.map (eqk k) (rngL 0 30))))
 rw [zkI] at y2
 have y3:=(g3.trans (g1.trans gD)).get hf
 have y4:=(g1.trans gD).get hg
 have y5:=(g2.trans (g3.trans (g1.trans gD))).get ht
 refine (zhB (n:=35) 4 _ _ _ (zkG y1 zai (zk3 o1' o2') y3 (by rw [zkI] at *; exact y2) y4 y5 (by simp) (by simp) (fun z hz=>?_) fun z hz=>?_)).imp fun q L5 ⟨e5,u5,e6⟩=>?_
 ·obtain ⟨j,_,rfl⟩:=List.mem_map.mp hz
  exact ⟨_,rfl⟩
 ·simp only [List.mem_cons,List.not_mem_nil,or_false] at hz
  rcases hz with rfl | rfl | rfl | rfl | rfl | rfl<;>exact ⟨_,rfl⟩
 subst e5 e6
 simp_arith [eq_self]
 exact zcp (zcp (T:=R.T) (C:=zak R.T wf 39) (wf:=wf) (K _ (g2.trans (g3.trans (g1.trans (gD.trans ⟨u5,rfl⟩))))))
end
section
variable {n:Nat} {L L' L2 M:MH} {b c k cc:Nat} {C:Nat→List D→Mi.M D} {a p a5 a6:Nat} {d d1 d2:D} {ρ:Mi.Loc} {s:Str} {o0 o2 o3 o4 o5 o6 o7 o8 o9 o10 o11:Option D} {r:Sms} {Q:Fl→MH→Prop}
theorem zrg (hb:Bag L b c) (K:∀d1 d2 L',Step b c L L'→Dr d1→Dr d2→Runs (exSs R.T (zak R.T wf 39) wf r [o0,some (.ref b),o2,some d1,some d2,o5,o6,o7,o8,o9,o10,o11] L') Q):Runs (exSs R.T (zak R.T wf 39) wf (.cons St1 r) [o0,some (.ref b),o2,o3,o4,o5,o6,o7,o8,o9,o10,o11] L) Q:=by
 refine zab (zl9 ?_)
 simp_arith! [eq_self]
 refine (ziy (n:=36) hb).imp fun d L1 ⟨hf,st1⟩=>?_
 simp_arith! [eq_self]
 have b1:=st1.bag
 refine (zh9 (n:=37) (L:=L1++[_]) (Step.alloc b1).bag (Nat.ne_of_gt b1.ltb) zai (by simp) (by simp)).imp fun x L2 ⟨hm,st2⟩=>?_
 have hx:Dr x:=by
  simp only [List.mem_cons,List.not_mem_nil,or_false] at hm
  rcases hm with rfl | rfl | rfl | rfl | rfl
  ·exact .inl rfl
  ·exact .inr (.inl rfl)
  ·exact .inr (.inr (.inl rfl))
  ·exact .inr (.inr (.inr (.inl rfl)))
  ·exact .inr (.inr (.inr (.inr hf)))
 have st:=st1.trans ((Step.alloc b1).trans st2)
 simp_arith! [eq_self]
 refine (ziy (n:=36) st.bag).imp fun y L3 ⟨hy,st3⟩=>?_
 simp_arith [eq_self]
 exact ⟨trivial,K x y L3 (st.trans st3) hx (.inr (.inr (.inr (.inr hy))))⟩
theorem zr8 (h1:Dr d1) (h2:Dr d2) (K:∀a5 a6 L',Grow L L'→Wd L' a5 a6 d1 d2→Runs (exSs R.T (zak R.T wf 39) wf r [o0,some (.ref b),o2,some d1,some d2,some (.ref a5),some (.ref a6),o7,o8,o9,o10,o11] L') Q):Runs (exSs R.T (zak R.T wf 39) wf (.cons St2 r) [o0,some (.ref b),o2,some d1,some d2,o5,o6,o7,o8,o9,o10,o11] L) Q:=by
 refine zab (zl9 ?_)
 simp_arith! [eq_self]
 refine (zhM (n:=38)).imp fun d L1 ⟨g1,a5,ds,e,l5,er⟩=>?_
 subst e
 simp_arith! [eq_self]
 refine (zjk (n:=38)).imp fun d L2 ⟨g2,a6,e,l6⟩=>?_
 subst e
 simp_arith [eq_self]
 exact ⟨trivial,K a5 a6 L2 (g1.trans g2) ⟨⟨ds,g2.get l5,er.grow g2⟩,l6,h1,h2⟩⟩
theorem zrA {o1:Option D} (w:Wd L a5 a6 d1 d2) (hk:k < 30):Runs (exSs R.T (zak R.T wf 39) wf Bd [o0,o1,o2,some d1,some d2,some (.ref a5),some (.ref a6),some (.int (k:Nat)),o8,o9,o10,o11] L) fun fl L'=>(∃p8 p9 p10,fl=.nx [o0,o1,o2,some d1,some d2,some (.ref a5),some (.ref a6),some (.int (k:Nat)),p8,p9,p10,o11])∧Grow L L':=by
 unfold Bd
 refine st1 w hk fun p hx=>?_
 refine st2 w.cs hk ?_
 refine st4 fun t L1 g1 ht=>?_
 have w1:=w.grow g1
 refine st5 hk w.o1 w.o2 w1.cs (zaC g1 hx) ht fun L2 g2=>?_
 exact ⟨⟨_,_,_,rfl⟩,g1.trans g2⟩
theorem zlt {x:Nat×List (Nat×D)} (hb:Bag L b c) (st:Step b c L L') (h:zal L d=some x):zal L' d=some x:=by
 obtain ⟨is,i,cur,seed,cnt,h1,h2,h3,h4⟩:=hb
 unfold zal at h ⊢
 split at h
 ·rename_i m
  split at h
  ·rename_i c' k' e1
   split at h
   ·rename_i fs e2
    have n1:m≠b:=fun z=>by
     rw [z,h2] at e1
     cases e1
    have n2:k'≠b:=fun z=>by
     rw [z,h2] at e2
     cases e2
    simp only [st.get n1 e1,st.get n2 e2]
    exact h
   ·cases h
  ·cases h
 ·cases h
theorem Wd.step (hb:Bag L b c) (st:Step b c L L') (w:Wd L a5 a6 d1 d2):Wd L' a5 a6 d1 d2:=by
 obtain ⟨ds,h1,h2⟩:=w.es
 have hb0:=hb
 obtain ⟨is,i,cur,seed,cnt,q1,q2,q3,q4⟩:=hb0
 have n5:a5≠b:=fun z=>by
  rw [z,q2] at h1
  cases h1
  obtain ⟨p,e,_⟩:=h2.2 1 _ rfl
  cases e
 have n6:a6≠b:=fun z=>by
  have h6:=w.cs
  rw [z,q2] at h6
  cases h6
 exact ⟨⟨ds,st.get n5 h1,h2.1,fun i q e=>by
   obtain ⟨p,e1,e2⟩:=h2.2 i q e
   exact ⟨p,e1,zlt hb st e2⟩⟩,st.get n6 w.cs,w.o1,w.o2⟩
theorem zrh (hb:Bag L b c) (w:Wd L a5 a6 d1 d2) (K:∀p7 p8 p9 p10 L',Bag L' b c→Q (.nx [o0,some (.ref b),o2,some d1,some d2,some (.ref a5),some (.ref a6),p7,p8,p9,p10,o11]) L'):Runs (exSs R.T (zak R.T wf 39) wf (.cons St3 .nil) [o0,some (.ref b),o2,some d1,some d2,some (.ref a5),some (.ref a6),o7,o8,o9,o10,o11] L) Q:=by
 refine zab (zim ?_)
 have e0:zld (.int 30) L=.ok (.ref L.length) (L++[.lst ((List.range 30).map fun i=>.int (i:Nat))]):=rfl
 simp_arith! [zoc,e0]
 have hb1:=Step.alloc (o:=O.lst ((List.range 30).map fun i=>D.int (i:Nat))) hb
 refine (zjB (n:=37) hb1.bag zai (Nat.ne_of_gt hb.ltb) (by simp)).imp fun d L1 ⟨⟨r,ys,e,lr,gr,pm⟩,st⟩=>?_
 subst e
 simp_arith [gr]
 have w1:=(w.grow Grow.one).step hb1.bag st
 refine zex (xs:=ys) (fun i ρ L3=>(∃p7 p8 p9 p10, ρ=[o0,some (.ref b),o2,some d1,some d2,some (.ref a5),some (.ref a6),p7,p8,p9,p10,o11])∧Grow L1 L3) (fun i ρ L3 hI=>?hat) ?step ?fin _ 0 _ _ (Nat.zero_le _) ?fuel ⟨⟨_,_,_,_,rfl⟩,Grow.refl⟩
 case hat=>
  obtain ⟨_,g⟩:=hI
  have g:=g.get gr
  simp only [Wk.at,Src.at,g]
 case fuel=>
  simp only [Wk.len,Src.len,gr]
  omega
 case step=>
  intro i x ρ L3 hx ⟨⟨p7,p8,p9,p10,e⟩,g⟩
  subst e
  obtain ⟨k,hk,rfl⟩:=List.mem_map.mp ((pm.mem_iff).mp (List.mem_of_getElem? hx))
  have hk:k < 30:=List.mem_range.mp hk
  refine Runs.ok (a:=[o0,some (.ref b),o2,some d1,some d2,some (.ref a5),some (.ref a6),some (.int (k:Nat)),p8,p9,p10,o11]) (L:=L3) ?_
  refine (zrA (w1.grow g) hk).imp fun fl L4 ⟨⟨q8,q9,q10,e⟩,g4⟩=>?_
  subst e
  exact ⟨⟨_,_,_,_,rfl⟩,g.trans g4⟩
 case fin=>
  intro ρ L3 ⟨⟨p7,p8,p9,p10,e⟩,g⟩
  subst e
  exact zcp (T:=R.T) (C:=zak R.T wf 39) (wf:=wf) (K _ _ _ _ L3 (st.bag.grow g))
theorem zlf (hb:Bag L b c):Runs (exSs R.T (zak R.T wf 39) wf zn2 [o0,some (.ref b),o2,o3,o4,o5,o6,o7,o8,o9,o10,o11] L) fun fl L'=>(∃p3 p4 p5 p6 p7 p8 p9 p10,fl=.nx [o0,some (.ref b),o2,p3,p4,p5,p6,p7,p8,p9,p10,o11])∧Bag L' b c:=by
 unfold zn2
 refine zrg hb fun d1 d2 L1 st h1 h2=>?_
 refine zr8 h1 h2 fun a5 a6 L2 g w=>?_
 refine zrh (st.bag.grow g) w fun p7 p8 p9 p10 L3 hb3=>?_
 exact ⟨⟨_,_,_,_,_,_,_,_,rfl⟩,hb3⟩
theorem zk7 {x y:Nat} {s t:Str} (hx:M[x]?=some (.lst [.str s,.str t])) (hy:M[y]?=some (.lst [.str s,.str t])):like M 2 (.ref x) (.ref y):=by
 refine ⟨_,_,hx,hy,rfl,by simp,fun i u v e1 e2=>?_⟩
 match i,e1,e2 with
 | 0,e1,e2=>cases e1; cases e2; exact rfl
 | 1,e1,e2=>cases e1; cases e2; exact rfl
 | i+2,e1,e2=>simp at e1
theorem zlk:Runs (exSs R.T (zak R.T wf 39) wf znR [o0,o3,o2,o4,o5,o6,o7,o8,o9,o10,o11,none] L) (zaB fun d _=>d=.bl true):=by
 unfold znR Tl1
 refine zab (zay ?_)
 have e1:∀M:MH,mkxD R.T 0 [.str "some"] [] [] M=.ok (.ref (M.length+1)) (M++[.xdt [(0,.str "some")]]++[.exn 0 M.length]):=fun M=>by kernel_rfl
 have e2:∀M:MH,mkxD R.T 1 [.str "other"] [] [] M=.ok (.ref (M.length+1)) (M++[.xdt [(0,.str "other")]]++[.exn 1 M.length]):=fun M=>by kernel_rfl
 have f1:∀M:MH,atxD R.T 0 (.ref (M.length+1)) (M++[.xdt [(0,.str "some")]]++[.exn 0 M.length])=.ok (.str "some") (M++[.xdt [(0,.str "some")]]++[.exn 0 M.length]):=fun M=>zae zhE (by decide +kernel) rfl
 have f2:∀M:MH,atxD R.T 0 (.ref (M.length+1)) (M++[.xdt [(0,.str "other")]]++[.exn 1 M.length])=.ok (.str "other") (M++[.xdt [(0,.str "other")]]++[.exn 1 M.length]):=fun M=>zae zhE (by decide +kernel) rfl
 simp_arith! [zjS,zoY,e1,e2,f1,f2]
 refine (zhB (n:=37) 2 _ _ _ (zk7 (s:="some") (t:="other") (zbd zai) zai)).imp fun q L5 ⟨e5,u5,e6⟩=>?_
 subst e5
 exact rfl
theorem zlO {ns:List Int} (h:ns.length≤63):Runs (exSs R.T (zak R.T wf 39) wf zml [some (.fzl (ns.map D.int)),none,none,none,none,none,none,none,none,none,none,none] []) (zaB fun d _=>d=.bl true):=by
 show Runs (exSs R.T (zak R.T wf 39) wf (.cons (.asg (.var 1) (.call 1 (.cons (.var 0) .nil) [] .nil)) (.cons (.fr (.var 2) (.rng1 (.cint 3)) zn2) znR)) [some (.fzl (ns.map D.int)),none,none,none,none,none,none,none,none,none,none,none] []) _
 refine zab (zau ?_)
 simp_arith! [eq_self]
 refine (ziY (n:=38) h).imp fun d L1 ⟨b,c,q1,hb⟩=>?_
 subst q1
 refine zab (zim ?_)
 simp_arith [zie (show (0:Int)≤3 by decide) (by decide)]
 refine zex (xs:=rngL 0 3) (fun i ρ L3=>(∃p2 p3 p4 p5 p6 p7 p8 p9 p10, ρ=[some (.fzl (ns.map D.int)),some (.ref b),p2,p3,p4,p5,p6,p7,p8,p9,p10,none])∧Bag L3 b c) (fun i ρ L3 _=>zmi _ _ _ _) ?step ?fin _ 0 _ _ (Nat.zero_le _) ?fuel ⟨⟨_,_,_,_,_,_,_,_,_,rfl⟩,hb⟩
 case fuel=>
  simp only [Wk.len,zgO]
  decide
 case step=>
  intro i x ρ L3 _ ⟨⟨p2,p3,p4,p5,p6,p7,p8,p9,p10,e⟩,b3⟩
  subst e
  refine Runs.ok (a:=[some (.fzl (ns.map D.int)),some (D.ref b),some x,p3,p4,p5,p6,p7,p8,p9,p10,none]) (L:=L3) ?_
  refine (zlf b3).imp fun fl L4 ⟨⟨z3,z4,z5,z6,z7,z8,z9,z10,e⟩,hb4⟩=>?_
  subst e
  exact ⟨⟨_,_,_,_,_,_,_,_,_,rfl⟩,hb4⟩
 case fin=>
  intro ρ L3 ⟨⟨p2,p3,p4,p5,p6,p7,p8,p9,p10,e⟩,hb3⟩
  subst e
  exact zlk
theorem spec (ns:List Int) (h:ns.length≤63):∃L',zak R.T wf 40 zh7 [.fzl (ns.map D.int)] []=.ok (.bl true) L':=by
 have g:Runs (zak R.T wf 40 zh7 [.fzl (ns.map D.int)] []) fun d _=>d=.bl true:=by
  refine zcF (fd:=zhA) (n:=39) rfl rfl ?_
  exact zlO h
 obtain ⟨d,L',e1,e2⟩:=g.get
 subst e2
 exact ⟨L',e1⟩
end
end Row
end
section
set_option maxHeartbeats 0
open PySem PySem.W PySem.Calls PyProof.Rows
theorem Row.xds_in (d:He.DefD) (h:d∈Row.R.xb.map (·.d)∨d∈Row.R.xcs.map (·.d)∨d∈Row.R.xns.map (·.d)):d∈Row.xds:=by
 simp only [Row.R,List.map_cons,List.map_nil,List.mem_cons,List.not_mem_nil,or_false,or_assoc] at h
 simp only [Row.xds,List.mem_cons,List.not_mem_nil,or_false]
 exact h
theorem PySem.Challenge.cw_samesight_k01_errors_by_themselves_holds : PySem.Challenge.rw_samesight_k01_errors_by_themselves.Holds := by
 refine Row.hdTop ?_
 refine Mi.zlF (l:=PySem.Challenge.rw_samesight_k01_errors_by_themselves) (n:=63) (k:=86) (x:="_law_script") rfl (by decide) (by kernel_rfl) ⟨rfl,by decide,by decide⟩ ?F
 intro w mg fa h Y G hmg0
 obtain ⟨K,KX,c⟩:=Y
 have hmg:mg ("law":PySem.Str)=some (.ref fa):=by
  have e:(HandSHeadRun.topDef (OpenLaw.row PySem.Challenge.rw_samesight_k01_errors_by_themselves).prog 45).name=("law":PySem.Str):=by kernel_rfl
  rw [← e]
  exact hmg0
 have more:(Mi.rowK Row.R K&&Mi.rowX Row.R K)=true:=c.more
 obtain ⟨m1,m2⟩:=Bool.and_eq_true_iff.mp more
 have hdD:∀d,d∈Row.fnl→∃fd,L2.FunD K d.name d.qual d.params d.body d.scope (d.dvs K) (d.kws K) (He.fAd K d.at_) fd:=fun d hd=>c.t.d.defs hd
 have hd:∀f z,Row.R.fns[f]?=some z→Row.R.sfns.lookup f=none→∃fd,L2.FunD K z.2.1.name z.2.1.qual z.2.1.params z.2.1.body z.2.1.scope (z.2.1.dvs K) (z.2.1.kws K) (Row.R.fad K f) fd:=
  Mi.zq0 m1 (fun f z e q p=>hdD _ (List.mem_append_left _ (List.mem_map.mpr ⟨(z,f),List.mem_filter.mpr ⟨List.mk_mem_zipIdx_iff_getElem?.mpr e,by simp only [q,p,Option.isNone_none,Bool.not_false,Bool.and_self]⟩,rfl⟩))) fun f z e p=>by
   have m:=c.sups (Row.R.pfns.contains f,z.2.1) (List.mem_map.mpr ⟨(z,f),List.mem_filter.mpr ⟨List.mk_mem_zipIdx_iff_getElem?.mpr e,by simp only [p,Bool.or_true]⟩,rfl⟩)
   rw [p] at m
   exact m
 have hsp:∀f d,Row.R.sfns.lookup f=some d→Row.R.pfns.contains f=false:=fun f d q=>by
  have a:(Row.R.sfns.all fun q=>!Row.R.pfns.contains q.1)=true:=by decide
  exact (Bool.not_eq_true' _).mp (List.all_eq_true.mp a _ (Mi.zaf (f:=fun x:Nat=>x) q))
 have hs:∀f z d,Row.R.fns[f]?=some z→Row.R.sfns.lookup f=some d→Mi.fnC K false z.2.1.at_=Mi.valC (false,z.2.1):=fun f z d e q=>by
  have m:=c.sups (Row.R.pfns.contains f,z.2.1) (List.mem_map.mpr ⟨(z,f),List.mem_filter.mpr ⟨List.mk_mem_zipIdx_iff_getElem?.mpr e,by simp only [q,Option.isSome_some,Bool.true_or]⟩,rfl⟩)
  rw [hsp f d q] at m
  exact m
 have e1:=hmg.symm.trans (He.glo_ok KX G (c.t.d.facts (f:=.glo "law") (List.mem_singleton.mpr rfl)))
 have e2:fa=Row.R.fad K Row.zh7:=Value.ref.inj (Option.some.inj e1)
 subst e2
 obtain ⟨fd,F⟩:=hd Row.zh7 (Row.zhA,Row.znO,Row.zop) rfl (by decide)
 have hb:=L2.FunD.bindsA (ps:=["_law_script"]) F fun _ _ _ _ _ _ us hl=>match us,hl with | [_],_=>rfl
 have ed:Mi.zbK K (Row.R.fad K Row.zh7)=fd:=Mi.zkF F
 have hkd:∀q∈Row.R.kds,∃es n,L2.KDict K w (He.ga K q.1) es n:=fun q hq=>by
  obtain ⟨i,hi,e⟩:=List.mem_iff_getElem.mp hq
  have ht:Row.R.tabs[i]?=some ((fun K=>He.ga K q.1),q.2.map (·.1)):=by
   unfold Mi.Rw.tabs
   rw [List.getElem?_map,List.getElem?_eq_getElem hi,e]
   rfl
  exact He.SaysT.tab c.t i ht
 have hX:∀d,d∈Row.xds→∃fd,L2.FunD K d.name d.qual d.params d.body d.scope (d.dvs K) (d.kws K) (He.fAd K d.at_) fd:=fun d m=>hdD d (List.mem_append_right _ m)
 refine ⟨(Row.R.g K).fr,K,fd,Mi.spL (Row.R.gw K w) Row.R.T Row.wf 40 Row.zh7,KX,fun s u=>hb s [u] rfl,fun H a ns hl _ hO hS=>?_,fun base=>?_⟩
 ·obtain ⟨L',e⟩:=Row.spec ns hl
  exact Mi.zk5 (fun _ _=>trivial) rfl hO hS e
 ·rw [← ed]
  exact Mi.zla (R:=Row.R) (n:=39) (wf:=Row.wf) (f:=Row.zh7) (fd:=Row.zhA) KX G (by kernel_rfl) (by decide +kernel) Row.ok Row.xok m1 m2 Row.dfl hd hs hkd (fun d m=>hX d (Row.xds_in d m)) rfl (by decide)
end
