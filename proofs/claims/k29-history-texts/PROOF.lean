import PyProof.Rows.All
import Wide.All
import OpenK.AllK
import Wide.FinOn
import HandS.ForMost
import HandS.Exc
import HandS.TryMany
import HandS.CallSlots
import HandS.Defaults
import HandS.Flow
import HandS.Deep
import HandS.TupAny
import HandS.Codes
import HandS.Text
import HandS.More
import HandS.IsInst
import HandS.FStr
import HandS.RaiseMore
import HandS.Property
import HandS.CallRecv
import HandS.HeadWalk
import HandS.NoneIn
import HandS.Zip
import KE.KUnpackStar
import HandS.Style
import HandS.HeadEnd
import HandS.HeadHook4
import HandS.Head0
import HandS.Head1
import HandS.Head2
import HandS.HeadHook1
import HandS.HeadHook2
import PySem.Challenge.RW_samesight_k29_history_texts
section
set_option Elab.async false
set_option linter.all false
set_option maxRecDepth 100000
set_option maxHeartbeats 4000000
/-! Mi, part A: data, the logical heap, how they stand for the layer's values and heap. -/
namespace Mi
open PySem PySem.Spec PyProof.Rows L2

/-- a value: tuples (and a list that nobody may write: fzl) by value, what may change by its number in the logical heap -/
inductive D where
  | non | bl (b : Bool) | int (i : Int) | str (s : Str) | tup (xs : List D) | ref (a : Nat) | ty (n : String) | glo (k : Nat) | fzl (xs : List D)

/-- what stands in the logical heap -/
inductive O where
  | lst (xs : List D)
  | ins (c : Nat) (fs : List (Nat × D))

abbrev MH := List O

/-- a computation's result -/
inductive Res (α : Type) where
  | ok (a : α) (L : MH)
  | exc (c : Nat) (fs : List (Nat × D)) (L : MH)
  | stk

abbrev M (α : Type) := MH → Res α
@[reducible] def ret {α : Type} (a : α) : M α := fun L => .ok a L
def Res.bind {α β : Type} (r : Res α) (f : α → M β) : Res β := match r with
  | .ok a L => f a L
  | .exc c fs L => .exc c fs L
  | .stk => .stk
def bnd {α β : Type} (m : M α) (f : α → M β) : M β := fun L => (m L).bind f
def stuck {α : Type} : M α := fun _ => .stk
/-- where it is known -/
def must {α : Type} (o : Option α) : M α := match o with
  | some a => ret a
  | none => stuck
/-- what raises is stuck -/
def Res.quiet {α : Type} (r : Res α) : Res α := match r with
  | .ok a L => .ok a L
  | _ => .stk

/-- the names of a law: attributes, classes and functions by numbers -/
structure G where
  K : PySem.W.Frag
  an : Nat → Str
  cad : Nat → Addr
  gad : Nat → Addr

/-- a list that nobody may write -/
def FzL (K : PySem.W.Frag) (H : Hp) (a : Addr) (xs : List V) : Prop :=
  (∃ o, H a = some (.frz o (.lst xs))) ∨
    ∃ (o : Obj) (its : Array Value) (n : Nat), K.lookup a = some o ∧ o.cls = .type "list" ∧ o.dict = none ∧ o.data = .seq its n ∧ its.size ≤ sizeLine ∧ Vals xs its.toList
theorem FzL.sqL {K : PySem.W.Frag} {H : Hp} {a : Addr} {xs : List V} (h : FzL K H a xs) : SqL K H a xs := h.elim (fun z => .inl (.inr z)) .inr
section
variable (g : G) (m : List Addr) (H : Hp)
mutual
/-- d stands for v -/
inductive RelD : D → V → Prop where
  | non : RelD .non .non
  | bl (b : Bool) : RelD (.bl b) (.bl b)
  | int (i : Int) : RelD (.int i) (.int i)
  | str (s : Str) : RelD (.str s) (.str s)
  | ty (n : String) : RelD (.ty n) (.ty n)
  | ref {n : Nat} {a : Addr} (h : m[n]? = some a) : RelD (.ref n) (.ref a)
  | glo (k : Nat) : RelD (.glo k) (.ref (g.gad k))
  | tup {ds : List D} {vs : List V} {a : Addr} (h : SqT g.K H a vs) (r : RelDs ds vs) : RelD (.tup ds) (.ref a)
  | fzl {ds : List D} {vs : List V} {a : Addr} (h : FzL g.K H a vs) (r : RelDs ds vs) : RelD (.fzl ds) (.ref a)
inductive RelDs : List D → List V → Prop where
  | nil : RelDs [] []
  | cons {d : D} {v : V} {ds : List D} {vs : List V} (h : RelD d v) (r : RelDs ds vs) : RelDs (d :: ds) (v :: vs)
end
/-- fields by numbers, by names -/
inductive RelF : List (Nat × D) → List (Str × V) → Prop where
  | nil : RelF [] []
  | cons {a : Nat} {d : D} {v : V} {fs : List (Nat × D)} {vs : List (Str × V)} (h : RelD g m H d v) (r : RelF fs vs) : RelF ((a, d) :: fs) ((g.an a, v) :: vs)
/-- the object at a -/
def RelO (a : Addr) : O → Prop
  | .lst ds => ∃ vs, H a = some (.lst vs) ∧ RelDs g m H ds vs
  | .ins c fs => ∃ dx vfs, H a = some (.ins (g.cad c) dx vfs) ∧ RelF g m H fs vfs
end

/-- the logical heap stands in H, by the addresses m -/
structure HRel (g : G) (m : List Addr) (L : MH) (H : Hp) : Prop where
  len : m.length = L.length
  nd : m.Nodup
  live : ∀ a ∈ m, H a ≠ none
  obj : ∀ (n : Nat) (o : O) (a : Addr), L[n]? = some o → m[n]? = some a → RelO g m H a o

/-- what stays: tuples and locked things; new numbers behind the old ones -/
structure Ev (m : List Addr) (H : Hp) (m' : List Addr) (H' : Hp) : Prop where
  pre : m <+: m'
  tup : ∀ b xs, H b = some (.tup xs) → H' b = some (.tup xs)
  frz : ∀ b o u, H b = some (.frz o u) → H' b = some (.frz o u)

theorem Ev.refl (m : List Addr) (H : Hp) : Ev m H m H := ⟨List.prefix_rfl, fun _ _ h => h, fun _ _ _ h => h⟩
theorem Ev.trans {m m' m'' : List Addr} {H H' H'' : Hp} (a : Ev m H m' H') (b : Ev m' H' m'' H'') : Ev m H m'' H'' :=
  ⟨a.pre.trans b.pre, fun c xs h => b.tup c xs (a.tup c xs h), fun c o u h => b.frz c o u (a.frz c o u h)⟩
theorem Ev.get {m m' : List Addr} {H H' : Hp} (e : Ev m H m' H') {n : Nat} {a : Addr} (h : m[n]? = some a) : m'[n]? = some a := by
  obtain ⟨t, rfl⟩ := e.pre
  rw [List.getElem?_append_left (List.getElem?_eq_some_iff.mp h).1]
  exact h
theorem Ev.rdT {m m' : List Addr} {H H' : Hp} (e : Ev m H m' H') {a : Addr} {xs : List V} (h : Rd H a (.tup xs)) : Rd H' a (.tup xs) := by
  rcases h with h | ⟨o, h⟩
  · exact .inl (e.tup _ _ h)
  · exact .inr ⟨o, e.frz _ _ _ h⟩
theorem Ev.fzL {K : PySem.W.Frag} {m m' : List Addr} {H H' : Hp} (e : Ev m H m' H') {a : Addr} {xs : List V} (h : FzL K H a xs) : FzL K H' a xs := by
  rcases h with ⟨o, h⟩ | h
  · exact .inl ⟨o, e.frz _ _ _ h⟩
  · exact .inr h
theorem Ev.sqT {K : PySem.W.Frag} {m m' : List Addr} {H H' : Hp} (e : Ev m H m' H') {a : Addr} {xs : List V} (h : SqT K H a xs) : SqT K H' a xs := by
  rcases h with h | h
  · exact .inl (e.rdT h)
  · exact .inr h

section
variable {g : G} {m m' : List Addr} {H H' : Hp}
mutual
theorem RelD.mono (e : Ev m H m' H') : ∀ {d : D} {v : V}, RelD g m H d v → RelD g m' H' d v
  | _, _, .non => .non
  | _, _, .bl b => .bl b
  | _, _, .int i => .int i
  | _, _, .str s => .str s
  | _, _, .ty n => .ty n
  | _, _, .ref h => .ref (e.get h)
  | _, _, .glo k => .glo k
  | _, _, .tup h r => .tup (e.sqT h) (RelDs.mono e r)
  | _, _, .fzl h r => .fzl (e.fzL h) (RelDs.mono e r)
theorem RelDs.mono (e : Ev m H m' H') : ∀ {ds : List D} {vs : List V}, RelDs g m H ds vs → RelDs g m' H' ds vs
  | _, _, .nil => .nil
  | _, _, .cons h r => .cons (RelD.mono e h) (RelDs.mono e r)
end
theorem RelF.mono (e : Ev m H m' H') : ∀ {fs : List (Nat × D)} {vs : List (Str × V)}, RelF g m H fs vs → RelF g m' H' fs vs
  | _, _, .nil => .nil
  | _, _, .cons h r => .cons (h.mono e) (RelF.mono e r)
theorem RelDs.length : ∀ {ds : List D} {vs : List V}, RelDs g m H ds vs → ds.length = vs.length
  | _, _, .nil => rfl
  | _, _, .cons _ r => congrArg (· + 1) (RelDs.length r)
theorem RelDs.get : ∀ {ds : List D} {vs : List V} {i : Nat} {d : D}, RelDs g m H ds vs → ds[i]? = some d → ∃ v, vs[i]? = some v ∧ RelD g m H d v
  | _, _, _, _, .nil, h => by simp at h
  | _, _, 0, _, .cons h r, e => by
    cases (show some _ = some _ from by simpa using e)
    exact ⟨_, rfl, h⟩
  | _, _, i + 1, d, .cons h r, e => by
    obtain ⟨v, h1, h2⟩ := RelDs.get (i := i) (d := d) r (by simpa using e)
    exact ⟨v, by simpa using h1, h2⟩
theorem RelDs.get' : ∀ {ds : List D} {vs : List V} {i : Nat} {v : V}, RelDs g m H ds vs → vs[i]? = some v → ∃ d, ds[i]? = some d ∧ RelD g m H d v
  | _, _, _, _, .nil, h => by simp at h
  | _, _, 0, _, .cons h r, e => by
    cases (show some _ = some _ from by simpa using e)
    exact ⟨_, rfl, h⟩
  | _, _, i + 1, v, .cons h r, e => by
    obtain ⟨d, h1, h2⟩ := RelDs.get' (i := i) (v := v) r (by simpa using e)
    exact ⟨d, by simpa using h1, h2⟩
theorem RelDs.append : ∀ {ds es : List D} {vs ws : List V}, RelDs g m H ds vs → RelDs g m H es ws → RelDs g m H (ds ++ es) (vs ++ ws)
  | _, _, _, _, .nil, s => s
  | _, _, _, _, .cons h r, s => .cons h (RelDs.append r s)
theorem RelDs.set : ∀ {ds : List D} {vs : List V} {d : D} {v : V} (i : Nat), RelD g m H d v → RelDs g m H ds vs → RelDs g m H (ds.set i d) (vs.set i v)
  | _, _, _, _, _, _, .nil => .nil
  | _, _, _, _, 0, q, .cons _ r => .cons q r
  | _, _, _, _, i + 1, q, .cons h r => .cons h (RelDs.set i q r)
theorem RelDs.drop : ∀ {ds : List D} {vs : List V} (n : Nat), RelDs g m H ds vs → RelDs g m H (ds.drop n) (vs.drop n)
  | _, _, 0, r => r
  | _, _, _ + 1, .nil => .nil
  | _, _, n + 1, .cons _ r => RelDs.drop n r
theorem RelDs.take : ∀ {ds : List D} {vs : List V} (n : Nat), RelDs g m H ds vs → RelDs g m H (ds.take n) (vs.take n)
  | _, _, 0, _ => .nil
  | _, _, _ + 1, .nil => .nil
  | _, _, n + 1, .cons h r => .cons h (RelDs.take n r)
theorem RelDs.reverse : ∀ {ds : List D} {vs : List V}, RelDs g m H ds vs → RelDs g m H ds.reverse vs.reverse
  | _, _, .nil => .nil
  | _, _, .cons h r => by
    rw [List.reverse_cons, List.reverse_cons]
    exact (RelDs.reverse r).append (.cons h .nil)
theorem RelDs.ints : ∀ {ns : List Int}, RelDs g m H (ns.map D.int) (ns.map V.int)
  | [] => .nil
  | _ :: _ => .cons (.int _) RelDs.ints
theorem RelF.lookup (an : ∀ a b, g.an a = g.an b → a = b) : ∀ {fs : List (Nat × D)} {vs : List (Str × V)} {a : Nat} {d : D}, RelF g m H fs vs → fs.lookup a = some d → ∃ v, vs.lookup (g.an a) = some v ∧ RelD g m H d v
  | _, _, _, _, .nil, e => by cases e
  | (b, _) :: _, _, a, d, .cons h r, e => by
    rw [List.lookup_cons] at e ⊢
    by_cases q : a = b
    · subst q
      rw [beq_self_eq_true] at e ⊢
      cases e
      exact ⟨_, rfl, h⟩
    · rw [beq_eq_false_iff_ne.mpr q] at e
      rw [beq_eq_false_iff_ne.mpr fun z => q (an _ _ z)]
      exact RelF.lookup an r e
theorem RelF.lookupN (an : ∀ a b, g.an a = g.an b → a = b) : ∀ {fs : List (Nat × D)} {vs : List (Str × V)} {a : Nat}, RelF g m H fs vs → fs.lookup a = none → vs.lookup (g.an a) = none
  | _, _, _, .nil, _ => rfl
  | (b, _) :: _, _, a, .cons h r, e => by
    rw [List.lookup_cons] at e ⊢
    by_cases q : a = b
    · subst q
      rw [beq_self_eq_true] at e
      cases e
    · rw [beq_eq_false_iff_ne.mpr q] at e
      rw [beq_eq_false_iff_ne.mpr fun z => q (an _ _ z)]
      exact RelF.lookupN an r e
theorem RelF.length : ∀ {fs : List (Nat × D)} {vs : List (Str × V)}, RelF g m H fs vs → fs.length = vs.length
  | _, _, .nil => rfl
  | _, _, .cons _ r => congrArg (· + 1) (RelF.length r)
/-- a field is stored -/
def putN (a : Nat) (d : D) : List (Nat × D) → List (Nat × D)
  | [] => [(a, d)]
  | (b, e) :: r => if b = a then (b, d) :: r else (b, e) :: putN a d r
end
end Mi
end

section
set_option Elab.async false
set_option linter.all false
set_option maxRecDepth 100000
set_option maxHeartbeats 4000000
/-! Mi, part B: the logical heap's moves; readings by computations. -/
namespace Mi
open PySem PySem.Spec PyProof.Rows L2

section
variable {g : G} {m m' : List Addr} {L L' : MH} {H H' : Hp} {a p : Addr} {o : O} {ho : HO} {n : Nat}
theorem RelO.mono (e : Ev m H m' H') (h : H' a = H a) (r : RelO g m H a o) : RelO g m' H' a o := by
  cases o with
  | lst ds =>
    obtain ⟨vs, h1, h2⟩ := r
    exact ⟨vs, h.trans h1, h2.mono e⟩
  | ins c fs =>
    obtain ⟨dx, vfs, h1, h2⟩ := r
    exact ⟨dx, vfs, h.trans h1, h2.mono e⟩
theorem Ev.upd_free (hp : H p = none) : Ev m H m (upd H p ho) :=
  ⟨List.prefix_rfl, fun b xs h => by rw [upd_ne (ne_of_none h hp)]; exact h, fun b o u h => by rw [upd_ne (ne_of_none h hp)]; exact h⟩
theorem HRel.addr (h : HRel g m L H) (e : L[n]? = some o) : ∃ a, m[n]? = some a ∧ a ∈ m ∧ RelO g m H a o := by
  have hl : n < m.length := by rw [h.len]; exact (List.getElem?_eq_some_iff.mp e).1
  exact ⟨m[n], List.getElem?_eq_getElem hl, List.getElem_mem hl, h.obj n o _ e (List.getElem?_eq_getElem hl)⟩
theorem HRel.keep (h : HRel g m L H) (e : Ev m H m H') (k : ∀ a ∈ m, H' a = H a) : HRel g m L H' :=
  ⟨h.len, h.nd, fun a ha z => h.live a ha (by rw [← k a ha]; exact z), fun n o a e1 e2 => (h.obj n o a e1 e2).mono e (k a (List.mem_of_getElem? e2))⟩
/-- a thing of no number is laid -/
theorem HRel.laid (h : HRel g m L H) (hp : H p = none) : HRel g m L (upd H p ho) :=
  h.keep (Ev.upd_free hp) fun a ha => upd_ne fun e => h.live a ha (by rw [e]; exact hp)
theorem Ev.push (hp : H p = none) : Ev m H (m ++ [p]) (upd H p ho) :=
  ⟨List.prefix_append _ _, (Ev.upd_free (m := m) hp).tup, (Ev.upd_free (m := m) hp).frz⟩
theorem getElem?_snoc {α : Type} (l : List α) (x : α) : (l ++ [x])[l.length]? = some x := by simp
/-- a new numbered thing -/
theorem HRel.push (h : HRel g m L H) (hp : H p = none) (new : RelO g (m ++ [p]) (upd H p ho) p o) : HRel g (m ++ [p]) (L ++ [o]) (upd H p ho) := by
  have hpm : p ∉ m := fun z => h.live p z hp
  refine ⟨by simp [h.len], ?_, fun a ha => ?_, fun n o' a e1 e2 => ?_⟩
  · refine List.nodup_append.mpr ⟨h.nd, by simp, fun a ha b hb => ?_⟩
    have e : b = p := by simpa using hb
    rw [e]
    exact fun z => hpm (by rw [← z]; exact ha)
  · rcases List.mem_append.mp ha with ha | ha
    · rw [upd_ne fun e => hpm (by rw [← e]; exact ha)]
      exact h.live a ha
    · have e : a = p := by simpa using ha
      rw [e, upd_same]
      exact fun z => by cases z
  · by_cases hn : n < L.length
    · rw [List.getElem?_append_left hn] at e1
      rw [List.getElem?_append_left (by rw [h.len]; exact hn)] at e2
      exact (h.obj n o' a e1 e2).mono (Ev.push hp) (upd_ne fun e => hpm (by rw [← e]; exact List.mem_of_getElem? e2))
    · have hlt := (List.getElem?_eq_some_iff.mp e1).1
      rw [List.length_append, List.length_singleton] at hlt
      have en : n = L.length := by omega
      subst en
      rw [getElem?_snoc] at e1
      rw [← h.len, getElem?_snoc] at e2
      cases e1
      cases e2
      exact new
/-- the n-th thing is changed -/
theorem HRel.set (h : HRel g m L H) (e0 : m[n]? = some a) (ev : Ev m H m (upd H a ho)) (new : RelO g m (upd H a ho) a o) : HRel g m (L.set n o) (upd H a ho) := by
  refine ⟨by simp [h.len], h.nd, fun b hb => ?_, fun k o' b e1 e2 => ?_⟩
  · by_cases q : b = a
    · rw [q, upd_same]
      exact fun z => by cases z
    · rw [upd_ne q]
      exact h.live b hb
  · by_cases q : k = n
    · subst q
      rw [e0] at e2
      cases e2
      have hlt : k < L.length := by
        have := (List.getElem?_eq_some_iff.mp e1).1
        simpa using this
      rw [List.getElem?_set_self hlt] at e1
      cases e1
      exact new
    · rw [List.getElem?_set_ne (Ne.symm q)] at e1
      have nb : b ≠ a := fun z => q (by
        rw [z] at e2
        exact (List.getElem?_inj (List.getElem?_eq_some_iff.mp e2).1 h.nd).mp (e2.trans e0.symm))
      exact (h.obj k o' b e1 e2).mono ev (upd_ne nb)
theorem Ev.write (h1 : ∀ xs, H a ≠ some (.tup xs)) (h2 : ∀ o u, H a ≠ some (.frz o u)) : Ev m H m (upd H a ho) :=
  ⟨List.prefix_rfl, fun b xs h => by rw [upd_ne fun e => h1 xs (by rw [← e]; exact h)]; exact h, fun b o u h => by rw [upd_ne fun e => h2 o u (by rw [← e]; exact h)]; exact h⟩
theorem Ev.write_lst {xs : List V} (h : H a = some (.lst xs)) : Ev m H m (upd H a ho) := Ev.write (fun _ z => by rw [h] at z; cases z) fun _ _ z => by rw [h] at z; cases z
theorem Ev.write_ins {C dx : Addr} {fs : List (Str × V)} (h : H a = some (.ins C dx fs)) : Ev m H m (upd H a ho) := Ev.write (fun _ z => by rw [h] at z; cases z) fun _ _ z => by rw [h] at z; cases z
end

/-! ### the locals -/
abbrev Loc := List (Option D)
structure LRel (g : G) (m : List Addr) (H : Hp) (ρ : Loc) (σ : L2.St) : Prop where
  len : ρ.length = σ.length
  get : ∀ (i : Nat) (d : D), ρ[i]? = some (some d) → ∃ v, σ[i]? = some (some v) ∧ RelD g m H d v
section
variable {g : G} {m m' : List Addr} {H H' : Hp} {ρ : Loc} {σ : L2.St}
theorem LRel.mono (e : Ev m H m' H') (h : LRel g m H ρ σ) : LRel g m' H' ρ σ := ⟨h.len, fun i d q => by
  obtain ⟨v, h1, h2⟩ := h.get i d q
  exact ⟨v, h1, h2.mono e⟩⟩
theorem LRel.set (h : LRel g m H ρ σ) (i : Nat) {d : D} {v : V} (r : RelD g m H d v) : LRel g m H (ρ.set i (some d)) (σ.set i (some v)) := by
  refine ⟨by simp [h.len], fun j e q => ?_⟩
  by_cases hj : j = i
  · subst hj
    have hlt : j < ρ.length := by simpa using (List.getElem?_eq_some_iff.mp q).1
    rw [List.getElem?_set_self hlt] at q
    cases q
    exact ⟨v, List.getElem?_set_self (by rw [← h.len]; exact hlt), r⟩
  · rw [List.getElem?_set_ne (Ne.symm hj)] at q ⊢
    exact h.get j e q
theorem LRel.clear (h : LRel g m H ρ σ) (i : Nat) : LRel g m H (ρ.set i none) (σ.set i none) := by
  refine ⟨by simp [h.len], fun j e q => ?_⟩
  by_cases hj : j = i
  · subst hj
    have hlt : j < ρ.length := by simpa using (List.getElem?_eq_some_iff.mp q).1
    rw [List.getElem?_set_self hlt] at q
    cases q
  · rw [List.getElem?_set_ne (Ne.symm hj)] at q ⊢
    exact h.get j e q
def wipeL (ρ : Loc) : List Nat → Loc
  | [] => ρ
  | v :: vs => (wipeL ρ vs).set v none
theorem LRel.wipe (h : LRel g m H ρ σ) : ∀ vs : List Nat, LRel g m H (wipeL ρ vs) (L2.wipe σ vs)
  | [] => h
  | v :: vs => (LRel.wipe h vs).clear v
theorem LRel.start {ds : List D} {vs : List V} {N : List Str} (r : RelDs g m H ds vs) : LRel g m H (ds.map some ++ List.replicate (N.length - ds.length) none) (L2.start N vs) := by
  have hl := r.length
  refine ⟨by unfold L2.start; simp [hl], fun i d q => ?_⟩
  by_cases hi : i < ds.length
  · rw [List.getElem?_append_left (by simpa using hi), List.getElem?_map] at q
    cases e : ds[i]? with
    | none => rw [e] at q; cases q
    | some d' =>
      rw [e] at q
      cases q
      obtain ⟨v, h1, h2⟩ := r.get e
      refine ⟨v, ?_, h2⟩
      unfold L2.start
      rw [List.getElem?_append_left (by rw [List.length_map, ← hl]; exact hi), List.getElem?_map, h1]
      rfl
  · rw [List.getElem?_append_right (by simpa using hi), List.getElem?_replicate] at q
    split at q <;> cases q
end

/-! ### what is wanted behind a computation -/
/-- an exception's own dict -/
def XR (g : G) (m : List Addr) (H : Hp) (fs : List (Nat × D)) (dx : Addr) : Prop := ∃ vfs, H dx = some (.xd vfs) ∧ RelF g m H fs vfs
/-- .. E the wish of an exception, Q the wish of a value -/
def Post {α β : Type} (g : G) (E : XK) (R : List Addr → Hp → α → β → Prop) (m : List Addr) (H : Hp) (r : Res α) (Q : β → Hp → Prop) : Prop := match r with
  | .ok d L' => ∀ m' H' v, Ev m H m' H' → HRel g m' L' H' → R m' H' d v → Q v H'
  | .exc c fs L' => ∀ m' H' dx, Ev m H m' H' → HRel g m' L' H' → XR g m' H' fs dx → E (.ref (g.cad c)) (some dx) H'
  | .stk => False
section
variable {α β γ δ : Type} {g : G} {E : XK} {R : List Addr → Hp → α → β → Prop} {R' : List Addr → Hp → γ → δ → Prop} {m m' : List Addr} {L L' : MH} {H H' : Hp} {r : Res α} {Q Q' : β → Hp → Prop}
theorem Post.ev (e : Ev m H m' H') (h : Post g E R m H r Q) : Post g E R m' H' r Q := by
  cases r with
  | ok d L' => exact fun m2 H2 v e2 => h m2 H2 v (e.trans e2)
  | exc c fs L' => exact fun m2 H2 dx e2 => h m2 H2 dx (e.trans e2)
  | stk => exact h
/-- first this, then the rest -/
theorem Post.bind {k : α → M γ} {Q2 : δ → Hp → Prop} (h : Post g E R' m H (r.bind k) Q2) :
    Post g E R m H r fun v H1 => ∃ m1 L1 a, Ev m H m1 H1 ∧ HRel g m1 L1 H1 ∧ R m1 H1 a v ∧ Post g E R' m1 H1 (k a L1) Q2 := by
  cases r with
  | ok d L' => exact fun m1 H1 v e hr rd => ⟨m1, L', d, e, hr, rd, h.ev e⟩
  | exc c fs L' => exact h
  | stk => exact h
theorem Post.imp (h : Post g E R m H r Q) (hq : ∀ v H', Q v H' → Q' v H') : Post g E R m H r Q' := by
  cases r with
  | ok d L' => exact fun m1 H1 v e hr rd => hq _ _ (h m1 H1 v e hr rd)
  | exc c fs L' => exact h
  | stk => exact h
theorem Post.at (h : Post g E R m H (.ok a L) Q) {v : β} (hr : HRel g m L H) (rd : R m H a v) : Q v H := h m H v (Ev.refl _ _) hr rd
theorem Post.atE (h : Post g E R m H (.ok a L) Q) {v : β} (e : Ev m H m' H') (hr : HRel g m' L H') (rd : R m' H' a v) : Q v H' := h m' H' v e hr rd
theorem Post.quiet (h : Post g E R m H r.quiet Q) (E' : XK) : Post g E' R m H r Q := by
  cases r with
  | ok d L' => exact h
  | exc c fs L' => exact h.elim
  | stk => exact h
end

abbrev RD (g : G) : List Addr → Hp → D → V → Prop := RelD g
abbrev RDs (g : G) : List Addr → Hp → List D → List V → Prop := RelDs g
def REq {α : Type} : List Addr → Hp → α → α → Prop := fun _ _ a b => a = b

/-- an expression's reading by a computation; W: the wish of exceptions at the slots -/
def tM (g : G) (W : WX) (f : Loc → M D) : TE := fun σ H Q => ∃ m L ρ, HRel g m L H ∧ LRel g m H ρ σ ∧ Post g (fun c d H' => W c d σ H') (RD g) m H (f ρ L) Q
def tMT (g : G) (W : WX) (f : Loc → M Bool) : TT := fun σ H Q => ∃ m L ρ, HRel g m L H ∧ LRel g m H ρ σ ∧ Post g (fun c d H' => W c d σ H') REq m H (f ρ L) Q
def tMA (g : G) (W : WX) (f : Loc → M (List D)) : TA := fun σ H Q => ∃ m L ρ, HRel g m L H ∧ LRel g m H ρ σ ∧ Post g (fun c d H' => W c d σ H') (RDs g) m H (f ρ L) Q

/-! ### a weaker reading -/
section
variable {X : Cx} {e : Expr} {es : List Expr} {st : Stmt} {sts : List Stmt}
theorem pe_imp {t t' : TE} (h : PE X e t) (k : ∀ σ H Q, t' σ H Q → t σ H Q) : PE X e t' := ⟨fun pins s σ H Q I q => h.run pins s σ H Q I (k σ H Q q)⟩
theorem pt_imp {t t' : TT} (h : PT X e t) (k : ∀ σ H Q, t' σ H Q → t σ H Q) : PT X e t' := ⟨fun pins s σ H Q I q => h.run pins s σ H Q I (k σ H Q q)⟩
theorem pa_imp {t t' : TA} (h : PA X es t) (k : ∀ σ H Q, t' σ H Q → t σ H Q) : PA X es t' := ⟨fun pos pins s σ H Q I q => h.run pos pins s σ H Q I (k σ H Q q)⟩
theorem ps_imp {t t' : TS} (h : PS X st t) (k : ∀ D σ H, t' D σ H → t D σ H) : PS X st t' := ⟨fun pins s σ H D I q => h.run pins s σ H D I (k D σ H q)⟩
theorem pss_imp {t t' : TS} (h : PSs X sts t) (k : ∀ D σ H, t' D σ H → t D σ H) : PSs X sts t' := ⟨fun pins s σ H D I q => h.run pins s σ H D I (k D σ H q)⟩
theorem pw_imp {t t' : TT} (h : PW X e t) (k : ∀ σ H Q, t' σ H Q → t σ H Q) : PW X e t' := ⟨fun wh pins s σ H Q I q => h.run wh pins s σ H Q I (k σ H Q q)⟩
end
end Mi
end

section
set_option Elab.async false
set_option linter.all false
set_option maxRecDepth 100000
set_option maxHeartbeats 4000000
/-! Mi, part C: the small language and its evaluator. -/
namespace Mi
open PySem PySem.Spec L2

/-! ### values by their operators -/
mutual
/-- a value as data -/
def dat (L : MH) : Nat → D → Option PyData
  | _, .non => some .none
  | _, .bl b => some (.bool b)
  | _, .int i => some (.int i)
  | _, .str s => some (.str s)
  | 0, _ => none
  | n + 1, .tup xs => (dats L n xs).map .tuple
  | n + 1, .fzl xs => (dats L n xs).map .list
  | n + 1, .ref a => (match L[a]? with
    | some (.lst xs) => (dats L n xs).map .list
    | _ => none)
  | _, _ => none
def dats (L : MH) : Nat → List D → Option (List PyData)
  | _, [] => some []
  | 0, _ :: _ => none
  | n + 1, x :: xs => (dat L n x).bind fun d => (dats L (n + 1) xs).map (d :: ·)
end
def scalD : D → D → Bool
  | .non, .non => true | .non, .int _ => true | .int _, .non => true | .non, .bl _ => true | .bl _, .non => true | .non, .str _ => true | .str _, .non => true
  | .int _, .int _ => true | .bl _, .bl _ => true | .str _, .str _ => true
  | .int _, .str _ => true | .str _, .int _ => true | .bl _, .str _ => true | .str _, .bl _ => true
  | _, _ => false
def eqS : D → D → Bool
  | .non, .non => true
  | .int a, .int b => decide (a = b)
  | .bl a, .bl b => decide (a = b)
  | .str a, .str b => decide (a = b)
  | _, _ => false
/-- == -/
def eqD (L : MH) (d e : D) : Option Bool := if scalD d e then some (eqS d e) else (dat L 80 d).bind fun x => (dat L 80 e).bind fun y => if SeqAt.shaped x && SeqAt.shaped y then some (PyData.eqv x y) else none
def flatD : D → Bool
  | .non => true
  | .bl _ => true
  | .int _ => true
  | .str _ => true
  | _ => false
/-- == of flat values -/
def eqf : D → D → Bool
  | .non, .non => true
  | .bl a, .bl b => a == b
  | .bl a, .int b => (if a then 1 else 0) == b
  | .int a, .bl b => a == (if b then 1 else 0)
  | .int a, .int b => a == b
  | .str a, .str b => a == b
  | _, _ => false
/-- what a list or a tuple holds -/
def seqD (L : MH) : D → Option (List D)
  | .tup xs => some xs
  | .fzl xs => some xs
  | .ref a => (match L[a]? with
    | some (.lst xs) => some xs
    | _ => none)
  | _ => none
def listD (L : MH) : D → Option (List D)
  | .fzl xs => some xs
  | .ref a => (match L[a]? with
    | some (.lst xs) => some xs
    | _ => none)
  | _ => none
/-- x in y -/
def inD (L : MH) (x : D) : D → Option Bool
  | .str t => (match x with
    | .str s => some (!(Builtin.Str.occurrences t s 0 t.length 1).isEmpty)
    | _ => none)
  | y => (seqD L y).bind fun xs => if flatD x && xs.all flatD then some (xs.any fun z => eqf z x) else
      (dat L 80 x).bind fun a => (dat L 80 y).bind fun b => (match b with
        | .list bs => if SeqAt.shaped a && SeqAt.shaped (.list bs) then some (bs.any fun z => PyData.eqv z a) else none
        | _ => none)
def okI (i : Int) : Bool := decide (-(2 ^ 64) < i) && decide (i < 2 ^ 64)
def sizeOkB (n : Nat) : Bool := decide (n ≤ 16777216)
inductive BOp where
  | add | sub | mul | fdiv | mod | pow
  deriving DecidableEq
/-- a new list -/
def newL (xs : List D) : M D := fun L => .ok (.ref L.length) (L ++ [.lst xs])
def binD (o : BOp) (d e : D) : M D := fun L => match o, d, e with
  | .add, .int i, .int j => .ok (.int (i + j)) L
  | .add, .str s, .str t => if sizeOkB (s.length + t.length) then .ok (.str (s ++ t)) L else .stk
  | .add, .tup xs, .tup ys => if sizeOkB (xs.length + ys.length) then .ok (.tup (xs ++ ys)) L else .stk
  | .add, .ref a, .ref b => (match L[a]?, L[b]? with
    | some (.lst xs), some (.lst ys) => if sizeOkB (xs.length + ys.length) then newL (xs ++ ys) L else .stk
    | _, _ => .stk)
  | .sub, .int i, .int j => .ok (.int (i - j)) L
  | .mul, .int i, .int j => if okI i || okI j then .ok (.int (i * j)) L else .stk
  | .fdiv, .int i, .int j => if decide (j ≠ 0) && decide (j.natAbs < 1073741824) then .ok (.int (i.fdiv j)) L else .stk
  | .mod, .int i, .int j => if decide (j ≠ 0) then .ok (.int (i.fmod j)) L else .stk
  | .pow, .int i, .int j => if decide (0 ≤ j) && decide (j ≤ 1000000) && decide (i.natAbs < 2 ^ 64) then .ok (.int (i ^ j.toNat)) L else .stk
  | _, _, _ => .stk
def negD : D → Option D
  | .int i => some (.int (-i))
  | _ => none
def cmpD (L : MH) : CmpOp → D → D → Option Bool
  | .Eq, d, e => eqD L d e
  | .NotEq, d, e => (eqD L d e).map (!·)
  | .Lt, .int i, .int j => some (decide (i < j))
  | .LtE, .int i, .int j => some (decide (i ≤ j))
  | .Gt, .int i, .int j => some (decide (j < i))
  | .GtE, .int i, .int j => some (decide (j ≤ i))
  | .In, d, e => inD L d e
  | .NotIn, d, e => (inD L d e).map (!·)
  | _, _, _ => none
def isNon : D → Bool
  | .non => true
  | _ => false
/-- truth -/
def truD (L : MH) : D → Option Bool
  | .non => some false
  | .bl b => some b
  | .int i => some (i != 0)
  | .str s => if sizeOkB s.length then some (s.length != 0) else none
  | d => (seqD L d).map fun xs => !xs.isEmpty
/-- an item -/
def ixD (L : MH) (d i : D) : Option D := match i with
  | .int i => (match d with
    | .str s => if sizeOkB s.length then (atI s.cps.toList i).map fun c => .str ⟨#[c]⟩ else none
    | d => (seqD L d).bind fun xs => atI xs i)
  | _ => none
def cutD (xs : List D) (lo hi : Option Int) : List D := (xs.drop (HT.sIx xs.length 0 lo)).take (HT.sIx xs.length xs.length hi - HT.sIx xs.length 0 lo)
/-- a slice -/
def slD (d : D) (lo hi : Option Int) : M D := fun L => match d with
  | .str s => if sizeOkB s.length then .ok (.str (Txt.slice s lo hi)) L else .stk
  | .tup xs => .ok (.tup (cutD xs lo hi)) L
  | d => (match listD L d with
    | some xs => newL (cutD xs lo hi) L
    | none => .stk)
def intD : D → Option Int
  | .int i => some i
  | _ => none
def strD : D → Option Str
  | .str s => some s
  | _ => none
def blD : D → Option Bool
  | .bl b => some b
  | _ => none
def mapO {α β : Type} (f : α → Option β) : List α → Option (List β)
  | [] => some []
  | x :: xs => (f x).bind fun y => (mapO f xs).map (y :: ·)

/-! ### built-ins -/
inductive Bi where
  | len | all | any | abs | int1 | list1 | tuple1 | str1
  deriving DecidableEq
def biD (b : Bi) (ds : List D) : M D := fun L => match b, ds with
  | .len, [.str s] => if sizeOkB s.length then .ok (.int s.length) L else .stk
  | .len, [d] => (match seqD L d with
    | some xs => .ok (.int xs.length) L
    | none => .stk)
  | .all, [d] => (match (listD L d).bind (mapO blD) with
    | some bs => .ok (.bl (bs.all id)) L
    | none => .stk)
  | .any, [d] => (match (listD L d).bind (mapO blD) with
    | some bs => .ok (.bl (bs.any id)) L
    | none => .stk)
  | .abs, [.int i] => .ok (.int (if i < 0 then -i else i)) L
  | .int1, [.int i] => .ok (.int i) L
  | .int1, [.bl k] => .ok (.int (if k then 1 else 0)) L
  | .int1, [.str s] => if decide (s.length ≤ 640) then (match PySem.intText? s with
    | some n => .ok (.int n) L
    | none => .stk) else .stk
  | .list1, [d] => (match seqD L d with
    | some xs => newL xs L
    | none => .stk)
  | .tuple1, [.tup xs] => .ok (.tup xs) L
  | .tuple1, [d] => (match listD L d with
    | some xs => .ok (.tup xs) L
    | none => .stk)
  | .str1, [.int i] => if decide (i.natAbs.log2 < 1920) then .ok (.str (toString i)) L else .stk
  | .str1, [.str s] => .ok (.str s) L
  | _, _ => .stk
inductive Bm where
  | join | append | insert | split | part | starts | ends
  deriving DecidableEq
def bmD (b : Bm) (o : D) (ds : List D) : M D := fun L => match b, o, ds with
  | .join, .str a, [d] => (match (seqD L d).bind (mapO strD) with
    | some ys => if decide ((ys.map (·.length)).sum + ys.length * a.length ≤ 16777216) then .ok (.str (Txt.join a ys)) L else .stk
    | none => .stk)
  | .append, .ref l, [d] => (match L[l]? with
    | some (.lst xs) => if decide (xs.length < 16777216) then .ok .non (L.set l (.lst (xs ++ [d]))) else .stk
    | _ => .stk)
  | .insert, .ref l, [.int i, d] => (match L[l]? with
    | some (.lst xs) => if decide (xs.length < 16777216) && decide (0 ≤ i) && decide (i < 2 ^ 63) then .ok .non (L.set l (.lst (xs.take i.toNat ++ [d] ++ xs.drop i.toNat))) else .stk
    | _ => .stk)
  | .split, .str a, [.str b] => if decide ((b.length == 0) = false) && sizeOkB (a.length + 2) then newL ((Txt.split a b).map .str) L else .stk
  | .part, .str a, [.str b] => if decide ((b.length == 0) = false) && sizeOkB a.length then .ok (.tup [.str (Txt.partition a b).1, .str (Txt.partition a b).2.1, .str (Txt.partition a b).2.2]) L else .stk
  | .starts, .str a, [.str b] => .ok (.bl (Txt.startswith a b)) L
  | .ends, .str a, [.str b] => .ok (.bl (Txt.endswith a b)) L
  | _, _, _ => .stk
/-- a class that isinstance asks of: a built-in one, one of the program's -/
inductive Ty where
  | bt (n : String) | own (c : Nat)
  deriving DecidableEq
/-- a value's type -/
inductive Tag where
  | non | bl | int | str | lst | tup | ins (c : Nat)
  deriving DecidableEq
def tagOf (L : MH) : D → Option Tag
  | .non => some .non
  | .bl _ => some .bl
  | .int _ => some .int
  | .str _ => some .str
  | .tup _ => some .tup
  | .fzl _ => some .lst
  | .ref a => (match L[a]? with
    | some (.lst _) => some .lst
    | some (.ins c _) => some (.ins c)
    | none => none)
  | _ => none
def bmTag : Bm → Tag
  | .join => .str | .append => .lst | .insert => .lst | .split => .str | .part => .str | .starts => .str | .ends => .str

/-! ### the language -/
mutual
inductive Ex where
  | var (i : Nat) | cint (i : Int) | cstr (s : Str) | cbl (b : Bool) | cnon | gcon (k : Nat)
  | bop (o : BOp) (a b : Ex) | neg (a : Ex)
  | cmp (o : CmpOp) (a b : Ex) | isn (a : Ex) | nisn (a : Ex) | chain (o p : CmpOp) (a b c : Ex)
  | and (a b : Ex) | or (a b : Ex) | not (a : Ex) | ife (c a b : Ex)
  | tup (es : Exs) | lst (es : Exs)
  | ix (a i : Ex) | sl (a : Ex) (lo hi : Ox)
  | call (f : Nat) (es : Exs) (ks : List Nat) (kes : Exs)
  | meth (o : Ex) (n : Nat) (es : Exs) (ks : List Nat) (kes : Exs)
  | make (c : Nat) (es : Exs) (ks : List Nat) (kes : Exs)
  | attr (o : Ex) (n : Nat)
  | bi (b : Bi) (es : Exs) | bm (b : Bm) (o : Ex) (es : Exs)
  | isin (a : Ex) (ts : List Ty)
  | fstr (es : Exs)
  | lc (e : Ex) (t : Tg) (it : It) (ifs : Ox) (own : List Nat)
  | bad
inductive Exs where
  | nil | cons (e : Ex) (r : Exs)
inductive Ox where
  | none | some (e : Ex)
/-- what a for walks -/
inductive It where
  | seq (e : Ex) | rng1 (e : Ex) | rng2 (a b : Ex) | enum (e : Ex) | zip (a b : Ex) | bad
/-- a target -/
inductive Tg where
  | var (i : Nat) | tup (ts : Tgs) | star (ts : Tgs) | sub (o i : Ex) | attr (o : Ex) (n : Nat) | bad
inductive Tgs where
  | nil | cons (t : Tg) (r : Tgs)
end
mutual
inductive Sm where
  | asg (t : Tg) (e : Ex) | par (is : List Nat) (es : Exs) | aug (i : Nat) (o : BOp) (e : Ex)
  | expr (e : Ex) | ret (e : Ex) | retn | doc
  | ife (c : Ex) (a b : Sms) | fr (t : Tg) (it : It) (b : Sms) | whl (c : Ex) (b : Sms)
  | pass | brk | cont | bad
inductive Sms where
  | nil | cons (s : Sm) (r : Sms)
end

/-! ### the program's tables -/
structure Fd where
  ps : List Nat          -- the parameters' names (numbers of names)
  np : Nat               -- so many may be positional
  ns : Nat               -- slots
  dfl : List (Option D)  -- a default for each parameter, if any
  body : Sms
structure Tb where
  fn : Nat → Option Fd
  con : Nat → Option D
  meth : Nat → Nat → Option Nat
  prop : Nat → Nat → Option Nat
  ccon : Nat → Nat → Option D
  noat : Nat → Nat → Bool
  init : Nat → Option Nat
  kit : Tag → Ty → Option Bool
/-- how arguments come to the parameters -/
def bindK {κ α : Type} [BEq κ] (ps : List κ) (np : Nat) (dfl : List (Option α)) (vs : List α) (ks : List κ) (zs : List α) : Option (List α) :=
  if (decide (vs.length ≤ np) && decide (ks.length = zs.length) && ks.all fun k => (ps.drop vs.length).contains k) then
    mapO (fun p => ((ps.zip vs ++ ks.zip zs).lookup p.1).or p.2) (ps.zip dfl)
  else none

section
variable (T : Tb) (C : Nat → List D → M D)
/-- isinstance -/
def tyIs (L : MH) (d : D) (t : Ty) : Option Bool := (tagOf L d).bind fun k => T.kit k t
def isinD (L : MH) (d : D) (ts : List Ty) : Option Bool := (mapO (tyIs T L d) ts).map fun bs => bs.any id
/-- a call of the function f -/
def callD (f : Nat) (vs : List D) (ks : List Nat) (zs : List D) : M D := match (T.fn f).bind fun fd => bindK fd.ps fd.np fd.dfl vs ks zs with
  | some ds => C f ds
  | none => stuck
def clsOf (L : MH) : D → Option Nat
  | .ref a => (match L[a]? with
    | some (.ins c _) => some c
    | _ => none)
  | _ => none
def insOf (L : MH) : D → Option (Nat × List (Nat × D))
  | .ref a => (match L[a]? with
    | some (.ins c fs) => some (c, fs)
    | _ => none)
  | _ => none
/-- the method n of o, called -/
def methD (o : D) (n : Nat) (vs : List D) (ks : List Nat) (zs : List D) : M D := fun L => match insOf L o with
  | some (c, fs) => (match fs.lookup n, T.meth c n with
    | none, some f => callD T C f (o :: vs) ks zs L
    | _, _ => .stk)
  | none => .stk
def attrD (o : D) (n : Nat) : M D := fun L => match insOf L o with
  | some (c, fs) => (match T.prop c n with
   | some f => (callD T C f [o] [] [] L).quiet
   | none => match fs.lookup n with
    | some d => if T.noat c n then .ok d L else .stk
    | none => (match T.ccon c n with
      | some d => .ok d L
      | none => .stk))
  | none => .stk
/-- a new instance -/
def makeD (c : Nat) (vs : List D) (ks : List Nat) (zs : List D) : M D := fun L => match T.init c with
  | some f => (callD T C f (.ref L.length :: vs) ks zs (L ++ [.ins c []])).bind fun r L1 => if isNon r then .ok (.ref L.length) L1 else .stk
  | none => .stk
def setAttrD (o : D) (n : Nat) (d : D) : M Unit := fun L => match o with
  | .ref a => (match L[a]? with
    | some (.ins c fs) => if T.noat c n && decide (fs.length < 1000) then .ok () (L.set a (.ins c (putN n d fs))) else .stk
    | _ => .stk)
  | _ => .stk
def setItemD (o i d : D) : M Unit := fun L => match o, i with
  | .ref a, .int k => (match L[a]? with
    | some (.lst xs) => (match ixN xs.length k with
      | some j => .ok () (L.set a (.lst (xs.set j d)))
      | none => .stk)
    | _ => .stk)
  | _, _ => .stk
def fmtD : D → Option Str
  | .str s => if sizeOkB s.length then some s else none
  | .int i => if decide (i.natAbs.log2 < 1920) then some (toString i) else none
  | _ => none
end
/-- where items come from: a list as it stands at each turn, values -/
inductive Src where
  | lst (a : Nat) | val (xs : List D)
def srcOf (L : MH) : D → Option Src
  | .tup xs => some (.val xs)
  | .fzl xs => some (.val xs)
  | .str s => if sizeOkB s.length then some (.val (s.cps.toList.map fun c => .str ⟨#[c]⟩)) else none
  | .ref a => (match L[a]? with
    | some (.lst _) => some (.lst a)
    | _ => none)
  | _ => none
def Src.at (L : MH) (s : Src) (i : Nat) : Option (Option D) := match s with
  | .val xs => some xs[i]?
  | .lst a => (match L[a]? with
    | some (.lst xs) => some xs[i]?
    | _ => none)
def Src.len (L : MH) : Src → Nat
  | .val xs => xs.length
  | .lst a => (match L[a]? with
    | some (.lst xs) => xs.length
    | _ => 0)
inductive Wk where
  | src (s : Src) | rng (lo : Int) (n : Nat) | enum (s : Src) | zip (s t : Src)
def Wk.at (L : MH) (w : Wk) (i : Nat) : Option (Option D) := match w with
  | .src s => s.at L i
  | .rng lo n => some (if i < n then some (.int (lo + i)) else none)
  | .enum s => (s.at L i).map fun o => o.map fun x => .tup [.int i, x]
  | .zip s t => (s.at L i).bind fun o => (t.at L i).map fun p => (match o, p with
    | some x, some y => some (.tup [x, y])
    | _, _ => none)
def Wk.len (L : MH) : Wk → Nat
  | .src s => s.len L
  | .rng _ n => n
  | .enum s => s.len L
  | .zip s t => min (s.len L) (t.len L)
/-- how a statement ends -/
inductive Fl where
  | nx (ρ : Loc) | rt (d : D) | bk (ρ : Loc) | ct (ρ : Loc) | xc (ρ : Loc) (c : Nat) (fs : List (Nat × D))
/-- what raises is a statement's end -/
def Res.bindX {α : Type} (r : Res α) (ρ : Loc) (f : α → M Fl) : Res Fl := match r with
  | .ok a L => f a L
  | .exc c fs L => .ok (.xc ρ c fs) L
  | .stk => .stk
/-- what is walked by enumerate, by zip -/
def enumOf (L : MH) (d : D) : Option Wk := match listD L d with
  | some _ => (srcOf L d).map .enum
  | none => none
def zipOf (L : MH) (d e : D) : Option Wk := match d, e with
  | .tup xs, .tup ys => some (.zip (.val xs) (.val ys))
  | _, _ => (match listD L d, listD L e with
    | some _, some _ => (srcOf L d).bind fun s => (srcOf L e).map fun t => .zip s t
    | _, _ => none)
def smallI (i : Int) : Bool := decide (-(2 ^ 62) ≤ i) && decide (i < 2 ^ 62)

def tgLen : Tgs → Nat
  | .nil => 0
  | .cons _ r => tgLen r + 1
section
variable (T : Tb) (C : Nat → List D → M D)
/-- a comprehension's turns: the list at n grows -/
def lcL (elt : Loc → M D) (test : Loc → M Bool) (put : D → Loc → M Loc) (w : Wk) (n : Nat) (ρ : Loc) : Nat → Nat → M Unit
  | 0, i => fun L => (match w.at L i with
    | some none => .ok () L
    | _ => .stk)
  | k + 1, i => fun L => (match w.at L i with
    | some none => .ok () L
    | some (some x) => ((put x ρ L).bind fun ρ1 L1 => (test ρ1 L1).bind fun b L2 => if b then (elt ρ1 L2).bind fun d L3 => (match L3[n]? with
        | some (.lst xs) => if decide (xs.length < 16777216) then lcL elt test put w n ρ k (i + 1) (L3.set n (.lst (xs ++ [d]))) else .stk
        | _ => .stk) else lcL elt test put w n ρ k (i + 1) L2)
    | none => .stk)
/-- a for's turns -/
def forL (body : Loc → M Fl) (put : D → Loc → M Loc) (w : Wk) : Nat → Nat → Loc → M Fl
  | 0, i, ρ => fun L => (match w.at L i with
    | some none => .ok (.nx ρ) L
    | _ => .stk)
  | k + 1, i, ρ => fun L => (match w.at L i with
    | some none => .ok (.nx ρ) L
    | some (some x) => ((put x ρ L).quiet.bind fun ρ1 L1 => (body ρ1 L1).bind fun fl L2 => (match fl with
        | .nx ρ2 => forL body put w k (i + 1) ρ2 L2
        | .ct ρ2 => forL body put w k (i + 1) ρ2 L2
        | .bk ρ2 => .ok (.nx ρ2) L2
        | .rt d => .ok (.rt d) L2
        | .xc ρ2 c fs => .ok (.xc ρ2 c fs) L2))
    | none => .stk)
/-- a while's turns -/
def whlL (test : Loc → M Bool) (body : Loc → M Fl) : Nat → Loc → M Fl
  | 0, _ => stuck
  | k + 1, ρ => fun L => (test ρ L).bindX ρ fun b L1 => if b then (body ρ L1).bind fun fl L2 => (match fl with
        | .nx ρ2 => whlL test body k ρ2 L2
        | .ct ρ2 => whlL test body k ρ2 L2
        | .bk ρ2 => .ok (.nx ρ2) L2
        | .rt d => .ok (.rt d) L2
        | .xc ρ2 c fs => .ok (.xc ρ2 c fs) L2) else .ok (.nx ρ) L1

mutual
def evE : Ex → Loc → M D
  | .var i, ρ => (match ρ[i]? with
    | some (some d) => ret d
    | _ => stuck)
  | .cint i, _ => ret (.int i)
  | .cstr s, _ => ret (.str s)
  | .cbl b, _ => ret (.bl b)
  | .cnon, _ => ret .non
  | .gcon k, _ => must (T.con k)
  | .bop o a b, ρ => fun L => (evE a ρ L).bind fun d L1 => (evE b ρ L1).bind fun e L2 => binD o d e L2
  | .neg a, ρ => fun L => (evE a ρ L).bind fun d => must (negD d)
  | .cmp o a b, ρ => fun L => (evE a ρ L).bind fun d L1 => (evE b ρ L1).bind fun e L2 => must ((cmpD L2 o d e).map .bl) L2
  | .isn a, ρ => fun L => (evE a ρ L).bind fun d => ret (.bl (isNon d))
  | .nisn a, ρ => fun L => (evE a ρ L).bind fun d => ret (.bl (!isNon d))
  | .chain o p a b c, ρ => fun L => (evE a ρ L).bind fun d L1 => (evE b ρ L1).bind fun e L2 => (match cmpD L2 o d e with
    | some true => (evE c ρ L2).bind fun f L3 => must ((cmpD L3 p e f).map .bl) L3
    | some false => .ok (.bl false) L2
    | none => .stk)
  | .and a b, ρ => fun L => (evE a ρ L).bind fun d L1 => (match truD L1 d with
    | some true => evE b ρ L1
    | some false => .ok d L1
    | none => .stk)
  | .or a b, ρ => fun L => (evE a ρ L).bind fun d L1 => (match truD L1 d with
    | some true => .ok d L1
    | some false => evE b ρ L1
    | none => .stk)
  | .not a, ρ => fun L => (evE a ρ L).bind fun d L1 => must ((truD L1 d).map fun b => .bl (!b)) L1
  | .ife c a b, ρ => fun L => (evE c ρ L).bind fun d L1 => (match truD L1 d with
    | some true => evE a ρ L1
    | some false => evE b ρ L1
    | none => .stk)
  | .tup es, ρ => fun L => (evEs es ρ L).bind fun ds => if sizeOkB ds.length then ret (.tup ds) else stuck
  | .lst es, ρ => fun L => (evEs es ρ L).bind fun ds => if sizeOkB ds.length then newL ds else stuck
  | .ix a i, ρ => fun L => (evE a ρ L).bind fun d L1 => (evE i ρ L1).bind fun e L2 => must (ixD L2 d e) L2
  | .sl a lo hi, ρ => fun L => (evE a ρ L).bind fun d L1 => (evO lo ρ L1).bind fun l L2 => (evO hi ρ L2).bind fun h L3 => slD d l h L3
  | .call f es ks kes, ρ => fun L => (evEs es ρ L).bind fun ds L1 => (evEs kes ρ L1).bind fun zs => callD T C f ds ks zs
  | .meth o n es ks kes, ρ => fun L => (evE o ρ L).bind fun d L1 => (match insOf L1 d with
    | some (c, fs) => (match fs.lookup n, T.meth c n with
      | none, some f => (evEs es ρ L1).bind fun ds L2 => (evEs kes ρ L2).bind fun zs => callD T C f (d :: ds) ks zs
      | _, _ => .stk)
    | none => .stk)
  | .make c es ks kes, ρ => fun L => (evEs es ρ L).bind fun ds L1 => (evEs kes ρ L1).bind fun zs => makeD T C c ds ks zs
  | .attr o n, ρ => fun L => (evE o ρ L).bind fun d => attrD T C d n
  | .bi b es, ρ => fun L => (evEs es ρ L).bind fun ds => biD b ds
  | .bm b o es, ρ => fun L => (evE o ρ L).bind fun d L1 => if tagOf L1 d = some (bmTag b) then (evEs es ρ L1).bind fun ds => bmD b d ds else .stk
  | .isin a ts, ρ => fun L => (evE a ρ L).bind fun d L1 => must ((isinD T L1 d ts).map .bl) L1
  | .fstr es, ρ => fun L => (evFs es Str.empty ρ L).bind fun s => ret (.str s)
  | .lc e t it ifs own, ρ => fun L => (evI it ρ L).bind fun w L1 =>
      (lcL (evE e) (evT ifs) (puT t) w L1.length (wipeL ρ own) (w.len (L1 ++ [.lst []])) 0 (L1 ++ [.lst []])).quiet.bind fun _ => ret (.ref L1.length)
  | .bad, _ => stuck
def evEs : Exs → Loc → M (List D)
  | .nil, _ => ret []
  | .cons e r, ρ => fun L => (evE e ρ L).bind fun d L1 => (evEs r ρ L1).bind fun ds => ret (d :: ds)
/-- f-string's parts -/
def evFs : Exs → Str → Loc → M Str
  | .nil, acc, _ => ret acc
  | .cons e r, acc, ρ => fun L => (evE e ρ L).bind fun d L1 => (match fmtD d with
    | some y => if sizeOkB (acc ++ y).length then evFs r (acc ++ y) ρ L1 else .stk
    | none => .stk)
/-- a part of a slice -/
def evO : Ox → Loc → M (Option Int)
  | .none, _ => ret none
  | .some e, ρ => fun L => (evE e ρ L).bind fun d => must ((intD d).map some)
/-- a comprehension's test -/
def evT : Ox → Loc → M Bool
  | .none, _ => ret true
  | .some e, ρ => fun L => (evE e ρ L).bind fun d L1 => must (truD L1 d) L1
def evI : It → Loc → M Wk
  | .seq e, ρ => fun L => (evE e ρ L).bind fun d L1 => must ((srcOf L1 d).map .src) L1
  | .rng1 e, ρ => fun L => (evE e ρ L).bind fun d => (match d with
    | .int j => if smallI j then ret (.rng 0 j.toNat) else stuck
    | _ => stuck)
  | .rng2 a b, ρ => fun L => (evE a ρ L).bind fun d L1 => (evE b ρ L1).bind fun e => (match d, e with
    | .int i, .int j => if smallI i && smallI j then ret (.rng i (j - i).toNat) else stuck
    | _, _ => stuck)
  | .enum e, ρ => fun L => (evE e ρ L).bind fun d L1 => must (enumOf L1 d) L1
  | .zip a b, ρ => fun L => (evE a ρ L).bind fun d L1 => (evE b ρ L1).bind fun e L2 => must (zipOf L2 d e) L2
  | .bad, _ => stuck
/-- a target takes a value -/
def puT : Tg → D → Loc → M Loc
  | .var i, d, ρ => ret (ρ.set i (some d))
  | .tup ts, d, ρ => (match d with
    | .tup xs => if tgLen ts = xs.length then puTs ts xs ρ else stuck
    | _ => stuck)
  | .star ts, d, ρ => fun L => (match listD L d with
    | some xs => if decide (tgLen ts ≤ xs.length + 1) && decide (xs.length ≤ 16384) then (newL (xs.drop (tgLen ts - 1)) L).bind fun d => puTs ts (xs.take (tgLen ts - 1) ++ [d]) ρ else .stk
    | none => .stk)
  | .sub o i, d, ρ => fun L => (evE o ρ L).bind fun a L1 => (evE i ρ L1).bind fun k L2 => (setItemD a k d L2).bind fun _ => ret ρ
  | .attr o n, d, ρ => fun L => (evE o ρ L).bind fun a L1 => (setAttrD T a n d L1).bind fun _ => ret ρ
  | .bad, _, _ => stuck
def puTs : Tgs → List D → Loc → M Loc
  | .nil, xs, ρ => (match xs with
    | [] => ret ρ
    | _ => stuck)
  | .cons t r, xs, ρ => (match xs with
    | x :: xs => fun L => (puT t x ρ L).bind fun ρ1 => puTs r xs ρ1
    | [] => stuck)
end
/-- a test -/
def evB (e : Ex) (ρ : Loc) : M Bool := fun L => (evE T C e ρ L).bind fun d L1 => must (truD L1 d) L1
def setAll (ρ : Loc) : List Nat → List D → Loc
  | i :: is, d :: ds => setAll (ρ.set i (some d)) is ds
  | _, _ => ρ
def augD : BOp → D → D → Option D
  | .add, .int i, .int j => some (.int (i + j))
  | .sub, .int i, .int j => some (.int (i - j))
  | _, _, _ => none
mutual
def exS (wf : Nat) : Sm → Loc → M Fl
  | .asg t e, ρ => fun L => (evE T C e ρ L).bindX ρ fun d L1 => (puT T C t d ρ L1).quiet.bind fun ρ1 => ret (.nx ρ1)
  | .par is es, ρ => fun L => (evEs T C es ρ L).bindX ρ fun ds => if is.length = ds.length then ret (.nx (setAll ρ is ds)) else stuck
  | .aug i o e, ρ => fun L => (match ρ[i]? with
    | some (some d) => (evE T C e ρ L).bindX ρ fun e L1 => (match augD o d e with
      | some f => .ok (.nx (ρ.set i (some f))) L1
      | none => .stk)
    | _ => .stk)
  | .expr e, ρ => fun L => (evE T C e ρ L).bindX ρ fun _ => ret (.nx ρ)
  | .ret e, ρ => fun L => (evE T C e ρ L).bindX ρ fun d => ret (.rt d)
  | .retn, _ => ret (.rt .non)
  | .doc, ρ => ret (.nx ρ)
  | .ife c a b, ρ => fun L => (evB T C c ρ L).bindX ρ fun b' L1 => if b' then exSs wf a ρ L1 else exSs wf b ρ L1
  | .fr t it b, ρ => fun L => (evI T C it ρ L).bindX ρ fun w L1 => forL (exSs wf b) (puT T C t) w (w.len L1) 0 ρ L1
  | .whl c b, ρ => whlL (evB T C c) (exSs wf b) wf ρ
  | .pass, ρ => ret (.nx ρ)
  | .brk, ρ => ret (.bk ρ)
  | .cont, ρ => ret (.ct ρ)
  | .bad, _ => stuck
def exSs (wf : Nat) : Sms → Loc → M Fl
  | .nil, ρ => ret (.nx ρ)
  | .cons s r, ρ => fun L => (exS wf s ρ L).bind fun fl => (match fl with
    | .nx ρ1 => exSs wf r ρ1
    | fl => ret fl)
end
/-- a body's value -/
def runD (wf : Nat) (fd : Fd) (ds : List D) : M D := fun L => (exSs T C wf fd.body (ds.map some ++ List.replicate (fd.ns - ds.length) none) L).quiet.bind fun fl => (match fl with
  | .nx _ => ret .non
  | .rt d => ret d
  | .xc _ c fs => fun L => .exc c fs L
  | _ => stuck)
end
/-- calls n deep; wf: more than any while turns -/
def callN (T : Tb) (wf : Nat) : Nat → Nat → List D → M D
  | 0, _, _ => stuck
  | n + 1, f, ds => (match T.fn f with
    | some fd => if ds.length = fd.ps.length then runD T (callN T wf n) wf fd ds else stuck
    | none => stuck)
end Mi
end

section
set_option Elab.async false
set_option linter.all false
set_option maxRecDepth 100000
set_option maxHeartbeats 4000000
/-! Mi, part D: the operations by values do what the evaluator says. -/
namespace Mi
open PySem PySem.Spec PyProof.Rows L2

theorem line_eq : sizeLine = 16777216 := sizeLine_eq
theorem okB {n : Nat} (h : sizeOkB n = true) : n ≤ sizeLine := by rw [line_eq]; exact of_decide_eq_true h

section
variable {g : G} {E : XK} {m : List Addr} {L : MH} {H : Hp} {Q : VK} {xs ys : List D} {vs ws : List V} {a p : Addr} {d e : D} {v x y : V} {l : Nat}
/-- a new list -/
theorem newL_post (hr : HRel g m L H) (r : RelDs g m H xs vs) (h : Post g E (RD g) m H (newL xs L) Q) : ∀ p, H p = none → Q (.ref p) (upd H p (.lst vs)) := fun p hp => by
  refine h (m ++ [p]) (upd H p (.lst vs)) (.ref p) (Ev.push hp) (hr.push hp ⟨vs, upd_same, r.mono (Ev.push hp)⟩) (.ref ?_)
  rw [← hr.len]
  exact getElem?_snoc _ _
/-- a new tuple -/
theorem tup_post (hr : HRel g m L H) (r : RelDs g m H xs vs) (h : Post g E (RD g) m H (.ok (.tup xs) L) Q) : ∀ p, H p = none → Q (.ref p) (upd H p (.tup vs)) := fun p hp =>
  h m (upd H p (.tup vs)) (.ref p) (Ev.upd_free hp) (hr.laid hp) (.tup (SqT.of upd_same) (r.mono (Ev.upd_free hp)))
theorem HRel.lstAt (hr : HRel g m L H) (e : L[l]? = some (.lst xs)) : ∃ a vs, m[l]? = some a ∧ H a = some (.lst vs) ∧ RelDs g m H xs vs := by
  obtain ⟨a, h1, _, vs, h2, h3⟩ := hr.addr e
  exact ⟨a, vs, h1, h2, h3⟩
theorem HRel.insAt {c : Nat} {fs : List (Nat × D)} (hr : HRel g m L H) (e : L[l]? = some (.ins c fs)) : ∃ a dx vfs, m[l]? = some a ∧ H a = some (.ins (g.cad c) dx vfs) ∧ RelF g m H fs vfs := by
  obtain ⟨a, h1, _, dx, vfs, h2, h3⟩ := hr.addr e
  exact ⟨a, dx, vfs, h1, h2, h3⟩
/-- a list is changed -/
theorem set_post {α β : Type} {R : List Addr → Hp → α → β → Prop} {Q : β → Hp → Prop} {r : α} {q : β} (hr : HRel g m L H) (hm : m[l]? = some a) (ha : H a = some (.lst ws)) (rr : R m (upd H a (.lst vs)) r q) (rx : RelDs g m H xs vs)
    (h : Post g E R m H (.ok r (L.set l (.lst xs))) Q) : Q q (upd H a (.lst vs)) :=
  h m _ q (Ev.write_lst ha) (hr.set hm (Ev.write_lst ha) ⟨vs, upd_same, rx.mono (Ev.write_lst ha)⟩) rr
/-- what a value stands for, as a sequence -/
theorem seqD_rel (hr : HRel g m L H) (rd : RelD g m H d x) (e : seqD L d = some xs) : ∃ a vs, x = .ref a ∧ (SqL g.K H a vs ∨ SqT g.K H a vs) ∧ RelDs g m H xs vs := by
  cases rd with
  | @ref n a hm =>
    simp only [seqD] at e
    split at e
    · rename_i ys q
      cases e
      obtain ⟨a', vs, h1, h2, h3⟩ := hr.lstAt q
      rw [hm] at h1
      cases h1
      exact ⟨a, vs, rfl, .inl (SqL.of h2), h3⟩
    · cases e
  | tup h r => cases e; exact ⟨_, _, rfl, .inr h, r⟩
  | fzl h r => cases e; exact ⟨_, _, rfl, .inl h.sqL, r⟩
  | _ => cases e
theorem listD_rel (hr : HRel g m L H) (rd : RelD g m H d x) (e : listD L d = some xs) : ∃ a vs, x = .ref a ∧ SqL g.K H a vs ∧ RelDs g m H xs vs := by
  cases rd with
  | @ref n a hm =>
    simp only [listD] at e
    split at e
    · rename_i ys q
      cases e
      obtain ⟨a', vs, h1, h2, h3⟩ := hr.lstAt q
      rw [hm] at h1
      cases h1
      exact ⟨a, vs, rfl, SqL.of h2, h3⟩
    · cases e
  | fzl h r => cases e; exact ⟨_, _, rfl, h.sqL, r⟩
  | _ => cases e
/-! ### data -/
mutual
theorem dat_rel (hr : HRel g m L H) : ∀ (n : Nat) (d : D) (z : PyData) (x : V), dat L n d = some z → RelD g m H d x → Dp g.K H x z
  | _, .non, _, _, e, r => by simp only [dat] at e; cases e; cases r; exact .non
  | _, .bl b, _, _, e, r => by simp only [dat] at e; cases e; cases r; exact .bl b
  | _, .int i, _, _, e, r => by simp only [dat] at e; cases e; cases r; exact .int i
  | _, .str s, _, _, e, r => by simp only [dat] at e; cases e; cases r; exact .str s
  | 0, .tup _, _, _, e, _ => by simp only [dat] at e; cases e
  | 0, .fzl _, _, _, e, _ => by simp only [dat] at e; cases e
  | 0, .ref _, _, _, e, _ => by simp only [dat] at e; cases e
  | 0, .ty _, _, _, e, _ => by simp only [dat] at e; cases e
  | 0, .glo _, _, _, e, _ => by simp only [dat] at e; cases e
  | n + 1, .ty _, _, _, e, _ => by simp only [dat] at e; cases e
  | n + 1, .glo _, _, _, e, _ => by simp only [dat] at e; cases e
  | n + 1, .tup xs, z, _, e, r => by
    simp only [dat] at e
    cases q : dats L n xs with
    | none => rw [q] at e; cases e
    | some zs =>
      rw [q] at e
      cases e
      cases r with
      | tup h rs => exact .tup h (dats_rel hr n xs zs _ q rs)
  | n + 1, .fzl xs, z, _, e, r => by
    simp only [dat] at e
    cases q : dats L n xs with
    | none => rw [q] at e; cases e
    | some zs =>
      rw [q] at e
      cases e
      cases r with
      | fzl h rs => exact .lst h.sqL (dats_rel hr n xs zs _ q rs)
  | n + 1, .ref a, z, _, e, r => by
    simp only [dat] at e
    split at e
    · rename_i xs q0
      cases q : dats L n xs with
      | none => rw [q] at e; cases e
      | some zs =>
        rw [q] at e
        cases e
        cases r with
        | ref hm =>
          obtain ⟨a', vs, h1, h2, h3⟩ := hr.lstAt q0
          rw [hm] at h1
          cases h1
          exact .lst (SqL.of h2) (dats_rel hr n xs zs _ q h3)
    · cases e
  termination_by n d => (n, 0)
theorem dats_rel (hr : HRel g m L H) : ∀ (n : Nat) (ds : List D) (zs : List PyData) (xs : List V), dats L n ds = some zs → RelDs g m H ds xs → DpAll g.K H xs zs
  | _, [], _, _, e, r => by simp only [dats] at e; cases e; cases r; exact .nil
  | 0, _ :: _, _, _, e, _ => by simp only [dats] at e; cases e
  | n + 1, d :: ds, zs, _, e, r => by
    simp only [dats] at e
    cases q : dat L n d with
    | none => rw [q] at e; cases e
    | some z =>
      rw [q] at e
      cases q2 : dats L (n + 1) ds with
      | none => simp [q2] at e
      | some zs' =>
        simp only [q2, Option.bind_some, Option.map_some, Option.some.injEq] at e
        subst e
        cases r with
        | cons h rs => exact .cons (dat_rel hr n d z _ q h) (dats_rel hr (n + 1) ds zs' _ q2 rs)
  termination_by n ds => (n, ds.length + 1)
end
theorem scal_rel (rd : RelD g m H d x) (re : RelD g m H e y) (h : scalD d e = true) : scal x y = true ∧ decide (x = y) = eqS d e := by
  cases rd <;> cases re <;> first | exact ⟨rfl, by simp [eqS]⟩ | cases h
theorem eqD_rel {b : Bool} (hr : HRel g m L H) (rd : RelD g m H d x) (re : RelD g m H e y) (h : eqD L d e = some b) :
    (scal x y = true ∧ decide (x = y) = b) ∨ ∃ z w, Dp g.K H x z ∧ Dp g.K H y w ∧ SeqAt.shaped z = true ∧ SeqAt.shaped w = true ∧ PyData.eqv z w = b := by
  unfold eqD at h
  split at h
  · rename_i q
    obtain ⟨h1, h2⟩ := scal_rel rd re q
    cases h
    exact .inl ⟨h1, h2⟩
  · cases q1 : dat L 80 d with
    | none => rw [q1] at h; cases h
    | some z =>
      rw [q1] at h
      cases q2 : dat L 80 e with
      | none => simp [q2] at h
      | some w =>
        simp only [q2, Option.bind_some] at h
        split at h
        · rename_i q3
          cases h
          obtain ⟨s1, s2⟩ := Bool.and_eq_true_iff.mp q3
          exact .inr ⟨z, w, dat_rel hr _ _ _ _ q1 rd, dat_rel hr _ _ _ _ q2 re, s1, s2, rfl⟩
        · cases h
theorem flat_rel (rd : RelD g m H d x) (h : flatD d = true) : flatV x = true := by
  cases rd <;> first | rfl | cases h
theorem flats_rel : ∀ {xs : List D} {vs : List V}, RelDs g m H xs vs → xs.all flatD = true → vs.all flatV = true
  | _, _, .nil, _ => rfl
  | _, _, .cons r rs, h => by
    rw [List.all_cons, Bool.and_eq_true] at h ⊢
    exact ⟨flat_rel r h.1, flats_rel rs h.2⟩
theorem eqf_rel (rd : RelD g m H d x) (re : RelD g m H e y) (h1 : flatD d = true) (h2 : flatD e = true) : eqV x y = eqf d e := by
  cases rd <;> cases re <;> first | rfl | cases h1 | cases h2
theorem any_rel (rd : RelD g m H d x) (fd : flatD d = true) : ∀ {xs : List D} {vs : List V}, RelDs g m H xs vs → xs.all flatD = true → inV x vs = xs.any fun z => eqf z d
  | _, _, .nil, _ => rfl
  | _, _, .cons r rs, h => by
    rw [List.all_cons, Bool.and_eq_true] at h
    have ih := any_rel rd fd rs h.2
    show ((eqV _ x) || inV x _) = _
    rw [List.any_cons, ih, eqf_rel r rd h.1 fd]
theorem tru_rel {b : Bool} (hr : HRel g m L H) (rd : RelD g m H d x) (h : truD L d = some b) : TruV g.K x H b := by
  have seq : (seqD L d).map (fun xs => !xs.isEmpty) = some b → TruV g.K x H b := fun q => by
    cases e : seqD L d with
    | none => rw [e] at q; cases q
    | some xs =>
      rw [e] at q
      cases q
      obtain ⟨a, vs, rfl, h1, h2⟩ := seqD_rel hr rd e
      have hl := h2.length
      have hb : (!xs.isEmpty) = !vs.isEmpty := by
        cases h2 <;> rfl
      rcases h1 with h1 | h1
      · exact .inl ⟨vs, h1, hb⟩
      · exact .inr (.inl ⟨vs, h1, hb⟩)
  cases rd with
  | non => cases h; rfl
  | bl b => cases h; rfl
  | int i => cases h; rfl
  | str s =>
    simp only [truD] at h
    split at h
    · rename_i q
      cases h
      refine ⟨okB q, ?_⟩
      cases hs : s.length <;> rfl
    · cases h
  | ty n => cases h
  | glo k => cases h
  | ref hm => exact seq h
  | tup h1 r => exact seq h
  | fzl h1 r => exact seq h
theorem cut_rel (r : RelDs g m H xs vs) (lo hi : Option Int) : RelDs g m H (cutD xs lo hi) (cutV vs lo hi) := by
  unfold cutD cutV
  rw [← r.length]
  exact (r.drop _).take _
theorem mapO_bl : ∀ {xs : List D} {vs : List V} {bs : List Bool}, RelDs g m H xs vs → mapO blD xs = some bs → vs = bs.map V.bl
  | _, _, _, .nil, h => by cases h; rfl
  | _, _, _, .cons r rs, h => by
    rename_i d v ds vs
    simp only [mapO] at h
    cases q : blD d with
    | none => rw [q] at h; cases h
    | some b =>
      rw [q] at h
      cases q2 : mapO blD ds with
      | none => simp [q2] at h
      | some bs' =>
        simp only [q2, Option.bind_some, Option.map_some, Option.some.injEq] at h
        subst h
        cases r <;> first | cases q | skip
        rw [mapO_bl rs q2]
        rfl
theorem mapO_str : ∀ {xs : List D} {vs : List V} {bs : List Str}, RelDs g m H xs vs → mapO strD xs = some bs → vs = bs.map V.str
  | _, _, _, .nil, h => by cases h; rfl
  | _, _, _, .cons r rs, h => by
    rename_i d v ds vs
    simp only [mapO] at h
    cases q : strD d with
    | none => rw [q] at h; cases h
    | some b =>
      rw [q] at h
      cases q2 : mapO strD ds with
      | none => simp [q2] at h
      | some bs' =>
        simp only [q2, Option.bind_some, Option.map_some, Option.some.injEq] at h
        subst h
        cases r <;> first | cases q | skip
        rw [mapO_str rs q2]
        rfl
theorem strs_rel : ∀ ys : List Str, RelDs g m H (ys.map D.str) (ys.map V.str)
  | [] => .nil
  | y :: ys => .cons (.str y) (strs_rel ys)
theorem atI_rel {i : Int} (r : RelDs g m H xs vs) (h : atI xs i = some d) : ∃ v, atI vs i = some v ∧ RelD g m H d v := by
  unfold atI at h ⊢
  rw [← r.length]
  cases q : ixN xs.length i with
  | none => rw [q] at h; cases h
  | some j =>
    rw [q] at h
    exact r.get h
end
end Mi
end

section
set_option Elab.async false
set_option linter.all false
set_option maxRecDepth 100000
set_option maxHeartbeats 4000000
/-! Mi, part E: rules of operators, built-ins, methods by the evaluator's words. -/
namespace Mi
open PySem PySem.Spec PyProof.Rows L2

/-- what a binary operation by sem asks -/
def VOp (g : G) (sem : D → D → M D) : R2 := fun x y H Q => ∃ E m L d e, HRel g m L H ∧ RelD g m H d x ∧ RelD g m H e y ∧ Post g E (RD g) m H (sem d e L) Q
def opOf : BOp → Operator
  | .add => .Add | .sub => .Sub | .mul => .Mult | .fdiv => .FloorDiv | .mod => .Mod | .pow => .Pow
theorem okI_ok {i j : Int} (h : (okI i || okI j) = true) : CMul i j := by
  rcases Bool.or_eq_true_iff.mp h with h | h
  · obtain ⟨a, b⟩ := Bool.and_eq_true_iff.mp h
    exact .inl ⟨of_decide_eq_true a, of_decide_eq_true b⟩
  · obtain ⟨a, b⟩ := Bool.and_eq_true_iff.mp h
    exact .inr ⟨of_decide_eq_true a, of_decide_eq_true b⟩

section
variable {X : Cx} {g : G}
theorem vop_bin (hK : X.K = g.K) (o : BOp) : OpR X (binaryOp (opOf o)) (VOp g (binD o)) := by
  intro pins s σ H x y v u Q I rx ry h
  obtain ⟨E, m, L, d, e, hr, rd, re, po⟩ := h
  simp only [binD] at po
  split at po
  · cases rd; cases re
    exact op_add pins s σ H _ _ v u Q I rx ry ⟨_, _, rfl, rfl, po.at hr (.int _)⟩
  · split at po
    · rename_i q
      cases rd; cases re
      exact op_add_str pins s σ H _ _ v u Q I rx ry ⟨_, _, rfl, rfl, okB q, po.at hr (.str _)⟩
    · exact po.elim
  · split at po
    · rename_i xs ys q
      cases rd with
      | tup h1 r1 =>
        cases re with
        | tup h2 r2 =>
          rename_i vs a ws b
          refine op_catA pins s σ H _ _ v u Q I rx ry ⟨a, b, vs, ws, rfl, rfl, by rw [hK]; exact h1, by rw [hK]; exact h2, by rw [← r1.length, ← r2.length]; exact okB q, fun e0 => ?_, fun _ e0 => ?_, fun _ _ => tup_post hr (r1.append r2) po⟩
          · subst e0
            cases r1
            exact po.at hr (.tup h2 r2)
          · subst e0
            cases r2
            refine po.at hr (.tup h1 ?_)
            rw [List.append_nil]
            exact r1
    · exact po.elim
  · split at po
    · rename_i xs ys q1 q2
      split at po
      · rename_i q
        cases rd with
        | ref hm1 =>
          cases re with
          | ref hm2 =>
            obtain ⟨a1, vs, z1, h1, r1⟩ := hr.lstAt q1
            obtain ⟨a2, ws, z2, h2, r2⟩ := hr.lstAt q2
            rw [hm1] at z1
            rw [hm2] at z2
            cases z1
            cases z2
            exact op_cat pins s σ H _ _ v u Q I rx ry ⟨_, _, vs, ws, rfl, rfl, h1, h2, by rw [← r1.length, ← r2.length]; exact okB q, newL_post hr (r1.append r2) po⟩
      · exact po.elim
    · exact po.elim
  · cases rd; cases re
    exact op_sub pins s σ H _ _ v u Q I rx ry ⟨_, _, rfl, rfl, po.at hr (.int _)⟩
  · split at po
    · rename_i q
      cases rd; cases re
      exact op_mul pins s σ H _ _ v u Q I rx ry ⟨_, _, rfl, rfl, okI_ok q, po.at hr (.int _)⟩
    · exact po.elim
  · split at po
    · rename_i q
      cases rd; cases re
      obtain ⟨q1, q2⟩ := Bool.and_eq_true_iff.mp q
      exact op_fdivN pins s σ H _ _ v u Q I rx ry ⟨_, _, rfl, rfl, ⟨of_decide_eq_true q1, of_decide_eq_true q2⟩, po.at hr (.int _)⟩
    · exact po.elim
  · split at po
    · rename_i q
      cases rd; cases re
      exact op_modN pins s σ H _ _ v u Q I rx ry ⟨_, _, rfl, rfl, of_decide_eq_true q, po.at hr (.int _)⟩
    · exact po.elim
  · split at po
    · rename_i q
      cases rd; cases re
      obtain ⟨q1, q2⟩ := Bool.and_eq_true_iff.mp q
      obtain ⟨q3, q4⟩ := Bool.and_eq_true_iff.mp q1
      exact op_pow pins s σ H _ _ v u Q I rx ry ⟨_, _, rfl, rfl, ⟨of_decide_eq_true q3, of_decide_eq_true q4, of_decide_eq_true q2⟩, po.at hr (.int _)⟩
    · exact po.elim
  · exact po.elim
theorem vop_neg : UnR X (unaryOp .USub) (fun x H Q => ∃ E m L d, HRel g m L H ∧ RelD g m H d x ∧ Post g E (RD g) m H (must (negD d) L) Q) := by
  intro pins s σ H x v Q I rx h
  obtain ⟨E, m, L, d, hr, rd, po⟩ := h
  cases rd <;> first | exact po.elim | skip
  exact un_neg pins s σ H _ v Q I rx ⟨_, rfl, po.at hr (.int _)⟩
/-- a comparison by its answer -/
def VCmp (g : G) (o : CmpOp) : R2 := fun x y H Q => ∃ m L d e b, HRel g m L H ∧ RelD g m H d x ∧ RelD g m H e y ∧ cmpD L o d e = some b ∧ Q (.bl b) H
theorem vop_eq (hK : X.K = g.K) (hu : X.A.units + 64 < cLine) : OpR X (compareOp .Eq) (VCmp g .Eq) := by
  intro pins s σ H x y v u Q I rx ry h
  obtain ⟨m, L, d, e, b, hr, rd, re, hb, q⟩ := h
  rcases eqD_rel hr rd re hb with ⟨h1, h2⟩ | ⟨z, w, h1, h2, h3, h4, h5⟩
  · exact op_eq pins s σ H _ _ v u Q I rx ry ⟨h1, by rw [h2]; exact q⟩
  · exact op_eqD hu pins s σ H _ _ v u Q I rx ry ⟨z, w, by rw [hK]; exact h1, by rw [hK]; exact h2, h3, h4, by rw [h5]; exact q⟩
theorem map_not {o : Option Bool} {b : Bool} (h : o.map (!·) = some b) : o = some (!b) := by
  cases o with
  | none => cases h
  | some c => cases h; simp
theorem vop_ne (hK : X.K = g.K) (hu : X.A.units + 64 < cLine) : OpR X (compareOp .NotEq) (VCmp g .NotEq) := by
  intro pins s σ H x y v u Q I rx ry h
  obtain ⟨m, L, d, e, b, hr, rd, re, hb, q⟩ := h
  have hb' := map_not hb
  rcases eqD_rel hr rd re hb' with ⟨h1, h2⟩ | ⟨z, w, h1, h2, h3, h4, h5⟩
  · exact op_ne pins s σ H _ _ v u Q I rx ry ⟨h1, by rw [h2, Bool.not_not]; exact q⟩
  · exact op_neD hu pins s σ H _ _ v u Q I rx ry ⟨z, w, by rw [hK]; exact h1, by rw [hK]; exact h2, h3, h4, by rw [h5, Bool.not_not]; exact q⟩
theorem inD_rel {m : List Addr} {L : MH} {H : Hp} {d e : D} {x y : V} {b : Bool} (hr : HRel g m L H) (rd : RelD g m H d x) (re : RelD g m H e y) (h : inD L d e = some b) :
    (∃ i j, x = .str i ∧ y = .str j ∧ (!(Builtin.Str.occurrences j i 0 j.length 1).isEmpty) = b) ∨ (∃ p vs, y = .ref p ∧ (SqL g.K H p vs ∨ SqT g.K H p vs) ∧ flatV x = true ∧ vs.all flatV = true ∧ inV x vs = b) ∨
      ∃ z zs, Dp g.K H x z ∧ Dp g.K H y (.list zs) ∧ SeqAt.shaped z = true ∧ SeqAt.shaped (.list zs) = true ∧ (zs.any fun w => PyData.eqv w z) = b := by
  have seq : ((seqD L e).bind fun xs => if flatD d && xs.all flatD then some (xs.any fun z => eqf z d) else (dat L 80 d).bind fun a => (dat L 80 e).bind fun b => (match b with
        | .list bs => if SeqAt.shaped a && SeqAt.shaped (.list bs) then some (bs.any fun z => PyData.eqv z a) else none
        | _ => none)) = some b → (∃ p vs, y = .ref p ∧ (SqL g.K H p vs ∨ SqT g.K H p vs) ∧ flatV x = true ∧ vs.all flatV = true ∧ inV x vs = b) ∨
      ∃ z zs, Dp g.K H x z ∧ Dp g.K H y (.list zs) ∧ SeqAt.shaped z = true ∧ SeqAt.shaped (.list zs) = true ∧ (zs.any fun w => PyData.eqv w z) = b := fun h => by
    cases e1 : seqD L e with
    | none => rw [e1] at h; cases h
    | some xs =>
      rw [e1] at h
      simp only [Option.bind_some] at h
      split at h
      · rename_i q
        cases h
        obtain ⟨q1, q2⟩ := Bool.and_eq_true_iff.mp q
        obtain ⟨a, vs, rfl, h1, h2⟩ := seqD_rel hr re e1
        exact .inl ⟨a, vs, rfl, h1, flat_rel rd q1, flats_rel h2 q2, any_rel rd q1 h2 q2⟩
      · cases q1 : dat L 80 d with
        | none => rw [q1] at h; cases h
        | some z =>
          rw [q1] at h
          cases q2 : dat L 80 e with
          | none => simp [q2] at h
          | some w =>
            simp only [q2, Option.bind_some] at h
            cases w with
            | list bs =>
              simp only at h
              split at h
              · rename_i q3
                cases h
                obtain ⟨s1, s2⟩ := Bool.and_eq_true_iff.mp q3
                exact .inr ⟨z, bs, dat_rel hr _ _ _ _ q1 rd, dat_rel hr _ _ _ _ q2 re, s1, s2, rfl⟩
              · cases h
            | _ => cases h
  cases re with
  | str t =>
    simp only [inD] at h
    split at h
    · cases h
      cases rd
      exact .inl ⟨_, _, rfl, rfl, rfl⟩
    · cases h
  | _ => exact .inr (seq h)
theorem vop_in (hK : X.K = g.K) (hu : X.A.units + 65 < cLine) : OpR X (compareOp .In) (VCmp g .In) := by
  intro pins s σ H x y v u Q I rx ry h
  obtain ⟨m, L, d, e, b, hr, rd, re, hb, q⟩ := h
  rcases inD_rel hr rd re hb with ⟨i, j, rfl, rfl, h1⟩ | ⟨p, vs, rfl, h1, h2, h3, h4⟩ | ⟨z, zs, h1, h2, h3, h4, h5⟩
  · exact op_in_str pins s σ H _ _ v u Q I rx ry ⟨i, j, rfl, rfl, by rw [h1]; exact q⟩
  · refine op_in_seq pins s σ H _ _ v u Q I rx ry ⟨p, vs, rfl, by rw [hK]; exact h1, h2, h3, ?_⟩
    rw [h4]
    exact q
  · refine op_inD hu pins s σ H _ _ v u Q I rx ry ⟨z, zs, by rw [hK]; exact h1, by rw [hK]; exact h2, h3, h4, ?_⟩
    rw [h5]
    exact q
theorem vop_notin (hK : X.K = g.K) (hu : X.A.units + 65 < cLine) : OpR X (compareOp .NotIn) (VCmp g .NotIn) := by
  intro pins s σ H x y v u Q I rx ry h
  obtain ⟨m, L, d, e, b, hr, rd, re, hb, q⟩ := h
  rcases inD_rel hr rd re (map_not hb) with ⟨i, j, rfl, rfl, h1⟩ | ⟨p, vs, rfl, h1, h2, h3, h4⟩ | ⟨z, zs, h1, h2, h3, h4, h5⟩
  · exact op_notin_str pins s σ H _ _ v u Q I rx ry ⟨i, j, rfl, rfl, by rw [h1, Bool.not_not]; exact q⟩
  · refine op_notIn_seq pins s σ H _ _ v u Q I rx ry ⟨p, vs, rfl, by rw [hK]; exact h1, h2, h3, ?_⟩
    show Q (.bl (!inV _ _)) H
    rw [h4, Bool.not_not]
    exact q
  · refine op_notInD hu pins s σ H _ _ v u Q I rx ry ⟨z, zs, by rw [hK]; exact h1, by rw [hK]; exact h2, h3, h4, ?_⟩
    rw [h5, Bool.not_not]
    exact q
/-- all comparisons -/
theorem vop_cmp (hK : X.K = g.K) (hu : X.A.units + 65 < cLine) (o : CmpOp) : OpR X (compareOp o) (VCmp g o) := by
  cases o with
  | Eq => exact vop_eq hK (by omega)
  | NotEq => exact vop_ne hK (by omega)
  | In => exact vop_in hK hu
  | NotIn => exact vop_notin hK hu
  | Lt =>
    intro pins s σ H x y v u Q I rx ry h
    obtain ⟨m, L, d, e, b, hr, rd, re, hb, q⟩ := h
    cases rd <;> cases re <;> cases hb
    exact op_lt pins s σ H _ _ v u Q I rx ry ⟨_, _, rfl, rfl, q⟩
  | LtE =>
    intro pins s σ H x y v u Q I rx ry h
    obtain ⟨m, L, d, e, b, hr, rd, re, hb, q⟩ := h
    cases rd <;> cases re <;> cases hb
    exact op_le pins s σ H _ _ v u Q I rx ry ⟨_, _, rfl, rfl, q⟩
  | Gt =>
    intro pins s σ H x y v u Q I rx ry h
    obtain ⟨m, L, d, e, b, hr, rd, re, hb, q⟩ := h
    cases rd <;> cases re <;> cases hb
    exact op_gt pins s σ H _ _ v u Q I rx ry ⟨_, _, rfl, rfl, q⟩
  | GtE =>
    intro pins s σ H x y v u Q I rx ry h
    obtain ⟨m, L, d, e, b, hr, rd, re, hb, q⟩ := h
    cases rd <;> cases re <;> cases hb
    exact op_ge pins s σ H _ _ v u Q I rx ry ⟨_, _, rfl, rfl, q⟩
  | Is =>
    intro pins s σ H x y v u Q I rx ry h
    obtain ⟨m, L, d, e, b, hr, rd, re, hb, q⟩ := h
    cases hb
  | IsNot =>
    intro pins s σ H x y v u Q I rx ry h
    obtain ⟨m, L, d, e, b, hr, rd, re, hb, q⟩ := h
    cases hb
/-! ### built-ins -/
def VCall (g : G) (sem : List D → M D) : List V → Hp → VK → Prop := fun xs H Q => ∃ E m L ds, HRel g m L H ∧ RelDs g m H ds xs ∧ Post g E (RD g) m H (sem ds L) Q
def biV : Bi → Value
  | .len => .builtin "len" | .all => .builtin "all" | .any => .builtin "any" | .abs => .builtin "abs" | .int1 => .type "int" | .list1 => .type "list" | .tuple1 => .type "tuple" | .str1 => .type "str"
theorem vcall_bi (hK : X.K = g.K) (hc : X.calm = true) (b : Bi) : CallR X (biV b) (VCall g (biD b)) := by
  intro pins s σ H xs us Q I rs h
  obtain ⟨E, m, L, ds, hr, rr, po⟩ := h
  simp only [biD] at po
  split at po
  · -- len of a text
    split at po
    · rename_i q
      cases rr with
      | cons r1 r2 =>
        cases r2
        cases r1
        exact call_len pins s σ H _ us Q I rs ⟨_, _, rfl, ⟨okB q, rfl⟩, po.at hr (.int _)⟩
    · exact po.elim
  · split at po
    · rename_i xs' e
      cases rr with
      | cons r1 r2 =>
        cases r2
        obtain ⟨a, vs, rfl, h1, h2⟩ := seqD_rel hr r1 e
        refine call_len pins s σ H _ us Q I rs ⟨_, vs.length, rfl, ?_, ?_⟩
        · rcases h1 with h1 | h1
          · exact .inl ⟨vs, by rw [hK]; exact h1, rfl⟩
          · exact .inr ⟨vs, by rw [hK]; exact h1, rfl⟩
        · rw [← h2.length]
          exact po.at hr (.int _)
    · exact po.elim
  · split at po
    · rename_i d _ bs e
      cases rr with
      | cons r1 r2 =>
        cases r2
        cases e1 : listD L d with
        | none => rw [e1] at e; cases e
        | some ys =>
          rw [e1] at e
          obtain ⟨a, vs, rfl, h1, h2⟩ := listD_rel hr r1 e1
          have ev := mapO_bl h2 e
          subst ev
          exact cr_all hc pins s σ H _ us Q I rs ⟨a, bs, rfl, by rw [hK]; exact h1, po.at hr (.bl _)⟩
    · exact po.elim
  · split at po
    · rename_i d _ bs e
      cases rr with
      | cons r1 r2 =>
        cases r2
        cases e1 : listD L d with
        | none => rw [e1] at e; cases e
        | some ys =>
          rw [e1] at e
          obtain ⟨a, vs, rfl, h1, h2⟩ := listD_rel hr r1 e1
          have ev := mapO_bl h2 e
          subst ev
          exact cr_any hc pins s σ H _ us Q I rs ⟨a, bs, rfl, by rw [hK]; exact h1, po.at hr (.bl _)⟩
    · exact po.elim
  · cases rr with
    | cons r1 r2 =>
      cases r2
      cases r1
      exact call_abs pins s σ H _ us Q I rs ⟨_, rfl, po.at hr (.int _)⟩
  · cases rr with
    | cons r1 r2 =>
      cases r2
      cases r1
      exact call_int1 pins s σ H _ us Q I rs (.inl ⟨_, rfl, po.at hr (.int _)⟩)
  · cases rr with
    | cons r1 r2 =>
      cases r2
      cases r1
      exact call_int1 pins s σ H _ us Q I rs (.inr ⟨_, rfl, po.at hr (.int _)⟩)
  · split at po
    · rename_i q0
      split at po
      · rename_i q
        cases rr with
        | cons r1 r2 =>
          cases r2
          cases r1
          exact call_int_str pins s σ H _ us Q I rs ⟨_, _, rfl, q, of_decide_eq_true q0, po.at hr (.int _)⟩
      · exact po.elim
    · exact po.elim
  · split at po
    · rename_i xs' e
      cases rr with
      | cons r1 r2 =>
        cases r2
        obtain ⟨a, vs, rfl, h1, h2⟩ := seqD_rel hr r1 e
        exact call_list_of pins s σ H _ us Q I rs ⟨a, vs, rfl, by rw [hK]; exact h1, newL_post hr h2 po⟩
    · exact po.elim
  · cases rr with
    | cons r1 r2 =>
      cases r2
      cases r1 with
      | tup h1 h2 =>
        exact call_tuple_of pins s σ H _ us Q I rs ⟨_, _, rfl, .inr ⟨by rw [hK]; exact h1, po.at hr (.tup h1 h2)⟩⟩
  · split at po
    · rename_i xs' e
      cases rr with
      | cons r1 r2 =>
        cases r2
        obtain ⟨a, vs, rfl, h1, h2⟩ := listD_rel hr r1 e
        exact call_tuple_of pins s σ H _ us Q I rs ⟨_, _, rfl, .inl ⟨by rw [hK]; exact h1, tup_post hr h2 po⟩⟩
    · exact po.elim
  · split at po
    · rename_i q
      cases rr with
      | cons r1 r2 =>
        cases r2
        cases r1
        exact call_str_int pins s σ H _ us Q I rs ⟨_, rfl, of_decide_eq_true q, po.at hr (.str _)⟩
    · exact po.elim
  · cases rr with
    | cons r1 r2 =>
      cases r2
      cases r1
      exact SkE.call_str_str pins s σ H _ us Q I rs ⟨_, rfl, po.at hr (.str _)⟩
  · exact po.elim
end
end Mi
end

section
set_option Elab.async false
set_option linter.all false
set_option maxRecDepth 100000
set_option maxHeartbeats 4000000
/-! Mi: how arguments come to a def's parameters (no star). -/
namespace Mi
open PySem PySem.Spec L2

theorem loop_kw {f : Str × Value → List (Str × Value) × List (Str × Value) → Sem (ForInStep (List (Str × Value) × List (Str × Value)))} (ok : Str → Prop)
    (hf : ∀ k v acc, ok k → acc.lookup k = none → f (k, v) (acc, []) = pure (.yield (acc ++ [(k, v)], []))) :
    ∀ (kw acc : List (Str × Value)), (∀ q ∈ kw, ok q.1) → (kw.map (·.1)).Nodup → (∀ q ∈ kw, acc.lookup q.1 = none) → forIn kw (acc, []) f = pure (acc ++ kw, [])
  | [], acc, _, _, _ => by rw [List.forIn_nil, List.append_nil]
  | (k, v) :: r, acc, h1, h2, h3 => by
    have nd := List.nodup_cons.mp (show (k :: r.map (·.1)).Nodup from h2)
    rw [List.forIn_cons, hf k v acc (h1 _ List.mem_cons_self) (h3 _ List.mem_cons_self)]
    have ih := loop_kw ok hf r (acc ++ [(k, v)]) (fun q hq => h1 q (List.mem_cons_of_mem _ hq)) nd.2 fun q hq => by
      rw [List.lookup_append, h3 q (List.mem_cons_of_mem _ hq), Option.none_or, List.lookup_cons]
      have ne : (q.1 == k) = false := beq_eq_false_iff_ne.mpr fun e => nd.1 (by rw [← e]; exact List.mem_map_of_mem hq)
      rw [ne]
      rfl
    rw [List.append_assoc] at ih
    exact ih
theorem lookup_none_of {α : Type} {n : Str} : ∀ {l : List (Str × α)}, n ∉ l.map (·.1) → l.lookup n = none
  | [], _ => rfl
  | (k, v) :: r, h => by
    rw [List.lookup_cons]
    have ne : (n == k) = false := beq_eq_false_iff_ne.mpr fun e => h (by rw [e]; exact List.mem_cons_self)
    rw [ne]
    exact lookup_none_of fun z => h (List.mem_cons_of_mem _ z)
/-- the pairs whose names have no value yet -/
def lack {α : Type} (acc : List (Str × α)) (l : List (Str × α)) : List (Str × α) := l.filter fun q => (acc.lookup q.1).isNone
theorem lack_cons {α : Type} {acc : List (Str × α)} {k : Str} {v : α} {r : List (Str × α)} (nd : k ∉ r.map (·.1)) : lack (acc ++ [(k, v)]) r = lack acc r := by
  unfold lack
  refine List.filter_congr fun q hq => ?_
  rw [List.lookup_append, List.lookup_cons]
  have ne : (q.1 == k) = false := beq_eq_false_iff_ne.mpr fun e => nd (by rw [← e]; exact List.mem_map_of_mem hq)
  rw [ne]
  cases acc.lookup q.1 <;> rfl
theorem loop_pos {f : Str × Value → List (Str × Value) → Sem (ForInStep (List (Str × Value)))}
    (hf : ∀ q acc, f q acc = if (acc.lookup q.1).isNone = true then pure (.yield (acc ++ [(q.1, q.2)])) else pure (.yield acc)) :
    ∀ (l acc : List (Str × Value)), (l.map (·.1)).Nodup → forIn l acc f = pure (acc ++ lack acc l)
  | [], acc, _ => by rw [List.forIn_nil]; unfold lack; rw [List.filter_nil, List.append_nil]
  | (k, v) :: r, acc, h => by
    have nd := List.nodup_cons.mp (show (k :: r.map (·.1)).Nodup from h)
    rw [List.forIn_cons, hf]
    by_cases c : (acc.lookup k).isNone = true
    · rw [if_pos c]
      have ih := loop_pos hf r (acc ++ [(k, v)]) nd.2
      rw [lack_cons nd.1, List.append_assoc] at ih
      have e : lack acc ((k, v) :: r) = (k, v) :: lack acc r := by
        unfold lack
        rw [List.filter_cons, if_pos c]
      rw [e]
      exact ih
    · rw [if_neg c]
      have ih := loop_pos hf r acc nd.2
      have e : lack acc ((k, v) :: r) = lack acc r := by
        unfold lack
        rw [List.filter_cons, if_neg c]
      rw [e]
      exact ih
/-- the keyword-only names, each given or with a default in the dict -/
theorem loop_kwo {M : Model} {h : Heap} {f : Str → List (Str × Value) × List Str → Sem (ForInStep (List (Str × Value) × List Str))} (okd : Str × Value → Prop)
    (hf : ∀ q acc, (acc.lookup q.1 = none → okd q) → PySem.W.Looks M h (f q.1 (acc, [])) (.yield (if (acc.lookup q.1).isNone = true then acc ++ [(q.1, q.2)] else acc, []))) :
    ∀ (l' acc : List (Str × Value)), (∀ q ∈ l', acc.lookup q.1 = none → okd q) → (l'.map (·.1)).Nodup → PySem.W.Looks M h (forIn (l'.map (·.1)) (acc, []) f) (acc ++ lack acc l', [])
  | [], acc, _, _ => by
    rw [List.map_nil, List.forIn_nil]
    unfold lack
    rw [List.filter_nil, List.append_nil]
    exact PySem.W.Looks.now
  | (k, v) :: r, acc, hm, hn => by
    have nd := List.nodup_cons.mp (show (k :: r.map (·.1)).Nodup from hn)
    rw [List.map_cons, List.forIn_cons]
    refine PySem.W.Looks.andThen (hf (k, v) acc (hm _ List.mem_cons_self)) ?_
    by_cases c : (acc.lookup k).isNone = true
    · rw [if_pos c]
      have ih := loop_kwo okd hf r (acc ++ [(k, v)]) (fun q hq z => hm q (List.mem_cons_of_mem _ hq) (by
        rw [List.lookup_append] at z
        cases e : acc.lookup q.1 with
        | none => rfl
        | some w => rw [e] at z; cases z)) nd.2
      rw [lack_cons nd.1, List.append_assoc] at ih
      have e : lack acc ((k, v) :: r) = (k, v) :: lack acc r := by
        unfold lack
        rw [List.filter_cons, if_pos c]
      rw [e]
      exact ih
    · rw [if_neg c]
      have ih := loop_kwo okd hf r acc (fun q hq => hm q (List.mem_cons_of_mem _ hq)) nd.2
      have e : lack acc ((k, v) :: r) = lack acc r := by
        unfold lack
        rw [List.filter_cons, if_neg c]
      rw [e]
      exact ih
theorem lookup_zip_of_mem {α : Type} {n : Str} {u : α} : ∀ {l : List (Str × α)}, (l.map (·.1)).Nodup → (n, u) ∈ l → l.lookup n = some u
  | [], _, h => by cases h
  | (k, v) :: r, hn, h => by
    have nd := List.nodup_cons.mp (show (k :: r.map (·.1)).Nodup from hn)
    rw [List.lookup_cons]
    rcases List.mem_cons.mp h with e | h
    · cases e
      rw [beq_self_eq_true]
    · have ne : (n == k) = false := beq_eq_false_iff_ne.mpr fun e => nd.1 (by rw [← e]; exact List.mem_map_of_mem (f := (·.1)) h)
      rw [ne]
      exact lookup_zip_of_mem nd.2 h
theorem lack_lookup {acc l : List (Str × Value)} {n : Str} {u : Value} (hn : (l.map (·.1)).Nodup) (h : (n, u) ∈ l) (ha : acc.lookup n = none) : (lack acc l).lookup n = some u := by
  refine lookup_zip_of_mem ?_ ?_
  · exact hn.sublist ((List.filter_sublist).map _)
  · exact List.mem_filter.mpr ⟨h, by show (acc.lookup n).isNone = true; rw [ha]; rfl⟩
theorem lack_none {acc l : List (Str × Value)} {n : Str} (h : n ∉ l.map (·.1)) : (lack acc l).lookup n = none :=
  lookup_none_of fun z => h (by
    obtain ⟨q, hq, e⟩ := List.mem_map.mp z
    exact List.mem_map.mpr ⟨q, (List.mem_filter.mp hq).1, e⟩)
theorem filterMap_zip {sl : List (Str × Value)} : ∀ {ns : List Str} {us : List Value}, Paired (fun n u => sl.lookup n = some u) ns us → ns.filterMap (fun n => (sl.lookup n).map (n, ·)) = ns.zip us
  | _, _, .nil => rfl
  | _, _, .cons h t => by
    rw [List.filterMap_cons, h, List.zip_cons_cons, ← filterMap_zip t]
    rfl
theorem mapO_paired {α β : Type} {f : α → Option β} : ∀ {xs : List α} {ys : List β}, mapO f xs = some ys → Paired (fun x y => f x = some y) xs ys
  | [], _, h => by cases h; exact .nil
  | x :: xs, ys, h => by
    simp only [mapO] at h
    cases q : f x with
    | none => rw [q] at h; cases h
    | some y =>
      rw [q] at h
      cases q2 : mapO f xs with
      | none => simp [q2] at h
      | some ys' =>
        simp only [q2, Option.bind_some, Option.map_some, Option.some.injEq] at h
        subst h
        exact .cons q (mapO_paired q2)
theorem paired_zipL {α β γ : Type} {R : α → γ → Prop} {S : α × β → γ → Prop} : ∀ {xs : List α} {ys : List β} {zs : List γ}, xs.length = ys.length → Paired S (xs.zip ys) zs → (∀ x y z, (x, y) ∈ xs.zip ys → S (x, y) z → R x z) → Paired R xs zs
  | [], [], _, _, h, _ => by cases h; exact .nil
  | x :: xs, y :: ys, _, hl, h, k => by
    cases h with
    | cons h t => exact .cons (k x y _ List.mem_cons_self h) (paired_zipL (by simpa using hl) t fun a b c hm => k a b c (List.mem_cons_of_mem _ hm))
  | [], _ :: _, _, hl, _, _ => by cases hl
  | _ :: _, [], _, hl, _, _ => by cases hl

theorem zip_left {α β : Type} : ∀ (xs ys : List α) (zs : List β), zs.length ≤ xs.length → (xs ++ ys).zip zs = xs.zip zs
  | _, _, [], _ => by simp
  | [], _, z :: zs, h => by simp at h
  | x :: xs, ys, z :: zs, h => by
    rw [List.cons_append, List.zip_cons_cons, List.zip_cons_cons, zip_left xs ys zs (by simpa using h)]
theorem mem_zip_right {α β : Type} {a : α} {b : β} : ∀ {xs xs' : List α} {ys ys' : List β}, xs.length = ys.length → (a, b) ∈ (xs ++ xs').zip (ys ++ ys') → (a, b) ∈ xs.zip ys ∨ (a, b) ∈ xs'.zip ys'
  | [], _, [], _, _, h => .inr h
  | x :: xs, _, y :: ys, _, hl, h => by
    rcases List.mem_cons.mp (show (a, b) ∈ (x, y) :: (xs ++ _).zip (ys ++ _) from h) with e | h
    · exact .inl (by rw [e]; exact List.mem_cons_self)
    · exact (mem_zip_right (by simpa using hl) h).imp (fun z => List.mem_cons_of_mem _ z) id
  | [], _, _ :: _, _, hl, _ => by cases hl
  | _ :: _, _, [], _, hl, _ => by cases hl
theorem map_fst_zip {α β : Type} : ∀ {xs : List α} {ys : List β}, xs.length ≤ ys.length → (xs.zip ys).map (·.1) = xs
  | [], _, _ => by simp
  | x :: xs, [], h => by simp at h
  | x :: xs, y :: ys, h => by
    rw [List.zip_cons_cons, List.map_cons, map_fst_zip (by simpa using h)]
theorem mem_zip_some0 {α β : Type} {a : α} {b : β} : ∀ {xs : List α} {ys : List β}, (a, some b) ∈ xs.zip (ys.map some) → (a, b) ∈ xs.zip ys
  | [], ys, h => by simp at h
  | x :: xs, [], h => by simp at h
  | x :: xs, y :: ys, h => by
    rcases List.mem_cons.mp (show (a, some b) ∈ (x, some y) :: xs.zip (ys.map some) from h) with e | h
    · cases e
      exact List.mem_cons_self
    · exact List.mem_cons_of_mem _ (mem_zip_some0 h)
theorem mem_zip_some {α β : Type} {a : α} {b : β} : ∀ {k : Nat} {xs : List α} {ys : List β}, (a, some b) ∈ xs.zip (List.replicate k none ++ ys.map some) → (a, b) ∈ (xs.drop k).zip ys
  | 0, xs, ys, h => by
    rw [List.replicate_zero, List.nil_append] at h
    exact mem_zip_some0 h
  | k + 1, [], ys, h => by simp at h
  | k + 1, x :: xs, ys, h => by
    rw [List.replicate_succ, List.cons_append, List.zip_cons_cons] at h
    rcases List.mem_cons.mp h with e | h2
    · cases e
    · exact mem_zip_some (k := k) (xs := xs) (ys := ys) h2
theorem mem_zip_none {α β : Type} {a : α} : ∀ {k : Nat} {xs : List α} {ys : List (Option β)}, a ∈ xs.take k → k ≤ xs.length → (a, (none : Option β)) ∈ xs.zip (List.replicate k none ++ ys)
  | 0, xs, ys, h, _ => by simp at h
  | k + 1, [], ys, h, hk => by simp at h
  | k + 1, x :: xs, ys, h, hk => by
    rw [List.take_succ_cons] at h
    rw [List.replicate_succ, List.cons_append, List.zip_cons_cons]
    rcases List.mem_cons.mp h with e | h
    · rw [e]; exact List.mem_cons_self
    · exact List.mem_cons_of_mem _ (mem_zip_none h (by simpa using hk))
theorem Paired.of_mem {α β : Type} {F : α → β → Prop} : ∀ {xs : List α} {ys : List β}, Paired F xs ys → ∀ x ∈ xs, ∃ y, F x y
  | _, _, .nil, x, h => by cases h
  | _, _, .cons r t, x, h => by
    rcases List.mem_cons.mp h with e | h
    · exact ⟨_, by rw [e]; exact r⟩
    · exact Paired.of_mem t x h
/-- THE BINDING of a def without stars: pos its positional names, kwo the keyword-only ones; its: the positional defaults, kd: the keyword-only names with a value each (that of the default, where one stands) -/
theorem bind_plain {M : Model} {h : Heap} {x qual : Str} {as ko : List Arg} {kdx : List (Option Expr)} {ddx : List Expr} {body : List Stmt} {scope : Scope} {dV kV doc pm : Value} {an : Option Addr} {cdv ct : Value}
    {its : List Value} {kdv : List (Option Value)} {us ws us' : List Value} {ks : List Str} {o : Option (Array Value)}
    (nd : (as.map (·.arg) ++ ko.map (·.arg)).Nodup) (hD : PySem.W.Looks M h (seqItems? dV) o) (ho : (o.getD #[]).toList = its) (hl : its.length ≤ as.length) (hkl : kdv.length = ko.length) (nk : ks.Nodup)
    (hK : ∀ n v, (n, some v) ∈ (ko.map (·.arg)).zip kdv → ∃ d, kV = .ref d ∧ PySem.W.Looks M h (nsGet d n) (some v))
    (hb : bindK (as.map (·.arg) ++ ko.map (·.arg)) as.length (List.replicate (as.length - its.length) none ++ its.map some ++ kdv) us ks ws = some us') :
    PySem.W.Looks M h (bindArgs (PySem.W.fnOf x qual ⟨[], as, none, ko, kdx, none, ddx⟩ body scope dV kV doc pm an cdv ct) ⟨us, ks.zip ws⟩) ((as.map (·.arg) ++ ko.map (·.arg)).zip us') := by
  obtain ⟨pos, hpos⟩ : ∃ p, p = as.map (·.arg) := ⟨_, rfl⟩
  obtain ⟨kwo, hkwo⟩ : ∃ p, p = ko.map (·.arg) := ⟨_, rfl⟩
  have hpl : pos.length = as.length := by rw [hpos, List.length_map]
  have hkw : kwo.length = ko.length := by rw [hkwo, List.length_map]
  rw [← hpos, ← hkwo] at nd hb ⊢
  rw [← hkwo] at hK
  rw [← hpl] at hl hb
  rw [← hkw] at hkl
  unfold bindK at hb
  split at hb
  case isFalse => cases hb
  rename_i cond
  simp only [Bool.and_eq_true, decide_eq_true_eq] at cond
  obtain ⟨⟨c1, c2⟩, c3⟩ := cond
  have P := mapO_paired hb
  have ndp : pos.Nodup := (List.nodup_append.mp nd).1
  have ndk : kwo.Nodup := (List.nodup_append.mp nd).2.1
  have apart : ∀ a ∈ pos, ∀ b ∈ kwo, a ≠ b := (List.nodup_append.mp nd).2.2
  have hz : (pos ++ kwo).zip us = pos.zip us := zip_left _ _ _ c1
  rw [hz] at P
  obtain ⟨sl, hsl⟩ : ∃ sl, sl = pos.zip us ++ ks.zip ws := ⟨_, rfl⟩
  rw [← hsl] at P
  have fz : (pos.zip us).map (·.1) = pos.take us.length := by
    have e : pos = pos.take us.length ++ pos.drop us.length := (List.take_append_drop _ _).symm
    have hlt : (pos.take us.length).length = us.length := by rw [List.length_take]; omega
    have e2 : pos.zip us = (pos.take us.length).zip us := by
      conv => lhs; rw [e]
      exact zip_left _ _ _ (by omega)
    rw [e2]
    exact map_fst_zip (by omega)
  have kwn : ∀ k ∈ ks, k ∈ pos.drop us.length ∨ k ∈ kwo := fun k hk => by
    have q : k ∈ (pos ++ kwo).drop us.length := by
      have := List.all_eq_true.mp c3 k hk
      simpa using this
    rw [List.drop_append_of_le_length c1] at q
    exact List.mem_append.mp q
  have kout : ∀ k ∈ ks, (pos.zip us).lookup k = none := fun k hk => by
    refine lookup_none_of ?_
    rw [fz]
    intro z
    rcases kwn k hk with q | q
    · have nd2 := ndp
      rw [← List.take_append_drop us.length pos] at nd2
      exact (List.nodup_append.mp nd2).2.2 k z k q rfl
    · exact apart k (List.mem_of_mem_take z) k q rfl
  -- the walk
  unfold bindArgs
  dsimp only [PySem.W.fnOf]
  rw [← hpos, ← hkwo]
  simp only [List.map_nil, List.nil_append]
  have fk : (ks.zip ws).map (·.1) = ks := map_fst_zip (by omega)
  refine PySem.W.Looks.andThen (a := (sl, [])) (PySem.W.Looks.of_pure ?_) ?_
  · rw [hsl]
    refine loop_kw (fun k => k ∈ pos ∨ k ∈ kwo) (fun k v acc hk ha => ?_) _ _ (fun q hq => ?_) (by rw [fk]; exact nk) (fun q hq => ?_)
    · have c : (pos.contains k || kwo.contains k) = true := by
        simp only [Bool.or_eq_true, List.contains_iff_mem]
        exact hk
      dsimp only
      rw [if_pos c, ha]
      rfl
    · have hq' : q.1 ∈ ks := by rw [← fk]; exact List.mem_map_of_mem hq
      exact (kwn _ hq').imp List.mem_of_mem_drop id
    · exact kout _ (by rw [← fk]; exact List.mem_map_of_mem hq)
  · refine PySem.W.Looks.andThen hD ?_
    dsimp only
    have g1 : (decide (us.length > pos.length) && (none : Option Arg).isNone) = false := by
      rw [decide_eq_false (by omega)]
      rfl
    rw [if_neg (by rw [g1]; exact Bool.false_ne_true), ho]
    have e0 : its.length - pos.length = 0 := by omega
    rw [e0, List.drop_zero]
    have miss : List.filter (fun n => (List.lookup n sl).isNone) (List.take (pos.length - its.length) pos) = [] := by
      refine List.filter_eq_nil_iff.mpr fun n hn z => ?_
      have hm : (n, (none : Option Value)) ∈ (pos ++ kwo).zip (List.replicate (pos.length - its.length) none ++ its.map some ++ kdv) := by
        rw [List.append_assoc]
        have hn' : n ∈ (pos ++ kwo).take (pos.length - its.length) := by
          rw [List.take_append_of_le_length (by omega)]
          exact hn
        exact mem_zip_none hn' (by rw [List.length_append]; omega)
      obtain ⟨u, hu⟩ := Paired.of_mem P _ hm
      dsimp only at hu
      cases e : List.lookup n sl with
      | none => rw [e] at hu; cases hu
      | some w => rw [e] at z; cases z
    rw [miss]
    simp only [List.isEmpty_nil, Bool.not_true, Bool.false_eq_true, if_false]
    obtain ⟨pd, hpd⟩ : ∃ pd, pd = (pos.drop (pos.length - its.length)).zip its := ⟨_, rfl⟩
    have npd : (pd.map (·.1)) = pos.drop (pos.length - its.length) := by
      rw [hpd]
      exact map_fst_zip (by rw [List.length_drop]; omega)
    refine PySem.W.Looks.andThen (a := sl ++ lack sl pd) (PySem.W.Looks.of_pure ?_) ?_
    · rw [← hpd]
      exact loop_pos (fun q acc => rfl) pd sl (by rw [npd]; exact ndp.sublist (List.drop_sublist _ _))
    · obtain ⟨kd, hkd⟩ : ∃ kd, kd = (kwo.zip kdv).map fun p => (p.1, p.2.getD .none) := ⟨_, rfl⟩
      have nkd : kd.map (·.1) = kwo := by
        rw [hkd, List.map_map]
        exact map_fst_zip (by omega)
      have P2 : ∀ n w, (n, w) ∈ (pos ++ kwo).zip (List.replicate (pos.length - its.length) none ++ its.map some ++ kdv) → List.lookup n sl = none → ∃ u, w = some u := fun n w hm z => by
        obtain ⟨y, hy⟩ := Paired.of_mem P _ hm
        dsimp only at hy
        rw [z, Option.none_or] at hy
        exact ⟨y, hy⟩
      have lenL : pos.length = (List.replicate (pos.length - its.length) (none : Option Value) ++ its.map some).length := by
        rw [List.length_append, List.length_replicate, List.length_map]
        omega
      have inK : ∀ n w, (n, w) ∈ kwo.zip kdv → (n, w) ∈ (pos ++ kwo).zip (List.replicate (pos.length - its.length) none ++ its.map some ++ kdv) := fun n w hm => by
        rw [List.zip_append lenL]
        exact List.mem_append_right _ hm
      refine PySem.W.Looks.andThen (a := (sl ++ lack sl pd ++ lack (sl ++ lack sl pd) kd, [])) ?_ ?_
      · rw [← nkd]
        refine loop_kwo (fun q => ∃ d, kV = .ref d ∧ PySem.W.Looks M h (nsGet d q.1) (some q.2)) (fun q acc hq => ?_) kd _ (fun q hq z => ?_) (by rw [nkd]; exact ndk)
        · by_cases c : (acc.lookup q.1).isNone = true
          · obtain ⟨d, rfl, hd⟩ := hq (Option.isNone_iff_eq_none.mp c)
            simp only [c, if_true]
            exact hd.andThen PySem.W.Looks.now
          · simp only [c]
            exact PySem.W.Looks.now
        · rw [hkd] at hq
          obtain ⟨⟨n, w⟩, hp, e⟩ := List.mem_map.mp hq
          subst e
          dsimp only at z ⊢
          have z1 : List.lookup n sl = none := by
            rw [List.lookup_append] at z
            cases e : List.lookup n sl with
            | none => rfl
            | some w => rw [e] at z; cases z
          obtain ⟨u, hw⟩ := P2 n w (inK n w hp) z1
          subst hw
          exact hK n u hp
      · dsimp only
        rw [if_neg (by simp)]
        refine PySem.W.Looks.of_pure (congrArg pure (filterMap_zip ?_))
        refine paired_zipL (by rw [List.length_append, List.length_append, ← lenL, hkw, hkl, hkw]) P fun n w u hm hu => ?_
        cases e : List.lookup n sl with
        | some z =>
          rw [e] at hu
          rw [List.lookup_append, List.lookup_append, e]
          exact hu
        | none =>
          rw [e, Option.none_or] at hu
          have hw : w = some u := hu
          subst hw
          rw [List.lookup_append, List.lookup_append, e, Option.none_or]
          rcases mem_zip_right lenL hm with hm | hm
          · have hp : (n, u) ∈ pd := by
              rw [hpd]
              exact mem_zip_some hm
            rw [lack_lookup (by rw [npd]; exact ndp.sublist (List.drop_sublist _ _)) hp e]
            rfl
          · have hk : n ∈ kwo := (List.of_mem_zip hm).1
            have e1 : (lack sl pd).lookup n = none := lack_none (by
              rw [npd]
              exact fun z => apart n (List.mem_of_mem_drop z) n hk rfl)
            have hkm : (n, u) ∈ kd := by
              rw [hkd]
              exact List.mem_map.mpr ⟨(n, some u), hm, rfl⟩
            rw [e1, Option.none_or]
            exact lack_lookup (by rw [nkd]; exact ndk) hkm (by rw [List.lookup_append, e, e1]; rfl)
end Mi
end

section
set_option Elab.async false
set_option linter.all false
set_option maxRecDepth 100000
set_option maxHeartbeats 4000000
/-! Mi, part F: the forms of the syntax; the links to the written part; calls. -/
namespace Mi
open PySem PySem.Spec PyProof.Rows L2

/-! ### forms -/
def noStar : Expr → Bool
  | .Starred .. => false
  | _ => true
theorem star_plain {e : Expr} {es : List Expr} {env : Env} (h : noStar e = true) : starEach (e :: es) env = (false, eval e env) :: starEach es env := by
  cases e <;> first | rfl | cases h
theorem star_none : ∀ {es : List Expr} {env : Env} (pos : Pos), es.all noStar = true → (backTo pos (starEach es env)).any (·.1) = false
  | [], _, _, _ => rfl
  | e :: es, env, pos, h => by
    rw [List.all_cons, Bool.and_eq_true] at h
    rw [star_plain h.1]
    show ((false || (backTo pos (starEach es env)).any (·.1))) = false
    rw [star_none pos h.2]
    rfl
/-- a test of no form of its own -/
def plainTest : Expr → Bool
  | .UnaryOp .Not _ _ => false
  | .BoolOp .. => false
  | .IfExp .. => false
  | .Compare .. => false
  | _ => true
theorem isTrue_form {e : Expr} {env : Env} (h : plainTest e = true) : ∀ whole, isTrue e env whole = (do let v ← whole; standAt e.pos; holding [v] (truthy v)) := by
  intro whole
  cases e with
  | UnaryOp op x pos => cases op <;> first | rfl | cases h
  | _ => first | rfl | cases h
def noSlice : Expr → Bool
  | .Slice .. => false
  | _ => true
theorem plainIx_of {e : Expr} (h : noSlice e = true) : PlainIx e := by
  intro o i
  cases e <;> first | rfl | cases h
def noComp : Expr → Bool
  | .ListComp .. => false
  | .SetComp .. => false
  | .DictComp .. => false
  | _ => true
theorem swaps_none {e : Expr} {t : Option Expr} {l : Nat} {env : Env} (h : noComp e = true) : swapsWith e t l env = pure false := by
  cases e <;> first | rfl | cases h
def noSet : Expr → Bool
  | .Set .. => false
  | _ => true
theorem folded_none {e : Expr} {env : Env} (h : noSet e = true) : ∀ x, foldedSetIterable e env x = pure x := by
  intro x
  cases e <;> first | rfl | cases h
theorem nobehind_of {e : Expr} (h : noSet e = true) (op : CmpOp) : behindInMarks op e = false := by
  cases e <;> first | rfl | cases h
/-- no call without arguments of a plain name -/
def noCall0 : Expr → Bool
  | .Call (.Name _ _) [] [] _ => false
  | _ => true
theorem abase_of {e : Expr} {f : Str} {env : Env} (h : noCall0 e = true) (whole : Sem Value) : attributeBase e f env whole = whole := by
  unfold attributeBase
  split
  · cases h
  · rfl

/-! ### the links -/
/-- names of functions, classes, constants of the module -/
structure Nm where
  fn : Nat → Str
  cn : Nat → Str
  kn : Nat → Str
/-- a value whatever the heap -/
def CRel (g : G) (d : D) (v : V) : Prop := ∀ m H, RelD g m H d v
inductive OptRel {α β : Type} (R : α → β → Prop) : Option α → Option β → Prop where
  | none : OptRel R none none
  | some {a : α} {b : β} (h : R a b) : OptRel R (some a) (some b)
theorem RelDs.paired {g : G} {m : List Addr} {H : Hp} : ∀ {ds : List D} {vs : List V}, RelDs g m H ds vs → Paired (RelD g m H) ds vs
  | _, _, .nil => .nil
  | _, _, .cons h r => .cons h r.paired
theorem RelDs.of_paired {g : G} {m : List Addr} {H : Hp} : ∀ {ds : List D} {vs : List V}, Paired (RelD g m H) ds vs → RelDs g m H ds vs
  | _, _, .nil => .nil
  | _, _, .cons h r => .cons h (RelDs.of_paired r)
/-- D to Value, by V -/
def RelU (g : G) (m : List Addr) (H : Hp) (d : D) (u : Value) : Prop := ∃ v, RelD g m H d v ∧ RelV v u
theorem relU_all {g : G} {m : List Addr} {H : Hp} : ∀ {ds : List D} {vs : List V} {us : List Value}, RelDs g m H ds vs → Vals vs us → Paired (RelU g m H) ds us
  | _, _, _, .nil, .nil => .nil
  | _, _, _, .cons h r, .cons q t => .cons ⟨_, h, q⟩ (relU_all r t)
theorem relU_split {g : G} {m : List Addr} {H : Hp} : ∀ {ds : List D} {us : List Value}, Paired (RelU g m H) ds us → ∃ vs, RelDs g m H ds vs ∧ Vals vs us
  | _, _, .nil => ⟨[], .nil, .nil⟩
  | _, _, .cons ⟨v, h, q⟩ t => by
    obtain ⟨vs, r1, r2⟩ := relU_split t
    exact ⟨v :: vs, .cons h r1, .cons q r2⟩
theorem lookup_rel {κ α β : Type} [BEq κ] {R : α → β → Prop} (k : κ) : ∀ {ps : List κ} {vs : List α} {us : List β}, Paired R vs us → OptRel R ((ps.zip vs).lookup k) ((ps.zip us).lookup k)
  | [], _, _, _ => by simp only [List.zip_nil_left]; exact .none
  | p :: ps, _, _, .nil => by simp only [List.zip_nil_right]; exact .none
  | p :: ps, _, _, .cons h t => by
    simp only [List.zip_cons_cons, List.lookup_cons]
    cases k == p with
    | true => exact .some h
    | false => exact lookup_rel k t
theorem bindK_rel {κ α β : Type} [BEq κ] {R : α → β → Prop} {ps ks : List κ} {np : Nat} {dfl : List (Option α)} {dfl' : List (Option β)} {vs zs ds : List α} {us ws : List β} (h1 : Paired R vs us) (h2 : Paired R zs ws) (h3 : Paired (OptRel R) dfl dfl')
    (h : bindK ps np dfl vs ks zs = some ds) : ∃ us', bindK ps np dfl' us ks ws = some us' ∧ Paired R ds us' := by
  unfold bindK at h ⊢
  rw [← h1.length, ← h2.length]
  split at h
  · rename_i c
    rw [if_pos c]
    have go : ∀ (qs : List κ) (d : List (Option α)) (d' : List (Option β)) (ds : List α), Paired (OptRel R) d d' → mapO (fun p => ((ps.zip vs ++ ks.zip zs).lookup p.1).or p.2) (qs.zip d) = some ds →
        ∃ us', mapO (fun p => ((ps.zip us ++ ks.zip ws).lookup p.1).or p.2) (qs.zip d') = some us' ∧ Paired R ds us' := by
      intro qs
      induction qs with
      | nil =>
        intro d d' ds _ h
        simp only [List.zip_nil_left, mapO] at h ⊢
        cases h
        exact ⟨[], rfl, .nil⟩
      | cons q qs ih =>
        intro d d' ds hd h
        cases hd with
        | nil =>
          simp only [List.zip_nil_right, mapO] at h ⊢
          cases h
          exact ⟨[], rfl, .nil⟩
        | @cons a b l1 l2 hab ht =>
          simp only [List.zip_cons_cons, mapO] at h ⊢
          have hl : OptRel R ((ps.zip vs ++ ks.zip zs).lookup q) ((ps.zip us ++ ks.zip ws).lookup q) := by
            rw [List.lookup_append, List.lookup_append]
            have a1 := lookup_rel (ps := ps) q h1
            have a2 := lookup_rel (ps := ks) q h2
            revert a1
            generalize (ps.zip vs).lookup q = o1
            generalize (ps.zip us).lookup q = o2
            intro a1
            cases a1 with
            | none => exact a2
            | some z => exact .some z
          have hv : OptRel R (((ps.zip vs ++ ks.zip zs).lookup q).or a) (((ps.zip us ++ ks.zip ws).lookup q).or b) := by
            revert hl
            generalize (ps.zip vs ++ ks.zip zs).lookup q = o1
            generalize (ps.zip us ++ ks.zip ws).lookup q = o2
            intro hl
            cases hl with
            | none => exact hab
            | some z => exact .some z
          revert hv h
          generalize ((ps.zip vs ++ ks.zip zs).lookup q).or a = o1
          generalize ((ps.zip us ++ ks.zip ws).lookup q).or b = o2
          intro h hv
          cases hv with
          | none => cases h
          | @some x y z =>
            simp only [Option.bind_some] at h ⊢
            cases e : mapO (fun p => ((ps.zip vs ++ ks.zip zs).lookup p.1).or p.2) (qs.zip l1) with
            | none => rw [e] at h; cases h
            | some ds' =>
              rw [e] at h
              simp only [Option.map_some, Option.some.injEq] at h
              subst h
              obtain ⟨us', e1, e2⟩ := ih l1 l2 ds' ht e
              rw [e1]
              exact ⟨y :: us', rfl, .cons z e2⟩
    exact go ps dfl dfl' ds h3 h
  · cases h
/-- what a def's promise is, by the evaluator -/
def spM (g : G) (n : Nat) (c : List D → M D) : Sp := fun vs H Q E => ∃ m L ds, HRel g m L H ∧ RelDs g m H ds vs ∧ ds.length = n ∧ Post g E (RD g) m H (c ds L) Q
/-- a function's object: f at its address, bound as the table says -/
structure FnL (g : G) (K : PySem.W.Frag) (a : Addr) (fd : Fd) (data : FuncData) : Prop where
  keep : PySem.W.keepIn K (.ref a) = true
  bind : ∃ dfl' : List (Option Value), Paired (OptRel fun d u => ∀ m H, RelU g m H d u) fd.dfl dfl' ∧
    ∀ (s : Shared) (us ws us' : List Value) (ks : List Nat), K.In s.heap → ks.Nodup → bindK fd.ps fd.np dfl' us ks ws = some us' → BindsTo s data ⟨us, (ks.map g.an).zip ws⟩ ((fd.ps.map g.an).zip us')

section
variable {X : Cx} {W : WX} {g : G} {k : Nat} {C : Nat → List D → M D} {T : Tb} {a : Addr} {fd : Fd} {data : FuncData}
theorem bindK_len {κ α : Type} [BEq κ] {ps ks : List κ} {np : Nat} {dfl : List (Option α)} {vs zs ds : List α} (h : bindK ps np dfl vs ks zs = some ds) : ds.length = min ps.length dfl.length := by
  unfold bindK at h
  split at h
  · have := (mapO_paired h).length
    rw [List.length_zip] at this
    exact this.symm
  · cases h
/-- A CALL of a function of the table, with its arguments' values -/
theorem run_callD {pins : List (Addr × Obj)} {σ : L2.St} {H : Hp} {s : Shared} {Q : VK} {m : List Addr} {L : MH} {ds zs : List D} {vs ws : List V} {us uz : List Value} {ks : List Nat} {c : List D → M D}
    (hK : X.K = g.K) (tk : Takes X W) (hroom : Room k X.A) (F : FnL g X.K a fd data) (ok : FnOk X.prog X.w X.K X.mg X.base (CX X.prog X.w) k a data (fd.ps.map g.an) (spM g fd.ps.length c)) (hdl : fd.dfl.length = fd.ps.length) (hks : ks.Nodup)
    (I : Inv X pins σ H s) (hr : HRel g m L H) (r1 : RelDs g m H ds vs) (v1 : Vals vs us) (r2 : RelDs g m H zs ws) (v2 : Vals ws uz)
    (po : Post g (fun c d H' => W c d σ H') (RD g) m H ((match bindK fd.ps fd.np fd.dfl ds ks zs with | some ds' => c ds' | none => stuck) L) Q) :
    wpAny (model X.prog X.w) X.A (call (.ref a) us ((ks.map g.an).zip uz)) (EP X pins σ Q) X.xe s := by
  cases e : bindK fd.ps fd.np fd.dfl ds ks zs with
  | none => rw [e] at po; exact po.elim
  | some ds' =>
    rw [e] at po
    obtain ⟨dfl', hd, hb⟩ := F.bind
    have hd' : Paired (OptRel (RelU g m H)) fd.dfl dfl' := L2.Paired.mapP hd fun x y h => by
      cases h with
      | none => exact .none
      | some h => exact .some (h m H)
    obtain ⟨us', e1, e2⟩ := bindK_rel (relU_all r1 v1) (relU_all r2 v2) hd' e
    obtain ⟨vs', r3, v3⟩ := relU_split e2
    have hl : ds'.length = fd.ps.length := by rw [bindK_len e, hdl, Nat.min_self]
    refine wpAny_call (codeAny_mono (ok.run X.A X.stack s H ⟨us, (ks.map g.an).zip uz⟩ us' vs' Q (fun c d H' => W c d σ H') hroom I.env0 (hb s us uz us' ks I.kIn hks e1) v3 ⟨m, L, ds', hr, r3, hl, po⟩) fun r s' hq => ?_)
    cases r with
    | error er => exact tk er s' (XE.of_call I (fun _ _ _ z => z) hq)
    | ok fl =>
      cases fl with
      | ret u => exact I.after hq
      | next => exact False.elim hq
      | brk => exact False.elim hq
      | cont => exact False.elim hq
end
end Mi
end

section
set_option Elab.async false
set_option linter.all false
set_option maxRecDepth 100000
set_option maxHeartbeats 4000000
/-! Mi, part G: the links; rules of expressions by computations. -/
namespace Mi
open PySem PySem.Spec PyProof.Rows L2

/-! ### what isinstance asks -/
def tagV (g : G) : Tag → Value
  | .non => .type "NoneType" | .bl => .type "bool" | .int => .type "int" | .str => .type "str" | .lst => .type "list" | .tup => .type "tuple"
  | .ins c => .ref (g.cad c)
def tyVal (g : G) : Ty → Value
  | .bt n => .type n
  | .own c => .ref (g.cad c)
def tyV' (g : G) : Ty → V
  | .bt n => .ty n
  | .own c => .ref (g.cad c)
theorem tyV_cls (g : G) : ∀ t : Ty, ClsV (tyV' g t) (tyVal g t)
  | .bt n => .ty n
  | .own c => .own _
/-- what TyOf.ins asks -/
structure InsTy (K : PySem.W.Frag) (C : Addr) : Prop where
  cl : Cls K C
  ha : PySem.W.findIn K (.ref C) "__class__" = some (some (.builtin "object.__class__"))
  hn : PySem.W.specialIn K (.builtin "object.__class__") "__get__" = some (some (.builtin "getset_descriptor.__get__"))
  htk : PySem.W.takesIn K (.builtin "object.__class__") = some true
  hm : PySem.W.mroIn K C (.type "object") = some true

/-- names that the checker is told -/
structure Cf where
  nm : Nm
  an : Nat → Str
  glob : List Nat
  blt : List Str
  cls : List Nat

/-- THE LINKS of the tables to what the top has written -/
structure Lk (g : G) (T : Tb) (cf : Cf) (K : PySem.W.Frag) (mg : Str → Option Value) (dt : Nat → FuncData) : Prop where
  an : g.an = cf.an
  inj : ∀ a b, g.an a = g.an b → a = b
  fnl : ∀ f fd, T.fn f = some fd → FnL g K (g.gad f) fd (dt f) ∧ fd.dfl.length = fd.ps.length
  glob : ∀ f, cf.glob.contains f = true → mg (cf.nm.fn f) = some (.ref (g.gad f))
  con : ∀ k d, T.con k = some d → ∃ u v, mg (cf.nm.kn k) = some u ∧ RelV v u ∧ CRel g d v
  blt : ∀ x, cf.blt.contains x = true → mg x = none
  cls : ∀ c, cf.cls.contains c = true → mg (cf.nm.cn c) = some (.ref (g.cad c))
  noat : ∀ c n, T.noat c n = true → Cls K (g.cad c) ∧ NoAttr K (g.cad c) (g.an n)
  meth : ∀ c n f, T.meth c n = some f → Cls K (g.cad c) ∧ Meth K (g.cad c) (g.an n) (g.gad f)
  ccon : ∀ c n d, T.ccon c n = some d → ∃ u v, Cls K (g.cad c) ∧ Con K (g.cad c) (g.an n) v u ∧ CRel g d v
  prop : ∀ c n f, T.prop c n = some f → Cls K (g.cad c) ∧ ∃ p, PropOf K (g.cad c) (g.an n) p (g.gad f)
  init : ∀ c f, T.init c = some f → Mk K (g.cad c) (g.gad f)
  kit : ∀ t y b, T.kit t y = some b → PySem.W.kitOne K (tagV g t) (tyVal g y) = some b
  kin : ∀ c y b, T.kit (.ins c) y = some b → InsTy K (g.cad c)
/-- the context of a body, of a block in it; k: the callees' level -/
structure CxOk (g : G) (T : Tb) (cf : Cf) (dt : Nat → FuncData) (C : Nat → List D → M D) (k : Nat) (X : Cx) (W : WX) : Prop where
  K : X.K = g.K
  lk : Lk g T cf X.K X.mg dt
  fns : ∀ f fd, T.fn f = some fd → FnOk X.prog X.w X.K X.mg X.base (CX X.prog X.w) k (g.gad f) (dt f) (fd.ps.map g.an) (spM g fd.ps.length (C f))
  room : Room (k + 1) X.A
  calm : X.calm = true
  tk : Takes X W
  nd : X.N.Nodup

section
variable {g : G} {T : Tb} {cf : Cf} {dt : Nat → FuncData} {C : Nat → List D → M D} {k : Nat} {X : Cx} {W : WX}
theorem CxOk.hu (c : CxOk g T cf dt C k X W) : X.A.units + 65 < cLine := by have := c.room.un; omega

/-! ### leaves -/
theorem m_var {i : Nat} {x : Str} {pos : Pos} (hN : X.N[i]? = some x) (hv : Vis X.env.scope x) (hd : (x == ("__debug__" : Str)) = false) (hcd : (x == ("__classdict__" : Str)) = false) : PE X (.Name x pos) (tM g W (evE T C (.var i))) := by
  refine pe_imp (pe_var hN hv hd hcd) fun σ H Q ⟨m, L, ρ, hr, lr, po⟩ => ?_
  simp only [evE] at po
  cases e : ρ[i]? with
  | none => rw [e] at po; exact po.elim
  | some o =>
    cases o with
    | none => rw [e] at po; exact po.elim
    | some d =>
      rw [e] at po
      obtain ⟨v, h1, h2⟩ := lr.get i d e
      exact ⟨v, h1, po.at hr h2⟩
theorem m_cint {i : Int} {j : Nat} {pos : Pos} : PE X (.Constant (.int i) j pos) (tM g W (evE T C (.cint i))) := pe_imp pe_int fun σ H Q ⟨m, L, ρ, hr, lr, po⟩ => po.at (v := V.int i) hr (.int i)
theorem m_cstr {i : Str} {j : Nat} {pos : Pos} : PE X (.Constant (.str i) j pos) (tM g W (evE T C (.cstr i))) := pe_imp pe_str fun σ H Q ⟨m, L, ρ, hr, lr, po⟩ => po.at (v := V.str i) hr (.str i)
theorem m_cbl {i : Bool} {j : Nat} {pos : Pos} : PE X (.Constant (.bool i) j pos) (tM g W (evE T C (.cbl i))) := pe_imp pe_bl fun σ H Q ⟨m, L, ρ, hr, lr, po⟩ => po.at (v := V.bl i) hr (.bl i)
theorem m_cnon {j : Nat} {pos : Pos} : PE X (.Constant .none j pos) (tM g W (evE T C .cnon)) := pe_imp pe_non fun σ H Q ⟨m, L, ρ, hr, lr, po⟩ => po.at (v := V.non) hr .non
theorem m_gcon (c : CxOk g T cf dt C k X W) {i : Nat} {pos : Pos} (hg : Gl X (cf.nm.kn i)) (hd : (cf.nm.kn i == ("__debug__" : Str)) = false) : PE X (.Name (cf.nm.kn i) pos) (tM g W (evE T C (.gcon i))) := by
  cases e : T.con i with
  | none =>
    refine ⟨fun pins s σ H Q I ⟨m, L, ρ, hr, lr, po⟩ => ?_⟩
    simp only [evE, e, must] at po
    exact po.elim
  | some d =>
    obtain ⟨u, v, h1, h2, h3⟩ := c.lk.con i d e
    refine pe_imp (pe_glob hg h1 h2 hd) fun σ H Q ⟨m, L, ρ, hr, lr, po⟩ => ?_
    simp only [evE, e, must] at po
    exact po.at hr (h3 m H)
theorem m_bad {e : Expr} : PE X e (tM g W (evE T C .bad)) := ⟨fun pins s σ H Q I ⟨m, L, ρ, hr, lr, po⟩ => po.elim⟩

/-! ### operators -/
/-- two parts in a row, at the readings -/
theorem two {fa fb : Loc → M D} {sem : D → D → M D} {r : R2} (hs : ∀ x y H Q, VOp g sem x y H Q → r x y H Q) {σ : L2.St} {H : Hp} {Q : VK}
    (h : tM g W (fun ρ L => (fa ρ L).bind fun d L1 => (fb ρ L1).bind fun e L2 => sem d e L2) σ H Q) : tOp r (tM g W fa) (tM g W fb) σ H Q := by
  obtain ⟨m, L, ρ, hr, lr, po⟩ := h
  refine ⟨m, L, ρ, hr, lr, (Post.bind (R := RD g) po).imp fun v H1 ⟨m1, L1, d, e1, hr1, rd, po1⟩ => ?_⟩
  refine ⟨m1, L1, ρ, hr1, lr.mono e1, (Post.bind (R := RD g) po1).imp fun v2 H2 ⟨m2, L2, e, e2, hr2, re, po2⟩ => ?_⟩
  exact hs _ _ _ _ ⟨_, m2, L2, d, e, hr2, rd.mono e2, re, po2⟩
theorem one {fa : Loc → M D} {sem : D → M D} {r : V → Hp → VK → Prop} (hs : ∀ x H Q E m L d, HRel g m L H → RelD g m H d x → Post g E (RD g) m H (sem d L) Q → r x H Q) {σ : L2.St} {H : Hp} {Q : VK}
    (h : tM g W (fun ρ L => (fa ρ L).bind fun d => sem d) σ H Q) : tUn r (tM g W fa) σ H Q := by
  obtain ⟨m, L, ρ, hr, lr, po⟩ := h
  refine ⟨m, L, ρ, hr, lr, (Post.bind (R := RD g) po).imp fun v H1 ⟨m1, L1, d, e1, hr1, rd, po1⟩ => ?_⟩
  exact hs _ _ _ _ m1 L1 d hr1 rd po1
variable {a b c' : Ex} {ea eb ec : Expr} {pos : Pos}
theorem m_bop (c : CxOk g T cf dt C k X W) {o : BOp} (ha : PE X ea (tM g W (evE T C a))) (hb : PE X eb (tM g W (evE T C b))) : PE X (.BinOp ea (opOf o) eb pos) (tM g W (evE T C (.bop o a b))) :=
  pe_imp (pe_op (vop_bin c.K o) ha hb) fun σ H Q h => two (fun _ _ _ _ z => z) h
theorem m_neg (ha : PE X ea (tM g W (evE T C a))) : PE X (.UnaryOp .USub ea pos) (tM g W (evE T C (.neg a))) :=
  pe_imp (pe_un (vop_neg (g := g)) ha) fun σ H Q h => one (fun x H Q E m L d hr rd po => ⟨E, m, L, d, hr, rd, po⟩) h
theorem cmp_of {o : CmpOp} {x y : V} {H : Hp} {Q : VK} (h : VOp g (fun d e L => must ((cmpD L o d e).map .bl) L) x y H Q) : VCmp g o x y H Q := by
  obtain ⟨E, m, L, d, e, hr, rd, re, po⟩ := h
  cases q : cmpD L o d e with
  | none => simp only [q] at po; exact po.elim
  | some b =>
    simp only [q] at po
    exact ⟨m, L, d, e, b, hr, rd, re, q, po.at hr (.bl b)⟩
theorem m_cmp (c : CxOk g T cf dt C k X W) {o : CmpOp} (hn : noSet eb = true) (ha : PE X ea (tM g W (evE T C a))) (hb : PE X eb (tM g W (evE T C b))) : PE X (.Compare ea [o] [eb] pos) (tM g W (evE T C (.cmp o a b))) :=
  pe_imp (pe_cmpR (vop_cmp c.K c.hu o) ha hb (nobehind_of hn o)) fun σ H Q h => two (fun _ _ _ _ z => cmp_of z) h
theorem isNon_rel {m : List Addr} {H : Hp} {d : D} {x : V} (rd : RelD g m H d x) : decide (x = V.non) = isNon d := by
  cases rd <;> rfl
theorem m_isn {j : Nat} {pos' : Pos} (ha : PE X ea (tM g W (evE T C a))) : PE X (.Compare ea [.Is] [.Constant .none j pos'] pos) (tM g W (evE T C (.isn a))) := by
  refine pe_imp (pe_cmp (pc_isN ha)) fun σ H Q ⟨m, L, ρ, hr, lr, po⟩ => ?_
  refine ⟨m, L, ρ, hr, lr, (Post.bind (R := RD g) po).imp fun v H1 ⟨m1, L1, d, e1, hr1, rd, po1⟩ => ?_⟩
  rw [isNon_rel rd]
  exact po1.at hr1 (.bl _)
theorem m_nisn {j : Nat} {pos' : Pos} (ha : PE X ea (tM g W (evE T C a))) : PE X (.Compare ea [.IsNot] [.Constant .none j pos'] pos) (tM g W (evE T C (.nisn a))) := by
  refine pe_imp (pe_cmp (pc_notN ha)) fun σ H Q ⟨m, L, ρ, hr, lr, po⟩ => ?_
  refine ⟨m, L, ρ, hr, lr, (Post.bind (R := RD g) po).imp fun v H1 ⟨m1, L1, d, e1, hr1, rd, po1⟩ => ?_⟩
  rw [isNon_rel rd]
  exact po1.at hr1 (.bl _)
/-- a chain's reading -/
theorem chain_of {o p : CmpOp} {σ : L2.St} {H : Hp} {Q : VK} (h : tM g W (evE T C (.chain o p a b c')) σ H Q) : tChain (VCmp g o) (VCmp g p) (tM g W (evE T C a)) (tM g W (evE T C b)) (tM g W (evE T C c')) σ H Q := by
  obtain ⟨m, L, ρ, hr, lr, po⟩ := h
  refine ⟨m, L, ρ, hr, lr, (Post.bind (R := RD g) po).imp fun v H1 ⟨m1, L1, d, e1, hr1, rd, po1⟩ => ?_⟩
  refine ⟨m1, L1, ρ, hr1, lr.mono e1, (Post.bind (R := RD g) po1).imp fun v2 H2 ⟨m2, L2, e, e2, hr2, re, po2⟩ => ?_⟩
  cases q : cmpD L2 o d e with
  | none => simp only [q] at po2; exact po2.elim
  | some b =>
    refine ⟨m2, L2, d, e, b, hr2, rd.mono e2, re, q, b, rfl, ?_⟩
    cases b with
    | false =>
      simp only [q] at po2
      exact po2.at hr2 (.bl false)
    | true =>
      simp only [q] at po2
      refine ⟨m2, L2, ρ, hr2, (lr.mono e1).mono e2, (Post.bind (R := RD g) po2).imp fun v3 H3 ⟨m3, L3, f, e3, hr3, rf, po3⟩ => ?_⟩
      exact cmp_of ⟨_, m3, L3, e, f, hr3, re.mono e3, rf, po3⟩
theorem m_chain (c : CxOk g T cf dt C k X W) {o p : CmpOp} (hn : noSet ec = true) (ha : PE X ea (tM g W (evE T C a))) (hb : PE X eb (tM g W (evE T C b))) (hc : PE X ec (tM g W (evE T C c'))) :
    PE X (.Compare ea [o, p] [eb, ec] pos) (tM g W (evE T C (.chain o p a b c'))) :=
  pe_imp (pe_chain (vop_cmp c.K c.hu o) (vop_cmp c.K c.hu p) ha hb hc (by show behindInMarks p ec = false; exact nobehind_of hn p)) fun σ H Q h => chain_of h
end
end Mi
end

section
set_option Elab.async false
set_option linter.all false
set_option maxRecDepth 100000
set_option maxHeartbeats 4000000
/-! Mi, part G2: truth; sequences; items. -/
namespace Mi
open PySem PySem.Spec PyProof.Rows L2

theorem Post.bindE {α β γ δ : Type} {g : G} {E : XK} {R : List Addr → Hp → α → β → Prop} {R' : List Addr → Hp → γ → δ → Prop} {m : List Addr} {H : Hp} {r : Res α} {k : α → M γ} {Q2 : δ → Hp → Prop} (h : Post g E R' m H (r.bind k) Q2) :
    Post g E R m H r fun v H1 => ∃ m1 L1 a, r = .ok a L1 ∧ Ev m H m1 H1 ∧ HRel g m1 L1 H1 ∧ R m1 H1 a v ∧ Post g E R' m1 H1 (k a L1) Q2 := by
  cases r with
  | ok d L' => exact fun m1 H1 v e hr rd => ⟨m1, L', d, rfl, e, hr, rd, h.ev e⟩
  | exc c fs L' => exact h
  | stk => exact h
theorem bind_ok {α β : Type} {r : Res α} {f : α → M β} {b : β} {L' : MH} (h : r.bind f = .ok b L') : ∃ a L, r = .ok a L ∧ f a L = .ok b L' := by
  cases r with
  | ok a L => exact ⟨a, L, rfl, h⟩
  | exc c fs L => cases h
  | stk => cases h

section
variable {g : G} {T : Tb} {cf : Cf} {dt : Nat → FuncData} {C : Nat → List D → M D} {k : Nat} {X : Cx} {W : WX}
variable {a b c' : Ex} {ea eb ec : Expr} {pos : Pos}
/-- a value's truth -/
def VTru (g : G) (x : V) (H : Hp) (Q : Bool → Hp → Prop) : Prop := ∃ m L d b, HRel g m L H ∧ RelD g m H d x ∧ truD L d = some b ∧ Q b H
theorem VTru.of (hK : X.K = g.K) {x : V} {H : Hp} {Q : Bool → Hp → Prop} (h : VTru g x H Q) : ∃ b, TruV X.K x H b ∧ Q b H := by
  obtain ⟨m, L, d, b, hr, rd, e, q⟩ := h
  exact ⟨b, by rw [hK]; exact tru_rel hr rd e, q⟩
/-- a test by a value's truth -/
theorem tru_of {f : Loc → M D} {σ : L2.St} {H : Hp} {Q : Bool → Hp → Prop} (h : tMT g W (fun ρ L => (f ρ L).bind fun d L1 => must (truD L1 d) L1) σ H Q) : tM g W f σ H fun x H1 => VTru g x H1 Q := by
  obtain ⟨m, L, ρ, hr, lr, po⟩ := h
  refine ⟨m, L, ρ, hr, lr, (Post.bind (R := RD g) po).imp fun v H1 ⟨m1, L1, d, e1, hr1, rd, po1⟩ => ?_⟩
  cases q : truD L1 d with
  | none => rw [q] at po1; exact po1.elim
  | some b =>
    rw [q] at po1
    exact ⟨m1, L1, d, b, hr1, rd, q, po1.at hr1 rfl⟩
theorem t_plain (c : CxOk g T cf dt C k X W) (hp : plainTest ea = true) (ha : PE X ea (tM g W (evE T C a))) : PT X ea (tMT g W (evB T C a)) :=
  pt_imp (pt_truth ha (isTrue_form hp)) fun σ H Q h => by
    obtain ⟨m, L, ρ, hr, lr, po⟩ := tru_of h
    exact ⟨m, L, ρ, hr, lr, po.imp fun v H1 z => z.of c.K⟩
theorem m_not (c : CxOk g T cf dt C k X W) (ha : PE X ea (tM g W (evE T C a))) : PE X (.UnaryOp .Not ea pos) (tM g W (evE T C (.not a))) := by
  refine pe_imp (pe_notT ha) fun σ H Q ⟨m, L, ρ, hr, lr, po⟩ => ?_
  refine ⟨m, L, ρ, hr, lr, (Post.bind (R := RD g) po).imp fun v H1 ⟨m1, L1, d, e1, hr1, rd, po1⟩ => ?_⟩
  cases q : truD L1 d with
  | none => simp only [q] at po1; exact po1.elim
  | some b =>
    simp only [q] at po1
    exact ⟨b, by rw [c.K]; exact tru_rel hr1 rd q, po1.at hr1 (.bl _)⟩
theorem evB_not (ρ : Loc) (L : MH) : evB T C (.not a) ρ L = (evB T C a ρ L).bind fun b => ret (!b) := by
  unfold evB
  simp only [evE]
  cases evE T C a ρ L with
  | ok d L1 =>
    simp only [Res.bind]
    cases truD L1 d <;> rfl
  | exc c fs L1 => rfl
  | stk => rfl
theorem t_not (ha : PT X ea (tMT g W (evB T C a))) : PT X (.UnaryOp .Not ea pos) (tMT g W (evB T C (.not a))) := by
  refine pt_imp (pt_not ha) fun σ H Q ⟨m, L, ρ, hr, lr, po⟩ => ?_
  rw [evB_not] at po
  refine ⟨m, L, ρ, hr, lr, (Post.bind (R := REq) po).imp fun v H1 ⟨m1, L1, d, e1, hr1, rd, po1⟩ => ?_⟩
  cases rd
  exact po1.at hr1 rfl
theorem m_and (c : CxOk g T cf dt C k X W) {rest : List Expr} (ha : PE X ea (tM g W (evE T C a))) (hb : PE X (.BoolOp .And (eb :: rest) pos) (tM g W (evE T C b))) : PE X (.BoolOp .And (ea :: eb :: rest) pos) (tM g W (evE T C (.and a b))) := by
  refine pe_imp (pe_andT ha hb) fun σ H Q ⟨m, L, ρ, hr, lr, po⟩ => ?_
  refine ⟨m, L, ρ, hr, lr, (Post.bind (R := RD g) po).imp fun v H1 ⟨m1, L1, d, e1, hr1, rd, po1⟩ => ?_⟩
  cases q : truD L1 d with
  | none => simp only [q] at po1; exact po1.elim
  | some b' =>
    refine ⟨b', by rw [c.K]; exact tru_rel hr1 rd q, ?_⟩
    cases b' with
    | true =>
      simp only [q] at po1
      exact ⟨m1, L1, ρ, hr1, lr.mono e1, po1⟩
    | false =>
      simp only [q] at po1
      exact po1.at hr1 rd
theorem m_or (c : CxOk g T cf dt C k X W) {rest : List Expr} (ha : PE X ea (tM g W (evE T C a))) (hb : PE X (.BoolOp .Or (eb :: rest) pos) (tM g W (evE T C b))) : PE X (.BoolOp .Or (ea :: eb :: rest) pos) (tM g W (evE T C (.or a b))) := by
  refine pe_imp (pe_orT ha hb) fun σ H Q ⟨m, L, ρ, hr, lr, po⟩ => ?_
  refine ⟨m, L, ρ, hr, lr, (Post.bind (R := RD g) po).imp fun v H1 ⟨m1, L1, d, e1, hr1, rd, po1⟩ => ?_⟩
  cases q : truD L1 d with
  | none => simp only [q] at po1; exact po1.elim
  | some b' =>
    refine ⟨b', by rw [c.K]; exact tru_rel hr1 rd q, ?_⟩
    cases b' with
    | false =>
      simp only [q] at po1
      exact ⟨m1, L1, ρ, hr1, lr.mono e1, po1⟩
    | true =>
      simp only [q] at po1
      exact po1.at hr1 rd
theorem evB_and (ρ : Loc) (L : MH) : evB T C (.and a b) ρ L = (evB T C a ρ L).bind fun c => if c then evB T C b ρ else ret false := by
  unfold evB
  simp only [evE]
  cases evE T C a ρ L with
  | ok d L1 =>
    simp only [Res.bind]
    cases q : truD L1 d with
    | none => rfl
    | some c =>
      cases c with
      | true => rfl
      | false =>
        show must (truD L1 d) L1 = _
        rw [q]
        rfl
  | exc c fs L1 => rfl
  | stk => rfl
theorem evB_or (ρ : Loc) (L : MH) : evB T C (.or a b) ρ L = (evB T C a ρ L).bind fun c => if c then ret true else evB T C b ρ := by
  unfold evB
  simp only [evE]
  cases evE T C a ρ L with
  | ok d L1 =>
    simp only [Res.bind]
    cases q : truD L1 d with
    | none => rfl
    | some c =>
      cases c with
      | false => rfl
      | true =>
        show must (truD L1 d) L1 = _
        rw [q]
        rfl
  | exc c fs L1 => rfl
  | stk => rfl
theorem w_and {rest : List Expr} (ha : PT X ea (tMT g W (evB T C a))) (hb : PW X (.BoolOp .And (eb :: rest) pos) (tMT g W (evB T C b))) : PW X (.BoolOp .And (ea :: eb :: rest) pos) (tMT g W (evB T C (.and a b))) := by
  refine pw_imp (pw_and ha hb) fun σ H Q ⟨m, L, ρ, hr, lr, po⟩ => ?_
  rw [evB_and] at po
  refine ⟨m, L, ρ, hr, lr, (Post.bind (R := REq) po).imp fun v H1 ⟨m1, L1, d, e1, hr1, rd, po1⟩ => ?_⟩
  cases rd
  cases v with
  | true => exact ⟨m1, L1, ρ, hr1, lr.mono e1, po1⟩
  | false => exact po1.at hr1 rfl
theorem w_or {rest : List Expr} (ha : PT X ea (tMT g W (evB T C a))) (hb : PW X (.BoolOp .Or (eb :: rest) pos) (tMT g W (evB T C b))) : PW X (.BoolOp .Or (ea :: eb :: rest) pos) (tMT g W (evB T C (.or a b))) := by
  refine pw_imp (pw_or ha hb) fun σ H Q ⟨m, L, ρ, hr, lr, po⟩ => ?_
  rw [evB_or] at po
  refine ⟨m, L, ρ, hr, lr, (Post.bind (R := REq) po).imp fun v H1 ⟨m1, L1, d, e1, hr1, rd, po1⟩ => ?_⟩
  cases rd
  cases v with
  | false => exact ⟨m1, L1, ρ, hr1, lr.mono e1, po1⟩
  | true => exact po1.at hr1 rfl
/-- comparisons give bools -/
theorem evE_cmp_bl {o : CmpOp} {ρ : Loc} {L L' : MH} {d : D} (h : evE T C (.cmp o a b) ρ L = .ok d L') : ∃ k, d = .bl k := by
  simp only [evE] at h
  obtain ⟨x, L1, _, h⟩ := bind_ok h
  obtain ⟨y, L2, _, h⟩ := bind_ok h
  cases q : cmpD L2 o x y with
  | none => rw [q] at h; cases h
  | some k => rw [q] at h; cases h; exact ⟨k, rfl⟩
theorem evE_chain_bl {o p : CmpOp} {ρ : Loc} {L L' : MH} {d : D} (h : evE T C (.chain o p a b c') ρ L = .ok d L') : ∃ k, d = .bl k := by
  simp only [evE] at h
  obtain ⟨x, L1, _, h⟩ := bind_ok h
  obtain ⟨y, L2, _, h⟩ := bind_ok h
  cases q : cmpD L2 o x y with
  | none => rw [q] at h; cases h
  | some k =>
    rw [q] at h
    cases k with
    | false => cases h; exact ⟨_, rfl⟩
    | true =>
      obtain ⟨z, L3, _, h⟩ := bind_ok h
      cases q : cmpD L3 p y z with
      | none => rw [q] at h; cases h
      | some k => rw [q] at h; cases h; exact ⟨k, rfl⟩
theorem bl_of {ir : Ex} (hb : ∀ ρ L d L', evE T C ir ρ L = .ok d L' → ∃ k, d = .bl k) {σ : L2.St} {H : Hp} {Q : Bool → Hp → Prop} (h : tMT g W (evB T C ir) σ H Q) : tM g W (evE T C ir) σ H fun x H1 => ∃ k, x = .bl k ∧ Q k H1 := by
  obtain ⟨m, L, ρ, hr, lr, po⟩ := h
  refine ⟨m, L, ρ, hr, lr, (Post.bindE (R := RD g) po).imp fun v H1 ⟨m1, L1, d, e0, e1, hr1, rd, po1⟩ => ?_⟩
  obtain ⟨k, rfl⟩ := hb _ _ _ _ e0
  cases rd
  exact ⟨k, rfl, po1.at hr1 rfl⟩
theorem t_cmp (c : CxOk g T cf dt C k X W) {o : CmpOp} (hn : noSet eb = true) (ha : PE X ea (tM g W (evE T C a))) (hb : PE X eb (tM g W (evE T C b))) : PT X (.Compare ea [o] [eb] pos) (tMT g W (evB T C (.cmp o a b))) :=
  pt_imp (pt_cmpR (vop_cmp c.K c.hu o) ha hb (nobehind_of hn o)) fun σ H Q h => two (fun _ _ _ _ z => cmp_of z) (bl_of (fun _ _ _ _ z => evE_cmp_bl z) h)
theorem t_chain (c : CxOk g T cf dt C k X W) {o p : CmpOp} (hn : noSet ec = true) (ha : PE X ea (tM g W (evE T C a))) (hb : PE X eb (tM g W (evE T C b))) (hc : PE X ec (tM g W (evE T C c'))) :
    PT X (.Compare ea [o, p] [eb, ec] pos) (tMT g W (evB T C (.chain o p a b c'))) :=
  pt_imp (pt_chain (vop_cmp c.K c.hu o) (vop_cmp c.K c.hu p) ha hb hc (by show behindInMarks p ec = false; exact nobehind_of hn p)) fun σ H Q h => chain_of (bl_of (fun _ _ _ _ z => evE_chain_bl z) h)
theorem t_isn {j : Nat} {pos' : Pos} (ha : PE X ea (tM g W (evE T C a))) : PT X (.Compare ea [.Is] [.Constant .none j pos'] pos) (tMT g W (evB T C (.isn a))) := by
  refine pt_imp (pt_cmp (pc_isN ha)) fun σ H Q h => ?_
  obtain ⟨m, L, ρ, hr, lr, po⟩ := bl_of (ir := .isn a) (fun ρ L d L' z => by
    simp only [evE] at z
    obtain ⟨x, L1, _, z⟩ := bind_ok z
    cases z
    exact ⟨_, rfl⟩) h
  refine ⟨m, L, ρ, hr, lr, (Post.bind (R := RD g) po).imp fun v H1 ⟨m1, L1, d, e1, hr1, rd, po1⟩ => ?_⟩
  rw [isNon_rel rd]
  exact po1.at hr1 (.bl _)
theorem t_nisn {j : Nat} {pos' : Pos} (ha : PE X ea (tM g W (evE T C a))) : PT X (.Compare ea [.IsNot] [.Constant .none j pos'] pos) (tMT g W (evB T C (.nisn a))) := by
  refine pt_imp (pt_cmp (pc_notN ha)) fun σ H Q h => ?_
  obtain ⟨m, L, ρ, hr, lr, po⟩ := bl_of (ir := .nisn a) (fun ρ L d L' z => by
    simp only [evE] at z
    obtain ⟨x, L1, _, z⟩ := bind_ok z
    cases z
    exact ⟨_, rfl⟩) h
  refine ⟨m, L, ρ, hr, lr, (Post.bind (R := RD g) po).imp fun v H1 ⟨m1, L1, d, e1, hr1, rd, po1⟩ => ?_⟩
  rw [isNon_rel rd]
  exact po1.at hr1 (.bl _)
/-- a if c else b -/
theorem evE_ife (ρ : Loc) (L : MH) : evE T C (.ife c' a b) ρ L = (evB T C c' ρ L).bind fun k => if k then evE T C a ρ else evE T C b ρ := by
  unfold evB
  simp only [evE]
  cases evE T C c' ρ L with
  | ok d L1 =>
    simp only [Res.bind]
    cases truD L1 d with
    | none => rfl
    | some c => cases c <;> rfl
  | exc c fs L1 => rfl
  | stk => rfl
theorem m_ife (hc : PT X ec (tMT g W (evB T C c'))) (ha : PE X ea (tM g W (evE T C a))) (hb : PE X eb (tM g W (evE T C b))) : PE X (.IfExp ec ea eb pos) (tM g W (evE T C (.ife c' a b))) := by
  refine pe_imp (pe_ifExp hc ha hb) fun σ H Q ⟨m, L, ρ, hr, lr, po⟩ => ?_
  rw [evE_ife] at po
  refine ⟨m, L, ρ, hr, lr, (Post.bind (R := REq) po).imp fun v H1 ⟨m1, L1, d, e1, hr1, rd, po1⟩ => ?_⟩
  cases rd
  cases v with
  | true => exact ⟨m1, L1, ρ, hr1, lr.mono e1, po1⟩
  | false => exact ⟨m1, L1, ρ, hr1, lr.mono e1, po1⟩
end
end Mi
end

section
set_option Elab.async false
set_option linter.all false
set_option maxRecDepth 100000
set_option maxHeartbeats 4000000
/-! Mi, part G3: argument lists, displays, items, slices, calls. -/
namespace Mi
open PySem PySem.Spec PyProof.Rows L2
section
variable {g : G} {T : Tb} {cf : Cf} {dt : Nat → FuncData} {C : Nat → List D → M D} {k : Nat} {X : Cx} {W : WX}
variable {a b i : Ex} {ea eb ei : Expr} {pos : Pos} {es : Exs} {xs : List Expr}
theorem a_nil : PA X [] (tMA g W (evEs T C .nil)) := pa_imp pa_nil fun σ H Q ⟨m, L, ρ, hr, lr, po⟩ => po.at hr .nil
theorem a_cons (hs : noStar ea = true) (ha : PE X ea (tM g W (evE T C a))) (hr : PA X xs (tMA g W (evEs T C es))) : PA X (ea :: xs) (tMA g W (evEs T C (.cons a es))) := by
  refine pa_imp (pa_cons ha hr (star_plain hs)) fun σ H Q ⟨m, L, ρ, hr, lr, po⟩ => ?_
  refine ⟨m, L, ρ, hr, lr, (Post.bind (R := RD g) po).imp fun v H1 ⟨m1, L1, d, e1, hr1, rd, po1⟩ => ?_⟩
  refine ⟨m1, L1, ρ, hr1, lr.mono e1, (Post.bind (R := RDs g) po1).imp fun vs H2 ⟨m2, L2, ds, e2, hr2, rds, po2⟩ => ?_⟩
  exact po2.at hr2 (.cons (rd.mono e2) rds)
/-- arguments, then the rest -/
theorem args_then {f : Loc → M (List D)} {sem : List D → M D} {σ : L2.St} {H : Hp} {Q : VK} (h : tM g W (fun ρ L => (f ρ L).bind fun ds => sem ds) σ H Q) :
    tMA g W f σ H fun vs H1 => ∃ m1 L1 ds ρ, HRel g m1 L1 H1 ∧ LRel g m1 H1 ρ σ ∧ RelDs g m1 H1 ds vs ∧ Post g (fun c d H' => W c d σ H') (RD g) m1 H1 (sem ds L1) Q := by
  obtain ⟨m, L, ρ, hr, lr, po⟩ := h
  exact ⟨m, L, ρ, hr, lr, (Post.bind (R := RDs g) po).imp fun vs H1 ⟨m1, L1, ds, e1, hr1, rds, po1⟩ => ⟨m1, L1, ds, ρ, hr1, lr.mono e1, rds, po1⟩⟩
theorem m_tup {j : Nat} (ha : PA X xs (tMA g W (evEs T C es))) : PE X (.Tuple xs j pos) (tM g W (evE T C (.tup es))) := by
  refine pe_imp (pe_tup ha) fun σ H Q h => ?_
  obtain ⟨m, L, ρ, hr, lr, po⟩ := args_then (sem := fun ds => if sizeOkB ds.length then ret (.tup ds) else stuck) h
  refine ⟨m, L, ρ, hr, lr, po.imp fun vs H1 ⟨m1, L1, ds, ρ', hr1, lr1, rds, po1⟩ => ?_⟩
  split at po1
  · rename_i q
    exact ⟨by rw [← rds.length]; exact okB q, tup_post hr1 rds po1⟩
  · exact po1.elim
theorem m_lst (ha : PA X xs (tMA g W (evEs T C es))) : PE X (.List xs pos) (tM g W (evE T C (.lst es))) := by
  refine pe_imp (pe_lst ha) fun σ H Q h => ?_
  obtain ⟨m, L, ρ, hr, lr, po⟩ := args_then (sem := fun ds => if sizeOkB ds.length then newL ds else stuck) h
  refine ⟨m, L, ρ, hr, lr, po.imp fun vs H1 ⟨m1, L1, ds, ρ', hr1, lr1, rds, po1⟩ => ?_⟩
  split at po1
  · rename_i q
    exact ⟨by rw [← rds.length]; exact okB q, newL_post hr1 rds po1⟩
  · exact po1.elim
/-! ### items, slices -/
theorem ixD_rel {m : List Addr} {L : MH} {H : Hp} {d e r : D} {x y : V} (hr : HRel g m L H) (rd : RelD g m H d x) (re : RelD g m H e y) (h : ixD L d e = some r) :
    (∃ p vs j v, x = .ref p ∧ y = .int j ∧ (SqL g.K H p vs ∨ SqT g.K H p vs) ∧ atI vs j = some v ∧ RelD g m H r v) ∨ ∃ z j c, x = .str z ∧ y = .int j ∧ z.length ≤ sizeLine ∧ atI z.cps.toList j = some c ∧ r = .str ⟨#[c]⟩ := by
  cases re with
  | int j =>
    have seq : (seqD L d).bind (fun xs => atI xs j) = some r → ∃ p vs j' v, x = .ref p ∧ V.int j = .int j' ∧ (SqL g.K H p vs ∨ SqT g.K H p vs) ∧ atI vs j' = some v ∧ RelD g m H r v := fun h => by
      cases e1 : seqD L d with
      | none => rw [e1] at h; cases h
      | some xs =>
        rw [e1] at h
        obtain ⟨p, vs, rfl, h1, h2⟩ := seqD_rel hr rd e1
        obtain ⟨v, h3, h4⟩ := atI_rel h2 (show atI xs j = some r from h)
        exact ⟨p, vs, j, v, rfl, rfl, h1, h3, h4⟩
    cases rd with
    | str s =>
      simp only [ixD] at h
      split at h
      · rename_i q
        cases e1 : atI s.cps.toList j with
        | none => rw [e1] at h; cases h
        | some c =>
          rw [e1] at h
          cases h
          exact .inr ⟨s, j, c, rfl, rfl, okB q, e1, rfl⟩
      · cases h
    | _ => exact .inl (seq h)
  | _ => cases h
theorem m_ix (c : CxOk g T cf dt C k X W) (hn : noSlice ei = true) (ha : PE X ea (tM g W (evE T C a))) (hi : PE X ei (tM g W (evE T C i))) : PE X (.Subscript ea ei pos) (tM g W (evE T C (.ix a i))) := by
  refine pe_imp (pe_ix ix_seq ha hi (plainIx_of hn)) fun σ H Q h => two (sem := fun d e L => must (ixD L d e) L) (fun x y H Q z => ?_) h
  obtain ⟨E, m, L, d, e, hr, rd, re, po⟩ := z
  cases q : ixD L d e with
  | none => simp only [q] at po; exact po.elim
  | some r =>
    simp only [q] at po
    rcases ixD_rel hr rd re q with ⟨p, vs, j, v, rfl, rfl, h1 | h1, h2, h3⟩ | ⟨z, j, c', rfl, rfl, h1, h2, rfl⟩
    · exact .inl ⟨p, vs, j, v, rfl, rfl, by rw [c.K]; exact h1, h2, po.at hr h3⟩
    · exact .inr (.inl ⟨p, vs, j, v, rfl, rfl, by rw [c.K]; exact h1, h2, po.at hr h3⟩)
    · exact .inr (.inr ⟨z, j, c', rfl, rfl, h1, h2, po.at hr (.str _)⟩)
/-- a slice's part by a computation -/
def tMO (g : G) (W : WX) (f : Loc → M (Option Int)) : TO := fun σ H Q => ∃ m L ρ, HRel g m L H ∧ LRel g m H ρ σ ∧ Post g (fun c d H' => W c d σ H') REq m H (f ρ L) Q
theorem po_imp {e : Option Expr} {t t' : TO} (h : PO X e t) (q : ∀ σ H Q, t' σ H Q → t σ H Q) : PO X e t' := ⟨fun pins s σ H Q I z => h.run pins s σ H Q I (q σ H Q z)⟩
theorem o_none : PO X none (tMO g W (evO T C .none)) := po_imp po_none fun σ H Q ⟨m, L, ρ, hr, lr, po⟩ => po.at hr rfl
theorem o_some (ha : PE X ea (tM g W (evE T C a))) : PO X (some ea) (tMO g W (evO T C (.some a))) := by
  refine po_imp (po_some ha) fun σ H Q ⟨m, L, ρ, hr, lr, po⟩ => ?_
  refine ⟨m, L, ρ, hr, lr, (Post.bind (R := RD g) po).imp fun v H1 ⟨m1, L1, d, e1, hr1, rd, po1⟩ => ?_⟩
  cases rd <;> first | exact po1.elim | skip
  exact ⟨_, rfl, po1.at hr1 rfl⟩
theorem m_sl (c : CxOk g T cf dt C k X W) {lo hi : Ox} {elo ehi : Option Expr} {p2 : Pos} (ha : PE X ea (tM g W (evE T C a))) (hl : PO X elo (tMO g W (evO T C lo))) (hh : PO X ehi (tMO g W (evO T C hi))) :
    PE X (.Subscript ea (.Slice elo ehi none p2) pos) (tM g W (evE T C (.sl a lo hi))) := by
  refine pe_imp (pe_slice (SlR.or C8.sl_txt (SlR.or sl_tupA sl_list)) ha hl hh) fun σ H Q ⟨m, L, ρ, hr, lr, po⟩ => ?_
  refine ⟨m, L, ρ, hr, lr, (Post.bind (R := RD g) po).imp fun v H1 ⟨m1, L1, d, e1, hr1, rd, po1⟩ => ?_⟩
  refine ⟨m1, L1, ρ, hr1, lr.mono e1, (Post.bind (R := REq) po1).imp fun l H2 ⟨m2, L2, l', e2, hr2, el, po2⟩ => ?_⟩
  cases el
  refine ⟨m2, L2, ρ, hr2, (lr.mono e1).mono e2, (Post.bind (R := REq) po2).imp fun h H3 ⟨m3, L3, h', e3, hr3, eh, po3⟩ => ?_⟩
  cases eh
  have rd3 := (rd.mono e2).mono e3
  have lst : ∀ {zs : List D}, listD L3 d = some zs → Post g (fun c d H' => W c d σ H') (RD g) m3 H3 (newL (cutD zs l h) L3) Q → rSlL X.K v l h H3 Q := fun {zs} q po => by
    obtain ⟨p, vs, rfl, h1, h2⟩ := listD_rel hr3 rd3 q
    exact ⟨p, vs, rfl, by rw [c.K]; exact h1, newL_post hr3 (cut_rel h2 l h) po⟩
  cases rd3 with
  | str s =>
    simp only [slD] at po3
    split at po3
    · rename_i q
      exact .inl ⟨s, rfl, okB q, po3.at hr3 (.str _)⟩
    · exact po3.elim
  | @tup zs vs p h1 h2 =>
    refine .inr (.inl ⟨p, vs, rfl, by rw [c.K]; exact h1, fun hw => ?_, fun _ => tup_post hr3 (cut_rel h2 l h) po3⟩)
    refine po3.at hr3 (.tup h1 ?_)
    have e : cutV vs l h = vs := by
      unfold cutV
      rw [hw.1, hw.2, List.drop_zero, Nat.sub_zero, List.take_length]
    rw [← e]
    exact cut_rel h2 l h
  | ref hm =>
    simp only [slD] at po3
    split at po3
    · rename_i q
      exact .inr (.inr (lst q po3))
    · exact po3.elim
  | fzl h1 h2 =>
    simp only [slD] at po3
    split at po3
    · rename_i q
      exact .inr (.inr (lst q po3))
    · exact po3.elim
  | _ => exact po3.elim
/-! ### calls of the text's own functions -/
/-- the keywords' values by a computation: PK -/
theorem pk_imp {kws : List Keyword} {t t' : TA} (h : PK X kws t) (q : ∀ σ H Q, t' σ H Q → t σ H Q) : PK X kws t' := ⟨fun pos pins s σ H Q I z => h.run pos pins s σ H Q I (q σ H Q z)⟩
theorem k_nil : PK X [] (tMA g W (evEs T C .nil)) := pk_imp pk_nil fun σ H Q ⟨m, L, ρ, hr, lr, po⟩ => po.at hr .nil
theorem k_cons {nm : Option Str} {kpos : Pos} {kws : List Keyword} (ha : PE X ea (tM g W (evE T C a))) (hr : PK X kws (tMA g W (evEs T C es))) : PK X (⟨nm, ea, kpos⟩ :: kws) (tMA g W (evEs T C (.cons a es))) := by
  refine pk_imp (pk_cons ha hr) fun σ H Q ⟨m, L, ρ, hr, lr, po⟩ => ?_
  refine ⟨m, L, ρ, hr, lr, (Post.bind (R := RD g) po).imp fun v H1 ⟨m1, L1, d, e1, hr1, rd, po1⟩ => ?_⟩
  refine ⟨m1, L1, ρ, hr1, lr.mono e1, (Post.bind (R := RDs g) po1).imp fun vs H2 ⟨m2, L2, ds, e2, hr2, rds, po2⟩ => ?_⟩
  exact po2.at hr2 (.cons (rd.mono e2) rds)
/-- a call by values -/
theorem call_run (c : CxOk g T cf dt C k X W) {f : Nat} {pins : List (Addr × Obj)} {σ : L2.St} {H : Hp} {s : Shared} {Q : VK} {m : List Addr} {L : MH} {ds zs : List D} {vs ws : List V} {us uz : List Value} {ks : List Nat} (hks : ks.Nodup)
    (I : Inv X pins σ H s) (hr : HRel g m L H) (r1 : RelDs g m H ds vs) (v1 : Vals vs us) (r2 : RelDs g m H zs ws) (v2 : Vals ws uz) (po : Post g (fun c d H' => W c d σ H') (RD g) m H (callD T C f ds ks zs L) Q) :
    wpAny (model X.prog X.w) X.A (call (.ref (g.gad f)) us ((ks.map g.an).zip uz)) (EP X pins σ Q) X.xe s := by
  cases e : T.fn f with
  | none =>
    unfold callD at po
    rw [e] at po
    exact po.elim
  | some fd =>
    obtain ⟨F, hdl⟩ := c.lk.fnl f fd e
    have po' : Post g (fun c d H' => W c d σ H') (RD g) m H ((match bindK fd.ps fd.np fd.dfl ds ks zs with | some ds' => C f ds' | none => stuck) L) Q := by
      unfold callD at po
      rw [e] at po
      exact po
    exact run_callD c.K c.tk (c.room.mono (Nat.le_succ _)) F (c.fns f fd e) hdl hks I hr r1 v1 r2 v2 po'
theorem keep_of (c : CxOk g T cf dt C k X W) {f : Nat} {fd : Fd} (e : T.fn f = some fd) : PySem.W.keepIn X.K (.ref (g.gad f)) = true := (c.lk.fnl f fd e).1.keep
/-- keywords' forms -/
def kwNames : List Keyword → Option (List Str)
  | [] => some []
  | ⟨some n, _, _⟩ :: r => (kwNames r).map (n :: ·)
  | ⟨none, _, _⟩ :: _ => none
theorem kw_forms {env : Env} (pos : Pos) : ∀ {kws : List Keyword} {ks : List Str}, kwNames kws = some ks → (backToKw pos (keywordEach kws env)).all (·.1.isSome) = true ∧ (backToKw pos (keywordEach kws env)).filterMap (·.1) = ks ∧ (backToKw pos (keywordEach kws env)).any (·.1.isNone) = false
  | [], ks, h => by cases h; exact ⟨rfl, rfl, rfl⟩
  | ⟨some n, e, p⟩ :: r, ks, h => by
    simp only [kwNames] at h
    cases q : kwNames r with
    | none => rw [q] at h; cases h
    | some ks' =>
      rw [q] at h
      cases h
      obtain ⟨h1, h2, h3⟩ := kw_forms pos (kws := r) (env := env) q
      refine ⟨?_, ?_, ?_⟩
      · show (true && (backToKw pos (keywordEach r env)).all (·.1.isSome)) = true
        rw [h1]
        rfl
      · show n :: (backToKw pos (keywordEach r env)).filterMap (·.1) = n :: ks'
        rw [h2]
      · show (false || (backToKw pos (keywordEach r env)).any (·.1.isNone)) = false
        rw [h3]
        rfl
  | ⟨none, _, _⟩ :: _, _, h => by cases h
/-- arguments, keywords, then the rest -/
theorem args_kw {f f2 : Loc → M (List D)} {sem : List D → List D → M D} {σ : L2.St} {H : Hp} {Q : VK} (h : tM g W (fun ρ L => (f ρ L).bind fun ds L1 => (f2 ρ L1).bind fun zs => sem ds zs) σ H Q) :
    tMA g W f σ H fun vs H1 => tMA g W f2 σ H1 fun ws H2 => ∃ m2 L2 ds zs, HRel g m2 L2 H2 ∧ RelDs g m2 H2 ds vs ∧ RelDs g m2 H2 zs ws ∧ Post g (fun c d H' => W c d σ H') (RD g) m2 H2 (sem ds zs L2) Q := by
  obtain ⟨m, L, ρ, hr, lr, po⟩ := h
  refine ⟨m, L, ρ, hr, lr, (Post.bind (R := RDs g) po).imp fun vs H1 ⟨m1, L1, ds, e1, hr1, rds, po1⟩ => ?_⟩
  exact ⟨m1, L1, ρ, hr1, lr.mono e1, (Post.bind (R := RDs g) po1).imp fun ws H2 ⟨m2, L2, zs, e2, hr2, rzs, po2⟩ => ⟨m2, L2, ds, zs, hr2, rds.mono e2, rzs, po2⟩⟩
/-- A CALL's FORM: the callee stands, its arguments and keywords are computed, then it runs -/
theorem call_form (c : CxOk g T cf dt C k X W) {f : Value} {first : List Value} {ks : List Nat} {kes : Exs} {kws : List Keyword} (kp : PySem.W.keepIn X.K f = true) (hst : xs.all noStar = true) (hkn : kwNames kws = some (ks.map cf.an))
    (hx : xs = [] → es = .nil) (hkx : kws = [] → kes = .nil ∧ ks = []) (ha : PA X xs (tMA g W (evEs T C es))) (hk : PK X kws (tMA g W (evEs T C kes))) {pins : List (Addr × Obj)} {σ : L2.St} {H : Hp} {s : Shared} {Q : VK} (I : Inv X pins σ H s)
    {Φ : List V → List V → Hp → Prop} (zz : tMA g W (evEs T C es) σ H fun vs H2 => tMA g W (evEs T C kes) σ H2 fun ws H3 => Φ vs ws H3)
    (fin : ∀ (us uz : List Value) (vs ws : List V) (s3 : Shared) (H3 : Hp), Vals vs us → Vals ws uz → Inv X pins σ H3 s3 → Φ vs ws H3 → wpAny (model X.prog X.w) X.A (call f (first ++ us) ((ks.map g.an).zip uz)) (EP X pins σ Q) X.xe s3) :
    wpAny (model X.prog X.w) X.A (callWith pos f first (backTo pos (starEach xs X.env)) (backToKw pos (keywordEach kws X.env))) (EP X pins σ Q) X.xe s := by
  obtain ⟨k1, k2, k3⟩ := kw_forms (env := X.env) pos hkn
  have nilA : ∀ {H : Hp} {R : List V → Hp → Prop}, tMA g W (evEs T C .nil) σ H R → R [] H := fun {H R} ⟨m, L, ρ, hr, lr, po⟩ => po.at (L := L) (v := []) hr .nil
  cases kws with
  | nil =>
    obtain ⟨rfl, rfl⟩ := hkx rfl
    cases xs with
    | nil =>
      have e0 := hx rfl
      subst e0
      exact PySem.W.callWith_K0 I.kIn kp (fin [] [] [] [] s H .nil .nil I (nilA (nilA zz)))
    | cons x xs =>
      rw [List.all_cons, Bool.and_eq_true] at hst
      exact PySem.W.callWith_K (h₀ := X.base) I.ok.mod.kin kp (thn (ha.run pos pins s σ H _ I zz) fun us s2 ⟨vs, H2, I2, r, q2⟩ => ⟨I2.kIn, fin us [] vs [] s2 H2 r .nil I2 (nilA q2)⟩) (star_plain hst.1) (star_none pos hst.2)
  | cons kw kws =>
    cases xs with
    | nil =>
      have e0 := hx rfl
      subst e0
      refine PySem.W.callWith_KW0 (h₀ := X.base) I.ok.mod.kin kp k1 ?_ (by rw [k3]; rfl)
      refine thn (hk.run pos pins s σ H _ I (nilA zz)) fun ws s2 ⟨zs, H2, I2, rz, q2⟩ => ⟨I2.kIn, ?_⟩
      rw [k2, ← c.lk.an]
      exact fin [] ws [] zs s2 H2 .nil rz I2 q2
    | cons x xs =>
      have hst' := hst
      rw [List.all_cons, Bool.and_eq_true] at hst
      refine PySem.W.callWith_KW (h₀ := X.base) I.ok.mod.kin kp k1 (thn (ha.run pos pins s σ H _ I zz) fun us s2 ⟨vs, H2, I2, r, q2⟩ => ?_) (by rw [k3, star_none pos hst']; rfl) (star_plain hst.1)
      refine thn (hk.run pos pins s2 σ H2 _ I2 q2) fun ws s3 ⟨zs, H3, I3, rz, q3⟩ => ⟨I3.kIn, ?_⟩
      rw [k2, ← c.lk.an]
      exact fin us ws vs zs s3 H3 r rz I3 q3
/-- f(e, .., k = v, ..) -/
theorem m_call (c : CxOk g T cf dt C k X W) {f : Nat} {p : Pos} {kws : List Keyword} {ks : List Nat} {kes : Exs} (hf : (T.fn f).isSome = true) (hgl : cf.glob.contains f = true) (hg : Gl X (cf.nm.fn f)) (hdb : (cf.nm.fn f == ("__debug__" : Str)) = false)
    (hst : xs.all noStar = true) (hks : ks.Nodup) (hkn : kwNames kws = some (ks.map cf.an)) (hx : xs = [] → es = .nil) (hkx : kws = [] → kes = .nil ∧ ks = []) (ha : PA X xs (tMA g W (evEs T C es))) (hk : PK X kws (tMA g W (evEs T C kes))) :
    PE X (.Call (.Name (cf.nm.fn f) p) xs kws pos) (tM g W (evE T C (.call f es ks kes))) := by
  refine ⟨fun pins s σ H Q I h => ?_⟩
  obtain ⟨fd, e⟩ := Option.isSome_iff_exists.mp hf
  have z := args_kw (sem := fun ds zs => callD T C f ds ks zs) h
  refine wpAny_Call_Name_kw (ld_glob I hg (c.lk.glob f hgl) ?_ hdb)
  exact call_form c (keep_of c e) hst hkn hx hkx ha hk I z fun us uz vs ws s3 H3 r rz I3 ⟨m2, L2, ds, zs, hr2, rds, rzs, po2⟩ => call_run c hks I3 hr2 rds r rzs rz po2
end
end Mi
end

section
set_option Elab.async false
set_option linter.all false
set_option maxRecDepth 100000
set_option maxHeartbeats 4000000
/-! Mi, part G4: methods, new instances, attributes, built-ins. -/
namespace Mi
open PySem PySem.Spec PyProof.Rows L2
theorem star_allN : ∀ {es : List Expr} {env : Env} (pos : Pos), es.all noStar = true → (backTo pos (starEach es env)).all (fun x => !x.1) = true
  | [], _, _, _ => rfl
  | e :: es, env, pos, h => by
    rw [List.all_cons, Bool.and_eq_true] at h
    rw [star_plain h.1]
    show (true && (backTo pos (starEach es env)).all (fun x => !x.1)) = true
    rw [star_allN pos h.2]
    rfl
/-- few arguments, one line -/
def fewB (es : List Expr) (kws : List Keyword) (apos pos : Pos) : Bool := decide (es.length + kws.length + 1 < 30) && (apos.endLine == pos.line)
theorem meth_form {o : Expr} {m : Str} {apos pos : Pos} {es : List Expr} {kws : List Keyword} {ks : List Str} {env : Env} (ho : noCall0 o = true) (hst : es.all noStar = true) (hkn : kwNames kws = some ks) (hfew : fewB es kws apos pos = true) :
    eval (.Call (.Attribute o m apos) es kws pos) env = (do
      let ov ← eval o env
      standAt apos.atName
      let (f, first) ← holding [ov] (getMethod ov m (plainOf o env))
      callWith pos f first (backTo pos (starEach es env)) (backToKw pos (keywordEach kws env))) := by
  obtain ⟨k1, k2, k3⟩ := kw_forms (env := env) pos hkn
  obtain ⟨f1, f2⟩ := Bool.and_eq_true_iff.mp hfew
  have hf : methodCallForm (es.length + kws.length) (backTo pos (starEach es env)) (backToKw pos (keywordEach kws env)) = true := by
    unfold methodCallForm
    rw [star_allN pos hst, k1]
    have q := of_decide_eq_true f1
    simp only [Bool.true_and, decide_eq_true_eq]
    split <;> omega
  rw [arm_eval_Call, abase_of ho]
  refine congrArg _ (funext fun ov => ?_)
  rw [mcall_line hf f2]
section
variable {g : G} {T : Tb} {cf : Cf} {dt : Nat → FuncData} {C : Nat → List D → M D} {k : Nat} {X : Cx} {W : WX}
variable {a b i o : Ex} {ea eb eo : Expr} {pos apos : Pos} {es : Exs} {xs : List Expr}
theorem insOf_rel {m : List Addr} {L : MH} {H : Hp} {d : D} {x : V} {c : Nat} {fs : List (Nat × D)} (hr : HRel g m L H) (rd : RelD g m H d x) (h : insOf L d = some (c, fs)) :
    ∃ n p dx vfs, d = .ref n ∧ x = .ref p ∧ m[n]? = some p ∧ L[n]? = some (.ins c fs) ∧ H p = some (.ins (g.cad c) dx vfs) ∧ RelF g m H fs vfs := by
  cases rd with
  | @ref n p hm =>
    simp only [insOf] at h
    split at h
    · rename_i c' fs' q
      cases h
      obtain ⟨a, dx, vfs, h1, h2, h3⟩ := hr.insAt q
      rw [hm] at h1
      cases h1
      exact ⟨n, p, dx, vfs, rfl, rfl, hm, q, h2, h3⟩
    · cases h
  | _ => cases h
/-- o.m(..): the receiver, then a function of it -/
theorem m_meth (c : CxOk g T cf dt C k X W) {n : Nat} {ks : List Nat} {kes : Exs} {kws : List Keyword} (ho : noCall0 eo = true) (hst : xs.all noStar = true) (hks : ks.Nodup) (hkn : kwNames kws = some (ks.map cf.an)) (hfew : fewB xs kws apos pos = true)
    (hx : xs = [] → es = .nil) (hkx : kws = [] → kes = .nil ∧ ks = []) (hoe : PE X eo (tM g W (evE T C o))) (ha : PA X xs (tMA g W (evEs T C es))) (hk : PK X kws (tMA g W (evEs T C kes))) :
    PE X (.Call (.Attribute eo (cf.an n) apos) xs kws pos) (tM g W (evE T C (.meth o n es ks kes))) := by
  refine ⟨fun pins s σ H Q I ⟨m, L, ρ, hr, lr, po⟩ => ?_⟩
  refine PySem.W.methodCall_KW (pl := plainOf eo X.env) (thn (hoe.run pins s σ H _ I ⟨m, L, ρ, hr, lr, Post.bind (R := RD g) po⟩) fun u s1 ⟨x, H1, I1, rx, m1, L1, d, e1, hr1, rd, po1⟩ => ?_) (meth_form ho hst hkn hfew)
  cases q : insOf L1 d with
  | none => simp only [q] at po1; exact po1.elim
  | some cf' =>
    obtain ⟨cc, fs⟩ := cf'
    simp only [q] at po1
    obtain ⟨nn, p, dx, vfs, rfl, rfl, hm, hL, hH, rf⟩ := insOf_rel hr1 rd q
    cases q1 : fs.lookup n with
    | some z => simp only [q1] at po1; exact po1.elim
    | none =>
      cases q2 : T.meth cc n with
      | none => simp only [q1, q2] at po1; exact po1.elim
      | some f =>
        simp only [q1, q2] at po1
        obtain ⟨cl, me⟩ := c.lk.meth cc n f q2
        have hu : u = Value.ref p := rx
        subst hu
        rw [← c.lk.an]
        refine getmeth_ok I1 hH cl me (rf.lookupN c.lk.inj q1) ?_
        obtain ⟨k1, k2, k3⟩ := kw_forms (env := X.env) pos hkn
        have z := args_kw (f := evEs T C es) (f2 := evEs T C kes) (sem := fun ds zs => callD T C f (.ref nn :: ds) ks zs) (Q := Q) (W := W) (σ := σ) (H := H1) ⟨m1, L1, ρ, hr1, lr.mono e1, po1⟩
        have me' : ∀ {m2 : List Addr} {H2 : Hp}, Ev m1 H1 m2 H2 → RelD g m2 H2 (.ref nn) (.ref p) := fun e => .ref (e.get hm)
        -- the receiver stays: its number
        have zz : tMA g W (evEs T C es) σ H1 fun vs H2 => tMA g W (evEs T C kes) σ H2 fun ws H3 => ∃ m2 L2 ds zs, HRel g m2 L2 H3 ∧ RelD g m2 H3 (.ref nn) (.ref p) ∧ RelDs g m2 H3 ds vs ∧ RelDs g m2 H3 zs ws ∧ Post g (fun c d H' => W c d σ H') (RD g) m2 H3 (callD T C f (.ref nn :: ds) ks zs L2) Q := by
          refine ⟨m1, L1, ρ, hr1, lr.mono e1, (Post.bind (R := RDs g) po1).imp fun vs H2 ⟨m2, L2, ds, e2, hr2, rds, po2⟩ => ?_⟩
          exact ⟨m2, L2, ρ, hr2, (lr.mono e1).mono e2, (Post.bind (R := RDs g) po2).imp fun ws H3 ⟨m3, L3, zs, e3, hr3, rzs, po3⟩ => ⟨m3, L3, ds, zs, hr3, me' (e2.trans e3), rds.mono e3, rzs, po3⟩⟩
        exact call_form c me.kp hst hkn hx hkx ha hk I1 zz fun us uz vs ws s3 H3 r rz I3 ⟨m2, L2, ds, zs, hr2, rme, rds, rzs, po2⟩ =>
          call_run c (vs := .ref p :: vs) (us := .ref p :: us) hks I3 hr2 (.cons rme rds) (.cons rfl r) rzs rz po2
/-- a new instance by values -/
theorem make_run (c : CxOk g T cf dt C k X W) {cc f : Nat} (hi : T.init cc = some f) {pins : List (Addr × Obj)} {σ : L2.St} {H : Hp} {s : Shared} {Q : VK} {m : List Addr} {L : MH} {ds zs : List D} {vs ws : List V} {us uz : List Value} {ks : List Nat} (hks : ks.Nodup)
    (I : Inv X pins σ H s) (hr : HRel g m L H) (r1 : RelDs g m H ds vs) (v1 : Vals vs us) (r2 : RelDs g m H zs ws) (v2 : Vals ws uz) (po : Post g (fun c d H' => W c d σ H') (RD g) m H (makeD T C cc ds ks zs L) Q) :
    wpAny (model X.prog X.w) X.A (call (.ref (g.cad cc)) us ((ks.map g.an).zip uz)) (EP X pins σ Q) X.xe s := by
  have M := c.lk.init cc f hi
  unfold makeD at po
  simp only [hi] at po
  cases e : T.fn f with
  | none =>
    have z : callD T C f (.ref L.length :: ds) ks zs (L ++ [.ins cc []]) = .stk := by
      unfold callD
      rw [e]
      rfl
    rw [z] at po
    exact po.elim
  | some fd =>
    obtain ⟨F, hdl⟩ := c.lk.fnl f fd e
    obtain ⟨dfl', hd, hb⟩ := F.bind
    obtain ⟨x, hx⟩ : ∃ x, x = s.heap.objs.size + 1 := ⟨_, rfl⟩
    obtain ⟨dx, hdx⟩ : ∃ dx, dx = s.heap.objs.size := ⟨_, rfl⟩
    have fx : H x = none := I.hok.fresh (by rw [hx]; exact Nat.le_succ _)
    have fdx : H dx = none := I.hok.fresh (by rw [hdx]; exact Nat.le_refl _)
    have nx : dx ≠ x := by rw [hx, hdx]; exact Nat.ne_of_lt (Nat.lt_succ_self _)
    obtain ⟨H1, hH1⟩ : ∃ H1, H1 = upd (upd H dx (.own x)) x (.ins (g.cad cc) dx []) := ⟨_, rfl⟩
    have fx1 : upd H dx (.own x) x = none := by rw [upd_ne nx.symm]; exact fx
    have ev : Ev m H (m ++ [x]) H1 := by
      rw [hH1]
      exact (Ev.upd_free (m := m) (ho := .own x) fdx).trans (Ev.push fx1)
    have hr1 : HRel g (m ++ [x]) (L ++ [.ins cc []]) H1 := by
      rw [hH1]
      exact (hr.laid fdx).push fx1 ⟨dx, [], upd_same, .nil⟩
    have hx' : (m ++ [x])[L.length]? = some x := by
      rw [← hr.len]
      exact getElem?_snoc _ _
    have I2 : Inv X pins σ H1 { s with heap := (s.heap.push PySem.W.emptyDict).push (PySem.W.instObj (g.cad cc) s.heap.objs.size) } := by
      rw [hH1, hx, hdx]
      exact Inv.made (C := g.cad cc) I
    have po2 := Post.ev ev po
    unfold callD at po2
    rw [e] at po2
    simp only [Option.bind_some] at po2
    cases e3 : bindK fd.ps fd.np fd.dfl (.ref L.length :: ds) ks zs with
    | none => rw [e3] at po2; exact po2.elim
    | some ds' =>
      rw [e3] at po2
      have hd' : Paired (OptRel (RelU g (m ++ [x]) H1)) fd.dfl dfl' := L2.Paired.mapP hd fun a b h => by
        cases h with
        | none => exact .none
        | some h => exact .some (h _ _)
      obtain ⟨us', e1, e2⟩ := bindK_rel (relU_all (.cons (.ref hx') (r1.mono ev)) (.cons rfl v1)) (relU_all (r2.mono ev) v2) hd' e3
      obtain ⟨vs', r3, v3⟩ := relU_split e2
      have hl : ds'.length = fd.ps.length := by rw [bindK_len e3, hdl, Nat.min_self]
      have po3 := (Post.bind (R := RD g) po2).imp (Q' := fun v H2 => v = .non ∧ Q (.ref x) H2) fun v H2 ⟨m2, L2, d, e2, hr2, rd, po3⟩ => by
        cases rd <;> first | exact po3.elim | skip
        exact ⟨rfl, po3.at hr2 (.ref (e2.get hx'))⟩
      refine wpAny_call (make_map (f := g.gad f) I.kIn M.makes M.init (beq_iff_eq.mp M.fn) (codeAny_mono ((c.fns f fd e).run _ X.stack _ H1 ⟨Value.ref (s.heap.objs.size + 1) :: us, (ks.map g.an).zip uz⟩ us' vs' _ (fun c d H' => W c d σ H') (c.room.make (g.cad cc) us _)
        (I2.env0.make (g.cad cc) us _) (hb _ (Value.ref (s.heap.objs.size + 1) :: us) uz us' ks I2.kIn hks (by rw [← hx]; exact e1)) v3 ⟨m ++ [x], L ++ [.ins cc []], ds', hr1, r3, hl, po3⟩) fun r s' hq' => ?_))
      cases r with
      | error er => exact c.tk er s' (XE.of_call I2 (fun _ _ _ z => z) hq')
      | ok fl =>
        cases fl with
        | ret u =>
          obtain ⟨v, H', I3, rv, ev', q3⟩ := I2.after hq'
          subst ev'
          refine ⟨rv, ⟨V.ref (s.heap.objs.size + 1), H', I3, rfl, ?_⟩⟩
          rw [← hx]
          exact q3
        | next => exact False.elim hq'
        | brk => exact False.elim hq'
        | cont => exact False.elim hq'
/-- C(e, .., k = v, ..) -/
theorem m_make (c : CxOk g T cf dt C k X W) {cc : Nat} {p : Pos} {kws : List Keyword} {ks : List Nat} {kes : Exs} (hf : (T.init cc).isSome = true) (hgl : cf.cls.contains cc = true) (hg : Gl X (cf.nm.cn cc)) (hdb : (cf.nm.cn cc == ("__debug__" : Str)) = false)
    (hst : xs.all noStar = true) (hks : ks.Nodup) (hkn : kwNames kws = some (ks.map cf.an)) (hx : xs = [] → es = .nil) (hkx : kws = [] → kes = .nil ∧ ks = []) (ha : PA X xs (tMA g W (evEs T C es))) (hk : PK X kws (tMA g W (evEs T C kes))) :
    PE X (.Call (.Name (cf.nm.cn cc) p) xs kws pos) (tM g W (evE T C (.make cc es ks kes))) := by
  refine ⟨fun pins s σ H Q I h => ?_⟩
  obtain ⟨f, e⟩ := Option.isSome_iff_exists.mp hf
  have z := args_kw (sem := fun ds zs => makeD T C cc ds ks zs) h
  refine wpAny_Call_Name_kw (ld_glob I hg (c.lk.cls cc hgl) ?_ hdb)
  exact call_form c (c.lk.init cc f e).kp hst hkn hx hkx ha hk I z fun us uz vs ws s3 H3 r rz I3 ⟨m2, L2, ds, zs, hr2, rds, rzs, po2⟩ => make_run c e hks I3 hr2 rds r rzs rz po2
/-- o.a -/
theorem m_attr (c : CxOk g T cf dt C k X W) {n : Nat} (ho : noCall0 eo = true) (hoe : PE X eo (tM g W (evE T C o))) : PE X (.Attribute eo (cf.an n) pos) (tM g W (evE T C (.attr o n))) := by
  refine ⟨fun pins s σ H Q I ⟨m, L, ρ, hr, lr, po⟩ => ?_⟩
  refine attr_of (abase_of ho _) (thn (hoe.run pins s σ H _ I ⟨m, L, ρ, hr, lr, Post.bind (R := RD g) po⟩) fun u s1 ⟨x, H1, I1, rx, m1, L1, d, e1, hr1, rd, po1⟩ => ?_)
  unfold attrD at po1
  cases q : insOf L1 d with
  | none => simp only [q] at po1; exact po1.elim
  | some cf' =>
    obtain ⟨cc, fs⟩ := cf'
    simp only [q] at po1
    obtain ⟨nn, p, dx, vfs, rfl, rfl, hm, hL, hH, rf⟩ := insOf_rel hr1 rd q
    have hu : u = Value.ref p := rx
    subst hu
    rw [← c.lk.an]
    cases q0 : T.prop cc n with
    | some f =>
      simp only [q0] at po1
      obtain ⟨cl, pp, hp⟩ := c.lk.prop cc n f q0
      cases e : T.fn f with
      | none =>
        unfold callD at po1
        rw [e] at po1
        exact po1.elim
      | some fd =>
        obtain ⟨F, hdl⟩ := c.lk.fnl f fd e
        unfold callD at po1
        rw [e] at po1
        simp only [Option.bind_some] at po1
        cases e3 : bindK fd.ps fd.np fd.dfl [.ref nn] [] [] with
        | none => rw [e3] at po1; exact po1.elim
        | some ds' =>
          rw [e3] at po1
          have po2 := Post.quiet po1 (fun _ _ _ => False)
          obtain ⟨dfl', hd, hb⟩ := F.bind
          have hd' : Paired (OptRel (RelU g m1 H1)) fd.dfl dfl' := L2.Paired.mapP hd fun a b h => by
            cases h with
            | none => exact .none
            | some h => exact .some (h _ _)
          obtain ⟨us', e1', e2⟩ := bindK_rel (relU_all (.cons (.ref hm) .nil) (.cons rfl .nil)) (relU_all .nil .nil) hd' e3
          obtain ⟨vs', r3, v3⟩ := relU_split e2
          have hl : ds'.length = fd.ps.length := by rw [bindK_len e3, hdl, Nat.min_self]
          obtain ⟨mA, O, _, _, _, _⟩ := ins_get I1.hok hH
          obtain ⟨od, J, _⟩ := O.look
          obtain ⟨rest, hrec⟩ := hp.rec_
          have I2 := I1.tok (s1.toks + 1)
          have hc : (PySem.W.clsIn X.K (g.cad cc)).isSome = true := by
            obtain ⟨cd, hc, _⟩ := PySem.W.any_some cl.hd
            rw [hc]
            rfl
          refine PySem.W.get_bind I1.kIn J (PySem.W.plainGet_of (cl.get (g.an n))).1 (PySem.W.findObj_data hc hp.at_ hp.get hp.tak) (PySem.W.plainGet_of (cl.get (g.an n))).2 (wpAny_call (PySem.W.prop_get (s := { s1 with toks := s1.toks + 1 }) I1.kIn hrec ?_))
          refine codeAny_mono ((c.fns f fd e).run X.A.in1 X.stack { s1 with toks := s1.toks + 1 } H1 ⟨[.ref p], []⟩ us' vs' Q (fun _ _ _ => False) c.room.in1 I2.env0.in1 (hb _ [.ref p] [] us' [] I2.kIn List.nodup_nil e1') v3 ⟨m1, L1, ds', hr1, r3, hl, po2⟩) fun r s' hq => ?_
          cases r with
          | error er => exact (takes_none5 (X := X.nox) er s' (XE.of_call (X := X.nox) (I2.wish _) (fun _ _ _ z => z) hq)).elim
          | ok fl =>
            cases fl with
            | ret u =>
              obtain ⟨v, H', I3, rv, q3⟩ := I2.after hq
              show wpAny _ _ (handedOut u) _ _ _
              rw [PySem.W.handedOut_of (handed_of rv)]
              exact wpAny_pure ⟨v, H', I3, rv, q3⟩
            | next => exact False.elim hq
            | brk => exact False.elim hq
            | cont => exact False.elim hq
    | none =>
      simp only [q0] at po1
      cases q1 : fs.lookup n with
      | some z =>
        simp only [q1] at po1
        split at po1
        · rename_i hn
          obtain ⟨cl, na⟩ := c.lk.noat cc n hn
          obtain ⟨v, l1, l2⟩ := rf.lookup c.lk.inj q1
          exact getattr_ok I1 hH cl na l1 fun u' s2 I2 ru => ⟨v, H1, I2, ru, po1.at hr1 l2⟩
        · exact po1.elim
      | none =>
        cases q2 : T.ccon cc n with
        | none => simp only [q1, q2] at po1; exact po1.elim
        | some z =>
          simp only [q1, q2] at po1
          obtain ⟨u0, v, cl, co, rz⟩ := c.lk.ccon cc n z q2
          exact getcon_ok I1 hH cl co (rf.lookupN c.lk.inj q1) fun s2 I2 => ⟨v, H1, I2, co.rel, po1.at hr1 (rz _ _)⟩
end
end Mi
end

section
set_option Elab.async false
set_option linter.all false
set_option maxRecDepth 100000
set_option maxHeartbeats 4000000
/-! Mi, part G5: built-ins, their types' methods, isinstance, f-strings. -/
namespace Mi
open PySem PySem.Spec PyProof.Rows L2
section
variable {g : G} {T : Tb} {cf : Cf} {dt : Nat → FuncData} {C : Nat → List D → M D} {k : Nat} {X : Cx} {W : WX}
variable {a b i o : Ex} {ea eb eo : Expr} {pos apos p : Pos} {es : Exs} {xs : List Expr}
def biN : Bi → Str
  | .len => "len" | .all => "all" | .any => "any" | .abs => "abs" | .int1 => "int" | .list1 => "list" | .tuple1 => "tuple" | .str1 => "str"
theorem bi_boot (b : Bi) : bootBuiltins (biN b) = some (biV b) := by
  cases b
  · exact boot_len
  · exact boot_all
  · exact boot_any
  · exact boot_abs
  · exact boot_int
  · exact boot_list
  · exact boot_tuple
  · exact boot_str
theorem bi_nn (b : Bi) : biN b ≠ "__name__" := by cases b <;> decide
theorem bi_nd (b : Bi) : (biN b == ("__debug__" : Str)) = false := by cases b <;> decide
theorem m_bi (c : CxOk g T cf dt C k X W) {b : Bi} (hg : Gl X (biN b)) (hm : cf.blt.contains (biN b) = true) (hne : noStar ea = true) (hst : xs.all noStar = true) (ha : PA X (ea :: xs) (tMA g W (evEs T C es))) :
    PE X (.Call (.Name (biN b) p) (ea :: xs) [] pos) (tM g W (evE T C (.bi b es))) := by
  have key : PE X (.Call (.Name (biN b) p) (ea :: xs) [] pos) (tCB (VCall g (biD b)) (tMA g W (evEs T C es))) := by
    have hv := bi_boot b
    have hc := vcall_bi (X := X) c.K c.calm b
    have m0 := c.lk.blt _ hm
    have h1 := bi_nn b
    have h2 := bi_nd b
    revert hv hc
    generalize biV b = v
    intro hv hc
    cases v with
    | builtin id => exact pe_callB hc hg m0 hv ha h1 h2 (star_plain hne) (star_none pos hst)
    | type id => exact pe_callTy hc hg m0 hv ha h1 h2 (star_plain hne) (star_none pos hst)
    | _ =>
      exfalso
      cases b <;> (have := (bi_boot _).symm.trans hv; cases this)
  refine pe_imp key fun σ H Q h => ?_
  obtain ⟨m, L, ρ, hr, lr, po⟩ := args_then (sem := fun ds => biD b ds) h
  exact ⟨m, L, ρ, hr, lr, po.imp fun vs H1 ⟨m1, L1, ds, ρ', hr1, lr1, rds, po1⟩ => ⟨_, m1, L1, ds, hr1, rds, po1⟩⟩

/-! ### methods of the built-in types -/
def bmN : Bm → Str
  | .join => "join" | .append => "append" | .insert => "insert" | .split => "split" | .part => "partition" | .starts => "startswith" | .ends => "endswith"
def VMt (g : G) (b : Bm) : V → List V → Hp → VK → Prop := fun x xs H Q => ∃ E m L d ds, HRel g m L H ∧ RelD g m H d x ∧ RelDs g m H ds xs ∧ Post g E (RD g) m H (bmD b d ds L) Q
def bmI : Bm → String
  | .join => "str.join" | .append => "list.append" | .insert => "list.insert" | .split => "str.split" | .part => "str.partition" | .starts => "str.startswith" | .ends => "str.endswith"
def bmT : Bm → String
  | .join => "str" | .append => "list" | .insert => "list" | .split => "str" | .part => "str" | .starts => "str" | .ends => "str"
theorem mt_bm (hK : X.K = g.K) (b : Bm) : MtR X (bmI b) (VMt g b) := by
  intro pins s σ H x xs v us Q I rx rs h
  obtain ⟨E, m, L, d, ds, hr, rd, rr, po⟩ := h
  unfold bmD at po
  simp only at po
  split at po
  · split at po
    · rename_i d' _ ys e
      split at po
      · rename_i q
        cases rd
        cases rr with
        | cons r1 r2 =>
          cases r2
          cases e1 : seqD L d' with
          | none => rw [e1] at e; cases e
          | some zs =>
            rw [e1] at e
            obtain ⟨a, vs, rfl, h1, h2⟩ := seqD_rel hr r1 e1
            have ev := mapO_str h2 e
            subst ev
            exact mt_join pins s σ H _ _ v us Q I rx rs ⟨_, a, ys, rfl, rfl, by rw [hK]; exact h1, of_decide_eq_true q, po.at hr (.str _)⟩
      · exact po.elim
    · exact po.elim
  · split at po
    · rename_i ys e
      split at po
      · rename_i q
        cases rr with
        | cons r1 r2 =>
          cases r2
          cases rd with
          | ref hm =>
            obtain ⟨a, vs, h1, h2, h3⟩ := hr.lstAt e
            rw [hm] at h1
            cases h1
            have hl := h3.length
            refine mt_append pins s σ H _ _ v us Q I rx rs ⟨_, vs, _, rfl, rfl, h2, by rw [← hl, line_eq]; exact of_decide_eq_true q, ?_⟩
            refine set_post hr hm h2 .non ?_ po
            exact h3.append (.cons r1 .nil)
      · exact po.elim
    · exact po.elim
  · split at po
    · rename_i ys e
      split at po
      · rename_i q
        simp only [Bool.and_eq_true, decide_eq_true_eq] at q
        cases rr with
        | cons r1 r2 =>
          cases r2 with
          | cons r2 r3 =>
            cases r3
            cases r1
            cases rd with
            | ref hm =>
              obtain ⟨a, vs, h1, h2, h3⟩ := hr.lstAt e
              rw [hm] at h1
              cases h1
              have hl := h3.length
              refine mt_insert pins s σ H _ _ v us Q I rx rs ⟨_, vs, _, _, rfl, rfl, h2, by rw [← hl, line_eq]; exact q.1.1, q.1.2, q.2, ?_⟩
              refine set_post hr hm h2 .non ?_ po
              exact ((h3.take _).append (.cons r2 .nil)).append (h3.drop _)
      · exact po.elim
    · exact po.elim
  · split at po
    · rename_i q
      obtain ⟨q1, q2⟩ := Bool.and_eq_true_iff.mp q
      cases rd
      cases rr with
      | cons r1 r2 =>
        cases r2
        cases r1
        refine mt_split pins s σ H _ _ v us Q I rx rs ⟨_, _, rfl, rfl, of_decide_eq_true q1, okB q2, ?_⟩
        exact newL_post hr (strs_rel _) po
    · exact po.elim
  · split at po
    · rename_i q
      obtain ⟨q1, q2⟩ := Bool.and_eq_true_iff.mp q
      cases rd
      cases rr with
      | cons r1 r2 =>
        cases r2
        cases r1
        refine mt_partition pins s σ H _ _ v us Q I rx rs ⟨_, _, rfl, rfl, of_decide_eq_true q1, okB q2, ?_⟩
        exact tup_post hr (.cons (.str _) (.cons (.str _) (.cons (.str _) .nil))) po
    · exact po.elim
  · cases rd
    cases rr with
    | cons r1 r2 =>
      cases r2
      cases r1
      exact mt_startswith pins s σ H _ _ v us Q I rx rs ⟨_, _, rfl, rfl, po.at hr (.bl _)⟩
  · cases rd
    cases rr with
    | cons r1 r2 =>
      cases r2
      cases r1
      exact mt_endswith pins s σ H _ _ v us Q I rx rs ⟨_, _, rfl, rfl, po.at hr (.bl _)⟩
  · exact po.elim
theorem tag_str {m : List Addr} {L : MH} {H : Hp} {d : D} {x : V} (rd : RelD g m H d x) (h : tagOf L d = some .str) : tyV g.K "str" x H := by
  cases rd with
  | str z => exact rfl
  | ref h1 =>
    simp only [tagOf] at h
    split at h <;> cases h
  | _ => cases h
theorem tag_lst {m : List Addr} {L : MH} {H : Hp} {d : D} {x : V} (hr : HRel g m L H) (rd : RelD g m H d x) (h : tagOf L d = some .lst) : tyV g.K "list" x H := by
  cases rd with
  | ref h1 =>
    simp only [tagOf] at h
    split at h
    · rename_i xs e
      obtain ⟨a, vs, h2, h3, h4⟩ := hr.lstAt e
      rw [h1] at h2
      cases h2
      exact .inl ⟨rfl, vs, .inl (.inl h3)⟩
    · cases h
    · cases h
  | fzl h1 h2 => exact .inl ⟨rfl, _, h1.sqL⟩
  | _ => cases h
theorem bm_slot (b : Bm) : PlainAttrs (bmT b) ∧ Slot (bmT b) (bmN b) (bmI b) ∧ typeOf (.builtin (bmI b)) = pure (.type "method_descriptor") := by
  cases b
  · exact ⟨F.plainAttrs_str, F.slot_str_join, F.type_str_join⟩
  · exact ⟨F.plainAttrs_list, F.slot_list_append, F.type_list_append⟩
  · exact ⟨F.plainAttrs_list, F.slot_list_insert, F.type_list_insert⟩
  · exact ⟨F.plainAttrs_str, F.slot_str_split, F.type_str_split⟩
  · exact ⟨F.plainAttrs_str, F.slot_str_partition, F.type_str_partition⟩
  · exact ⟨F.plainAttrs_str, F.slot_str_startswith, F.type_str_startswith⟩
  · exact ⟨F.plainAttrs_str, F.slot_str_endswith, F.type_str_endswith⟩
theorem m_bm (c : CxOk g T cf dt C k X W) {b : Bm} (ho : noCall0 eo = true) (hne : noStar ea = true) (hst : xs.all noStar = true) (hfew : fewB (ea :: xs) [] apos pos = true) (hoe : PE X eo (tM g W (evE T C o))) (ha : PA X (ea :: xs) (tMA g W (evEs T C es))) :
    PE X (.Call (.Attribute eo (bmN b) apos) (ea :: xs) [] pos) (tM g W (evE T C (.bm b o es))) := by
  obtain ⟨h1, h2, h3⟩ := bm_slot b
  obtain ⟨f1, f2⟩ := Bool.and_eq_true_iff.mp hfew
  have hst' : (ea :: xs).all noStar = true := by rw [List.all_cons, hne, hst]; rfl
  refine pe_imp (pe_bm h1 h2 h3 (mt_bm c.K b) hoe ha (abase_of ho _) ?_ f2 (star_plain hne) (star_none pos hst)) fun σ H Q ⟨m, L, ρ, hr, lr, po⟩ => ?_
  · rw [star_allN pos hst']
    have q := of_decide_eq_true f1
    have e0 : (backToKw pos (keywordEach [] X.env)).all (fun x => x.1.isSome) = true := rfl
    rw [e0]
    have q2 : (ea :: xs).length + ([] : List Keyword).length + (if ([] : List Keyword).isEmpty then 0 else 1) < 30 := by
      simp only [List.length_nil, List.isEmpty_nil, if_true] at q ⊢
      omega
    rw [decide_eq_true q2]
    rfl
  · refine ⟨m, L, ρ, hr, lr, (Post.bind (R := RD g) po).imp fun v H1 ⟨m1, L1, d, e1, hr1, rd, po1⟩ => ?_⟩
    split at po1
    · rename_i q
      refine ⟨?_, m1, L1, ρ, hr1, lr.mono e1, (Post.bind (R := RDs g) po1).imp fun vs H2 ⟨m2, L2, ds, e2, hr2, rds, po2⟩ => ⟨_, m2, L2, d, ds, hr2, rd.mono e2, rds, po2⟩⟩
      rw [c.K]
      cases b <;> first | exact tag_str rd q | exact tag_lst hr1 rd q
    · exact po1.elim

/-! ### isinstance -/
theorem tag_ty {m : List Addr} {L : MH} {H : Hp} {d : D} {x : V} {t : Tag} (hr : HRel g m L H) (rd : RelD g m H d x) (h : tagOf L d = some t) (ins : ∀ c, t = .ins c → InsTy g.K (g.cad c)) : TyX g.K H x (tagV g t) := by
  cases rd with
  | non => cases h; exact .base .non
  | bl b => cases h; exact .base (.bl b)
  | int b => cases h; exact .base (.int b)
  | str b => cases h; exact .base (.str b)
  | ref h1 =>
    simp only [tagOf] at h
    split at h
    · rename_i xs e
      cases h
      obtain ⟨a, vs, h2, h3, h4⟩ := hr.lstAt e
      rw [h1] at h2
      cases h2
      exact .base (.lst h3)
    · rename_i cc fs e
      cases h
      obtain ⟨a, dx, vfs, h2, h3, h4⟩ := hr.insAt e
      rw [h1] at h2
      cases h2
      obtain ⟨i1, i2, i3, i4, i5⟩ := ins cc rfl
      exact .base (.ins h3 i1 i2 i3 i4 i5)
    · cases h
  | tup h1 h2 =>
    cases h
    rcases h1 with (h1 | ⟨o, h1⟩) | h1
    · exact .base (.tup h1)
    · exact .fTuple h1
    · obtain ⟨o, its, n, h2, h3, _⟩ := h1
      exact .kTuple h2 h3
  | fzl h1 h2 =>
    cases h
    rcases h1 with ⟨o, h1⟩ | h1
    · exact .base (.frz h1)
    · obtain ⟨o, its, n, h2, h3, _⟩ := h1
      exact .kList h2 h3
  | _ => cases h
/-- the classes asked, by values -/
def tys (ts : List Ty) : TA := fun _ H Q => Q (ts.map (tyV' g)) H
theorem kitAny_of {K : PySem.W.Frag} {t : Value} : ∀ {ts : List Ty} {bs : List Bool}, Paired (fun y b => PySem.W.kitOne K t (tyVal g y) = some b) ts bs → PySem.W.kitAny K t (ts.map (tyVal g)) = some (bs.any id)
  | _, _, .nil => rfl
  | y :: ts, b :: bs, .cons h r => by
    show (match PySem.W.kitOne K t (tyVal g y) with
    | some true => some true
    | some false => PySem.W.kitAny K t (ts.map (tyVal g))
    | none => none) = some (b || bs.any id)
    rw [h]
    cases b with
    | true => rfl
    | false => exact kitAny_of r
theorem clsV_map : ∀ ts : List Ty, Paired ClsV (ts.map (tyV' g)) (ts.map (tyVal g))
  | [] => .nil
  | t :: ts => .cons (tyV_cls g t) (clsV_map ts)
theorem isinD_rel (c : CxOk g T cf dt C k X W) {m : List Addr} {L : MH} {H : Hp} {d : D} {x : V} {ts : List Ty} {b : Bool} (hr : HRel g m L H) (rd : RelD g m H d x) (h : isinD T L d ts = some b) (hne : ts ≠ []) :
    ∃ t, TyX X.K H x t ∧ ∃ bs, Paired (fun y b => PySem.W.kitOne X.K t (tyVal g y) = some b) ts bs ∧ bs.any id = b := by
  unfold isinD at h
  cases e : mapO (tyIs T L d) ts with
  | none => rw [e] at h; cases h
  | some bs =>
    rw [e] at h
    cases h
    have pr := mapO_paired e
    cases et : tagOf L d with
    | none =>
      exfalso
      cases pr with
      | nil => exact hne rfl
      | cons h1 h2 =>
        unfold tyIs at h1
        rw [et] at h1
        cases h1
    | some t =>
      have pr2 : Paired (fun y b => T.kit t y = some b) ts bs := L2.Paired.mapP pr fun y b z => by
        unfold tyIs at z
        rw [et] at z
        exact z
      have hins : ∀ cc, t = .ins cc → InsTy g.K (g.cad cc) := fun cc ec => by
        cases pr2 with
        | nil => exact absurd rfl hne
        | cons h1 h2 =>
          rw [← c.K]
          exact c.lk.kin cc _ _ (by rw [← ec]; exact h1)
      refine ⟨tagV g t, ?_, bs, L2.Paired.mapP pr2 fun y b z => c.lk.kit t y b z, rfl⟩
      rw [c.K]
      exact tag_ty hr rd et hins
/-- isinstance(x, T) -/
theorem m_isin1 (c : CxOk g T cf dt C k X W) {t : Ty} {et : Expr} (hg : Gl X "isinstance") (hm : cf.blt.contains "isinstance" = true) (hne : noStar ea = true) (hst : noStar et = true) (ha : PE X ea (tM g W (evE T C a))) (ht : PE X et (tC (tyV' g t))) :
    PE X (.Call (.Name "isinstance" p) [ea, et] [] pos) (tM g W (evE T C (.isin a [t]))) := by
  refine pe_imp (pe_callB call_isi hg (c.lk.blt _ hm) PyProof.Rows.boot_isinstance (pa_cons ha (pa_cons ht pa_nil (star_plain hst)) (star_plain hne)) (by decide) (by decide) (star_plain hne) (star_none pos (by rw [List.all_cons, hst]; rfl))) fun σ H Q ⟨m, L, ρ, hr, lr, po⟩ => ?_
  refine ⟨m, L, ρ, hr, lr, (Post.bind (R := RD g) po).imp fun v H1 ⟨m1, L1, d, e1, hr1, rd, po1⟩ => ?_⟩
  cases q : isinD T L1 d [t] with
  | none => simp only [q] at po1; exact po1.elim
  | some b =>
    simp only [q] at po1
    obtain ⟨tt, h1, bs, h2, h3⟩ := isinD_rel c hr1 rd q (by simp)
    cases h2 with
    | cons h4 h5 =>
      cases h5
      refine ⟨v, tyV' g t, tt, tyVal g t, _, rfl, tyV_cls g t, h1, h4, ?_⟩
      have eb : b = _ := h3.symm
      simp only [List.any_cons, List.any_nil, Bool.or_false, id] at eb
      rw [← eb]
      exact po1.at hr1 (.bl _)
/-- isinstance(x, (T, ..)) -/
theorem m_isinT (c : CxOk g T cf dt C k X W) {ts : List Ty} {ets : List Expr} {j : Nat} {p2 : Pos} (hg : Gl X "isinstance") (hm : cf.blt.contains "isinstance" = true) (hne : noStar ea = true) (hts : ts ≠ []) (hle : ts.length ≤ 30) (ha : PE X ea (tM g W (evE T C a))) (ht : PA X ets (tys (g := g) ts)) :
    PE X (.Call (.Name "isinstance" p) [ea, .Tuple ets j p2] [] pos) (tM g W (evE T C (.isin a ts))) := by
  refine pe_imp (pe_callB call_isiT hg (c.lk.blt _ hm) PyProof.Rows.boot_isinstance (pa_cons ha (pa_cons (pe_tup ht) pa_nil) (star_plain hne)) (by decide) (by decide) (star_plain hne)) fun σ H Q ⟨m, L, ρ, hr, lr, po⟩ => ?_
  refine ⟨m, L, ρ, hr, lr, (Post.bind (R := RD g) po).imp fun v H1 ⟨m1, L1, d, e1, hr1, rd, po1⟩ => ?_⟩
  cases q : isinD T L1 d ts with
  | none => simp only [q] at po1; exact po1.elim
  | some b =>
    simp only [q] at po1
    refine ⟨by rw [List.length_map, line_eq]; omega, fun tp htp => ?_⟩
    have e2 : Ev m1 H1 m1 (upd H1 tp (.tup (ts.map (tyV' g)))) := Ev.upd_free htp
    obtain ⟨tt, h1, bs, h2, h3⟩ := isinD_rel c (hr1.laid (ho := .tup (ts.map (tyV' g))) htp) (rd.mono e2) q hts
    refine ⟨v, tp, ts.map (tyV' g), tt, ts.map (tyVal g), b, rfl, upd_same, clsV_map ts, h1, ?_, po1.atE e2 (hr1.laid htp) (.bl _)⟩
    rw [← h3]
    exact kitAny_of h2
/-- a class's name -/
theorem ty_own (c : CxOk g T cf dt C k X W) {cc : Nat} (hgl : cf.cls.contains cc = true) (hg : Gl X (cf.nm.cn cc)) (hdb : (cf.nm.cn cc == ("__debug__" : Str)) = false) : PE X (.Name (cf.nm.cn cc) p) (tC (tyV' g (.own cc))) := pe_glob hg (c.lk.cls cc hgl) rfl hdb
def tyNames : List String := ["int", "str", "bool", "list", "tuple"]
theorem ty_boot {n : String} (h : tyNames.contains n = true) : bootBuiltins (Str.ofString n) = some (.type n) ∧ Str.ofString n ≠ "__name__" ∧ (Str.ofString n == ("__debug__" : Str)) = false := by
  have e : n ∈ tyNames := by simpa using h
  simp only [tyNames, List.mem_cons, List.not_mem_nil, or_false] at e
  rcases e with rfl | rfl | rfl | rfl | rfl
  · exact ⟨boot_int, by decide, by decide⟩
  · exact ⟨boot_str, by decide, by decide⟩
  · exact ⟨PyProof.Rows.boot_bool, by decide, by decide⟩
  · exact ⟨boot_list, by decide, by decide⟩
  · exact ⟨boot_tuple, by decide, by decide⟩
theorem ty_bt (c : CxOk g T cf dt C k X W) {n : String} (h : tyNames.contains n = true) (hg : Gl X (Str.ofString n)) (hm : cf.blt.contains (Str.ofString n) = true) : PE X (.Name (Str.ofString n) p) (tC (tyV' g (.bt n))) := by
  obtain ⟨h1, h2, h3⟩ := ty_boot h
  exact pe_bltn hg (c.lk.blt _ hm) h1 rfl h2 h3
theorem tys_nil : PA X [] (tys (g := g) []) := pa_imp pa_nil fun σ H Q h => h
theorem tys_cons {t : Ty} {ts : List Ty} (hs : noStar ea = true) (h : PE X ea (tC (tyV' g t))) (r : PA X xs (tys (g := g) ts)) : PA X (ea :: xs) (tys (g := g) (t :: ts)) := pa_imp (pa_cons h r (star_plain hs)) fun σ H Q h => h

/-! ### f-strings -/
/-- a part's text -/
theorem m_fmt {W : WX} {f : Loc → M D} {σ : L2.St} {H : Hp} {Q : VK} (h : tM g W (fun ρ L => (f ρ L).bind fun d => must ((fmtD d).map .str)) σ H Q) : tFmt (tM g W f) σ H Q := by
  obtain ⟨m, L, ρ, hr, lr, po⟩ := h
  refine ⟨m, L, ρ, hr, lr, (Post.bind (R := RD g) po).imp fun v H1 ⟨m1, L1, d, e1, hr1, rd, po1⟩ => ?_⟩
  cases q : fmtD d with
  | none => rw [q] at po1; exact po1.elim
  | some y =>
    rw [q] at po1
    have po2 : Q (.str y) H1 := po1.at hr1 (.str y)
    cases rd with
    | str s =>
      simp only [fmtD] at q
      split at q
      · rename_i q1
        cases q
        exact .inl ⟨_, rfl, okB q1, po2⟩
      · cases q
    | int i =>
      simp only [fmtD] at q
      split at q
      · rename_i q1
        cases q
        exact .inr ⟨_, rfl, of_decide_eq_true q1, po2⟩
      · cases q
    | _ => cases q
/-- a part of an f-string: a literal, a field -/
inductive PFs (g : G) (T : Tb) (C : Nat → List D → M D) (X : Cx) (W : WX) : List Expr → Exs → Prop where
  | nil : PFs g T C X W [] .nil
  | lit {s : Str} {j : Nat} {p : Pos} {es : List Expr} {is : Exs} (h : sizeOkB s.length = true) (r : PFs g T C X W es is) : PFs g T C X W (.Constant (.str s) j p :: es) (.cons (.cstr s) is)
  | fld {e : Expr} {i : Ex} {p : Pos} {es : List Expr} {is : Exs} (h : PE X e (tM g W (evE T C i))) (r : PFs g T C X W es is) : PFs g T C X W (.FormattedValue e (-1) none p :: es) (.cons i is)
theorem fs_step {W : WX} {te : TE} {i : Ex} {is : Exs} {ts : List TE} (hte : ∀ σ H Q, tM g W (fun ρ L => (evE T C i ρ L).bind fun d => must ((fmtD d).map .str)) σ H Q → te σ H Q)
    (ih : ∀ (acc : Str) (σ : L2.St) (H : Hp) (Q : Str → Hp → Prop), (∃ m L ρ, HRel g m L H ∧ LRel g m H ρ σ ∧ Post g (fun c d H' => W c d σ H') REq m H (evFs T C is acc ρ L) Q) → tJs ts acc σ H Q)
    (acc : Str) (σ : L2.St) (H : Hp) (Q : Str → Hp → Prop) (h : ∃ m L ρ, HRel g m L H ∧ LRel g m H ρ σ ∧ Post g (fun c d H' => W c d σ H') REq m H (evFs T C (.cons i is) acc ρ L) Q) : tJs (te :: ts) acc σ H Q := by
  obtain ⟨m, L, ρ, hr, lr, po⟩ := h
  refine hte _ _ _ ⟨m, L, ρ, hr, lr, ?_⟩
  simp only [evFs] at po
  show Post g _ (RD g) m H ((evE T C i ρ L).bind fun d => must ((fmtD d).map .str)) _
  revert po
  generalize evE T C i ρ L = r0
  intro po
  cases r0 with
  | stk => exact po.elim
  | exc c fs L1 => exact po
  | ok d L1 =>
    simp only [Res.bind] at po ⊢
    cases q : fmtD d with
    | none => rw [q] at po; exact po.elim
    | some y =>
      simp only [q] at po
      split at po
      · rename_i q1
        intro m' H' v ev hr' rd
        cases rd
        exact ⟨y, rfl, okB q1, ih (acc ++ y) σ H' Q ⟨m', L1, ρ, hr', lr.mono ev, po.ev ev⟩⟩
      · exact po.elim
theorem fs_run {W : WX} {es : List Expr} {is : Exs} (h : PFs g T C X W es is) : ∃ ts, PJ X es ts ∧ ∀ (acc : Str) (σ : L2.St) (H : Hp) (Q : Str → Hp → Prop),
    (∃ m L ρ, HRel g m L H ∧ LRel g m H ρ σ ∧ Post g (fun c d H' => W c d σ H') REq m H (evFs T C is acc ρ L) Q) → tJs ts acc σ H Q := by
  induction h with
  | nil => exact ⟨[], .nil, fun acc σ H Q ⟨m, L, ρ, hr, lr, po⟩ => po.at hr rfl⟩
  | @lit s j p es is h r ih =>
    obtain ⟨ts, h1, h2⟩ := ih
    refine ⟨tM g W (evE T C (.cstr s)) :: ts, .cons m_cstr h1, fs_step (fun σ H Q ⟨m, L, ρ, hr, lr, po⟩ => ⟨m, L, ρ, hr, lr, ?_⟩) h2⟩
    simp only [evE, Res.bind, fmtD, h, if_true] at po ⊢
    exact po
  | @fld e i p es is h r ih =>
    obtain ⟨ts, h1, h2⟩ := ih
    exact ⟨tFmt (tM g W (evE T C i)) :: ts, .cons (pe_fmt h) h1, fs_step (fun σ H Q z => m_fmt z) h2⟩
theorem m_fstr {e1 e2 : Expr} {rest : List Expr} (h : PFs g T C X W (e1 :: e2 :: rest) es) : PE X (.JoinedStr (e1 :: e2 :: rest) pos) (tM g W (evE T C (.fstr es))) := by
  obtain ⟨ts, h1, h2⟩ := fs_run h
  refine pe_imp (pe_joined h1) fun σ H Q ⟨m, L, ρ, hr, lr, po⟩ => ?_
  refine h2 _ _ _ _ ⟨m, L, ρ, hr, lr, (Post.bind (R := REq) po).imp fun v H1 ⟨m1, L1, d, e1, hr1, rd, po1⟩ => ?_⟩
  cases rd
  exact po1.at hr1 (.str _)
end
end Mi
end

section
set_option Elab.async false
set_option linter.all false
set_option maxRecDepth 100000
set_option maxHeartbeats 4000000
/-! Mi, part H: what is walked; targets; comprehensions. -/
namespace Mi
open PySem PySem.Spec PyProof.Rows L2

theorem Post.monoE {α β : Type} {g : G} {E E' : XK} {R : List Addr → Hp → α → β → Prop} {m : List Addr} {H : Hp} {r : Res α} {Q : β → Hp → Prop} (h : Post g E R m H r Q) (hE : ∀ c d H', E c d H' → E' c d H') : Post g E' R m H r Q := by
  cases r with
  | ok d L' => exact h
  | exc c fs L' => exact fun m1 H1 dx e hr x => hE _ _ _ (h m1 H1 dx e hr x)
  | stk => exact h
theorem Post.calm {α β : Type} {g : G} {E' : XK} {R : List Addr → Hp → α → β → Prop} {m : List Addr} {H : Hp} {r : Res α} {Q : β → Hp → Prop} (h : Post g (fun _ _ _ => False) R m H r Q) : Post g E' R m H r Q := h.monoE fun _ _ _ z => z.elim

/-! ### walks -/
/-- J walks as w does -/
structure JR (g : G) (m0 : List Addr) (H0 : Hp) (w : Wk) (J : L2.It) : Prop where
  stop : ∀ m L H i, Ev m0 H0 m H → HRel g m L H → w.at L i = some none → J.stop i H
  item : ∀ m L H i d, Ev m0 H0 m H → HRel g m L H → w.at L i = some (some d) → J.go i H ∧ ∀ x H', J.yld i H x H' → Ev m H m H' ∧ HRel g m L H' ∧ RelD g m H' d x
theorem JR.mono {g : G} {m0 m1 : List Addr} {H0 H1 : Hp} {w : Wk} {J : L2.It} (h : JR g m0 H0 w J) (e : Ev m0 H0 m1 H1) : JR g m1 H1 w J :=
  ⟨fun m L H i e1 => h.stop m L H i (e.trans e1), fun m L H i d e1 => h.item m L H i d (e.trans e1)⟩
def RJ (g : G) : List Addr → Hp → Wk → L2.It → Prop := JR g
def tMI (g : G) (W : WX) (f : Loc → M Wk) : TI := fun σ H R => ∃ m L ρ, HRel g m L H ∧ LRel g m H ρ σ ∧ Post g (fun c d H' => W c d σ H') (RJ g) m H (f ρ L) R
theorem pi_imp {X : Cx} {tg e : Expr} {t t' : TI} (h : PI X tg e t) (k : ∀ σ H Q, t' σ H Q → t σ H Q) : PI X tg e t' := ⟨fun pins s σ H R I q => h.run pins s σ H R I (k σ H R q)⟩
/-- a source: the addresses -/
inductive SR (g : G) (m : List Addr) (H : Hp) : Src → V → Prop where
  | lst {n : Nat} {a : Addr} (h : m[n]? = some a) : SR g m H (.lst n) (.ref a)
  | fzl {xs : List D} {vs : List V} {a : Addr} (h : FzL g.K H a vs) (r : RelDs g m H xs vs) : SR g m H (.val xs) (.ref a)
theorem SR.mono {g : G} {m m' : List Addr} {H H' : Hp} {s : Src} {x : V} (h : SR g m H s x) (e : Ev m H m' H') : SR g m' H' s x := by
  cases h with
  | lst h => exact .lst (e.get h)
  | fzl h r => exact .fzl (e.fzL h) (r.mono e)
/-- a list's items as it stands -/
theorem SR.at {g : G} {m : List Addr} {L : MH} {H : Hp} {s : Src} {x : V} {i : Nat} {o : Option D} (h : SR g m H s x) (hr : HRel g m L H) (e : s.at L i = some o) :
    ∃ a vs, x = .ref a ∧ SqL g.K H a vs ∧ (match o with | some d => ∃ v, vs[i]? = some v ∧ RelD g m H d v | none => vs.length ≤ i) := by
  have key : ∀ {xs : List D} {vs : List V}, RelDs g m H xs vs → xs[i]? = o → (match o with | some d => ∃ v, vs[i]? = some v ∧ RelD g m H d v | none => vs.length ≤ i) := fun {xs vs} r q => by
    cases o with
    | some d => exact r.get q
    | none =>
      have := List.getElem?_eq_none_iff.mp q
      rw [r.length] at this
      exact this
  cases h with
  | lst hm =>
    simp only [Src.at] at e
    split at e
    · rename_i xs q
      cases e
      obtain ⟨a, vs, h1, h2, h3⟩ := hr.lstAt q
      rw [hm] at h1
      cases h1
      exact ⟨_, vs, rfl, .inl (.inl h2), key h3 rfl⟩
    · cases e
  | fzl h r =>
    simp only [Src.at] at e
    cases e
    exact ⟨_, _, rfl, h.sqL, key r rfl⟩
theorem listD_sr {g : G} {m : List Addr} {L : MH} {H : Hp} {d : D} {x : V} {xs : List D} (hr : HRel g m L H) (rd : RelD g m H d x) (h : listD L d = some xs) : ∃ s, srcOf L d = some s ∧ SR g m H s x := by
  cases rd with
  | ref hm =>
    simp only [listD] at h
    split at h
    · rename_i ys q
      cases h
      refine ⟨.lst _, ?_, .lst hm⟩
      simp only [srcOf]
      rw [q]
    · cases h
  | fzl h1 r => exact ⟨_, rfl, .fzl h1 r⟩
  | _ => cases h
section
variable {g : G} {m0 : List Addr} {H0 : Hp}
theorem SqL.inj {X : Cx} {pins : List (Addr × Obj)} {σ : L2.St} {H : Hp} {s : Shared} {a : Addr} {xs ys : List V} (I : Inv X pins σ H s) (h1 : SqL X.K H a xs) (h2 : SqL X.K H a ys) : xs = ys := I.list_inj h1 h2
theorem jr_list {s : Src} {a : Addr} (h : SR g m0 H0 s (.ref a)) : JR g m0 H0 (.src s) (Itl g.K a) := by
  refine ⟨fun m L H i e hr q => ?_, fun m L H i d e hr q => ?_⟩
  · obtain ⟨b, vs, e1, h1, h2⟩ := (h.mono e).at hr q
    cases e1
    exact ⟨vs, h1, h2⟩
  · obtain ⟨b, vs, e1, h1, v, h2, h3⟩ := (h.mono e).at hr q
    cases e1
    refine ⟨⟨vs, v, h1, h2⟩, fun x H' ⟨e2, y⟩ => ?_⟩
    subst e2
    have e3 := y vs h1
    rw [h2] at e3
    cases e3
    exact ⟨Ev.refl _ _, hr, h3⟩
theorem jr_tup {xs : List D} {vs : List V} {a : Addr} (h : SqT g.K H0 a vs) (r : RelDs g m0 H0 xs vs) : JR g m0 H0 (.src (.val xs)) (Itt g.K a) := by
  refine ⟨fun m L H i e hr q => ?_, fun m L H i d e hr q => ?_⟩
  · simp only [Wk.at, Src.at, Option.some.injEq] at q
    have := List.getElem?_eq_none_iff.mp q
    rw [r.length] at this
    exact ⟨vs, e.sqT h, this⟩
  · simp only [Wk.at, Src.at, Option.some.injEq] at q
    obtain ⟨v, h2, h3⟩ := r.get q
    refine ⟨⟨vs, v, e.sqT h, h2⟩, fun x H' ⟨e2, y⟩ => ?_⟩
    subst e2
    have e3 := y vs (e.sqT h)
    rw [h2] at e3
    cases e3
    exact ⟨Ev.refl _ _, hr, h3.mono e⟩
theorem jr_str {x : Str} : JR g m0 H0 (.src (.val (x.cps.toList.map fun c => .str ⟨#[c]⟩))) (Its x) := by
  refine ⟨fun m L H i e hr q => ?_, fun m L H i d e hr q => ?_⟩
  · simp only [Wk.at, Src.at, Option.some.injEq, List.getElem?_map, Option.map_eq_none_iff, Array.getElem?_toList] at q
    exact Array.getElem?_eq_none_iff.mp q
  · simp only [Wk.at, Src.at, Option.some.injEq, List.getElem?_map, Array.getElem?_toList] at q
    cases q1 : x.cps[i]? with
    | none => rw [q1] at q; cases q
    | some c =>
      rw [q1] at q
      cases q
      refine ⟨(Array.getElem?_eq_some_iff.mp q1).1, fun v H' ⟨e2, c', e3, e4⟩ => ?_⟩
      subst e2
      rw [q1] at e3
      cases e3
      subst e4
      exact ⟨Ev.refl _ _, hr, .str _⟩
theorem jr_rng {lo : Int} {n : Nat} : JR g m0 H0 (.rng lo n) (Itr lo n) := by
  refine ⟨fun m L H i e hr q => ?_, fun m L H i d e hr q => ?_⟩
  · simp only [Wk.at, Option.some.injEq] at q
    split at q
    · cases q
    · show n ≤ i
      omega
  · simp only [Wk.at, Option.some.injEq] at q
    split at q
    · rename_i h
      cases q
      refine ⟨h, fun v H' ⟨e2, e3⟩ => ?_⟩
      subst e2 e3
      exact ⟨Ev.refl _ _, hr, .int _⟩
    · cases q
theorem jr_enum {s : Src} {a : Addr} (h : SR g m0 H0 s (.ref a)) : JR g m0 H0 (.enum s) (Ite g.K a) := by
  refine ⟨fun m L H i e hr q => ?_, fun m L H i d e hr q => ?_⟩
  · simp only [Wk.at] at q
    cases q1 : s.at L i with
    | none => rw [q1] at q; cases q
    | some o =>
      rw [q1] at q
      cases o with
      | some d => cases q
      | none =>
        obtain ⟨b, vs, e1, h1, h2⟩ := (h.mono e).at hr q1
        cases e1
        exact ⟨vs, h1, h2⟩
  · simp only [Wk.at] at q
    cases q1 : s.at L i with
    | none => rw [q1] at q; cases q
    | some o =>
      rw [q1] at q
      cases o with
      | none => cases q
      | some d0 =>
        cases q
        obtain ⟨b, vs, e1, h1, v, h2, h3⟩ := (h.mono e).at hr q1
        cases e1
        refine ⟨⟨vs, v, h1, h2⟩, fun x H' ⟨T, x0, ex, hT, eH, y⟩ => ?_⟩
        subst ex eH
        have e3 := y vs h1
        rw [h2] at e3
        cases e3
        have e4 := Ev.upd_free (m := m) (ho := .tup [.int (i : Nat), v]) hT
        exact ⟨e4, hr.laid hT, .tup (.inl (.inl upd_same)) (.cons (.int _) (.cons (h3.mono e4) .nil))⟩
theorem jr_zip {s t : Src} {a b : Addr} (h : SR g m0 H0 s (.ref a)) (h' : SR g m0 H0 t (.ref b)) : JR g m0 H0 (.zip s t) (Itz g.K a b) := by
  refine ⟨fun m L H i e hr q => ?_, fun m L H i d e hr q => ?_⟩
  · simp only [Wk.at] at q
    cases q1 : s.at L i with
    | none => rw [q1] at q; cases q
    | some o =>
      cases q2 : t.at L i with
      | none => simp [q1, q2] at q
      | some o' =>
        obtain ⟨c, vs, e1, h1, h2⟩ := (h.mono e).at hr q1
        obtain ⟨c', ws, e1', h1', h2'⟩ := (h'.mono e).at hr q2
        cases e1
        cases e1'
        refine ⟨vs, ws, h1, h1', ?_⟩
        cases o with
        | none => exact .inl h2
        | some d =>
          cases o' with
          | none => exact .inr h2'
          | some d' => simp [q1, q2] at q
  · simp only [Wk.at] at q
    cases q1 : s.at L i with
    | none => rw [q1] at q; cases q
    | some o =>
      cases q2 : t.at L i with
      | none => simp [q1, q2] at q
      | some o' =>
        cases o with
        | none => simp [q1, q2] at q
        | some d1 =>
          cases o' with
          | none => simp [q1, q2] at q
          | some d2 =>
            simp only [q1, q2, Option.bind_some, Option.map_some, Option.some.injEq] at q
            subst q
            obtain ⟨c, vs, e1, h1, v, h2, h3⟩ := (h.mono e).at hr q1
            obtain ⟨c', ws, e1', h1', w, h2', h3'⟩ := (h'.mono e).at hr q2
            cases e1
            cases e1'
            refine ⟨⟨vs, ws, v, w, h1, h1', h2, h2'⟩, fun x H' ⟨T, x0, y0, ex, hT, eH, y, y'⟩ => ?_⟩
            subst ex eH
            have e3 := y vs h1
            have e3' := y' ws h1'
            rw [h2] at e3
            rw [h2'] at e3'
            cases e3
            cases e3'
            have e4 := Ev.upd_free (m := m) (ho := .tup [v, w]) hT
            exact ⟨e4, hr.laid hT, .tup (.inl (.inl upd_same)) (.cons (h3.mono e4) (.cons (h3'.mono e4) .nil))⟩
theorem jr_zipT {xs ys : List D} {vs ws : List V} {a b : Addr} (h : SqT g.K H0 a vs) (r : RelDs g m0 H0 xs vs) (h' : SqT g.K H0 b ws) (r' : RelDs g m0 H0 ys ws) : JR g m0 H0 (.zip (.val xs) (.val ys)) (RZ.ItzT g.K a b) := by
  refine ⟨fun m L H i e hr q => ?_, fun m L H i d e hr q => ?_⟩
  · simp only [Wk.at, Src.at, Option.bind_some, Option.map_some, Option.some.injEq] at q
    refine ⟨vs, ws, e.sqT h, e.sqT h', ?_⟩
    rw [← r.length, ← r'.length]
    cases q1 : xs[i]? with
    | none => exact .inl (List.getElem?_eq_none_iff.mp q1)
    | some d =>
      cases q2 : ys[i]? with
      | none => exact .inr (List.getElem?_eq_none_iff.mp q2)
      | some d' => simp [q1, q2] at q
  · simp only [Wk.at, Src.at, Option.bind_some, Option.map_some, Option.some.injEq] at q
    cases q1 : xs[i]? with
    | none => simp [q1] at q
    | some d1 =>
      cases q2 : ys[i]? with
      | none => simp [q1, q2] at q
      | some d2 =>
        simp only [q1, q2, Option.some.injEq] at q
        subst q
        obtain ⟨v, h2, h3⟩ := r.get q1
        obtain ⟨w, h2', h3'⟩ := r'.get q2
        refine ⟨⟨vs, ws, v, w, e.sqT h, e.sqT h', h2, h2'⟩, fun x H' ⟨T, x0, y0, ex, hT, eH, y, y'⟩ => ?_⟩
        subst ex eH
        have e3 := y vs (e.sqT h)
        have e3' := y' ws (e.sqT h')
        rw [h2] at e3
        rw [h2'] at e3'
        cases e3
        cases e3'
        have e4 := Ev.upd_free (m := m) (ho := .tup [v, w]) hT
        exact ⟨e4, hr.laid hT, .tup (.inl (.inl upd_same)) (.cons (h3.mono (e.trans e4)) (.cons (h3'.mono (e.trans e4)) .nil))⟩
end
section
variable {g : G} {T : Tb} {cf : Cf} {dt : Nat → FuncData} {C : Nat → List D → M D} {k : Nat} {X : Cx} {W : WX} {tg : Expr}
variable {a b i o : Ex} {ea eb eo : Expr} {pos apos p : Pos} {es : Exs} {xs : List Expr}
/-- a list, a tuple, a text -/
def iSeq (K : PySem.W.Frag) (te : TE) : TI := fun σ H R => te σ H fun x H1 => (∃ a, x = .ref a ∧ (∃ xs, SqL K H1 a xs) ∧ R (Itl K a) H1) ∨ (∃ a, x = .ref a ∧ (∃ xs, SqT K H1 a xs) ∧ R (Itt K a) H1) ∨ ∃ z, x = .str z ∧ R (Its z) H1
theorem pi_seq0 {l : Expr} {tl : TE} (hl : PE X l tl) : PI X tg l (iSeq X.K tl) := by
  refine ⟨fun pins s σ H R I h => ?_⟩
  refine thn (hl.run pins s σ H _ I h) fun v s1 ⟨x, H1, I1, r1, q1⟩ => ?_
  rcases q1 with ⟨a, e, ⟨xs, hq⟩, q⟩ | ⟨a, e, ⟨xs, hq⟩, q⟩ | ⟨z, e, q⟩
  · subst e
    cases r1
    obtain ⟨its, rv, p, hz⟩ := I1.list hq
    refine wpAny_pyIter_list p.isList ?_
    refine ⟨s1.heap.objs.size, [s1.heap.objs.size], _, _, H1, rfl, I1.kept (t' := s1.toks) fun b o e => Heap.get?_push_of_some _ e, turn_list a _, ⟨_, Heap.get?_push_size _ rfl, rfl, rfl⟩, fun b hb => ?_, q⟩
    have e : b = s1.heap.objs.size := by simpa using hb
    subst e
    exact I1.fpOk (Nat.le_refl _) (I1.hok.fresh (Nat.le_refl _))
  · subst e
    cases r1
    obtain ⟨its, rv, p, hz⟩ := I1.tuple hq
    refine wpAny_pyIter_tuple (show s1.heap.IsTuple a its.toArray from p) ?_
    refine ⟨s1.heap.objs.size, [s1.heap.objs.size], _, _, H1, rfl, I1.kept (t' := s1.toks) fun b o e => Heap.get?_push_of_some _ e, turn_tuple a _, ⟨_, Heap.get?_push_size _ rfl, rfl, rfl⟩, fun b hb => ?_, q⟩
    have e : b = s1.heap.objs.size := by simpa using hb
    subst e
    exact I1.fpOk (Nat.le_refl _) (I1.hok.fresh (Nat.le_refl _))
  · subst e
    obtain ⟨t, rfl⟩ := r1
    cases ha : z.cps.all (· < 128)
    · exact wpAny_pyIter_wide ha (pi_one (tk := s1.toks) I1 _ (turn_str _ z t "str_iterator" (.inr rfl)) ⟨_, Heap.get?_push_size _ rfl, rfl, rfl⟩ q)
    · exact wpAny_pyIter_ascii ha (pi_one (tk := s1.toks) I1 _ (turn_str _ z t "str_ascii_iterator" (.inl rfl)) ⟨_, Heap.get?_push_size _ rfl, rfl, rfl⟩ q)
theorem w_seq (c : CxOk g T cf dt C k X W) (ha : PE X ea (tM g W (evE T C a))) : PI X tg ea (tMI g W (evI T C (.seq a))) := by
  refine pi_imp (pi_seq0 ha) fun σ H R ⟨m, L, ρ, hr, lr, po⟩ => ?_
  refine ⟨m, L, ρ, hr, lr, (Post.bind (R := RD g) po).imp fun v H1 ⟨m1, L1, d, e1, hr1, rd, po1⟩ => ?_⟩
  rw [c.K]
  cases q : srcOf L1 d with
  | none => simp only [q] at po1; exact po1.elim
  | some s =>
    simp only [q] at po1
    cases rd with
    | str z =>
      simp only [srcOf] at q
      split at q
      · cases q
        exact .inr (.inr ⟨z, rfl, po1.at hr1 jr_str⟩)
      · cases q
    | tup h1 h2 =>
      cases q
      exact .inr (.inl ⟨_, rfl, ⟨_, h1⟩, po1.at hr1 (jr_tup h1 h2)⟩)
    | fzl h1 h2 =>
      cases q
      exact .inl ⟨_, rfl, ⟨_, h1.sqL⟩, po1.at hr1 (jr_list (.fzl h1 h2))⟩
    | ref hm =>
      simp only [srcOf] at q
      split at q
      · rename_i ys e
        cases q
        obtain ⟨a, vs, h1, h2, h3⟩ := hr1.lstAt e
        rw [hm] at h1
        cases h1
        exact .inl ⟨_, rfl, ⟨vs, .inl (.inl h2)⟩, po1.at hr1 (jr_list (.lst hm))⟩
      · cases q
    | _ => cases q
theorem small_ok {i : Int} (h : smallI i = true) : -(2 ^ 62) ≤ i ∧ i < 2 ^ 62 := by
  obtain ⟨h1, h2⟩ := Bool.and_eq_true_iff.mp h
  exact ⟨of_decide_eq_true h1, of_decide_eq_true h2⟩
theorem w_rng1 (c : CxOk g T cf dt C k X W) (hg : Gl X "range") (hm : cf.blt.contains "range" = true) (hs : noStar ea = true) (ha : PE X ea (tM g W (evE T C a))) : PI X tg (.Call (.Name "range" p) [ea] [] pos) (tMI g W (evI T C (.rng1 a))) := by
  refine pi_imp (pi_range1 hg (c.lk.blt _ hm) (pa_cons ha pa_nil (star_plain hs)) (star_plain hs)) fun σ H R ⟨m, L, ρ, hr, lr, po⟩ => ?_
  refine ⟨m, L, ρ, hr, lr, (Post.bind (R := RD g) po).imp fun v H1 ⟨m1, L1, d, e1, hr1, rd, po1⟩ => ?_⟩
  cases rd with
  | int j =>
    simp only at po1
    split at po1
    · rename_i q
      obtain ⟨q1, q2⟩ := small_ok q
      exact ⟨j, rfl, q1, q2, po1.at hr1 jr_rng⟩
    · exact po1.elim
  | _ => exact po1.elim
theorem w_rng2 (c : CxOk g T cf dt C k X W) (hg : Gl X "range") (hm : cf.blt.contains "range" = true) (hs : noStar ea = true) (hs2 : noStar eb = true) (ha : PE X ea (tM g W (evE T C a))) (hb : PE X eb (tM g W (evE T C b))) :
    PI X tg (.Call (.Name "range" p) [ea, eb] [] pos) (tMI g W (evI T C (.rng2 a b))) := by
  refine pi_imp (pi_range2 hg (c.lk.blt _ hm) (pa_cons ha (pa_cons hb pa_nil (star_plain hs2)) (star_plain hs)) (by rw [star_plain hs, star_plain hs2]; rfl) (star_plain hs2)) fun σ H R ⟨m, L, ρ, hr, lr, po⟩ => ?_
  refine ⟨m, L, ρ, hr, lr, (Post.bind (R := RD g) po).imp fun v H1 ⟨m1, L1, d, e1, hr1, rd, po1⟩ => ?_⟩
  refine ⟨m1, L1, ρ, hr1, lr.mono e1, (Post.bind (R := RD g) po1).imp fun v2 H2 ⟨m2, L2, e, e2, hr2, re, po2⟩ => ?_⟩
  cases rd with
  | int i =>
    cases re with
    | int j =>
      simp only at po2
      split at po2
      · rename_i q
        obtain ⟨q1, q2⟩ := Bool.and_eq_true_iff.mp q
        obtain ⟨q3, q4⟩ := small_ok q1
        obtain ⟨q5, q6⟩ := small_ok q2
        exact ⟨i, j, rfl, ⟨q3, q4, q5, q6⟩, po2.at hr2 jr_rng⟩
      · exact po2.elim
    | _ => exact po2.elim
  | _ => exact po2.elim
theorem w_enum {elts : List Expr} {kk : Nat} {tpos : Pos} (c : CxOk g T cf dt C k X W) (hg : Gl X "enumerate") (hm : cf.blt.contains "enumerate" = true) (hs : noStar ea = true) (ha : PE X ea (tM g W (evE T C a))) :
    PI X (.Tuple elts kk tpos) (.Call (.Name "enumerate" p) [ea] [] pos) (tMI g W (evI T C (.enum a))) := by
  refine pi_imp (pi_enum hg (c.lk.blt _ hm) (pa_cons ha pa_nil (star_plain hs)) (star_plain hs)) fun σ H R ⟨m, L, ρ, hr, lr, po⟩ => ?_
  refine ⟨m, L, ρ, hr, lr, (Post.bind (R := RD g) po).imp fun v H1 ⟨m1, L1, d, e1, hr1, rd, po1⟩ => ?_⟩
  cases q : listD L1 d with
  | none => simp only [enumOf, q] at po1; exact po1.elim
  | some ys =>
    obtain ⟨s, h1, h2⟩ := listD_sr hr1 rd q
    obtain ⟨a', vs, rfl, h3, _⟩ := listD_rel hr1 rd q
    simp only [enumOf, q, h1] at po1
    exact ⟨a', vs, rfl, by rw [c.K]; exact h3, by rw [c.K]; exact po1.at hr1 (jr_enum h2)⟩
theorem w_zip {elts : List Expr} {kk : Nat} {tpos : Pos} (c : CxOk g T cf dt C k X W) (hg : Gl X "zip") (hm : cf.blt.contains "zip" = true) (hs : noStar ea = true) (hs2 : noStar eb = true) (ha : PE X ea (tM g W (evE T C a))) (hb : PE X eb (tM g W (evE T C b))) :
    PI X (.Tuple elts kk tpos) (.Call (.Name "zip" p) [ea, eb] [] pos) (tMI g W (evI T C (.zip a b))) := by
  refine pi_imp (RZ.pi_zipA hg (c.lk.blt _ hm) (pa_cons ha (pa_cons hb pa_nil (star_plain hs2)) (star_plain hs)) (star_plain hs) (star_none pos (by rw [List.all_cons, hs2]; rfl))) fun σ H R ⟨m, L, ρ, hr, lr, po⟩ => ?_
  refine ⟨m, L, ρ, hr, lr, (Post.bind (R := RD g) po).imp fun v H1 ⟨m1, L1, d, e1, hr1, rd, po1⟩ => ?_⟩
  refine ⟨m1, L1, ρ, hr1, lr.mono e1, (Post.bind (R := RD g) po1).imp fun v2 H2 ⟨m2, L2, e, e2, hr2, re, po2⟩ => ?_⟩
  have rd2 := rd.mono e2
  have lists : ∀ {xs ys : List D}, listD L2 d = some xs → listD L2 e = some ys → zipOf L2 d e = ((srcOf L2 d).bind fun s => (srcOf L2 e).map fun t => .zip s t) → ∃ a b xs ys, [v, v2] = [V.ref a, V.ref b] ∧ ((SqL X.K H2 a xs ∧ SqL X.K H2 b ys ∧ R (Itz X.K a b) H2) ∨ (SqT X.K H2 a xs ∧ SqT X.K H2 b ys ∧ R (RZ.ItzT X.K a b) H2)) := fun {xs ys} q1 q2 q3 => by
    obtain ⟨s, h1, h2⟩ := listD_sr hr2 rd2 q1
    obtain ⟨t, h1', h2'⟩ := listD_sr hr2 re q2
    obtain ⟨a', vs, e3, h3, _⟩ := listD_rel hr2 rd2 q1
    obtain ⟨b', ws, e3', h3', _⟩ := listD_rel hr2 re q2
    subst e3 e3'
    rw [q3, h1, h1'] at po2
    exact ⟨a', b', vs, ws, rfl, .inl ⟨by rw [c.K]; exact h3, by rw [c.K]; exact h3', by rw [c.K]; exact po2.at hr2 (jr_zip h2 h2')⟩⟩
  cases z : zipOf L2 d e with
  | none => rw [z] at po2; exact po2.elim
  | some w =>
    unfold zipOf at z
    split at z
    · rename_i ds es
      cases rd2 with
      | tup h1 r1 =>
        cases re with
        | tup h2 r2 =>
          exact ⟨_, _, _, _, rfl, .inr ⟨by rw [c.K]; exact h1, by rw [c.K]; exact h2, by rw [c.K]; exact po2.at hr2 (jr_zipT h1 r1 h2 r2)⟩⟩
    · rename_i hne
      split at z
      · rename_i q1 q2
        refine lists q1 q2 ?_
        unfold zipOf
        split
        · exact (hne _ _ rfl rfl).elim
        · rw [q1, q2]
      · cases z
theorem w_bad {e : Expr} : PI X tg e (tMI g W (evI T C .bad)) := ⟨fun pins s σ H R I ⟨m, L, ρ, hr, lr, po⟩ => po.elim⟩

/-! ### targets -/
/-- the locals behind a target -/
def FrS (σ0 : L2.St) (vs : List Nat) (σ : L2.St) : Prop := σ.length = σ0.length ∧ ∀ j, j ∉ vs → σ[j]? = σ0[j]?
theorem FrS.refl (σ : L2.St) (vs : List Nat) : FrS σ vs σ := ⟨rfl, fun _ _ => rfl⟩
theorem FrS.trans {σ0 σ1 σ2 : L2.St} {vs : List Nat} (h : FrS σ0 vs σ1) (h' : FrS σ1 vs σ2) : FrS σ0 vs σ2 := ⟨h'.1.trans h.1, fun j hj => (h'.2 j hj).trans (h.2 j hj)⟩
def RG (g : G) (σ0 : L2.St) (vs : List Nat) : List Addr → Hp → Loc → L2.St → Prop := fun m H ρ σ => LRel g m H ρ σ ∧ FrS σ0 vs σ
def tMG (g : G) (vs : List Nat) (f : D → Loc → M Loc) : TG := fun x σ H Q => ∃ m L ρ d, HRel g m L H ∧ LRel g m H ρ σ ∧ RelD g m H d x ∧ Post g (fun _ _ _ => False) (RG g σ vs) m H (f d ρ L) fun σ' H' => Q σ' H'
def tMGs (g : G) (vs : List Nat) (f : List D → Loc → M Loc) : L2.TGs := fun xs σ H Q => ∃ m L ρ ds, HRel g m L H ∧ LRel g m H ρ σ ∧ RelDs g m H ds xs ∧ Post g (fun _ _ _ => False) (RG g σ vs) m H (f ds ρ L) fun σ' H' => Q σ' H'
theorem pg_imp {e : Expr} {t t' : TG} (h : PG X e t) (q : ∀ v σ H Q, t' v σ H Q → t v σ H Q) : PG X e t' := ⟨fun pins s σ H v u Q I r z => h.run pins s σ H v u Q I r (q v σ H Q z)⟩
theorem pgs_imp {e : List Expr} {t t' : L2.TGs} (h : PGs X e t) (q : ∀ v σ H Q, t' v σ H Q → t v σ H Q) : PGs X e t' := ⟨fun pins s σ H v u Q I r z => h.run pins s σ H v u Q I r (q v σ H Q z)⟩
theorem g_var {i : Nat} {x : Str} {vs : List Nat} (hN : X.N.Nodup) (hi : X.N[i]? = some x) (hx : L2.Loc X.env.scope x) (hf : X.fn x = true ∨ X.env.scope.names.lookup x = some .local) (hv : i ∈ vs) : PG X (.Name x pos) (tMG g vs (puT T C (.var i))) := by
  refine pg_imp (pg_name hN hi hx hf) fun v σ H Q ⟨m, L, ρ, d, hr, lr, rd, po⟩ => ?_
  exact po.at (v := σ.set i (some v)) hr ⟨lr.set i rd, by rw [List.length_set], fun j hj => by rw [List.getElem?_set_ne (fun z => hj (by rw [← z]; exact hv))]⟩
theorem gs_nil {vs : List Nat} : PGs X [] (tMGs g vs (puTs T C .nil)) := by
  refine pgs_imp pgs_nil fun v σ H Q ⟨m, L, ρ, ds, hr, lr, rd, po⟩ => ?_
  cases rd with
  | nil => exact ⟨rfl, po.at hr ⟨lr, FrS.refl _ _⟩⟩
  | cons => exact po.elim
/-- a target of a form that stands by itself -/
def plainTg : Expr → Bool
  | .Starred .. => false
  | _ => true
theorem each_plain {e : Expr} {es : List Expr} {env : Env} (h : plainTg e = true) : assignEach (e :: es) env = (false, assign e env) :: assignEach es env := by
  cases e <;> first | rfl | cases h
theorem each_len {env : Env} : ∀ {es : List Expr}, es.all plainTg = true → (assignEach es env).length = es.length
  | [], _ => rfl
  | e :: es, h => by
    rw [List.all_cons, Bool.and_eq_true] at h
    rw [each_plain h.1, List.length_cons, each_len h.2, List.length_cons]
theorem each_none {env : Env} : ∀ {es : List Expr}, es.all plainTg = true → (assignEach es env).findIdx? (·.1) = none
  | [], _ => rfl
  | e :: es, h => by
    rw [List.all_cons, Bool.and_eq_true] at h
    rw [each_plain h.1, List.findIdx?_cons, each_none h.2]
    rfl
variable {t : Tg} {ts : Tgs} {vs : List Nat}
theorem Post.rg {g : G} {E : XK} {σ σ1 : L2.St} {vs : List Nat} {m : List Addr} {H : Hp} {r : Res Loc} {Q : L2.St → Hp → Prop} (h : Post g E (RG g σ vs) m H r Q) (e : FrS σ vs σ1) : Post g E (RG g σ1 vs) m H r Q := by
  cases r with
  | ok d L' => exact fun m1 H1 v e1 hr rg => h m1 H1 v e1 hr ⟨rg.1, e.trans rg.2⟩
  | exc c fs L' => exact h
  | stk => exact h
theorem gs_cons {e : Expr} {es : List Expr} (hp : plainTg e = true) (h : PG X e (tMG g vs (puT T C t))) (r : PGs X es (tMGs g vs (puTs T C ts))) : PGs X (e :: es) (tMGs g vs (puTs T C (.cons t ts))) := by
  refine pgs_imp (pgs_cons h r (by rw [each_plain hp]; rfl)) fun v σ H Q ⟨m, L, ρ, ds, hr, lr, rd, po⟩ => ?_
  cases rd with
  | nil => exact po.elim
  | cons r1 r2 =>
    refine ⟨_, _, rfl, m, L, ρ, _, hr, lr, r1, (Post.bind (R := RG g σ vs) po).imp fun σ1 H1 ⟨m1, L1, ρ1, e1, hr1, ⟨l1, l2⟩, po1⟩ => ?_⟩
    refine ⟨m1, L1, ρ1, _, hr1, l1, r2.mono e1, po1.rg l2⟩
theorem tgLen_eq {env : Env} {es : List Expr} : es.length = tgLen ts → es.all plainTg = true → (assignEach es env).length = tgLen ts := fun h1 h2 => (each_len h2).trans h1
theorem g_tup (c : CxOk g T cf dt C k X W) {es : List Expr} {j : Nat} (hl : es.length = tgLen ts) (hp : es.all plainTg = true) (h : PGs X es (tMGs g vs (puTs T C ts))) : PG X (.Tuple es j pos) (tMG g vs (puT T C (.tup ts))) := by
  refine pg_imp (pg_tup c.calm h ((each_len hp).trans hl) (each_none hp)) fun v σ H Q ⟨m, L, ρ, d, hr, lr, rd, po⟩ => ?_
  cases rd with
  | tup h1 r1 =>
    simp only [puT] at po
    split at po
    · rename_i q
      exact ⟨_, _, rfl, by rw [c.K]; exact h1, by rw [← r1.length]; exact q.symm, m, L, ρ, _, hr, lr, r1, po⟩
    · exact po.elim
  | _ => exact po.elim
end
end Mi
end

section
set_option Elab.async false
set_option linter.all false
set_option maxRecDepth 100000
set_option maxHeartbeats 4000000
/-! Mi, part H2: items and attributes as targets, a starred target; comprehensions. -/
namespace Mi
open PySem PySem.Spec PyProof.Rows L2
section
variable {g : G} {T : Tb} {cf : Cf} {dt : Nat → FuncData} {C : Nat → List D → M D} {k : Nat} {X : Cx} {W : WX} {tg : Expr}
variable {a b i o : Ex} {ea eb ei eo : Expr} {pos apos p : Pos} {es : Exs} {xs : List Expr} {t : Tg} {ts : Tgs} {vs : List Nat}
theorem tM_calm {f : Loc → M D} {σ : L2.St} {H : Hp} {Q : VK} {m : List Addr} {L : MH} {ρ : Loc} (hr : HRel g m L H) (lr : LRel g m H ρ σ) (po : Post g (fun _ _ _ => False) (RD g) m H (f ρ L) Q) : tM g W f σ H Q := ⟨m, L, ρ, hr, lr, po.calm⟩
theorem g_sub (c : CxOk g T cf dt C k X W) (hn : noSlice ei = true) (ho : PE X eo (tM g W (evE T C o))) (hi : PE X ei (tM g W (evE T C i))) : PG X (.Subscript eo ei pos) (tMG g vs (puT T C (.sub o i))) := by
  refine pg_imp (pg_sub ho hi set_list (fun v => by
    rw [arm_assign_Subscript]
    cases ei <;> first | rfl | cases hn)) fun v σ H Q ⟨m, L, ρ, d, hr, lr, rd, po⟩ => ?_
  refine tM_calm hr lr ((Post.bind (R := RD g) po).imp fun x H1 ⟨m1, L1, dx, e1, hr1, rx, po1⟩ => ?_)
  refine tM_calm hr1 (lr.mono e1) ((Post.bind (R := RD g) po1).imp fun y H2 ⟨m2, L2, dy, e2, hr2, ry, po2⟩ => ?_)
  have rx2 := rx.mono e2
  have rd2 := (rd.mono e1).mono e2
  unfold setItemD at po2
  split at po2
  · rename_i n kk
    cases rx2 with
    | ref hm =>
     cases ry with
     | int kk =>
      split at po2
      · rename_i ys q
        split at po2
        · rename_i j q2
          obtain ⟨a', ws, h1, h2, h3⟩ := hr2.lstAt q
          rw [hm] at h1
          cases h1
          refine ⟨_, ws, _, j, rfl, rfl, h2, by rw [← h3.length]; exact q2, ?_⟩
          have ev := Ev.write_lst (m := m2) (ho := .lst (ws.set j v)) h2
          refine po2.atE (v := σ) ev (hr2.set hm ev ⟨_, upd_same, ?_⟩) ⟨((lr.mono e1).mono e2).mono ev, FrS.refl _ _⟩
          exact (h3.set j rd2).mono ev
        · exact po2.elim
      · exact po2.elim
  · exact po2.elim
theorem putN_rel (an : ∀ a b, g.an a = g.an b → a = b) {m : List Addr} {H : Hp} {n : Nat} {d : D} {v : V} (rd : RelD g m H d v) : ∀ {fs : List (Nat × D)} {vfs : List (Str × V)}, RelF g m H fs vfs → RelF g m H (putN n d fs) (putF (g.an n) v vfs)
  | _, _, .nil => .cons rd .nil
  | (b, _) :: _, _, .cons h r => by
    show RelF g m H (if b = n then (b, d) :: _ else _) (if g.an b = g.an n then (g.an b, v) :: _ else _)
    by_cases q : b = n
    · subst q
      rw [if_pos rfl, if_pos rfl]
      exact .cons rd r
    · rw [if_neg q, if_neg fun z => q (an _ _ z)]
      exact .cons h (putN_rel an rd r)
theorem g_attr (c : CxOk g T cf dt C k X W) {n : Nat} (ho : PE X eo (tM g W (evE T C o))) : PG X (.Attribute eo (cf.an n) pos) (tMG g vs (puT T C (.attr o n))) := by
  refine ⟨fun pins s σ H v u Q I r ⟨m, L, ρ, d, hr, lr, rd, po⟩ => ?_⟩
  rw [arm_assign_Attribute]
  refine wpAny_bind (wpAny_holding (thn (ho.run pins s σ H _ I (tM_calm hr lr (Post.bind (R := RD g) po))) fun ov s1 ⟨x, H1, I1, r1, m1, L1, dx, e1, hr1, rx, po1⟩ => ?_))
  refine wpAny_bind (wpAny_standAt (wpAny_bind (wpAny_holding ?_)))
  have rd1 := rd.mono e1
  unfold setAttrD at po1
  split at po1
  · rename_i nn
    cases rx with
    | ref hm =>
      split at po1
      · rename_i cc fs q
        split at po1
        · rename_i q2
          obtain ⟨q3, q4⟩ := Bool.and_eq_true_iff.mp q2
          obtain ⟨a', dx, vfs, h1, h2, h3⟩ := hr1.insAt q
          rw [hm] at h1
          cases h1
          obtain ⟨cl, na⟩ := c.lk.noat cc n q3
          have hov : ov = Value.ref _ := r1
          subst hov
          rw [← c.lk.an]
          refine setattr_ok I1 h2 cl na (by rw [← h3.length]; exact of_decide_eq_true q4) r fun s2 I2 => ?_
          refine wpAny_release ⟨σ, _, I2, ?_⟩
          have ev := Ev.write_ins (m := m1) (ho := .ins (g.cad cc) dx (putF (g.an n) v vfs)) h2
          refine po1.atE (v := σ) ev (hr1.set hm ev ⟨dx, _, upd_same, ?_⟩) ⟨(lr.mono e1).mono ev, FrS.refl _ _⟩
          exact (putN_rel c.lk.inj rd1 h3).mono ev
        · exact po1.elim
      · exact po1.elim
  · exact po1.elim
theorem g_bad {e : Expr} : PG X e (tMG g vs (puT T C .bad)) := ⟨fun pins s σ H v u Q I r ⟨m, L, ρ, d, hr, lr, rd, po⟩ => po.elim⟩
/-- the plain targets, then the starred one -/
theorem each_star {env : Env} {te : Expr} {sp : Pos} : ∀ {es : List Expr}, es.all plainTg = true → plainTg te = true → (assignEach (es ++ [.Starred te sp]) env).map (·.2) = (assignEach (es ++ [te]) env).map (·.2) ∧
    (assignEach (es ++ [.Starred te sp]) env).findIdx? (·.1) = some es.length ∧ (assignEach (es ++ [.Starred te sp]) env).length = es.length + 1
  | [], _, h => by
    rw [List.nil_append, List.nil_append, arm_assignEach_Starred, each_plain h]
    exact ⟨rfl, rfl, rfl⟩
  | e :: es, h1, h2 => by
    rw [List.all_cons, Bool.and_eq_true] at h1
    obtain ⟨i1, i2, i3⟩ := each_star (env := env) (te := te) (sp := sp) h1.2 h2
    rw [List.cons_append, List.cons_append, each_plain h1.1, each_plain h1.1]
    refine ⟨by rw [List.map_cons, List.map_cons, i1], ?_, by rw [List.length_cons, i3, List.length_cons]⟩
    rw [List.findIdx?_cons, i2]
    rfl
/-- a list unpacked, the rest of it in a new list -/
theorem unpack_star {pins : List (Addr × Obj)} {σ : L2.St} {H : Hp} {s : Shared} {l : Addr} {n : Nat} {its : List Value} {Q : List Value → Shared → Prop} {E : Value → Shared → Prop} {A : Around} (I : Inv X pins σ H s) (hl : s.heap.IsList l its.toArray) (hh : A.handled = none) (hn : n ≤ its.length) (hz : its.length ≤ 16384)
    (h : ∀ (h' : Heap) (tk : Nat), (∀ b o, s.heap.get? b = some o → h'.get? b = some o) → Q (its.take n ++ [.ref h'.objs.size]) { s with heap := h'.push { cls := .type "list", data := .seq (its.drop n).toArray }, toks := tk }) : wpAny (model X.prog X.w) A (unpackItems (.ref l) (n + 1) (some n)) Q E s := by
  have hlt : l ≠ s.heap.objs.size := by obtain ⟨o, ho, _⟩ := hl; exact Nat.ne_of_lt (Heap.lt_size ho)
  have hsz : its.toArray.size = its.length := List.size_toArray
  unfold unpackItems
  refine wpAny_bind ?_
  unfold notIterableAtAll
  refine wpAny_bind (wpAny_specialOf hl.typeIs F.slot_list_iter.lookup ?_)
  refine wpAny_pure ?_
  simp only [Bool.false_eq_true, if_false]
  refine wpAny_bind (wpAny_holding (wpAny_pyIter_list hl ?_))
  refine wpAny_bind (wpAny_holding (PySem.W.kun_draw hlt n 0 _ _ ⟨_, Heap.get?_push_size _ rfl, rfl, rfl⟩ (hl.push _) (by rw [hsz]; omega) fun h₁ hit₁ hs₁ => ?_))
  have hl₁ : h₁.IsList l its.toArray := (hl.push _).extBut hs₁.extBut hlt
  rw [Nat.zero_add] at hit₁
  have hit₁' := hit₁
  obtain ⟨oi, hoi, _⟩ := hit₁'
  have hl₁' := hl₁
  obtain ⟨ol, hol, _⟩ := hl₁'
  have e0 : its.toArray.toList = its := rfl
  rw [List.drop_zero, e0]
  have hfl : (its.take n).length = n := by rw [List.length_take]; omega
  rw [if_neg (show ¬ ((its.take n).length < n) by rw [hfl]; omega)]
  refine wpAny_bind (wpAny_holding (PySem.W.kun_collect (s := { s with heap := h₁ }) (T := "list_iterator") (.inr (.inr (.inl rfl))) (Walks.list (A := A.in1) hh s.heap.objs.size l hlt its.toArray) (fun j u st => st.1.typeIs) (k := n) (by rw [hsz]; omega) ⟨hit₁, hl₁⟩ (Heap.lt_size hoi) (Heap.lt_size hol) (fun h₂ tk hk => ?_) (by rw [hsz, sizeLine_eq]; omega)))
  rw [e0]
  have hmid : (its.drop n).length - (n + 1 - 1 - n) = (its.drop n).length := by omega
  show wpAny _ _ (if (its.drop n).length < n + 1 - 1 - n then _ else _) _ _ _
  rw [if_neg (by omega)]
  show wpAny _ _ (newList ((its.drop n).take ((its.drop n).length - (n + 1 - 1 - n))) >>= fun d => pure (its.take n ++ [d] ++ (its.drop n).drop ((its.drop n).length - (n + 1 - 1 - n)))) _ _ _
  rw [hmid, List.take_length, List.drop_length]
  have he : ∀ b o, s.heap.get? b = some o → h₂.get? b = some o := fun b o e => hk b o (Nat.ne_of_lt (Heap.lt_size e)) (hs₁.extBut b o (Nat.ne_of_lt (Heap.lt_size e)) (Heap.get?_push_of_some _ e))
  exact wpAny_bind (wpAny_newList (wpAny_pure (by rw [List.append_nil]; exact h h₂ tk he)) (by rw [List.length_drop, sizeLine_eq]; omega))
theorem g_star (c : CxOk g T cf dt C k X W) {es : List Expr} {te : Expr} {sp : Pos} {j : Nat} (hl : es.length + 1 = tgLen ts) (hp : es.all plainTg = true) (hp2 : plainTg te = true) (h : PGs X (es ++ [te]) (tMGs g vs (puTs T C ts))) :
    PG X (.Tuple (es ++ [.Starred te sp]) j pos) (tMG g vs (puT T C (.star ts))) := by
  refine ⟨fun pins s σ H v u Q I r ⟨m, L, ρ, d, hr, lr, rd, po⟩ => ?_⟩
  simp only [puT] at po
  cases q : listD L d with
  | none => rw [q] at po; exact po.elim
  | some xs =>
    simp only [q] at po
    split at po
    · rename_i q1
      obtain ⟨q2, q3⟩ := Bool.and_eq_true_iff.mp q1
      have q2 := of_decide_eq_true q2
      have q3 := of_decide_eq_true q3
      obtain ⟨a', ws, e1, h1, h2⟩ := listD_rel hr rd q
      subst e1
      have hu : u = Value.ref a' := r
      subst hu
      obtain ⟨its, rv, pl, hz⟩ := I.list (by rw [c.K]; exact h1)
      obtain ⟨e1, e2, e3⟩ := each_star (env := X.env) (te := te) (sp := sp) hp hp2
      rw [PyProof.Rows.assign_Tuple]
      refine wpAny_bind (wpAny_standAt ?_)
      unfold unpack
      rw [e1, e2, e3]
      have l1 := h2.length
      have l2 := rv.length
      refine wpAny_bind (wpAny_holding (unpack_star I pl.isList (I.ok.hd c.calm) (by omega) (by omega) fun h' tk hk => ?_))
      have I1 : Inv X pins σ H { s with heap := h', toks := tk } := I.kept hk
      have hn : tgLen ts - 1 = es.length := by omega
      rw [hn] at po
      obtain ⟨D, hD⟩ : ∃ D, D = h'.objs.size := ⟨_, rfl⟩
      have hDn : H D = none := I1.hok.fresh (by rw [hD]; exact Nat.le_refl _)
      have I2 : Inv X pins σ (upd H D (.lst (ws.drop es.length))) { s with heap := h'.push { cls := .type "list", data := .seq (its.drop es.length).toArray }, toks := tk } := by
        rw [hD]
        exact I1.lnew (rv.drop es.length) (by rw [List.length_drop]; omega)
      have ev : Ev m H (m ++ [D]) (upd H D (.lst (ws.drop es.length))) := Ev.push hDn
      have hr2 := hr.push (o := .lst (xs.drop es.length)) hDn ⟨ws.drop es.length, upd_same, (h2.drop _).mono ev⟩
      refine h.run pins _ σ _ (ws.take es.length ++ [.ref D]) _ Q I2 ?_ ⟨m ++ [D], _, ρ, _, hr2, lr.mono ev, ((h2.take _).mono ev).append (.cons (.ref ?_) .nil), (Post.ev ev po)⟩
      · rw [hD]
        exact (rv.take _).append (.cons rfl .nil)
      · rw [← hr.len]
        exact getElem?_snoc _ _
    · exact po.elim
end
end Mi
end

section
set_option Elab.async false
set_option linter.all false
set_option maxRecDepth 100000
set_option maxHeartbeats 4000000
/-! Mi, part H3: comprehensions. -/
namespace Mi
open PySem PySem.Spec PyProof.Rows L2
theorem wipe_get (σ : L2.St) (j : Nat) : ∀ vs : List Nat, (wipe σ vs)[j]? = if j ∈ vs ∧ j < σ.length then some none else σ[j]?
  | [] => by simp [wipe]
  | v :: vs => by
    unfold wipe
    by_cases hv : j = v
    · subst hv
      by_cases hl : j < σ.length
      · rw [List.getElem?_set_self (by rw [wipe_length]; exact hl), if_pos ⟨List.mem_cons_self .., hl⟩]
      · rw [if_neg fun z => hl z.2, List.getElem?_eq_none (by rw [List.length_set, wipe_length]; omega), List.getElem?_eq_none (by omega)]
    · rw [List.getElem?_set_ne (Ne.symm hv), wipe_get σ j vs]
      have e : (j ∈ v :: vs ∧ j < σ.length) ↔ (j ∈ vs ∧ j < σ.length) := by
        rw [List.mem_cons]
        exact ⟨fun z => ⟨z.1.resolve_left hv, z.2⟩, fun z => ⟨.inr z.1, z.2⟩⟩
      by_cases q : j ∈ vs ∧ j < σ.length
      · rw [if_pos q, if_pos (e.mpr q)]
      · rw [if_neg q, if_neg fun z => q (e.mp z)]
theorem wipe_same {σ σ2 : L2.St} {vs : List Nat} (h : FrS (wipe σ vs) vs σ2) : wipe σ2 vs = wipe σ vs := by
  refine List.ext_getElem? fun j => ?_
  rw [wipe_get, wipe_get, h.1, wipe_length]
  by_cases q : j ∈ vs
  · by_cases hl : j < σ.length
    · rw [if_pos ⟨q, hl⟩, if_pos ⟨q, hl⟩]
    · rw [if_neg fun z => hl z.2, if_neg fun z => hl z.2, List.getElem?_eq_none (by rw [h.1, wipe_length]; omega), List.getElem?_eq_none (by omega)]
  · rw [if_neg fun z => q z.1, h.2 j q, wipe_get]
section
variable {g : G} {T : Tb} {cf : Cf} {dt : Nat → FuncData} {C : Nat → List D → M D} {k : Nat} {X : Cx} {W : WX} {tg : Expr}
variable {a b i o e : Ex} {ea eb ei eo : Expr} {pos apos p : Pos} {es : Exs} {xs : List Expr} {t : Tg} {ts : Tgs} {vs : List Nat} {it : It} {oi : Ox}
abbrev WF : WX := fun _ _ _ _ => False
theorem lc_of {σ : L2.St} {H : Hp} {Q : VK} (h : tM g W (evE T C (.lc e t it oi vs)) σ H Q) :
    tLc (tMI g W (evI T C it)) (tMG g vs (puT T C t)) (tMT g WF (evT T C oi)) (tM g WF (evE T C e)) vs σ H Q := by
  obtain ⟨m, L, ρ, hr, lr, po⟩ := h
  refine ⟨m, L, ρ, hr, lr, (Post.bind (R := RJ g) po).imp fun J H1 ⟨m1, L1, w, e1, hr1, jr, po1⟩ => ?_⟩
  intro D hD
  have ev0 : Ev m1 H1 (m1 ++ [D]) (upd H1 D (.lst [])) := Ev.push hD
  have hr2 : HRel g (m1 ++ [D]) (L1 ++ [.lst []]) (upd H1 D (.lst [])) := hr1.push hD ⟨[], upd_same, .nil⟩
  have hm : (m1 ++ [D])[L1.length]? = some D := by
    rw [← hr1.len]
    exact getElem?_snoc _ _
  have lw : LRel g (m1 ++ [D]) (upd H1 D (.lst [])) (wipeL ρ vs) (wipe σ vs) := ((lr.mono e1).mono ev0).wipe vs
  have po3 : Post g (fun _ _ _ => False) (fun _ _ (_ : Unit) (_ : Unit) => True) (m1 ++ [D]) (upd H1 D (.lst [])) (lcL (evE T C e) (evT T C oi) (puT T C t) w L1.length (wipeL ρ vs) (w.len (L1 ++ [.lst []])) 0 (L1 ++ [.lst []])) fun _ H' => Q (.ref D) H' := by
    refine Post.quiet ((Post.bind (R := fun _ _ (_ : Unit) (_ : Unit) => True) (Post.ev ev0 po1)).imp fun _ H2 ⟨m2, L2, _, e2, hr2', _, po4⟩ => ?_) _
    exact po4.at hr2' (.ref (e2.get hm))
  refine ⟨fun i n H => ∃ m2 L2, Ev (m1 ++ [D]) (upd H1 D (.lst [])) m2 H ∧ HRel g m2 L2 H ∧ Post g (fun _ _ _ => False) (fun _ _ (_ : Unit) (_ : Unit) => True) m2 H (lcL (evE T C e) (evT T C oi) (puT T C t) w L1.length (wipeL ρ vs) n i L2) fun _ H' => Q (.ref D) H',
    ⟨_, _, _, Ev.refl _ _, hr2, po3⟩, ?_⟩
  rintro i n H2 ⟨m2, L2, e2, hr2, po⟩
  have jr2 := jr.mono (ev0.trans e2)
  cases q : w.at L2 i with
  | none => cases n <;> (simp only [lcL, q] at po; exact po.elim)
  | some ox =>
    cases ox with
    | none =>
      refine .inl ⟨jr2.stop m2 L2 H2 i (Ev.refl _ _) hr2 q, ?_⟩
      cases n <;> (simp only [lcL, q] at po; exact po.at (v := ()) hr2 True.intro)
    | some x =>
      cases n with
      | zero => simp only [lcL, q] at po; exact po.elim
      | succ n =>
        simp only [lcL, q] at po
        obtain ⟨go, yld⟩ := jr2.item m2 L2 H2 i x (Ev.refl _ _) hr2 q
        refine .inr ⟨go, fun H' => ∃ m2 L2, Ev (m1 ++ [D]) (upd H1 D (.lst [])) m2 H' ∧ HRel g m2 L2 H' ∧ Post g (fun _ _ _ => False) (fun _ _ (_ : Unit) (_ : Unit) => True) m2 H' (lcL (evE T C e) (evT T C oi) (puT T C t) w L1.length (wipeL ρ vs) n (i + 1) L2) fun _ H' => Q (.ref D) H',
          fun H' z => ⟨n, Nat.lt_succ_self _, z⟩, fun xv H' y => ?_⟩
        obtain ⟨e3, hr3, rx⟩ := yld xv H' y
        refine ⟨m2, L2, wipeL ρ vs, x, hr3, (lw.mono e2).mono e3, rx, (Post.bind (R := RG g (wipe σ vs) vs) (Post.ev e3 po)).imp fun σ2 H3 ⟨m3, L3, ρ1, e4, hr4, ⟨l1, l2⟩, po2⟩ => ⟨wipe_same l2, ?_⟩⟩
        refine ⟨m3, L3, ρ1, hr4, l1, (Post.bind (R := REq) po2).imp fun b H4 ⟨m4, L4, b', e5, hr5, eb, po3⟩ => ?_⟩
        cases eb
        cases b with
        | false =>
          rw [if_neg Bool.false_ne_true] at po3 ⊢
          exact ⟨m4, L4, ((e2.trans e3).trans e4).trans e5, hr5, po3⟩
        | true =>
          rw [if_pos rfl] at po3 ⊢
          refine ⟨m4, L4, ρ1, hr5, l1.mono e5, (Post.bind (R := RD g) po3).imp fun y H5 ⟨m5, L5, d, e6, hr6, rd, po4⟩ => ?_⟩
          have ev5 := (((e2.trans e3).trans e4).trans e5).trans e6
          split at po4
          · rename_i xs q5
            split at po4
            · rename_i q6
              obtain ⟨a, ws, h1, h2, h3⟩ := hr6.lstAt q5
              rw [ev5.get hm] at h1
              cases h1
              have ev6 := Ev.write_lst (m := m5) (ho := .lst (ws ++ [y])) h2
              refine ⟨ws, h2, by rw [← h3.length, line_eq]; exact of_decide_eq_true q6, m5, _, ev5.trans ev6, hr6.set (o := .lst (xs ++ [d])) (ev5.get hm) ev6 ⟨_, upd_same, (h3.append (.cons rd .nil)).mono ev6⟩, Post.ev ev6 po4⟩
            · exact po4.elim
          · exact po4.elim
/-- the context of a comprehension's block -/
theorem CxOk.blk (c : CxOk g T cf dt C k X W) (s : Shared) (H : Hp) (scope : Scope) (env : Env) (fp : List Addr) : CxOk g T cf dt C k (X.blk s H scope env fp) WF :=
  ⟨c.K, c.lk, c.fns, c.room, c.calm, takes_none5, c.nd⟩
theorem m_lc (c : CxOk g T cf dt C k X W) {elt tg iter : Expr} {ifs : List Expr} {scope : Scope} {own : List (Str × Nat)} (hi : PI X tg iter (tMI g W (evI T C it))) (ok : BlkOk X.N X.env.scope scope own) (hv : own.map (·.2) = vs)
    (hg : ∀ (s : Shared) (H : Hp) (C' : Addr) (cl : List (Str × Addr)) (fp : List Addr), PG (X.blk s H scope (compEnvC scope cl C' X.env) fp) tg (tMG g vs (puT T C t)))
    (ht : ∀ (s : Shared) (H : Hp) (C' : Addr) (cl : List (Str × Addr)) (fp : List Addr), PTs (X.blk s H scope (compEnvC scope cl C' X.env) fp) ifs (tMT g WF (evT T C oi)))
    (he : ∀ (s : Shared) (H : Hp) (C' : Addr) (cl : List (Str × Addr)) (fp : List Addr), PE (X.blk s H scope (compEnvC scope cl C' X.env) fp) elt (tM g WF (evE T C e))) (hs : noSet iter = true) :
    PE X (.ListComp elt [⟨tg, iter, ifs, 0⟩] scope pos) (tM g W (evE T C (.lc e t it oi vs))) := by
  subst hv
  exact pe_imp (pe_lc c.calm c.nd hi ok hg ht he (folded_none hs)) fun σ H Q h => lc_of h
theorem pts_imp {es : List Expr} {t t' : TT} (h : PTs X es t) (k : ∀ σ H Q, t' σ H Q → t σ H Q) : PTs X es t' := ⟨fun pins s σ H Q I q => h.run pins s σ H Q I (k σ H Q q)⟩
theorem ts_nil : PTs X [] (tMT g W (evT T C .none)) := pts_imp pts_nil fun σ H Q ⟨m, L, ρ, hr, lr, po⟩ => po.at (v := true) hr rfl
theorem ts_one (h : PT X ea (tMT g W (evB T C a))) : PTs X [ea] (tMT g W (evT T C (.some a))) := pts_one h
end
end Mi
end

section
set_option Elab.async false
set_option linter.all false
set_option maxRecDepth 100000
set_option maxHeartbeats 4000000
/-! Mi, part I: statements. -/
namespace Mi
open PySem PySem.Spec PyProof.Rows L2
/-- what is wanted behind a statement -/
def PFl (g : G) (W : WX) (D : Ends) (m : List Addr) (H : Hp) (r : Res Fl) : Prop := match r with
  | .ok fl L' => ∀ m' H', Ev m H m' H' → HRel g m' L' H' → (match fl with
    | .nx ρ => ∀ σ', LRel g m' H' ρ σ' → D.nx σ' H'
    | .bk ρ => ∀ σ', LRel g m' H' ρ σ' → D.bk σ' H'
    | .ct ρ => ∀ σ', LRel g m' H' ρ σ' → D.ct σ' H'
    | .rt d => ∀ v, RelD g m' H' d v → D.rt v H'
    | .xc ρ c fs => ∀ dx σ', LRel g m' H' ρ σ' → XR g m' H' fs dx → W (.ref (g.cad c)) (some dx) σ' H')
  | _ => False
def tMS (g : G) (W : WX) (f : Loc → M Fl) : TS := fun D σ H => ∃ m L ρ, HRel g m L H ∧ LRel g m H ρ σ ∧ PFl g W D m H (f ρ L)
section
variable {g : G} {W : WX} {D : Ends} {m m' : List Addr} {H H' : Hp} {L : MH} {σ : L2.St} {ρ : Loc}
theorem PFl.ev {r : Res Fl} (e : Ev m H m' H') (h : PFl g W D m H r) : PFl g W D m' H' r := by
  cases r with
  | ok fl L' => exact fun m2 H2 e2 hr => h m2 H2 (e.trans e2) hr
  | exc c fs L' => exact h
  | stk => exact h
theorem PFl.bindX {α β : Type} {R : List Addr → Hp → α → β → Prop} {r : Res α} {k : α → M Fl} (lr : LRel g m H ρ σ) (h : PFl g W D m H (r.bindX ρ k)) :
    Post g (fun c d H' => W c d σ H') R m H r fun v H1 => ∃ m1 L1 a, Ev m H m1 H1 ∧ HRel g m1 L1 H1 ∧ R m1 H1 a v ∧ PFl g W D m1 H1 (k a L1) := by
  cases r with
  | ok d L' => exact fun m1 H1 v e hr rd => ⟨m1, L', d, e, hr, rd, h.ev e⟩
  | exc c fs L' => exact fun m1 H1 dx e hr x => h m1 H1 e hr dx σ (lr.mono e) x
  | stk => exact h
theorem PFl.bind {α β : Type} {R : List Addr → Hp → α → β → Prop} {r : Res α} {k : α → M Fl} {E : XK} (h : PFl g W D m H (r.quiet.bind k)) :
    Post g E R m H r fun v H1 => ∃ m1 L1 a, Ev m H m1 H1 ∧ HRel g m1 L1 H1 ∧ R m1 H1 a v ∧ PFl g W D m1 H1 (k a L1) := by
  cases r with
  | ok d L' => exact fun m1 H1 v e hr rd => ⟨m1, L', d, e, hr, rd, h.ev e⟩
  | exc c fs L' => exact h.elim
  | stk => exact h
theorem PFl.at {ρ : Loc} (h : PFl g W D m H (.ok (.nx ρ) L)) (hr : HRel g m L H) (lr : LRel g m H ρ σ) : D.nx σ H := h m H (Ev.refl _ _) hr σ lr
theorem PFl.imp {D' : Ends} {W' : WX} {r : Res Fl} (h : PFl g W D m H r) (h1 : ∀ σ H, D.nx σ H → D'.nx σ H) (h2 : ∀ v H, D.rt v H → D'.rt v H) (h3 : ∀ σ H, D.bk σ H → D'.bk σ H) (h4 : ∀ σ H, D.ct σ H → D'.ct σ H) (h5 : ∀ c d σ H, W c d σ H → W' c d σ H) : PFl g W' D' m H r := by
  cases r with
  | ok fl L' =>
    intro m2 H2 e2 hr
    have z := h m2 H2 e2 hr
    cases fl with
    | nx ρ => exact fun σ' l => h1 _ _ (z σ' l)
    | bk ρ => exact fun σ' l => h3 _ _ (z σ' l)
    | ct ρ => exact fun σ' l => h4 _ _ (z σ' l)
    | rt d => exact fun v r => h2 _ _ (z v r)
    | xc ρ c fs => exact fun dx σ' l x => h5 _ _ _ _ (z dx σ' l x)
  | exc c fs L' => exact h
  | stk => exact h
end
/-- the context of a def's body -/
structure SxOk (g : G) (T : Tb) (cf : Cf) (dt : Nat → FuncData) (C : Nat → List D → M D) (k : Nat) (X : Cx) (W : WX) : Prop where
  cx : CxOk g T cf dt C k X W
  pw : PassesOwn (model X.prog X.w) X.A X.env X.xe
  bk : X.env.blockKind = .function
section
variable {g : G} {T : Tb} {cf : Cf} {dt : Nat → FuncData} {C : Nat → List D → M D} {k wf : Nat} {X : Cx} {W : WX} {tg : Expr}
variable {a b i o e : Ex} {ea eb ei eo : Expr} {pos apos p : Pos} {es : Exs} {xs : List Expr} {t : Tg} {ts : Tgs} {vs : List Nat} {it : It} {oi : Ox} {st : Stmt} {sts sts2 : List Stmt} {s1 : Sm} {b1 b2 : Sms}
theorem s_nil : PSs X [] (tMS g W (exSs T C wf .nil)) := pss_imp pss_nil fun D σ H ⟨m, L, ρ, hr, lr, po⟩ => po.at hr lr
theorem s_cons (h : PS X st (tMS g W (exS T C wf s1))) (h' : PSs X sts (tMS g W (exSs T C wf b1))) : PSs X (st :: sts) (tMS g W (exSs T C wf (.cons s1 b1))) := by
  refine pss_imp (pss_cons h h') fun D σ H ⟨m, L, ρ, hr, lr, po⟩ => ⟨m, L, ρ, hr, lr, ?_⟩
  simp only [exSs] at po
  revert po
  generalize exS T C wf s1 ρ L = r
  intro po
  cases r with
  | stk => exact po.elim
  | exc c fs L' => exact po.elim
  | ok fl L' =>
    intro m1 H1 e1 hr1
    have po1 := PFl.ev e1 po
    cases fl with
    | nx ρ1 => exact fun σ' l => ⟨m1, L', ρ1, hr1, l, po1⟩
    | bk ρ1 => exact po1 m1 H1 (Ev.refl _ _) hr1
    | ct ρ1 => exact po1 m1 H1 (Ev.refl _ _) hr1
    | rt d => exact po1 m1 H1 (Ev.refl _ _) hr1
    | xc ρ1 c fs => exact po1 m1 H1 (Ev.refl _ _) hr1
theorem s_pass : PS X (.Pass pos) (tMS g W (exS T C wf .pass)) := ps_imp ps_pass fun D σ H ⟨m, L, ρ, hr, lr, po⟩ => po.at hr lr
theorem s_brk : PS X (.Break pos) (tMS g W (exS T C wf .brk)) := ps_imp ps_break fun D σ H ⟨m, L, ρ, hr, lr, po⟩ => po m H (Ev.refl _ _) hr σ lr
theorem s_cont : PS X (.Continue pos) (tMS g W (exS T C wf .cont)) := ps_imp ps_continue fun D σ H ⟨m, L, ρ, hr, lr, po⟩ => po m H (Ev.refl _ _) hr σ lr
theorem s_doc {x : Str} {j : Nat} {p : Pos} : PS X (.Expr (.Constant (.str x) j p) pos) (tMS g W (exS T C wf .doc)) := ps_imp ps_doc fun D σ H ⟨m, L, ρ, hr, lr, po⟩ => po.at hr lr
theorem s_bad : PS X st (tMS g W (exS T C wf .bad)) := ⟨fun _ _ _ _ _ _ ⟨m, L, ρ, hr, lr, po⟩ => po.elim⟩
theorem s_expr (hn : noComp ea = true) (ha : PE X ea (tM g W (evE T C a))) : PS X (.Expr ea pos) (tMS g W (exS T C wf (.expr a))) :=
  ps_imp (ps_expr ha (swaps_none hn)) fun D σ H ⟨m, L, ρ, hr, lr, po⟩ => ⟨m, L, ρ, hr, lr, (PFl.bindX (R := RD g) lr po).imp fun v H1 ⟨m1, L1, d, e1, hr1, rd, po1⟩ => po1.at hr1 (lr.mono e1)⟩
theorem s_ret (ha : PE X ea (tM g W (evE T C a))) : PS X (.Return (some ea) pos) (tMS g W (exS T C wf (.ret a))) :=
  ps_imp (ps_ret ha) fun D σ H ⟨m, L, ρ, hr, lr, po⟩ => ⟨m, L, ρ, hr, lr, (PFl.bindX (R := RD g) lr po).imp fun v H1 ⟨m1, L1, d, e1, hr1, rd, po1⟩ => po1 m1 H1 (Ev.refl _ _) hr1 v rd⟩
theorem s_retn : PS X (.Return none pos) (tMS g W (exS T C wf .retn)) := ps_imp ps_retN fun D σ H ⟨m, L, ρ, hr, lr, po⟩ => po m H (Ev.refl _ _) hr .non .non
theorem s_if {c : Ex} {ec : Expr} (hc : PT X ec (tMT g W (evB T C c))) (ha : PSs X sts (tMS g W (exSs T C wf b1))) (hb : PSs X sts2 (tMS g W (exSs T C wf b2))) : PS X (.If ec sts sts2 pos) (tMS g W (exS T C wf (.ife c b1 b2))) := by
  refine ps_imp (ps_if hc ha hb) fun D σ H ⟨m, L, ρ, hr, lr, po⟩ => ⟨m, L, ρ, hr, lr, (PFl.bindX (R := REq) lr po).imp fun v H1 ⟨m1, L1, d, e1, hr1, rd, po1⟩ => ?_⟩
  cases rd
  cases v with
  | true =>
    rw [if_pos rfl] at po1 ⊢
    exact ⟨m1, L1, ρ, hr1, lr.mono e1, po1⟩
  | false =>
    rw [if_neg Bool.false_ne_true] at po1 ⊢
    exact ⟨m1, L1, ρ, hr1, lr.mono e1, po1⟩
theorem pt_of_asg {σ : L2.St} {H : Hp} {En : Ends} {m : List Addr} {L : MH} {d : D} {ρ : Loc} {x : V} (hr : HRel g m L H) (lr : LRel g m H ρ σ) (rd : RelD g m H d x)
    (po : PFl g W En m H ((puT T C t d ρ L).quiet.bind fun ρ1 => ret (.nx ρ1))) : tMG g vs (puT T C t) x σ H En.nx :=
  ⟨m, L, ρ, d, hr, lr, rd, (PFl.bind (R := RG g σ vs) po).imp fun σ' H1 ⟨m1, L1, ρ1, e1, hr1, ⟨l1, _⟩, po1⟩ => po1.at hr1 l1⟩
theorem s_asg (hp : plainTg tg = true) (hs : swapsWith ea (some tg) pos.line X.env = pure false) (hw : swappedStores [tg] ea X.env = pure none) (ha : PE X ea (tM g W (evE T C a))) (hg : PG X tg (tMG g vs (puT T C t))) : PS X (.Assign [tg] ea pos) (tMS g W (exS T C wf (.asg t a))) := by
  refine ps_imp (ps_asg ha hg hs hw (by rw [each_plain hp]; rfl)) fun D σ H ⟨m, L, ρ, hr, lr, po⟩ => ⟨m, L, ρ, hr, lr, (PFl.bindX (R := RD g) lr po).imp fun v H1 ⟨m1, L1, d, e1, hr1, rd, po1⟩ => ?_⟩
  exact pt_of_asg hr1 (lr.mono e1) rd po1
/-- name = [..] -/
theorem s_setLc (c : CxOk g T cf dt C k X W) {elt tg0 iter : Expr} {ifs : List Expr} {scope : Scope} {own : List (Str × Nat)} {y : Str} {j : Nat} {py lpos : Pos} (hy : X.N[j]? = some y) (hyl : X.env.scope.names.lookup y = some .local)
    (hsw : swapsWith (.ListComp elt [⟨tg0, iter, ifs, 0⟩] scope lpos) (some (.Name y py)) pos.line X.env = pure true) (hi : PI X tg0 iter (tMI g W (evI T C it))) (ok : BlkOk X.N X.env.scope scope own) (hv : own.map (·.2) = vs)
    (hg : ∀ (s : Shared) (H : Hp) (C' : Addr) (cl : List (Str × Addr)) (fp : List Addr), PG (X.blk s H scope (compEnvC scope cl C' X.env) fp) tg0 (tMG g vs (puT T C t)))
    (ht : ∀ (s : Shared) (H : Hp) (C' : Addr) (cl : List (Str × Addr)) (fp : List Addr), PTs (X.blk s H scope (compEnvC scope cl C' X.env) fp) ifs (tMT g WF (evT T C oi)))
    (he : ∀ (s : Shared) (H : Hp) (C' : Addr) (cl : List (Str × Addr)) (fp : List Addr), PE (X.blk s H scope (compEnvC scope cl C' X.env) fp) elt (tM g WF (evE T C e))) (hs : noSet iter = true) :
    PS X (.Assign [.Name y py] (.ListComp elt [⟨tg0, iter, ifs, 0⟩] scope lpos) pos) (tMS g W (exS T C wf (.asg (.var j) (.lc e t it oi vs)))) := by
  subst hv
  refine ps_imp (ps_setLc c.calm c.nd hy hyl hsw hi ok hg ht he (folded_none hs)) fun D σ H ⟨m, L, ρ, hr, lr, po⟩ => ?_
  refine lc_of ⟨m, L, ρ, hr, lr, (PFl.bindX (R := RD g) lr po).imp fun v H1 ⟨m1, L1, d, e1, hr1, rd, po1⟩ => ?_⟩
  exact po1.at hr1 ((lr.mono e1).set j rd)
theorem s_aug (c : CxOk g T cf dt C k X W) {o : BOp} {j : Nat} {x : Str} {p' : Pos} (ho : o = .add ∨ o = .sub) (hi : X.N[j]? = some x) (hx : L2.Loc X.env.scope x) (hf : X.fn x = true ∨ X.env.scope.names.lookup x = some .local) (ha : PE X ea (tM g W (evE T C a))) :
    PS X (.AugAssign (.Name x p') (opOf o) ea pos) (tMS g W (exS T C wf (.aug j o a))) := by
  have key : ∀ {ti : TIp}, PIp X (opOf o) ti → (∀ (d e f : D) (x y : V) (m : List Addr) (H : Hp) (Q : VK), augD o d e = some f → RelD g m H d x → RelD g m H e y → (∀ z, RelD g m H f z → Q z H) → ti x y H Q) → PS X (.AugAssign (.Name x p') (opOf o) ea pos) (tMS g W (exS T C wf (.aug j o a))) := fun {ti} h1 h2 => by
    refine ps_imp (ps_aug c.nd hi hx ha h1 hf) fun D σ H ⟨m, L, ρ, hr, lr, po⟩ => ?_
    simp only [exS] at po
    cases q : ρ[j]? with
    | none => rw [q] at po; exact po.elim
    | some od =>
      cases od with
      | none => rw [q] at po; exact po.elim
      | some d =>
        rw [q] at po
        obtain ⟨v, l1, l2⟩ := lr.get j d q
        refine ⟨v, l1, m, L, ρ, hr, lr, (PFl.bindX (R := RD g) lr po).imp fun y H1 ⟨m1, L1, e, e1, hr1, re, po1⟩ => ?_⟩
        cases q2 : augD o d e with
        | none => simp only [q2] at po1; exact po1.elim
        | some f =>
          simp only [q2] at po1
          exact h2 d e f v y m1 H1 _ q2 (l2.mono e1) re fun z rz => po1.at hr1 ((lr.mono e1).set j rz)
  rcases ho with rfl | rfl
  · refine key ip_add fun d e f x y m H Q q r1 r2 h => ?_
    cases r1 <;> cases r2 <;> first | (cases q; done) | (cases q; exact ⟨_, _, rfl, rfl, h _ (.int _)⟩)
  · refine key ip_sub fun d e f x y m H Q q r1 r2 h => ?_
    cases r1 <;> cases r2 <;> first | (cases q; done) | (cases q; exact ⟨_, _, rfl, rfl, h _ (.int _)⟩)
theorem s_par2 (c : CxOk g T cf dt C k X W) {j l : Nat} {x y : Str} {px py pt : Pos} {kt k2 : Nat} {pt2 : Pos} (hi : X.N[j]? = some x) (hj : X.N[l]? = some y) (hij : j ≠ l) (hx : X.env.scope.names.lookup x = some .local) (hy : X.env.scope.names.lookup y = some .local)
    (hw : swappedStores [.Tuple [.Name x px, .Name y py] kt pt] (.Tuple [ea, eb] k2 pt2) X.env = pure (some [x, y])) (ha : PA X [ea, eb] (tMA g W (evEs T C es))) :
    PS X (.Assign [.Tuple [.Name x px, .Name y py] kt pt] (.Tuple [ea, eb] k2 pt2) pos) (tMS g W (exS T C wf (.par [j, l] es))) := by
  refine ps_imp (ps_par c.calm c.nd hi hj hij hx hy ha hw) fun D σ H ⟨m, L, ρ, hr, lr, po⟩ => ⟨m, L, ρ, hr, lr, (PFl.bindX (R := RDs g) lr po).imp fun vs H1 ⟨m1, L1, ds, e1, hr1, rds, po1⟩ => ?_⟩
  split at po1
  · rename_i q
    cases rds with
    | nil => cases q
    | cons r1 r2 =>
      cases r2 with
      | nil => cases q
      | cons r2 r3 =>
        cases r3 with
        | nil => exact ⟨_, _, rfl, po1.at hr1 (((lr.mono e1).set j r1).set l r2)⟩
        | cons => cases q
  · exact po1.elim
theorem s_par3 (c : CxOk g T cf dt C k X W) {j l n : Nat} {x y z : Str} {px py pz pt : Pos} {kt k2 : Nat} {pt2 : Pos} {ec : Expr} (hi : X.N[j]? = some x) (hj : X.N[l]? = some y) (hl : X.N[n]? = some z) (hij : j ≠ l) (hil : j ≠ n) (hjl : l ≠ n)
    (hx : X.env.scope.names.lookup x = some .local) (hy : X.env.scope.names.lookup y = some .local) (hz : X.env.scope.names.lookup z = some .local)
    (hw : swappedStores [.Tuple [.Name x px, .Name y py, .Name z pz] kt pt] (.Tuple [ea, eb, ec] k2 pt2) X.env = pure (some [x, y, z])) (ha : PA X [ea, eb, ec] (tMA g W (evEs T C es))) :
    PS X (.Assign [.Tuple [.Name x px, .Name y py, .Name z pz] kt pt] (.Tuple [ea, eb, ec] k2 pt2) pos) (tMS g W (exS T C wf (.par [j, l, n] es))) := by
  refine ps_imp (ps_par3 c.calm c.nd hi hj hl hij hil hjl hx hy hz ha hw) fun D σ H ⟨m, L, ρ, hr, lr, po⟩ => ⟨m, L, ρ, hr, lr, (PFl.bindX (R := RDs g) lr po).imp fun vs H1 ⟨m1, L1, ds, e1, hr1, rds, po1⟩ => ?_⟩
  split at po1
  · rename_i q
    cases rds with
    | nil => cases q
    | cons r1 r2 =>
      cases r2 with
      | nil => cases q
      | cons r2 r3 =>
        cases r3 with
        | nil => cases q
        | cons r3 r4 =>
          cases r4 with
          | nil => exact ⟨_, _, _, rfl, po1.at hr1 ((((lr.mono e1).set j r1).set l r2).set n r3)⟩
          | cons => cases q
  · exact po1.elim
theorem s_for (c : SxOk g T cf dt C k X W) {iter : Expr} (hi : PI X tg iter (tMI g W (evI T C it))) (hg : PG X tg (tMG g vs (puT T C t))) (hb : PSs X sts (tMS g W (exSs T C wf b1))) (hs : noSet iter = true) : PS X (.For tg iter sts [] pos) (tMS g W (exS T C wf (.fr t it b1))) := by
  refine ps_imp (ps_for c.pw c.cx.calm hi hg hb (folded_none hs)) fun D σ H ⟨m, L, ρ, hr, lr, po⟩ => ⟨m, L, ρ, hr, lr, (PFl.bindX (R := RJ g) lr po).imp fun J H1 ⟨m1, L1, w, e1, hr1, jr, po1⟩ => ?_⟩
  refine ⟨fun i n σ H => ∃ m2 L2 ρ2, Ev m1 H1 m2 H ∧ HRel g m2 L2 H ∧ LRel g m2 H ρ2 σ ∧ PFl g W D m2 H (forL (exSs T C wf b1) (puT T C t) w n i ρ2 L2), ⟨_, m1, L1, ρ, Ev.refl _ _, hr1, lr.mono e1, po1⟩, ?_⟩
  rintro i n σ2 H2 ⟨m2, L2, ρ2, e2, hr2, lr2, po2⟩
  have jr2 := jr.mono e2
  cases q : w.at L2 i with
  | none => cases n <;> (simp only [forL, q] at po2; exact po2.elim)
  | some ox =>
    cases ox with
    | none =>
      refine .inl ⟨jr2.stop m2 L2 H2 i (Ev.refl _ _) hr2 q, ?_⟩
      cases n <;> (simp only [forL, q] at po2; exact po2.at hr2 lr2)
    | some x =>
      cases n with
      | zero => simp only [forL, q] at po2; exact po2.elim
      | succ n =>
        simp only [forL, q] at po2
        obtain ⟨go, yld⟩ := jr2.item m2 L2 H2 i x (Ev.refl _ _) hr2 q
        refine .inr ⟨go, fun σ H => ∃ m2 L2 ρ2, Ev m1 H1 m2 H ∧ HRel g m2 L2 H ∧ LRel g m2 H ρ2 σ ∧ PFl g W D m2 H (forL (exSs T C wf b1) (puT T C t) w n (i + 1) ρ2 L2), fun σ' H' z => ⟨n, Nat.lt_succ_self _, z⟩, fun xv H' y => ?_⟩
        obtain ⟨e3, hr3, rx⟩ := yld xv H' y
        refine ⟨m2, L2, ρ2, x, hr3, lr2.mono e3, rx, (PFl.bind (R := RG g σ2 vs) (PFl.ev e3 po2)).imp fun σ3 H3 ⟨m3, L3, ρ3, e4, hr4, ⟨l1, _⟩, po3⟩ => ⟨m3, L3, ρ3, hr4, l1, ?_⟩⟩
        revert po3
        generalize exSs T C wf b1 ρ3 L3 = r
        intro po3
        cases r with
        | stk => exact po3.elim
        | exc c fs L' => exact po3.elim
        | ok fl L' =>
          intro m4 H4 e5 hr5
          have ev5 := ((e2.trans e3).trans e4).trans e5
          have po4 := PFl.ev e5 po3
          cases fl with
          | nx ρ1 => exact fun σ' l => ⟨m4, L', ρ1, ev5, hr5, l, po4⟩
          | bk ρ1 => exact fun σ' l => po4.at hr5 l
          | ct ρ1 => exact fun σ' l => ⟨m4, L', ρ1, ev5, hr5, l, po4⟩
          | rt d => exact po4 m4 H4 (Ev.refl _ _) hr5
          | xc ρ1 c fs => exact po4 m4 H4 (Ev.refl _ _) hr5
theorem s_while (c : SxOk g T cf dt C k X W) (hc : PT X ea (tMT g W (evB T C a))) (hb : PSs X sts (tMS g W (exSs T C wf b1))) : PS X (.While ea sts [] pos) (tMS g W (exS T C wf (.whl a b1))) := by
  refine ps_imp (ps_while c.pw hc hb) fun D σ H ⟨m, L, ρ, hr, lr, po⟩ => ?_
  refine ⟨fun n σ H => ∃ m2 L2 ρ2, HRel g m2 L2 H ∧ LRel g m2 H ρ2 σ ∧ PFl g W D m2 H (whlL (evB T C a) (exSs T C wf b1) n ρ2 L2), ⟨wf, m, L, ρ, hr, lr, po⟩, ?_⟩
  rintro n σ2 H2 ⟨m2, L2, ρ2, hr2, lr2, po2⟩
  cases n with
  | zero => exact po2.elim
  | succ n =>
    refine ⟨m2, L2, ρ2, hr2, lr2, (PFl.bindX (R := REq) lr2 po2).imp fun v H3 ⟨m3, L3, v', e3, hr3, ev, po3⟩ => ?_⟩
    cases ev
    cases v with
    | false =>
      rw [if_neg Bool.false_ne_true] at po3 ⊢
      exact po3.at hr3 (lr2.mono e3)
    | true =>
      rw [if_pos rfl] at po3 ⊢
      refine ⟨fun σ H => ∃ m2 L2 ρ2, HRel g m2 L2 H ∧ LRel g m2 H ρ2 σ ∧ PFl g W D m2 H (whlL (evB T C a) (exSs T C wf b1) n ρ2 L2), fun σ' H' z => ⟨n, Nat.lt_succ_self _, z⟩, m3, L3, ρ2, hr3, lr2.mono e3, ?_⟩
      revert po3
      generalize exSs T C wf b1 ρ2 L3 = r
      intro po3
      cases r with
      | stk => exact po3.elim
      | exc c fs L' => exact po3.elim
      | ok fl L' =>
        intro m4 H4 e5 hr5
        have po4 := PFl.ev e5 po3
        cases fl with
        | nx ρ1 => exact fun σ' l => ⟨m4, L', ρ1, hr5, l, po4⟩
        | bk ρ1 => exact fun σ' l => po4.at hr5 l
        | ct ρ1 => exact fun σ' l => ⟨m4, L', ρ1, hr5, l, po4⟩
        | rt d => exact po4 m4 H4 (Ev.refl _ _) hr5
        | xc ρ1 c fs => exact po4 m4 H4 (Ev.refl _ _) hr5
end
end Mi
end

section
set_option Elab.async false
set_option linter.all false
set_option maxRecDepth 100000
set_option maxHeartbeats 4000000
/-! Mi, part J: a def by its body; all defs by the depth of calls. -/
namespace Mi
open PySem PySem.Spec PyProof.Rows L2
section
variable {g : G} {T : Tb} {cf : Cf} {dt : Nat → FuncData} {C : Nat → List D → M D} {k wf : Nat}
theorem pfl_of {W : WX} {E : XK} {Q : VK} {m : List Addr} {H : Hp} {r : Res Fl} (hW : ∀ c d σ H', E c d H' → W c d σ H')
    (h : Post g E (RD g) m H (r.quiet.bind fun fl => (match fl with
      | .nx _ => ret .non
      | .rt d => ret d
      | .xc _ c fs => fun L => .exc c fs L
      | _ => stuck)) Q) : PFl g W { nx := fun _ H' => Q .non H', rt := Q } m H r := by
  cases r with
  | stk => exact h.elim
  | exc c fs L => exact h.elim
  | ok fl L =>
    intro m1 H1 e1 hr1
    have h1 := Post.ev e1 h
    cases fl with
    | nx ρ => exact fun σ' l => h1.at hr1 .non
    | bk ρ => exact h1.elim
    | ct ρ => exact h1.elim
    | rt d => exact fun v rd => h1.at hr1 rd
    | xc ρ c fs => exact fun dx σ' l x => hW _ _ _ _ (h1 m1 H1 dx (Ev.refl _ _) hr1 x)
/-- a checker's view of a context -/
structure Cn where
  N : List Str
  sc : Scope
  fn : Bool
structure CnOk (X : Cx) (cn : Cn) : Prop where
  N : X.N = cn.N
  sc : X.env.scope = cn.sc
  fn : cn.fn = true → ∀ x, X.fn x = true
/-- a def's data: where it stands -/
structure FnAt (K : PySem.W.Frag) (g : G) (fd : Fd) (N : List Str) (body : List Stmt) (scope : Scope) (a : Addr) (data : FuncData) : Prop where
  fun_ : ∃ x qual params dvs kws, FunD K x qual params body scope dvs kws a data
  sc : FnScope N (fd.ps.map g.an) scope
  ns : N.length = fd.ns
theorem fn_step {P : Program} {w : World} {K : PySem.W.Frag} {mg : Str → Option Value} {base : Heap} {f : Nat} {fd : Fd} {N : List Str} {body : List Stmt} {scope : Scope} (hK : K = g.K) (lk : Lk g T cf K mg dt)
    (fns : ∀ f fd, T.fn f = some fd → FnOk P w K mg base (L2.CX P w) k (g.gad f) (dt f) (fd.ps.map g.an) (spM g fd.ps.length (C f))) (F : FnAt K g fd N body scope (g.gad f) (dt f))
    (hb : ∀ (X : Cx) (W : WX), SxOk g T cf dt C k X W → CnOk X ⟨N, scope, true⟩ → PSs X body (tMS g W (exSs T C wf fd.body))) :
    FnOk P w K mg base (L2.CX P w) (k + 2) (g.gad f) (dt f) (fd.ps.map g.an) (spM g fd.ps.length fun ds => if ds.length = fd.ps.length then runD T C wf fd ds else stuck) := by
  obtain ⟨x, qual, params, dvs, kws, FD⟩ := F.fun_
  refine FD.ok F.sc (fun vs H Q E ⟨m, L, ds, hr, r, hl, po⟩ => by rw [← r.length, hl, List.length_map]) (fun cdv A outer s H vs Q E hroom ⟨m, L, ds, hr, r, hl, po⟩ => ?_)
  have sx : SxOk g T cf dt C k (cxOf (L2.CX P w) P w K mg base N qual scope (g.gad f) cdv A outer s H E) (fun c d _ H' => E c d H') :=
    ⟨⟨hK, lk, fns, hroom, rfl, takes_of rfl rfl rfl rfl, F.sc.nd⟩, passes_of rfl, by
      show (if scope.kind.isAnnotationScope then ScopeKind.function else scope.kind) = _
      rw [F.sc.kind]
      rfl⟩
  refine ⟨_, hb _ _ sx ⟨rfl, rfl, fun _ _ => rfl⟩, m, L, ds.map some ++ List.replicate (fd.ns - ds.length) none, hr, ?_, ?_⟩
  · have := LRel.start (N := N) r
    rw [F.ns] at this
    exact this
  · have po : Post g E (RD g) m H ((if ds.length = fd.ps.length then runD T C wf fd ds else stuck) L) Q := po
    rw [if_pos hl] at po
    exact pfl_of (fun _ _ _ _ z => z) po
/-- ALL DEFS, n calls deep -/
theorem all_fns {P : Program} {w : World} {K : PySem.W.Frag} {mg : Str → Option Value} {base : Heap} (hK : K = g.K) (lk : Lk g T cf K mg dt)
    (hd : ∀ f fd, T.fn f = some fd → ∃ N body scope, FnAt K g fd N body scope (g.gad f) (dt f) ∧ ∀ (C : Nat → List D → M D) (k : Nat) (X : Cx) (W : WX), SxOk g T cf dt C k X W → CnOk X ⟨N, scope, true⟩ → PSs X body (tMS g W (exSs T C wf fd.body))) :
    ∀ n f fd, T.fn f = some fd → FnOk P w K mg base (L2.CX P w) (2 * n) (g.gad f) (dt f) (fd.ps.map g.an) (spM g fd.ps.length (callN T wf n f))
  | 0, f, fd, e => ⟨fun vs H Q E ⟨m, L, ds, hr, r, hl, po⟩ => by rw [← r.length, hl, List.length_map], fun A outer s H args us vs Q E _ _ _ _ ⟨m, L, ds, hr, r, hl, po⟩ => po.elim⟩
  | n + 1, f, fd, e => by
    obtain ⟨N, body, scope, F, hb⟩ := hd f fd e
    have z := fn_step (P := P) (w := w) (base := base) (wf := wf) hK lk (all_fns hK lk hd n) F (hb (callN T wf n) (2 * n))
    refine z.imp fun vs H Q E ⟨m, L, ds, hr, r, hl, po⟩ => ⟨m, L, ds, hr, r, hl, ?_⟩
    unfold callN at po
    rw [e] at po
    exact po
/-- the law's def: what walk_ofE asks of its promise -/
def spL (g : G) (T : Tb) (wf n f : Nat) : Sp := spM g 1 (callN T wf n f)
theorem law_says {wf n f : Nat} {H : Hp} {a : Addr} {ns : List Int} {L' : MH} (hO : Only H) (hS : SqL g.K H a (ns.map V.int)) (h : callN T wf n f [.fzl (ns.map D.int)] [] = .ok (.bl true) L') :
    spL g T wf n f [.ref a] H (fun v _ => v = .bl true) fun _ _ _ => False := by
  have fz : FzL g.K H a (ns.map V.int) := by
    rcases hS with (h | ⟨o, h⟩) | h
    · rcases hO a with z | ⟨o, xs, z⟩
      · rw [z] at h; cases h
      · rw [z] at h; cases h
    · exact .inl ⟨o, h⟩
    · exact .inr h
  refine ⟨[], [], _, ⟨rfl, List.nodup_nil, fun a h => (List.not_mem_nil h).elim, fun n o a h => by simp at h⟩, .cons (.fzl fz RelDs.ints) .nil, rfl, ?_⟩
  rw [h]
  intro m1 H1 v e hr rd
  cases rd
  rfl
end
end Mi
end

section
set_option Elab.async false
set_option linter.all false
set_option maxRecDepth 100000
set_option maxHeartbeats 8000000
/-! Mi, part K: the checker. -/
namespace Mi
open PySem PySem.Spec PyProof.Rows L2
def visB (cn : Cn) (x : Str) : Bool := match cn.sc.names.lookup x with
  | some .local => true
  | some .cell => true
  | some .free => true
  | _ => false
def locB (cn : Cn) (x : Str) : Bool := match cn.sc.names.lookup x with
  | some .local => true
  | some .cell => cn.fn
  | _ => false
def isLoc (cn : Cn) (x : Str) : Bool := match cn.sc.names.lookup x with
  | some .local => true
  | _ => false
def glB (cn : Cn) (x : Str) : Bool := match cn.sc.names.lookup x with
  | some .globalImplicit => true
  | _ => false
def ndB (x : Str) : Bool := !(x == ("__debug__" : Str))
def ncB (x : Str) : Bool := !(x == ("__classdict__" : Str))
def eqs (x y : Str) : Bool := decide (x = y)
/-- no stores from the right -/
def noLoc (cn : Cn) : Expr → Bool
  | .Name x _ => !isLoc cn x
  | _ => true
def noSwap (cn : Cn) (tg e : Expr) : Bool := match tg, e with
  | .Tuple ts _ _, .Tuple vs _ _ => !(ts.length == 2 || ts.length == 3) || vs.length != ts.length || ts.any (noLoc cn)
  | .List _ _, .Tuple _ _ _ => false
  | _, _ => true
/-- stores from the right -/
def swap2 (x y : Str) (px py : Pos) (vs : List Expr) : Bool := decide (px.line = py.line) && !(x == y) && !(vs.any fun | .Starred .. => true | _ => false) && !(vs.all (foldedForSure 8)) && !(vs.all (constantsAlone 8))
def swap3 (x y z : Str) (px py pz : Pos) (vs : List Expr) : Bool := decide (px.line = py.line) && decide (px.line = pz.line) && !(x == y) && !(x == z) && !(y == z) && !(vs.any fun | .Starred .. => true | _ => false) && !(vs.all (foldedForSure 8)) && !(vs.all (constantsAlone 8))
def tyB (cf : Cf) (cn : Cn) : Ty → Expr → Bool
  | .bt n, .Name x _ => eqs x (Str.ofString n) && tyNames.contains n && glB cn x && cf.blt.contains x
  | .own c, .Name x _ => eqs x (cf.nm.cn c) && cf.cls.contains c && glB cn x && ndB x
  | _, _ => false
def tysB (cf : Cf) (cn : Cn) : List Ty → List Expr → Bool
  | [], [] => true
  | t :: ts, e :: es => noStar e && tyB cf cn t e && tysB cf cn ts es
  | _, _ => false
def isTupE : Expr → Bool
  | .Tuple .. => true
  | _ => false
def ownP (N : List Str) (own : List Nat) : List (Str × Nat) := own.map fun v => (N.getD v Str.empty, v)
variable (cf : Cf) (T : Tb)
mutual
/-- tm: as a test -/
def chkE : Ex → Cn → Bool → Expr → BoolOp → List Expr → Bool
  | .var i, cn, tm, x, _, r => (match x, r with
    | .Name y _, [] => decide (cn.N[i]? = some y) && visB cn y && ndB y && ncB y
    | _, _ => false)
  | .cint i, cn, tm, x, _, r => (match x, r with
    | .Constant (.int j) _ _, [] => decide (i = j)
    | _, _ => false)
  | .cstr s, cn, tm, x, _, r => (match x, r with
    | .Constant (.str t) _ _, [] => eqs s t
    | _, _ => false)
  | .cbl a, cn, tm, x, _, r => (match x, r with
    | .Constant (.bool b) _ _, [] => decide (a = b)
    | _, _ => false)
  | .cnon, cn, tm, x, _, r => (match x, r with
    | .Constant .none _ _, [] => true
    | _, _ => false)
  | .gcon k, cn, tm, x, _, r => (match x, r with
    | .Name y _, [] => eqs y (cf.nm.kn k) && glB cn y && ndB y
    | _, _ => false)
  | .bop o a b, cn, tm, x, _, r => (match x, r with
    | .BinOp l op r _, [] => decide (op = opOf o) && chkE a cn false l .And [] && chkE b cn false r .And []
    | _, _ => false)
  | .neg a, cn, tm, x, _, r => (match x, r with
    | .UnaryOp .USub y _, [] => chkE a cn false y .And []
    | _, _ => false)
  | .cmp o a b, cn, tm, x, _, r => (match x, r with
    | .Compare l [p] [r] _, [] => decide (o = p) && noSet r && chkE a cn false l .And [] && chkE b cn false r .And []
    | _, _ => false)
  | .isn a, cn, tm, x, _, r => (match x, r with
    | .Compare l [.Is] [.Constant .none _ _] _, [] => chkE a cn false l .And []
    | _, _ => false)
  | .nisn a, cn, tm, x, _, r => (match x, r with
    | .Compare l [.IsNot] [.Constant .none _ _] _, [] => chkE a cn false l .And []
    | _, _ => false)
  | .chain o p a b c, cn, tm, x, _, r => (match x, r with
    | .Compare l [o', p'] [r, q] _, [] => decide (o = o') && decide (p = p') && noSet q && chkE a cn false l .And [] && chkE b cn false r .And [] && chkE c cn false q .And []
    | _, _ => false)
  | .and a b, cn, tm, x, op, r => (match r with
    | [] => (match x with
      | .BoolOp .And (y :: z :: rest) _ => chkE a cn tm y .And [] && chkE b cn tm z .And rest
      | _ => false)
    | z :: rest => decide (op = .And) && chkE a cn tm x .And [] && chkE b cn tm z .And rest)
  | .or a b, cn, tm, x, op, r => (match r with
    | [] => (match x with
      | .BoolOp .Or (y :: z :: rest) _ => chkE a cn tm y .And [] && chkE b cn tm z .Or rest
      | _ => false)
    | z :: rest => decide (op = .Or) && chkE a cn tm x .And [] && chkE b cn tm z .Or rest)
  | .not a, cn, tm, x, _, r => (match x, r with
    | .UnaryOp .Not y _, [] => chkE a cn tm y .And []
    | _, _ => false)
  | .ife c a b, cn, tm, x, _, r => (match x, r with
    | .IfExp t y z _, [] => !tm && chkE c cn true t .And [] && chkE a cn false y .And [] && chkE b cn false z .And []
    | _, _ => false)
  | .tup es, cn, tm, x, _, r => (match x, r with
    | .Tuple xs _ _, [] => chkA es cn xs
    | _, _ => false)
  | .lst es, cn, tm, x, _, r => (match x, r with
    | .List xs _, [] => chkA es cn xs
    | _, _ => false)
  | .sl a lo hi, cn, tm, x, _, r => (match x, r with
    | .Subscript y (.Slice l h none _) _, [] => chkE a cn false y .And [] && chkO lo cn l && chkO hi cn h
    | _, _ => false)
  | .ix a i, cn, tm, x, _, r => (match x, r with
    | .Subscript y z _, [] => noSlice z && chkE a cn false y .And [] && chkE i cn false z .And []
    | _, _ => false)
  | .call f es ks kes, cn, tm, x, _, r => (match x, r with
    | .Call (.Name y _) xs kws _, [] => eqs y (cf.nm.fn f) && (T.fn f).isSome && cf.glob.contains f && glB cn y && ndB y && decide ks.Nodup && decide (kwNames kws = some (ks.map cf.an)) && chkA es cn xs && chkK kes cn kws
    | _, _ => false)
  | .make f es ks kes, cn, tm, x, _, r => (match x, r with
    | .Call (.Name y _) xs kws _, [] => eqs y (cf.nm.cn f) && (T.init f).isSome && cf.cls.contains f && glB cn y && ndB y && decide ks.Nodup && decide (kwNames kws = some (ks.map cf.an)) && chkA es cn xs && chkK kes cn kws
    | _, _ => false)
  | .meth o n es ks kes, cn, tm, x, _, r => (match x, r with
    | .Call (.Attribute eo a apos) xs kws pos, [] => eqs a (cf.an n) && noCall0 eo && fewB xs kws apos pos && decide ks.Nodup && decide (kwNames kws = some (ks.map cf.an)) && chkE o cn false eo .And [] && chkA es cn xs && chkK kes cn kws
    | _, _ => false)
  | .attr o n, cn, tm, x, _, r => (match x, r with
    | .Attribute eo a _, [] => eqs a (cf.an n) && noCall0 eo && chkE o cn false eo .And []
    | _, _ => false)
  | .bi b es, cn, tm, x, _, r => (match x, r with
    | .Call (.Name y _) (ea :: xs) [] _, [] => eqs y (biN b) && glB cn y && cf.blt.contains y && chkA es cn (ea :: xs)
    | _, _ => false)
  | .bm b o es, cn, tm, x, _, r => (match x, r with
    | .Call (.Attribute eo a apos) (ea :: xs) [] pos, [] => eqs a (bmN b) && noCall0 eo && fewB (ea :: xs) [] apos pos && chkE o cn false eo .And [] && chkA es cn (ea :: xs)
    | _, _ => false)
  | .isin a ts, cn, tm, x, _, r => (match x, r with
    | .Call (.Name y _) [ea, et] [] _, [] => eqs y "isinstance" && glB cn y && cf.blt.contains y && noStar ea && chkE a cn false ea .And [] && (match et with
      | .Tuple ets _ _ => !ts.isEmpty && decide (ts.length ≤ 30) && tysB cf cn ts ets
      | et => (match ts with
        | [t] => noStar et && tyB cf cn t et
        | _ => false))
    | _, _ => false)
  | .fstr es, cn, tm, x, _, r => (match x, r with
    | .JoinedStr (x1 :: x2 :: rest) _, [] => chkF es cn (x1 :: x2 :: rest)
    | _, _ => false)
  | .lc e t it oi own, cn, tm, x, _, r => (match x, r with
    | .ListComp elt [⟨tg, iter, ifs, 0⟩] scope _, [] => noSet iter && chkI it cn tg iter && blkC cn.N cn.sc scope (ownP cn.N own) && chkG t ⟨cn.N, relS scope cn.sc, false⟩ own tg && chkE e ⟨cn.N, relS scope cn.sc, false⟩ false elt .And [] && chkQ oi ⟨cn.N, relS scope cn.sc, false⟩ ifs
    | _, _ => false)
  | .bad, _, _, _, _, _ => true
def chkA : Exs → Cn → List Expr → Bool
  | .nil, _, xs => xs.isEmpty
  | .cons e r, cn, xs => (match xs with
    | x :: xs => noStar x && chkE e cn false x .And [] && chkA r cn xs
    | [] => false)
def chkK : Exs → Cn → List Keyword → Bool
  | .nil, _, xs => xs.isEmpty
  | .cons e r, cn, xs => (match xs with
    | ⟨_, x, _⟩ :: xs => chkE e cn false x .And [] && chkK r cn xs
    | [] => false)
def chkF : Exs → Cn → List Expr → Bool
  | .nil, _, xs => xs.isEmpty
  | .cons e r, cn, xs => (match xs with
    | .Constant (.str t) _ _ :: xs => (match e with
      | .cstr s => eqs s t && sizeOkB s.length && chkF r cn xs
      | _ => false)
    | .FormattedValue x i none _ :: xs => decide (i = -1) && chkE e cn false x .And [] && chkF r cn xs
    | _ => false)
def chkO : Ox → Cn → Option Expr → Bool
  | .none, _, x => x.isNone
  | .some e, cn, x => (match x with
    | some x => chkE e cn false x .And []
    | none => false)
def chkQ : Ox → Cn → List Expr → Bool
  | .none, _, xs => xs.isEmpty
  | .some e, cn, xs => (match xs with
    | [x] => chkE e cn true x .And []
    | _ => false)
def chkI : It → Cn → Expr → Expr → Bool
  | .seq a, cn, _, x => chkE a cn false x .And []
  | .rng1 a, cn, _, x => (match x with
    | .Call (.Name f _) [x] [] _ => eqs f "range" && glB cn f && cf.blt.contains f && noStar x && chkE a cn false x .And []
    | _ => false)
  | .rng2 a b, cn, _, x => (match x with
    | .Call (.Name f _) [x, y] [] _ => eqs f "range" && glB cn f && cf.blt.contains f && noStar x && noStar y && chkE a cn false x .And [] && chkE b cn false y .And []
    | _ => false)
  | .enum a, cn, t, x => isTupE t && (match x with
    | .Call (.Name f _) [x] [] _ => eqs f "enumerate" && glB cn f && cf.blt.contains f && noStar x && chkE a cn false x .And []
    | _ => false)
  | .zip a b, cn, t, x => isTupE t && (match x with
    | .Call (.Name f _) [x, y] [] _ => eqs f "zip" && glB cn f && cf.blt.contains f && noStar x && noStar y && chkE a cn false x .And [] && chkE b cn false y .And []
    | _ => false)
  | .bad, _, _, _ => true
def chkG : Tg → Cn → List Nat → Expr → Bool
  | .var i, cn, vs, x => (match x with
    | .Name x _ => decide (cn.N[i]? = some x) && locB cn x && vs.contains i
    | _ => false)
  | .tup ts, cn, vs, x => (match x with
    | .Tuple es _ _ => decide (es.length = tgLen ts) && es.all plainTg && chkGs ts cn vs es
    | _ => false)
  | .star ts, cn, vs, x => (match x with
    | .Tuple es _ _ => (match es.getLast? with
      | some (.Starred te _) => decide (es.dropLast.length + 1 = tgLen ts) && es.dropLast.all plainTg && plainTg te && chkGs ts cn vs (es.dropLast ++ [te])
      | _ => false)
    | _ => false)
  | .sub o i, cn, _, x => (match x with
    | .Subscript a b _ => noSlice b && chkE o cn false a .And [] && chkE i cn false b .And []
    | _ => false)
  | .attr o n, cn, _, x => (match x with
    | .Attribute eo a _ => eqs a (cf.an n) && chkE o cn false eo .And []
    | _ => false)
  | .bad, _, _, _ => true
def chkGs : Tgs → Cn → List Nat → List Expr → Bool
  | .nil, _, _, xs => xs.isEmpty
  | .cons t r, cn, vs, xs => (match xs with
    | x :: xs => plainTg x && chkG t cn vs x && chkGs r cn vs xs
    | [] => false)
end
/-- the slots -/
def allS (cn : Cn) : List Nat := List.range cn.N.length
def asgB (t : Tg) (e : Ex) (cn : Cn) (tg x : Expr) (pos : Pos) : Bool := match e, x with
  | .lc e' t' it oi own, .ListComp elt gens scope lpos => (match tg with
    | .Name y py => (match t with
      | .var j => if isLoc cn y && decide (py.line = lpos.line) && !(scope.names.any fun (n, k) => n == y && (k == .local || k == .cell)) then decide (cn.N[j]? = some y) && chkE cf T e cn false x .And [] else false
      | _ => false)
    | _ => plainTg tg && chkG cf T t cn (allS cn) tg && chkE cf T e cn false x .And [])
  | e, x => noComp x && noSwap cn tg x && plainTg tg && chkG cf T t cn (allS cn) tg && chkE cf T e cn false x .And []
mutual
def chkS : Sm → Cn → Stmt → Bool
  | .asg t e, cn, s => (match s with
    | .Assign [tg] x pos => asgB cf T t e cn tg x pos
    | _ => false)
  | .par is es, cn, s => (match s with
    | .Assign [.Tuple [.Name x px, .Name y py] _ _] (.Tuple [a, b] _ _) _ => (match is with
      | [i, j] => decide (cn.N[i]? = some x) && decide (cn.N[j]? = some y) && decide (i ≠ j) && isLoc cn x && isLoc cn y && swap2 x y px py [a, b] && chkA cf T es cn [a, b]
      | _ => false)
    | .Assign [.Tuple [.Name x px, .Name y py, .Name z pz] _ _] (.Tuple [a, b, c] _ _) _ => (match is with
      | [i, j, l] => decide (cn.N[i]? = some x) && decide (cn.N[j]? = some y) && decide (cn.N[l]? = some z) && decide (i ≠ j) && decide (i ≠ l) && decide (j ≠ l) && isLoc cn x && isLoc cn y && isLoc cn z && swap3 x y z px py pz [a, b, c] && chkA cf T es cn [a, b, c]
      | _ => false)
    | _ => false)
  | .aug i o e, cn, s => (match s with
    | .AugAssign (.Name x _) op y _ => decide (op = opOf o) && (decide (o = .add) || decide (o = .sub)) && decide (cn.N[i]? = some x) && locB cn x && chkE cf T e cn false y .And []
    | _ => false)
  | .expr e, cn, s => (match s with
    | .Expr x _ => noComp x && chkE cf T e cn false x .And []
    | _ => false)
  | .ret e, cn, s => (match s with
    | .Return (some x) _ => chkE cf T e cn false x .And []
    | _ => false)
  | .retn, _, s => (match s with
    | .Return none _ => true
    | _ => false)
  | .doc, _, s => (match s with
    | .Expr (.Constant (.str _) _ _) _ => true
    | _ => false)
  | .ife c a b, cn, s => (match s with
    | .If x y z _ => chkE cf T c cn true x .And [] && chkSs a cn y && chkSs b cn z
    | _ => false)
  | .fr t it b, cn, s => (match s with
    | .For tg iter body [] _ => noSet iter && chkI cf T it cn tg iter && chkG cf T t cn (allS cn) tg && chkSs b cn body
    | _ => false)
  | .whl c b, cn, s => (match s with
    | .While x body [] _ => chkE cf T c cn true x .And [] && chkSs b cn body
    | _ => false)
  | .pass, _, s => (match s with
    | .Pass _ => true
    | _ => false)
  | .brk, _, s => (match s with
    | .Break _ => true
    | _ => false)
  | .cont, _, s => (match s with
    | .Continue _ => true
    | _ => false)
  | .bad, _, _ => true
def chkSs : Sms → Cn → List Stmt → Bool
  | .nil, _, xs => xs.isEmpty
  | .cons s r, cn, xs => (match xs with
    | x :: xs => chkS s cn x && chkSs r cn xs
    | [] => false)
end
end Mi
end

section
set_option Elab.async false
set_option linter.all false
set_option maxRecDepth 100000
set_option maxHeartbeats 8000000
/-! Mi, part L: what the checker says of expressions is so. -/
namespace Mi
open PySem PySem.Spec PyProof.Rows L2
section
variable {g : G} {T : Tb} {cf : Cf} {dt : Nat → FuncData} {C : Nat → List D → M D} {k : Nat} {X : Cx} {W : WX} {cn : Cn}
theorem gl_of {x : Str} (n : CnOk X cn) (h : glB cn x = true) : Gl X x := by
  unfold glB at h
  show X.env.scope.names.lookup x = _
  rw [n.sc]
  split at h
  · assumption
  · cases h
theorem vis_of {x : Str} (n : CnOk X cn) (h : visB cn x = true) : Vis X.env.scope x := by
  unfold visB at h
  unfold Vis
  rw [n.sc]
  split at h
  · exact .inl (by assumption)
  · exact .inr (.inl (by assumption))
  · exact .inr (.inr (by assumption))
  · cases h
theorem loc_of {x : Str} (n : CnOk X cn) (h : locB cn x = true) : L2.Loc X.env.scope x ∧ (X.fn x = true ∨ X.env.scope.names.lookup x = some .local) := by
  unfold locB at h
  unfold L2.Loc
  rw [n.sc]
  split at h
  · exact ⟨.inl (by assumption), .inr (by assumption)⟩
  · exact ⟨.inr (by assumption), .inl (n.fn h x)⟩
  · cases h
theorem isLoc_of {x : Str} (n : CnOk X cn) (h : isLoc cn x = true) : X.env.scope.names.lookup x = some .local := by
  unfold isLoc at h
  rw [n.sc]
  split at h
  · assumption
  · cases h
theorem nd_of {x : Str} (h : ndB x = true) : (x == ("__debug__" : Str)) = false := by
  unfold ndB at h
  simpa using h
theorem nc_of {x : Str} (h : ncB x = true) : (x == ("__classdict__" : Str)) = false := by
  unfold ncB at h
  simpa using h
theorem eqs_of {x y : Str} (h : eqs x y = true) : x = y := of_decide_eq_true h
theorem N_of {i : Nat} {x : Str} (n : CnOk X cn) (h : cn.N[i]? = some x) : X.N[i]? = some x := by rw [n.N]; exact h
theorem pe_bool1 {op : BoolOp} {x : Expr} {t : TE} {pos : Pos} (h : PE X x t) : PE X (.BoolOp op [x] pos) t := ⟨fun pins s σ H Q I q => h.run pins s σ H Q I q⟩
/-- what is said of an expression, of a chain of and/or -/
def OkE (g : G) (T : Tb) (C : Nat → List D → M D) (X : Cx) (W : WX) (e : Ex) (tm : Bool) (x : Expr) (op : BoolOp) (r : List Expr) : Prop := ∀ pos : Pos, match tm, r with
  | false, [] => PE X x (tM g W (evE T C e))
  | false, y :: ys => PE X (.BoolOp op (x :: y :: ys) pos) (tM g W (evE T C e))
  | true, [] => PT X x (tMT g W (evB T C e))
  | true, y :: ys => PW X (.BoolOp op (x :: y :: ys) pos) (tMT g W (evB T C e))
theorem OkE.pe {e : Ex} {x : Expr} {op : BoolOp} (h : OkE g T C X W e false x op []) : PE X x (tM g W (evE T C e)) := h ⟨0, 0, 0, 0⟩
theorem OkE.pt {e : Ex} {x : Expr} {op : BoolOp} (h : OkE g T C X W e true x op []) : PT X x (tMT g W (evB T C e)) := h ⟨0, 0, 0, 0⟩
theorem OkE.tail {e : Ex} {x : Expr} {op : BoolOp} {r : List Expr} {pos : Pos} (h : OkE g T C X W e false x op r) : PE X (.BoolOp op (x :: r) pos) (tM g W (evE T C e)) := by
  cases r with
  | nil => exact pe_bool1 h.pe
  | cons y ys => exact h pos
theorem OkE.tailA {e : Ex} {x : Expr} {r : List Expr} {pos : Pos} (h : OkE g T C X W e true x .And r) : PW X (.BoolOp .And (x :: r) pos) (tMT g W (evB T C e)) := by
  cases r with
  | nil => exact pw_and1 h.pt
  | cons y ys => exact h pos
theorem OkE.tailO {e : Ex} {x : Expr} {r : List Expr} {pos : Pos} (h : OkE g T C X W e true x .Or r) : PW X (.BoolOp .Or (x :: r) pos) (tMT g W (evB T C e)) := by
  cases r with
  | nil => exact pw_or1 h.pt
  | cons y ys => exact h pos
theorem okV {e : Ex} {tm : Bool} {x : Expr} {op : BoolOp} (c : CxOk g T cf dt C k X W) (hp : plainTest x = true) (h : PE X x (tM g W (evE T C e))) : OkE g T C X W e tm x op [] := by
  intro pos
  cases tm with
  | false => exact h
  | true => exact t_plain c hp h
theorem okT {e : Ex} {tm : Bool} {x : Expr} {op : BoolOp} (h : PE X x (tM g W (evE T C e))) (h' : PT X x (tMT g W (evB T C e))) : OkE g T C X W e tm x op [] := by
  intro pos
  cases tm with
  | false => exact h
  | true => exact h'
theorem cmp_eq {o p : CmpOp} (h : decide (o = p) = true) : o = p := of_decide_eq_true h
theorem isTup_of {x : Expr} (h : isTupE x = true) : ∃ es j p, x = .Tuple es j p := by
  cases x <;> first | exact ⟨_, _, _, rfl⟩ | cases h
theorem tyB_ok (c : CxOk g T cf dt C k X W) (n : CnOk X cn) : ∀ {t : Ty} {x : Expr}, tyB cf cn t x = true → PE X x (tC (tyV' g t))
  | .bt nm, .Name y p, h => by
    simp only [tyB, Bool.and_eq_true] at h
    obtain ⟨⟨⟨h1, h2⟩, h3⟩, h4⟩ := h
    cases eqs_of h1
    exact ty_bt c h2 (gl_of n h3) h4
  | .own cc, .Name y p, h => by
    simp only [tyB, Bool.and_eq_true] at h
    obtain ⟨⟨⟨h1, h2⟩, h3⟩, h4⟩ := h
    cases eqs_of h1
    exact ty_own c h2 (gl_of n h3) (nd_of h4)
theorem tysB_ok (c : CxOk g T cf dt C k X W) (n : CnOk X cn) : ∀ {ts : List Ty} {xs : List Expr}, tysB cf cn ts xs = true → PA X xs (tys (g := g) ts)
  | [], [], _ => tys_nil
  | t :: ts, x :: xs, h => by
    simp only [tysB, Bool.and_eq_true] at h
    exact tys_cons h.1.1 (tyB_ok c n h.1.2) (tysB_ok c n h.2)
theorem chkA_nil {es : Exs} (h : chkA cf T es cn [] = true) : es = .nil := by
  cases es with
  | nil => rfl
  | cons e r => simp only [chkA] at h; cases h
theorem chkK_nil {es : Exs} {ks : List Nat} (h : chkK cf T es cn [] = true) (hk : kwNames [] = some (ks.map cf.an)) : es = .nil ∧ ks = [] := by
  refine ⟨?_, ?_⟩
  · cases es with
    | nil => rfl
    | cons e r => simp only [chkK] at h; cases h
  · simp only [kwNames, Option.some.injEq] at hk
    cases ks with
    | nil => rfl
    | cons a b => cases hk
theorem chkA_star : ∀ {es : Exs} {xs : List Expr}, chkA cf T es cn xs = true → xs.all noStar = true
  | .nil, [], _ => rfl
  | .nil, _ :: _, h => by simp only [chkA] at h; cases h
  | .cons e r, [], h => by simp only [chkA] at h; cases h
  | .cons e r, x :: xs, h => by
    simp only [chkA, Bool.and_eq_true] at h
    rw [List.all_cons, h.1.1, chkA_star h.2]
    rfl
theorem ownP_snd {N : List Str} : ∀ own : List Nat, (ownP N own).map (·.2) = own
  | [] => rfl
  | v :: vs => congrArg (v :: ·) (ownP_snd vs)
theorem relS_env {scope : Scope} {cl : List (Str × Addr)} {C' : Addr} {env : Env} {sc : Scope} (h : env.scope = sc) : (compEnvC scope cl C' env).scope = relS scope sc := by
  subst h
  rfl
end
section
variable {g : G} {T : Tb} {cf : Cf} {dt : Nat → FuncData} {C : Nat → List D → M D} {k : Nat}
mutual
theorem okE : ∀ (e : Ex) (cn : Cn) (tm : Bool) (x : Expr) (op : BoolOp) (r : List Expr) (X : Cx) (W : WX), CxOk g T cf dt C k X W → CnOk X cn → chkE cf T e cn tm x op r = true → OkE g T C X W e tm x op r
  | .var i, cn, tm, x, op, r, X, W, c, n, h => by
    simp only [chkE] at h
    split at h
    · simp only [Bool.and_eq_true, decide_eq_true_eq] at h
      obtain ⟨⟨⟨h1, h2⟩, h3⟩, h4⟩ := h
      exact okV c rfl (m_var (N_of n h1) (vis_of n h2) (nd_of h3) (nc_of h4))
    · cases h
  | .cint i, cn, tm, x, op, r, X, W, c, n, h => by
    simp only [chkE] at h
    split at h
    · cases of_decide_eq_true h
      exact okV c rfl m_cint
    · cases h
  | .cstr i, cn, tm, x, op, r, X, W, c, n, h => by
    simp only [chkE] at h
    split at h
    · cases eqs_of h
      exact okV c rfl m_cstr
    · cases h
  | .cbl i, cn, tm, x, op, r, X, W, c, n, h => by
    simp only [chkE] at h
    split at h
    · cases of_decide_eq_true h
      exact okV c rfl m_cbl
    · cases h
  | .cnon, cn, tm, x, op, r, X, W, c, n, h => by
    simp only [chkE] at h
    split at h
    · exact okV c rfl m_cnon
    · cases h
  | .gcon i, cn, tm, x, op, r, X, W, c, n, h => by
    simp only [chkE] at h
    split at h
    · simp only [Bool.and_eq_true] at h
      obtain ⟨⟨h1, h2⟩, h3⟩ := h
      cases eqs_of h1
      exact okV c rfl (m_gcon c (gl_of n h2) (nd_of h3))
    · cases h
  | .bop o a b, cn, tm, x, op, r, X, W, c, n, h => by
    simp only [chkE] at h
    split at h
    · simp only [Bool.and_eq_true, decide_eq_true_eq] at h
      obtain ⟨⟨h1, h2⟩, h3⟩ := h
      subst h1
      exact okV c rfl (m_bop c (okE a _ _ _ _ _ X W c n h2).pe (okE b _ _ _ _ _ X W c n h3).pe)
    · cases h
  | .neg a, cn, tm, x, op, r, X, W, c, n, h => by
    simp only [chkE] at h
    split at h
    · exact okV c rfl (m_neg (okE a _ _ _ _ _ X W c n h).pe)
    · cases h
  | .cmp o a b, cn, tm, x, op, r, X, W, c, n, h => by
    simp only [chkE] at h
    split at h
    · simp only [Bool.and_eq_true, decide_eq_true_eq] at h
      obtain ⟨⟨⟨h1, h2⟩, h3⟩, h4⟩ := h
      subst h1
      have ha := (okE a _ _ _ _ _ X W c n h3).pe
      have hb := (okE b _ _ _ _ _ X W c n h4).pe
      exact okT (m_cmp c h2 ha hb) (t_cmp c h2 ha hb)
    · cases h
  | .isn a, cn, tm, x, op, r, X, W, c, n, h => by
    simp only [chkE] at h
    split at h
    · have ha := (okE a _ _ _ _ _ X W c n h).pe
      exact okT (m_isn ha) (t_isn ha)
    · cases h
  | .nisn a, cn, tm, x, op, r, X, W, c, n, h => by
    simp only [chkE] at h
    split at h
    · have ha := (okE a _ _ _ _ _ X W c n h).pe
      exact okT (m_nisn ha) (t_nisn ha)
    · cases h
  | .chain o p a b c', cn, tm, x, op, r, X, W, c, n, h => by
    simp only [chkE] at h
    split at h
    · simp only [Bool.and_eq_true, decide_eq_true_eq] at h
      obtain ⟨⟨⟨⟨⟨h1, h1'⟩, h2⟩, h3⟩, h4⟩, h5⟩ := h
      subst h1 h1'
      have ha := (okE a _ _ _ _ _ X W c n h3).pe
      have hb := (okE b _ _ _ _ _ X W c n h4).pe
      have hc := (okE c' _ _ _ _ _ X W c n h5).pe
      exact okT (m_chain c h2 ha hb hc) (t_chain c h2 ha hb hc)
    · cases h
  | .and a b, cn, tm, x, op, r, X, W, c, n, h => by
    simp only [chkE] at h
    split at h
    · split at h
      · simp only [Bool.and_eq_true] at h
        have ha := okE a _ _ _ _ _ X W c n h.1
        have hb := okE b _ _ _ _ _ X W c n h.2
        cases tm with
        | false => exact fun _ => m_and c ha.pe hb.tail
        | true => exact fun _ => (w_and ha.pt hb.tailA).pt
      · cases h
    · simp only [Bool.and_eq_true, decide_eq_true_eq] at h
      obtain ⟨⟨h1, h2⟩, h3⟩ := h
      subst h1
      have ha := okE a _ _ _ _ _ X W c n h2
      have hb := okE b _ _ _ _ _ X W c n h3
      cases tm with
      | false => exact fun _ => m_and c ha.pe hb.tail
      | true => exact fun _ => w_and ha.pt hb.tailA
  | .or a b, cn, tm, x, op, r, X, W, c, n, h => by
    simp only [chkE] at h
    split at h
    · split at h
      · simp only [Bool.and_eq_true] at h
        have ha := okE a _ _ _ _ _ X W c n h.1
        have hb := okE b _ _ _ _ _ X W c n h.2
        cases tm with
        | false => exact fun _ => m_or c ha.pe hb.tail
        | true => exact fun _ => (w_or ha.pt hb.tailO).pt
      · cases h
    · simp only [Bool.and_eq_true, decide_eq_true_eq] at h
      obtain ⟨⟨h1, h2⟩, h3⟩ := h
      subst h1
      have ha := okE a _ _ _ _ _ X W c n h2
      have hb := okE b _ _ _ _ _ X W c n h3
      cases tm with
      | false => exact fun _ => m_or c ha.pe hb.tail
      | true => exact fun _ => w_or ha.pt hb.tailO
  | .not a, cn, tm, x, op, r, X, W, c, n, h => by
    simp only [chkE] at h
    split at h
    · have ha := okE a _ _ _ _ _ X W c n h
      cases tm with
      | false => exact fun _ => m_not c ha.pe
      | true => exact fun _ => t_not ha.pt
    · cases h
  | .ife c' a b, cn, tm, x, op, r, X, W, c, n, h => by
    simp only [chkE] at h
    split at h
    · simp only [Bool.and_eq_true] at h
      obtain ⟨⟨⟨h0, h1⟩, h2⟩, h3⟩ := h
      cases tm with
      | true => cases h0
      | false => exact fun _ => m_ife (okE c' _ _ _ _ _ X W c n h1).pt (okE a _ _ _ _ _ X W c n h2).pe (okE b _ _ _ _ _ X W c n h3).pe
    · cases h
  | .tup es, cn, tm, x, op, r, X, W, c, n, h => by
    simp only [chkE] at h
    split at h
    · exact okV c rfl (m_tup (okA es _ _ X W c n h))
    · cases h
  | .lst es, cn, tm, x, op, r, X, W, c, n, h => by
    simp only [chkE] at h
    split at h
    · exact okV c rfl (m_lst (okA es _ _ X W c n h))
    · cases h
  | .sl a lo hi, cn, tm, x, op, r, X, W, c, n, h => by
    simp only [chkE] at h
    split at h
    · simp only [Bool.and_eq_true] at h
      exact okV c rfl (m_sl c (okE a _ _ _ _ _ X W c n h.1.1).pe (okO lo _ _ X W c n h.1.2) (okO hi _ _ X W c n h.2))
    · cases h
  | .ix a i, cn, tm, x, op, r, X, W, c, n, h => by
    simp only [chkE] at h
    split at h
    · simp only [Bool.and_eq_true] at h
      exact okV c rfl (m_ix c h.1.1 (okE a _ _ _ _ _ X W c n h.1.2).pe (okE i _ _ _ _ _ X W c n h.2).pe)
    · cases h
  | .call f es ks kes, cn, tm, x, op, r, X, W, c, n, h => by
    simp only [chkE] at h
    split at h
    · simp only [Bool.and_eq_true, decide_eq_true_eq] at h
      obtain ⟨⟨⟨⟨⟨⟨⟨⟨h1, h2⟩, h3⟩, h4⟩, h5⟩, h6⟩, h7⟩, h8⟩, h9⟩ := h
      cases eqs_of h1
      exact okV c rfl (m_call c h2 h3 (gl_of n h4) (nd_of h5) (chkA_star h8) h6 h7 (fun z => by subst z; exact chkA_nil h8) (fun z => by subst z; exact chkK_nil h9 h7) (okA es _ _ X W c n h8) (okK kes _ _ X W c n h9))
    · cases h
  | .make f es ks kes, cn, tm, x, op, r, X, W, c, n, h => by
    simp only [chkE] at h
    split at h
    · simp only [Bool.and_eq_true, decide_eq_true_eq] at h
      obtain ⟨⟨⟨⟨⟨⟨⟨⟨h1, h2⟩, h3⟩, h4⟩, h5⟩, h6⟩, h7⟩, h8⟩, h9⟩ := h
      cases eqs_of h1
      exact okV c rfl (m_make c h2 h3 (gl_of n h4) (nd_of h5) (chkA_star h8) h6 h7 (fun z => by subst z; exact chkA_nil h8) (fun z => by subst z; exact chkK_nil h9 h7) (okA es _ _ X W c n h8) (okK kes _ _ X W c n h9))
    · cases h
  | .meth o m es ks kes, cn, tm, x, op, r, X, W, c, n, h => by
    simp only [chkE] at h
    split at h
    · simp only [Bool.and_eq_true, decide_eq_true_eq] at h
      obtain ⟨⟨⟨⟨⟨⟨⟨h1, h2⟩, h3⟩, h6⟩, h7⟩, h0⟩, h8⟩, h9⟩ := h
      cases eqs_of h1
      exact okV c rfl (m_meth c h2 (chkA_star h8) h6 h7 h3 (fun z => by subst z; exact chkA_nil h8) (fun z => by subst z; exact chkK_nil h9 h7) (okE o _ _ _ _ _ X W c n h0).pe (okA es _ _ X W c n h8) (okK kes _ _ X W c n h9))
    · cases h
  | .attr o m, cn, tm, x, op, r, X, W, c, n, h => by
    simp only [chkE] at h
    split at h
    · simp only [Bool.and_eq_true] at h
      cases eqs_of h.1.1
      exact okV c rfl (m_attr c h.1.2 (okE o _ _ _ _ _ X W c n h.2).pe)
    · cases h
  | .bi b es, cn, tm, x, op, r, X, W, c, n, h => by
    simp only [chkE] at h
    split at h
    · simp only [Bool.and_eq_true] at h
      obtain ⟨⟨⟨h1, h2⟩, h3⟩, h4⟩ := h
      cases eqs_of h1
      have hst := chkA_star h4
      rw [List.all_cons, Bool.and_eq_true] at hst
      exact okV c rfl (m_bi c (gl_of n h2) h3 hst.1 hst.2 (okA es _ _ X W c n h4))
    · cases h
  | .bm b o es, cn, tm, x, op, r, X, W, c, n, h => by
    simp only [chkE] at h
    split at h
    · simp only [Bool.and_eq_true] at h
      obtain ⟨⟨⟨⟨h1, h2⟩, h3⟩, h4⟩, h5⟩ := h
      cases eqs_of h1
      have hst := chkA_star h5
      rw [List.all_cons, Bool.and_eq_true] at hst
      exact okV c rfl (m_bm c h2 hst.1 hst.2 h3 (okE o _ _ _ _ _ X W c n h4).pe (okA es _ _ X W c n h5))
    · cases h
  | .isin a ts, cn, tm, x, op, r, X, W, c, n, h => by
    simp only [chkE] at h
    split at h
    · simp only [Bool.and_eq_true] at h
      obtain ⟨⟨⟨⟨⟨h1, h2⟩, h3⟩, h4⟩, h5⟩, h6⟩ := h
      cases eqs_of h1
      have ha := (okE a _ _ _ _ _ X W c n h5).pe
      split at h6
      · simp only [Bool.and_eq_true, decide_eq_true_eq] at h6
        exact okV c rfl (m_isinT c (gl_of n h2) h3 h4 (by
          intro z
          subst z
          have := h6.1.1
          simp at this) h6.1.2 ha (tysB_ok c n h6.2))
      · split at h6
        · simp only [Bool.and_eq_true] at h6
          exact okV c rfl (m_isin1 c (gl_of n h2) h3 h4 h6.1 ha (tyB_ok c n h6.2))
        · cases h6
    · cases h
  | .fstr es, cn, tm, x, op, r, X, W, c, n, h => by
    simp only [chkE] at h
    split at h
    · exact okV c rfl (m_fstr (okF es _ _ X W c n h))
    · cases h
  | .lc e t it oi own, cn, tm, x, op, r, X, W, c, n, h => by
    simp only [chkE] at h
    split at h
    · rename_i elt tg iter ifs scope pos
      simp only [Bool.and_eq_true] at h
      obtain ⟨⟨⟨⟨⟨h1, h2⟩, h3⟩, h4⟩, h5⟩, h6⟩ := h
      have bn : ∀ (s : Shared) (H : Hp) (C' : Addr) (cl : List (Str × Addr)) (fp : List Addr), CnOk (X.blk s H scope (compEnvC scope cl C' X.env) fp) ⟨cn.N, relS scope cn.sc, false⟩ := fun s H C' cl fp => ⟨n.N, relS_env n.sc, fun z => by cases z⟩
      refine okV c rfl (m_lc c (okIt it _ _ _ X W c n h2) (blkOk_by (own := ownP cn.N own) (by rw [n.N, n.sc]; exact h3)) (ownP_snd own) (fun s H C' cl fp => ?_) (fun s H C' cl fp => ?_) (fun s H C' cl fp => ?_) h1)
      · exact okG t _ _ _ _ _ (c.blk s H scope _ fp) (bn s H C' cl fp) h4
      · exact okQ oi _ _ _ _ (c.blk s H scope _ fp) (bn s H C' cl fp) h6
      · exact (okE e _ _ _ _ _ _ _ (c.blk s H scope _ fp) (bn s H C' cl fp) h5).pe
    · cases h
  | .bad, cn, tm, x, op, r, X, W, c, n, h => by
    intro pos
    cases tm <;> cases r
    · exact m_bad
    · exact m_bad
    · exact ⟨fun pins s σ H Q I ⟨m, L, ρ, hr, lr, po⟩ => po.elim⟩
    · exact ⟨fun wh pins s σ H Q I ⟨m, L, ρ, hr, lr, po⟩ => po.elim⟩
theorem okA : ∀ (es : Exs) (cn : Cn) (xs : List Expr) (X : Cx) (W : WX), CxOk g T cf dt C k X W → CnOk X cn → chkA cf T es cn xs = true → PA X xs (tMA g W (evEs T C es))
  | .nil, cn, [], X, W, c, n, h => a_nil
  | .nil, cn, _ :: _, X, W, c, n, h => by simp only [chkA] at h; cases h
  | .cons e r, cn, [], X, W, c, n, h => by simp only [chkA] at h; cases h
  | .cons e r, cn, x :: xs, X, W, c, n, h => by
    simp only [chkA, Bool.and_eq_true] at h
    exact a_cons h.1.1 (okE e _ _ _ _ _ X W c n h.1.2).pe (okA r _ _ X W c n h.2)
theorem okK : ∀ (es : Exs) (cn : Cn) (xs : List Keyword) (X : Cx) (W : WX), CxOk g T cf dt C k X W → CnOk X cn → chkK cf T es cn xs = true → PK X xs (tMA g W (evEs T C es))
  | .nil, cn, [], X, W, c, n, h => k_nil
  | .nil, cn, _ :: _, X, W, c, n, h => by simp only [chkK] at h; cases h
  | .cons e r, cn, [], X, W, c, n, h => by simp only [chkK] at h; cases h
  | .cons e r, cn, ⟨nm, x, kp⟩ :: xs, X, W, c, n, h => by
    simp only [chkK, Bool.and_eq_true] at h
    exact k_cons (okE e _ _ _ _ _ X W c n h.1).pe (okK r _ _ X W c n h.2)
theorem okF : ∀ (es : Exs) (cn : Cn) (xs : List Expr) (X : Cx) (W : WX), CxOk g T cf dt C k X W → CnOk X cn → chkF cf T es cn xs = true → PFs g T C X W xs es
  | .nil, cn, [], X, W, c, n, h => .nil
  | .nil, cn, _ :: _, X, W, c, n, h => by simp only [chkF] at h; cases h
  | .cons e r, cn, xs, X, W, c, n, h => by
    simp only [chkF] at h
    split at h
    · split at h
      · simp only [Bool.and_eq_true] at h
        cases eqs_of h.1.1
        exact .lit h.1.2 (okF r _ _ X W c n h.2)
      · cases h
    · simp only [Bool.and_eq_true, decide_eq_true_eq] at h
      obtain ⟨⟨h1, h2⟩, h3⟩ := h
      subst h1
      exact .fld (okE e _ _ _ _ _ X W c n h2).pe (okF r _ _ X W c n h3)
    · cases h
theorem okO : ∀ (o : Ox) (cn : Cn) (x : Option Expr) (X : Cx) (W : WX), CxOk g T cf dt C k X W → CnOk X cn → chkO cf T o cn x = true → PO X x (tMO g W (evO T C o))
  | .none, cn, none, X, W, c, n, h => o_none
  | .none, cn, some _, X, W, c, n, h => by simp only [chkO] at h; cases h
  | .some e, cn, none, X, W, c, n, h => by simp only [chkO] at h; cases h
  | .some e, cn, some x, X, W, c, n, h => by
    simp only [chkO] at h
    exact o_some (okE e _ _ _ _ _ X W c n h).pe
theorem okQ : ∀ (o : Ox) (cn : Cn) (xs : List Expr) (X : Cx) (W : WX), CxOk g T cf dt C k X W → CnOk X cn → chkQ cf T o cn xs = true → PTs X xs (tMT g W (evT T C o))
  | .none, cn, [], X, W, c, n, h => ts_nil
  | .none, cn, _ :: _, X, W, c, n, h => by simp only [chkQ] at h; cases h
  | .some e, cn, xs, X, W, c, n, h => by
    simp only [chkQ] at h
    split at h
    · exact ts_one (okE e _ _ _ _ _ X W c n h).pt
    · cases h
theorem okIt : ∀ (it : It) (cn : Cn) (tg x : Expr) (X : Cx) (W : WX), CxOk g T cf dt C k X W → CnOk X cn → chkI cf T it cn tg x = true → PI X tg x (tMI g W (evI T C it))
  | .seq a, cn, tg, x, X, W, c, n, h => by
    simp only [chkI] at h
    exact w_seq c (okE a _ _ _ _ _ X W c n h).pe
  | .rng1 a, cn, tg, x, X, W, c, n, h => by
    simp only [chkI] at h
    split at h
    · simp only [Bool.and_eq_true] at h
      obtain ⟨⟨⟨⟨h1, h2⟩, h3⟩, h4⟩, h5⟩ := h
      cases eqs_of h1
      exact w_rng1 c (gl_of n h2) h3 h4 (okE a _ _ _ _ _ X W c n h5).pe
    · cases h
  | .rng2 a b, cn, tg, x, X, W, c, n, h => by
    simp only [chkI] at h
    split at h
    · simp only [Bool.and_eq_true] at h
      obtain ⟨⟨⟨⟨⟨⟨h1, h2⟩, h3⟩, h4⟩, h5⟩, h6⟩, h7⟩ := h
      cases eqs_of h1
      exact w_rng2 c (gl_of n h2) h3 h4 h5 (okE a _ _ _ _ _ X W c n h6).pe (okE b _ _ _ _ _ X W c n h7).pe
    · cases h
  | .enum a, cn, tg, x, X, W, c, n, h => by
    simp only [chkI, Bool.and_eq_true] at h
    obtain ⟨h0, h⟩ := h
    obtain ⟨es, j, p, rfl⟩ := isTup_of h0
    split at h
    · simp only [Bool.and_eq_true] at h
      obtain ⟨⟨⟨⟨h1, h2⟩, h3⟩, h4⟩, h5⟩ := h
      cases eqs_of h1
      exact w_enum c (gl_of n h2) h3 h4 (okE a _ _ _ _ _ X W c n h5).pe
    · cases h
  | .zip a b, cn, tg, x, X, W, c, n, h => by
    simp only [chkI, Bool.and_eq_true] at h
    obtain ⟨h0, h⟩ := h
    obtain ⟨es, j, p, rfl⟩ := isTup_of h0
    split at h
    · simp only [Bool.and_eq_true] at h
      obtain ⟨⟨⟨⟨⟨⟨h1, h2⟩, h3⟩, h4⟩, h5⟩, h6⟩, h7⟩ := h
      cases eqs_of h1
      exact w_zip c (gl_of n h2) h3 h4 h5 (okE a _ _ _ _ _ X W c n h6).pe (okE b _ _ _ _ _ X W c n h7).pe
    · cases h
  | .bad, cn, tg, x, X, W, c, n, h => w_bad
theorem okG : ∀ (t : Tg) (cn : Cn) (vs : List Nat) (x : Expr) (X : Cx) (W : WX), CxOk g T cf dt C k X W → CnOk X cn → chkG cf T t cn vs x = true → PG X x (tMG g vs (puT T C t))
  | .var i, cn, vs, x, X, W, c, n, h => by
    simp only [chkG] at h
    split at h
    · simp only [Bool.and_eq_true, decide_eq_true_eq] at h
      obtain ⟨⟨h1, h2⟩, h3⟩ := h
      obtain ⟨h4, h5⟩ := loc_of n h2
      exact g_var c.nd (N_of n h1) h4 h5 (by simpa using h3)
    · cases h
  | .tup ts, cn, vs, x, X, W, c, n, h => by
    simp only [chkG] at h
    split at h
    · simp only [Bool.and_eq_true, decide_eq_true_eq] at h
      exact g_tup c h.1.1 h.1.2 (okGs ts _ _ _ X W c n h.2)
    · cases h
  | .star ts, cn, vs, x, X, W, c, n, h => by
    simp only [chkG] at h
    split at h
    · rename_i es j p
      split at h
      · rename_i te sp e
        simp only [Bool.and_eq_true, decide_eq_true_eq] at h
        obtain ⟨⟨⟨h1, h2⟩, h3⟩, h4⟩ := h
        have e2 : es = es.dropLast ++ [.Starred te sp] := by
          obtain ⟨ys, e3⟩ := List.getLast?_eq_some_iff.mp e
          rw [e3, List.dropLast_concat]
        rw [e2]
        exact g_star c h1 h2 h3 (okGs ts _ _ _ X W c n h4)
      · cases h
    · cases h
  | .sub o i, cn, vs, x, X, W, c, n, h => by
    simp only [chkG] at h
    split at h
    · simp only [Bool.and_eq_true] at h
      exact g_sub c h.1.1 (okE o _ _ _ _ _ X W c n h.1.2).pe (okE i _ _ _ _ _ X W c n h.2).pe
    · cases h
  | .attr o m, cn, vs, x, X, W, c, n, h => by
    simp only [chkG] at h
    split at h
    · simp only [Bool.and_eq_true] at h
      cases eqs_of h.1
      exact g_attr c (okE o _ _ _ _ _ X W c n h.2).pe
    · cases h
  | .bad, cn, vs, x, X, W, c, n, h => g_bad
theorem okGs : ∀ (ts : Tgs) (cn : Cn) (vs : List Nat) (xs : List Expr) (X : Cx) (W : WX), CxOk g T cf dt C k X W → CnOk X cn → chkGs cf T ts cn vs xs = true → PGs X xs (tMGs g vs (puTs T C ts))
  | .nil, cn, vs, [], X, W, c, n, h => gs_nil
  | .nil, cn, vs, _ :: _, X, W, c, n, h => by simp only [chkGs] at h; cases h
  | .cons t r, cn, vs, [], X, W, c, n, h => by simp only [chkGs] at h; cases h
  | .cons t r, cn, vs, x :: xs, X, W, c, n, h => by
    simp only [chkGs, Bool.and_eq_true] at h
    exact gs_cons h.1.1 (okG t _ _ _ X W c n h.1.2) (okGs r _ _ _ X W c n h.2)
end
end
end Mi
end

section
set_option Elab.async false
set_option linter.all false
set_option maxRecDepth 100000
set_option maxHeartbeats 8000000
/-! Mi, part M: what the checker says of statements is so. -/
namespace Mi
open PySem PySem.Spec PyProof.Rows L2
section
variable {g : G} {T : Tb} {cf : Cf} {dt : Nat → FuncData} {C : Nat → List D → M D} {k wf : Nat} {X : Cx} {W : WX} {cn : Cn}
theorem names_lt {p : Expr → Bool} : ∀ (ts : List Expr) (f : Expr → Option Str), ts.any p = true → (∀ t, p t = true → f t = none) → (ts.filterMap f).length < ts.length
  | [], f, h, _ => by cases h
  | t :: ts, f, h, hf => by
    rw [List.any_cons, Bool.or_eq_true] at h
    have le : (ts.filterMap f).length ≤ ts.length := List.length_filterMap_le ..
    rcases h with h | h
    · rw [List.filterMap_cons_none (hf t h), List.length_cons]
      omega
    · have := names_lt ts f h hf
      rw [List.length_cons]
      cases e : f t with
      | none =>
        rw [List.filterMap_cons_none e]
        omega
      | some b =>
        rw [List.filterMap_cons_some e, List.length_cons]
        omega
theorem noLoc_of {env : Env} (hs : env.scope = cn.sc) {x : Str} (h : isLoc cn x = false) : (env.kindOf x == some .local) = false := by
  unfold isLoc at h
  show (env.scope.names.lookup x == some .local) = false
  rw [hs]
  split at h
  · cases h
  · rename_i hne
    rw [beq_eq_false_iff_ne]
    exact fun z => hne z
theorem swap_none {tg e : Expr} {env : Env} (hs : env.scope = cn.sc) (h : noSwap cn tg e = true) : swappedStores [tg] e env = pure none := by
  unfold noSwap at h
  split at h
  · rename_i ts k p vs k' p'
    unfold swappedStores
    simp only [Bool.or_eq_true] at h
    show (if _ then _ else _) = _
    by_cases c1 : (!(ts.length == 2 || ts.length == 3) || vs.length != ts.length || env.blockKind != .function) = true
    · rw [if_pos c1]
    · rw [if_neg c1]
      simp only [Bool.or_eq_true, not_or] at c1
      rcases h with (h | h) | h
      · exact absurd h c1.1.1
      · exact absurd h c1.1.2
      · have lt := names_lt ts (fun x => (match x with
          | .Name id pos => if env.kindOf id == some .local && pos.line == (ts.head?.map (·.pos.line)).getD 0 then some id else none
          | _ => none)) h fun t ht => by
            cases t with
            | Name id pos =>
              have q : isLoc cn id = false := by simpa [noLoc] using ht
              show (if env.kindOf id == some .local && pos.line == (ts.head?.map (·.pos.line)).getD 0 then some id else none) = none
              rw [noLoc_of hs q]
              rfl
            | _ => rfl
        show (if _ then _ else _) = _
        split
        · rfl
        · show (if _ then _ else _) = _
          rw [if_pos]
          rw [Bool.or_eq_true]
          left
          rw [bne_iff_ne]
          exact Nat.ne_of_lt lt
  · cases h
  · unfold swappedStores
    rename_i h1 h2
    split
    · rename_i ts vs e1
      exfalso
      split at e1
      · rename_i heq
        exact h1 _ _ _ _ _ _ (List.cons.inj heq).1 rfl
      · rename_i heq
        exact h2 _ _ _ _ _ (List.cons.inj heq).1 rfl
      · cases e1
    · rfl
theorem swap2_ok {x y : Str} {px py pt : Pos} {kt k2 : Nat} {pt2 : Pos} {a b : Expr} {env : Env} (hb : env.blockKind = .function) (hx : env.kindOf x = some .local) (hy : env.kindOf y = some .local) (h : swap2 x y px py [a, b] = true) :
    swappedStores [.Tuple [.Name x px, .Name y py] kt pt] (.Tuple [a, b] k2 pt2) env = pure (some [x, y]) := by
  unfold swap2 at h
  simp only [Bool.and_eq_true, decide_eq_true_eq, Bool.not_eq_true'] at h
  obtain ⟨⟨⟨⟨h1, h2⟩, h3⟩, h4⟩, h5⟩ := h
  have hp : (Expr.Name x px).pos.line = px.line := rfl
  have e0 : ([.Name x px, .Name y py] : List Expr).filterMap (fun x_1 => (match x_1 with
          | .Name id pos => if env.kindOf id == some .local && pos.line == (([.Name x px, .Name y py] : List Expr).head?.map (·.pos.line)).getD 0 then some id else none
          | _ => none)) = [x, y] := by
    simp [List.filterMap_cons, hx, hy, hp, h1]
  have e1 : [x, y].eraseDups.length = 2 := by
    have q : (y == x) = false := by
      rw [beq_eq_false_iff_ne] at h2 ⊢
      exact Ne.symm h2
    simp [List.eraseDups_cons, q]
  have key : ∀ l : List Str, l = [x, y] → (if (l.length != 2 || l.eraseDups.length != l.length) = true then (pure none : Sem (Option (List Str))) else if [a, b].all (foldedForSure 8) = true then pure none else
      if [a, b].all (constantsAlone 8) = true then (do let _ ← (unsupported "assign.tuple-of-constant-expressions:order-of-the-stores" : Sem Unit); pure (some l)) else pure (some l)) = pure (some [x, y]) := fun l e => by
    subst e
    rw [if_neg (by rw [e1]; simp), h4, h5]
    rfl
  unfold swappedStores
  simp only
  rw [if_neg (by simp [hb])]
  refine (if_neg (fun z => ?_)).trans (key _ e0)
  exact nomatch (h3.symm.trans z)
theorem swap3_ok {x y z : Str} {px py pz pt : Pos} {kt k2 : Nat} {pt2 : Pos} {a b c : Expr} {env : Env} (hb : env.blockKind = .function) (hx : env.kindOf x = some .local) (hy : env.kindOf y = some .local) (hz : env.kindOf z = some .local) (h : swap3 x y z px py pz [a, b, c] = true) :
    swappedStores [.Tuple [.Name x px, .Name y py, .Name z pz] kt pt] (.Tuple [a, b, c] k2 pt2) env = pure (some [x, y, z]) := by
  unfold swap3 at h
  simp only [Bool.and_eq_true, decide_eq_true_eq, Bool.not_eq_true'] at h
  obtain ⟨⟨⟨⟨⟨⟨⟨h1, h1'⟩, h2⟩, h2'⟩, h2''⟩, h3⟩, h4⟩, h5⟩ := h
  have hp : (Expr.Name x px).pos.line = px.line := rfl
  have e0 : ([.Name x px, .Name y py, .Name z pz] : List Expr).filterMap (fun x_1 => (match x_1 with
          | .Name id pos => if env.kindOf id == some .local && pos.line == (([.Name x px, .Name y py, .Name z pz] : List Expr).head?.map (·.pos.line)).getD 0 then some id else none
          | _ => none)) = [x, y, z] := by
    simp [List.filterMap_cons, hx, hy, hz, hp, h1, ← h1']
  have e1 : [x, y, z].eraseDups.length = 3 := by
    have q : (y == x) = false := by
      rw [beq_eq_false_iff_ne] at h2 ⊢
      exact Ne.symm h2
    have q' : (z == x) = false := by
      rw [beq_eq_false_iff_ne] at h2' ⊢
      exact Ne.symm h2'
    have q'' : (z == y) = false := by
      rw [beq_eq_false_iff_ne] at h2'' ⊢
      exact Ne.symm h2''
    simp [List.eraseDups_cons, q, q', q'']
  have key : ∀ l : List Str, l = [x, y, z] → (if (l.length != 3 || l.eraseDups.length != l.length) = true then (pure none : Sem (Option (List Str))) else if [a, b, c].all (foldedForSure 8) = true then pure none else
      if [a, b, c].all (constantsAlone 8) = true then (do let _ ← (unsupported "assign.tuple-of-constant-expressions:order-of-the-stores" : Sem Unit); pure (some l)) else pure (some l)) = pure (some [x, y, z]) := fun l e => by
    subst e
    rw [if_neg (by rw [e1]; simp), h4, h5]
    rfl
  unfold swappedStores
  simp only
  rw [if_neg (by simp [hb])]
  refine (if_neg (fun z => ?_)).trans (key _ e0)
  exact nomatch (h3.symm.trans z)
end
end Mi
end

section
set_option Elab.async false
set_option linter.all false
set_option maxRecDepth 100000
set_option maxHeartbeats 8000000
/-! Mi, part N: statements checked; the row's own def. -/
namespace Mi
open PySem PySem.Spec PyProof.Rows L2
section
variable {g : G} {T : Tb} {cf : Cf} {dt : Nat → FuncData} {C : Nat → List D → M D} {k wf : Nat} {X : Cx} {W : WX} {cn : Cn}
theorem okAsg {t : Tg} {e : Ex} {tg x : Expr} {pos : Pos} (c : SxOk g T cf dt C k X W) (n : CnOk X cn) (h : asgB cf T t e cn tg x pos = true) : PS X (.Assign [tg] x pos) (tMS g W (exS T C wf (.asg t e))) := by
  have plain : noComp x = true → noSwap cn tg x = true → plainTg tg = true → chkG cf T t cn (allS cn) tg = true → chkE cf T e cn false x .And [] = true → PS X (.Assign [tg] x pos) (tMS g W (exS T C wf (.asg t e))) := fun h1 h2 h3 h4 h5 =>
    s_asg h3 (swaps_none h1) (swap_none n.sc h2) (okE e _ _ _ _ _ X W c.cx n h5).pe (okG t _ _ _ X W c.cx n h4)
  unfold asgB at h
  split at h
  · rename_i e' t' it oi own elt gens scope lpos
    split at h
    · rename_i y py
      split at h
      · rename_i j
        split at h
        · rename_i q
          simp only [Bool.and_eq_true, decide_eq_true_eq, Bool.not_eq_true'] at q h
          obtain ⟨⟨q1, q2⟩, q3⟩ := q
          obtain ⟨h1, h2⟩ := h
          have hl := isLoc_of n q1
          simp only [chkE] at h2
          split at h2
          · rename_i elt' tg' iter ifs sc2 pos2 heq _
            injection heq with i1 i2 i3 i4
            subst i1 i2 i3 i4
            simp only [Bool.and_eq_true] at h2
            obtain ⟨⟨⟨⟨⟨g1, g2⟩, g3⟩, g4⟩, g5⟩, g6⟩ := h2
            have bn : ∀ (s : Shared) (H : Hp) (C' : Addr) (cl : List (Str × Addr)) (fp : List Addr), CnOk (X.blk s H scope (compEnvC scope cl C' X.env) fp) ⟨cn.N, relS scope cn.sc, false⟩ := fun s H C' cl fp => ⟨n.N, relS_env n.sc, fun z => by cases z⟩
            refine s_setLc c.cx (N_of n h1) hl ?_ (okIt it _ _ _ X W c.cx n g2) (blkOk_by (own := ownP cn.N own) (by rw [n.N, n.sc]; exact g3)) (ownP_snd own) (fun s H C' cl fp => ?_) (fun s H C' cl fp => ?_) (fun s H C' cl fp => ?_) g1
            · show (pure (X.env.blockKind == .function && X.env.kindOf y == some .local && py.line == lpos.line && !(scope.names.any fun (n, k) => n == y && (k == .local || k == .cell))) : Sem Bool) = pure true
              have e1 : X.env.kindOf y = some .local := hl
              rw [c.bk, e1, q2, q3]
              simp
            · exact okG t' _ _ _ _ _ (c.cx.blk s H scope _ fp) (bn s H C' cl fp) g4
            · exact okQ oi _ _ _ _ (c.cx.blk s H scope _ fp) (bn s H C' cl fp) g6
            · exact (okE e' _ _ _ _ _ _ _ (c.cx.blk s H scope _ fp) (bn s H C' cl fp) g5).pe
          · cases h2
        · cases h
      · cases h
    · rename_i hne
      simp only [Bool.and_eq_true] at h
      obtain ⟨⟨h1, h2⟩, h3⟩ := h
      refine s_asg h1 ?_ ?_ (okE _ _ _ _ _ _ X W c.cx n h3).pe (okG t _ _ _ X W c.cx n h2)
      · cases tg <;> first | rfl | exact absurd rfl (hne _ _)
      · cases tg <;> first | rfl | cases h1
  · simp only [Bool.and_eq_true] at h
    obtain ⟨⟨⟨⟨h1, h2⟩, h3⟩, h4⟩, h5⟩ := h
    exact plain h1 h2 h3 h4 h5
mutual
theorem okS : ∀ (s : Sm) (cn : Cn) (st : Stmt), CnOk X cn → SxOk g T cf dt C k X W → chkS cf T s cn st = true → PS X st (tMS g W (exS T C wf s))
  | .asg t e, cn, st, n, c, h => by
    simp only [chkS] at h
    split at h
    · exact okAsg c n h
    · cases h
  | .par is es, cn, st, n, c, h => by
    simp only [chkS] at h
    split at h
    · split at h
      · simp only [Bool.and_eq_true, decide_eq_true_eq] at h
        obtain ⟨⟨⟨⟨⟨⟨h1, h2⟩, h3⟩, h4⟩, h5⟩, h6⟩, h7⟩ := h
        have hx := isLoc_of n h4
        have hy := isLoc_of n h5
        exact s_par2 c.cx (N_of n h1) (N_of n h2) h3 hx hy (swap2_ok c.bk hx hy h6) (okA es _ _ X W c.cx n h7)
      · cases h
    · split at h
      · simp only [Bool.and_eq_true, decide_eq_true_eq] at h
        obtain ⟨⟨⟨⟨⟨⟨⟨⟨⟨⟨h1, h2⟩, h2'⟩, h3⟩, h3'⟩, h3''⟩, h4⟩, h5⟩, h5'⟩, h6⟩, h7⟩ := h
        have hx := isLoc_of n h4
        have hy := isLoc_of n h5
        have hz := isLoc_of n h5'
        exact s_par3 c.cx (N_of n h1) (N_of n h2) (N_of n h2') h3 h3' h3'' hx hy hz (swap3_ok c.bk hx hy hz h6) (okA es _ _ X W c.cx n h7)
      · cases h
    · cases h
  | .aug i o e, cn, st, n, c, h => by
    simp only [chkS] at h
    split at h
    · simp only [Bool.and_eq_true, decide_eq_true_eq, Bool.or_eq_true] at h
      obtain ⟨⟨⟨⟨h1, h2⟩, h3⟩, h4⟩, h5⟩ := h
      subst h1
      obtain ⟨l1, l2⟩ := loc_of n h4
      exact s_aug c.cx h2 (N_of n h3) l1 l2 (okE e _ _ _ _ _ X W c.cx n h5).pe
    · cases h
  | .expr e, cn, st, n, c, h => by
    simp only [chkS] at h
    split at h
    · simp only [Bool.and_eq_true] at h
      exact s_expr h.1 (okE e _ _ _ _ _ X W c.cx n h.2).pe
    · cases h
  | .ret e, cn, st, n, c, h => by
    simp only [chkS] at h
    split at h
    · exact s_ret (okE e _ _ _ _ _ X W c.cx n h).pe
    · cases h
  | .retn, cn, st, n, c, h => by
    simp only [chkS] at h
    split at h
    · exact s_retn
    · cases h
  | .doc, cn, st, n, c, h => by
    simp only [chkS] at h
    split at h
    · exact s_doc
    · cases h
  | .ife e a b, cn, st, n, c, h => by
    simp only [chkS] at h
    split at h
    · simp only [Bool.and_eq_true] at h
      exact s_if (okE e _ _ _ _ _ X W c.cx n h.1.1).pt (okSs a _ _ n c h.1.2) (okSs b _ _ n c h.2)
    · cases h
  | .fr t it b, cn, st, n, c, h => by
    simp only [chkS] at h
    split at h
    · simp only [Bool.and_eq_true] at h
      exact s_for c (okIt it _ _ _ X W c.cx n h.1.1.2) (okG t _ _ _ X W c.cx n h.1.2) (okSs b _ _ n c h.2) h.1.1.1
    · cases h
  | .whl e b, cn, st, n, c, h => by
    simp only [chkS] at h
    split at h
    · simp only [Bool.and_eq_true] at h
      exact s_while c (okE e _ _ _ _ _ X W c.cx n h.1).pt (okSs b _ _ n c h.2)
    · cases h
  | .pass, cn, st, n, c, h => by
    simp only [chkS] at h
    split at h
    · exact s_pass
    · cases h
  | .brk, cn, st, n, c, h => by
    simp only [chkS] at h
    split at h
    · exact s_brk
    · cases h
  | .cont, cn, st, n, c, h => by
    simp only [chkS] at h
    split at h
    · exact s_cont
    · cases h
  | .bad, cn, st, n, c, h => s_bad
theorem okSs : ∀ (s : Sms) (cn : Cn) (st : List Stmt), CnOk X cn → SxOk g T cf dt C k X W → chkSs cf T s cn st = true → PSs X st (tMS g W (exSs T C wf s))
  | .nil, cn, [], n, c, h => s_nil
  | .nil, cn, _ :: _, n, c, h => by simp only [chkSs] at h; cases h
  | .cons s r, cn, [], n, c, h => by simp only [chkSs] at h; cases h
  | .cons s r, cn, x :: xs, n, c, h => by
    simp only [chkSs, Bool.and_eq_true] at h
    exact s_cons (okS s _ _ n c h.1) (okSs r _ _ n c h.2)
end
end
end Mi
end

section
set_option Elab.async false
set_option linter.all false
set_option maxRecDepth 100000
set_option maxHeartbeats 8000000
/-! Mi, part P: a row's tables; what the top has written, by a Bool. -/
namespace Mi
open PySem PySem.Spec PyProof.Rows L2
/-- the tables of a row -/
structure Rw where
  fns : List (Fd × He.DefD × List Str)
  cns : List Str
  kns : List (Str × D)
  ans : List Str
  mths : List ((Nat × Nat) × Nat)
  ccons : List ((Nat × Nat) × D)
  noats : List (Nat × Nat)
  inits : List (Nat × Nat)
  kits : List ((Tag × Ty) × Bool)
  blts : List Str
def dvD : He.Dv → D
  | .bl b => .bl b
  | .int i => .int i
  | .str s => .str s
  | _ => .non
def dvOk : He.Dv → Bool
  | .non => true
  | .bl _ => true
  | .int _ => true
  | .str _ => true
  | _ => false
/-- the defaults of a def -/
def dflOf (d : He.DefD) : List (Option D) :=
  List.replicate (d.params.args.length - d.dfl.length) none ++ d.dfl.map (fun v => some (dvD v)) ++ d.params.kwonlyargs.map fun a => (d.kwd.lookup a.arg).map dvD
def Rw.an (R : Rw) (i : Nat) : Str := match R.ans[i]? with
  | some s => s
  | none => ⟨#[2000000 + i]⟩
def Rw.fad (R : Rw) (K : PySem.W.Frag) (f : Nat) : Addr := match R.fns[f]? with
  | some q => He.fAd K q.2.1.at_
  | none => 0
def Rw.g (R : Rw) (K : PySem.W.Frag) : G where
  K := K
  an := R.an
  cad c := He.ga K (R.cns.getD c Str.empty)
  gad f := R.fad K f
def Rw.T (R : Rw) : Tb where
  fn f := R.fns[f]?.map (·.1)
  con k := R.kns[k]?.map (·.2)
  meth c n := R.mths.lookup (c, n)
  prop _ _ := none
  ccon c n := R.ccons.lookup (c, n)
  noat c n := R.noats.contains (c, n)
  init c := R.inits.lookup c
  kit t y := R.kits.lookup (t, y)
def Rw.glob (R : Rw) : List Nat := (List.range R.fns.length).filter fun f => match R.fns[f]? with
  | some q => q.2.1.at_.2.isNone
  | none => false
def Rw.cf (R : Rw) : Cf where
  nm := { fn := fun f => match R.fns[f]? with
            | some q => q.2.1.at_.1
            | none => Str.empty
          cn := fun c => R.cns.getD c Str.empty
          kn := fun k => match R.kns[k]? with
            | some q => q.1
            | none => Str.empty }
  an := R.an
  glob := R.glob
  blt := R.blts
  cls := List.range R.cns.length
/-! ### without K -/
def anB (R : Rw) : Bool := decide R.ans.Nodup && R.ans.all fun s => match s.cps[0]? with
  | some c => decide (c < 2000000)
  | none => true
theorem an_inj {R : Rw} (h : anB R = true) : ∀ a b, R.an a = R.an b → a = b := by
  unfold anB at h
  simp only [Bool.and_eq_true, decide_eq_true_eq] at h
  obtain ⟨h1, h2⟩ := h
  have small : ∀ {i s}, R.ans[i]? = some s → ∀ j, s ≠ (⟨#[2000000 + j]⟩ : Str) := fun {i s} e j z => by
    have q := List.all_eq_true.mp h2 s (List.mem_of_getElem? e)
    rw [z] at q
    simp at q
    omega
  intro a b e
  unfold Rw.an at e
  cases ea : R.ans[a]? with
  | some s =>
    rw [ea] at e
    cases eb : R.ans[b]? with
    | some t =>
      rw [eb] at e
      have e : s = t := e
      subst e
      exact (List.getElem?_inj (List.getElem?_eq_some_iff.mp ea).1 h1).mp (ea.trans eb.symm)
    | none =>
      rw [eb] at e
      exact absurd e (small ea b)
  | none =>
    rw [ea] at e
    cases eb : R.ans[b]? with
    | some t =>
      rw [eb] at e
      exact absurd e.symm (small eb a)
    | none =>
      rw [eb] at e
      have e : (⟨#[2000000 + a]⟩ : Str) = ⟨#[2000000 + b]⟩ := e
      injection e with e
      have e2 : 2000000 + a = 2000000 + b := by simpa using e
      omega
/-- the parameters' form -/
def parB (R : Rw) (fd : Fd) (d : He.DefD) : Bool := match d.params with
  | ⟨[], as, none, ko, _, none, _⟩ => decide (fd.ps.map R.an = as.map (·.arg) ++ ko.map (·.arg)) && decide (fd.np = as.length) && decide ((as.map (·.arg) ++ ko.map (·.arg)).Nodup) && decide (d.dfl.length ≤ as.length) && d.dfl.all dvOk && d.kwd.all fun q => dvOk q.2
  | _ => false
def scopeB (N P : List Str) (sc : Scope) : Bool := (match sc.kind with
    | .function => true
    | _ => false) && !sc.isCoroutine && !sc.isGenerator && decide N.Nodup && decide (N.take P.length = P) && (P.all fun x => match sc.names.lookup x with
      | some .local => true
      | some .cell => true
      | _ => false) && sc.names.all fun y => match y.2 with
      | .free => false
      | _ => true
theorem scope_ok {N P : List Str} {sc : Scope} (h : scopeB N P sc = true) : FnScope N P sc := by
  unfold scopeB at h
  simp only [Bool.and_eq_true, decide_eq_true_eq, Bool.not_eq_true'] at h
  obtain ⟨⟨⟨⟨⟨⟨h1, h2⟩, h3⟩, h4⟩, h5⟩, h6⟩, h7⟩ := h
  refine ⟨?_, h2, h3, h4, h5, fun x hx => ?_, fun y hy e => ?_⟩
  · split at h1
    · assumption
    · cases h1
  · have q := List.all_eq_true.mp h6 x hx
    split at q
    · exact .inl (by assumption)
    · exact .inr (by assumption)
    · cases q
  · have q := List.all_eq_true.mp h7 y hy
    rw [e] at q
    cases q
def fnB (R : Rw) (q : Fd × He.DefD × List Str) : Bool := parB R q.1 q.2.1 && scopeB q.2.2 (q.1.ps.map R.an) q.2.1.scope && decide (q.2.2.length = q.1.ns) && chkSs R.cf R.T q.1.body ⟨q.2.2, q.2.1.scope, true⟩ q.2.1.body
def Rw.ok (R : Rw) : Bool := anB R && R.fns.all (fnB R)
/-! ### values that stand in K -/
mutual
def kval (K : PySem.W.Frag) : Nat → D → Value → Bool
  | _, .non, .none => true
  | _, .bl b, .bool c => decide (b = c)
  | _, .int i, .int j _ => decide (i = j)
  | _, .str s, .str t _ => decide (s = t)
  | n + 1, .tup ds, .ref a => (match K.lookup a with
    | some ⟨.type c, none, .seq its _, _⟩ => decide (c = "tuple") && decide (its.size ≤ 16777216) && kvals K n ds its.toList
    | _ => false)
  | n + 1, .fzl ds, .ref a => (match K.lookup a with
    | some ⟨.type c, none, .seq its _, _⟩ => decide (c = "list") && decide (its.size ≤ 16777216) && kvals K n ds its.toList
    | _ => false)
  | _, _, _ => false
def kvals (K : PySem.W.Frag) : Nat → List D → List Value → Bool
  | _, [], [] => true
  | n, d :: ds, u :: us => kval K n d u && kvals K n ds us
  | _, _, _ => false
end
theorem CRel.sq {g : G} {ds : List D} {vs : List V} (h : Paired (CRel g) ds vs) : ∀ m H, RelDs g m H ds vs := fun m H => by
  induction h with
  | nil => exact .nil
  | cons h _ ih => exact .cons (h m H) ih
mutual
theorem kval_ok {g : G} : ∀ (n : Nat) (d : D) (u : Value), kval g.K n d u = true → ∃ v, RelV v u ∧ CRel g d v
  | n, .non, .none, h => ⟨.non, rfl, fun _ _ => .non⟩
  | n, .bl b, .bool c, h => by
    cases n <;> (simp only [kval, decide_eq_true_eq] at h; subst h; exact ⟨.bl b, rfl, fun _ _ => .bl b⟩)
  | n, .int i, .int j t, h => by
    cases n <;> (simp only [kval, decide_eq_true_eq] at h; subst h; exact ⟨.int i, ⟨t, rfl⟩, fun _ _ => .int i⟩)
  | n, .str s, .str z t, h => by
    cases n <;> (simp only [kval, decide_eq_true_eq] at h; subst h; exact ⟨.str s, ⟨t, rfl⟩, fun _ _ => .str s⟩)
  | n + 1, .tup ds, .ref a, h => by
    simp only [kval] at h
    split at h
    · rename_i c its m sl e
      simp only [Bool.and_eq_true, decide_eq_true_eq] at h
      obtain ⟨⟨h1, h2⟩, h3⟩ := h
      subst h1
      obtain ⟨vs, r1, r2⟩ := kvals_ok n ds its.toList h3
      exact ⟨.ref a, rfl, fun m H => .tup (.inr ⟨_, its, _, e, rfl, rfl, by rw [sizeLine_eq]; exact h2, r1⟩) (CRel.sq r2 m H)⟩
    · cases h
  | n + 1, .fzl ds, .ref a, h => by
    simp only [kval] at h
    split at h
    · rename_i c its m sl e
      simp only [Bool.and_eq_true, decide_eq_true_eq] at h
      obtain ⟨⟨h1, h2⟩, h3⟩ := h
      subst h1
      obtain ⟨vs, r1, r2⟩ := kvals_ok n ds its.toList h3
      exact ⟨.ref a, rfl, fun m H => .fzl (.inr ⟨_, its, _, e, rfl, rfl, rfl, by rw [sizeLine_eq]; exact h2, r1⟩) (CRel.sq r2 m H)⟩
    · cases h
theorem kvals_ok {g : G} : ∀ (n : Nat) (ds : List D) (us : List Value), kvals g.K n ds us = true → ∃ vs, Vals vs us ∧ Paired (CRel g) ds vs
  | n, [], [], h => ⟨[], .nil, .nil⟩
  | n, d :: ds, u :: us, h => by
    cases n <;> (
      simp only [kvals, Bool.and_eq_true] at h
      obtain ⟨v, r1, r2⟩ := kval_ok _ d u h.1
      obtain ⟨vs, r3, r4⟩ := kvals_ok _ ds us h.2
      exact ⟨v :: vs, .cons r1 r3, .cons r2 r4⟩)
end
/-! ### with K -/
def eqA (a : Option (Option Value)) (b : Addr) : Bool := match a with
  | some (some (.ref c)) => decide (c = b)
  | _ => false
theorem eqA_ok {a : Option (Option Value)} {b : Addr} (h : eqA a b = true) : a = some (some (.ref b)) := by
  unfold eqA at h
  split at h
  · rw [of_decide_eq_true h]
  · cases h
def eqI (a : Option (Option Value)) (b : String) : Bool := match a with
  | some (some (.builtin c)) => decide (c = b)
  | _ => false
theorem eqI_ok {a : Option (Option Value)} {b : String} (h : eqI a b = true) : a = some (some (.builtin b)) := by
  unfold eqI at h
  split at h
  · rw [of_decide_eq_true h]
  · cases h
def eqN (a : Option (Option Value)) : Bool := match a with
  | some none => true
  | _ => false
theorem eqN_ok {a : Option (Option Value)} (h : eqN a = true) : a = some none := by
  unfold eqN at h
  split at h
  · rfl
  · cases h
def clsB (K : PySem.W.Frag) (C : Addr) : Bool := PySem.W.plainGet K C Str.empty && PySem.W.hasDictIn K C && PySem.W.plainOver K C && eqI (PySem.W.findIn K (.ref C) "__setattr__") "object.__setattr__"
theorem clsB_ok {K : PySem.W.Frag} {C : Addr} (h : clsB K C = true) : Cls K C := by
  simp only [clsB, Bool.and_eq_true] at h
  exact ⟨h.1.1.1, h.1.1.2, h.1.2, eqI_ok h.2⟩
def eqB (a : Option Bool) (b : Bool) : Bool := match a with
  | some c => c == b
  | none => false
theorem eqB_ok {a : Option Bool} {b : Bool} (h : eqB a b = true) : a = some b := by
  unfold eqB at h
  split at h
  · rw [beq_iff_eq.mp h]
  · cases h
def insB (K : PySem.W.Frag) (C : Addr) : Bool := clsB K C && eqI (PySem.W.findIn K (.ref C) "__class__") "object.__class__" && eqI (PySem.W.specialIn K (.builtin "object.__class__") "__get__") "getset_descriptor.__get__" && eqB (PySem.W.takesIn K (.builtin "object.__class__")) true && eqB (PySem.W.mroIn K C (.type "object")) true
theorem insB_ok {K : PySem.W.Frag} {C : Addr} (h : insB K C = true) : InsTy K C := by
  simp only [insB, Bool.and_eq_true] at h
  exact ⟨clsB_ok h.1.1.1.1, eqI_ok h.1.1.1.2, eqI_ok h.1.1.2, eqB_ok h.1.2, eqB_ok h.2⟩
def rowK (R : Rw) (K : PySem.W.Frag) : Bool :=
  (R.fns.all fun q => !q.2.1.at_.2.isNone || eqA (PySem.W.nsIn K mainGlobals q.2.1.at_.1) (He.fAd K q.2.1.at_)) &&
  (R.cns.all fun x => eqA (PySem.W.nsIn K mainGlobals x) (He.ga K x)) &&
  (R.kns.all fun q => match PySem.W.nsIn K mainGlobals q.1 with
    | some (some u) => kval K 8 q.2 u
    | _ => false) &&
  (R.blts.all fun x => eqN (PySem.W.nsIn K mainGlobals x)) &&
  (R.mths.all fun q => clsB K ((R.g K).cad q.1.1) && eqA (PySem.W.findIn K (.ref ((R.g K).cad q.1.1)) (R.an q.1.2)) (R.fad K q.2) && PySem.W.isFn K (.ref (R.fad K q.2)) && PySem.W.keepIn K (.ref (R.fad K q.2))) &&
  (R.ccons.all fun q => clsB K ((R.g K).cad q.1.1) && !(PySem.W.copiedNames.contains (R.an q.1.2)) && (match PySem.W.findIn K (.ref ((R.g K).cad q.1.1)) (R.an q.1.2) with
    | some (some u) => kval K 8 q.2 u && eqN (PySem.W.specialIn K u "__get__")
    | _ => false)) &&
  (R.noats.all fun q => clsB K ((R.g K).cad q.1) && eqN (PySem.W.findIn K (.ref ((R.g K).cad q.1)) (R.an q.2))) &&
  (R.inits.all fun q => PySem.W.makesIn K ((R.g K).cad q.1) && eqA (PySem.W.findIn K (.ref ((R.g K).cad q.1)) "__init__") (R.fad K q.2) && PySem.W.isFn K (.ref (R.fad K q.2)) && PySem.W.keepIn K (.ref ((R.g K).cad q.1))) &&
  (R.kits.all fun q => eqB (PySem.W.kitOne K (tagV (R.g K) q.1.1) (tyVal (R.g K) q.1.2)) q.2 && (match q.1.1 with
    | .ins c => insB K ((R.g K).cad c)
    | _ => true))
end Mi
end

section
set_option Elab.async false
set_option linter.all false
set_option maxRecDepth 100000
set_option maxHeartbeats 8000000
/-! Mi, part Q: from the row's Bools to its functions. -/
namespace Mi
open PySem PySem.Spec PyProof.Rows L2
theorem map_lookup {α β γ : Type} [BEq α] [LawfulBEq α] {f : β → γ} {k : α} : ∀ {l : List (α × β)} {v : β}, l.lookup k = some v → (k, v) ∈ l
  | (a, b) :: r, v, h => by
    rw [List.lookup_cons] at h
    cases q : k == a with
    | true =>
      rw [q] at h
      cases h
      rw [beq_iff_eq.mp q]
      exact List.mem_cons_self
    | false =>
      rw [q] at h
      exact List.mem_cons_of_mem _ (map_lookup (f := f) h)
theorem all_at {α : Type} {l : List α} {p : α → Bool} {i : Nat} {x : α} (h : l.all p = true) (e : l[i]? = some x) : p x = true := List.all_eq_true.mp h x (List.mem_of_getElem? e)
/-- the values of the defaults, by those of the row -/
theorem dv_rel {g : G} {K : PySem.W.Frag} {v : He.Dv} {u : Value} (h : dvOk v = true) (r : RelV (v.v K) u) (m : List Addr) (H : Hp) : RelU g m H (dvD v) u := by
  refine ⟨v.v K, ?_, r⟩
  cases v <;> first | exact .non | exact .bl _ | exact .int _ | exact .str _ | cases h
section
variable {κ κ' α : Type} [BEq κ] [LawfulBEq κ] [BEq κ'] [LawfulBEq κ'] {an : κ → κ'}
theorem lookup_map (inj : ∀ a b, an a = an b → a = b) (k : κ) : ∀ (ps : List κ) (vs : List α), ((ps.map an).zip vs).lookup (an k) = (ps.zip vs).lookup k
  | [], _ => by simp
  | p :: ps, [] => by simp
  | p :: ps, v :: vs => by
    rw [List.map_cons, List.zip_cons_cons, List.zip_cons_cons, List.lookup_cons, List.lookup_cons, lookup_map inj k ps vs]
    by_cases q : k = p
    · subst q
      simp
    · rw [beq_eq_false_iff_ne.mpr q, beq_eq_false_iff_ne.mpr fun z => q (inj _ _ z)]
theorem bindK_map (inj : ∀ a b, an a = an b → a = b) {ps : List κ} {np : Nat} {dfl : List (Option α)} {vs zs : List α} {ks : List κ} {ds : List α} (h : bindK ps np dfl vs ks zs = some ds) : bindK (ps.map an) np dfl vs (ks.map an) zs = some ds := by
  unfold bindK at h ⊢
  split at h
  · rename_i c
    simp only [Bool.and_eq_true, decide_eq_true_eq] at c
    have c2 : (decide (vs.length ≤ np) && decide ((ks.map an).length = zs.length) && (ks.map an).all fun k => ((ps.map an).drop vs.length).contains k) = true := by
      simp only [Bool.and_eq_true, decide_eq_true_eq, List.length_map]
      refine ⟨c.1, ?_⟩
      rw [List.all_map, List.all_eq_true]
      intro k hk
      have := List.all_eq_true.mp c.2 k hk
      have hm : k ∈ ps.drop vs.length := by simpa using this
      have : an k ∈ (ps.map an).drop vs.length := by
        rw [← List.map_drop]
        exact List.mem_map_of_mem hm
      simpa using this
    rw [if_pos c2]
    have go : ∀ (qs : List κ) (d : List (Option α)), mapO (fun p => (((ps.map an).zip vs ++ (ks.map an).zip zs).lookup p.1).or p.2) ((qs.map an).zip d) = mapO (fun p => ((ps.zip vs ++ ks.zip zs).lookup p.1).or p.2) (qs.zip d) := by
      intro qs
      induction qs with
      | nil => intro d; rfl
      | cons q qs ih =>
        intro d
        cases d with
        | nil => rfl
        | cons x d =>
          simp only [List.map_cons, List.zip_cons_cons, mapO, ih]
          have e : ((ps.map an).zip vs ++ (ks.map an).zip zs).lookup (an q) = (ps.zip vs ++ ks.zip zs).lookup q := by
            rw [List.lookup_append, List.lookup_append, lookup_map inj, lookup_map inj]
          rw [e]
    rw [go]
    exact h
  · cases h
end
theorem pappend {α β : Type} {R : α → β → Prop} : ∀ {xs xs' : List α} {ys ys' : List β}, Paired R xs ys → Paired R xs' ys' → Paired R (xs ++ xs') (ys ++ ys')
  | _, _, _, _, .nil, h => h
  | _, _, _, _, .cons h t, h' => .cons h (pappend t h')
/-- the def's promise about its binding -/
theorem fnl_of {g : G} {K : PySem.W.Frag} {a : Addr} {fd : Fd} {d : He.DefD} {data : FuncData} (inj : ∀ a b, g.an a = g.an b → a = b) (hdfl : fd.dfl = dflOf d)
    (F : FunD K d.name d.qual d.params d.body d.scope (d.dvs K) (d.kws K) a data) {as ko : List Arg} {kdx : List (Option Expr)} {ddx : List Expr} (hp : d.params = ⟨[], as, none, ko, kdx, none, ddx⟩) (h1 : fd.ps.map g.an = as.map (·.arg) ++ ko.map (·.arg)) (h2 : fd.np = as.length)
    (h3 : (as.map (·.arg) ++ ko.map (·.arg)).Nodup) (h4 : d.dfl.length ≤ as.length) (h5 : d.dfl.all dvOk = true) (h6 : d.kwd.all (fun q => dvOk q.2) = true) : FnL g K a fd data := by
  obtain ⟨oc, od, dV, kV, doc, pm, an, cdv, ct, osl, e0, lk, hcd, hD, hKw⟩ := F.ex
  -- the positional defaults' values
  obtain ⟨its, o, hits, ho, hlooks⟩ : ∃ (its : List Value) (o : Option (Array Value)), Vals (d.dvs K) its ∧ (o.getD #[]).toList = its ∧ ∀ (M : Model) (h : Heap), K.In h → PySem.W.Looks M h (seqItems? dV) o := by
    rcases hD with ⟨e1, e2⟩ | ⟨_, Ta, ob, its, n, rfl, lT, oT, rT⟩
    · refine ⟨[], none, by rw [e1]; exact .nil, rfl, fun M h _ => ?_⟩
      subst e2
      exact .of_pure rfl
    · refine ⟨its, some its.toArray, rT, rfl, fun M h X => ?_⟩
      have := looks_items (M := M) (k := pure) X lT oT (.of_pure rfl)
      rwa [bind_pure] at this
  -- the keyword-only defaults' values
  have kv : ∀ q ∈ d.kwd, ∃ u D, kV = .ref D ∧ PySem.W.nsIn K D q.1 = some (some u) ∧ RelV (q.2.v K) u := fun q hq => by
    rcases hKw with e | ⟨D, e, hq2⟩
    · exfalso
      have hl := congrArg List.length e
      unfold He.DefD.kws at hl
      rw [List.length_map] at hl
      cases hk : d.kwd with
      | nil => rw [hk] at hq; cases hq
      | cons _ _ => rw [hk] at hl; cases hl
    · obtain ⟨u, h1, h2⟩ := hq2 (q.1, q.2.v K) (List.mem_map.mpr ⟨q, hq, rfl⟩)
      exact ⟨u, D, e, h1, h2⟩
  have kdv : ∀ ko : List Arg, ∃ kd : List (Option Value), kd.length = ko.length ∧ Paired (OptRel fun d u => ∀ m H, RelU g m H d u) (ko.map fun a => (d.kwd.lookup a.arg).map dvD) kd ∧
      ∀ n v, (n, some v) ∈ (ko.map (·.arg)).zip kd → ∃ D, kV = .ref D ∧ ∀ (M : Model) (h : Heap), K.In h → PySem.W.Looks M h (nsGet D n) (some v) := by
    intro ko
    induction ko with
    | nil => exact ⟨[], rfl, .nil, fun n v h => by cases h⟩
    | cons b ko ih =>
      obtain ⟨kd, i1, i2, i3⟩ := ih
      cases e : d.kwd.lookup b.arg with
      | none =>
        refine ⟨none :: kd, congrArg Nat.succ i1, ?_, fun n v h => ?_⟩
        · rw [List.map_cons, e]
          exact .cons .none i2
        · rw [List.map_cons, List.zip_cons_cons] at h
          rcases List.mem_cons.mp h with h | h
          · cases h
          · exact i3 n v h
      | some dv =>
        have hm := map_lookup (f := fun x : He.Dv => x) e
        obtain ⟨u, D, e1, e2, e3⟩ := kv _ hm
        refine ⟨some u :: kd, congrArg Nat.succ i1, ?_, fun n v h => ?_⟩
        · rw [List.map_cons, e]
          exact .cons (.some fun m H => dv_rel (List.all_eq_true.mp h6 _ hm) e3 m H) i2
        · rw [List.map_cons, List.zip_cons_cons] at h
          rcases List.mem_cons.mp h with h | h
          · cases h
            exact ⟨D, e1, fun M h X => PySem.W.looks_nsIn X e2⟩
          · exact i3 n v h
  obtain ⟨kd, k1, k2, k3⟩ := kdv ko
  have hil : its.length = d.dfl.length := by
    rw [← hits.length]
    exact List.length_map ..
  refine ⟨F.kp, List.replicate (as.length - its.length) none ++ its.map some ++ kd, ?_, fun s us ws us' ks X nk hb => ?_⟩
  · rw [hdfl]
    unfold dflOf
    rw [hp]
    refine pappend (pappend ?_ ?_) k2
    · rw [hil]
      generalize as.length - d.dfl.length = n
      induction n with
      | zero => exact .nil
      | succ n ih => exact .cons .none ih
    · have : ∀ (l : List He.Dv) (us : List Value), l.all dvOk = true → Vals (l.map (He.Dv.v K)) us → Paired (OptRel fun d u => ∀ m H, RelU g m H d u) (l.map fun v => some (dvD v)) (us.map some) := by
        intro l
        induction l with
        | nil =>
          intro us _ h
          cases h
          exact .nil
        | cons v l ih =>
          intro us ha h
          rw [List.all_cons, Bool.and_eq_true] at ha
          cases h with
          | cons r rr => exact .cons (.some fun m H => dv_rel ha.1 r m H) (ih _ ha.2 rr)
      exact this d.dfl its h5 hits
  · refine BindsTo.of_looks fun M => ?_
    have hb2 := bindK_map inj hb
    rw [e0, hp, h1]
    rw [h1, h2] at hb2
    refine bind_plain h3 (hlooks M s.heap X) ho (by rw [hil]; exact h4) k1 ?_ (fun n v h => ?_) hb2
    · exact List.pairwise_map.mpr (nk.imp fun hne z => hne (inj _ _ z))
    · obtain ⟨D, h7, h8⟩ := k3 n v h
      exact ⟨D, h7, h8 M s.heap X⟩
end Mi
end

section
set_option Elab.async false
set_option linter.all false
set_option maxRecDepth 100000
set_option maxHeartbeats 8000000
/-! Mi, part R: a row's functions; the law's end. -/
namespace Mi
open PySem PySem.Spec PyProof.Rows L2
def noneFd : FuncData := PySem.W.fnOf Str.empty Str.empty ⟨[], [], none, [], [], none, []⟩ [] ⟨.function, [], false, false, []⟩ .none .none .none .none none .none .none
/-- the function object's data at a -/
def datOf (K : PySem.W.Frag) (a : Addr) : FuncData := match K.lookup a with
  | some ⟨_, _, .func fd, _⟩ => fd
  | _ => noneFd
theorem dat_of {K : PySem.W.Frag} {x qual : Str} {params : Arguments} {body : List Stmt} {scope : Scope} {dvs : List V} {kws : List (Str × V)} {a : Addr} {fd : FuncData} (F : FunD K x qual params body scope dvs kws a fd) : datOf K a = fd := by
  obtain ⟨oc, od, dV, kV, doc, pm, an, cdv, ct, osl, _, lk, _⟩ := F.ex
  unfold datOf
  rw [lk]
section
variable {R : Rw} {K : PySem.W.Frag} {h : Heap} {mg : Str → Option Value}
theorem fn_get {f : Nat} {fd : Fd} (e : (R.T).fn f = some fd) : ∃ d N, R.fns[f]? = some (fd, d, N) := by
  have e : R.fns[f]?.map (·.1) = some fd := e
  cases q : R.fns[f]? with
  | none => rw [q] at e; cases e
  | some z =>
    rw [q] at e
    obtain ⟨fd', d, N⟩ := z
    cases e
    exact ⟨d, N, rfl⟩
theorem fad_eq {f : Nat} {z : Fd × He.DefD × List Str} (e : R.fns[f]? = some z) : R.fad K f = He.fAd K z.2.1.at_ := by
  unfold Rw.fad
  rw [e]
theorem par_of {fd : Fd} {d : He.DefD} (h : parB R fd d = true) : ∃ (as ko : List Arg) (kdx : List (Option Expr)) (ddx : List Expr), d.params = ⟨[], as, none, ko, kdx, none, ddx⟩ ∧ fd.ps.map R.an = as.map (·.arg) ++ ko.map (·.arg) ∧ fd.np = as.length ∧
    (as.map (·.arg) ++ ko.map (·.arg)).Nodup ∧ d.dfl.length ≤ as.length ∧ d.dfl.all dvOk = true ∧ d.kwd.all (fun q => dvOk q.2) = true := by
  unfold parB at h
  split at h
  · rename_i as ko kdx ddx e
    simp only [Bool.and_eq_true, decide_eq_true_eq] at h
    obtain ⟨⟨⟨⟨⟨h1, h2⟩, h3⟩, h4⟩, h5⟩, h6⟩ := h
    exact ⟨as, ko, kdx, ddx, e, h1, h2, h3, h4, h5, h6⟩
  · cases h
/-- the links -/
theorem row_lk (X : K.In h) (G0 : h.Ns mainGlobals mg) (hd : ∀ z ∈ R.fns, ∃ fd, FunD K z.2.1.name z.2.1.qual z.2.1.params z.2.1.body z.2.1.scope (z.2.1.dvs K) (z.2.1.kws K) (He.fAd K z.2.1.at_) fd) (hdf : ∀ z ∈ R.fns, z.1.dfl = dflOf z.2.1) (ok : R.ok = true) (ck : rowK R K = true) :
    Lk (R.g K) R.T R.cf K mg fun f => datOf K (R.fad K f) := by
  simp only [Rw.ok, Bool.and_eq_true] at ok
  obtain ⟨ok1, ok2⟩ := ok
  simp only [rowK, Bool.and_eq_true] at ck
  obtain ⟨⟨⟨⟨⟨⟨⟨⟨c1, c2⟩, c3⟩, c4⟩, c5⟩, c6⟩, c7⟩, c8⟩, c9⟩ := ck
  have inj := an_inj ok1
  refine ⟨rfl, inj, fun f fd e => ?_, fun f hf => ?_, fun k d e => ?_, fun x hx => ?_, fun c hc => ?_, fun c n hn => ?_, fun c n f e => ?_, fun c n d e => ?_, fun c n f e => ?_, fun c f e => ?_, fun t y b e => ?_, fun c y b e => ?_⟩
  · obtain ⟨d, N, e1⟩ := fn_get e
    have hm := List.mem_of_getElem? e1
    obtain ⟨data, F⟩ := hd _ hm
    have b1 := all_at ok2 e1
    simp only [fnB, Bool.and_eq_true] at b1
    obtain ⟨as, ko, kdx, ddx, p1, p2, p3, p4, p5, p6, p7⟩ := par_of b1.1.1.1
    have ea : R.fad K f = He.fAd K d.at_ := fad_eq e1
    show FnL (R.g K) K (R.fad K f) fd (datOf K (R.fad K f)) ∧ _
    rw [ea, dat_of F]
    refine ⟨fnl_of (g := R.g K) inj (hdf _ hm) F p1 p2 p3 p4 p5 p6 p7, ?_⟩
    rw [hdf _ hm]
    have l1 := congrArg List.length p2
    simp only [List.length_map, List.length_append] at l1
    unfold dflOf
    rw [p1, l1]
    simp only [List.length_append, List.length_replicate, List.length_map]
    omega
  · have hf : R.glob.contains f = true := hf
    have hm : f ∈ R.glob := by simpa using hf
    obtain ⟨_, h2⟩ := List.mem_filter.mp hm
    cases q : R.fns[f]? with
    | none => rw [q] at h2; cases h2
    | some z =>
      rw [q] at h2
      have b := all_at c1 q
      have h2 : z.2.1.at_.2.isNone = true := h2
      rw [h2] at b
      have e1 : PySem.W.nsIn K mainGlobals z.2.1.at_.1 = _ := eqA_ok b
      have e2 := PySem.W.mg_of X G0 e1
      show mg (match R.fns[f]? with | some q => q.2.1.at_.1 | none => Str.empty) = some (.ref (R.fad K f))
      rw [fad_eq q, q]
      exact e2
  · have e : R.kns[k]?.map (·.2) = some d := e
    cases q : R.kns[k]? with
    | none => rw [q] at e; cases e
    | some z =>
      rw [q] at e
      cases e
      have b := all_at c3 q
      split at b
      · rename_i u e1
        obtain ⟨v, r1, r2⟩ := kval_ok (g := R.g K) 8 z.2 u b
        refine ⟨u, v, ?_, r1, r2⟩
        show mg (match R.kns[k]? with | some q => q.1 | none => Str.empty) = some u
        rw [q]
        exact PySem.W.mg_of X G0 e1
      · cases b
  · have hm : x ∈ R.blts := by
      have hx : R.blts.contains x = true := hx
      simpa using hx
    exact PySem.W.mg_none_of X G0 (eqN_ok (List.all_eq_true.mp c4 x hm))
  · have hm : c < R.cns.length := by
      have hc : (List.range R.cns.length).contains c = true := hc
      simpa using hc
    have e1 : R.cns.getD c Str.empty = R.cns[c] := by simp [List.getD, hm]
    show mg (R.cns.getD c Str.empty) = some (.ref (He.ga K (R.cns.getD c Str.empty)))
    rw [e1]
    exact PySem.W.mg_of X G0 (eqA_ok (List.all_eq_true.mp c2 _ (List.getElem_mem hm)))
  · have hm : (c, n) ∈ R.noats := by
      have hn : R.noats.contains (c, n) = true := hn
      simpa using hn
    have b := List.all_eq_true.mp c7 _ hm
    simp only [Bool.and_eq_true] at b
    exact ⟨clsB_ok b.1, eqN_ok b.2⟩
  · have b := List.all_eq_true.mp c5 _ (map_lookup (f := fun x : Nat => x) e)
    simp only [Bool.and_eq_true] at b
    exact ⟨clsB_ok b.1.1.1, eqA_ok b.1.1.2, b.1.2, b.2⟩
  · have b := List.all_eq_true.mp c6 _ (map_lookup (f := fun x : D => x) e)
    simp only [Bool.and_eq_true, Bool.not_eq_true'] at b
    obtain ⟨⟨b1, b2⟩, b3⟩ := b
    split at b3
    · rename_i u e1
      simp only [Bool.and_eq_true] at b3
      obtain ⟨v, r1, r2⟩ := kval_ok (g := R.g K) 8 d u b3.1
      exact ⟨u, v, clsB_ok b1, ⟨e1, r1, eqN_ok b3.2, b2⟩, r2⟩
    · cases b3
  · cases e
  · have b := List.all_eq_true.mp c8 _ (map_lookup (f := fun x : Nat => x) e)
    simp only [Bool.and_eq_true] at b
    exact ⟨b.1.1.1, eqA_ok b.1.1.2, b.1.2, b.2⟩
  · have b := List.all_eq_true.mp c9 _ (map_lookup (f := fun x : Bool => x) e)
    simp only [Bool.and_eq_true] at b
    exact eqB_ok b.1
  · have b := List.all_eq_true.mp c9 _ (map_lookup (f := fun x : Bool => x) e)
    simp only [Bool.and_eq_true] at b
    exact insB_ok b.2
theorem row_fns (wf : Nat) (X : K.In h) (G0 : h.Ns mainGlobals mg) (hd : ∀ z ∈ R.fns, ∃ fd, FunD K z.2.1.name z.2.1.qual z.2.1.params z.2.1.body z.2.1.scope (z.2.1.dvs K) (z.2.1.kws K) (He.fAd K z.2.1.at_) fd) (hdf : ∀ z ∈ R.fns, z.1.dfl = dflOf z.2.1) (ok : R.ok = true) (ck : rowK R K = true)
    {P : Program} {w : World} {base : Heap} (n f : Nat) (fd : Fd) (e : (R.T).fn f = some fd) :
    FnOk P w K mg base (L2.CX P w) (2 * n) (R.fad K f) (datOf K (R.fad K f)) (fd.ps.map R.an) (spM (R.g K) fd.ps.length (callN R.T wf n f)) := by
  refine all_fns (g := R.g K) (wf := wf) rfl (row_lk X G0 hd hdf ok ck) (fun f fd e => ?_) n f fd e
  obtain ⟨d, N, e1⟩ := fn_get e
  have hm := List.mem_of_getElem? e1
  obtain ⟨data, F⟩ := hd _ hm
  simp only [Rw.ok, Bool.and_eq_true] at ok
  have b1 := all_at ok.2 e1
  simp only [fnB, Bool.and_eq_true, decide_eq_true_eq] at b1
  obtain ⟨⟨⟨b1, b2⟩, b3⟩, b4⟩ := b1
  refine ⟨N, d.body, d.scope, ⟨⟨d.name, d.qual, d.params, d.dvs K, d.kws K, ?_⟩, scope_ok b2, b3⟩, fun C k X W c n => okSs fd.body _ _ n c b4⟩
  show FunD K _ _ _ _ _ _ _ (R.fad K f) (datOf K (R.fad K f))
  have ea : R.fad K f = He.fAd K d.at_ := fad_eq e1
  rw [ea, dat_of F]
  exact F
end
/-- a law's walk, what leaves a def by the world -/
theorem walk_ofW {l : PySem.W.OpenLaw} {n k : Nat} {q : Program} {loose : List Str} {XP : (Str → Option Value) → Heap → Prop} {YP : World → Heap → Prop} {d : DefRec} {x : Str} (hn : l.most = some n) (hn2 : n ≤ sizeLine) (hdf : d.params.defaults = [])
    (hr : Room k callerA)
    (F : ∀ (w : World) (mg : Str → Option Value) (fa : Addr) (h : Heap), YP w h → h.Ns mainGlobals mg → mg d.name = some (.ref fa) → ∃ (K : PySem.W.Frag) (fd : FuncData) (sp : Sp), K.In h ∧ (∀ (s : Shared) (u : Value), BindsTo s fd ⟨[u], []⟩ [(x, u)]) ∧
      (∀ (H : Hp) (a : Addr) (ns : List Int), ns.length ≤ n → (∀ z ∈ ns, Builtin.Int.intBits z ≤ 1048576) → Only H → SqL K H a (ns.map V.int) → sp [.ref a] H (fun v _ => v = .bl true) fun _ _ _ => False) ∧ ∀ base : Heap, FnOk l.prog w K mg base (L2.CX l.prog w) k fa fd [x] sp) :
    PySem.W.WalkO q loose XP YP l.row.toRowW d [] (fun f vs => PySem.call f vs) := by
  refine Att.attach_callB hn hdf fun w s0 s1 mg mb fa o pm cd doc a vs ns G0 Y ho hd hcd hmg hobj hints hlen hbits hg => ?_
  obtain ⟨K, fd, sp, KX, hb, hsp, hF⟩ := F w mg fa _ Y G0.T.g hmg
  refine law_call KX G0.T.g G0.T.b G0.T.builtins G0.T.nolimit hg hobj hints (Nat.le_trans hlen hn2) hr (fun base _ _ => hF base) hb (fun H hO hS => hsp H a ns hlen hbits hO hS) fun H e s' hc => ?_
  obtain ⟨_, _, _, _, _, _, _, _, _, _, _, _, z⟩ := hc
  exact z
end Mi
end

section
set_option Elab.async false
set_option linter.all false
set_option maxRecDepth 100000
set_option maxHeartbeats 4000000
/-! Mi, part T: running the evaluator. -/
namespace Mi
open PySem PySem.Spec L2
/-- r comes to a value, of which Q (a structure, lest a goal be computed where it is only looked at) -/
structure Runs {α : Type} (r : Res α) (Q : α → MH → Prop) : Prop where
  get : ∃ a L, r = .ok a L ∧ Q a L
section
variable {α β : Type} {r : Res α} {Q Q' : α → MH → Prop} {Q2 : β → MH → Prop} {a : α} {L : MH} {ρ : Loc}
theorem Runs.ok (h : Q a L) : Runs (.ok a L) Q := ⟨a, L, rfl, h⟩
theorem Runs.of (h : Runs (.ok a L) Q) : Q a L := by
  obtain ⟨b, L1, e, q⟩ := h.get
  cases e
  exact q
theorem runs_ok : Runs (.ok a L) Q = Q a L := propext ⟨Runs.of, Runs.ok⟩
theorem runs_exc {c : Nat} {fs : List (Nat × D)} : ¬ Runs (.exc c fs L) Q := fun h => by
  obtain ⟨b, L1, e, q⟩ := h.get
  cases e
theorem runs_stk : ¬ Runs .stk Q := fun h => by
  obtain ⟨b, L1, e, q⟩ := h.get
  cases e
theorem runs_bind {f : α → M β} : Runs (r.bind f) Q2 = Runs r fun a L => Runs (f a L) Q2 := by
  cases r with
  | ok a L =>
    rw [runs_ok]
    rfl
  | exc c fs L => exact propext ⟨fun h => (runs_exc h).elim, fun h => (runs_exc h).elim⟩
  | stk => exact propext ⟨fun h => (runs_stk h).elim, fun h => (runs_stk h).elim⟩
theorem runs_quiet : Runs r.quiet Q = Runs r Q := by
  cases r with
  | ok a L => rfl
  | exc c fs L => exact propext ⟨fun h => (runs_stk h).elim, fun h => (runs_exc h).elim⟩
  | stk => rfl
theorem Runs.bindX {f : α → M Fl} {Q2 : Fl → MH → Prop} (h : Runs r fun a L => Runs (f a L) Q2) : Runs (r.bindX ρ f) Q2 := by
  cases r with
  | ok a L => exact h.of
  | exc c fs L => exact (runs_exc h).elim
  | stk => exact (runs_stk h).elim
theorem Runs.imp (h : Runs r Q) (k : ∀ a L, Q a L → Q' a L) : Runs r Q' := by
  obtain ⟨a, L, e, q⟩ := h.get
  exact ⟨a, L, e, k a L q⟩
end
section
variable {T : Tb} {C : Nat → List D → M D} {wf : Nat} {ρ : Loc} {L : MH}
/-- how a block goes on -/
def Then (Q : Fl → MH → Prop) (k : Loc → M Fl) : Fl → MH → Prop := fun fl L => match fl with
  | .nx ρ => Runs (k ρ L) Q
  | fl => Q fl L
theorem go_nil {Q : Fl → MH → Prop} (h : Q (.nx ρ) L) : Runs (exSs T C wf .nil ρ L) Q := ⟨_, _, rfl, h⟩
theorem go_cons {s : Sm} {r : Sms} {Q : Fl → MH → Prop} (h : Runs (exS T C wf s ρ L) (Then Q (exSs T C wf r))) : Runs (exSs T C wf (.cons s r) ρ L) Q := by
  simp only [exSs, runs_bind]
  refine h.imp fun fl L1 q => ?_
  cases fl <;> first | exact q | exact Runs.ok q
theorem go_asg {t : Tg} {e : Ex} {Q : Fl → MH → Prop} (h : Runs (evE T C e ρ L) fun d L1 => Runs (puT T C t d ρ L1) fun ρ1 L2 => Q (.nx ρ1) L2) : Runs (exS T C wf (.asg t e) ρ L) Q := by
  simp only [exS]
  refine Runs.bindX (h.imp fun d L1 q => ?_)
  rw [runs_bind, runs_quiet]
  exact q.imp fun ρ1 L2 z => Runs.ok z
theorem go_var {i : Nat} {e : Ex} {Q : Fl → MH → Prop} (h : Runs (evE T C e ρ L) fun d L1 => Q (.nx (ρ.set i (some d))) L1) : Runs (exS T C wf (.asg (.var i) e) ρ L) Q := go_asg (h.imp fun d L1 q => Runs.ok q)
theorem go_expr {e : Ex} {Q : Fl → MH → Prop} (h : Runs (evE T C e ρ L) fun d L1 => Q (.nx ρ) L1) : Runs (exS T C wf (.expr e) ρ L) Q := by
  simp only [exS]
  exact Runs.bindX (h.imp fun d L1 q => Runs.ok q)
theorem go_ret {e : Ex} {Q : Fl → MH → Prop} (h : Runs (evE T C e ρ L) fun d L1 => Q (.rt d) L1) : Runs (exS T C wf (.ret e) ρ L) Q := by
  simp only [exS]
  exact Runs.bindX (h.imp fun d L1 q => Runs.ok q)
theorem go_if {e : Ex} {a b : Sms} {Q : Fl → MH → Prop} (h : Runs (evB T C e ρ L) fun k L1 => Runs (if k then exSs T C wf a ρ L1 else exSs T C wf b ρ L1) Q) : Runs (exS T C wf (.ife e a b) ρ L) Q := by
  simp only [exS]
  refine Runs.bindX (h.imp fun d L1 q => ?_)
  cases d <;> exact q
theorem go_par {is : List Nat} {es : Exs} {Q : Fl → MH → Prop} (h : Runs (evEs T C es ρ L) fun ds L1 => is.length = ds.length ∧ Q (.nx (setAll ρ is ds)) L1) : Runs (exS T C wf (.par is es) ρ L) Q := by
  simp only [exS]
  refine Runs.bindX (h.imp fun ds L1 q => ?_)
  rw [if_pos q.1]
  exact Runs.ok q.2
theorem go_for {t : Tg} {it : It} {b : Sms} {Q : Fl → MH → Prop} (h : Runs (evI T C it ρ L) fun w L1 => Runs (forL (exSs T C wf b) (puT T C t) w (w.len L1) 0 ρ L1) Q) : Runs (exS T C wf (.fr t it b) ρ L) Q := by
  simp only [exS]
  exact Runs.bindX h
/-- what is wanted behind a body -/
def After (Q : D → MH → Prop) : Fl → MH → Prop := fun fl L => match fl with
  | .nx _ => Q .non L
  | .rt d => Q d L
  | _ => False
theorem after_rt {Q : D → MH → Prop} {d : D} {L : MH} : After Q (.rt d) L = Q d L := rfl
theorem after_nx {Q : D → MH → Prop} {ρ : Loc} {L : MH} : After Q (.nx ρ) L = Q .non L := rfl
/-- a call of a def -/
theorem go_def {n f : Nat} {fd : Fd} {ds : List D} {Q : D → MH → Prop} (e : T.fn f = some fd) (hl : ds.length = fd.ps.length)
    (h : Runs (exSs T (callN T wf n) wf fd.body (ds.map some ++ List.replicate (fd.ns - ds.length) none) L) (After Q)) : Runs (callN T wf (n + 1) f ds L) Q := by
  unfold callN
  rw [e]
  simp only [hl, if_true]
  unfold runD
  rw [runs_bind, runs_quiet, hl] at *
  refine h.imp fun fl L1 q => ?_
  cases fl <;> first | exact Runs.ok q | exact q.elim
end
/-! ### equations by constructors -/
section
variable {L : MH} {i j : Int} {s t : Str} {xs ys : List D} {a b k : Nat} {d e : D} {p q : Bool}
theorem b_add : binD .add (.int i) (.int j) L = .ok (.int (i + j)) L := rfl
theorem b_sub : binD .sub (.int i) (.int j) L = .ok (.int (i - j)) L := rfl
theorem b_adds : binD .add (.str s) (.str t) L = if sizeOkB (s.length + t.length) then .ok (.str (s ++ t)) L else .stk := rfl
theorem b_addt : binD .add (.tup xs) (.tup ys) L = if sizeOkB (xs.length + ys.length) then .ok (.tup (xs ++ ys)) L else .stk := rfl
theorem b_addl : binD .add (.ref a) (.ref b) L = (match L[a]?, L[b]? with
    | some (.lst xs), some (.lst ys) => if sizeOkB (xs.length + ys.length) then newL (xs ++ ys) L else .stk
    | _, _ => .stk) := rfl
theorem b_mul : binD .mul (.int i) (.int j) L = if okI i || okI j then .ok (.int (i * j)) L else .stk := rfl
theorem b_fdiv : binD .fdiv (.int i) (.int j) L = if decide (j ≠ 0) && decide (j.natAbs < 1073741824) then .ok (.int (i.fdiv j)) L else .stk := rfl
theorem b_mod : binD .mod (.int i) (.int j) L = if decide (j ≠ 0) then .ok (.int (i.fmod j)) L else .stk := rfl
theorem b_pow : binD .pow (.int i) (.int j) L = if decide (0 ≤ j) && decide (j ≤ 1000000) && decide (i.natAbs < 2 ^ 64) then .ok (.int (i ^ j.toNat)) L else .stk := rfl
theorem c_eq : cmpD L .Eq d e = eqD L d e := rfl
theorem c_ne : cmpD L .NotEq d e = (eqD L d e).map (!·) := rfl
theorem c_in : cmpD L .In d e = inD L d e := rfl
theorem c_nin : cmpD L .NotIn d e = (inD L d e).map (!·) := rfl
theorem c_lt : cmpD L .Lt (.int i) (.int j) = some (decide (i < j)) := rfl
theorem c_le : cmpD L .LtE (.int i) (.int j) = some (decide (i ≤ j)) := rfl
theorem c_gt : cmpD L .Gt (.int i) (.int j) = some (decide (j < i)) := rfl
theorem c_ge : cmpD L .GtE (.int i) (.int j) = some (decide (j ≤ i)) := rfl
theorem e_ii : eqD L (.int i) (.int j) = some (decide (i = j)) := rfl
theorem e_ss : eqD L (.str s) (.str t) = some (decide (s = t)) := rfl
theorem e_bb : eqD L (.bl p) (.bl q) = some (decide (p = q)) := rfl
theorem t_bl : truD L (.bl p) = some p := rfl
theorem t_int : truD L (.int i) = some (i != 0) := rfl
theorem t_non : truD L .non = some false := rfl
theorem t_str : truD L (.str s) = if sizeOkB s.length then some (s.length != 0) else none := rfl
theorem t_ref : truD L (.ref a) = (match L[a]? with
    | some (.lst xs) => some (!xs.isEmpty)
    | _ => none) := by
  cases h : L[a]? with
  | none => simp [truD, seqD, h]
  | some o => cases o <;> simp [truD, seqD, h]
theorem t_tup : truD L (.tup xs) = some (!xs.isEmpty) := rfl
theorem s_ref : seqD L (.ref a) = (match L[a]? with
    | some (.lst xs) => some xs
    | _ => none) := rfl
theorem s_tup : seqD L (.tup xs) = some xs := rfl
theorem s_fzl : seqD L (.fzl xs) = some xs := rfl
theorem l_ref : listD L (.ref a) = (match L[a]? with
    | some (.lst xs) => some xs
    | _ => none) := rfl
theorem l_fzl : listD L (.fzl xs) = some xs := rfl
theorem l_tup : listD L (.tup xs) = none := rfl
theorem i_ref : ixD L (.ref a) (.int i) = (match L[a]? with
    | some (.lst xs) => atI xs i
    | _ => none) := by
  cases h : L[a]? with
  | none => simp [ixD, seqD, h]
  | some o => cases o <;> simp [ixD, seqD, h]
theorem i_tup : ixD L (.tup xs) (.int i) = atI xs i := rfl
theorem i_fzl : ixD L (.fzl xs) (.int i) = atI xs i := rfl
theorem i_str : ixD L (.str s) (.int i) = if sizeOkB s.length then (atI s.cps.toList i).map fun c => .str ⟨#[c]⟩ else none := rfl
theorem put_ref : setItemD (.ref a) (.int i) d L = (match L[a]? with
    | some (.lst xs) => (match ixN xs.length i with
      | some j => .ok () (L.set a (.lst (xs.set j d)))
      | none => .stk)
    | _ => .stk) := rfl
theorem slq_fzl {lo hi : Option Int} : slD (.fzl xs) lo hi L = newL (cutD xs lo hi) L := rfl
theorem slq_str {lo hi : Option Int} : slD (.str s) lo hi L = if sizeOkB s.length then .ok (.str (Txt.slice s lo hi)) L else .stk := rfl
theorem new_l : newL xs L = .ok (.ref L.length) (L ++ [.lst xs]) := rfl
theorem int_d : intD (.int i) = some i := rfl
theorem src_fzl : srcOf L (.fzl xs) = some (.val xs) := rfl
theorem src_tup : srcOf L (.tup xs) = some (.val xs) := rfl
theorem src_str : srcOf L (.str s) = if sizeOkB s.length then some (.val (s.cps.toList.map fun c => .str ⟨#[c]⟩)) else none := rfl
theorem src_ref : srcOf L (.ref a) = (match L[a]? with
    | some (.lst _) => some (.lst a)
    | _ => none) := rfl
theorem get_snoc {o : O} : (L ++ [o])[L.length]? = some o := by simp
theorem n_len_s : biD .len [.str s] L = if sizeOkB s.length then .ok (.int s.length) L else .stk := rfl
theorem n_len_t : biD .len [.tup xs] L = .ok (.int xs.length) L := rfl
theorem n_len_r : biD .len [.ref a] L = (match L[a]? with
    | some (.lst xs) => .ok (.int xs.length) L
    | _ => .stk) := by
  cases h : L[a]? with
  | none => simp [biD, seqD, h]
  | some o => cases o <;> simp [biD, seqD, h]
theorem n_len_f : biD .len [.fzl xs] L = .ok (.int xs.length) L := rfl
theorem n_int_i : biD .int1 [.int i] L = .ok (.int i) L := rfl
theorem n_int_b : biD .int1 [.bl p] L = .ok (.int (if p then 1 else 0)) L := rfl
theorem n_int_s : biD .int1 [.str s] L = if decide (s.length ≤ 640) then (match PySem.intText? s with
    | some n => .ok (.int n) L
    | none => .stk) else .stk := rfl
theorem n_abs : biD .abs [.int i] L = .ok (.int (if i < 0 then -i else i)) L := rfl
theorem n_tup_r : biD .tuple1 [.ref a] L = (match L[a]? with
    | some (.lst xs) => .ok (.tup xs) L
    | _ => .stk) := by
  cases h : L[a]? with
  | none => simp [biD, listD, h]
  | some o => cases o <;> simp [biD, listD, h]
theorem n_lst_r : biD .list1 [.ref a] L = (match L[a]? with
    | some (.lst xs) => newL xs L
    | _ => .stk) := by
  cases h : L[a]? with
  | none => simp [biD, seqD, h]
  | some o => cases o <;> simp [biD, seqD, h]
theorem n_str_i : biD .str1 [.int i] L = if decide (i.natAbs.log2 < 1920) then .ok (.str (toString i)) L else .stk := rfl
theorem n_str_s : biD .str1 [.str s] L = .ok (.str s) L := rfl
theorem nn_non : isNon .non = true := rfl
theorem nn_int : isNon (.int i) = false := rfl
theorem nn_str : isNon (.str s) = false := rfl
theorem nn_bl : isNon (.bl p) = false := rfl
theorem nn_tup : isNon (.tup xs) = false := rfl
theorem nn_ref : isNon (.ref a) = false := rfl
theorem tag_is_str : tagOf L (.str s) = some .str := rfl
theorem tag_is_int : tagOf L (.int i) = some .int := rfl
theorem tag_is_bl : tagOf L (.bl p) = some .bl := rfl
theorem tag_is_non : tagOf L .non = some .non := rfl
theorem tag_is_tup : tagOf L (.tup xs) = some .tup := rfl
theorem tag_is_ref : tagOf L (.ref a) = (match L[a]? with
    | some (.lst _) => some .lst
    | some (.ins c _) => some (.ins c)
    | none => none) := rfl
end
section
variable {T : Tb} {C : Nat → List D → M D} {ρ : Loc} {a b c e o2 : Ex} {es kes : Exs}
theorem ev_var {i : Nat} : evE T C (.var i) ρ = ((match ρ[i]? with
    | some (some d) => ret d
    | _ => stuck)) := by simp only [evE] <;> rfl
theorem ev_cint {i : Int} : evE T C (.cint i) ρ = (ret (.int i)) := by simp only [evE] <;> rfl
theorem ev_cstr {s : Str} : evE T C (.cstr s) ρ = (ret (.str s)) := by simp only [evE] <;> rfl
theorem ev_cbl {b : Bool} : evE T C (.cbl b) ρ = (ret (.bl b)) := by simp only [evE] <;> rfl
theorem ev_cnon  : evE T C (.cnon) ρ = (ret .non) := by simp only [evE] <;> rfl
theorem ev_gcon {k : Nat} : evE T C (.gcon k) ρ = (must (T.con k)) := by simp only [evE] <;> rfl
theorem ev_bop {o : BOp} {a : Ex} {b : Ex} : evE T C (.bop o a b) ρ = (fun L => (evE T C a ρ L).bind fun d L1 => (evE T C b ρ L1).bind fun e L2 => binD o d e L2) := by simp only [evE] <;> rfl
theorem ev_neg {a : Ex} : evE T C (.neg a) ρ = (fun L => (evE T C a ρ L).bind fun d => must (negD d)) := by simp only [evE] <;> rfl
theorem ev_cmp {o : CmpOp} {a : Ex} {b : Ex} : evE T C (.cmp o a b) ρ = (fun L => (evE T C a ρ L).bind fun d L1 => (evE T C b ρ L1).bind fun e L2 => must ((cmpD L2 o d e).map .bl) L2) := by simp only [evE] <;> rfl
theorem ev_isn {a : Ex} : evE T C (.isn a) ρ = (fun L => (evE T C a ρ L).bind fun d => ret (.bl (isNon d))) := by simp only [evE] <;> rfl
theorem ev_nisn {a : Ex} : evE T C (.nisn a) ρ = (fun L => (evE T C a ρ L).bind fun d => ret (.bl (!isNon d))) := by simp only [evE] <;> rfl
theorem ev_chain {o : CmpOp} {p : CmpOp} {a : Ex} {b : Ex} {c : Ex} : evE T C (.chain o p a b c) ρ = (fun L => (evE T C a ρ L).bind fun d L1 => (evE T C b ρ L1).bind fun e L2 => (match cmpD L2 o d e with
    | some true => (evE T C c ρ L2).bind fun f L3 => must ((cmpD L3 p e f).map .bl) L3
    | some false => .ok (.bl false) L2
    | none => .stk)) := by simp only [evE] <;> rfl
theorem ev_and {a : Ex} {b : Ex} : evE T C (.and a b) ρ = (fun L => (evE T C a ρ L).bind fun d L1 => (match truD L1 d with
    | some true => evE T C b ρ L1
    | some false => .ok d L1
    | none => .stk)) := by simp only [evE] <;> rfl
theorem ev_or {a : Ex} {b : Ex} : evE T C (.or a b) ρ = (fun L => (evE T C a ρ L).bind fun d L1 => (match truD L1 d with
    | some true => .ok d L1
    | some false => evE T C b ρ L1
    | none => .stk)) := by simp only [evE] <;> rfl
theorem ev_not {a : Ex} : evE T C (.not a) ρ = (fun L => (evE T C a ρ L).bind fun d L1 => must ((truD L1 d).map fun b => .bl (!b)) L1) := by simp only [evE] <;> rfl
theorem ev_ife {c : Ex} {a : Ex} {b : Ex} : evE T C (.ife c a b) ρ = (fun L => (evE T C c ρ L).bind fun d L1 => (match truD L1 d with
    | some true => evE T C a ρ L1
    | some false => evE T C b ρ L1
    | none => .stk)) := by simp only [evE] <;> rfl
theorem ev_tup {es : Exs} : evE T C (.tup es) ρ = (fun L => (evEs T C es ρ L).bind fun ds => if sizeOkB ds.length then ret (.tup ds) else stuck) := by simp only [evE] <;> rfl
theorem ev_lst {es : Exs} : evE T C (.lst es) ρ = (fun L => (evEs T C es ρ L).bind fun ds => if sizeOkB ds.length then newL ds else stuck) := by simp only [evE] <;> rfl
theorem ev_ix {a : Ex} {i : Ex} : evE T C (.ix a i) ρ = (fun L => (evE T C a ρ L).bind fun d L1 => (evE T C i ρ L1).bind fun e L2 => must (ixD L2 d e) L2) := by simp only [evE] <;> rfl
theorem ev_sl {a : Ex} {lo : Ox} {hi : Ox} : evE T C (.sl a lo hi) ρ = (fun L => (evE T C a ρ L).bind fun d L1 => (evO T C lo ρ L1).bind fun l L2 => (evO T C hi ρ L2).bind fun h L3 => slD d l h L3) := by simp only [evE] <;> rfl
theorem ev_call {f : Nat} {es : Exs} {ks : List Nat} {kes : Exs} : evE T C (.call f es ks kes) ρ = (fun L => (evEs T C es ρ L).bind fun ds L1 => (evEs T C kes ρ L1).bind fun zs => callD T C f ds ks zs) := by simp only [evE] <;> rfl
theorem ev_meth {o : Ex} {n : Nat} {es : Exs} {ks : List Nat} {kes : Exs} : evE T C (.meth o n es ks kes) ρ = (fun L => (evE T C o ρ L).bind fun d L1 => (match insOf L1 d with
    | some (c, fs) => (match fs.lookup n, T.meth c n with
      | none, some f => (evEs T C es ρ L1).bind fun ds L2 => (evEs T C kes ρ L2).bind fun zs => callD T C f (d :: ds) ks zs
      | _, _ => .stk)
    | none => .stk)) := by simp only [evE] <;> rfl
theorem ev_make {c : Nat} {es : Exs} {ks : List Nat} {kes : Exs} : evE T C (.make c es ks kes) ρ = (fun L => (evEs T C es ρ L).bind fun ds L1 => (evEs T C kes ρ L1).bind fun zs => makeD T C c ds ks zs) := by simp only [evE] <;> rfl
theorem ev_attr {o : Ex} {n : Nat} : evE T C (.attr o n) ρ = (fun L => (evE T C o ρ L).bind fun d => attrD T C d n) := by simp only [evE] <;> rfl
theorem ev_bi {b : Bi} {es : Exs} : evE T C (.bi b es) ρ = (fun L => (evEs T C es ρ L).bind fun ds => biD b ds) := by simp only [evE] <;> rfl
theorem ev_bm {b : Bm} {o : Ex} {es : Exs} : evE T C (.bm b o es) ρ = (fun L => (evE T C o ρ L).bind fun d L1 => if tagOf L1 d = some (bmTag b) then (evEs T C es ρ L1).bind fun ds => bmD b d ds else .stk) := by simp only [evE] <;> rfl
theorem ev_isin {a : Ex} {ts : List Ty} : evE T C (.isin a ts) ρ = (fun L => (evE T C a ρ L).bind fun d L1 => must ((isinD T L1 d ts).map .bl) L1) := by simp only [evE] <;> rfl
theorem ev_fstr {es : Exs} : evE T C (.fstr es) ρ = (fun L => (evFs T C es Str.empty ρ L).bind fun s => ret (.str s)) := by simp only [evE] <;> rfl
end
theorem fs_nil {T : Tb} {C : Nat → List D → M D} {acc : Str} {ρ : Loc} : evFs T C .nil acc ρ = ret acc := by simp only [evFs]
theorem fs_cons {T : Tb} {C : Nat → List D → M D} {e : Ex} {r : Exs} {acc : Str} {ρ : Loc} : evFs T C (.cons e r) acc ρ = fun L => (evE T C e ρ L).bind fun d L1 => (match fmtD d with
    | some y => if sizeOkB (acc ++ y).length then evFs T C r (acc ++ y) ρ L1 else .stk
    | none => .stk) := by simp only [evFs] <;> rfl
theorem fmt_str {s : Str} : fmtD (.str s) = if sizeOkB s.length then some s else none := rfl
theorem fmt_int {i : Int} : fmtD (.int i) = if decide (i.natAbs.log2 < 1920) then some (Str.ofString (toString i)) else none := rfl
theorem go_nilT {T : Tb} {C : Nat → List D → M D} {wf : Nat} {ρ : Loc} {L : MH} {Q : Fl → MH → Prop} {k : Loc → M Fl} (h : Runs (k ρ L) Q) : Runs (exSs T C wf .nil ρ L) (Then Q k) := Runs.ok h
/-! ### loops -/
section
/-- a for: I, what holds ahead of turn i -/
theorem for_run {body : Loc → M Fl} {put : D → Loc → M Loc} {w : Wk} {xs : List D} {Q : Fl → MH → Prop} (I : Nat → Loc → MH → Prop) (hat : ∀ i ρ L, I i ρ L → w.at L i = some xs[i]?)
    (step : ∀ i x ρ L, xs[i]? = some x → I i ρ L → Runs (put x ρ L) fun ρ1 L1 => Runs (body ρ1 L1) fun fl L2 => match fl with
      | .nx ρ2 => I (i + 1) ρ2 L2
      | .ct ρ2 => I (i + 1) ρ2 L2
      | .bk ρ2 => Q (.nx ρ2) L2
      | fl => Q fl L2) (fin : ∀ ρ L, I xs.length ρ L → Q (.nx ρ) L) :
    ∀ (k i : Nat) (ρ : Loc) (L : MH), i ≤ xs.length → xs.length ≤ i + k → I i ρ L → Runs (forL body put w k i ρ L) Q
  | 0, i, ρ, L, h1, h2, h => by
    have e : i = xs.length := by omega
    simp only [forL, hat i ρ L h]
    rw [List.getElem?_eq_none (by omega)]
    exact Runs.ok (fin ρ L (by rw [← e]; exact h))
  | k + 1, i, ρ, L, h1, h2, h => by
    simp only [forL, hat i ρ L h]
    cases q : xs[i]? with
    | none =>
      have := List.getElem?_eq_none_iff.mp q
      have e : i = xs.length := by omega
      exact Runs.ok (fin ρ L (by rw [← e]; exact h))
    | some x =>
      have hlt := (List.getElem?_eq_some_iff.mp q).1
      simp only [runs_bind, runs_quiet]
      refine (step i x ρ L q h).imp fun ρ1 L1 h3 => h3.imp fun fl L2 h4 => ?_
      cases fl with
      | nx ρ2 => exact for_run I hat step fin k (i + 1) ρ2 L2 (by omega) (by omega) h4
      | ct ρ2 => exact for_run I hat step fin k (i + 1) ρ2 L2 (by omega) (by omega) h4
      | bk ρ2 => exact Runs.ok h4
      | rt d => exact Runs.ok h4
      | xc ρ2 c fs => exact Runs.ok h4
/-- a comprehension's turns: the list at n -/
theorem lc_run {elt : Loc → M D} {test : Loc → M Bool} {put : D → Loc → M Loc} {w : Wk} {n : Nat} {ρ : Loc} {xs : List D} {Q : Unit → MH → Prop} (I : Nat → List D → MH → Prop) (hat : ∀ i acc L, I i acc L → w.at L i = some xs[i]?)
    (step : ∀ i x acc L, xs[i]? = some x → I i acc L → Runs (put x ρ L) fun ρ1 L1 => Runs (test ρ1 L1) fun b L2 => if b = true then Runs (elt ρ1 L2) fun d L3 => L3[n]? = some (.lst acc) ∧ acc.length < 16777216 ∧ I (i + 1) (acc ++ [d]) (L3.set n (.lst (acc ++ [d]))) else I (i + 1) acc L2)
    (fin : ∀ acc L, I xs.length acc L → Q () L) :
    ∀ (k i : Nat) (acc : List D) (L : MH), i ≤ xs.length → xs.length ≤ i + k → I i acc L → Runs (lcL elt test put w n ρ k i L) Q
  | 0, i, acc, L, h1, h2, h => by
    have e : i = xs.length := by omega
    simp only [lcL, hat i acc L h]
    rw [List.getElem?_eq_none (by omega)]
    exact Runs.ok (fin acc L (by rw [← e]; exact h))
  | k + 1, i, acc, L, h1, h2, h => by
    simp only [lcL, hat i acc L h]
    cases q : xs[i]? with
    | none =>
      have := List.getElem?_eq_none_iff.mp q
      have e : i = xs.length := by omega
      exact Runs.ok (fin acc L (by rw [← e]; exact h))
    | some x =>
      have hlt := (List.getElem?_eq_some_iff.mp q).1
      simp only [runs_bind]
      refine (step i x acc L q h).imp fun ρ1 L1 h3 => h3.imp fun b L2 h4 => ?_
      cases b with
      | false =>
        rw [if_neg Bool.false_ne_true] at h4 ⊢
        exact lc_run I hat step fin k (i + 1) acc L2 (by omega) (by omega) h4
      | true =>
        rw [if_pos rfl] at h4 ⊢
        rw [runs_bind]
        refine h4.imp fun d L3 ⟨h5, h6, h7⟩ => ?_
        simp only [h5, decide_eq_true h6, if_true]
        exact lc_run I hat step fin k (i + 1) (acc ++ [d]) _ (by omega) (by omega) h7
variable {T : Tb} {C : Nat → List D → M D} {L : MH} {ρ : Loc}
/-- [e for t in it ..]: the walk, the turns -/
theorem go_lc {e : Ex} {t : Tg} {it : It} {oi : Ox} {own : List Nat} {Q : D → MH → Prop}
    (h : Runs (evI T C it ρ L) fun w L1 => Runs (lcL (evE T C e) (evT T C oi) (puT T C t) w L1.length (wipeL ρ own) (w.len (L1 ++ [.lst []])) 0 (L1 ++ [.lst []])) fun _ L2 => Q (.ref L1.length) L2) : Runs (evE T C (.lc e t it oi own) ρ L) Q := by
  simp only [evE, runs_bind, runs_quiet]
  exact h.imp fun w L1 q => q.imp fun _ L2 z => Runs.ok z
/-- a list of the range -/
def rngL (lo : Int) (n : Nat) : List D := (List.range n).map fun i => .int (lo + (i : Nat))
theorem rngL_len (lo : Int) (n : Nat) : (rngL lo n).length = n := by unfold rngL; simp
theorem rng_at (lo : Int) (n i : Nat) (L : MH) : (Wk.rng lo n).at L i = some (rngL lo n)[i]? := by
  unfold rngL
  simp only [Wk.at, List.getElem?_map]
  by_cases h : i < n
  · simp [h]
  · simp [h]
end
end Mi
end

section
set_option Elab.async false
set_option linter.all false
set_option maxRecDepth 100000
set_option maxHeartbeats 0
namespace Row
open PySem PySem.Spec PyProof.Rows L2 Mi
def top (i : Nat) : Stmt := PySem.Challenge.pw_samesight_k29_history_texts.main.body.getD i (.Pass ⟨0, 0, 0, 0⟩)
def cls (i j : Nat) : Stmt := match top i with
  | .ClassDef _ _ _ body _ _ _ _ _ _ _ => body.getD j (.Pass ⟨0, 0, 0, 0⟩)
  | s => s
def N_SightError___init__ : List Str := ["self", "code"]
def ir_SightError___init__ : Sms := (.cons (.expr .bad) (.cons (.asg (.attr (.var 0) 0) (.var 1)) .nil))
def d_SightError___init__ : He.DefD := ⟨("SightError", some "__init__"), "__init__", "SightError.__init__", defArgs (cls 1 0), defBody (cls 1 0), defScope (cls 1 0), [], []⟩
def fd_SightError___init__ : Fd := ⟨[1, 0], 2, 2, [none, none], ir_SightError___init__⟩
abbrev f_SightError___init__ : Nat := 0
def N_InvalidText___init__ : List Str := ["self", "at"]
def ir_InvalidText___init__ : Sms := (.cons (.expr .bad) (.cons (.asg (.attr (.var 0) 2) (.var 1)) .nil))
def d_InvalidText___init__ : He.DefD := ⟨("InvalidText", some "__init__"), "__init__", "InvalidText.__init__", defArgs (cls 2 0), defBody (cls 2 0), defScope (cls 2 0), [], []⟩
def fd_InvalidText___init__ : Fd := ⟨[1, 2], 2, 2, [none, none], ir_InvalidText___init__⟩
abbrev f_InvalidText___init__ : Nat := 1
def N_is_name : List Str := ["text", "letter"]
def ir_is_name : Sms := (.cons (.ife (.or (.not (.chain .LtE .LtE (.cint 1) (.bi .len (.cons (.var 0) .nil)) (.gcon 2))) (.cmp .In (.var 0) (.gcon 1))) (.cons (.ret (.cbl false)) .nil) .nil) (.cons (.ret (.bi .all (.cons (.lc (.cmp .In (.var 1) (.gcon 0)) (.var 1) (.seq (.var 0)) .none [1]) .nil))) .nil))
def d_is_name : He.DefD := ⟨("is_name", none), "is_name", "is_name", defArgs (top 7), defBody (top 7), defScope (top 7), [], []⟩
def fd_is_name : Fd := ⟨[3], 1, 2, [none], ir_is_name⟩
abbrev f_is_name : Nat := 2
def N_value_text : List Str := ["value", "marks", "mark"]
def ir_value_text : Sms := (.cons (.ife (.isin (.var 0) [.bt "tuple"]) (.cons (.asg (.var 1) (.bm .join (.cstr ",") (.cons (.lc (.bi .str1 (.cons (.var 2) .nil)) (.var 2) (.seq (.ix (.var 0) (.cint 1))) .none [2]) .nil))) (.cons (.ret (.fstr (.cons (.cstr "#") (.cons (.ix (.var 0) (.cint 0)) (.cons (.cstr "(") (.cons (.var 1) (.cons (.cstr ")") .nil))))))) .nil)) .nil) (.cons (.ret (.bi .str1 (.cons (.var 0) .nil))) .nil))
def d_value_text : He.DefD := ⟨("value_text", none), "value_text", "value_text", defArgs (top 11), defBody (top 11), defScope (top 11), [], []⟩
def fd_value_text : Fd := ⟨[4], 1, 3, [none], ir_value_text⟩
abbrev f_value_text : Nat := 3
def N_history_text : List Str := ["history", "steps", "name", "values", "value"]
def ir_history_text : Sms := (.cons (.asg (.var 1) (.lc (.bm .join (.cstr " ") (.cons (.bop .add (.lst (.cons (.var 2) .nil)) (.lc (.call 3 (.cons (.var 4) .nil) [] .nil) (.var 4) (.seq (.var 3)) .none [4])) .nil)) (.tup (.cons (.var 2) (.cons (.var 3) .nil))) (.seq (.var 0)) .none [2, 3])) (.cons (.ret (.ife (.var 1) (.bm .join (.cstr " ; ") (.cons (.var 1) .nil)) (.cstr "-"))) .nil))
def d_history_text : He.DefD := ⟨("history_text", none), "history_text", "history_text", defArgs (top 12), defBody (top 12), defScope (top 12), [], []⟩
def fd_history_text : Fd := ⟨[5], 1, 5, [none], ir_history_text⟩
abbrev f_history_text : Nat := 4
def N_read_integer : List Str := ["text", "figures", "figure"]
def ir_read_integer : Sms := (.cons (.asg (.var 1) (.ife (.bm .starts (.var 0) (.cons (.cstr "-") .nil)) (.sl (.var 0) (.some (.cint 1)) .none) (.var 0))) (.cons (.ife (.or (.not (.chain .LtE .LtE (.cint 1) (.bi .len (.cons (.var 1) .nil)) (.gcon 4))) (.not (.bi .all (.cons (.lc (.cmp .In (.var 2) (.gcon 3)) (.var 2) (.seq (.var 1)) .none [2]) .nil)))) (.cons (.ret .cnon) .nil) .nil) (.cons (.ife (.and (.cmp .Eq (.ix (.var 1) (.cint 0)) (.cstr "0")) (.cmp .NotEq (.var 0) (.cstr "0"))) (.cons (.ret .cnon) .nil) .nil) (.cons (.ret (.bi .int1 (.cons (.var 0) .nil))) .nil))))
def d_read_integer : He.DefD := ⟨("read_integer", none), "read_integer", "read_integer", defArgs (top 13), defBody (top 13), defScope (top 13), [], []⟩
def fd_read_integer : Fd := ⟨[3], 1, 3, [none], ir_read_integer⟩
abbrev f_read_integer : Nat := 5
def N_read_value : List Str := ["text", "head", "sign", "rest", "number", "marks", "word"]
def ir_read_value : Sms := (.cons (.ife (.not (.bm .starts (.var 0) (.cons (.cstr "#") .nil))) (.cons (.ret (.call 5 (.cons (.var 0) .nil) [] .nil)) .nil) .nil) (.cons (.asg (.tup (.cons (.var 1) (.cons (.var 2) (.cons (.var 3) .nil)))) (.bm .part (.sl (.var 0) (.some (.cint 1)) .none) (.cons (.cstr "(") .nil))) (.cons (.asg (.var 4) (.call 5 (.cons (.var 1) .nil) [] .nil)) (.cons (.ife (.or (.isn (.var 4)) (.or (.cmp .Lt (.var 4) (.cint 0)) (.not (.bm .ends (.var 3) (.cons (.cstr ")") .nil))))) (.cons (.ret .cnon) .nil) .nil) (.cons (.asg (.var 5) (.ife (.cmp .NotEq (.var 3) (.cstr ")")) (.lc (.call 5 (.cons (.var 6) .nil) [] .nil) (.var 6) (.seq (.bm .split (.sl (.var 3) .none (.some (.neg (.cint 1)))) (.cons (.cstr ",") .nil))) .none [6]) (.lst .nil))) (.cons (.ret (.ife (.cmp .In .cnon (.var 5)) .cnon (.tup (.cons (.var 4) (.cons (.bi .tuple1 (.cons (.var 5) .nil)) .nil))))) .nil))))))
def d_read_value : He.DefD := ⟨("read_value", none), "read_value", "read_value", defArgs (top 14), defBody (top 14), defScope (top 14), [], []⟩
def fd_read_value : Fd := ⟨[3], 1, 7, [none], ir_read_value⟩
abbrev f_read_value : Nat := 6
def N_read_history : List Str := ["text", "found", "at", "part", "name", "words", "values", "word"]
def ir_read_history : Sms := (.cons (.asg (.var 1) (.lst .nil)) (.cons (.fr (.tup (.cons (.var 2) (.cons (.var 3) .nil))) (.enum (.ife (.cmp .NotEq (.var 0) (.cstr "-")) (.bm .split (.var 0) (.cons (.cstr " ; ") .nil)) (.lst .nil))) (.cons (.asg (.star (.cons (.var 4) (.cons (.var 5) .nil))) (.bm .split (.var 3) (.cons (.cstr " ") .nil))) (.cons (.asg (.var 6) (.lc (.call 6 (.cons (.var 7) .nil) [] .nil) (.var 7) (.seq (.var 5)) .none [7])) (.cons (.ife (.or (.not (.call 2 (.cons (.var 4) .nil) [] .nil)) (.cmp .In .cnon (.var 6))) (.cons .bad .nil) .nil) (.cons (.expr (.bm .append (.var 1) (.cons (.tup (.cons (.var 4) (.cons (.bi .tuple1 (.cons (.var 6) .nil)) .nil))) .nil))) .nil))))) (.cons (.ret (.var 1)) .nil)))
def d_read_history : He.DefD := ⟨("read_history", none), "read_history", "read_history", defArgs (top 15), defBody (top 15), defScope (top 15), [], []⟩
def fd_read_history : Fd := ⟨[3], 1, 8, [none], ir_read_history⟩
abbrev f_read_history : Nat := 7
def N__law_draws : List Str := ["_law_script", "_law_seed", "_law_cell"]
def ir__law_draws : Sms := (.cons (.asg (.var 1) (.cint 5630)) (.cons (.fr (.var 2) (.seq (.sl (.var 0) .none (.some (.cint 63)))) (.cons (.asg (.var 1) (.bop .mod (.bi .int1 (.cons (.bop .add (.bop .add (.bop .mul (.var 1) (.cint 45179)) (.bop .mod (.bi .int1 (.cons (.var 2) .nil)) (.cint 2147483543))) (.cint 37)) .nil)) (.cint 2147483563))) .nil)) (.cons (.ret (.lst (.cons (.bi .list1 (.cons (.sl (.var 0) .none (.some (.cint 63))) .nil)) (.cons (.cint 0) (.cons (.cint 0) (.cons (.var 1) (.cons (.cint 0) .nil))))))) .nil)))
def d__law_draws : He.DefD := ⟨("_law_draws", none), "_law_draws", "_law_draws", defArgs (top 17), defBody (top 17), defScope (top 17), [], []⟩
def fd__law_draws : Fd := ⟨[6], 1, 3, [none], ir__law_draws⟩
abbrev f__law_draws : Nat := 8
def N__law_pull : List Str := ["_law_bag", "_law_sides", "_law_cell", "_law_digit", "_law_seed"]
def ir__law_pull : Sms := (.cons (.asg (.sub (.var 0) (.cint 4)) (.bop .add (.ix (.var 0) (.cint 4)) (.cint 1))) (.cons (.ife (.and (.cmp .Eq (.ix (.var 0) (.cint 2)) (.cint 0)) (.cmp .Lt (.ix (.var 0) (.cint 1)) (.bi .len (.cons (.ix (.var 0) (.cint 0)) .nil)))) (.cons (.asg (.tup (.cons (.var 2) (.cons (.sub (.var 0) (.cint 1)) .nil))) (.tup (.cons (.ix (.ix (.var 0) (.cint 0)) (.ix (.var 0) (.cint 1))) (.cons (.bop .add (.ix (.var 0) (.cint 1)) (.cint 1)) .nil)))) (.cons (.ife (.cmp .GtE (.var 2) (.bop .pow (.cint 10) (.cint 18))) (.cons (.asg (.sub (.var 0) (.cint 2)) (.var 2)) .nil) .nil) (.cons (.asg (.sub (.var 0) (.cint 3)) (.bop .mod (.bi .int1 (.cons (.bop .add (.bop .add (.bop .mul (.ix (.var 0) (.cint 3)) (.cint 39227)) (.bop .mul (.bop .mod (.bi .int1 (.cons (.var 2) .nil)) (.cint 2147483543)) (.cint 40343))) (.cint 47)) .nil)) (.cint 2147483563))) .nil))) .nil) (.cons (.ife (.cmp .Gt (.ix (.var 0) (.cint 2)) (.cint 0)) (.cons (.asg (.tup (.cons (.var 3) (.cons (.sub (.var 0) (.cint 2)) .nil))) (.tup (.cons (.bop .mod (.bi .int1 (.cons (.ix (.var 0) (.cint 2)) .nil)) (.var 1)) (.cons (.bop .fdiv (.ix (.var 0) (.cint 2)) (.var 1)) .nil)))) (.cons (.ret (.var 3)) .nil)) .nil) (.cons (.asg (.var 4) (.ix (.var 0) (.cint 3))) (.cons (.asg (.sub (.var 0) (.cint 3)) (.bop .mod (.bi .int1 (.cons (.bop .add (.bop .add (.bop .add (.bop .pow (.var 4) (.cint 3)) (.bop .mul (.var 4) (.cint 38543))) (.bop .mul (.ix (.var 0) (.cint 4)) (.cint 1299721))) (.cint 65269)) .nil)) (.cint 2147483563))) (.cons (.ret (.bop .mod (.bi .int1 (.cons (.bop .add (.bop .fdiv (.ix (.var 0) (.cint 3)) (.cint 97)) (.bop .mul (.bop .mod (.bi .int1 (.cons (.ix (.var 0) (.cint 3)) .nil)) (.cint 7927)) (.cint 67))) .nil)) (.var 1))) .nil))))))
def d__law_pull : He.DefD := ⟨("_law_pull", none), "_law_pull", "_law_pull", defArgs (top 18), defBody (top 18), defScope (top 18), [], []⟩
def fd__law_pull : Fd := ⟨[7, 8], 2, 5, [none, none], ir__law_pull⟩
abbrev f__law_pull : Nat := 9
def N__law_any : List Str := ["_law_bag", "_law_rows"]
def ir__law_any : Sms := (.cons (.ret (.ix (.var 1) (.call 9 (.cons (.var 0) (.cons (.bi .len (.cons (.var 1) .nil)) .nil)) [] .nil))) .nil)
def d__law_any : He.DefD := ⟨("_law_any", none), "_law_any", "_law_any", defArgs (top 19), defBody (top 19), defScope (top 19), [], []⟩
def fd__law_any : Fd := ⟨[7, 9], 2, 2, [none, none], ir__law_any⟩
abbrev f__law_any : Nat := 10
def N__law_like : List Str := ["_law_a", "_law_b", "_law_same", "_law_c", "_law_d"]
def ir__law_like : Sms := (.cons (.ife (.isin (.var 1) [.bt "list", .bt "tuple"]) (.cons (.asg (.var 2) (.and (.cmp .Eq (.isin (.var 0) [.bt "list"]) (.isin (.var 1) [.bt "list"])) (.cmp .Eq (.isin (.var 0) [.bt "tuple"]) (.isin (.var 1) [.bt "tuple"])))) (.cons (.ret (.and (.var 2) (.and (.cmp .Eq (.bi .len (.cons (.var 0) .nil)) (.bi .len (.cons (.var 1) .nil))) (.bi .all (.cons (.lc (.call 11 (.cons (.var 3) (.cons (.var 4) .nil)) [] .nil) (.tup (.cons (.var 3) (.cons (.var 4) .nil))) (.zip (.var 0) (.var 1)) .none [3, 4]) .nil))))) .nil)) .nil) (.cons (.ife (.or (.isn (.var 0)) (.or (.isn (.var 1)) (.cmp .NotEq (.isin (.var 0) [.bt "bool"]) (.isin (.var 1) [.bt "bool"])))) (.cons (.ret (.and (.isn (.var 0)) (.isn (.var 1)))) .nil) .nil) (.cons (.ret (.and (.cmp .Eq (.isin (.var 0) [.bt "int"]) (.isin (.var 1) [.bt "int"])) (.and (.cmp .Eq (.isin (.var 0) [.bt "str"]) (.isin (.var 1) [.bt "str"])) (.cmp .Eq (.var 0) (.var 1))))) .nil)))
def d__law_like : He.DefD := ⟨("_law_like", none), "_law_like", "_law_like", defArgs (top 20), defBody (top 20), defScope (top 20), [], []⟩
def fd__law_like : Fd := ⟨[10, 11], 2, 5, [none, none], ir__law_like⟩
abbrev f__law_like : Nat := 11
def N__law_reserved : List Str := []
def ir__law_reserved : Sms := (.cons (.ret (.lst (.cons (.cstr "and") (.cons (.cstr "or") (.cons (.cstr "not") (.cons (.cstr "is") (.cons (.cstr "by") (.cons (.cstr "of") (.cons (.cstr "empty") (.cons (.cstr "true") (.cons (.cstr "false") .nil))))))))))) .nil)
def d__law_reserved : He.DefD := ⟨("_law_reserved", none), "_law_reserved", "_law_reserved", defArgs (top 21), defBody (top 21), defScope (top 21), [], []⟩
def fd__law_reserved : Fd := ⟨[], 0, 0, [], ir__law_reserved⟩
abbrev f__law_reserved : Nat := 12
def N__law_new_names : List Str := ["_law_bag", "_law_many", "_law_abc", "_law_stem", "_law_at", "_law_first", "_law_rows", "_law_k", "_law_row"]
def ir__law_new_names : Sms := (.cons (.asg (.var 2) (.cstr "abcdefghijklmnopqrstuvwxyz")) (.cons (.asg (.var 3) (.bm .join (.cstr "") (.cons (.lc (.call 10 (.cons (.var 0) (.cons (.var 2) .nil)) [] .nil) (.var 7) (.rng1 (.call 9 (.cons (.var 0) (.cons (.cint 7) .nil)) [] .nil)) .none [7]) .nil))) (.cons (.asg (.tup (.cons (.var 4) (.cons (.var 5) .nil))) (.tup (.cons (.call 9 (.cons (.var 0) (.cons (.bop .add (.bi .len (.cons (.var 3) .nil)) (.cint 1)) .nil)) [] .nil) (.cons (.call 9 (.cons (.var 0) (.cons (.cint 26) .nil)) [] .nil) .nil)))) (.cons (.asg (.var 6) (.lc (.bop .add (.bop .add (.sl (.var 3) .none (.some (.var 4))) (.ix (.var 2) (.bop .sub (.bop .add (.var 5) (.var 7)) (.cint 26)))) (.sl (.var 3) (.some (.var 4)) .none)) (.var 7) (.rng1 (.var 1)) .none [7])) (.cons (.ret (.lc (.ife (.cmp .In (.var 8) (.call 12 .nil [] .nil)) (.bop .add (.var 8) (.cstr "q")) (.var 8)) (.var 8) (.seq (.var 6)) .none [8])) .nil)))))
def d__law_new_names : He.DefD := ⟨("_law_new_names", none), "_law_new_names", "_law_new_names", defArgs (top 22), defBody (top 22), defScope (top 22), [], []⟩
def fd__law_new_names : Fd := ⟨[7, 12], 2, 9, [none, none], ir__law_new_names⟩
abbrev f__law_new_names : Nat := 13
def N__law_far : List Str := ["_law_bag", "_law_near"]
def ir__law_far : Sms := (.cons (.asg (.var 1) (.call 9 (.cons (.var 0) (.cons (.bop .pow (.cint 10) (.cint 9)) .nil)) [] .nil)) (.cons (.ret (.call 10 (.cons (.var 0) (.cons (.lst (.cons (.cint 0) (.cons (.cint 1) (.cons (.neg (.cint 1)) (.cons (.cint 2) (.cons (.bop .sub (.var 1) (.bop .pow (.cint 10) (.cint 8))) (.cons (.call 9 (.cons (.var 0) (.cons (.cint 9) .nil)) [] .nil) (.cons (.bop .sub (.var 1) (.bop .pow (.cint 10) (.cint 59))) (.cons (.bop .sub (.bop .sub (.bop .pow (.cint 10) (.cint 60)) (.cint 1)) (.var 1)) .nil))))))))) .nil)) [] .nil)) .nil))
def d__law_far : He.DefD := ⟨("_law_far", none), "_law_far", "_law_far", defArgs (top 23), defBody (top 23), defScope (top 23), [], []⟩
def fd__law_far : Fd := ⟨[7], 1, 2, [none], ir__law_far⟩
abbrev f__law_far : Nat := 14
def N__law_far_value : List Str := ["_law_bag", "_law_k"]
def ir__law_far_value : Sms := (.cons (.ife (.cmp .Eq (.call 9 (.cons (.var 0) (.cons (.cint 2) .nil)) [] .nil) (.cint 0)) (.cons (.ret (.call 14 (.cons (.var 0) .nil) [] .nil)) .nil) .nil) (.cons (.ret (.tup (.cons (.bi .abs (.cons (.call 14 (.cons (.var 0) .nil) [] .nil) .nil)) (.cons (.bi .tuple1 (.cons (.lc (.call 14 (.cons (.var 0) .nil) [] .nil) (.var 1) (.rng1 (.call 9 (.cons (.var 0) (.cons (.cint 3) .nil)) [] .nil)) .none [1]) .nil)) .nil)))) .nil))
def d__law_far_value : He.DefD := ⟨("_law_far_value", none), "_law_far_value", "_law_far_value", defArgs (top 24), defBody (top 24), defScope (top 24), [], []⟩
def fd__law_far_value : Fd := ⟨[7], 1, 2, [none], ir__law_far_value⟩
abbrev f__law_far_value : Nat := 15
def N__law_value_text : List Str := ["_law_value", "_law_mark"]
def ir__law_value_text : Sms := (.cons (.ife (.isin (.var 0) [.bt "tuple"]) (.cons (.ret (.bop .add (.bop .add (.bop .add (.bop .add (.cstr "#") (.bi .str1 (.cons (.ix (.var 0) (.cint 0)) .nil))) (.cstr "(")) (.bm .join (.cstr ",") (.cons (.lc (.bi .str1 (.cons (.var 1) .nil)) (.var 1) (.seq (.ix (.var 0) (.cint 1))) .none [1]) .nil))) (.cstr ")"))) .nil) .nil) (.cons (.ret (.bi .str1 (.cons (.var 0) .nil))) .nil))
def d__law_value_text : He.DefD := ⟨("_law_value_text", none), "_law_value_text", "_law_value_text", defArgs (top 25), defBody (top 25), defScope (top 25), [], []⟩
def fd__law_value_text : Fd := ⟨[13], 1, 2, [none], ir__law_value_text⟩
abbrev f__law_value_text : Nat := 16
def N__law_history_text : List Str := ["_law_history_z", "_law_steps", "_law_name", "_law_values", "_law_value"]
def ir__law_history_text : Sms := (.cons (.asg (.var 1) (.lc (.bop .add (.var 2) (.bm .join (.cstr "") (.cons (.lc (.bop .add (.cstr " ") (.call 16 (.cons (.var 4) .nil) [] .nil)) (.var 4) (.seq (.var 3)) .none [4]) .nil))) (.tup (.cons (.var 2) (.cons (.var 3) .nil))) (.seq (.var 0)) .none [2, 3])) (.cons (.ret (.ife (.cmp .NotEq (.var 1) (.lst .nil)) (.bm .join (.cstr " ; ") (.cons (.var 1) .nil)) (.cstr "-"))) .nil))
def d__law_history_text : He.DefD := ⟨("_law_history_text", none), "_law_history_text", "_law_history_text", defArgs (top 26), defBody (top 26), defScope (top 26), [], []⟩
def fd__law_history_text : Fd := ⟨[14], 1, 5, [none], ir__law_history_text⟩
abbrev f__law_history_text : Nat := 17
def N_law : List Str := ["_law_script", "_law_bag", "_law_turn", "_law_names", "_law_history_z", "_law_k", "_law_text_z", "_law_many", "_law_found", "_law_j"]
def ir_law : Sms := (.cons (.asg (.var 1) (.call 8 (.cons (.var 0) .nil) [] .nil)) (.cons (.fr (.var 2) (.rng1 (.cint 8)) (.cons (.par [3, 4] (.cons (.call 13 (.cons (.var 1) (.cons (.cint 5) .nil)) [] .nil) (.cons (.lst .nil) .nil))) (.cons (.fr (.var 5) (.rng1 (.call 9 (.cons (.var 1) (.cons (.cint 7) .nil)) [] .nil)) (.cons (.expr (.bm .append (.var 4) (.cons (.tup (.cons (.call 10 (.cons (.var 1) (.cons (.var 3) .nil)) [] .nil) (.cons (.bi .tuple1 (.cons (.lc (.call 15 (.cons (.var 1) .nil) [] .nil) (.var 9) (.rng1 (.call 9 (.cons (.var 1) (.cons (.cint 4) .nil)) [] .nil)) .none [9]) .nil)) .nil))) .nil))) .nil)) (.cons (.asg (.var 6) (.call 17 (.cons (.var 4) .nil) [] .nil)) (.cons (.ife (.not (.call 11 (.cons (.lst (.cons (.call 4 (.cons (.var 4) .nil) [] .nil) (.cons (.call 4 .nil [5] (.cons (.bi .tuple1 (.cons (.var 4) .nil)) .nil)) (.cons (.call 7 (.cons (.var 6) .nil) [] .nil) .nil)))) (.cons (.lst (.cons (.var 6) (.cons (.var 6) (.cons (.var 4) .nil)))) .nil)) [] .nil)) (.cons (.ret (.cbl false)) .nil) .nil) .nil))))) (.cons (.asg (.var 7) (.lst (.cons (.tup (.cons (.cstr "if") (.cons (.tup (.cons (.cint 1) (.cons (.cint 2) (.cons (.cint 3) (.cons (.cint 4) (.cons (.cint 5) .nil)))))) .nil))) (.cons (.tup (.cons (.cstr "set") (.cons (.tup (.cons (.tup (.cons (.cint 1) (.cons (.tup (.cons (.cint 1) (.cons (.cint 2) (.cons (.cint 3) .nil)))) .nil))) .nil)) .nil))) .nil)))) (.cons (.asg (.var 8) (.lst (.cons (.call 7 .nil [3] (.cons (.cstr "-") .nil)) (.cons (.call 4 (.cons (.lst .nil) .nil) [] .nil) (.cons (.call 7 (.cons (.cstr "none #0()") .nil) [] .nil) (.cons (.call 7 (.cons (.cstr "if 1 2 3 4 5 ; set #1(1,2,3)") .nil) [] .nil) .nil)))))) (.cons (.ret (.call 11 (.cons (.var 8) (.cons (.lst (.cons (.lst .nil) (.cons (.cstr "-") (.cons (.lst (.cons (.tup (.cons (.cstr "none") (.cons (.tup (.cons (.tup (.cons (.cint 0) (.cons (.tup .nil) .nil))) .nil)) .nil))) .nil)) (.cons (.var 7) .nil))))) .nil)) [] .nil)) .nil)))))
def d_law : He.DefD := ⟨("law", none), "law", "law", defArgs (top 27), defBody (top 27), defScope (top 27), [], []⟩
def fd_law : Fd := ⟨[6], 1, 10, [none], ir_law⟩
abbrev f_law : Nat := 18
def R : Rw where
  fns := [(fd_SightError___init__, d_SightError___init__, N_SightError___init__), (fd_InvalidText___init__, d_InvalidText___init__, N_InvalidText___init__), (fd_is_name, d_is_name, N_is_name), (fd_value_text, d_value_text, N_value_text), (fd_history_text, d_history_text, N_history_text), (fd_read_integer, d_read_integer, N_read_integer), (fd_read_value, d_read_value, N_read_value), (fd_read_history, d_read_history, N_read_history), (fd__law_draws, d__law_draws, N__law_draws), (fd__law_pull, d__law_pull, N__law_pull), (fd__law_any, d__law_any, N__law_any), (fd__law_like, d__law_like, N__law_like), (fd__law_reserved, d__law_reserved, N__law_reserved), (fd__law_new_names, d__law_new_names, N__law_new_names), (fd__law_far, d__law_far, N__law_far), (fd__law_far_value, d__law_far_value, N__law_far_value), (fd__law_value_text, d__law_value_text, N__law_value_text), (fd__law_history_text, d__law_history_text, N__law_history_text), (fd_law, d_law, N_law)]
  cns := ["SightError", "InvalidText"]
  kns := [("LETTERS", (.str "abcdefghijklmnopqrstuvwxyz")), ("RESERVED", (.tup [(.str "and"), (.str "or"), (.str "not"), (.str "is"), (.str "by"), (.str "of"), (.str "empty"), (.str "true"), (.str "false")])), ("LONGEST_NAME", (.int 8)), ("FIGURES", (.str "0123456789")), ("MOST_FIGURES", (.int 60))]
  ans := ["code", "self", "at", "text", "value", "history", "_law_script", "_law_bag", "_law_sides", "_law_rows", "_law_a", "_law_b", "_law_many", "_law_value", "_law_history_z"]
  mths := []
  ccons := []
  noats := []
  inits := []
  kits := [((.non, .bt "bool"), false), ((.non, .bt "int"), false), ((.non, .bt "list"), false), ((.non, .bt "str"), false), ((.non, .bt "tuple"), false), ((.bl, .bt "bool"), true), ((.bl, .bt "int"), true), ((.bl, .bt "list"), false), ((.bl, .bt "str"), false), ((.bl, .bt "tuple"), false), ((.int, .bt "bool"), false), ((.int, .bt "int"), true), ((.int, .bt "list"), false), ((.int, .bt "str"), false), ((.int, .bt "tuple"), false), ((.str, .bt "bool"), false), ((.str, .bt "int"), false), ((.str, .bt "list"), false), ((.str, .bt "str"), true), ((.str, .bt "tuple"), false), ((.lst, .bt "bool"), false), ((.lst, .bt "int"), false), ((.lst, .bt "list"), true), ((.lst, .bt "str"), false), ((.lst, .bt "tuple"), false), ((.tup, .bt "bool"), false), ((.tup, .bt "int"), false), ((.tup, .bt "list"), false), ((.tup, .bt "str"), false), ((.tup, .bt "tuple"), true)]
  blts := ["len", "all", "tuple", "isinstance", "str", "int", "enumerate", "list", "zip", "bool", "range", "abs"]
def nms0 : List PySem.Str := ["__name__", "SightError", "InvalidText", "LETTERS", "RESERVED", "LONGEST_NAME", "is_name", "FIGURES", "MOST_FIGURES", "value_text", "history_text", "read_integer", "read_value", "read_history", "_law_draws", "_law_pull", "_law_any", "_law_like", "_law_reserved", "_law_new_names", "_law_far", "_law_far_value", "_law_value_text", "_law_history_text"]
def nms : List PySem.Str := nms0
def lawAt : Nat := 27
end Row

namespace Row
open PySem PySem.Spec PyProof.Rows L2 Mi
theorem ok : R.ok = true := by decide +kernel
theorem df_SightError___init__ : fd_SightError___init__.dfl = dflOf d_SightError___init__ := by kernel_rfl
theorem df_InvalidText___init__ : fd_InvalidText___init__.dfl = dflOf d_InvalidText___init__ := by kernel_rfl
theorem df_is_name : fd_is_name.dfl = dflOf d_is_name := by kernel_rfl
theorem df_value_text : fd_value_text.dfl = dflOf d_value_text := by kernel_rfl
theorem df_history_text : fd_history_text.dfl = dflOf d_history_text := by kernel_rfl
theorem df_read_integer : fd_read_integer.dfl = dflOf d_read_integer := by kernel_rfl
theorem df_read_value : fd_read_value.dfl = dflOf d_read_value := by kernel_rfl
theorem df_read_history : fd_read_history.dfl = dflOf d_read_history := by kernel_rfl
theorem df__law_draws : fd__law_draws.dfl = dflOf d__law_draws := by kernel_rfl
theorem df__law_pull : fd__law_pull.dfl = dflOf d__law_pull := by kernel_rfl
theorem df__law_any : fd__law_any.dfl = dflOf d__law_any := by kernel_rfl
theorem df__law_like : fd__law_like.dfl = dflOf d__law_like := by kernel_rfl
theorem df__law_reserved : fd__law_reserved.dfl = dflOf d__law_reserved := by kernel_rfl
theorem df__law_new_names : fd__law_new_names.dfl = dflOf d__law_new_names := by kernel_rfl
theorem df__law_far : fd__law_far.dfl = dflOf d__law_far := by kernel_rfl
theorem df__law_far_value : fd__law_far_value.dfl = dflOf d__law_far_value := by kernel_rfl
theorem df__law_value_text : fd__law_value_text.dfl = dflOf d__law_value_text := by kernel_rfl
theorem df__law_history_text : fd__law_history_text.dfl = dflOf d__law_history_text := by kernel_rfl
theorem df_law : fd_law.dfl = dflOf d_law := by kernel_rfl
theorem dfl : ∀ z ∈ R.fns, z.1.dfl = dflOf z.2.1 := by
  intro z hz
  simp only [R, List.mem_cons, List.not_mem_nil, or_false] at hz
  rcases hz with rfl | rfl | rfl | rfl | rfl | rfl | rfl | rfl | rfl | rfl | rfl | rfl | rfl | rfl | rfl | rfl | rfl | rfl | rfl
  · exact df_SightError___init__
  · exact df_InvalidText___init__
  · exact df_is_name
  · exact df_value_text
  · exact df_history_text
  · exact df_read_integer
  · exact df_read_value
  · exact df_read_history
  · exact df__law_draws
  · exact df__law_pull
  · exact df__law_any
  · exact df__law_like
  · exact df__law_reserved
  · exact df__law_new_names
  · exact df__law_far
  · exact df__law_far_value
  · exact df__law_value_text
  · exact df__law_history_text
  · exact df_law
abbrev RL : PySem.W.OpenRow := PySem.W.OpenLaw.row PySem.Challenge.rw_samesight_k29_history_texts
def fnl : List He.DefD := R.fns.map fun z => z.2.1
abbrev hk : PySem.W.Hook := He.hookX 6 [.glo "law"] fnl [] [] (rowK R)
def ob (s : PySem.W.SharedT) : He.AlX := He.obsX 6 [.glo "law"] fnl [] [] (rowK R) (HandSHeadRun.getT s)
theorem ob_eq (s : PySem.W.SharedT) : ob s = hk.obs s.abs := He.obsX_eq (HandSHeadRun.getT_eq s)
theorem run (w : World) : HandSHeadRun.RunEq RL (PySem.W.view RL.prog [27]) hk ob 3000 nms w := by
  intro os
  kernel_rfl
end Row
end

section
set_option Elab.async false
set_option linter.all false
set_option maxRecDepth 100000
set_option maxHeartbeats 4000000
namespace Row
open PySem PySem.Spec L2 Mi
abbrev wf : Nat := 100
section
variable {n : Nat} {L L' : MH} {b c : Nat}
@[reducible] def bagO (c : Nat) (i cur seed cnt : Int) : O := .lst [.ref c, .int i, .int cur, .int seed, .int cnt]
/-- the bag of draws stands at b -/
def Bag (L : MH) (b c : Nat) : Prop := ∃ (is : List Int) (i : Nat) (cur seed cnt : Int), c ≠ b ∧ L[b]? = some (bagO c i cur seed cnt) ∧ L[c]? = some (.lst (is.map D.int)) ∧ is.length ≤ 63 ∧ i ≤ is.length ∧ 0 ≤ cur ∧ 0 ≤ seed ∧ seed < 2147483563
/-- what a draw does -/
structure Step (b c : Nat) (L L' : MH) : Prop where
  bag : Bag L' b c
  len : L.length ≤ L'.length
  keep : ∀ a, a ≠ b → a < L.length → L'[a]? = L[a]?
theorem atI_nat {α : Type} (xs : List α) (i : Nat) (h : i < xs.length) : atI xs (i : Int) = xs[i]? := by
  unfold atI ixN
  simp [h]
section
variable {α : Type} {p q r s t : α}
theorem at5_0 : atI [p, q, r, s, t] 0 = some p := rfl
theorem at5_1 : atI [p, q, r, s, t] 1 = some q := rfl
theorem at5_2 : atI [p, q, r, s, t] 2 = some r := rfl
theorem at5_3 : atI [p, q, r, s, t] 3 = some s := rfl
theorem at5_4 : atI [p, q, r, s, t] 4 = some t := rfl
theorem sz0 : sizeOkB (0) = true := rfl
theorem sz1 : sizeOkB (0 + 1) = true := rfl
theorem sz2 : sizeOkB (0 + 1 + 1) = true := rfl
theorem sz3 : sizeOkB (0 + 1 + 1 + 1) = true := rfl
theorem sz4 : sizeOkB (0 + 1 + 1 + 1 + 1) = true := rfl
theorem sz5 : sizeOkB (0 + 1 + 1 + 1 + 1 + 1) = true := rfl
theorem sz6 : sizeOkB (0 + 1 + 1 + 1 + 1 + 1 + 1) = true := rfl
theorem sz7 : sizeOkB (0 + 1 + 1 + 1 + 1 + 1 + 1 + 1) = true := rfl
theorem sz8 : sizeOkB (0 + 1 + 1 + 1 + 1 + 1 + 1 + 1 + 1) = true := rfl
theorem sz9 : sizeOkB (0 + 1 + 1 + 1 + 1 + 1 + 1 + 1 + 1 + 1) = true := rfl
theorem sz10 : sizeOkB (0 + 1 + 1 + 1 + 1 + 1 + 1 + 1 + 1 + 1 + 1) = true := rfl
theorem sz11 : sizeOkB (0 + 1 + 1 + 1 + 1 + 1 + 1 + 1 + 1 + 1 + 1 + 1) = true := rfl
theorem sz12 : sizeOkB (0 + 1 + 1 + 1 + 1 + 1 + 1 + 1 + 1 + 1 + 1 + 1 + 1) = true := rfl
theorem jx5_1 : ixN (0 + 1 + 1 + 1 + 1 + 1) 1 = some 1 := rfl
theorem jx5_2 : ixN (0 + 1 + 1 + 1 + 1 + 1) 2 = some 2 := rfl
theorem jx5_3 : ixN (0 + 1 + 1 + 1 + 1 + 1) 3 = some 3 := rfl
theorem jx5_4 : ixN (0 + 1 + 1 + 1 + 1 + 1) 4 = some 4 := rfl
theorem na10 : decide (Int.natAbs 10 < 18446744073709551616) = true := rfl
theorem ix5_1 : ixN 5 1 = some 1 := rfl
theorem ix5_2 : ixN 5 2 = some 2 := rfl
theorem ix5_3 : ixN 5 3 = some 3 := rfl
theorem ix5_4 : ixN 5 4 = some 4 := rfl
end
theorem Step.set {o : O} (h : Bag (L.set b o) b c) : Step b c L (L.set b o) := ⟨h, by rw [List.length_set]; exact Nat.le_refl _, fun a ha _ => by rw [List.getElem?_set_ne (Ne.symm ha)]⟩
theorem fmod_lt (a : Int) {m : Int} (h : 0 < m) : 0 ≤ a.fmod m ∧ a.fmod m < m := ⟨Int.fmod_nonneg_of_pos _ h, Int.fmod_lt_of_pos _ h⟩
theorem pull_spec (s : Int) (hs : 0 < s) (hs2 : s < 1073741824) (h : Bag L b c) : Runs (callN R.T wf (n + 1) f__law_pull [.ref b, .int s] L) fun d L' => (∃ r, d = .int r ∧ 0 ≤ r ∧ r < s) ∧ Step b c L L' := by
  obtain ⟨is, i, cur, seed, cnt, hbc, hb, hc, h63, hi, h0, h1, h2⟩ := h
  have hbl : b < L.length := (List.getElem?_eq_some_iff.mp hb).1
  have hbs : ∀ o : O, (L.set b o)[b]? = some o := fun o => List.getElem?_set_self hbl
  have hcs : ∀ o : O, (L.set b o)[c]? = some (.lst (is.map D.int)) := fun o => by rw [List.getElem?_set_ne (Ne.symm hbc)]; exact hc
  have hss : ∀ o o' : O, (L.set b o).set b o' = L.set b o' := fun o o' => List.set_set ..
  have fin : ∀ (i' : Nat) (cur' seed' cnt' : Int), i' ≤ is.length → 0 ≤ cur' → 0 ≤ seed' → seed' < 2147483563 → Step b c L (L.set b (bagO c i' cur' seed' cnt')) := fun i' cur' seed' cnt' e1 e2 e3 e4 =>
    Step.set ⟨is, i', cur', seed', cnt', hbc, hbs _, hcs _, h63, e1, e2, e3, e4⟩
  have hs0 : s ≠ 0 := by omega
  have hs3 : s.natAbs < 1073741824 := by omega
  refine go_def (fd := fd__law_pull) rfl rfl ?_
  simp only [fd__law_pull, ir__law_pull]
  refine go_cons (go_asg ?_)
  try simp -implicitDefEqProofs only [fs_nil, fs_cons, fmt_str, fmt_int, ev_var, ev_cint, ev_cstr, ev_cbl, ev_cnon, ev_gcon, ev_bop, ev_neg, ev_cmp, ev_isn, ev_nisn, ev_chain, ev_and, ev_or, ev_not, ev_ife, ev_tup, ev_lst, ev_ix, ev_sl, ev_call, ev_meth, ev_make, ev_attr, ev_bi, ev_bm, ev_isin, ev_fstr, evEs, evB, evT, evO, evI, puT, puTs, List.map, List.replicate, List.length, Nat.sub_self, List.append, List.cons_append, List.nil_append, List.getElem?_cons_zero, List.getElem?_cons_succ, must, Option.bind_some, Mi.ret, at5_0, at5_1, at5_2, at5_3, at5_4, ix5_1, ix5_2, ix5_3, ix5_4, List.set_cons_succ, List.set_cons_zero, runs_ok, runs_bind, runs_quiet, Then, after_rt, after_nx, Option.map_some, List.length_map, tgLen, if_true, if_false, eq_self, Bool.false_eq_true, reduceIte, bmTag, Bool.and_self, sz0, sz1, sz2, sz3, sz4, sz5, sz6, sz7, sz8, sz9, sz10, sz11, sz12, Int.reduceLE, Int.reduceLT, Int.reduceToNat, Int.reduceNe, Int.reduceEq, Int.reduceNeg, decide_true, decide_false, Bool.true_and, Bool.and_true, Bool.or_true, Bool.true_or, Bool.not_true, Bool.not_false, ne_eq, not_false_eq_true, Nat.reducePow, Int.reducePow, na10, int_d, jx5_1, jx5_2, jx5_3, jx5_4, b_add, b_sub, b_adds, b_addt, b_addl, b_mul, b_fdiv, b_mod, b_pow, c_eq, c_ne, c_in, c_nin, c_lt, c_le, c_gt, c_ge, e_ii, e_ss, e_bb, t_bl, t_int, t_non, t_str, t_ref, t_tup, s_ref, s_tup, s_fzl, l_ref, l_fzl, l_tup, i_ref, i_tup, i_fzl, i_str, put_ref, slq_fzl, slq_str, new_l, int_d, src_fzl, src_tup, src_str, src_ref, get_snoc, n_len_s, n_len_t, n_len_r, n_len_f, n_int_i, n_int_b, n_int_s, n_abs, n_tup_r, n_lst_r, n_str_i, n_str_s, nn_non, nn_int, nn_str, nn_bl, nn_tup, nn_ref, tag_is_str, tag_is_int, tag_is_bl, tag_is_non, tag_is_tup, tag_is_ref, Option.some.injEq, reduceCtorEq, hb]
  -- behind the taken cell
  have tail : ∀ (cell : Option D) (i' : Nat) (cur' seed' cnt' : Int), i' ≤ is.length → 0 ≤ cur' → 0 ≤ seed' → seed' < 2147483563 →
      Runs (exSs R.T (callN R.T wf n) wf (.cons (.ife (.cmp .Gt (.ix (.var 0) (.cint 2)) (.cint 0)) (.cons (.asg (.tup (.cons (.var 3) (.cons (.sub (.var 0) (.cint 2)) .nil))) (.tup (.cons (.bop .mod (.bi .int1 (.cons (.ix (.var 0) (.cint 2)) .nil)) (.var 1)) (.cons (.bop .fdiv (.ix (.var 0) (.cint 2)) (.var 1)) .nil)))) (.cons (.ret (.var 3)) .nil)) .nil) (.cons (.asg (.var 4) (.ix (.var 0) (.cint 3))) (.cons (.asg (.sub (.var 0) (.cint 3)) (.bop .mod (.bi .int1 (.cons (.bop .add (.bop .add (.bop .add (.bop .pow (.var 4) (.cint 3)) (.bop .mul (.var 4) (.cint 38543))) (.bop .mul (.ix (.var 0) (.cint 4)) (.cint 1299721))) (.cint 65269)) .nil)) (.cint 2147483563))) (.cons (.ret (.bop .mod (.bi .int1 (.cons (.bop .add (.bop .fdiv (.ix (.var 0) (.cint 3)) (.cint 97)) (.bop .mul (.bop .mod (.bi .int1 (.cons (.ix (.var 0) (.cint 3)) .nil)) (.cint 7927)) (.cint 67))) .nil)) (.var 1))) .nil)))) [some (.ref b), some (.int s), cell, none, none] (L.set b (bagO c i' cur' seed' cnt'))) (After fun d L' => (∃ r, d = .int r ∧ 0 ≤ r ∧ r < s) ∧ Step b c L L') := by
    intro cell i' cur' seed' cnt' e1 e2 e3 e4
    refine go_cons (go_if ?_)
    try simp -implicitDefEqProofs only [fs_nil, fs_cons, fmt_str, fmt_int, ev_var, ev_cint, ev_cstr, ev_cbl, ev_cnon, ev_gcon, ev_bop, ev_neg, ev_cmp, ev_isn, ev_nisn, ev_chain, ev_and, ev_or, ev_not, ev_ife, ev_tup, ev_lst, ev_ix, ev_sl, ev_call, ev_meth, ev_make, ev_attr, ev_bi, ev_bm, ev_isin, ev_fstr, evEs, evB, evT, evO, evI, puT, puTs, List.map, List.replicate, List.length, Nat.sub_self, List.append, List.cons_append, List.nil_append, List.getElem?_cons_zero, List.getElem?_cons_succ, must, Option.bind_some, Mi.ret, at5_0, at5_1, at5_2, at5_3, at5_4, ix5_1, ix5_2, ix5_3, ix5_4, List.set_cons_succ, List.set_cons_zero, runs_ok, runs_bind, runs_quiet, Then, after_rt, after_nx, Option.map_some, List.length_map, tgLen, if_true, if_false, eq_self, Bool.false_eq_true, reduceIte, bmTag, Bool.and_self, sz0, sz1, sz2, sz3, sz4, sz5, sz6, sz7, sz8, sz9, sz10, sz11, sz12, Int.reduceLE, Int.reduceLT, Int.reduceToNat, Int.reduceNe, Int.reduceEq, Int.reduceNeg, decide_true, decide_false, Bool.true_and, Bool.and_true, Bool.or_true, Bool.true_or, Bool.not_true, Bool.not_false, ne_eq, not_false_eq_true, Nat.reducePow, Int.reducePow, na10, int_d, jx5_1, jx5_2, jx5_3, jx5_4, b_add, b_sub, b_adds, b_addt, b_addl, b_mul, b_fdiv, b_mod, b_pow, c_eq, c_ne, c_in, c_nin, c_lt, c_le, c_gt, c_ge, e_ii, e_ss, e_bb, t_bl, t_int, t_non, t_str, t_ref, t_tup, s_ref, s_tup, s_fzl, l_ref, l_fzl, l_tup, i_ref, i_tup, i_fzl, i_str, put_ref, slq_fzl, slq_str, new_l, int_d, src_fzl, src_tup, src_str, src_ref, get_snoc, n_len_s, n_len_t, n_len_r, n_len_f, n_int_i, n_int_b, n_int_s, n_abs, n_tup_r, n_lst_r, n_str_i, n_str_s, nn_non, nn_int, nn_str, nn_bl, nn_tup, nn_ref, tag_is_str, tag_is_int, tag_is_bl, tag_is_non, tag_is_tup, tag_is_ref, Option.some.injEq, reduceCtorEq, hbs]
    by_cases hc0 : 0 < cur'
    · simp only [decide_eq_true hc0, if_true]
      refine go_cons (go_asg ?_)
      try simp -implicitDefEqProofs only [fs_nil, fs_cons, fmt_str, fmt_int, ev_var, ev_cint, ev_cstr, ev_cbl, ev_cnon, ev_gcon, ev_bop, ev_neg, ev_cmp, ev_isn, ev_nisn, ev_chain, ev_and, ev_or, ev_not, ev_ife, ev_tup, ev_lst, ev_ix, ev_sl, ev_call, ev_meth, ev_make, ev_attr, ev_bi, ev_bm, ev_isin, ev_fstr, evEs, evB, evT, evO, evI, puT, puTs, List.map, List.replicate, List.length, Nat.sub_self, List.append, List.cons_append, List.nil_append, List.getElem?_cons_zero, List.getElem?_cons_succ, must, Option.bind_some, Mi.ret, at5_0, at5_1, at5_2, at5_3, at5_4, ix5_1, ix5_2, ix5_3, ix5_4, List.set_cons_succ, List.set_cons_zero, runs_ok, runs_bind, runs_quiet, Then, after_rt, after_nx, Option.map_some, List.length_map, tgLen, if_true, if_false, eq_self, Bool.false_eq_true, reduceIte, bmTag, Bool.and_self, sz0, sz1, sz2, sz3, sz4, sz5, sz6, sz7, sz8, sz9, sz10, sz11, sz12, Int.reduceLE, Int.reduceLT, Int.reduceToNat, Int.reduceNe, Int.reduceEq, Int.reduceNeg, decide_true, decide_false, Bool.true_and, Bool.and_true, Bool.or_true, Bool.true_or, Bool.not_true, Bool.not_false, ne_eq, not_false_eq_true, Nat.reducePow, Int.reducePow, na10, int_d, jx5_1, jx5_2, jx5_3, jx5_4, b_add, b_sub, b_adds, b_addt, b_addl, b_mul, b_fdiv, b_mod, b_pow, c_eq, c_ne, c_in, c_nin, c_lt, c_le, c_gt, c_ge, e_ii, e_ss, e_bb, t_bl, t_int, t_non, t_str, t_ref, t_tup, s_ref, s_tup, s_fzl, l_ref, l_fzl, l_tup, i_ref, i_tup, i_fzl, i_str, put_ref, slq_fzl, slq_str, new_l, int_d, src_fzl, src_tup, src_str, src_ref, get_snoc, n_len_s, n_len_t, n_len_r, n_len_f, n_int_i, n_int_b, n_int_s, n_abs, n_tup_r, n_lst_r, n_str_i, n_str_s, nn_non, nn_int, nn_str, nn_bl, nn_tup, nn_ref, tag_is_str, tag_is_int, tag_is_bl, tag_is_non, tag_is_tup, tag_is_ref, Option.some.injEq, reduceCtorEq, hbs, hss, decide_eq_true hs0, decide_eq_true hs3, Bool.and_self]
      refine go_cons (go_ret ?_)
      try simp -implicitDefEqProofs only [fs_nil, fs_cons, fmt_str, fmt_int, ev_var, ev_cint, ev_cstr, ev_cbl, ev_cnon, ev_gcon, ev_bop, ev_neg, ev_cmp, ev_isn, ev_nisn, ev_chain, ev_and, ev_or, ev_not, ev_ife, ev_tup, ev_lst, ev_ix, ev_sl, ev_call, ev_meth, ev_make, ev_attr, ev_bi, ev_bm, ev_isin, ev_fstr, evEs, evB, evT, evO, evI, puT, puTs, List.map, List.replicate, List.length, Nat.sub_self, List.append, List.cons_append, List.nil_append, List.getElem?_cons_zero, List.getElem?_cons_succ, must, Option.bind_some, Mi.ret, at5_0, at5_1, at5_2, at5_3, at5_4, ix5_1, ix5_2, ix5_3, ix5_4, List.set_cons_succ, List.set_cons_zero, runs_ok, runs_bind, runs_quiet, Then, after_rt, after_nx, Option.map_some, List.length_map, tgLen, if_true, if_false, eq_self, Bool.false_eq_true, reduceIte, bmTag, Bool.and_self, sz0, sz1, sz2, sz3, sz4, sz5, sz6, sz7, sz8, sz9, sz10, sz11, sz12, Int.reduceLE, Int.reduceLT, Int.reduceToNat, Int.reduceNe, Int.reduceEq, Int.reduceNeg, decide_true, decide_false, Bool.true_and, Bool.and_true, Bool.or_true, Bool.true_or, Bool.not_true, Bool.not_false, ne_eq, not_false_eq_true, Nat.reducePow, Int.reducePow, na10, int_d, jx5_1, jx5_2, jx5_3, jx5_4, b_add, b_sub, b_adds, b_addt, b_addl, b_mul, b_fdiv, b_mod, b_pow, c_eq, c_ne, c_in, c_nin, c_lt, c_le, c_gt, c_ge, e_ii, e_ss, e_bb, t_bl, t_int, t_non, t_str, t_ref, t_tup, s_ref, s_tup, s_fzl, l_ref, l_fzl, l_tup, i_ref, i_tup, i_fzl, i_str, put_ref, slq_fzl, slq_str, new_l, int_d, src_fzl, src_tup, src_str, src_ref, get_snoc, n_len_s, n_len_t, n_len_r, n_len_f, n_int_i, n_int_b, n_int_s, n_abs, n_tup_r, n_lst_r, n_str_i, n_str_s, nn_non, nn_int, nn_str, nn_bl, nn_tup, nn_ref, tag_is_str, tag_is_int, tag_is_bl, tag_is_non, tag_is_tup, tag_is_ref, Option.some.injEq, reduceCtorEq, hbs]
      refine ⟨⟨_, rfl, (fmod_lt _ hs).1, (fmod_lt _ hs).2⟩, fin i' _ _ _ e1 ?_ e3 e4⟩
      exact Int.fdiv_nonneg e2 (by omega)
    · simp only [decide_eq_false hc0, Bool.false_eq_true, if_false]
      refine go_nil (T := R.T) (C := callN R.T wf n) (wf := wf) ?_
      refine go_cons (go_var ?_)
      try simp -implicitDefEqProofs only [fs_nil, fs_cons, fmt_str, fmt_int, ev_var, ev_cint, ev_cstr, ev_cbl, ev_cnon, ev_gcon, ev_bop, ev_neg, ev_cmp, ev_isn, ev_nisn, ev_chain, ev_and, ev_or, ev_not, ev_ife, ev_tup, ev_lst, ev_ix, ev_sl, ev_call, ev_meth, ev_make, ev_attr, ev_bi, ev_bm, ev_isin, ev_fstr, evEs, evB, evT, evO, evI, puT, puTs, List.map, List.replicate, List.length, Nat.sub_self, List.append, List.cons_append, List.nil_append, List.getElem?_cons_zero, List.getElem?_cons_succ, must, Option.bind_some, Mi.ret, at5_0, at5_1, at5_2, at5_3, at5_4, ix5_1, ix5_2, ix5_3, ix5_4, List.set_cons_succ, List.set_cons_zero, runs_ok, runs_bind, runs_quiet, Then, after_rt, after_nx, Option.map_some, List.length_map, tgLen, if_true, if_false, eq_self, Bool.false_eq_true, reduceIte, bmTag, Bool.and_self, sz0, sz1, sz2, sz3, sz4, sz5, sz6, sz7, sz8, sz9, sz10, sz11, sz12, Int.reduceLE, Int.reduceLT, Int.reduceToNat, Int.reduceNe, Int.reduceEq, Int.reduceNeg, decide_true, decide_false, Bool.true_and, Bool.and_true, Bool.or_true, Bool.true_or, Bool.not_true, Bool.not_false, ne_eq, not_false_eq_true, Nat.reducePow, Int.reducePow, na10, int_d, jx5_1, jx5_2, jx5_3, jx5_4, b_add, b_sub, b_adds, b_addt, b_addl, b_mul, b_fdiv, b_mod, b_pow, c_eq, c_ne, c_in, c_nin, c_lt, c_le, c_gt, c_ge, e_ii, e_ss, e_bb, t_bl, t_int, t_non, t_str, t_ref, t_tup, s_ref, s_tup, s_fzl, l_ref, l_fzl, l_tup, i_ref, i_tup, i_fzl, i_str, put_ref, slq_fzl, slq_str, new_l, int_d, src_fzl, src_tup, src_str, src_ref, get_snoc, n_len_s, n_len_t, n_len_r, n_len_f, n_int_i, n_int_b, n_int_s, n_abs, n_tup_r, n_lst_r, n_str_i, n_str_s, nn_non, nn_int, nn_str, nn_bl, nn_tup, nn_ref, tag_is_str, tag_is_int, tag_is_bl, tag_is_non, tag_is_tup, tag_is_ref, Option.some.injEq, reduceCtorEq, hbs]
      refine go_cons (go_asg ?_)
      have hp : seed'.natAbs < 18446744073709551616 := by omega
      try simp -implicitDefEqProofs only [fs_nil, fs_cons, fmt_str, fmt_int, ev_var, ev_cint, ev_cstr, ev_cbl, ev_cnon, ev_gcon, ev_bop, ev_neg, ev_cmp, ev_isn, ev_nisn, ev_chain, ev_and, ev_or, ev_not, ev_ife, ev_tup, ev_lst, ev_ix, ev_sl, ev_call, ev_meth, ev_make, ev_attr, ev_bi, ev_bm, ev_isin, ev_fstr, evEs, evB, evT, evO, evI, puT, puTs, List.map, List.replicate, List.length, Nat.sub_self, List.append, List.cons_append, List.nil_append, List.getElem?_cons_zero, List.getElem?_cons_succ, must, Option.bind_some, Mi.ret, at5_0, at5_1, at5_2, at5_3, at5_4, ix5_1, ix5_2, ix5_3, ix5_4, List.set_cons_succ, List.set_cons_zero, runs_ok, runs_bind, runs_quiet, Then, after_rt, after_nx, Option.map_some, List.length_map, tgLen, if_true, if_false, eq_self, Bool.false_eq_true, reduceIte, bmTag, Bool.and_self, sz0, sz1, sz2, sz3, sz4, sz5, sz6, sz7, sz8, sz9, sz10, sz11, sz12, Int.reduceLE, Int.reduceLT, Int.reduceToNat, Int.reduceNe, Int.reduceEq, Int.reduceNeg, decide_true, decide_false, Bool.true_and, Bool.and_true, Bool.or_true, Bool.true_or, Bool.not_true, Bool.not_false, ne_eq, not_false_eq_true, Nat.reducePow, Int.reducePow, na10, int_d, jx5_1, jx5_2, jx5_3, jx5_4, b_add, b_sub, b_adds, b_addt, b_addl, b_mul, b_fdiv, b_mod, b_pow, c_eq, c_ne, c_in, c_nin, c_lt, c_le, c_gt, c_ge, e_ii, e_ss, e_bb, t_bl, t_int, t_non, t_str, t_ref, t_tup, s_ref, s_tup, s_fzl, l_ref, l_fzl, l_tup, i_ref, i_tup, i_fzl, i_str, put_ref, slq_fzl, slq_str, new_l, int_d, src_fzl, src_tup, src_str, src_ref, get_snoc, n_len_s, n_len_t, n_len_r, n_len_f, n_int_i, n_int_b, n_int_s, n_abs, n_tup_r, n_lst_r, n_str_i, n_str_s, nn_non, nn_int, nn_str, nn_bl, nn_tup, nn_ref, tag_is_str, tag_is_int, tag_is_bl, tag_is_non, tag_is_tup, tag_is_ref, Option.some.injEq, reduceCtorEq, hbs, hss, show okI 38543 = true from rfl, show okI 1299721 = true from rfl, decide_eq_true hp]
      refine go_cons (go_ret ?_)
      try simp -implicitDefEqProofs only [fs_nil, fs_cons, fmt_str, fmt_int, ev_var, ev_cint, ev_cstr, ev_cbl, ev_cnon, ev_gcon, ev_bop, ev_neg, ev_cmp, ev_isn, ev_nisn, ev_chain, ev_and, ev_or, ev_not, ev_ife, ev_tup, ev_lst, ev_ix, ev_sl, ev_call, ev_meth, ev_make, ev_attr, ev_bi, ev_bm, ev_isin, ev_fstr, evEs, evB, evT, evO, evI, puT, puTs, List.map, List.replicate, List.length, Nat.sub_self, List.append, List.cons_append, List.nil_append, List.getElem?_cons_zero, List.getElem?_cons_succ, must, Option.bind_some, Mi.ret, at5_0, at5_1, at5_2, at5_3, at5_4, ix5_1, ix5_2, ix5_3, ix5_4, List.set_cons_succ, List.set_cons_zero, runs_ok, runs_bind, runs_quiet, Then, after_rt, after_nx, Option.map_some, List.length_map, tgLen, if_true, if_false, eq_self, Bool.false_eq_true, reduceIte, bmTag, Bool.and_self, sz0, sz1, sz2, sz3, sz4, sz5, sz6, sz7, sz8, sz9, sz10, sz11, sz12, Int.reduceLE, Int.reduceLT, Int.reduceToNat, Int.reduceNe, Int.reduceEq, Int.reduceNeg, decide_true, decide_false, Bool.true_and, Bool.and_true, Bool.or_true, Bool.true_or, Bool.not_true, Bool.not_false, ne_eq, not_false_eq_true, Nat.reducePow, Int.reducePow, na10, int_d, jx5_1, jx5_2, jx5_3, jx5_4, b_add, b_sub, b_adds, b_addt, b_addl, b_mul, b_fdiv, b_mod, b_pow, c_eq, c_ne, c_in, c_nin, c_lt, c_le, c_gt, c_ge, e_ii, e_ss, e_bb, t_bl, t_int, t_non, t_str, t_ref, t_tup, s_ref, s_tup, s_fzl, l_ref, l_fzl, l_tup, i_ref, i_tup, i_fzl, i_str, put_ref, slq_fzl, slq_str, new_l, int_d, src_fzl, src_tup, src_str, src_ref, get_snoc, n_len_s, n_len_t, n_len_r, n_len_f, n_int_i, n_int_b, n_int_s, n_abs, n_tup_r, n_lst_r, n_str_i, n_str_s, nn_non, nn_int, nn_str, nn_bl, nn_tup, nn_ref, tag_is_str, tag_is_int, tag_is_bl, tag_is_non, tag_is_tup, tag_is_ref, Option.some.injEq, reduceCtorEq, hbs, show okI 67 = true from rfl, hs0, show decide (Int.natAbs 97 < 1073741824) = true from rfl]
      exact ⟨⟨_, rfl, (fmod_lt _ hs).1, (fmod_lt _ hs).2⟩, fin i' _ _ _ e1 e2 (fmod_lt _ (by decide)).1 (fmod_lt _ (by decide)).2⟩
  refine go_cons (go_if ?_)
  by_cases hc0 : cur = 0
  · by_cases hl : (i : Int) < (is.length : Nat)
    · have hil : i < is.length := by omega
      have hat : atI (is.map D.int) (i : Int) = some (.int is[i]) := by
        rw [atI_nat _ _ (by rw [List.length_map]; exact hil)]
        simp [hil]
      try simp -implicitDefEqProofs only [fs_nil, fs_cons, fmt_str, fmt_int, ev_var, ev_cint, ev_cstr, ev_cbl, ev_cnon, ev_gcon, ev_bop, ev_neg, ev_cmp, ev_isn, ev_nisn, ev_chain, ev_and, ev_or, ev_not, ev_ife, ev_tup, ev_lst, ev_ix, ev_sl, ev_call, ev_meth, ev_make, ev_attr, ev_bi, ev_bm, ev_isin, ev_fstr, evEs, evB, evT, evO, evI, puT, puTs, List.map, List.replicate, List.length, Nat.sub_self, List.append, List.cons_append, List.nil_append, List.getElem?_cons_zero, List.getElem?_cons_succ, must, Option.bind_some, Mi.ret, at5_0, at5_1, at5_2, at5_3, at5_4, ix5_1, ix5_2, ix5_3, ix5_4, List.set_cons_succ, List.set_cons_zero, runs_ok, runs_bind, runs_quiet, Then, after_rt, after_nx, Option.map_some, List.length_map, tgLen, if_true, if_false, eq_self, Bool.false_eq_true, reduceIte, bmTag, Bool.and_self, sz0, sz1, sz2, sz3, sz4, sz5, sz6, sz7, sz8, sz9, sz10, sz11, sz12, Int.reduceLE, Int.reduceLT, Int.reduceToNat, Int.reduceNe, Int.reduceEq, Int.reduceNeg, decide_true, decide_false, Bool.true_and, Bool.and_true, Bool.or_true, Bool.true_or, Bool.not_true, Bool.not_false, ne_eq, not_false_eq_true, Nat.reducePow, Int.reducePow, na10, int_d, jx5_1, jx5_2, jx5_3, jx5_4, b_add, b_sub, b_adds, b_addt, b_addl, b_mul, b_fdiv, b_mod, b_pow, c_eq, c_ne, c_in, c_nin, c_lt, c_le, c_gt, c_ge, e_ii, e_ss, e_bb, t_bl, t_int, t_non, t_str, t_ref, t_tup, s_ref, s_tup, s_fzl, l_ref, l_fzl, l_tup, i_ref, i_tup, i_fzl, i_str, put_ref, slq_fzl, slq_str, new_l, int_d, src_fzl, src_tup, src_str, src_ref, get_snoc, n_len_s, n_len_t, n_len_r, n_len_f, n_int_i, n_int_b, n_int_s, n_abs, n_tup_r, n_lst_r, n_str_i, n_str_s, nn_non, nn_int, nn_str, nn_bl, nn_tup, nn_ref, tag_is_str, tag_is_int, tag_is_bl, tag_is_non, tag_is_tup, tag_is_ref, Option.some.injEq, reduceCtorEq, hbs, hcs, hss, decide_eq_true hc0, decide_eq_true hl]
      refine go_cons (go_asg ?_)
      try simp -implicitDefEqProofs only [fs_nil, fs_cons, fmt_str, fmt_int, ev_var, ev_cint, ev_cstr, ev_cbl, ev_cnon, ev_gcon, ev_bop, ev_neg, ev_cmp, ev_isn, ev_nisn, ev_chain, ev_and, ev_or, ev_not, ev_ife, ev_tup, ev_lst, ev_ix, ev_sl, ev_call, ev_meth, ev_make, ev_attr, ev_bi, ev_bm, ev_isin, ev_fstr, evEs, evB, evT, evO, evI, puT, puTs, List.map, List.replicate, List.length, Nat.sub_self, List.append, List.cons_append, List.nil_append, List.getElem?_cons_zero, List.getElem?_cons_succ, must, Option.bind_some, Mi.ret, at5_0, at5_1, at5_2, at5_3, at5_4, ix5_1, ix5_2, ix5_3, ix5_4, List.set_cons_succ, List.set_cons_zero, runs_ok, runs_bind, runs_quiet, Then, after_rt, after_nx, Option.map_some, List.length_map, tgLen, if_true, if_false, eq_self, Bool.false_eq_true, reduceIte, bmTag, Bool.and_self, sz0, sz1, sz2, sz3, sz4, sz5, sz6, sz7, sz8, sz9, sz10, sz11, sz12, Int.reduceLE, Int.reduceLT, Int.reduceToNat, Int.reduceNe, Int.reduceEq, Int.reduceNeg, decide_true, decide_false, Bool.true_and, Bool.and_true, Bool.or_true, Bool.true_or, Bool.not_true, Bool.not_false, ne_eq, not_false_eq_true, Nat.reducePow, Int.reducePow, na10, int_d, jx5_1, jx5_2, jx5_3, jx5_4, b_add, b_sub, b_adds, b_addt, b_addl, b_mul, b_fdiv, b_mod, b_pow, c_eq, c_ne, c_in, c_nin, c_lt, c_le, c_gt, c_ge, e_ii, e_ss, e_bb, t_bl, t_int, t_non, t_str, t_ref, t_tup, s_ref, s_tup, s_fzl, l_ref, l_fzl, l_tup, i_ref, i_tup, i_fzl, i_str, put_ref, slq_fzl, slq_str, new_l, int_d, src_fzl, src_tup, src_str, src_ref, get_snoc, n_len_s, n_len_t, n_len_r, n_len_f, n_int_i, n_int_b, n_int_s, n_abs, n_tup_r, n_lst_r, n_str_i, n_str_s, nn_non, nn_int, nn_str, nn_bl, nn_tup, nn_ref, tag_is_str, tag_is_int, tag_is_bl, tag_is_non, tag_is_tup, tag_is_ref, Option.some.injEq, reduceCtorEq, hbs, hcs, hss, hat]
      refine go_cons (go_if ?_)
      have fin2 : ∀ cur', 0 ≤ cur' → Runs (exSs R.T (callN R.T wf n) wf (.cons (.asg (.sub (.var 0) (.cint 3)) (.bop .mod (.bi .int1 (.cons (.bop .add (.bop .add (.bop .mul (.ix (.var 0) (.cint 3)) (.cint 39227)) (.bop .mul (.bop .mod (.bi .int1 (.cons (.var 2) .nil)) (.cint 2147483543)) (.cint 40343))) (.cint 47)) .nil)) (.cint 2147483563))) .nil) [some (.ref b), some (.int s), some (.int is[i]), none, none] (L.set b (bagO c ((i : Int) + 1) cur' seed (cnt + 1)))) fun fl L1 => ∃ seed', fl = .nx [some (.ref b), some (.int s), some (.int is[i]), none, none] ∧ L1 = L.set b (bagO c ((i : Int) + 1) cur' seed' (cnt + 1)) ∧ 0 ≤ seed' ∧ seed' < 2147483563 := by
        intro cur' _
        refine go_cons (go_asg ?_)
        try simp -implicitDefEqProofs only [fs_nil, fs_cons, fmt_str, fmt_int, ev_var, ev_cint, ev_cstr, ev_cbl, ev_cnon, ev_gcon, ev_bop, ev_neg, ev_cmp, ev_isn, ev_nisn, ev_chain, ev_and, ev_or, ev_not, ev_ife, ev_tup, ev_lst, ev_ix, ev_sl, ev_call, ev_meth, ev_make, ev_attr, ev_bi, ev_bm, ev_isin, ev_fstr, evEs, evB, evT, evO, evI, puT, puTs, List.map, List.replicate, List.length, Nat.sub_self, List.append, List.cons_append, List.nil_append, List.getElem?_cons_zero, List.getElem?_cons_succ, must, Option.bind_some, Mi.ret, at5_0, at5_1, at5_2, at5_3, at5_4, ix5_1, ix5_2, ix5_3, ix5_4, List.set_cons_succ, List.set_cons_zero, runs_ok, runs_bind, runs_quiet, Then, after_rt, after_nx, Option.map_some, List.length_map, tgLen, if_true, if_false, eq_self, Bool.false_eq_true, reduceIte, bmTag, Bool.and_self, sz0, sz1, sz2, sz3, sz4, sz5, sz6, sz7, sz8, sz9, sz10, sz11, sz12, Int.reduceLE, Int.reduceLT, Int.reduceToNat, Int.reduceNe, Int.reduceEq, Int.reduceNeg, decide_true, decide_false, Bool.true_and, Bool.and_true, Bool.or_true, Bool.true_or, Bool.not_true, Bool.not_false, ne_eq, not_false_eq_true, Nat.reducePow, Int.reducePow, na10, int_d, jx5_1, jx5_2, jx5_3, jx5_4, b_add, b_sub, b_adds, b_addt, b_addl, b_mul, b_fdiv, b_mod, b_pow, c_eq, c_ne, c_in, c_nin, c_lt, c_le, c_gt, c_ge, e_ii, e_ss, e_bb, t_bl, t_int, t_non, t_str, t_ref, t_tup, s_ref, s_tup, s_fzl, l_ref, l_fzl, l_tup, i_ref, i_tup, i_fzl, i_str, put_ref, slq_fzl, slq_str, new_l, int_d, src_fzl, src_tup, src_str, src_ref, get_snoc, n_len_s, n_len_t, n_len_r, n_len_f, n_int_i, n_int_b, n_int_s, n_abs, n_tup_r, n_lst_r, n_str_i, n_str_s, nn_non, nn_int, nn_str, nn_bl, nn_tup, nn_ref, tag_is_str, tag_is_int, tag_is_bl, tag_is_non, tag_is_tup, tag_is_ref, Option.some.injEq, reduceCtorEq, hbs, hss, show okI 39227 = true from rfl, show okI 40343 = true from rfl]
        exact go_nil ⟨_, rfl, rfl, (fmod_lt _ (by decide)).1, (fmod_lt _ (by decide)).2⟩
      have go2 : ∀ cur', 0 ≤ cur' → ∀ fl L1, (∃ seed', fl = Fl.nx [some (.ref b), some (.int s), some (.int is[i]), none, none] ∧ L1 = L.set b (bagO c ((i : Int) + 1) cur' seed' (cnt + 1)) ∧ 0 ≤ seed' ∧ seed' < 2147483563) → ∃ seed', fl = Fl.nx [some (.ref b), some (.int s), some (.int is[i]), none, none] ∧ L1 = L.set b (bagO c ((i + 1 : Nat) : Int) cur' seed' (cnt + 1)) ∧ 0 ≤ seed' ∧ seed' < 2147483563 := fun _ _ _ _ ⟨x, h1, h2, h3⟩ => ⟨x, h1, h2, h3⟩
      by_cases hbig : (1000000000000000000 : Int) ≤ is[i]
      · try simp -implicitDefEqProofs only [fs_nil, fs_cons, fmt_str, fmt_int, ev_var, ev_cint, ev_cstr, ev_cbl, ev_cnon, ev_gcon, ev_bop, ev_neg, ev_cmp, ev_isn, ev_nisn, ev_chain, ev_and, ev_or, ev_not, ev_ife, ev_tup, ev_lst, ev_ix, ev_sl, ev_call, ev_meth, ev_make, ev_attr, ev_bi, ev_bm, ev_isin, ev_fstr, evEs, evB, evT, evO, evI, puT, puTs, List.map, List.replicate, List.length, Nat.sub_self, List.append, List.cons_append, List.nil_append, List.getElem?_cons_zero, List.getElem?_cons_succ, must, Option.bind_some, Mi.ret, at5_0, at5_1, at5_2, at5_3, at5_4, ix5_1, ix5_2, ix5_3, ix5_4, List.set_cons_succ, List.set_cons_zero, runs_ok, runs_bind, runs_quiet, Then, after_rt, after_nx, Option.map_some, List.length_map, tgLen, if_true, if_false, eq_self, Bool.false_eq_true, reduceIte, bmTag, Bool.and_self, sz0, sz1, sz2, sz3, sz4, sz5, sz6, sz7, sz8, sz9, sz10, sz11, sz12, Int.reduceLE, Int.reduceLT, Int.reduceToNat, Int.reduceNe, Int.reduceEq, Int.reduceNeg, decide_true, decide_false, Bool.true_and, Bool.and_true, Bool.or_true, Bool.true_or, Bool.not_true, Bool.not_false, ne_eq, not_false_eq_true, Nat.reducePow, Int.reducePow, na10, int_d, jx5_1, jx5_2, jx5_3, jx5_4, b_add, b_sub, b_adds, b_addt, b_addl, b_mul, b_fdiv, b_mod, b_pow, c_eq, c_ne, c_in, c_nin, c_lt, c_le, c_gt, c_ge, e_ii, e_ss, e_bb, t_bl, t_int, t_non, t_str, t_ref, t_tup, s_ref, s_tup, s_fzl, l_ref, l_fzl, l_tup, i_ref, i_tup, i_fzl, i_str, put_ref, slq_fzl, slq_str, new_l, int_d, src_fzl, src_tup, src_str, src_ref, get_snoc, n_len_s, n_len_t, n_len_r, n_len_f, n_int_i, n_int_b, n_int_s, n_abs, n_tup_r, n_lst_r, n_str_i, n_str_s, nn_non, nn_int, nn_str, nn_bl, nn_tup, nn_ref, tag_is_str, tag_is_int, tag_is_bl, tag_is_non, tag_is_tup, tag_is_ref, Option.some.injEq, reduceCtorEq, hbs, hss, decide_eq_true hbig]
        refine go_cons (go_asg ?_)
        try simp -implicitDefEqProofs only [fs_nil, fs_cons, fmt_str, fmt_int, ev_var, ev_cint, ev_cstr, ev_cbl, ev_cnon, ev_gcon, ev_bop, ev_neg, ev_cmp, ev_isn, ev_nisn, ev_chain, ev_and, ev_or, ev_not, ev_ife, ev_tup, ev_lst, ev_ix, ev_sl, ev_call, ev_meth, ev_make, ev_attr, ev_bi, ev_bm, ev_isin, ev_fstr, evEs, evB, evT, evO, evI, puT, puTs, List.map, List.replicate, List.length, Nat.sub_self, List.append, List.cons_append, List.nil_append, List.getElem?_cons_zero, List.getElem?_cons_succ, must, Option.bind_some, Mi.ret, at5_0, at5_1, at5_2, at5_3, at5_4, ix5_1, ix5_2, ix5_3, ix5_4, List.set_cons_succ, List.set_cons_zero, runs_ok, runs_bind, runs_quiet, Then, after_rt, after_nx, Option.map_some, List.length_map, tgLen, if_true, if_false, eq_self, Bool.false_eq_true, reduceIte, bmTag, Bool.and_self, sz0, sz1, sz2, sz3, sz4, sz5, sz6, sz7, sz8, sz9, sz10, sz11, sz12, Int.reduceLE, Int.reduceLT, Int.reduceToNat, Int.reduceNe, Int.reduceEq, Int.reduceNeg, decide_true, decide_false, Bool.true_and, Bool.and_true, Bool.or_true, Bool.true_or, Bool.not_true, Bool.not_false, ne_eq, not_false_eq_true, Nat.reducePow, Int.reducePow, na10, int_d, jx5_1, jx5_2, jx5_3, jx5_4, b_add, b_sub, b_adds, b_addt, b_addl, b_mul, b_fdiv, b_mod, b_pow, c_eq, c_ne, c_in, c_nin, c_lt, c_le, c_gt, c_ge, e_ii, e_ss, e_bb, t_bl, t_int, t_non, t_str, t_ref, t_tup, s_ref, s_tup, s_fzl, l_ref, l_fzl, l_tup, i_ref, i_tup, i_fzl, i_str, put_ref, slq_fzl, slq_str, new_l, int_d, src_fzl, src_tup, src_str, src_ref, get_snoc, n_len_s, n_len_t, n_len_r, n_len_f, n_int_i, n_int_b, n_int_s, n_abs, n_tup_r, n_lst_r, n_str_i, n_str_s, nn_non, nn_int, nn_str, nn_bl, nn_tup, nn_ref, tag_is_str, tag_is_int, tag_is_bl, tag_is_non, tag_is_tup, tag_is_ref, Option.some.injEq, reduceCtorEq, hbs, hss]
        refine go_nil ?_
        have h10 : (0 : Int) ≤ is[i] := Int.le_trans (by decide) hbig
        refine (fin2 is[i] h10).imp fun fl L1 ⟨sd, q1, q2, q3, q4⟩ => ?_
        subst q1 q2
        exact tail _ (i + 1) is[i] sd (cnt + 1) hil h10 q3 q4
      · try simp -implicitDefEqProofs only [fs_nil, fs_cons, fmt_str, fmt_int, ev_var, ev_cint, ev_cstr, ev_cbl, ev_cnon, ev_gcon, ev_bop, ev_neg, ev_cmp, ev_isn, ev_nisn, ev_chain, ev_and, ev_or, ev_not, ev_ife, ev_tup, ev_lst, ev_ix, ev_sl, ev_call, ev_meth, ev_make, ev_attr, ev_bi, ev_bm, ev_isin, ev_fstr, evEs, evB, evT, evO, evI, puT, puTs, List.map, List.replicate, List.length, Nat.sub_self, List.append, List.cons_append, List.nil_append, List.getElem?_cons_zero, List.getElem?_cons_succ, must, Option.bind_some, Mi.ret, at5_0, at5_1, at5_2, at5_3, at5_4, ix5_1, ix5_2, ix5_3, ix5_4, List.set_cons_succ, List.set_cons_zero, runs_ok, runs_bind, runs_quiet, Then, after_rt, after_nx, Option.map_some, List.length_map, tgLen, if_true, if_false, eq_self, Bool.false_eq_true, reduceIte, bmTag, Bool.and_self, sz0, sz1, sz2, sz3, sz4, sz5, sz6, sz7, sz8, sz9, sz10, sz11, sz12, Int.reduceLE, Int.reduceLT, Int.reduceToNat, Int.reduceNe, Int.reduceEq, Int.reduceNeg, decide_true, decide_false, Bool.true_and, Bool.and_true, Bool.or_true, Bool.true_or, Bool.not_true, Bool.not_false, ne_eq, not_false_eq_true, Nat.reducePow, Int.reducePow, na10, int_d, jx5_1, jx5_2, jx5_3, jx5_4, b_add, b_sub, b_adds, b_addt, b_addl, b_mul, b_fdiv, b_mod, b_pow, c_eq, c_ne, c_in, c_nin, c_lt, c_le, c_gt, c_ge, e_ii, e_ss, e_bb, t_bl, t_int, t_non, t_str, t_ref, t_tup, s_ref, s_tup, s_fzl, l_ref, l_fzl, l_tup, i_ref, i_tup, i_fzl, i_str, put_ref, slq_fzl, slq_str, new_l, int_d, src_fzl, src_tup, src_str, src_ref, get_snoc, n_len_s, n_len_t, n_len_r, n_len_f, n_int_i, n_int_b, n_int_s, n_abs, n_tup_r, n_lst_r, n_str_i, n_str_s, nn_non, nn_int, nn_str, nn_bl, nn_tup, nn_ref, tag_is_str, tag_is_int, tag_is_bl, tag_is_non, tag_is_tup, tag_is_ref, Option.some.injEq, reduceCtorEq, hbs, hss, decide_eq_false hbig]
        refine go_nil ?_
        refine (fin2 cur h0).imp fun fl L1 ⟨sd, q1, q2, q3, q4⟩ => ?_
        subst q1 q2
        exact tail _ (i + 1) cur sd (cnt + 1) hil h0 q3 q4
    · try simp -implicitDefEqProofs only [fs_nil, fs_cons, fmt_str, fmt_int, ev_var, ev_cint, ev_cstr, ev_cbl, ev_cnon, ev_gcon, ev_bop, ev_neg, ev_cmp, ev_isn, ev_nisn, ev_chain, ev_and, ev_or, ev_not, ev_ife, ev_tup, ev_lst, ev_ix, ev_sl, ev_call, ev_meth, ev_make, ev_attr, ev_bi, ev_bm, ev_isin, ev_fstr, evEs, evB, evT, evO, evI, puT, puTs, List.map, List.replicate, List.length, Nat.sub_self, List.append, List.cons_append, List.nil_append, List.getElem?_cons_zero, List.getElem?_cons_succ, must, Option.bind_some, Mi.ret, at5_0, at5_1, at5_2, at5_3, at5_4, ix5_1, ix5_2, ix5_3, ix5_4, List.set_cons_succ, List.set_cons_zero, runs_ok, runs_bind, runs_quiet, Then, after_rt, after_nx, Option.map_some, List.length_map, tgLen, if_true, if_false, eq_self, Bool.false_eq_true, reduceIte, bmTag, Bool.and_self, sz0, sz1, sz2, sz3, sz4, sz5, sz6, sz7, sz8, sz9, sz10, sz11, sz12, Int.reduceLE, Int.reduceLT, Int.reduceToNat, Int.reduceNe, Int.reduceEq, Int.reduceNeg, decide_true, decide_false, Bool.true_and, Bool.and_true, Bool.or_true, Bool.true_or, Bool.not_true, Bool.not_false, ne_eq, not_false_eq_true, Nat.reducePow, Int.reducePow, na10, int_d, jx5_1, jx5_2, jx5_3, jx5_4, b_add, b_sub, b_adds, b_addt, b_addl, b_mul, b_fdiv, b_mod, b_pow, c_eq, c_ne, c_in, c_nin, c_lt, c_le, c_gt, c_ge, e_ii, e_ss, e_bb, t_bl, t_int, t_non, t_str, t_ref, t_tup, s_ref, s_tup, s_fzl, l_ref, l_fzl, l_tup, i_ref, i_tup, i_fzl, i_str, put_ref, slq_fzl, slq_str, new_l, int_d, src_fzl, src_tup, src_str, src_ref, get_snoc, n_len_s, n_len_t, n_len_r, n_len_f, n_int_i, n_int_b, n_int_s, n_abs, n_tup_r, n_lst_r, n_str_i, n_str_s, nn_non, nn_int, nn_str, nn_bl, nn_tup, nn_ref, tag_is_str, tag_is_int, tag_is_bl, tag_is_non, tag_is_tup, tag_is_ref, Option.some.injEq, reduceCtorEq, hbs, hcs, hss, decide_eq_true hc0, decide_eq_false hl]
      exact go_nil (tail _ i cur seed (cnt + 1) hi h0 h1 h2)
  · try simp -implicitDefEqProofs only [fs_nil, fs_cons, fmt_str, fmt_int, ev_var, ev_cint, ev_cstr, ev_cbl, ev_cnon, ev_gcon, ev_bop, ev_neg, ev_cmp, ev_isn, ev_nisn, ev_chain, ev_and, ev_or, ev_not, ev_ife, ev_tup, ev_lst, ev_ix, ev_sl, ev_call, ev_meth, ev_make, ev_attr, ev_bi, ev_bm, ev_isin, ev_fstr, evEs, evB, evT, evO, evI, puT, puTs, List.map, List.replicate, List.length, Nat.sub_self, List.append, List.cons_append, List.nil_append, List.getElem?_cons_zero, List.getElem?_cons_succ, must, Option.bind_some, Mi.ret, at5_0, at5_1, at5_2, at5_3, at5_4, ix5_1, ix5_2, ix5_3, ix5_4, List.set_cons_succ, List.set_cons_zero, runs_ok, runs_bind, runs_quiet, Then, after_rt, after_nx, Option.map_some, List.length_map, tgLen, if_true, if_false, eq_self, Bool.false_eq_true, reduceIte, bmTag, Bool.and_self, sz0, sz1, sz2, sz3, sz4, sz5, sz6, sz7, sz8, sz9, sz10, sz11, sz12, Int.reduceLE, Int.reduceLT, Int.reduceToNat, Int.reduceNe, Int.reduceEq, Int.reduceNeg, decide_true, decide_false, Bool.true_and, Bool.and_true, Bool.or_true, Bool.true_or, Bool.not_true, Bool.not_false, ne_eq, not_false_eq_true, Nat.reducePow, Int.reducePow, na10, int_d, jx5_1, jx5_2, jx5_3, jx5_4, b_add, b_sub, b_adds, b_addt, b_addl, b_mul, b_fdiv, b_mod, b_pow, c_eq, c_ne, c_in, c_nin, c_lt, c_le, c_gt, c_ge, e_ii, e_ss, e_bb, t_bl, t_int, t_non, t_str, t_ref, t_tup, s_ref, s_tup, s_fzl, l_ref, l_fzl, l_tup, i_ref, i_tup, i_fzl, i_str, put_ref, slq_fzl, slq_str, new_l, int_d, src_fzl, src_tup, src_str, src_ref, get_snoc, n_len_s, n_len_t, n_len_r, n_len_f, n_int_i, n_int_b, n_int_s, n_abs, n_tup_r, n_lst_r, n_str_i, n_str_s, nn_non, nn_int, nn_str, nn_bl, nn_tup, nn_ref, tag_is_str, tag_is_int, tag_is_bl, tag_is_non, tag_is_tup, tag_is_ref, Option.some.injEq, reduceCtorEq, hbs, hcs, hss, decide_eq_false hc0]
    exact go_nil (tail _ i cur seed (cnt + 1) hi h0 h1 h2)
theorem cl_is_name {C : Nat → List D → M D} {x0 : D} : callD R.T C 2 [x0] [] [] = C 2 [x0] := rfl
theorem cl_value_text {C : Nat → List D → M D} {x0 : D} : callD R.T C 3 [x0] [] [] = C 3 [x0] := rfl
theorem cl_history_text {C : Nat → List D → M D} {x0 : D} : callD R.T C 4 [x0] [] [] = C 4 [x0] := rfl
theorem cl_read_integer {C : Nat → List D → M D} {x0 : D} : callD R.T C 5 [x0] [] [] = C 5 [x0] := rfl
theorem cl_read_value {C : Nat → List D → M D} {x0 : D} : callD R.T C 6 [x0] [] [] = C 6 [x0] := rfl
theorem cl_read_history {C : Nat → List D → M D} {x0 : D} : callD R.T C 7 [x0] [] [] = C 7 [x0] := rfl
theorem cl__law_draws {C : Nat → List D → M D} {x0 : D} : callD R.T C 8 [x0] [] [] = C 8 [x0] := rfl
theorem cl__law_pull {C : Nat → List D → M D} {x0 x1 : D} : callD R.T C 9 [x0, x1] [] [] = C 9 [x0, x1] := rfl
theorem cl__law_any {C : Nat → List D → M D} {x0 x1 : D} : callD R.T C 10 [x0, x1] [] [] = C 10 [x0, x1] := rfl
theorem cl__law_like {C : Nat → List D → M D} {x0 x1 : D} : callD R.T C 11 [x0, x1] [] [] = C 11 [x0, x1] := rfl
theorem cl__law_reserved {C : Nat → List D → M D} : callD R.T C 12 [] [] [] = C 12 [] := rfl
theorem cl__law_new_names {C : Nat → List D → M D} {x0 x1 : D} : callD R.T C 13 [x0, x1] [] [] = C 13 [x0, x1] := rfl
theorem cl__law_far {C : Nat → List D → M D} {x0 : D} : callD R.T C 14 [x0] [] [] = C 14 [x0] := rfl
theorem cl__law_far_value {C : Nat → List D → M D} {x0 : D} : callD R.T C 15 [x0] [] [] = C 15 [x0] := rfl
theorem cl__law_value_text {C : Nat → List D → M D} {x0 : D} : callD R.T C 16 [x0] [] [] = C 16 [x0] := rfl
theorem cl__law_history_text {C : Nat → List D → M D} {x0 : D} : callD R.T C 17 [x0] [] [] = C 17 [x0] := rfl
theorem cl_law {C : Nat → List D → M D} {x0 : D} : callD R.T C 18 [x0] [] [] = C 18 [x0] := rfl
theorem get_snoc2' {M : MH} {o p : O} : (M ++ [o] ++ [p])[M.length]? = some o := by
  rw [List.getElem?_append_left (by simp)]
  exact get_snoc
theorem Bag.mono (h : Bag L b c) (k : ∀ a, a < L.length → L'[a]? = L[a]?) : Bag L' b c := by
  obtain ⟨is, i, cur, seed, cnt, hbc, hb, hc, r⟩ := h
  exact ⟨is, i, cur, seed, cnt, hbc, (k b (List.getElem?_eq_some_iff.mp hb).1).trans hb, (k c (List.getElem?_eq_some_iff.mp hc).1).trans hc, r⟩
theorem Step.refl (h : Bag L b c) : Step b c L L := ⟨h, Nat.le_refl _, fun _ _ _ => rfl⟩
theorem Step.trans {L2 : MH} (h : Step b c L L') (k : Step b c L' L2) : Step b c L L2 := ⟨k.bag, Nat.le_trans h.len k.len, fun a h1 h2 => (k.keep a h1 (Nat.lt_of_lt_of_le h2 h.len)).trans (h.keep a h1 h2)⟩
theorem Step.alloc {o : O} (h : Bag L b c) : Step b c L (L ++ [o]) := ⟨h.mono fun a ha => by rw [List.getElem?_append_left ha], by simp, fun a _ ha => by rw [List.getElem?_append_left ha]⟩
theorem Step.get (h : Step b c L L') {a : Nat} {o : O} (ha : a ≠ b) (e : L[a]? = some o) : L'[a]? = some o := (h.keep a ha (List.getElem?_eq_some_iff.mp e).1).trans e
theorem cut63 {xs : List D} (h : xs.length ≤ 63) : cutD xs none (some 63) = xs := by
  unfold cutD HT.sIx
  simp
  rw [Nat.min_eq_right h, List.take_length]
theorem draws_spec {ns : List Int} (h : ns.length ≤ 63) : Runs (callN R.T wf (n + 1) f__law_draws [.fzl (ns.map D.int)] L) fun d L' => ∃ b c, d = .ref b ∧ Bag L' b c := by
  refine go_def (fd := fd__law_draws) rfl rfl ?_
  have hl : (ns.map D.int).length ≤ 63 := by rw [List.length_map]; exact h
  simp only [fd__law_draws, ir__law_draws]
  refine go_cons (go_var ?_)
  try simp -implicitDefEqProofs only [fs_nil, fs_cons, fmt_str, fmt_int, ev_var, ev_cint, ev_cstr, ev_cbl, ev_cnon, ev_gcon, ev_bop, ev_neg, ev_cmp, ev_isn, ev_nisn, ev_chain, ev_and, ev_or, ev_not, ev_ife, ev_tup, ev_lst, ev_ix, ev_sl, ev_call, ev_meth, ev_make, ev_attr, ev_bi, ev_bm, ev_isin, ev_fstr, evEs, evB, evT, evO, evI, puT, puTs, List.map, List.replicate, List.length, Nat.sub_self, List.append, List.cons_append, List.nil_append, List.getElem?_cons_zero, List.getElem?_cons_succ, must, Option.bind_some, Mi.ret, at5_0, at5_1, at5_2, at5_3, at5_4, ix5_1, ix5_2, ix5_3, ix5_4, List.set_cons_succ, List.set_cons_zero, runs_ok, runs_bind, runs_quiet, Then, after_rt, after_nx, Option.map_some, List.length_map, tgLen, if_true, if_false, eq_self, Bool.false_eq_true, reduceIte, bmTag, Bool.and_self, sz0, sz1, sz2, sz3, sz4, sz5, sz6, sz7, sz8, sz9, sz10, sz11, sz12, Int.reduceLE, Int.reduceLT, Int.reduceToNat, Int.reduceNe, Int.reduceEq, Int.reduceNeg, decide_true, decide_false, Bool.true_and, Bool.and_true, Bool.or_true, Bool.true_or, Bool.not_true, Bool.not_false, ne_eq, not_false_eq_true, Nat.reducePow, Int.reducePow, na10, int_d, jx5_1, jx5_2, jx5_3, jx5_4, b_add, b_sub, b_adds, b_addt, b_addl, b_mul, b_fdiv, b_mod, b_pow, c_eq, c_ne, c_in, c_nin, c_lt, c_le, c_gt, c_ge, e_ii, e_ss, e_bb, t_bl, t_int, t_non, t_str, t_ref, t_tup, s_ref, s_tup, s_fzl, l_ref, l_fzl, l_tup, i_ref, i_tup, i_fzl, i_str, put_ref, slq_fzl, slq_str, new_l, int_d, src_fzl, src_tup, src_str, src_ref, get_snoc, n_len_s, n_len_t, n_len_r, n_len_f, n_int_i, n_int_b, n_int_s, n_abs, n_tup_r, n_lst_r, n_str_i, n_str_s, nn_non, nn_int, nn_str, nn_bl, nn_tup, nn_ref, tag_is_str, tag_is_int, tag_is_bl, tag_is_non, tag_is_tup, tag_is_ref, Option.some.injEq, reduceCtorEq]
  refine go_cons (go_for ?_)
  try simp -implicitDefEqProofs only [fs_nil, fs_cons, fmt_str, fmt_int, ev_var, ev_cint, ev_cstr, ev_cbl, ev_cnon, ev_gcon, ev_bop, ev_neg, ev_cmp, ev_isn, ev_nisn, ev_chain, ev_and, ev_or, ev_not, ev_ife, ev_tup, ev_lst, ev_ix, ev_sl, ev_call, ev_meth, ev_make, ev_attr, ev_bi, ev_bm, ev_isin, ev_fstr, evEs, evB, evT, evO, evI, puT, puTs, List.map, List.replicate, List.length, Nat.sub_self, List.append, List.cons_append, List.nil_append, List.getElem?_cons_zero, List.getElem?_cons_succ, must, Option.bind_some, Mi.ret, at5_0, at5_1, at5_2, at5_3, at5_4, ix5_1, ix5_2, ix5_3, ix5_4, List.set_cons_succ, List.set_cons_zero, runs_ok, runs_bind, runs_quiet, Then, after_rt, after_nx, Option.map_some, List.length_map, tgLen, if_true, if_false, eq_self, Bool.false_eq_true, reduceIte, bmTag, Bool.and_self, sz0, sz1, sz2, sz3, sz4, sz5, sz6, sz7, sz8, sz9, sz10, sz11, sz12, Int.reduceLE, Int.reduceLT, Int.reduceToNat, Int.reduceNe, Int.reduceEq, Int.reduceNeg, decide_true, decide_false, Bool.true_and, Bool.and_true, Bool.or_true, Bool.true_or, Bool.not_true, Bool.not_false, ne_eq, not_false_eq_true, Nat.reducePow, Int.reducePow, na10, int_d, jx5_1, jx5_2, jx5_3, jx5_4, b_add, b_sub, b_adds, b_addt, b_addl, b_mul, b_fdiv, b_mod, b_pow, c_eq, c_ne, c_in, c_nin, c_lt, c_le, c_gt, c_ge, e_ii, e_ss, e_bb, t_bl, t_int, t_non, t_str, t_ref, t_tup, s_ref, s_tup, s_fzl, l_ref, l_fzl, l_tup, i_ref, i_tup, i_fzl, i_str, put_ref, slq_fzl, slq_str, new_l, int_d, src_fzl, src_tup, src_str, src_ref, get_snoc, n_len_s, n_len_t, n_len_r, n_len_f, n_int_i, n_int_b, n_int_s, n_abs, n_tup_r, n_lst_r, n_str_i, n_str_s, nn_non, nn_int, nn_str, nn_bl, nn_tup, nn_ref, tag_is_str, tag_is_int, tag_is_bl, tag_is_non, tag_is_tup, tag_is_ref, Option.some.injEq, reduceCtorEq, cut63 hl]
  refine for_run (xs := ns.map D.int) (fun i ρ L1 => (∃ (seed : Int) (c : Option D), 0 ≤ seed ∧ seed < 2147483563 ∧ ρ = [some (.fzl (ns.map D.int)), some (.int seed), c]) ∧ L1 = L ++ [.lst (ns.map D.int)]) ?hat ?step ?fin _ 0 _ _ (Nat.zero_le _) ?fuel ⟨⟨5630, none, by decide, by decide, rfl⟩, rfl⟩
  case hat =>
    intro i ρ L1 ⟨_, e⟩
    subst e
    simp only [Wk.at, Src.at, get_snoc]
  case step =>
    intro i x ρ L1 e ⟨⟨seed, c, s1, s2, e1⟩, e2⟩
    subst e1 e2
    have hx : ∃ z, x = D.int z := by
      rw [List.getElem?_map] at e
      cases q : ns[i]? with
      | none => rw [q] at e; cases e
      | some z => rw [q] at e; cases e; exact ⟨z, rfl⟩
    obtain ⟨z, rfl⟩ := hx
    try simp -implicitDefEqProofs only [fs_nil, fs_cons, fmt_str, fmt_int, ev_var, ev_cint, ev_cstr, ev_cbl, ev_cnon, ev_gcon, ev_bop, ev_neg, ev_cmp, ev_isn, ev_nisn, ev_chain, ev_and, ev_or, ev_not, ev_ife, ev_tup, ev_lst, ev_ix, ev_sl, ev_call, ev_meth, ev_make, ev_attr, ev_bi, ev_bm, ev_isin, ev_fstr, evEs, evB, evT, evO, evI, puT, puTs, List.map, List.replicate, List.length, Nat.sub_self, List.append, List.cons_append, List.nil_append, List.getElem?_cons_zero, List.getElem?_cons_succ, must, Option.bind_some, Mi.ret, at5_0, at5_1, at5_2, at5_3, at5_4, ix5_1, ix5_2, ix5_3, ix5_4, List.set_cons_succ, List.set_cons_zero, runs_ok, runs_bind, runs_quiet, Then, after_rt, after_nx, Option.map_some, List.length_map, tgLen, if_true, if_false, eq_self, Bool.false_eq_true, reduceIte, bmTag, Bool.and_self, sz0, sz1, sz2, sz3, sz4, sz5, sz6, sz7, sz8, sz9, sz10, sz11, sz12, Int.reduceLE, Int.reduceLT, Int.reduceToNat, Int.reduceNe, Int.reduceEq, Int.reduceNeg, decide_true, decide_false, Bool.true_and, Bool.and_true, Bool.or_true, Bool.true_or, Bool.not_true, Bool.not_false, ne_eq, not_false_eq_true, Nat.reducePow, Int.reducePow, na10, int_d, jx5_1, jx5_2, jx5_3, jx5_4, b_add, b_sub, b_adds, b_addt, b_addl, b_mul, b_fdiv, b_mod, b_pow, c_eq, c_ne, c_in, c_nin, c_lt, c_le, c_gt, c_ge, e_ii, e_ss, e_bb, t_bl, t_int, t_non, t_str, t_ref, t_tup, s_ref, s_tup, s_fzl, l_ref, l_fzl, l_tup, i_ref, i_tup, i_fzl, i_str, put_ref, slq_fzl, slq_str, new_l, int_d, src_fzl, src_tup, src_str, src_ref, get_snoc, n_len_s, n_len_t, n_len_r, n_len_f, n_int_i, n_int_b, n_int_s, n_abs, n_tup_r, n_lst_r, n_str_i, n_str_s, nn_non, nn_int, nn_str, nn_bl, nn_tup, nn_ref, tag_is_str, tag_is_int, tag_is_bl, tag_is_non, tag_is_tup, tag_is_ref, Option.some.injEq, reduceCtorEq]
    refine go_cons (go_var ?_)
    try simp -implicitDefEqProofs only [fs_nil, fs_cons, fmt_str, fmt_int, ev_var, ev_cint, ev_cstr, ev_cbl, ev_cnon, ev_gcon, ev_bop, ev_neg, ev_cmp, ev_isn, ev_nisn, ev_chain, ev_and, ev_or, ev_not, ev_ife, ev_tup, ev_lst, ev_ix, ev_sl, ev_call, ev_meth, ev_make, ev_attr, ev_bi, ev_bm, ev_isin, ev_fstr, evEs, evB, evT, evO, evI, puT, puTs, List.map, List.replicate, List.length, Nat.sub_self, List.append, List.cons_append, List.nil_append, List.getElem?_cons_zero, List.getElem?_cons_succ, must, Option.bind_some, Mi.ret, at5_0, at5_1, at5_2, at5_3, at5_4, ix5_1, ix5_2, ix5_3, ix5_4, List.set_cons_succ, List.set_cons_zero, runs_ok, runs_bind, runs_quiet, Then, after_rt, after_nx, Option.map_some, List.length_map, tgLen, if_true, if_false, eq_self, Bool.false_eq_true, reduceIte, bmTag, Bool.and_self, sz0, sz1, sz2, sz3, sz4, sz5, sz6, sz7, sz8, sz9, sz10, sz11, sz12, Int.reduceLE, Int.reduceLT, Int.reduceToNat, Int.reduceNe, Int.reduceEq, Int.reduceNeg, decide_true, decide_false, Bool.true_and, Bool.and_true, Bool.or_true, Bool.true_or, Bool.not_true, Bool.not_false, ne_eq, not_false_eq_true, Nat.reducePow, Int.reducePow, na10, int_d, jx5_1, jx5_2, jx5_3, jx5_4, b_add, b_sub, b_adds, b_addt, b_addl, b_mul, b_fdiv, b_mod, b_pow, c_eq, c_ne, c_in, c_nin, c_lt, c_le, c_gt, c_ge, e_ii, e_ss, e_bb, t_bl, t_int, t_non, t_str, t_ref, t_tup, s_ref, s_tup, s_fzl, l_ref, l_fzl, l_tup, i_ref, i_tup, i_fzl, i_str, put_ref, slq_fzl, slq_str, new_l, int_d, src_fzl, src_tup, src_str, src_ref, get_snoc, n_len_s, n_len_t, n_len_r, n_len_f, n_int_i, n_int_b, n_int_s, n_abs, n_tup_r, n_lst_r, n_str_i, n_str_s, nn_non, nn_int, nn_str, nn_bl, nn_tup, nn_ref, tag_is_str, tag_is_int, tag_is_bl, tag_is_non, tag_is_tup, tag_is_ref, Option.some.injEq, reduceCtorEq, show okI 45179 = true from rfl]
    refine go_nil ?_
    exact ⟨⟨_, _, (fmod_lt _ (by decide)).1, (fmod_lt _ (by decide)).2, rfl⟩, rfl⟩
  case fin =>
    intro ρ L1 ⟨⟨seed, c, s1, s2, e1⟩, e2⟩
    subst e1 e2
    try simp -implicitDefEqProofs only [fs_nil, fs_cons, fmt_str, fmt_int, ev_var, ev_cint, ev_cstr, ev_cbl, ev_cnon, ev_gcon, ev_bop, ev_neg, ev_cmp, ev_isn, ev_nisn, ev_chain, ev_and, ev_or, ev_not, ev_ife, ev_tup, ev_lst, ev_ix, ev_sl, ev_call, ev_meth, ev_make, ev_attr, ev_bi, ev_bm, ev_isin, ev_fstr, evEs, evB, evT, evO, evI, puT, puTs, List.map, List.replicate, List.length, Nat.sub_self, List.append, List.cons_append, List.nil_append, List.getElem?_cons_zero, List.getElem?_cons_succ, must, Option.bind_some, Mi.ret, at5_0, at5_1, at5_2, at5_3, at5_4, ix5_1, ix5_2, ix5_3, ix5_4, List.set_cons_succ, List.set_cons_zero, runs_ok, runs_bind, runs_quiet, Then, after_rt, after_nx, Option.map_some, List.length_map, tgLen, if_true, if_false, eq_self, Bool.false_eq_true, reduceIte, bmTag, Bool.and_self, sz0, sz1, sz2, sz3, sz4, sz5, sz6, sz7, sz8, sz9, sz10, sz11, sz12, Int.reduceLE, Int.reduceLT, Int.reduceToNat, Int.reduceNe, Int.reduceEq, Int.reduceNeg, decide_true, decide_false, Bool.true_and, Bool.and_true, Bool.or_true, Bool.true_or, Bool.not_true, Bool.not_false, ne_eq, not_false_eq_true, Nat.reducePow, Int.reducePow, na10, int_d, jx5_1, jx5_2, jx5_3, jx5_4, b_add, b_sub, b_adds, b_addt, b_addl, b_mul, b_fdiv, b_mod, b_pow, c_eq, c_ne, c_in, c_nin, c_lt, c_le, c_gt, c_ge, e_ii, e_ss, e_bb, t_bl, t_int, t_non, t_str, t_ref, t_tup, s_ref, s_tup, s_fzl, l_ref, l_fzl, l_tup, i_ref, i_tup, i_fzl, i_str, put_ref, slq_fzl, slq_str, new_l, int_d, src_fzl, src_tup, src_str, src_ref, get_snoc, n_len_s, n_len_t, n_len_r, n_len_f, n_int_i, n_int_b, n_int_s, n_abs, n_tup_r, n_lst_r, n_str_i, n_str_s, nn_non, nn_int, nn_str, nn_bl, nn_tup, nn_ref, tag_is_str, tag_is_int, tag_is_bl, tag_is_non, tag_is_tup, tag_is_ref, Option.some.injEq, reduceCtorEq]
    refine go_cons (go_ret ?_)
    try simp -implicitDefEqProofs only [fs_nil, fs_cons, fmt_str, fmt_int, ev_var, ev_cint, ev_cstr, ev_cbl, ev_cnon, ev_gcon, ev_bop, ev_neg, ev_cmp, ev_isn, ev_nisn, ev_chain, ev_and, ev_or, ev_not, ev_ife, ev_tup, ev_lst, ev_ix, ev_sl, ev_call, ev_meth, ev_make, ev_attr, ev_bi, ev_bm, ev_isin, ev_fstr, evEs, evB, evT, evO, evI, puT, puTs, List.map, List.replicate, List.length, Nat.sub_self, List.append, List.cons_append, List.nil_append, List.getElem?_cons_zero, List.getElem?_cons_succ, must, Option.bind_some, Mi.ret, at5_0, at5_1, at5_2, at5_3, at5_4, ix5_1, ix5_2, ix5_3, ix5_4, List.set_cons_succ, List.set_cons_zero, runs_ok, runs_bind, runs_quiet, Then, after_rt, after_nx, Option.map_some, List.length_map, tgLen, if_true, if_false, eq_self, Bool.false_eq_true, reduceIte, bmTag, Bool.and_self, sz0, sz1, sz2, sz3, sz4, sz5, sz6, sz7, sz8, sz9, sz10, sz11, sz12, Int.reduceLE, Int.reduceLT, Int.reduceToNat, Int.reduceNe, Int.reduceEq, Int.reduceNeg, decide_true, decide_false, Bool.true_and, Bool.and_true, Bool.or_true, Bool.true_or, Bool.not_true, Bool.not_false, ne_eq, not_false_eq_true, Nat.reducePow, Int.reducePow, na10, int_d, jx5_1, jx5_2, jx5_3, jx5_4, b_add, b_sub, b_adds, b_addt, b_addl, b_mul, b_fdiv, b_mod, b_pow, c_eq, c_ne, c_in, c_nin, c_lt, c_le, c_gt, c_ge, e_ii, e_ss, e_bb, t_bl, t_int, t_non, t_str, t_ref, t_tup, s_ref, s_tup, s_fzl, l_ref, l_fzl, l_tup, i_ref, i_tup, i_fzl, i_str, put_ref, slq_fzl, slq_str, new_l, int_d, src_fzl, src_tup, src_str, src_ref, get_snoc, n_len_s, n_len_t, n_len_r, n_len_f, n_int_i, n_int_b, n_int_s, n_abs, n_tup_r, n_lst_r, n_str_i, n_str_s, nn_non, nn_int, nn_str, nn_bl, nn_tup, nn_ref, tag_is_str, tag_is_int, tag_is_bl, tag_is_non, tag_is_tup, tag_is_ref, Option.some.injEq, reduceCtorEq, cut63 hl]
    exact ⟨_, _, rfl, ns, 0, 0, seed, 0, by simp, get_snoc, get_snoc2', h, Nat.zero_le _, by decide, s1, s2⟩
  case fuel =>
    simp only [Wk.len, Src.len, get_snoc]
    omega
theorem any_list {a : Nat} {xs : List D} (h : Bag L b c) (ha : a ≠ b) (e : L[a]? = some (.lst xs)) (hne : xs ≠ []) (hl : xs.length < 1000) : Runs (callN R.T wf (n + 2) f__law_any [.ref b, .ref a] L) fun d L' => d ∈ xs ∧ Step b c L L' := by
  refine go_def (fd := fd__law_any) rfl rfl ?_
  simp only [fd__law_any, ir__law_any]
  refine go_cons (go_ret ?_)
  try simp -implicitDefEqProofs only [fs_nil, fs_cons, fmt_str, fmt_int, ev_var, ev_cint, ev_cstr, ev_cbl, ev_cnon, ev_gcon, ev_bop, ev_neg, ev_cmp, ev_isn, ev_nisn, ev_chain, ev_and, ev_or, ev_not, ev_ife, ev_tup, ev_lst, ev_ix, ev_sl, ev_call, ev_meth, ev_make, ev_attr, ev_bi, ev_bm, ev_isin, ev_fstr, evEs, evB, evT, evO, evI, puT, puTs, List.map, List.replicate, List.length, Nat.sub_self, List.append, List.cons_append, List.nil_append, List.getElem?_cons_zero, List.getElem?_cons_succ, must, Option.bind_some, Mi.ret, at5_0, at5_1, at5_2, at5_3, at5_4, ix5_1, ix5_2, ix5_3, ix5_4, List.set_cons_succ, List.set_cons_zero, runs_ok, runs_bind, runs_quiet, Then, after_rt, after_nx, Option.map_some, List.length_map, tgLen, if_true, if_false, eq_self, Bool.false_eq_true, reduceIte, bmTag, Bool.and_self, sz0, sz1, sz2, sz3, sz4, sz5, sz6, sz7, sz8, sz9, sz10, sz11, sz12, Int.reduceLE, Int.reduceLT, Int.reduceToNat, Int.reduceNe, Int.reduceEq, Int.reduceNeg, decide_true, decide_false, Bool.true_and, Bool.and_true, Bool.or_true, Bool.true_or, Bool.not_true, Bool.not_false, ne_eq, not_false_eq_true, Nat.reducePow, Int.reducePow, na10, int_d, jx5_1, jx5_2, jx5_3, jx5_4, b_add, b_sub, b_adds, b_addt, b_addl, b_mul, b_fdiv, b_mod, b_pow, c_eq, c_ne, c_in, c_nin, c_lt, c_le, c_gt, c_ge, e_ii, e_ss, e_bb, t_bl, t_int, t_non, t_str, t_ref, t_tup, s_ref, s_tup, s_fzl, l_ref, l_fzl, l_tup, i_ref, i_tup, i_fzl, i_str, put_ref, slq_fzl, slq_str, new_l, int_d, src_fzl, src_tup, src_str, src_ref, get_snoc, n_len_s, n_len_t, n_len_r, n_len_f, n_int_i, n_int_b, n_int_s, n_abs, n_tup_r, n_lst_r, n_str_i, n_str_s, nn_non, nn_int, nn_str, nn_bl, nn_tup, nn_ref, tag_is_str, tag_is_int, tag_is_bl, tag_is_non, tag_is_tup, tag_is_ref, Option.some.injEq, reduceCtorEq, e, cl_is_name, cl_value_text, cl_history_text, cl_read_integer, cl_read_value, cl_read_history, cl__law_draws, cl__law_pull, cl__law_any, cl__law_like, cl__law_reserved, cl__law_new_names, cl__law_far, cl__law_far_value, cl__law_value_text, cl__law_history_text, cl_law]
  have hp : 0 < xs.length := List.length_pos_iff.mpr hne
  refine (pull_spec (n := n) xs.length (by omega) (by omega) h).imp fun d L1 ⟨⟨r, e1, e2, e3⟩, st⟩ => ?_
  subst e1
  obtain ⟨k, rfl⟩ := Int.eq_ofNat_of_zero_le e2
  have hk : k < xs.length := by omega
  have e4 := st.get ha e
  try simp -implicitDefEqProofs only [fs_nil, fs_cons, fmt_str, fmt_int, ev_var, ev_cint, ev_cstr, ev_cbl, ev_cnon, ev_gcon, ev_bop, ev_neg, ev_cmp, ev_isn, ev_nisn, ev_chain, ev_and, ev_or, ev_not, ev_ife, ev_tup, ev_lst, ev_ix, ev_sl, ev_call, ev_meth, ev_make, ev_attr, ev_bi, ev_bm, ev_isin, ev_fstr, evEs, evB, evT, evO, evI, puT, puTs, List.map, List.replicate, List.length, Nat.sub_self, List.append, List.cons_append, List.nil_append, List.getElem?_cons_zero, List.getElem?_cons_succ, must, Option.bind_some, Mi.ret, at5_0, at5_1, at5_2, at5_3, at5_4, ix5_1, ix5_2, ix5_3, ix5_4, List.set_cons_succ, List.set_cons_zero, runs_ok, runs_bind, runs_quiet, Then, after_rt, after_nx, Option.map_some, List.length_map, tgLen, if_true, if_false, eq_self, Bool.false_eq_true, reduceIte, bmTag, Bool.and_self, sz0, sz1, sz2, sz3, sz4, sz5, sz6, sz7, sz8, sz9, sz10, sz11, sz12, Int.reduceLE, Int.reduceLT, Int.reduceToNat, Int.reduceNe, Int.reduceEq, Int.reduceNeg, decide_true, decide_false, Bool.true_and, Bool.and_true, Bool.or_true, Bool.true_or, Bool.not_true, Bool.not_false, ne_eq, not_false_eq_true, Nat.reducePow, Int.reducePow, na10, int_d, jx5_1, jx5_2, jx5_3, jx5_4, b_add, b_sub, b_adds, b_addt, b_addl, b_mul, b_fdiv, b_mod, b_pow, c_eq, c_ne, c_in, c_nin, c_lt, c_le, c_gt, c_ge, e_ii, e_ss, e_bb, t_bl, t_int, t_non, t_str, t_ref, t_tup, s_ref, s_tup, s_fzl, l_ref, l_fzl, l_tup, i_ref, i_tup, i_fzl, i_str, put_ref, slq_fzl, slq_str, new_l, int_d, src_fzl, src_tup, src_str, src_ref, get_snoc, n_len_s, n_len_t, n_len_r, n_len_f, n_int_i, n_int_b, n_int_s, n_abs, n_tup_r, n_lst_r, n_str_i, n_str_s, nn_non, nn_int, nn_str, nn_bl, nn_tup, nn_ref, tag_is_str, tag_is_int, tag_is_bl, tag_is_non, tag_is_tup, tag_is_ref, Option.some.injEq, reduceCtorEq, e4, atI_nat xs k hk, List.getElem?_eq_getElem hk]
  exact ⟨List.getElem_mem hk, st⟩
theorem any_str {s : Str} (h : Bag L b c) (hne : s.cps.toList ≠ []) (hl : s.length < 1000) : Runs (callN R.T wf (n + 2) f__law_any [.ref b, .str s] L) fun d L' => (∃ c ∈ s.cps.toList, d = .str ⟨#[c]⟩) ∧ Step b c L L' := by
  refine go_def (fd := fd__law_any) rfl rfl ?_
  simp only [fd__law_any, ir__law_any]
  refine go_cons (go_ret ?_)
  have hz : sizeOkB s.length = true := decide_eq_true (by omega)
  try simp -implicitDefEqProofs only [fs_nil, fs_cons, fmt_str, fmt_int, ev_var, ev_cint, ev_cstr, ev_cbl, ev_cnon, ev_gcon, ev_bop, ev_neg, ev_cmp, ev_isn, ev_nisn, ev_chain, ev_and, ev_or, ev_not, ev_ife, ev_tup, ev_lst, ev_ix, ev_sl, ev_call, ev_meth, ev_make, ev_attr, ev_bi, ev_bm, ev_isin, ev_fstr, evEs, evB, evT, evO, evI, puT, puTs, List.map, List.replicate, List.length, Nat.sub_self, List.append, List.cons_append, List.nil_append, List.getElem?_cons_zero, List.getElem?_cons_succ, must, Option.bind_some, Mi.ret, at5_0, at5_1, at5_2, at5_3, at5_4, ix5_1, ix5_2, ix5_3, ix5_4, List.set_cons_succ, List.set_cons_zero, runs_ok, runs_bind, runs_quiet, Then, after_rt, after_nx, Option.map_some, List.length_map, tgLen, if_true, if_false, eq_self, Bool.false_eq_true, reduceIte, bmTag, Bool.and_self, sz0, sz1, sz2, sz3, sz4, sz5, sz6, sz7, sz8, sz9, sz10, sz11, sz12, Int.reduceLE, Int.reduceLT, Int.reduceToNat, Int.reduceNe, Int.reduceEq, Int.reduceNeg, decide_true, decide_false, Bool.true_and, Bool.and_true, Bool.or_true, Bool.true_or, Bool.not_true, Bool.not_false, ne_eq, not_false_eq_true, Nat.reducePow, Int.reducePow, na10, int_d, jx5_1, jx5_2, jx5_3, jx5_4, b_add, b_sub, b_adds, b_addt, b_addl, b_mul, b_fdiv, b_mod, b_pow, c_eq, c_ne, c_in, c_nin, c_lt, c_le, c_gt, c_ge, e_ii, e_ss, e_bb, t_bl, t_int, t_non, t_str, t_ref, t_tup, s_ref, s_tup, s_fzl, l_ref, l_fzl, l_tup, i_ref, i_tup, i_fzl, i_str, put_ref, slq_fzl, slq_str, new_l, int_d, src_fzl, src_tup, src_str, src_ref, get_snoc, n_len_s, n_len_t, n_len_r, n_len_f, n_int_i, n_int_b, n_int_s, n_abs, n_tup_r, n_lst_r, n_str_i, n_str_s, nn_non, nn_int, nn_str, nn_bl, nn_tup, nn_ref, tag_is_str, tag_is_int, tag_is_bl, tag_is_non, tag_is_tup, tag_is_ref, Option.some.injEq, reduceCtorEq, hz, cl_is_name, cl_value_text, cl_history_text, cl_read_integer, cl_read_value, cl_read_history, cl__law_draws, cl__law_pull, cl__law_any, cl__law_like, cl__law_reserved, cl__law_new_names, cl__law_far, cl__law_far_value, cl__law_value_text, cl__law_history_text, cl_law]
  have hle : s.cps.toList.length = s.length := rfl
  have hp : 0 < s.cps.toList.length := List.length_pos_iff.mpr hne
  refine (pull_spec (n := n) s.length (by omega) (by omega) h).imp fun d L1 ⟨⟨r, e1, e2, e3⟩, st⟩ => ?_
  subst e1
  obtain ⟨k, rfl⟩ := Int.eq_ofNat_of_zero_le e2
  have hk : k < s.cps.toList.length := by omega
  try simp -implicitDefEqProofs only [fs_nil, fs_cons, fmt_str, fmt_int, ev_var, ev_cint, ev_cstr, ev_cbl, ev_cnon, ev_gcon, ev_bop, ev_neg, ev_cmp, ev_isn, ev_nisn, ev_chain, ev_and, ev_or, ev_not, ev_ife, ev_tup, ev_lst, ev_ix, ev_sl, ev_call, ev_meth, ev_make, ev_attr, ev_bi, ev_bm, ev_isin, ev_fstr, evEs, evB, evT, evO, evI, puT, puTs, List.map, List.replicate, List.length, Nat.sub_self, List.append, List.cons_append, List.nil_append, List.getElem?_cons_zero, List.getElem?_cons_succ, must, Option.bind_some, Mi.ret, at5_0, at5_1, at5_2, at5_3, at5_4, ix5_1, ix5_2, ix5_3, ix5_4, List.set_cons_succ, List.set_cons_zero, runs_ok, runs_bind, runs_quiet, Then, after_rt, after_nx, Option.map_some, List.length_map, tgLen, if_true, if_false, eq_self, Bool.false_eq_true, reduceIte, bmTag, Bool.and_self, sz0, sz1, sz2, sz3, sz4, sz5, sz6, sz7, sz8, sz9, sz10, sz11, sz12, Int.reduceLE, Int.reduceLT, Int.reduceToNat, Int.reduceNe, Int.reduceEq, Int.reduceNeg, decide_true, decide_false, Bool.true_and, Bool.and_true, Bool.or_true, Bool.true_or, Bool.not_true, Bool.not_false, ne_eq, not_false_eq_true, Nat.reducePow, Int.reducePow, na10, int_d, jx5_1, jx5_2, jx5_3, jx5_4, b_add, b_sub, b_adds, b_addt, b_addl, b_mul, b_fdiv, b_mod, b_pow, c_eq, c_ne, c_in, c_nin, c_lt, c_le, c_gt, c_ge, e_ii, e_ss, e_bb, t_bl, t_int, t_non, t_str, t_ref, t_tup, s_ref, s_tup, s_fzl, l_ref, l_fzl, l_tup, i_ref, i_tup, i_fzl, i_str, put_ref, slq_fzl, slq_str, new_l, int_d, src_fzl, src_tup, src_str, src_ref, get_snoc, n_len_s, n_len_t, n_len_r, n_len_f, n_int_i, n_int_b, n_int_s, n_abs, n_tup_r, n_lst_r, n_str_i, n_str_s, nn_non, nn_int, nn_str, nn_bl, nn_tup, nn_ref, tag_is_str, tag_is_int, tag_is_bl, tag_is_non, tag_is_tup, tag_is_ref, Option.some.injEq, reduceCtorEq, hz, atI_nat s.cps.toList k hk, List.getElem?_eq_getElem hk]
  exact ⟨⟨_, List.getElem_mem hk, rfl⟩, st⟩
theorem reserved_spec : Runs (callN R.T wf (n + 1) f__law_reserved [] L) fun d L' => d = .ref L.length ∧ L' = L ++ [.lst [.str "and", .str "or", .str "not", .str "is", .str "by", .str "of", .str "empty", .str "true", .str "false"]] := by
  refine go_def (fd := fd__law_reserved) rfl rfl ?_
  simp only [fd__law_reserved, ir__law_reserved]
  refine go_cons (go_ret ?_)
  try simp -implicitDefEqProofs only [fs_nil, fs_cons, fmt_str, fmt_int, ev_var, ev_cint, ev_cstr, ev_cbl, ev_cnon, ev_gcon, ev_bop, ev_neg, ev_cmp, ev_isn, ev_nisn, ev_chain, ev_and, ev_or, ev_not, ev_ife, ev_tup, ev_lst, ev_ix, ev_sl, ev_call, ev_meth, ev_make, ev_attr, ev_bi, ev_bm, ev_isin, ev_fstr, evEs, evB, evT, evO, evI, puT, puTs, List.map, List.replicate, List.length, Nat.sub_self, List.append, List.cons_append, List.nil_append, List.getElem?_cons_zero, List.getElem?_cons_succ, must, Option.bind_some, Mi.ret, at5_0, at5_1, at5_2, at5_3, at5_4, ix5_1, ix5_2, ix5_3, ix5_4, List.set_cons_succ, List.set_cons_zero, runs_ok, runs_bind, runs_quiet, Then, after_rt, after_nx, Option.map_some, List.length_map, tgLen, if_true, if_false, eq_self, Bool.false_eq_true, reduceIte, bmTag, Bool.and_self, sz0, sz1, sz2, sz3, sz4, sz5, sz6, sz7, sz8, sz9, sz10, sz11, sz12, Int.reduceLE, Int.reduceLT, Int.reduceToNat, Int.reduceNe, Int.reduceEq, Int.reduceNeg, decide_true, decide_false, Bool.true_and, Bool.and_true, Bool.or_true, Bool.true_or, Bool.not_true, Bool.not_false, ne_eq, not_false_eq_true, Nat.reducePow, Int.reducePow, na10, int_d, jx5_1, jx5_2, jx5_3, jx5_4, b_add, b_sub, b_adds, b_addt, b_addl, b_mul, b_fdiv, b_mod, b_pow, c_eq, c_ne, c_in, c_nin, c_lt, c_le, c_gt, c_ge, e_ii, e_ss, e_bb, t_bl, t_int, t_non, t_str, t_ref, t_tup, s_ref, s_tup, s_fzl, l_ref, l_fzl, l_tup, i_ref, i_tup, i_fzl, i_str, put_ref, slq_fzl, slq_str, new_l, int_d, src_fzl, src_tup, src_str, src_ref, get_snoc, n_len_s, n_len_t, n_len_r, n_len_f, n_int_i, n_int_b, n_int_s, n_abs, n_tup_r, n_lst_r, n_str_i, n_str_s, nn_non, nn_int, nn_str, nn_bl, nn_tup, nn_ref, tag_is_str, tag_is_int, tag_is_bl, tag_is_non, tag_is_tup, tag_is_ref, Option.some.injEq, reduceCtorEq]
  exact ⟨trivial, trivial⟩
end
section
variable {n : Nat} {L L' : MH} {a : Nat} {i : Int} {s : Str} {xs : List D}
theorem is_i_lt : isinD R.T L (.int i) [.bt "list", .bt "tuple"] = some false := rfl
theorem is_i_l : isinD R.T L (.int i) [.bt "list"] = some false := rfl
theorem is_i_t : isinD R.T L (.int i) [.bt "tuple"] = some false := rfl
theorem is_i_b : isinD R.T L (.int i) [.bt "bool"] = some false := rfl
theorem is_i_i : isinD R.T L (.int i) [.bt "int"] = some true := rfl
theorem is_i_s : isinD R.T L (.int i) [.bt "str"] = some false := rfl
theorem is_s_lt : isinD R.T L (.str s) [.bt "list", .bt "tuple"] = some false := rfl
theorem is_s_l : isinD R.T L (.str s) [.bt "list"] = some false := rfl
theorem is_s_t : isinD R.T L (.str s) [.bt "tuple"] = some false := rfl
theorem is_s_b : isinD R.T L (.str s) [.bt "bool"] = some false := rfl
theorem is_s_i : isinD R.T L (.str s) [.bt "int"] = some false := rfl
theorem is_s_s : isinD R.T L (.str s) [.bt "str"] = some true := rfl
theorem is_n_lt : isinD R.T L .non [.bt "list", .bt "tuple"] = some false := rfl
theorem is_n_l : isinD R.T L .non [.bt "list"] = some false := rfl
theorem is_n_t : isinD R.T L .non [.bt "tuple"] = some false := rfl
theorem is_n_b : isinD R.T L .non [.bt "bool"] = some false := rfl
theorem is_n_i : isinD R.T L .non [.bt "int"] = some false := rfl
theorem is_n_s : isinD R.T L .non [.bt "str"] = some false := rfl
theorem is_t_lt : isinD R.T L (.tup xs) [.bt "list", .bt "tuple"] = some true := rfl
theorem is_t_l : isinD R.T L (.tup xs) [.bt "list"] = some false := rfl
theorem is_t_t : isinD R.T L (.tup xs) [.bt "tuple"] = some true := rfl
theorem is_t_b : isinD R.T L (.tup xs) [.bt "bool"] = some false := rfl
theorem is_t_i : isinD R.T L (.tup xs) [.bt "int"] = some false := rfl
theorem is_t_s : isinD R.T L (.tup xs) [.bt "str"] = some false := rfl
theorem is_r_lt (h : L[a]? = some (.lst xs)) : isinD R.T L (.ref a) [.bt "list", .bt "tuple"] = some true := by
  simp only [isinD, mapO, tyIs, tagOf, h]
  rfl
theorem is_r_l (h : L[a]? = some (.lst xs)) : isinD R.T L (.ref a) [.bt "list"] = some true := by
  simp only [isinD, mapO, tyIs, tagOf, h]
  rfl
theorem is_r_t (h : L[a]? = some (.lst xs)) : isinD R.T L (.ref a) [.bt "tuple"] = some false := by
  simp only [isinD, mapO, tyIs, tagOf, h]
  rfl
theorem is_r_b (h : L[a]? = some (.lst xs)) : isinD R.T L (.ref a) [.bt "bool"] = some false := by
  simp only [isinD, mapO, tyIs, tagOf, h]
  rfl
theorem is_r_i (h : L[a]? = some (.lst xs)) : isinD R.T L (.ref a) [.bt "int"] = some false := by
  simp only [isinD, mapO, tyIs, tagOf, h]
  rfl
theorem is_r_s (h : L[a]? = some (.lst xs)) : isinD R.T L (.ref a) [.bt "str"] = some false := by
  simp only [isinD, mapO, tyIs, tagOf, h]
  rfl
end
/-- alike, by d levels at most -/
def like (L : MH) : Nat → D → D → Prop
  | 0, _, _ => False
  | _ + 1, .int i, .int j => i = j
  | _ + 1, .str s, .str t => s = t
  | _ + 1, .non, .non => True
  | d + 1, .tup xs, .tup ys => xs.length = ys.length ∧ xs.length < 16777216 ∧ ∀ (i : Nat) (x y : D), xs[i]? = some x → ys[i]? = some y → like L d x y
  | d + 1, .ref a, .ref b => ∃ xs ys, L[a]? = some (.lst xs) ∧ L[b]? = some (.lst ys) ∧ xs.length = ys.length ∧ xs.length < 16777216 ∧ ∀ (i : Nat) (x y : D), xs[i]? = some x → ys[i]? = some y → like L d x y
  | _, _, _ => False
theorem like_mono {L L' : MH} (k : ∀ (a : Nat) (o : O), L[a]? = some o → L'[a]? = some o) : ∀ (d : Nat) (x y : D), like L d x y → like L' d x y := by
  intro d
  induction d with
  | zero => intro x y h; cases h
  | succ d ih =>
    intro x y h
    cases x <;> cases y <;> first | exact h | (simp only [like] at h; done) | skip
    · exact ⟨h.1, h.2.1, fun i x y e1 e2 => ih _ _ (h.2.2 i x y e1 e2)⟩
    · obtain ⟨xs, ys, h1, h2, h3, h4, h5⟩ := h
      exact ⟨xs, ys, k _ _ h1, k _ _ h2, h3, h4, fun i x y e1 e2 => ih _ _ (h5 i x y e1 e2)⟩
theorem pre_keep {L t : MH} {a : Nat} {o : O} (h : L[a]? = some o) : (L ++ t)[a]? = some o := by
  rw [List.getElem?_append_left (List.getElem?_eq_some_iff.mp h).1]
  exact h
section
variable {n : Nat} {L : MH}
theorem all_true {L : MH} {m k : Nat} (h : L[m]? = some (.lst (List.replicate k (.bl true)))) : biD .all [.ref m] L = .ok (.bl true) L := by
  have e : ∀ k, mapO blD (List.replicate k (D.bl true)) = some (List.replicate k true) := by
    intro k
    induction k with
    | zero => rfl
    | succ k ih => simp [List.replicate_succ, mapO, blD, ih]
  simp [biD, listD, h, e]
/-- the inner list of _law_like -/
theorem like_inner {d : Nat} {w : Wk} {xs ys : List D} {ρ : Mi.Loc} (ih : ∀ (L : MH) (x y : D), like L d x y → Runs (callN R.T wf (n + d) f__law_like [x, y] L) fun r L' => r = .bl true ∧ ∃ t, L' = L ++ t) (hρ : ρ.length = 5)
    (hl : xs.length = ys.length) (hz : xs.length < 16777216) (hw : ∀ t, w.at (L ++ t) = fun i => some ((xs.zip ys)[i]?.map fun p => .tup [p.1, p.2])) (hn : w.len (L ++ [.lst []]) = xs.length) (he : ∀ (i : Nat) (x y : D), xs[i]? = some x → ys[i]? = some y → like L d x y) :
    Runs (lcL (evE R.T (callN R.T wf (n + d)) (.call 11 (.cons (.var 3) (.cons (.var 4) .nil)) [] .nil)) (evT R.T (callN R.T wf (n + d)) .none) (puT R.T (callN R.T wf (n + d)) (.tup (.cons (.var 3) (.cons (.var 4) .nil)))) w L.length (wipeL ρ [3, 4]) (w.len (L ++ [.lst []])) 0 (L ++ [.lst []]))
      fun _ L2 => ∃ t, L2 = L ++ [.lst (List.replicate xs.length (.bl true))] ++ t := by
  refine lc_run (xs := (xs.zip ys).map fun p => .tup [p.1, p.2]) (fun i acc L1 => acc = List.replicate i (.bl true) ∧ i ≤ xs.length ∧ ∃ t, L1 = L ++ [.lst acc] ++ t) ?hat ?step ?fin _ 0 [] _ (Nat.zero_le _) ?fuel ⟨rfl, Nat.zero_le _, [], (List.append_nil _).symm⟩
  case hat =>
    intro i acc L1 ⟨_, _, t, e⟩
    subst e
    rw [List.append_assoc, hw, List.getElem?_map]
  case fin =>
    intro acc L1 ⟨e1, _, t, e⟩
    subst e1 e
    refine ⟨t, ?_⟩
    simp [hl]
  case fuel =>
    rw [hn]
    simp [hl]
  case step =>
    intro i x acc L1 e ⟨e1, e2, t, e3⟩
    subst e3
    rw [List.getElem?_map] at e
    cases q : (xs.zip ys)[i]? with
    | none => rw [q] at e; cases e
    | some p =>
      rw [q] at e
      cases e
      obtain ⟨q1, q2⟩ := List.getElem?_zip_eq_some.mp q
      match ρ, hρ with
      | [r0, r1, r2, r3, r4], _ =>
        try simp -implicitDefEqProofs only [fs_nil, fs_cons, fmt_str, fmt_int, ev_var, ev_cint, ev_cstr, ev_cbl, ev_cnon, ev_gcon, ev_bop, ev_neg, ev_cmp, ev_isn, ev_nisn, ev_chain, ev_and, ev_or, ev_not, ev_ife, ev_tup, ev_lst, ev_ix, ev_sl, ev_call, ev_meth, ev_make, ev_attr, ev_bi, ev_bm, ev_isin, ev_fstr, evEs, evB, evT, evO, evI, puT, puTs, List.map, List.replicate, List.length, Nat.sub_self, List.append, List.cons_append, List.nil_append, List.getElem?_cons_zero, List.getElem?_cons_succ, must, Option.bind_some, Mi.ret, at5_0, at5_1, at5_2, at5_3, at5_4, ix5_1, ix5_2, ix5_3, ix5_4, List.set_cons_succ, List.set_cons_zero, runs_ok, runs_bind, runs_quiet, Then, after_rt, after_nx, Option.map_some, List.length_map, tgLen, if_true, if_false, eq_self, Bool.false_eq_true, reduceIte, bmTag, Bool.and_self, sz0, sz1, sz2, sz3, sz4, sz5, sz6, sz7, sz8, sz9, sz10, sz11, sz12, Int.reduceLE, Int.reduceLT, Int.reduceToNat, Int.reduceNe, Int.reduceEq, Int.reduceNeg, decide_true, decide_false, Bool.true_and, Bool.and_true, Bool.or_true, Bool.true_or, Bool.not_true, Bool.not_false, ne_eq, not_false_eq_true, Nat.reducePow, Int.reducePow, na10, int_d, jx5_1, jx5_2, jx5_3, jx5_4, b_add, b_sub, b_adds, b_addt, b_addl, b_mul, b_fdiv, b_mod, b_pow, c_eq, c_ne, c_in, c_nin, c_lt, c_le, c_gt, c_ge, e_ii, e_ss, e_bb, t_bl, t_int, t_non, t_str, t_ref, t_tup, s_ref, s_tup, s_fzl, l_ref, l_fzl, l_tup, i_ref, i_tup, i_fzl, i_str, put_ref, slq_fzl, slq_str, new_l, int_d, src_fzl, src_tup, src_str, src_ref, get_snoc, n_len_s, n_len_t, n_len_r, n_len_f, n_int_i, n_int_b, n_int_s, n_abs, n_tup_r, n_lst_r, n_str_i, n_str_s, nn_non, nn_int, nn_str, nn_bl, nn_tup, nn_ref, tag_is_str, tag_is_int, tag_is_bl, tag_is_non, tag_is_tup, tag_is_ref, Option.some.injEq, reduceCtorEq, wipeL, cl_is_name, cl_value_text, cl_history_text, cl_read_integer, cl_read_value, cl_read_history, cl__law_draws, cl__law_pull, cl__law_any, cl__law_like, cl__law_reserved, cl__law_new_names, cl__law_far, cl__law_far_value, cl__law_value_text, cl__law_history_text, cl_law]
        refine (ih _ _ _ (like_mono (fun a o h => by rw [List.append_assoc]; exact pre_keep h) d _ _ (he i _ _ q1 q2))).imp fun r L2 ⟨h1, t2, h2⟩ => ?_
        subst h1 h2
        have hi : i < xs.length := (List.getElem?_eq_some_iff.mp q1).1
        refine ⟨?_, by rw [e1, List.length_replicate]; omega, ?_, hi, t ++ t2, ?_⟩
        · rw [List.append_assoc, List.append_assoc]
          simp
        · rw [e1]
          exact List.replicate_succ'.symm
        · simp [List.set_append]
theorem zip_val {xs ys : List D} (i : Nat) : Wk.at L (.zip (.val xs) (.val ys)) i = some ((xs.zip ys)[i]?.map fun p => .tup [p.1, p.2]) := by
  simp only [Wk.at, Src.at, Option.bind_some, Option.map_some, Option.some.injEq]
  cases e1 : xs[i]? with
  | none =>
    have : (xs.zip ys)[i]? = none := by
      rw [List.getElem?_eq_none_iff, List.length_zip]
      have := List.getElem?_eq_none_iff.mp e1
      omega
    rw [this]
    cases ys[i]? <;> rfl
  | some x =>
    cases e2 : ys[i]? with
    | none =>
      have : (xs.zip ys)[i]? = none := by
        rw [List.getElem?_eq_none_iff, List.length_zip]
        have := List.getElem?_eq_none_iff.mp e2
        omega
      rw [this]
      rfl
    | some y =>
      rw [(List.getElem?_zip_eq_some (z := (x, y))).mpr ⟨e1, e2⟩]
      rfl
theorem zip_lst {a b : Nat} {xs ys : List D} (h1 : L[a]? = some (.lst xs)) (h2 : L[b]? = some (.lst ys)) (i : Nat) : Wk.at L (.zip (.lst a) (.lst b)) i = some ((xs.zip ys)[i]?.map fun p => .tup [p.1, p.2]) := by
  have e : Wk.at L (.zip (.lst a) (.lst b)) i = Wk.at L (.zip (.val xs) (.val ys)) i := by simp only [Wk.at, Src.at, h1, h2]
  rw [e]
  exact zip_val i
theorem like_spec : ∀ (d : Nat) (L : MH) (x y : D), like L d x y → Runs (callN R.T wf (n + d) f__law_like [x, y] L) fun r L' => r = .bl true ∧ ∃ t, L' = L ++ t := by
  intro d
  induction d with
  | zero => intro L x y h; cases h
  | succ d ih =>
    intro L x y h
    refine go_def (fd := fd__law_like) (n := n + d) rfl rfl ?_
    simp only [fd__law_like, ir__law_like]
    refine go_cons (go_if ?_)
    cases x <;> cases y <;> first | (simp only [like] at h; done) | skip
    · -- None
      try simp -implicitDefEqProofs only [fs_nil, fs_cons, fmt_str, fmt_int, ev_var, ev_cint, ev_cstr, ev_cbl, ev_cnon, ev_gcon, ev_bop, ev_neg, ev_cmp, ev_isn, ev_nisn, ev_chain, ev_and, ev_or, ev_not, ev_ife, ev_tup, ev_lst, ev_ix, ev_sl, ev_call, ev_meth, ev_make, ev_attr, ev_bi, ev_bm, ev_isin, ev_fstr, evEs, evB, evT, evO, evI, puT, puTs, List.map, List.replicate, List.length, Nat.sub_self, List.append, List.cons_append, List.nil_append, List.getElem?_cons_zero, List.getElem?_cons_succ, must, Option.bind_some, Mi.ret, at5_0, at5_1, at5_2, at5_3, at5_4, ix5_1, ix5_2, ix5_3, ix5_4, List.set_cons_succ, List.set_cons_zero, runs_ok, runs_bind, runs_quiet, Then, after_rt, after_nx, Option.map_some, List.length_map, tgLen, if_true, if_false, eq_self, Bool.false_eq_true, reduceIte, bmTag, Bool.and_self, sz0, sz1, sz2, sz3, sz4, sz5, sz6, sz7, sz8, sz9, sz10, sz11, sz12, Int.reduceLE, Int.reduceLT, Int.reduceToNat, Int.reduceNe, Int.reduceEq, Int.reduceNeg, decide_true, decide_false, Bool.true_and, Bool.and_true, Bool.or_true, Bool.true_or, Bool.not_true, Bool.not_false, ne_eq, not_false_eq_true, Nat.reducePow, Int.reducePow, na10, int_d, jx5_1, jx5_2, jx5_3, jx5_4, b_add, b_sub, b_adds, b_addt, b_addl, b_mul, b_fdiv, b_mod, b_pow, c_eq, c_ne, c_in, c_nin, c_lt, c_le, c_gt, c_ge, e_ii, e_ss, e_bb, t_bl, t_int, t_non, t_str, t_ref, t_tup, s_ref, s_tup, s_fzl, l_ref, l_fzl, l_tup, i_ref, i_tup, i_fzl, i_str, put_ref, slq_fzl, slq_str, new_l, int_d, src_fzl, src_tup, src_str, src_ref, get_snoc, n_len_s, n_len_t, n_len_r, n_len_f, n_int_i, n_int_b, n_int_s, n_abs, n_tup_r, n_lst_r, n_str_i, n_str_s, nn_non, nn_int, nn_str, nn_bl, nn_tup, nn_ref, tag_is_str, tag_is_int, tag_is_bl, tag_is_non, tag_is_tup, tag_is_ref, Option.some.injEq, reduceCtorEq, is_i_lt, is_i_l, is_i_t, is_i_b, is_i_i, is_i_s, is_s_lt, is_s_l, is_s_t, is_s_b, is_s_i, is_s_s, is_n_lt, is_n_l, is_n_t, is_n_b, is_n_i, is_n_s, is_t_lt, is_t_l, is_t_t, is_t_b, is_t_i, is_t_s]
      refine go_nilT (go_cons (go_if ?_))
      try simp -implicitDefEqProofs only [fs_nil, fs_cons, fmt_str, fmt_int, ev_var, ev_cint, ev_cstr, ev_cbl, ev_cnon, ev_gcon, ev_bop, ev_neg, ev_cmp, ev_isn, ev_nisn, ev_chain, ev_and, ev_or, ev_not, ev_ife, ev_tup, ev_lst, ev_ix, ev_sl, ev_call, ev_meth, ev_make, ev_attr, ev_bi, ev_bm, ev_isin, ev_fstr, evEs, evB, evT, evO, evI, puT, puTs, List.map, List.replicate, List.length, Nat.sub_self, List.append, List.cons_append, List.nil_append, List.getElem?_cons_zero, List.getElem?_cons_succ, must, Option.bind_some, Mi.ret, at5_0, at5_1, at5_2, at5_3, at5_4, ix5_1, ix5_2, ix5_3, ix5_4, List.set_cons_succ, List.set_cons_zero, runs_ok, runs_bind, runs_quiet, Then, after_rt, after_nx, Option.map_some, List.length_map, tgLen, if_true, if_false, eq_self, Bool.false_eq_true, reduceIte, bmTag, Bool.and_self, sz0, sz1, sz2, sz3, sz4, sz5, sz6, sz7, sz8, sz9, sz10, sz11, sz12, Int.reduceLE, Int.reduceLT, Int.reduceToNat, Int.reduceNe, Int.reduceEq, Int.reduceNeg, decide_true, decide_false, Bool.true_and, Bool.and_true, Bool.or_true, Bool.true_or, Bool.not_true, Bool.not_false, ne_eq, not_false_eq_true, Nat.reducePow, Int.reducePow, na10, int_d, jx5_1, jx5_2, jx5_3, jx5_4, b_add, b_sub, b_adds, b_addt, b_addl, b_mul, b_fdiv, b_mod, b_pow, c_eq, c_ne, c_in, c_nin, c_lt, c_le, c_gt, c_ge, e_ii, e_ss, e_bb, t_bl, t_int, t_non, t_str, t_ref, t_tup, s_ref, s_tup, s_fzl, l_ref, l_fzl, l_tup, i_ref, i_tup, i_fzl, i_str, put_ref, slq_fzl, slq_str, new_l, int_d, src_fzl, src_tup, src_str, src_ref, get_snoc, n_len_s, n_len_t, n_len_r, n_len_f, n_int_i, n_int_b, n_int_s, n_abs, n_tup_r, n_lst_r, n_str_i, n_str_s, nn_non, nn_int, nn_str, nn_bl, nn_tup, nn_ref, tag_is_str, tag_is_int, tag_is_bl, tag_is_non, tag_is_tup, tag_is_ref, Option.some.injEq, reduceCtorEq, is_i_lt, is_i_l, is_i_t, is_i_b, is_i_i, is_i_s, is_s_lt, is_s_l, is_s_t, is_s_b, is_s_i, is_s_s, is_n_lt, is_n_l, is_n_t, is_n_b, is_n_i, is_n_s, is_t_lt, is_t_l, is_t_t, is_t_b, is_t_i, is_t_s]
      refine go_cons (go_ret ?_)
      try simp -implicitDefEqProofs only [fs_nil, fs_cons, fmt_str, fmt_int, ev_var, ev_cint, ev_cstr, ev_cbl, ev_cnon, ev_gcon, ev_bop, ev_neg, ev_cmp, ev_isn, ev_nisn, ev_chain, ev_and, ev_or, ev_not, ev_ife, ev_tup, ev_lst, ev_ix, ev_sl, ev_call, ev_meth, ev_make, ev_attr, ev_bi, ev_bm, ev_isin, ev_fstr, evEs, evB, evT, evO, evI, puT, puTs, List.map, List.replicate, List.length, Nat.sub_self, List.append, List.cons_append, List.nil_append, List.getElem?_cons_zero, List.getElem?_cons_succ, must, Option.bind_some, Mi.ret, at5_0, at5_1, at5_2, at5_3, at5_4, ix5_1, ix5_2, ix5_3, ix5_4, List.set_cons_succ, List.set_cons_zero, runs_ok, runs_bind, runs_quiet, Then, after_rt, after_nx, Option.map_some, List.length_map, tgLen, if_true, if_false, eq_self, Bool.false_eq_true, reduceIte, bmTag, Bool.and_self, sz0, sz1, sz2, sz3, sz4, sz5, sz6, sz7, sz8, sz9, sz10, sz11, sz12, Int.reduceLE, Int.reduceLT, Int.reduceToNat, Int.reduceNe, Int.reduceEq, Int.reduceNeg, decide_true, decide_false, Bool.true_and, Bool.and_true, Bool.or_true, Bool.true_or, Bool.not_true, Bool.not_false, ne_eq, not_false_eq_true, Nat.reducePow, Int.reducePow, na10, int_d, jx5_1, jx5_2, jx5_3, jx5_4, b_add, b_sub, b_adds, b_addt, b_addl, b_mul, b_fdiv, b_mod, b_pow, c_eq, c_ne, c_in, c_nin, c_lt, c_le, c_gt, c_ge, e_ii, e_ss, e_bb, t_bl, t_int, t_non, t_str, t_ref, t_tup, s_ref, s_tup, s_fzl, l_ref, l_fzl, l_tup, i_ref, i_tup, i_fzl, i_str, put_ref, slq_fzl, slq_str, new_l, int_d, src_fzl, src_tup, src_str, src_ref, get_snoc, n_len_s, n_len_t, n_len_r, n_len_f, n_int_i, n_int_b, n_int_s, n_abs, n_tup_r, n_lst_r, n_str_i, n_str_s, nn_non, nn_int, nn_str, nn_bl, nn_tup, nn_ref, tag_is_str, tag_is_int, tag_is_bl, tag_is_non, tag_is_tup, tag_is_ref, Option.some.injEq, reduceCtorEq]
      exact ⟨trivial, [], (List.append_nil _).symm⟩
    · cases (show _ = _ from h)
      try simp -implicitDefEqProofs only [fs_nil, fs_cons, fmt_str, fmt_int, ev_var, ev_cint, ev_cstr, ev_cbl, ev_cnon, ev_gcon, ev_bop, ev_neg, ev_cmp, ev_isn, ev_nisn, ev_chain, ev_and, ev_or, ev_not, ev_ife, ev_tup, ev_lst, ev_ix, ev_sl, ev_call, ev_meth, ev_make, ev_attr, ev_bi, ev_bm, ev_isin, ev_fstr, evEs, evB, evT, evO, evI, puT, puTs, List.map, List.replicate, List.length, Nat.sub_self, List.append, List.cons_append, List.nil_append, List.getElem?_cons_zero, List.getElem?_cons_succ, must, Option.bind_some, Mi.ret, at5_0, at5_1, at5_2, at5_3, at5_4, ix5_1, ix5_2, ix5_3, ix5_4, List.set_cons_succ, List.set_cons_zero, runs_ok, runs_bind, runs_quiet, Then, after_rt, after_nx, Option.map_some, List.length_map, tgLen, if_true, if_false, eq_self, Bool.false_eq_true, reduceIte, bmTag, Bool.and_self, sz0, sz1, sz2, sz3, sz4, sz5, sz6, sz7, sz8, sz9, sz10, sz11, sz12, Int.reduceLE, Int.reduceLT, Int.reduceToNat, Int.reduceNe, Int.reduceEq, Int.reduceNeg, decide_true, decide_false, Bool.true_and, Bool.and_true, Bool.or_true, Bool.true_or, Bool.not_true, Bool.not_false, ne_eq, not_false_eq_true, Nat.reducePow, Int.reducePow, na10, int_d, jx5_1, jx5_2, jx5_3, jx5_4, b_add, b_sub, b_adds, b_addt, b_addl, b_mul, b_fdiv, b_mod, b_pow, c_eq, c_ne, c_in, c_nin, c_lt, c_le, c_gt, c_ge, e_ii, e_ss, e_bb, t_bl, t_int, t_non, t_str, t_ref, t_tup, s_ref, s_tup, s_fzl, l_ref, l_fzl, l_tup, i_ref, i_tup, i_fzl, i_str, put_ref, slq_fzl, slq_str, new_l, int_d, src_fzl, src_tup, src_str, src_ref, get_snoc, n_len_s, n_len_t, n_len_r, n_len_f, n_int_i, n_int_b, n_int_s, n_abs, n_tup_r, n_lst_r, n_str_i, n_str_s, nn_non, nn_int, nn_str, nn_bl, nn_tup, nn_ref, tag_is_str, tag_is_int, tag_is_bl, tag_is_non, tag_is_tup, tag_is_ref, Option.some.injEq, reduceCtorEq, is_i_lt, is_i_l, is_i_t, is_i_b, is_i_i, is_i_s, is_s_lt, is_s_l, is_s_t, is_s_b, is_s_i, is_s_s, is_n_lt, is_n_l, is_n_t, is_n_b, is_n_i, is_n_s, is_t_lt, is_t_l, is_t_t, is_t_b, is_t_i, is_t_s]
      refine go_nilT (go_cons (go_if ?_))
      try simp -implicitDefEqProofs only [fs_nil, fs_cons, fmt_str, fmt_int, ev_var, ev_cint, ev_cstr, ev_cbl, ev_cnon, ev_gcon, ev_bop, ev_neg, ev_cmp, ev_isn, ev_nisn, ev_chain, ev_and, ev_or, ev_not, ev_ife, ev_tup, ev_lst, ev_ix, ev_sl, ev_call, ev_meth, ev_make, ev_attr, ev_bi, ev_bm, ev_isin, ev_fstr, evEs, evB, evT, evO, evI, puT, puTs, List.map, List.replicate, List.length, Nat.sub_self, List.append, List.cons_append, List.nil_append, List.getElem?_cons_zero, List.getElem?_cons_succ, must, Option.bind_some, Mi.ret, at5_0, at5_1, at5_2, at5_3, at5_4, ix5_1, ix5_2, ix5_3, ix5_4, List.set_cons_succ, List.set_cons_zero, runs_ok, runs_bind, runs_quiet, Then, after_rt, after_nx, Option.map_some, List.length_map, tgLen, if_true, if_false, eq_self, Bool.false_eq_true, reduceIte, bmTag, Bool.and_self, sz0, sz1, sz2, sz3, sz4, sz5, sz6, sz7, sz8, sz9, sz10, sz11, sz12, Int.reduceLE, Int.reduceLT, Int.reduceToNat, Int.reduceNe, Int.reduceEq, Int.reduceNeg, decide_true, decide_false, Bool.true_and, Bool.and_true, Bool.or_true, Bool.true_or, Bool.not_true, Bool.not_false, ne_eq, not_false_eq_true, Nat.reducePow, Int.reducePow, na10, int_d, jx5_1, jx5_2, jx5_3, jx5_4, b_add, b_sub, b_adds, b_addt, b_addl, b_mul, b_fdiv, b_mod, b_pow, c_eq, c_ne, c_in, c_nin, c_lt, c_le, c_gt, c_ge, e_ii, e_ss, e_bb, t_bl, t_int, t_non, t_str, t_ref, t_tup, s_ref, s_tup, s_fzl, l_ref, l_fzl, l_tup, i_ref, i_tup, i_fzl, i_str, put_ref, slq_fzl, slq_str, new_l, int_d, src_fzl, src_tup, src_str, src_ref, get_snoc, n_len_s, n_len_t, n_len_r, n_len_f, n_int_i, n_int_b, n_int_s, n_abs, n_tup_r, n_lst_r, n_str_i, n_str_s, nn_non, nn_int, nn_str, nn_bl, nn_tup, nn_ref, tag_is_str, tag_is_int, tag_is_bl, tag_is_non, tag_is_tup, tag_is_ref, Option.some.injEq, reduceCtorEq, is_i_lt, is_i_l, is_i_t, is_i_b, is_i_i, is_i_s, is_s_lt, is_s_l, is_s_t, is_s_b, is_s_i, is_s_s, is_n_lt, is_n_l, is_n_t, is_n_b, is_n_i, is_n_s, is_t_lt, is_t_l, is_t_t, is_t_b, is_t_i, is_t_s]
      refine go_nilT (go_cons (go_ret ?_))
      try simp -implicitDefEqProofs only [fs_nil, fs_cons, fmt_str, fmt_int, ev_var, ev_cint, ev_cstr, ev_cbl, ev_cnon, ev_gcon, ev_bop, ev_neg, ev_cmp, ev_isn, ev_nisn, ev_chain, ev_and, ev_or, ev_not, ev_ife, ev_tup, ev_lst, ev_ix, ev_sl, ev_call, ev_meth, ev_make, ev_attr, ev_bi, ev_bm, ev_isin, ev_fstr, evEs, evB, evT, evO, evI, puT, puTs, List.map, List.replicate, List.length, Nat.sub_self, List.append, List.cons_append, List.nil_append, List.getElem?_cons_zero, List.getElem?_cons_succ, must, Option.bind_some, Mi.ret, at5_0, at5_1, at5_2, at5_3, at5_4, ix5_1, ix5_2, ix5_3, ix5_4, List.set_cons_succ, List.set_cons_zero, runs_ok, runs_bind, runs_quiet, Then, after_rt, after_nx, Option.map_some, List.length_map, tgLen, if_true, if_false, eq_self, Bool.false_eq_true, reduceIte, bmTag, Bool.and_self, sz0, sz1, sz2, sz3, sz4, sz5, sz6, sz7, sz8, sz9, sz10, sz11, sz12, Int.reduceLE, Int.reduceLT, Int.reduceToNat, Int.reduceNe, Int.reduceEq, Int.reduceNeg, decide_true, decide_false, Bool.true_and, Bool.and_true, Bool.or_true, Bool.true_or, Bool.not_true, Bool.not_false, ne_eq, not_false_eq_true, Nat.reducePow, Int.reducePow, na10, int_d, jx5_1, jx5_2, jx5_3, jx5_4, b_add, b_sub, b_adds, b_addt, b_addl, b_mul, b_fdiv, b_mod, b_pow, c_eq, c_ne, c_in, c_nin, c_lt, c_le, c_gt, c_ge, e_ii, e_ss, e_bb, t_bl, t_int, t_non, t_str, t_ref, t_tup, s_ref, s_tup, s_fzl, l_ref, l_fzl, l_tup, i_ref, i_tup, i_fzl, i_str, put_ref, slq_fzl, slq_str, new_l, int_d, src_fzl, src_tup, src_str, src_ref, get_snoc, n_len_s, n_len_t, n_len_r, n_len_f, n_int_i, n_int_b, n_int_s, n_abs, n_tup_r, n_lst_r, n_str_i, n_str_s, nn_non, nn_int, nn_str, nn_bl, nn_tup, nn_ref, tag_is_str, tag_is_int, tag_is_bl, tag_is_non, tag_is_tup, tag_is_ref, Option.some.injEq, reduceCtorEq, is_i_lt, is_i_l, is_i_t, is_i_b, is_i_i, is_i_s, is_s_lt, is_s_l, is_s_t, is_s_b, is_s_i, is_s_s, is_n_lt, is_n_l, is_n_t, is_n_b, is_n_i, is_n_s, is_t_lt, is_t_l, is_t_t, is_t_b, is_t_i, is_t_s]
      exact ⟨trivial, [], (List.append_nil _).symm⟩
    · cases (show _ = _ from h)
      try simp -implicitDefEqProofs only [fs_nil, fs_cons, fmt_str, fmt_int, ev_var, ev_cint, ev_cstr, ev_cbl, ev_cnon, ev_gcon, ev_bop, ev_neg, ev_cmp, ev_isn, ev_nisn, ev_chain, ev_and, ev_or, ev_not, ev_ife, ev_tup, ev_lst, ev_ix, ev_sl, ev_call, ev_meth, ev_make, ev_attr, ev_bi, ev_bm, ev_isin, ev_fstr, evEs, evB, evT, evO, evI, puT, puTs, List.map, List.replicate, List.length, Nat.sub_self, List.append, List.cons_append, List.nil_append, List.getElem?_cons_zero, List.getElem?_cons_succ, must, Option.bind_some, Mi.ret, at5_0, at5_1, at5_2, at5_3, at5_4, ix5_1, ix5_2, ix5_3, ix5_4, List.set_cons_succ, List.set_cons_zero, runs_ok, runs_bind, runs_quiet, Then, after_rt, after_nx, Option.map_some, List.length_map, tgLen, if_true, if_false, eq_self, Bool.false_eq_true, reduceIte, bmTag, Bool.and_self, sz0, sz1, sz2, sz3, sz4, sz5, sz6, sz7, sz8, sz9, sz10, sz11, sz12, Int.reduceLE, Int.reduceLT, Int.reduceToNat, Int.reduceNe, Int.reduceEq, Int.reduceNeg, decide_true, decide_false, Bool.true_and, Bool.and_true, Bool.or_true, Bool.true_or, Bool.not_true, Bool.not_false, ne_eq, not_false_eq_true, Nat.reducePow, Int.reducePow, na10, int_d, jx5_1, jx5_2, jx5_3, jx5_4, b_add, b_sub, b_adds, b_addt, b_addl, b_mul, b_fdiv, b_mod, b_pow, c_eq, c_ne, c_in, c_nin, c_lt, c_le, c_gt, c_ge, e_ii, e_ss, e_bb, t_bl, t_int, t_non, t_str, t_ref, t_tup, s_ref, s_tup, s_fzl, l_ref, l_fzl, l_tup, i_ref, i_tup, i_fzl, i_str, put_ref, slq_fzl, slq_str, new_l, int_d, src_fzl, src_tup, src_str, src_ref, get_snoc, n_len_s, n_len_t, n_len_r, n_len_f, n_int_i, n_int_b, n_int_s, n_abs, n_tup_r, n_lst_r, n_str_i, n_str_s, nn_non, nn_int, nn_str, nn_bl, nn_tup, nn_ref, tag_is_str, tag_is_int, tag_is_bl, tag_is_non, tag_is_tup, tag_is_ref, Option.some.injEq, reduceCtorEq, is_i_lt, is_i_l, is_i_t, is_i_b, is_i_i, is_i_s, is_s_lt, is_s_l, is_s_t, is_s_b, is_s_i, is_s_s, is_n_lt, is_n_l, is_n_t, is_n_b, is_n_i, is_n_s, is_t_lt, is_t_l, is_t_t, is_t_b, is_t_i, is_t_s]
      refine go_nilT (go_cons (go_if ?_))
      try simp -implicitDefEqProofs only [fs_nil, fs_cons, fmt_str, fmt_int, ev_var, ev_cint, ev_cstr, ev_cbl, ev_cnon, ev_gcon, ev_bop, ev_neg, ev_cmp, ev_isn, ev_nisn, ev_chain, ev_and, ev_or, ev_not, ev_ife, ev_tup, ev_lst, ev_ix, ev_sl, ev_call, ev_meth, ev_make, ev_attr, ev_bi, ev_bm, ev_isin, ev_fstr, evEs, evB, evT, evO, evI, puT, puTs, List.map, List.replicate, List.length, Nat.sub_self, List.append, List.cons_append, List.nil_append, List.getElem?_cons_zero, List.getElem?_cons_succ, must, Option.bind_some, Mi.ret, at5_0, at5_1, at5_2, at5_3, at5_4, ix5_1, ix5_2, ix5_3, ix5_4, List.set_cons_succ, List.set_cons_zero, runs_ok, runs_bind, runs_quiet, Then, after_rt, after_nx, Option.map_some, List.length_map, tgLen, if_true, if_false, eq_self, Bool.false_eq_true, reduceIte, bmTag, Bool.and_self, sz0, sz1, sz2, sz3, sz4, sz5, sz6, sz7, sz8, sz9, sz10, sz11, sz12, Int.reduceLE, Int.reduceLT, Int.reduceToNat, Int.reduceNe, Int.reduceEq, Int.reduceNeg, decide_true, decide_false, Bool.true_and, Bool.and_true, Bool.or_true, Bool.true_or, Bool.not_true, Bool.not_false, ne_eq, not_false_eq_true, Nat.reducePow, Int.reducePow, na10, int_d, jx5_1, jx5_2, jx5_3, jx5_4, b_add, b_sub, b_adds, b_addt, b_addl, b_mul, b_fdiv, b_mod, b_pow, c_eq, c_ne, c_in, c_nin, c_lt, c_le, c_gt, c_ge, e_ii, e_ss, e_bb, t_bl, t_int, t_non, t_str, t_ref, t_tup, s_ref, s_tup, s_fzl, l_ref, l_fzl, l_tup, i_ref, i_tup, i_fzl, i_str, put_ref, slq_fzl, slq_str, new_l, int_d, src_fzl, src_tup, src_str, src_ref, get_snoc, n_len_s, n_len_t, n_len_r, n_len_f, n_int_i, n_int_b, n_int_s, n_abs, n_tup_r, n_lst_r, n_str_i, n_str_s, nn_non, nn_int, nn_str, nn_bl, nn_tup, nn_ref, tag_is_str, tag_is_int, tag_is_bl, tag_is_non, tag_is_tup, tag_is_ref, Option.some.injEq, reduceCtorEq, is_i_lt, is_i_l, is_i_t, is_i_b, is_i_i, is_i_s, is_s_lt, is_s_l, is_s_t, is_s_b, is_s_i, is_s_s, is_n_lt, is_n_l, is_n_t, is_n_b, is_n_i, is_n_s, is_t_lt, is_t_l, is_t_t, is_t_b, is_t_i, is_t_s]
      refine go_nilT (go_cons (go_ret ?_))
      try simp -implicitDefEqProofs only [fs_nil, fs_cons, fmt_str, fmt_int, ev_var, ev_cint, ev_cstr, ev_cbl, ev_cnon, ev_gcon, ev_bop, ev_neg, ev_cmp, ev_isn, ev_nisn, ev_chain, ev_and, ev_or, ev_not, ev_ife, ev_tup, ev_lst, ev_ix, ev_sl, ev_call, ev_meth, ev_make, ev_attr, ev_bi, ev_bm, ev_isin, ev_fstr, evEs, evB, evT, evO, evI, puT, puTs, List.map, List.replicate, List.length, Nat.sub_self, List.append, List.cons_append, List.nil_append, List.getElem?_cons_zero, List.getElem?_cons_succ, must, Option.bind_some, Mi.ret, at5_0, at5_1, at5_2, at5_3, at5_4, ix5_1, ix5_2, ix5_3, ix5_4, List.set_cons_succ, List.set_cons_zero, runs_ok, runs_bind, runs_quiet, Then, after_rt, after_nx, Option.map_some, List.length_map, tgLen, if_true, if_false, eq_self, Bool.false_eq_true, reduceIte, bmTag, Bool.and_self, sz0, sz1, sz2, sz3, sz4, sz5, sz6, sz7, sz8, sz9, sz10, sz11, sz12, Int.reduceLE, Int.reduceLT, Int.reduceToNat, Int.reduceNe, Int.reduceEq, Int.reduceNeg, decide_true, decide_false, Bool.true_and, Bool.and_true, Bool.or_true, Bool.true_or, Bool.not_true, Bool.not_false, ne_eq, not_false_eq_true, Nat.reducePow, Int.reducePow, na10, int_d, jx5_1, jx5_2, jx5_3, jx5_4, b_add, b_sub, b_adds, b_addt, b_addl, b_mul, b_fdiv, b_mod, b_pow, c_eq, c_ne, c_in, c_nin, c_lt, c_le, c_gt, c_ge, e_ii, e_ss, e_bb, t_bl, t_int, t_non, t_str, t_ref, t_tup, s_ref, s_tup, s_fzl, l_ref, l_fzl, l_tup, i_ref, i_tup, i_fzl, i_str, put_ref, slq_fzl, slq_str, new_l, int_d, src_fzl, src_tup, src_str, src_ref, get_snoc, n_len_s, n_len_t, n_len_r, n_len_f, n_int_i, n_int_b, n_int_s, n_abs, n_tup_r, n_lst_r, n_str_i, n_str_s, nn_non, nn_int, nn_str, nn_bl, nn_tup, nn_ref, tag_is_str, tag_is_int, tag_is_bl, tag_is_non, tag_is_tup, tag_is_ref, Option.some.injEq, reduceCtorEq, is_i_lt, is_i_l, is_i_t, is_i_b, is_i_i, is_i_s, is_s_lt, is_s_l, is_s_t, is_s_b, is_s_i, is_s_s, is_n_lt, is_n_l, is_n_t, is_n_b, is_n_i, is_n_s, is_t_lt, is_t_l, is_t_t, is_t_b, is_t_i, is_t_s]
      exact ⟨trivial, [], (List.append_nil _).symm⟩
    · rename_i xs ys
      obtain ⟨hl, hz, he⟩ := h
      try simp -implicitDefEqProofs only [fs_nil, fs_cons, fmt_str, fmt_int, ev_var, ev_cint, ev_cstr, ev_cbl, ev_cnon, ev_gcon, ev_bop, ev_neg, ev_cmp, ev_isn, ev_nisn, ev_chain, ev_and, ev_or, ev_not, ev_ife, ev_tup, ev_lst, ev_ix, ev_sl, ev_call, ev_meth, ev_make, ev_attr, ev_bi, ev_bm, ev_isin, ev_fstr, evEs, evB, evT, evO, evI, puT, puTs, List.map, List.replicate, List.length, Nat.sub_self, List.append, List.cons_append, List.nil_append, List.getElem?_cons_zero, List.getElem?_cons_succ, must, Option.bind_some, Mi.ret, at5_0, at5_1, at5_2, at5_3, at5_4, ix5_1, ix5_2, ix5_3, ix5_4, List.set_cons_succ, List.set_cons_zero, runs_ok, runs_bind, runs_quiet, Then, after_rt, after_nx, Option.map_some, List.length_map, tgLen, if_true, if_false, eq_self, Bool.false_eq_true, reduceIte, bmTag, Bool.and_self, sz0, sz1, sz2, sz3, sz4, sz5, sz6, sz7, sz8, sz9, sz10, sz11, sz12, Int.reduceLE, Int.reduceLT, Int.reduceToNat, Int.reduceNe, Int.reduceEq, Int.reduceNeg, decide_true, decide_false, Bool.true_and, Bool.and_true, Bool.or_true, Bool.true_or, Bool.not_true, Bool.not_false, ne_eq, not_false_eq_true, Nat.reducePow, Int.reducePow, na10, int_d, jx5_1, jx5_2, jx5_3, jx5_4, b_add, b_sub, b_adds, b_addt, b_addl, b_mul, b_fdiv, b_mod, b_pow, c_eq, c_ne, c_in, c_nin, c_lt, c_le, c_gt, c_ge, e_ii, e_ss, e_bb, t_bl, t_int, t_non, t_str, t_ref, t_tup, s_ref, s_tup, s_fzl, l_ref, l_fzl, l_tup, i_ref, i_tup, i_fzl, i_str, put_ref, slq_fzl, slq_str, new_l, int_d, src_fzl, src_tup, src_str, src_ref, get_snoc, n_len_s, n_len_t, n_len_r, n_len_f, n_int_i, n_int_b, n_int_s, n_abs, n_tup_r, n_lst_r, n_str_i, n_str_s, nn_non, nn_int, nn_str, nn_bl, nn_tup, nn_ref, tag_is_str, tag_is_int, tag_is_bl, tag_is_non, tag_is_tup, tag_is_ref, Option.some.injEq, reduceCtorEq, is_i_lt, is_i_l, is_i_t, is_i_b, is_i_i, is_i_s, is_s_lt, is_s_l, is_s_t, is_s_b, is_s_i, is_s_s, is_n_lt, is_n_l, is_n_t, is_n_b, is_n_i, is_n_s, is_t_lt, is_t_l, is_t_t, is_t_b, is_t_i, is_t_s]
      refine go_cons (go_var ?_)
      try simp -implicitDefEqProofs only [fs_nil, fs_cons, fmt_str, fmt_int, ev_var, ev_cint, ev_cstr, ev_cbl, ev_cnon, ev_gcon, ev_bop, ev_neg, ev_cmp, ev_isn, ev_nisn, ev_chain, ev_and, ev_or, ev_not, ev_ife, ev_tup, ev_lst, ev_ix, ev_sl, ev_call, ev_meth, ev_make, ev_attr, ev_bi, ev_bm, ev_isin, ev_fstr, evEs, evB, evT, evO, evI, puT, puTs, List.map, List.replicate, List.length, Nat.sub_self, List.append, List.cons_append, List.nil_append, List.getElem?_cons_zero, List.getElem?_cons_succ, must, Option.bind_some, Mi.ret, at5_0, at5_1, at5_2, at5_3, at5_4, ix5_1, ix5_2, ix5_3, ix5_4, List.set_cons_succ, List.set_cons_zero, runs_ok, runs_bind, runs_quiet, Then, after_rt, after_nx, Option.map_some, List.length_map, tgLen, if_true, if_false, eq_self, Bool.false_eq_true, reduceIte, bmTag, Bool.and_self, sz0, sz1, sz2, sz3, sz4, sz5, sz6, sz7, sz8, sz9, sz10, sz11, sz12, Int.reduceLE, Int.reduceLT, Int.reduceToNat, Int.reduceNe, Int.reduceEq, Int.reduceNeg, decide_true, decide_false, Bool.true_and, Bool.and_true, Bool.or_true, Bool.true_or, Bool.not_true, Bool.not_false, ne_eq, not_false_eq_true, Nat.reducePow, Int.reducePow, na10, int_d, jx5_1, jx5_2, jx5_3, jx5_4, b_add, b_sub, b_adds, b_addt, b_addl, b_mul, b_fdiv, b_mod, b_pow, c_eq, c_ne, c_in, c_nin, c_lt, c_le, c_gt, c_ge, e_ii, e_ss, e_bb, t_bl, t_int, t_non, t_str, t_ref, t_tup, s_ref, s_tup, s_fzl, l_ref, l_fzl, l_tup, i_ref, i_tup, i_fzl, i_str, put_ref, slq_fzl, slq_str, new_l, int_d, src_fzl, src_tup, src_str, src_ref, get_snoc, n_len_s, n_len_t, n_len_r, n_len_f, n_int_i, n_int_b, n_int_s, n_abs, n_tup_r, n_lst_r, n_str_i, n_str_s, nn_non, nn_int, nn_str, nn_bl, nn_tup, nn_ref, tag_is_str, tag_is_int, tag_is_bl, tag_is_non, tag_is_tup, tag_is_ref, Option.some.injEq, reduceCtorEq, is_i_lt, is_i_l, is_i_t, is_i_b, is_i_i, is_i_s, is_s_lt, is_s_l, is_s_t, is_s_b, is_s_i, is_s_s, is_n_lt, is_n_l, is_n_t, is_n_b, is_n_i, is_n_s, is_t_lt, is_t_l, is_t_t, is_t_b, is_t_i, is_t_s]
      refine go_cons (go_ret ?_)
      try simp -implicitDefEqProofs only [fs_nil, fs_cons, fmt_str, fmt_int, ev_var, ev_cint, ev_cstr, ev_cbl, ev_cnon, ev_gcon, ev_bop, ev_neg, ev_cmp, ev_isn, ev_nisn, ev_chain, ev_and, ev_or, ev_not, ev_ife, ev_tup, ev_lst, ev_ix, ev_sl, ev_call, ev_meth, ev_make, ev_attr, ev_bi, ev_bm, ev_isin, ev_fstr, evEs, evB, evT, evO, evI, puT, puTs, List.map, List.replicate, List.length, Nat.sub_self, List.append, List.cons_append, List.nil_append, List.getElem?_cons_zero, List.getElem?_cons_succ, must, Option.bind_some, Mi.ret, at5_0, at5_1, at5_2, at5_3, at5_4, ix5_1, ix5_2, ix5_3, ix5_4, List.set_cons_succ, List.set_cons_zero, runs_ok, runs_bind, runs_quiet, Then, after_rt, after_nx, Option.map_some, List.length_map, tgLen, if_true, if_false, eq_self, Bool.false_eq_true, reduceIte, bmTag, Bool.and_self, sz0, sz1, sz2, sz3, sz4, sz5, sz6, sz7, sz8, sz9, sz10, sz11, sz12, Int.reduceLE, Int.reduceLT, Int.reduceToNat, Int.reduceNe, Int.reduceEq, Int.reduceNeg, decide_true, decide_false, Bool.true_and, Bool.and_true, Bool.or_true, Bool.true_or, Bool.not_true, Bool.not_false, ne_eq, not_false_eq_true, Nat.reducePow, Int.reducePow, na10, int_d, jx5_1, jx5_2, jx5_3, jx5_4, b_add, b_sub, b_adds, b_addt, b_addl, b_mul, b_fdiv, b_mod, b_pow, c_eq, c_ne, c_in, c_nin, c_lt, c_le, c_gt, c_ge, e_ii, e_ss, e_bb, t_bl, t_int, t_non, t_str, t_ref, t_tup, s_ref, s_tup, s_fzl, l_ref, l_fzl, l_tup, i_ref, i_tup, i_fzl, i_str, put_ref, slq_fzl, slq_str, new_l, int_d, src_fzl, src_tup, src_str, src_ref, get_snoc, n_len_s, n_len_t, n_len_r, n_len_f, n_int_i, n_int_b, n_int_s, n_abs, n_tup_r, n_lst_r, n_str_i, n_str_s, nn_non, nn_int, nn_str, nn_bl, nn_tup, nn_ref, tag_is_str, tag_is_int, tag_is_bl, tag_is_non, tag_is_tup, tag_is_ref, Option.some.injEq, reduceCtorEq, is_i_lt, is_i_l, is_i_t, is_i_b, is_i_i, is_i_s, is_s_lt, is_s_l, is_s_t, is_s_b, is_s_i, is_s_s, is_n_lt, is_n_l, is_n_t, is_n_b, is_n_i, is_n_s, is_t_lt, is_t_l, is_t_t, is_t_b, is_t_i, is_t_s, hl]
      refine go_lc ?_
      try simp -implicitDefEqProofs only [fs_nil, fs_cons, fmt_str, fmt_int, ev_var, ev_cint, ev_cstr, ev_cbl, ev_cnon, ev_gcon, ev_bop, ev_neg, ev_cmp, ev_isn, ev_nisn, ev_chain, ev_and, ev_or, ev_not, ev_ife, ev_tup, ev_lst, ev_ix, ev_sl, ev_call, ev_meth, ev_make, ev_attr, ev_bi, ev_bm, ev_isin, ev_fstr, evEs, evB, evT, evO, evI, puT, puTs, List.map, List.replicate, List.length, Nat.sub_self, List.append, List.cons_append, List.nil_append, List.getElem?_cons_zero, List.getElem?_cons_succ, must, Option.bind_some, Mi.ret, at5_0, at5_1, at5_2, at5_3, at5_4, ix5_1, ix5_2, ix5_3, ix5_4, List.set_cons_succ, List.set_cons_zero, runs_ok, runs_bind, runs_quiet, Then, after_rt, after_nx, Option.map_some, List.length_map, tgLen, if_true, if_false, eq_self, Bool.false_eq_true, reduceIte, bmTag, Bool.and_self, sz0, sz1, sz2, sz3, sz4, sz5, sz6, sz7, sz8, sz9, sz10, sz11, sz12, Int.reduceLE, Int.reduceLT, Int.reduceToNat, Int.reduceNe, Int.reduceEq, Int.reduceNeg, decide_true, decide_false, Bool.true_and, Bool.and_true, Bool.or_true, Bool.true_or, Bool.not_true, Bool.not_false, ne_eq, not_false_eq_true, Nat.reducePow, Int.reducePow, na10, int_d, jx5_1, jx5_2, jx5_3, jx5_4, b_add, b_sub, b_adds, b_addt, b_addl, b_mul, b_fdiv, b_mod, b_pow, c_eq, c_ne, c_in, c_nin, c_lt, c_le, c_gt, c_ge, e_ii, e_ss, e_bb, t_bl, t_int, t_non, t_str, t_ref, t_tup, s_ref, s_tup, s_fzl, l_ref, l_fzl, l_tup, i_ref, i_tup, i_fzl, i_str, put_ref, slq_fzl, slq_str, new_l, int_d, src_fzl, src_tup, src_str, src_ref, get_snoc, n_len_s, n_len_t, n_len_r, n_len_f, n_int_i, n_int_b, n_int_s, n_abs, n_tup_r, n_lst_r, n_str_i, n_str_s, nn_non, nn_int, nn_str, nn_bl, nn_tup, nn_ref, tag_is_str, tag_is_int, tag_is_bl, tag_is_non, tag_is_tup, tag_is_ref, Option.some.injEq, reduceCtorEq, show zipOf L (.tup xs) (.tup ys) = some (.zip (.val xs) (.val ys)) from rfl]
      refine (like_inner ih rfl hl hz (fun t => funext fun i => zip_val i) (by simp [Wk.len, Src.len, hl]) he).imp fun _ L2 ⟨t, e⟩ => ?_
      subst e
      rw [all_true (k := xs.length) (pre_keep get_snoc), runs_ok]
      exact ⟨rfl, _, List.append_assoc _ _ _⟩
    · rename_i a b
      obtain ⟨xs, ys, h1, h2, hl, hz, he⟩ := h
      try simp -implicitDefEqProofs only [fs_nil, fs_cons, fmt_str, fmt_int, ev_var, ev_cint, ev_cstr, ev_cbl, ev_cnon, ev_gcon, ev_bop, ev_neg, ev_cmp, ev_isn, ev_nisn, ev_chain, ev_and, ev_or, ev_not, ev_ife, ev_tup, ev_lst, ev_ix, ev_sl, ev_call, ev_meth, ev_make, ev_attr, ev_bi, ev_bm, ev_isin, ev_fstr, evEs, evB, evT, evO, evI, puT, puTs, List.map, List.replicate, List.length, Nat.sub_self, List.append, List.cons_append, List.nil_append, List.getElem?_cons_zero, List.getElem?_cons_succ, must, Option.bind_some, Mi.ret, at5_0, at5_1, at5_2, at5_3, at5_4, ix5_1, ix5_2, ix5_3, ix5_4, List.set_cons_succ, List.set_cons_zero, runs_ok, runs_bind, runs_quiet, Then, after_rt, after_nx, Option.map_some, List.length_map, tgLen, if_true, if_false, eq_self, Bool.false_eq_true, reduceIte, bmTag, Bool.and_self, sz0, sz1, sz2, sz3, sz4, sz5, sz6, sz7, sz8, sz9, sz10, sz11, sz12, Int.reduceLE, Int.reduceLT, Int.reduceToNat, Int.reduceNe, Int.reduceEq, Int.reduceNeg, decide_true, decide_false, Bool.true_and, Bool.and_true, Bool.or_true, Bool.true_or, Bool.not_true, Bool.not_false, ne_eq, not_false_eq_true, Nat.reducePow, Int.reducePow, na10, int_d, jx5_1, jx5_2, jx5_3, jx5_4, b_add, b_sub, b_adds, b_addt, b_addl, b_mul, b_fdiv, b_mod, b_pow, c_eq, c_ne, c_in, c_nin, c_lt, c_le, c_gt, c_ge, e_ii, e_ss, e_bb, t_bl, t_int, t_non, t_str, t_ref, t_tup, s_ref, s_tup, s_fzl, l_ref, l_fzl, l_tup, i_ref, i_tup, i_fzl, i_str, put_ref, slq_fzl, slq_str, new_l, int_d, src_fzl, src_tup, src_str, src_ref, get_snoc, n_len_s, n_len_t, n_len_r, n_len_f, n_int_i, n_int_b, n_int_s, n_abs, n_tup_r, n_lst_r, n_str_i, n_str_s, nn_non, nn_int, nn_str, nn_bl, nn_tup, nn_ref, tag_is_str, tag_is_int, tag_is_bl, tag_is_non, tag_is_tup, tag_is_ref, Option.some.injEq, reduceCtorEq, is_r_lt h2]
      refine go_cons (go_var ?_)
      try simp -implicitDefEqProofs only [fs_nil, fs_cons, fmt_str, fmt_int, ev_var, ev_cint, ev_cstr, ev_cbl, ev_cnon, ev_gcon, ev_bop, ev_neg, ev_cmp, ev_isn, ev_nisn, ev_chain, ev_and, ev_or, ev_not, ev_ife, ev_tup, ev_lst, ev_ix, ev_sl, ev_call, ev_meth, ev_make, ev_attr, ev_bi, ev_bm, ev_isin, ev_fstr, evEs, evB, evT, evO, evI, puT, puTs, List.map, List.replicate, List.length, Nat.sub_self, List.append, List.cons_append, List.nil_append, List.getElem?_cons_zero, List.getElem?_cons_succ, must, Option.bind_some, Mi.ret, at5_0, at5_1, at5_2, at5_3, at5_4, ix5_1, ix5_2, ix5_3, ix5_4, List.set_cons_succ, List.set_cons_zero, runs_ok, runs_bind, runs_quiet, Then, after_rt, after_nx, Option.map_some, List.length_map, tgLen, if_true, if_false, eq_self, Bool.false_eq_true, reduceIte, bmTag, Bool.and_self, sz0, sz1, sz2, sz3, sz4, sz5, sz6, sz7, sz8, sz9, sz10, sz11, sz12, Int.reduceLE, Int.reduceLT, Int.reduceToNat, Int.reduceNe, Int.reduceEq, Int.reduceNeg, decide_true, decide_false, Bool.true_and, Bool.and_true, Bool.or_true, Bool.true_or, Bool.not_true, Bool.not_false, ne_eq, not_false_eq_true, Nat.reducePow, Int.reducePow, na10, int_d, jx5_1, jx5_2, jx5_3, jx5_4, b_add, b_sub, b_adds, b_addt, b_addl, b_mul, b_fdiv, b_mod, b_pow, c_eq, c_ne, c_in, c_nin, c_lt, c_le, c_gt, c_ge, e_ii, e_ss, e_bb, t_bl, t_int, t_non, t_str, t_ref, t_tup, s_ref, s_tup, s_fzl, l_ref, l_fzl, l_tup, i_ref, i_tup, i_fzl, i_str, put_ref, slq_fzl, slq_str, new_l, int_d, src_fzl, src_tup, src_str, src_ref, get_snoc, n_len_s, n_len_t, n_len_r, n_len_f, n_int_i, n_int_b, n_int_s, n_abs, n_tup_r, n_lst_r, n_str_i, n_str_s, nn_non, nn_int, nn_str, nn_bl, nn_tup, nn_ref, tag_is_str, tag_is_int, tag_is_bl, tag_is_non, tag_is_tup, tag_is_ref, Option.some.injEq, reduceCtorEq, is_r_l h1, is_r_l h2, is_r_t h1, is_r_t h2]
      refine go_cons (go_ret ?_)
      try simp -implicitDefEqProofs only [fs_nil, fs_cons, fmt_str, fmt_int, ev_var, ev_cint, ev_cstr, ev_cbl, ev_cnon, ev_gcon, ev_bop, ev_neg, ev_cmp, ev_isn, ev_nisn, ev_chain, ev_and, ev_or, ev_not, ev_ife, ev_tup, ev_lst, ev_ix, ev_sl, ev_call, ev_meth, ev_make, ev_attr, ev_bi, ev_bm, ev_isin, ev_fstr, evEs, evB, evT, evO, evI, puT, puTs, List.map, List.replicate, List.length, Nat.sub_self, List.append, List.cons_append, List.nil_append, List.getElem?_cons_zero, List.getElem?_cons_succ, must, Option.bind_some, Mi.ret, at5_0, at5_1, at5_2, at5_3, at5_4, ix5_1, ix5_2, ix5_3, ix5_4, List.set_cons_succ, List.set_cons_zero, runs_ok, runs_bind, runs_quiet, Then, after_rt, after_nx, Option.map_some, List.length_map, tgLen, if_true, if_false, eq_self, Bool.false_eq_true, reduceIte, bmTag, Bool.and_self, sz0, sz1, sz2, sz3, sz4, sz5, sz6, sz7, sz8, sz9, sz10, sz11, sz12, Int.reduceLE, Int.reduceLT, Int.reduceToNat, Int.reduceNe, Int.reduceEq, Int.reduceNeg, decide_true, decide_false, Bool.true_and, Bool.and_true, Bool.or_true, Bool.true_or, Bool.not_true, Bool.not_false, ne_eq, not_false_eq_true, Nat.reducePow, Int.reducePow, na10, int_d, jx5_1, jx5_2, jx5_3, jx5_4, b_add, b_sub, b_adds, b_addt, b_addl, b_mul, b_fdiv, b_mod, b_pow, c_eq, c_ne, c_in, c_nin, c_lt, c_le, c_gt, c_ge, e_ii, e_ss, e_bb, t_bl, t_int, t_non, t_str, t_ref, t_tup, s_ref, s_tup, s_fzl, l_ref, l_fzl, l_tup, i_ref, i_tup, i_fzl, i_str, put_ref, slq_fzl, slq_str, new_l, int_d, src_fzl, src_tup, src_str, src_ref, get_snoc, n_len_s, n_len_t, n_len_r, n_len_f, n_int_i, n_int_b, n_int_s, n_abs, n_tup_r, n_lst_r, n_str_i, n_str_s, nn_non, nn_int, nn_str, nn_bl, nn_tup, nn_ref, tag_is_str, tag_is_int, tag_is_bl, tag_is_non, tag_is_tup, tag_is_ref, Option.some.injEq, reduceCtorEq, h1, h2, hl]
      refine go_lc ?_
      have hz' : zipOf L (.ref a) (.ref b) = some (.zip (.lst a) (.lst b)) := by simp only [zipOf, listD, srcOf, h1, h2, Option.bind_some, Option.map_some]
      try simp -implicitDefEqProofs only [fs_nil, fs_cons, fmt_str, fmt_int, ev_var, ev_cint, ev_cstr, ev_cbl, ev_cnon, ev_gcon, ev_bop, ev_neg, ev_cmp, ev_isn, ev_nisn, ev_chain, ev_and, ev_or, ev_not, ev_ife, ev_tup, ev_lst, ev_ix, ev_sl, ev_call, ev_meth, ev_make, ev_attr, ev_bi, ev_bm, ev_isin, ev_fstr, evEs, evB, evT, evO, evI, puT, puTs, List.map, List.replicate, List.length, Nat.sub_self, List.append, List.cons_append, List.nil_append, List.getElem?_cons_zero, List.getElem?_cons_succ, must, Option.bind_some, Mi.ret, at5_0, at5_1, at5_2, at5_3, at5_4, ix5_1, ix5_2, ix5_3, ix5_4, List.set_cons_succ, List.set_cons_zero, runs_ok, runs_bind, runs_quiet, Then, after_rt, after_nx, Option.map_some, List.length_map, tgLen, if_true, if_false, eq_self, Bool.false_eq_true, reduceIte, bmTag, Bool.and_self, sz0, sz1, sz2, sz3, sz4, sz5, sz6, sz7, sz8, sz9, sz10, sz11, sz12, Int.reduceLE, Int.reduceLT, Int.reduceToNat, Int.reduceNe, Int.reduceEq, Int.reduceNeg, decide_true, decide_false, Bool.true_and, Bool.and_true, Bool.or_true, Bool.true_or, Bool.not_true, Bool.not_false, ne_eq, not_false_eq_true, Nat.reducePow, Int.reducePow, na10, int_d, jx5_1, jx5_2, jx5_3, jx5_4, b_add, b_sub, b_adds, b_addt, b_addl, b_mul, b_fdiv, b_mod, b_pow, c_eq, c_ne, c_in, c_nin, c_lt, c_le, c_gt, c_ge, e_ii, e_ss, e_bb, t_bl, t_int, t_non, t_str, t_ref, t_tup, s_ref, s_tup, s_fzl, l_ref, l_fzl, l_tup, i_ref, i_tup, i_fzl, i_str, put_ref, slq_fzl, slq_str, new_l, int_d, src_fzl, src_tup, src_str, src_ref, get_snoc, n_len_s, n_len_t, n_len_r, n_len_f, n_int_i, n_int_b, n_int_s, n_abs, n_tup_r, n_lst_r, n_str_i, n_str_s, nn_non, nn_int, nn_str, nn_bl, nn_tup, nn_ref, tag_is_str, tag_is_int, tag_is_bl, tag_is_non, tag_is_tup, tag_is_ref, Option.some.injEq, reduceCtorEq, hz']
      refine (like_inner ih rfl hl hz (fun t => funext fun i => zip_lst (pre_keep h1) (pre_keep h2) i) (by simp [Wk.len, Src.len, pre_keep h1, pre_keep h2, hl]) he).imp fun _ L2 ⟨t, e⟩ => ?_
      subst e
      rw [all_true (k := xs.length) (pre_keep get_snoc), runs_ok]
      exact ⟨rfl, _, List.append_assoc _ _ _⟩
end
end Row
end

section
set_option Elab.async false
set_option linter.all false
set_option maxRecDepth 100000
set_option maxHeartbeats 4000000
namespace Row
open PySem PySem.Spec L2 Mi
section
variable {n : Nat} {L L' : MH} {b c : Nat} {C : Nat → List D → M D}
theorem Bag.ltb (h : Bag L b c) : b < L.length := by
  obtain ⟨is, i, cur, seed, cnt, hbc, hb, hc, r⟩ := h
  exact (List.getElem?_eq_some_iff.mp hb).1
theorem Bag.ltc (h : Bag L b c) : c < L.length := by
  obtain ⟨is, i, cur, seed, cnt, hbc, hb, hc, r⟩ := h
  exact (List.getElem?_eq_some_iff.mp hc).1
/-- turns that only lay new things -/
theorem lc_map {elt : Mi.Loc → M D} {test : Mi.Loc → M Bool} {put : D → Mi.Loc → M Mi.Loc} {w : Wk} {ρ : Mi.Loc} {xs : List D} (f : D → D) (htest : ∀ ρ L, test ρ L = .ok true L) (hz : xs.length < 16777216) (hat : ∀ (u : MH) (i : Nat), w.at (L ++ u) i = some xs[i]?) (hn : w.len (L ++ [.lst []]) = xs.length)
    (step : ∀ x ∈ xs, ∀ u : MH, Runs (put x ρ (L ++ u)) fun ρ1 L2 => Runs (elt ρ1 L2) fun d L3 => d = f x ∧ ∃ v, L3 = L ++ u ++ v) :
    Runs (lcL elt test put w L.length ρ (w.len (L ++ [.lst []])) 0 (L ++ [.lst []])) fun _ L2 => ∃ u, L2 = L ++ [.lst (xs.map f)] ++ u := by
  refine lc_run (xs := xs) (fun i acc L1 => acc = (xs.take i).map f ∧ i ≤ xs.length ∧ ∃ u, L1 = L ++ [.lst acc] ++ u) ?hat ?step ?fin _ 0 [] _ (Nat.zero_le _) (by rw [hn]; omega) ⟨by simp, Nat.zero_le _, [], (List.append_nil _).symm⟩
  case hat =>
    intro i acc L1 ⟨_, _, u, e⟩
    rw [e, List.append_assoc]
    exact hat _ _
  case fin =>
    intro acc L1 ⟨e1, _, u, e⟩
    rw [List.take_length] at e1
    exact ⟨u, by rw [e, e1]⟩
  case step =>
    intro i x acc L1 e1 ⟨e2, e3, u, e4⟩
    have hi := (List.getElem?_eq_some_iff.mp e1).1
    rw [e4, List.append_assoc]
    refine (step x (List.mem_of_getElem? e1) _).imp fun ρ1 L2 h1 => ?_
    simp only [htest, runs_ok, if_true]
    refine h1.imp fun d L3 ⟨h2, v, h3⟩ => ?_
    refine ⟨?_, ?_, ?_, hi, u ++ v, ?_⟩
    · rw [h3]
      simp
    · rw [e2, List.length_map, List.length_take]
      omega
    · rw [e2, h2]
      have : xs.take (i + 1) = xs.take i ++ [x] := by
        rw [List.take_succ, e1]
        rfl
      rw [this, List.map_append]
      rfl
    · rw [h3]
      simp [List.set_append]
/-- turns that draw -/
theorem lc_draw {elt : Mi.Loc → M D} {test : Mi.Loc → M Bool} {put : D → Mi.Loc → M Mi.Loc} {w : Wk} {ρ : Mi.Loc} {xs : List D} {P : D → Prop} (h : Bag L b c) (htest : ∀ ρ L, test ρ L = .ok true L) (hz : xs.length < 16777216) (hat : ∀ L1, Step b c L L1 → ∀ i, w.at L1 i = some xs[i]?) (hn : w.len (L ++ [.lst []]) = xs.length)
    (step : ∀ x ∈ xs, ∀ L1, Step b c L L1 → Runs (put x ρ L1) fun ρ1 L2 => Runs (elt ρ1 L2) fun d L3 => P d ∧ Step b c L1 L3) :
    Runs (lcL elt test put w L.length ρ (w.len (L ++ [.lst []])) 0 (L ++ [.lst []])) fun _ L2 => ∃ acc, acc.length = xs.length ∧ (∀ d ∈ acc, P d) ∧ L2[L.length]? = some (.lst acc) ∧ Step b c L L2 := by
  have hb := h.ltb
  have hc := h.ltc
  refine lc_run (xs := xs) (fun i acc L1 => acc.length = i ∧ i ≤ xs.length ∧ (∀ d ∈ acc, P d) ∧ L1[L.length]? = some (.lst acc) ∧ Step b c L L1) ?hat ?step ?fin _ 0 [] _ (Nat.zero_le _) (by rw [hn]; omega) ⟨rfl, Nat.zero_le _, fun d hd => by (cases hd), get_snoc, Step.alloc h⟩
  case hat =>
    intro i acc L1 ⟨_, _, _, _, st⟩
    exact hat _ st i
  case fin =>
    intro acc L1 ⟨e1, _, e2, e3, st⟩
    exact ⟨acc, e1, e2, e3, st⟩
  case step =>
    intro i x acc L1 e1 ⟨e2, e3, e4, e5, st⟩
    have hi := (List.getElem?_eq_some_iff.mp e1).1
    refine (step x (List.mem_of_getElem? e1) L1 st).imp fun ρ1 L2 h1 => ?_
    simp only [htest, runs_ok, if_true]
    refine h1.imp fun d L3 ⟨h2, st2⟩ => ?_
    have e6 := st2.get (by omega) e5
    have st3 := st.trans st2
    refine ⟨e6, by omega, by rw [List.length_append, e2]; rfl, hi, fun d' hd => ?_, ?_, ?_⟩
    · rcases List.mem_append.mp hd with hd | hd
      · exact e4 d' hd
      · rw [List.mem_singleton.mp hd]
        exact h2
    · exact List.getElem?_set_self (List.getElem?_eq_some_iff.mp e6).1
    · obtain ⟨is, i', cur, seed, cnt, g1, g2, g3, r⟩ := st3.bag
      refine ⟨⟨is, i', cur, seed, cnt, g1, by rw [List.getElem?_set_ne (by omega)]; exact g2, by rw [List.getElem?_set_ne (by omega)]; exact g3, r⟩, by rw [List.length_set]; exact st3.len, fun a ha hl => ?_⟩
      rw [List.getElem?_set_ne (by omega)]
      exact st3.keep a ha hl
theorem rng_dr {k : Int} {L : MH} : Wk.len L (.rng 0 k.toNat) = (rngL 0 k.toNat).length := by rw [rngL_len]; rfl
end
end Row
end

section
set_option Elab.async false
set_option linter.all false
set_option maxRecDepth 100000
set_option maxHeartbeats 4000000
namespace Row
open PySem PySem.Spec L2 Mi SX
section
variable {n : Nat} {L L' : MH} {b c : Nat} {C : Nat → List D → M D}
def big : Int := 10 ^ 60
def Far (d : D) : Prop := ∃ z, d = .int z ∧ -big < z ∧ z < big
theorem far_spec (h : Bag L b c) : Runs (callN R.T wf (n + 3) f__law_far [.ref b] L) fun d L' => Far d ∧ Step b c L L' := by
  refine go_def (fd := fd__law_far) rfl rfl ?_
  simp only [fd__law_far, ir__law_far]
  refine go_cons (go_var ?_)
  try simp -implicitDefEqProofs only [fs_nil, fs_cons, fmt_str, fmt_int, ev_var, ev_cint, ev_cstr, ev_cbl, ev_cnon, ev_gcon, ev_bop, ev_neg, ev_cmp, ev_isn, ev_nisn, ev_chain, ev_and, ev_or, ev_not, ev_ife, ev_tup, ev_lst, ev_ix, ev_sl, ev_call, ev_meth, ev_make, ev_attr, ev_bi, ev_bm, ev_isin, ev_fstr, evEs, evB, evT, evO, evI, puT, puTs, List.map, List.replicate, List.length, Nat.sub_self, List.append, List.cons_append, List.nil_append, List.getElem?_cons_zero, List.getElem?_cons_succ, must, Option.bind_some, Mi.ret, at5_0, at5_1, at5_2, at5_3, at5_4, ix5_1, ix5_2, ix5_3, ix5_4, List.set_cons_succ, List.set_cons_zero, runs_ok, runs_bind, runs_quiet, Then, after_rt, after_nx, Option.map_some, List.length_map, tgLen, if_true, if_false, eq_self, Bool.false_eq_true, reduceIte, bmTag, Bool.and_self, sz0, sz1, sz2, sz3, sz4, sz5, sz6, sz7, sz8, sz9, sz10, sz11, sz12, Int.reduceLE, Int.reduceLT, Int.reduceToNat, Int.reduceNe, Int.reduceEq, Int.reduceNeg, decide_true, decide_false, Bool.true_and, Bool.and_true, Bool.or_true, Bool.true_or, Bool.not_true, Bool.not_false, ne_eq, not_false_eq_true, Nat.reducePow, Int.reducePow, na10, int_d, jx5_1, jx5_2, jx5_3, jx5_4, b_add, b_sub, b_adds, b_addt, b_addl, b_mul, b_fdiv, b_mod, b_pow, c_eq, c_ne, c_in, c_nin, c_lt, c_le, c_gt, c_ge, e_ii, e_ss, e_bb, t_bl, t_int, t_non, t_str, t_ref, t_tup, s_ref, s_tup, s_fzl, l_ref, l_fzl, l_tup, i_ref, i_tup, i_fzl, i_str, put_ref, slq_fzl, slq_str, new_l, int_d, src_fzl, src_tup, src_str, src_ref, get_snoc, n_len_s, n_len_t, n_len_r, n_len_f, n_int_i, n_int_b, n_int_s, n_abs, n_tup_r, n_lst_r, n_str_i, n_str_s, nn_non, nn_int, nn_str, nn_bl, nn_tup, nn_ref, tag_is_str, tag_is_int, tag_is_bl, tag_is_non, tag_is_tup, tag_is_ref, Option.some.injEq, reduceCtorEq, cl_is_name, cl_value_text, cl_history_text, cl_read_integer, cl_read_value, cl_read_history, cl__law_draws, cl__law_pull, cl__law_any, cl__law_like, cl__law_reserved, cl__law_new_names, cl__law_far, cl__law_far_value, cl__law_value_text, cl__law_history_text, cl_law]
  refine (pull_spec (n := n + 1) 1000000000 (by decide) (by decide) h).imp fun d L1 ⟨⟨r, e1, e2, e3⟩, st⟩ => ?_
  subst e1
  refine go_cons (go_ret ?_)
  try simp -implicitDefEqProofs only [fs_nil, fs_cons, fmt_str, fmt_int, ev_var, ev_cint, ev_cstr, ev_cbl, ev_cnon, ev_gcon, ev_bop, ev_neg, ev_cmp, ev_isn, ev_nisn, ev_chain, ev_and, ev_or, ev_not, ev_ife, ev_tup, ev_lst, ev_ix, ev_sl, ev_call, ev_meth, ev_make, ev_attr, ev_bi, ev_bm, ev_isin, ev_fstr, evEs, evB, evT, evO, evI, puT, puTs, List.map, List.replicate, List.length, Nat.sub_self, List.append, List.cons_append, List.nil_append, List.getElem?_cons_zero, List.getElem?_cons_succ, must, Option.bind_some, Mi.ret, at5_0, at5_1, at5_2, at5_3, at5_4, ix5_1, ix5_2, ix5_3, ix5_4, List.set_cons_succ, List.set_cons_zero, runs_ok, runs_bind, runs_quiet, Then, after_rt, after_nx, Option.map_some, List.length_map, tgLen, if_true, if_false, eq_self, Bool.false_eq_true, reduceIte, bmTag, Bool.and_self, sz0, sz1, sz2, sz3, sz4, sz5, sz6, sz7, sz8, sz9, sz10, sz11, sz12, Int.reduceLE, Int.reduceLT, Int.reduceToNat, Int.reduceNe, Int.reduceEq, Int.reduceNeg, decide_true, decide_false, Bool.true_and, Bool.and_true, Bool.or_true, Bool.true_or, Bool.not_true, Bool.not_false, ne_eq, not_false_eq_true, Nat.reducePow, Int.reducePow, na10, int_d, jx5_1, jx5_2, jx5_3, jx5_4, b_add, b_sub, b_adds, b_addt, b_addl, b_mul, b_fdiv, b_mod, b_pow, c_eq, c_ne, c_in, c_nin, c_lt, c_le, c_gt, c_ge, e_ii, e_ss, e_bb, t_bl, t_int, t_non, t_str, t_ref, t_tup, s_ref, s_tup, s_fzl, l_ref, l_fzl, l_tup, i_ref, i_tup, i_fzl, i_str, put_ref, slq_fzl, slq_str, new_l, int_d, src_fzl, src_tup, src_str, src_ref, get_snoc, n_len_s, n_len_t, n_len_r, n_len_f, n_int_i, n_int_b, n_int_s, n_abs, n_tup_r, n_lst_r, n_str_i, n_str_s, nn_non, nn_int, nn_str, nn_bl, nn_tup, nn_ref, tag_is_str, tag_is_int, tag_is_bl, tag_is_non, tag_is_tup, tag_is_ref, Option.some.injEq, reduceCtorEq, cl_is_name, cl_value_text, cl_history_text, cl_read_integer, cl_read_value, cl_read_history, cl__law_draws, cl__law_pull, cl__law_any, cl__law_like, cl__law_reserved, cl__law_new_names, cl__law_far, cl__law_far_value, cl__law_value_text, cl__law_history_text, cl_law, negD]
  refine (pull_spec (n := n + 1) 9 (by decide) (by decide) st.bag).imp fun d L2 ⟨⟨r2, e4, e5, e6⟩, st2⟩ => ?_
  subst e4
  try simp -implicitDefEqProofs only [fs_nil, fs_cons, fmt_str, fmt_int, ev_var, ev_cint, ev_cstr, ev_cbl, ev_cnon, ev_gcon, ev_bop, ev_neg, ev_cmp, ev_isn, ev_nisn, ev_chain, ev_and, ev_or, ev_not, ev_ife, ev_tup, ev_lst, ev_ix, ev_sl, ev_call, ev_meth, ev_make, ev_attr, ev_bi, ev_bm, ev_isin, ev_fstr, evEs, evB, evT, evO, evI, puT, puTs, List.map, List.replicate, List.length, Nat.sub_self, List.append, List.cons_append, List.nil_append, List.getElem?_cons_zero, List.getElem?_cons_succ, must, Option.bind_some, Mi.ret, at5_0, at5_1, at5_2, at5_3, at5_4, ix5_1, ix5_2, ix5_3, ix5_4, List.set_cons_succ, List.set_cons_zero, runs_ok, runs_bind, runs_quiet, Then, after_rt, after_nx, Option.map_some, List.length_map, tgLen, if_true, if_false, eq_self, Bool.false_eq_true, reduceIte, bmTag, Bool.and_self, sz0, sz1, sz2, sz3, sz4, sz5, sz6, sz7, sz8, sz9, sz10, sz11, sz12, Int.reduceLE, Int.reduceLT, Int.reduceToNat, Int.reduceNe, Int.reduceEq, Int.reduceNeg, decide_true, decide_false, Bool.true_and, Bool.and_true, Bool.or_true, Bool.true_or, Bool.not_true, Bool.not_false, ne_eq, not_false_eq_true, Nat.reducePow, Int.reducePow, na10, int_d, jx5_1, jx5_2, jx5_3, jx5_4, b_add, b_sub, b_adds, b_addt, b_addl, b_mul, b_fdiv, b_mod, b_pow, c_eq, c_ne, c_in, c_nin, c_lt, c_le, c_gt, c_ge, e_ii, e_ss, e_bb, t_bl, t_int, t_non, t_str, t_ref, t_tup, s_ref, s_tup, s_fzl, l_ref, l_fzl, l_tup, i_ref, i_tup, i_fzl, i_str, put_ref, slq_fzl, slq_str, new_l, int_d, src_fzl, src_tup, src_str, src_ref, get_snoc, n_len_s, n_len_t, n_len_r, n_len_f, n_int_i, n_int_b, n_int_s, n_abs, n_tup_r, n_lst_r, n_str_i, n_str_s, nn_non, nn_int, nn_str, nn_bl, nn_tup, nn_ref, tag_is_str, tag_is_int, tag_is_bl, tag_is_non, tag_is_tup, tag_is_ref, Option.some.injEq, reduceCtorEq, negD]
  have b2 := st2.bag
  refine (any_list (n := n) (L := L2 ++ [_]) (Step.alloc b2).bag (Nat.ne_of_gt b2.ltb) get_snoc (by simp) (by simp)).imp fun d L3 ⟨hm, st3⟩ => ⟨?_, st.trans (st2.trans ((Step.alloc b2).trans st3))⟩
  unfold Far big
  simp only [List.mem_cons, List.not_mem_nil, or_false] at hm
  rcases hm with rfl | rfl | rfl | rfl | rfl | rfl | rfl | rfl
  all_goals exact ⟨_, rfl, by omega, by omega⟩
/-- a drawn value -/
def FarV (d : D) : Prop := Far d ∨ ∃ (z : Int) (ds : List D), d = .tup [.int z, .tup ds] ∧ 0 ≤ z ∧ z < big ∧ ds.length ≤ 2 ∧ ∀ x ∈ ds, Far x
theorem small_of {r : Int} (h0 : 0 ≤ r) (h1 : r < 1000) : smallI r = true := by
  unfold smallI
  simp only [Bool.and_eq_true, decide_eq_true_eq]
  omega
theorem far_value_spec (h : Bag L b c) : Runs (callN R.T wf (n + 4) f__law_far_value [.ref b] L) fun d L' => FarV d ∧ Step b c L L' := by
  refine go_def (fd := fd__law_far_value) rfl rfl ?_
  simp only [fd__law_far_value, ir__law_far_value]
  refine go_cons (go_if ?_)
  try simp -implicitDefEqProofs only [fs_nil, fs_cons, fmt_str, fmt_int, ev_var, ev_cint, ev_cstr, ev_cbl, ev_cnon, ev_gcon, ev_bop, ev_neg, ev_cmp, ev_isn, ev_nisn, ev_chain, ev_and, ev_or, ev_not, ev_ife, ev_tup, ev_lst, ev_ix, ev_sl, ev_call, ev_meth, ev_make, ev_attr, ev_bi, ev_bm, ev_isin, ev_fstr, evEs, evB, evT, evO, evI, puT, puTs, List.map, List.replicate, List.length, Nat.sub_self, List.append, List.cons_append, List.nil_append, List.getElem?_cons_zero, List.getElem?_cons_succ, must, Option.bind_some, Mi.ret, at5_0, at5_1, at5_2, at5_3, at5_4, ix5_1, ix5_2, ix5_3, ix5_4, List.set_cons_succ, List.set_cons_zero, runs_ok, runs_bind, runs_quiet, Then, after_rt, after_nx, Option.map_some, List.length_map, tgLen, if_true, if_false, eq_self, Bool.false_eq_true, reduceIte, bmTag, Bool.and_self, sz0, sz1, sz2, sz3, sz4, sz5, sz6, sz7, sz8, sz9, sz10, sz11, sz12, Int.reduceLE, Int.reduceLT, Int.reduceToNat, Int.reduceNe, Int.reduceEq, Int.reduceNeg, decide_true, decide_false, Bool.true_and, Bool.and_true, Bool.or_true, Bool.true_or, Bool.not_true, Bool.not_false, ne_eq, not_false_eq_true, Nat.reducePow, Int.reducePow, na10, int_d, jx5_1, jx5_2, jx5_3, jx5_4, b_add, b_sub, b_adds, b_addt, b_addl, b_mul, b_fdiv, b_mod, b_pow, c_eq, c_ne, c_in, c_nin, c_lt, c_le, c_gt, c_ge, e_ii, e_ss, e_bb, t_bl, t_int, t_non, t_str, t_ref, t_tup, s_ref, s_tup, s_fzl, l_ref, l_fzl, l_tup, i_ref, i_tup, i_fzl, i_str, put_ref, slq_fzl, slq_str, new_l, int_d, src_fzl, src_tup, src_str, src_ref, get_snoc, n_len_s, n_len_t, n_len_r, n_len_f, n_int_i, n_int_b, n_int_s, n_abs, n_tup_r, n_lst_r, n_str_i, n_str_s, nn_non, nn_int, nn_str, nn_bl, nn_tup, nn_ref, tag_is_str, tag_is_int, tag_is_bl, tag_is_non, tag_is_tup, tag_is_ref, Option.some.injEq, reduceCtorEq, cl_is_name, cl_value_text, cl_history_text, cl_read_integer, cl_read_value, cl_read_history, cl__law_draws, cl__law_pull, cl__law_any, cl__law_like, cl__law_reserved, cl__law_new_names, cl__law_far, cl__law_far_value, cl__law_value_text, cl__law_history_text, cl_law]
  refine (pull_spec (n := n + 2) 2 (by decide) (by decide) h).imp fun d L1 ⟨⟨r, e1, e2, e3⟩, st⟩ => ?_
  subst e1
  by_cases hr : r = 0
  · try simp -implicitDefEqProofs only [fs_nil, fs_cons, fmt_str, fmt_int, ev_var, ev_cint, ev_cstr, ev_cbl, ev_cnon, ev_gcon, ev_bop, ev_neg, ev_cmp, ev_isn, ev_nisn, ev_chain, ev_and, ev_or, ev_not, ev_ife, ev_tup, ev_lst, ev_ix, ev_sl, ev_call, ev_meth, ev_make, ev_attr, ev_bi, ev_bm, ev_isin, ev_fstr, evEs, evB, evT, evO, evI, puT, puTs, List.map, List.replicate, List.length, Nat.sub_self, List.append, List.cons_append, List.nil_append, List.getElem?_cons_zero, List.getElem?_cons_succ, must, Option.bind_some, Mi.ret, at5_0, at5_1, at5_2, at5_3, at5_4, ix5_1, ix5_2, ix5_3, ix5_4, List.set_cons_succ, List.set_cons_zero, runs_ok, runs_bind, runs_quiet, Then, after_rt, after_nx, Option.map_some, List.length_map, tgLen, if_true, if_false, eq_self, Bool.false_eq_true, reduceIte, bmTag, Bool.and_self, sz0, sz1, sz2, sz3, sz4, sz5, sz6, sz7, sz8, sz9, sz10, sz11, sz12, Int.reduceLE, Int.reduceLT, Int.reduceToNat, Int.reduceNe, Int.reduceEq, Int.reduceNeg, decide_true, decide_false, Bool.true_and, Bool.and_true, Bool.or_true, Bool.true_or, Bool.not_true, Bool.not_false, ne_eq, not_false_eq_true, Nat.reducePow, Int.reducePow, na10, int_d, jx5_1, jx5_2, jx5_3, jx5_4, b_add, b_sub, b_adds, b_addt, b_addl, b_mul, b_fdiv, b_mod, b_pow, c_eq, c_ne, c_in, c_nin, c_lt, c_le, c_gt, c_ge, e_ii, e_ss, e_bb, t_bl, t_int, t_non, t_str, t_ref, t_tup, s_ref, s_tup, s_fzl, l_ref, l_fzl, l_tup, i_ref, i_tup, i_fzl, i_str, put_ref, slq_fzl, slq_str, new_l, int_d, src_fzl, src_tup, src_str, src_ref, get_snoc, n_len_s, n_len_t, n_len_r, n_len_f, n_int_i, n_int_b, n_int_s, n_abs, n_tup_r, n_lst_r, n_str_i, n_str_s, nn_non, nn_int, nn_str, nn_bl, nn_tup, nn_ref, tag_is_str, tag_is_int, tag_is_bl, tag_is_non, tag_is_tup, tag_is_ref, Option.some.injEq, reduceCtorEq, decide_eq_true hr]
    refine go_cons (go_ret ?_)
    try simp -implicitDefEqProofs only [fs_nil, fs_cons, fmt_str, fmt_int, ev_var, ev_cint, ev_cstr, ev_cbl, ev_cnon, ev_gcon, ev_bop, ev_neg, ev_cmp, ev_isn, ev_nisn, ev_chain, ev_and, ev_or, ev_not, ev_ife, ev_tup, ev_lst, ev_ix, ev_sl, ev_call, ev_meth, ev_make, ev_attr, ev_bi, ev_bm, ev_isin, ev_fstr, evEs, evB, evT, evO, evI, puT, puTs, List.map, List.replicate, List.length, Nat.sub_self, List.append, List.cons_append, List.nil_append, List.getElem?_cons_zero, List.getElem?_cons_succ, must, Option.bind_some, Mi.ret, at5_0, at5_1, at5_2, at5_3, at5_4, ix5_1, ix5_2, ix5_3, ix5_4, List.set_cons_succ, List.set_cons_zero, runs_ok, runs_bind, runs_quiet, Then, after_rt, after_nx, Option.map_some, List.length_map, tgLen, if_true, if_false, eq_self, Bool.false_eq_true, reduceIte, bmTag, Bool.and_self, sz0, sz1, sz2, sz3, sz4, sz5, sz6, sz7, sz8, sz9, sz10, sz11, sz12, Int.reduceLE, Int.reduceLT, Int.reduceToNat, Int.reduceNe, Int.reduceEq, Int.reduceNeg, decide_true, decide_false, Bool.true_and, Bool.and_true, Bool.or_true, Bool.true_or, Bool.not_true, Bool.not_false, ne_eq, not_false_eq_true, Nat.reducePow, Int.reducePow, na10, int_d, jx5_1, jx5_2, jx5_3, jx5_4, b_add, b_sub, b_adds, b_addt, b_addl, b_mul, b_fdiv, b_mod, b_pow, c_eq, c_ne, c_in, c_nin, c_lt, c_le, c_gt, c_ge, e_ii, e_ss, e_bb, t_bl, t_int, t_non, t_str, t_ref, t_tup, s_ref, s_tup, s_fzl, l_ref, l_fzl, l_tup, i_ref, i_tup, i_fzl, i_str, put_ref, slq_fzl, slq_str, new_l, int_d, src_fzl, src_tup, src_str, src_ref, get_snoc, n_len_s, n_len_t, n_len_r, n_len_f, n_int_i, n_int_b, n_int_s, n_abs, n_tup_r, n_lst_r, n_str_i, n_str_s, nn_non, nn_int, nn_str, nn_bl, nn_tup, nn_ref, tag_is_str, tag_is_int, tag_is_bl, tag_is_non, tag_is_tup, tag_is_ref, Option.some.injEq, reduceCtorEq, cl_is_name, cl_value_text, cl_history_text, cl_read_integer, cl_read_value, cl_read_history, cl__law_draws, cl__law_pull, cl__law_any, cl__law_like, cl__law_reserved, cl__law_new_names, cl__law_far, cl__law_far_value, cl__law_value_text, cl__law_history_text, cl_law]
    exact (far_spec (n := n) st.bag).imp fun d L2 ⟨h1, st2⟩ => ⟨.inl h1, st.trans st2⟩
  · try simp -implicitDefEqProofs only [fs_nil, fs_cons, fmt_str, fmt_int, ev_var, ev_cint, ev_cstr, ev_cbl, ev_cnon, ev_gcon, ev_bop, ev_neg, ev_cmp, ev_isn, ev_nisn, ev_chain, ev_and, ev_or, ev_not, ev_ife, ev_tup, ev_lst, ev_ix, ev_sl, ev_call, ev_meth, ev_make, ev_attr, ev_bi, ev_bm, ev_isin, ev_fstr, evEs, evB, evT, evO, evI, puT, puTs, List.map, List.replicate, List.length, Nat.sub_self, List.append, List.cons_append, List.nil_append, List.getElem?_cons_zero, List.getElem?_cons_succ, must, Option.bind_some, Mi.ret, at5_0, at5_1, at5_2, at5_3, at5_4, ix5_1, ix5_2, ix5_3, ix5_4, List.set_cons_succ, List.set_cons_zero, runs_ok, runs_bind, runs_quiet, Then, after_rt, after_nx, Option.map_some, List.length_map, tgLen, if_true, if_false, eq_self, Bool.false_eq_true, reduceIte, bmTag, Bool.and_self, sz0, sz1, sz2, sz3, sz4, sz5, sz6, sz7, sz8, sz9, sz10, sz11, sz12, Int.reduceLE, Int.reduceLT, Int.reduceToNat, Int.reduceNe, Int.reduceEq, Int.reduceNeg, decide_true, decide_false, Bool.true_and, Bool.and_true, Bool.or_true, Bool.true_or, Bool.not_true, Bool.not_false, ne_eq, not_false_eq_true, Nat.reducePow, Int.reducePow, na10, int_d, jx5_1, jx5_2, jx5_3, jx5_4, b_add, b_sub, b_adds, b_addt, b_addl, b_mul, b_fdiv, b_mod, b_pow, c_eq, c_ne, c_in, c_nin, c_lt, c_le, c_gt, c_ge, e_ii, e_ss, e_bb, t_bl, t_int, t_non, t_str, t_ref, t_tup, s_ref, s_tup, s_fzl, l_ref, l_fzl, l_tup, i_ref, i_tup, i_fzl, i_str, put_ref, slq_fzl, slq_str, new_l, int_d, src_fzl, src_tup, src_str, src_ref, get_snoc, n_len_s, n_len_t, n_len_r, n_len_f, n_int_i, n_int_b, n_int_s, n_abs, n_tup_r, n_lst_r, n_str_i, n_str_s, nn_non, nn_int, nn_str, nn_bl, nn_tup, nn_ref, tag_is_str, tag_is_int, tag_is_bl, tag_is_non, tag_is_tup, tag_is_ref, Option.some.injEq, reduceCtorEq, decide_eq_false hr]
    refine go_nilT (go_cons (go_ret ?_))
    try simp -implicitDefEqProofs only [fs_nil, fs_cons, fmt_str, fmt_int, ev_var, ev_cint, ev_cstr, ev_cbl, ev_cnon, ev_gcon, ev_bop, ev_neg, ev_cmp, ev_isn, ev_nisn, ev_chain, ev_and, ev_or, ev_not, ev_ife, ev_tup, ev_lst, ev_ix, ev_sl, ev_call, ev_meth, ev_make, ev_attr, ev_bi, ev_bm, ev_isin, ev_fstr, evEs, evB, evT, evO, evI, puT, puTs, List.map, List.replicate, List.length, Nat.sub_self, List.append, List.cons_append, List.nil_append, List.getElem?_cons_zero, List.getElem?_cons_succ, must, Option.bind_some, Mi.ret, at5_0, at5_1, at5_2, at5_3, at5_4, ix5_1, ix5_2, ix5_3, ix5_4, List.set_cons_succ, List.set_cons_zero, runs_ok, runs_bind, runs_quiet, Then, after_rt, after_nx, Option.map_some, List.length_map, tgLen, if_true, if_false, eq_self, Bool.false_eq_true, reduceIte, bmTag, Bool.and_self, sz0, sz1, sz2, sz3, sz4, sz5, sz6, sz7, sz8, sz9, sz10, sz11, sz12, Int.reduceLE, Int.reduceLT, Int.reduceToNat, Int.reduceNe, Int.reduceEq, Int.reduceNeg, decide_true, decide_false, Bool.true_and, Bool.and_true, Bool.or_true, Bool.true_or, Bool.not_true, Bool.not_false, ne_eq, not_false_eq_true, Nat.reducePow, Int.reducePow, na10, int_d, jx5_1, jx5_2, jx5_3, jx5_4, b_add, b_sub, b_adds, b_addt, b_addl, b_mul, b_fdiv, b_mod, b_pow, c_eq, c_ne, c_in, c_nin, c_lt, c_le, c_gt, c_ge, e_ii, e_ss, e_bb, t_bl, t_int, t_non, t_str, t_ref, t_tup, s_ref, s_tup, s_fzl, l_ref, l_fzl, l_tup, i_ref, i_tup, i_fzl, i_str, put_ref, slq_fzl, slq_str, new_l, int_d, src_fzl, src_tup, src_str, src_ref, get_snoc, n_len_s, n_len_t, n_len_r, n_len_f, n_int_i, n_int_b, n_int_s, n_abs, n_tup_r, n_lst_r, n_str_i, n_str_s, nn_non, nn_int, nn_str, nn_bl, nn_tup, nn_ref, tag_is_str, tag_is_int, tag_is_bl, tag_is_non, tag_is_tup, tag_is_ref, Option.some.injEq, reduceCtorEq, cl_is_name, cl_value_text, cl_history_text, cl_read_integer, cl_read_value, cl_read_history, cl__law_draws, cl__law_pull, cl__law_any, cl__law_like, cl__law_reserved, cl__law_new_names, cl__law_far, cl__law_far_value, cl__law_value_text, cl__law_history_text, cl_law]
    refine (far_spec (n := n) st.bag).imp fun d L2 ⟨⟨z, h1, h2, h3⟩, st2⟩ => ?_
    subst h1
    try simp -implicitDefEqProofs only [fs_nil, fs_cons, fmt_str, fmt_int, ev_var, ev_cint, ev_cstr, ev_cbl, ev_cnon, ev_gcon, ev_bop, ev_neg, ev_cmp, ev_isn, ev_nisn, ev_chain, ev_and, ev_or, ev_not, ev_ife, ev_tup, ev_lst, ev_ix, ev_sl, ev_call, ev_meth, ev_make, ev_attr, ev_bi, ev_bm, ev_isin, ev_fstr, evEs, evB, evT, evO, evI, puT, puTs, List.map, List.replicate, List.length, Nat.sub_self, List.append, List.cons_append, List.nil_append, List.getElem?_cons_zero, List.getElem?_cons_succ, must, Option.bind_some, Mi.ret, at5_0, at5_1, at5_2, at5_3, at5_4, ix5_1, ix5_2, ix5_3, ix5_4, List.set_cons_succ, List.set_cons_zero, runs_ok, runs_bind, runs_quiet, Then, after_rt, after_nx, Option.map_some, List.length_map, tgLen, if_true, if_false, eq_self, Bool.false_eq_true, reduceIte, bmTag, Bool.and_self, sz0, sz1, sz2, sz3, sz4, sz5, sz6, sz7, sz8, sz9, sz10, sz11, sz12, Int.reduceLE, Int.reduceLT, Int.reduceToNat, Int.reduceNe, Int.reduceEq, Int.reduceNeg, decide_true, decide_false, Bool.true_and, Bool.and_true, Bool.or_true, Bool.true_or, Bool.not_true, Bool.not_false, ne_eq, not_false_eq_true, Nat.reducePow, Int.reducePow, na10, int_d, jx5_1, jx5_2, jx5_3, jx5_4, b_add, b_sub, b_adds, b_addt, b_addl, b_mul, b_fdiv, b_mod, b_pow, c_eq, c_ne, c_in, c_nin, c_lt, c_le, c_gt, c_ge, e_ii, e_ss, e_bb, t_bl, t_int, t_non, t_str, t_ref, t_tup, s_ref, s_tup, s_fzl, l_ref, l_fzl, l_tup, i_ref, i_tup, i_fzl, i_str, put_ref, slq_fzl, slq_str, new_l, int_d, src_fzl, src_tup, src_str, src_ref, get_snoc, n_len_s, n_len_t, n_len_r, n_len_f, n_int_i, n_int_b, n_int_s, n_abs, n_tup_r, n_lst_r, n_str_i, n_str_s, nn_non, nn_int, nn_str, nn_bl, nn_tup, nn_ref, tag_is_str, tag_is_int, tag_is_bl, tag_is_non, tag_is_tup, tag_is_ref, Option.some.injEq, reduceCtorEq]
    refine go_lc ?_
    try simp -implicitDefEqProofs only [fs_nil, fs_cons, fmt_str, fmt_int, ev_var, ev_cint, ev_cstr, ev_cbl, ev_cnon, ev_gcon, ev_bop, ev_neg, ev_cmp, ev_isn, ev_nisn, ev_chain, ev_and, ev_or, ev_not, ev_ife, ev_tup, ev_lst, ev_ix, ev_sl, ev_call, ev_meth, ev_make, ev_attr, ev_bi, ev_bm, ev_isin, ev_fstr, evEs, evB, evT, evO, evI, puT, puTs, List.map, List.replicate, List.length, Nat.sub_self, List.append, List.cons_append, List.nil_append, List.getElem?_cons_zero, List.getElem?_cons_succ, must, Option.bind_some, Mi.ret, at5_0, at5_1, at5_2, at5_3, at5_4, ix5_1, ix5_2, ix5_3, ix5_4, List.set_cons_succ, List.set_cons_zero, runs_ok, runs_bind, runs_quiet, Then, after_rt, after_nx, Option.map_some, List.length_map, tgLen, if_true, if_false, eq_self, Bool.false_eq_true, reduceIte, bmTag, Bool.and_self, sz0, sz1, sz2, sz3, sz4, sz5, sz6, sz7, sz8, sz9, sz10, sz11, sz12, Int.reduceLE, Int.reduceLT, Int.reduceToNat, Int.reduceNe, Int.reduceEq, Int.reduceNeg, decide_true, decide_false, Bool.true_and, Bool.and_true, Bool.or_true, Bool.true_or, Bool.not_true, Bool.not_false, ne_eq, not_false_eq_true, Nat.reducePow, Int.reducePow, na10, int_d, jx5_1, jx5_2, jx5_3, jx5_4, b_add, b_sub, b_adds, b_addt, b_addl, b_mul, b_fdiv, b_mod, b_pow, c_eq, c_ne, c_in, c_nin, c_lt, c_le, c_gt, c_ge, e_ii, e_ss, e_bb, t_bl, t_int, t_non, t_str, t_ref, t_tup, s_ref, s_tup, s_fzl, l_ref, l_fzl, l_tup, i_ref, i_tup, i_fzl, i_str, put_ref, slq_fzl, slq_str, new_l, int_d, src_fzl, src_tup, src_str, src_ref, get_snoc, n_len_s, n_len_t, n_len_r, n_len_f, n_int_i, n_int_b, n_int_s, n_abs, n_tup_r, n_lst_r, n_str_i, n_str_s, nn_non, nn_int, nn_str, nn_bl, nn_tup, nn_ref, tag_is_str, tag_is_int, tag_is_bl, tag_is_non, tag_is_tup, tag_is_ref, Option.some.injEq, reduceCtorEq, cl_is_name, cl_value_text, cl_history_text, cl_read_integer, cl_read_value, cl_read_history, cl__law_draws, cl__law_pull, cl__law_any, cl__law_like, cl__law_reserved, cl__law_new_names, cl__law_far, cl__law_far_value, cl__law_value_text, cl__law_history_text, cl_law]
    have b2 := st2.bag
    refine (pull_spec (n := n + 2) 3 (by decide) (by decide) b2).imp fun d L3 ⟨⟨r3, e4, e5, e6⟩, st3⟩ => ?_
    subst e4
    try simp -implicitDefEqProofs only [fs_nil, fs_cons, fmt_str, fmt_int, ev_var, ev_cint, ev_cstr, ev_cbl, ev_cnon, ev_gcon, ev_bop, ev_neg, ev_cmp, ev_isn, ev_nisn, ev_chain, ev_and, ev_or, ev_not, ev_ife, ev_tup, ev_lst, ev_ix, ev_sl, ev_call, ev_meth, ev_make, ev_attr, ev_bi, ev_bm, ev_isin, ev_fstr, evEs, evB, evT, evO, evI, puT, puTs, List.map, List.replicate, List.length, Nat.sub_self, List.append, List.cons_append, List.nil_append, List.getElem?_cons_zero, List.getElem?_cons_succ, must, Option.bind_some, Mi.ret, at5_0, at5_1, at5_2, at5_3, at5_4, ix5_1, ix5_2, ix5_3, ix5_4, List.set_cons_succ, List.set_cons_zero, runs_ok, runs_bind, runs_quiet, Then, after_rt, after_nx, Option.map_some, List.length_map, tgLen, if_true, if_false, eq_self, Bool.false_eq_true, reduceIte, bmTag, Bool.and_self, sz0, sz1, sz2, sz3, sz4, sz5, sz6, sz7, sz8, sz9, sz10, sz11, sz12, Int.reduceLE, Int.reduceLT, Int.reduceToNat, Int.reduceNe, Int.reduceEq, Int.reduceNeg, decide_true, decide_false, Bool.true_and, Bool.and_true, Bool.or_true, Bool.true_or, Bool.not_true, Bool.not_false, ne_eq, not_false_eq_true, Nat.reducePow, Int.reducePow, na10, int_d, jx5_1, jx5_2, jx5_3, jx5_4, b_add, b_sub, b_adds, b_addt, b_addl, b_mul, b_fdiv, b_mod, b_pow, c_eq, c_ne, c_in, c_nin, c_lt, c_le, c_gt, c_ge, e_ii, e_ss, e_bb, t_bl, t_int, t_non, t_str, t_ref, t_tup, s_ref, s_tup, s_fzl, l_ref, l_fzl, l_tup, i_ref, i_tup, i_fzl, i_str, put_ref, slq_fzl, slq_str, new_l, int_d, src_fzl, src_tup, src_str, src_ref, get_snoc, n_len_s, n_len_t, n_len_r, n_len_f, n_int_i, n_int_b, n_int_s, n_abs, n_tup_r, n_lst_r, n_str_i, n_str_s, nn_non, nn_int, nn_str, nn_bl, nn_tup, nn_ref, tag_is_str, tag_is_int, tag_is_bl, tag_is_non, tag_is_tup, tag_is_ref, Option.some.injEq, reduceCtorEq, small_of e5 (by omega)]
    have b3 := st3.bag
    refine (lc_draw (P := Far) (xs := rngL 0 r3.toNat) b3 (fun _ _ => rfl) (by rw [rngL_len]; omega) (fun L1 _ i => rng_at _ _ _ _) rng_dr (fun x _ L4 st4 => ?_)).imp fun _ L5 ⟨acc, a1, a2, a3, st5⟩ => ?_
    · try simp -implicitDefEqProofs only [fs_nil, fs_cons, fmt_str, fmt_int, ev_var, ev_cint, ev_cstr, ev_cbl, ev_cnon, ev_gcon, ev_bop, ev_neg, ev_cmp, ev_isn, ev_nisn, ev_chain, ev_and, ev_or, ev_not, ev_ife, ev_tup, ev_lst, ev_ix, ev_sl, ev_call, ev_meth, ev_make, ev_attr, ev_bi, ev_bm, ev_isin, ev_fstr, evEs, evB, evT, evO, evI, puT, puTs, List.map, List.replicate, List.length, Nat.sub_self, List.append, List.cons_append, List.nil_append, List.getElem?_cons_zero, List.getElem?_cons_succ, must, Option.bind_some, Mi.ret, at5_0, at5_1, at5_2, at5_3, at5_4, ix5_1, ix5_2, ix5_3, ix5_4, List.set_cons_succ, List.set_cons_zero, runs_ok, runs_bind, runs_quiet, Then, after_rt, after_nx, Option.map_some, List.length_map, tgLen, if_true, if_false, eq_self, Bool.false_eq_true, reduceIte, bmTag, Bool.and_self, sz0, sz1, sz2, sz3, sz4, sz5, sz6, sz7, sz8, sz9, sz10, sz11, sz12, Int.reduceLE, Int.reduceLT, Int.reduceToNat, Int.reduceNe, Int.reduceEq, Int.reduceNeg, decide_true, decide_false, Bool.true_and, Bool.and_true, Bool.or_true, Bool.true_or, Bool.not_true, Bool.not_false, ne_eq, not_false_eq_true, Nat.reducePow, Int.reducePow, na10, int_d, jx5_1, jx5_2, jx5_3, jx5_4, b_add, b_sub, b_adds, b_addt, b_addl, b_mul, b_fdiv, b_mod, b_pow, c_eq, c_ne, c_in, c_nin, c_lt, c_le, c_gt, c_ge, e_ii, e_ss, e_bb, t_bl, t_int, t_non, t_str, t_ref, t_tup, s_ref, s_tup, s_fzl, l_ref, l_fzl, l_tup, i_ref, i_tup, i_fzl, i_str, put_ref, slq_fzl, slq_str, new_l, int_d, src_fzl, src_tup, src_str, src_ref, get_snoc, n_len_s, n_len_t, n_len_r, n_len_f, n_int_i, n_int_b, n_int_s, n_abs, n_tup_r, n_lst_r, n_str_i, n_str_s, nn_non, nn_int, nn_str, nn_bl, nn_tup, nn_ref, tag_is_str, tag_is_int, tag_is_bl, tag_is_non, tag_is_tup, tag_is_ref, Option.some.injEq, reduceCtorEq, wipeL, cl_is_name, cl_value_text, cl_history_text, cl_read_integer, cl_read_value, cl_read_history, cl__law_draws, cl__law_pull, cl__law_any, cl__law_like, cl__law_reserved, cl__law_new_names, cl__law_far, cl__law_far_value, cl__law_value_text, cl__law_history_text, cl_law]
      exact far_spec (n := n) st4.bag
    · try simp -implicitDefEqProofs only [fs_nil, fs_cons, fmt_str, fmt_int, ev_var, ev_cint, ev_cstr, ev_cbl, ev_cnon, ev_gcon, ev_bop, ev_neg, ev_cmp, ev_isn, ev_nisn, ev_chain, ev_and, ev_or, ev_not, ev_ife, ev_tup, ev_lst, ev_ix, ev_sl, ev_call, ev_meth, ev_make, ev_attr, ev_bi, ev_bm, ev_isin, ev_fstr, evEs, evB, evT, evO, evI, puT, puTs, List.map, List.replicate, List.length, Nat.sub_self, List.append, List.cons_append, List.nil_append, List.getElem?_cons_zero, List.getElem?_cons_succ, must, Option.bind_some, Mi.ret, at5_0, at5_1, at5_2, at5_3, at5_4, ix5_1, ix5_2, ix5_3, ix5_4, List.set_cons_succ, List.set_cons_zero, runs_ok, runs_bind, runs_quiet, Then, after_rt, after_nx, Option.map_some, List.length_map, tgLen, if_true, if_false, eq_self, Bool.false_eq_true, reduceIte, bmTag, Bool.and_self, sz0, sz1, sz2, sz3, sz4, sz5, sz6, sz7, sz8, sz9, sz10, sz11, sz12, Int.reduceLE, Int.reduceLT, Int.reduceToNat, Int.reduceNe, Int.reduceEq, Int.reduceNeg, decide_true, decide_false, Bool.true_and, Bool.and_true, Bool.or_true, Bool.true_or, Bool.not_true, Bool.not_false, ne_eq, not_false_eq_true, Nat.reducePow, Int.reducePow, na10, int_d, jx5_1, jx5_2, jx5_3, jx5_4, b_add, b_sub, b_adds, b_addt, b_addl, b_mul, b_fdiv, b_mod, b_pow, c_eq, c_ne, c_in, c_nin, c_lt, c_le, c_gt, c_ge, e_ii, e_ss, e_bb, t_bl, t_int, t_non, t_str, t_ref, t_tup, s_ref, s_tup, s_fzl, l_ref, l_fzl, l_tup, i_ref, i_tup, i_fzl, i_str, put_ref, slq_fzl, slq_str, new_l, int_d, src_fzl, src_tup, src_str, src_ref, get_snoc, n_len_s, n_len_t, n_len_r, n_len_f, n_int_i, n_int_b, n_int_s, n_abs, n_tup_r, n_lst_r, n_str_i, n_str_s, nn_non, nn_int, nn_str, nn_bl, nn_tup, nn_ref, tag_is_str, tag_is_int, tag_is_bl, tag_is_non, tag_is_tup, tag_is_ref, Option.some.injEq, reduceCtorEq, a3]
      rw [rngL_len] at a1
      refine ⟨.inr ⟨_, acc, rfl, ?_, ?_, by omega, a2⟩, st.trans (st2.trans (st3.trans st5))⟩
      · split <;> omega
      · split <;> omega
end
end Row
end

section
set_option Elab.async false
set_option linter.all false
set_option maxRecDepth 100000
set_option maxHeartbeats 4000000
namespace Row
open PySem PySem.Spec L2 Mi SX
section
variable {n : Nat} {L L' : MH} {b c : Nat} {C : Nat → List D → M D}
def low (l : List Nat) : Prop := ∀ x ∈ l, 97 ≤ x ∧ x ≤ 122
/-- texts -/
theorem texts_of {Q : List Nat → Prop} : ∀ {acc : List D}, (∀ d ∈ acc, ∃ l, d = .str (S l) ∧ Q l) → ∃ ls : List (List Nat), acc = ls.map (fun l => D.str (S l)) ∧ ls.length = acc.length ∧ ∀ l ∈ ls, Q l
  | [], _ => ⟨[], rfl, rfl, fun l h => by cases h⟩
  | d :: acc, h => by
    obtain ⟨l, rfl, q⟩ := h d List.mem_cons_self
    obtain ⟨ls, e1, e2, e3⟩ := texts_of (acc := acc) fun d hd => h d (List.mem_cons_of_mem _ hd)
    refine ⟨l :: ls, by rw [List.map_cons, e1], by rw [List.length_cons, List.length_cons, e2], fun x hx => ?_⟩
    rcases List.mem_cons.mp hx with rfl | hx
    · exact q
    · exact e3 x hx
theorem mapO_S : ∀ ls : List (List Nat), mapO strD (ls.map fun l => D.str (S l)) = some (ls.map S)
  | [] => rfl
  | l :: ls => by simp [mapO, strD, mapO_S ls]
theorem bm_join {a : List Nat} {ls : List (List Nat)} {m : Nat} (h : L[m]? = some (.lst (ls.map fun l => D.str (S l)))) (hz : (ls.map List.length).sum + ls.length * a.length ≤ 16777216) : bmD .join (.str (S a)) [.ref m] L = .ok (.str (S (TL.joinL a ls))) L := by
  have e : (seqD L (.ref m)).bind (mapO strD) = some (ls.map S) := by
    simp only [seqD, h, Option.bind_some]
    exact mapO_S ls
  have e2 : ((ls.map S).map (·.length)).sum + (ls.map S).length * (S a).length ≤ 16777216 := by
    rw [lens, List.length_map, S_len]
    exact hz
  simp only [bmD, e, decide_eq_true e2, if_true]
  rw [join_S]
theorem szS {l : List Nat} (h : l.length < 1000000) : sizeOkB (S l).length = true := by
  unfold sizeOkB
  rw [S_len]
  exact decide_eq_true (by omega)
theorem joinL_nil : ∀ ls : List (List Nat), TL.joinL [] ls = ls.flatten
  | [] => rfl
  | [l] => by simp [TL.joinL]
  | l :: m :: r => by
    show l ++ ([] ++ TL.joinL [] (m :: r)) = _
    rw [joinL_nil (m :: r)]
    simp
def abcL : List Nat := [97, 98, 99, 100, 101, 102, 103, 104, 105, 106, 107, 108, 109, 110, 111, 112, 113, 114, 115, 116, 117, 118, 119, 120, 121, 122]
theorem abc_S : ("abcdefghijklmnopqrstuvwxyz" : Str) = S abcL := by decide +kernel
theorem abc_low : low abcL := by
  unfold low
  decide
theorem abc_at (i : Int) (h1 : -26 ≤ i) (h2 : i < 26) : ∃ x, atI abcL i = some x ∧ 97 ≤ x ∧ x ≤ 122 := by
  have key : ∃ j, ixN 26 i = some j ∧ j < 26 := by
    unfold ixN
    by_cases h0 : 0 ≤ i
    · rw [if_pos h0, if_pos (by omega)]
      exact ⟨_, rfl, by omega⟩
    · rw [if_neg h0, if_pos (by omega)]
      exact ⟨_, rfl, by omega⟩
  obtain ⟨j, e, hj⟩ := key
  have hj2 : j < abcL.length := hj
  refine ⟨abcL[j], ?_, abc_low _ (List.getElem_mem hj2)⟩
  show (ixN 26 i).bind (fun j => abcL[j]?) = _
  rw [e]
  exact List.getElem?_eq_getElem hj2
def resL : List (List Nat) := [[97, 110, 100], [111, 114], [110, 111, 116], [105, 115], [98, 121], [111, 102], [101, 109, 112, 116, 121], [116, 114, 117, 101], [102, 97, 108, 115, 101]]
theorem res_S : ([.str "and", .str "or", .str "not", .str "is", .str "by", .str "of", .str "empty", .str "true", .str "false"] : List D) = resL.map fun l => .str (S l) := by
  have : (["and", "or", "not", "is", "by", "of", "empty", "true", "false"] : List Str) = resL.map S := by decide +kernel
  have h := congrArg (List.map D.str) this
  rw [List.map_map] at h
  exact h
/-- a name -/
def Nm (l : List Nat) : Prop := low l ∧ 1 ≤ l.length ∧ l.length ≤ 8 ∧ l ∉ resL
theorem in_texts {ls : List (List Nat)} {l : List Nat} {a : Nat} (h : L[a]? = some (.lst (ls.map fun l => D.str (S l)))) : inD L (.str (S l)) (.ref a) = some (decide (l ∈ ls)) := by
  have e1 : (ls.map fun l => D.str (S l)).all flatD = true := by
    rw [List.all_map]
    simp [flatD]
  show ((seqD L (.ref a)).bind fun xs => if flatD (.str (S l)) && xs.all flatD then some (xs.any fun z => eqf z (.str (S l))) else _) = _
  simp only [seqD, h, Option.bind_some, e1, flatD, Bool.and_self, if_true, Option.some.injEq, List.any_map]
  rw [Bool.eq_iff_iff, List.any_eq_true, decide_eq_true_iff]
  constructor
  · rintro ⟨x, hx, he⟩
    have he : (S x == S l) = true := he
    rw [S_beq, beq_iff_eq] at he
    rw [← he]
    exact hx
  · intro hl
    refine ⟨l, hl, ?_⟩
    show (S l == S l) = true
    rw [S_beq]
    exact beq_self_eq_true l
theorem resq {l : List Nat} (h : l ∈ resL) : Nm (l ++ [113]) := by
  unfold resL at h
  simp only [List.mem_cons, List.not_mem_nil, or_false] at h
  rcases h with rfl | rfl | rfl | rfl | rfl | rfl | rfl | rfl | rfl <;> (refine ⟨?_, by decide, by decide, by decide⟩; unfold low; decide)
theorem flat_len : ∀ {ls : List (List Nat)}, (∀ l ∈ ls, l.length = 1) → ls.flatten.length = ls.length
  | [], _ => rfl
  | l :: ls, h => by
    rw [List.flatten_cons, List.length_append, flat_len fun x hx => h x (List.mem_cons_of_mem _ hx), h l List.mem_cons_self, List.length_cons]
    omega
theorem sum_one : ∀ {ls : List (List Nat)}, (∀ l ∈ ls, l.length = 1) → (ls.map List.length).sum = ls.length
  | [], _ => rfl
  | l :: ls, h => by
    rw [List.map_cons, List.sum_cons, sum_one fun x hx => h x (List.mem_cons_of_mem _ hx), h l List.mem_cons_self, List.length_cons]
    omega
theorem pull_then {s : Int} {Q : D → MH → Prop} (hs : 0 < s) (hs2 : s < 1073741824) (h : Bag L b c) (k : ∀ (r : Int) (L' : MH), 0 ≤ r → r < s → Step b c L L' → Q (.int r) L') : Runs (callN R.T wf (n + 1) f__law_pull [.ref b, .int s] L) Q :=
  (pull_spec s hs hs2 h).imp fun d L' ⟨⟨r, e1, e2, e3⟩, st⟩ => e1 ▸ k r L' e2 e3 st
theorem draw_then {elt : Mi.Loc → M D} {test : Mi.Loc → M Bool} {put : D → Mi.Loc → M Mi.Loc} {w : Wk} {ρ : Mi.Loc} {xs : List D} {P : D → Prop} {Q : Unit → MH → Prop} (h : Bag L b c) (htest : ∀ ρ L, test ρ L = .ok true L) (hz : xs.length < 16777216) (hat : ∀ L1, Step b c L L1 → ∀ i, w.at L1 i = some xs[i]?) (hn : w.len (L ++ [.lst []]) = xs.length)
    (step : ∀ x ∈ xs, ∀ L1, Step b c L L1 → Runs (put x ρ L1) fun ρ1 L2 => Runs (elt ρ1 L2) fun d L3 => P d ∧ Step b c L1 L3)
    (k : ∀ (acc : List D) (L2 : MH), acc.length = xs.length → (∀ d ∈ acc, P d) → L2[L.length]? = some (.lst acc) → Step b c L L2 → Q () L2) : Runs (lcL elt test put w L.length ρ (w.len (L ++ [.lst []])) 0 (L ++ [.lst []])) Q :=
  (lc_draw h htest hz hat hn step).imp fun _ L2 ⟨acc, a1, a2, a3, st⟩ => k acc L2 a1 a2 a3 st
theorem names_tail {k : Nat} (hk : k ≤ 5) {st0 : List Nat} {s0 : Str} (hs0 : s0 = S st0) (hlen : st0.length ≤ 6) (hlow : low st0) {r6 r7 : Int} {L7 : MH} (e5 : 0 ≤ r6) (e6 : r6 < s0.length + 1) (e8 : 0 ≤ r7) (e9 : r7 < 26) (b7 : Bag L7 b c) :
    Runs (exSs R.T (callN R.T wf (n + 2)) wf (.cons (.asg (.var 6) (.lc (.bop .add (.bop .add (.sl (.var 3) .none (.some (.var 4))) (.ix (.var 2) (.bop .sub (.bop .add (.var 5) (.var 7)) (.cint 26)))) (.sl (.var 3) (.some (.var 4)) .none)) (.var 7) (.rng1 (.var 1)) .none [7])) (.cons (.ret (.lc (.ife (.cmp .In (.var 8) (.call 12 .nil [] .nil)) (.bop .add (.var 8) (.cstr "q")) (.var 8)) (.var 8) (.seq (.var 6)) .none [8])) .nil)) [some (.ref b), some (.int k), some (.str (S abcL)), some (.str s0), some (.int r6), some (.int r7), none, none, none] L7)
      (After fun d L' => (∃ (m : Nat) (ls : List (List Nat)), d = .ref m ∧ L7.length ≤ m ∧ L'[m]? = some (.lst (ls.map fun l => D.str (S l))) ∧ ls.length = k ∧ ∀ l ∈ ls, Nm l) ∧ Step b c L7 L') := by
  have hz0 : sizeOkB s0.length = true := by rw [hs0]; exact szS (by omega)
  have hl0 : s0.length = st0.length := by rw [hs0]; exact S_len _
  have sk : smallI (k : Int) = true := small_of (by omega) (by omega)
  refine go_cons (go_var ?_)
  refine go_lc ?_
  try simp -implicitDefEqProofs only [fs_nil, fs_cons, fmt_str, fmt_int, ev_var, ev_cint, ev_cstr, ev_cbl, ev_cnon, ev_gcon, ev_bop, ev_neg, ev_cmp, ev_isn, ev_nisn, ev_chain, ev_and, ev_or, ev_not, ev_ife, ev_tup, ev_lst, ev_ix, ev_sl, ev_call, ev_meth, ev_make, ev_attr, ev_bi, ev_bm, ev_isin, ev_fstr, evEs, evB, evT, evO, evI, puT, puTs, List.map, List.replicate, List.length, Nat.sub_self, List.append, List.cons_append, List.nil_append, List.getElem?_cons_zero, List.getElem?_cons_succ, must, Option.bind_some, Mi.ret, at5_0, at5_1, at5_2, at5_3, at5_4, ix5_1, ix5_2, ix5_3, ix5_4, List.set_cons_succ, List.set_cons_zero, runs_ok, runs_bind, runs_quiet, Then, after_rt, after_nx, Option.map_some, List.length_map, tgLen, if_true, if_false, eq_self, Bool.false_eq_true, reduceIte, bmTag, Bool.and_self, sz0, sz1, sz2, sz3, sz4, sz5, sz6, sz7, sz8, sz9, sz10, sz11, sz12, Int.reduceLE, Int.reduceLT, Int.reduceToNat, Int.reduceNe, Int.reduceEq, Int.reduceNeg, decide_true, decide_false, Bool.true_and, Bool.and_true, Bool.or_true, Bool.true_or, Bool.not_true, Bool.not_false, ne_eq, not_false_eq_true, Nat.reducePow, Int.reducePow, na10, int_d, jx5_1, jx5_2, jx5_3, jx5_4, b_add, b_sub, b_adds, b_addt, b_addl, b_mul, b_fdiv, b_mod, b_pow, c_eq, c_ne, c_in, c_nin, c_lt, c_le, c_gt, c_ge, e_ii, e_ss, e_bb, t_bl, t_int, t_non, t_str, t_ref, t_tup, s_ref, s_tup, s_fzl, l_ref, l_fzl, l_tup, i_ref, i_tup, i_fzl, i_str, put_ref, slq_fzl, slq_str, new_l, int_d, src_fzl, src_tup, src_str, src_ref, get_snoc, n_len_s, n_len_t, n_len_r, n_len_f, n_int_i, n_int_b, n_int_s, n_abs, n_tup_r, n_lst_r, n_str_i, n_str_s, nn_non, nn_int, nn_str, nn_bl, nn_tup, nn_ref, tag_is_str, tag_is_int, tag_is_bl, tag_is_non, tag_is_tup, tag_is_ref, Option.some.injEq, reduceCtorEq, sk]
  refine draw_then (P := fun d => ∃ l, d = .str (S l) ∧ (1 ≤ l.length ∧ l.length ≤ 7 ∧ low l)) (xs := rngL 0 (k : Int).toNat) b7 (fun _ _ => rfl) (by rw [rngL_len]; omega) (fun L1 _ i => rng_at _ _ _ _) rng_dr (fun x hx L8 st8 => ?_) fun acc9 L9 a4 a5 a6 st9 => ?_
  · obtain ⟨j, hj, rfl⟩ : ∃ j : Nat, j < k ∧ x = D.int (j : Nat) := by
      unfold rngL at hx
      obtain ⟨j, hj, e⟩ := List.mem_map.mp hx
      rw [List.mem_range] at hj
      exact ⟨j, by omega, by rw [← e]; simp⟩
    obtain ⟨y, y1, y2⟩ := abc_at (r7 + j - 26) (by omega) (by omega)
    have hza : sizeOkB (S abcL).length = true := szS (by decide)
    have s1 : Txt.slice s0 none (some r6) = S (st0.take r6.toNat) := by rw [hs0]; exact slice_to e5
    have s2 : Txt.slice s0 (some r6) none = S (st0.drop r6.toNat) := by rw [hs0]; exact slice_from e5
    have y1' : atI (S abcL).cps.toList (r7 + j - 26) = some y := y1
    have q1 : sizeOkB ((S (st0.take r6.toNat)).length + (⟨#[y]⟩ : Str).length) = true := by
      unfold sizeOkB
      rw [S_len, List.length_take]
      exact decide_eq_true (by show _ + 1 ≤ _; omega)
    have q2 : sizeOkB ((S (st0.take r6.toNat) ++ (⟨#[y]⟩ : Str)).length + (S (st0.drop r6.toNat)).length) = true := by
      have e0 : S (st0.take r6.toNat) ++ (⟨#[y]⟩ : Str) = S (st0.take r6.toNat ++ [y]) := S_cat _ _
      unfold sizeOkB
      rw [e0, S_len, S_len, List.length_append, List.length_take, List.length_drop]
      exact decide_eq_true (by show _ + 1 + _ ≤ _; omega)
    try simp -implicitDefEqProofs only [fs_nil, fs_cons, fmt_str, fmt_int, ev_var, ev_cint, ev_cstr, ev_cbl, ev_cnon, ev_gcon, ev_bop, ev_neg, ev_cmp, ev_isn, ev_nisn, ev_chain, ev_and, ev_or, ev_not, ev_ife, ev_tup, ev_lst, ev_ix, ev_sl, ev_call, ev_meth, ev_make, ev_attr, ev_bi, ev_bm, ev_isin, ev_fstr, evEs, evB, evT, evO, evI, puT, puTs, List.map, List.replicate, List.length, Nat.sub_self, List.append, List.cons_append, List.nil_append, List.getElem?_cons_zero, List.getElem?_cons_succ, must, Option.bind_some, Mi.ret, at5_0, at5_1, at5_2, at5_3, at5_4, ix5_1, ix5_2, ix5_3, ix5_4, List.set_cons_succ, List.set_cons_zero, runs_ok, runs_bind, runs_quiet, Then, after_rt, after_nx, Option.map_some, List.length_map, tgLen, if_true, if_false, eq_self, Bool.false_eq_true, reduceIte, bmTag, Bool.and_self, sz0, sz1, sz2, sz3, sz4, sz5, sz6, sz7, sz8, sz9, sz10, sz11, sz12, Int.reduceLE, Int.reduceLT, Int.reduceToNat, Int.reduceNe, Int.reduceEq, Int.reduceNeg, decide_true, decide_false, Bool.true_and, Bool.and_true, Bool.or_true, Bool.true_or, Bool.not_true, Bool.not_false, ne_eq, not_false_eq_true, Nat.reducePow, Int.reducePow, na10, int_d, jx5_1, jx5_2, jx5_3, jx5_4, b_add, b_sub, b_adds, b_addt, b_addl, b_mul, b_fdiv, b_mod, b_pow, c_eq, c_ne, c_in, c_nin, c_lt, c_le, c_gt, c_ge, e_ii, e_ss, e_bb, t_bl, t_int, t_non, t_str, t_ref, t_tup, s_ref, s_tup, s_fzl, l_ref, l_fzl, l_tup, i_ref, i_tup, i_fzl, i_str, put_ref, slq_fzl, slq_str, new_l, int_d, src_fzl, src_tup, src_str, src_ref, get_snoc, n_len_s, n_len_t, n_len_r, n_len_f, n_int_i, n_int_b, n_int_s, n_abs, n_tup_r, n_lst_r, n_str_i, n_str_s, nn_non, nn_int, nn_str, nn_bl, nn_tup, nn_ref, tag_is_str, tag_is_int, tag_is_bl, tag_is_non, tag_is_tup, tag_is_ref, Option.some.injEq, reduceCtorEq, wipeL, hz0, hza, s1, s2, y1', q1, q2]
    refine ⟨⟨st0.take r6.toNat ++ [y] ++ st0.drop r6.toNat, ?_, ?_, ?_, fun z hz => ?_⟩, Step.refl st8.bag⟩
    · have e0 : S (st0.take r6.toNat) ++ (⟨#[y]⟩ : Str) = S (st0.take r6.toNat ++ [y]) := S_cat _ _
      rw [e0, S_cat]
    · simp
      omega
    · simp
      omega
    · rcases List.mem_append.mp hz with hz | hz
      · rcases List.mem_append.mp hz with hz | hz
        · exact hlow z (List.mem_of_mem_take hz)
        · rw [List.mem_singleton.mp hz]
          exact y2
      · exact hlow z (List.mem_of_mem_drop hz)
  obtain ⟨rows, w1, w2, w3⟩ := texts_of a5
  rw [w1] at a6
  rw [rngL_len] at a4
  have b9 := st9.bag
  refine go_cons (go_ret ?_)
  refine go_lc ?_
  try simp -implicitDefEqProofs only [fs_nil, fs_cons, fmt_str, fmt_int, ev_var, ev_cint, ev_cstr, ev_cbl, ev_cnon, ev_gcon, ev_bop, ev_neg, ev_cmp, ev_isn, ev_nisn, ev_chain, ev_and, ev_or, ev_not, ev_ife, ev_tup, ev_lst, ev_ix, ev_sl, ev_call, ev_meth, ev_make, ev_attr, ev_bi, ev_bm, ev_isin, ev_fstr, evEs, evB, evT, evO, evI, puT, puTs, List.map, List.replicate, List.length, Nat.sub_self, List.append, List.cons_append, List.nil_append, List.getElem?_cons_zero, List.getElem?_cons_succ, must, Option.bind_some, Mi.ret, at5_0, at5_1, at5_2, at5_3, at5_4, ix5_1, ix5_2, ix5_3, ix5_4, List.set_cons_succ, List.set_cons_zero, runs_ok, runs_bind, runs_quiet, Then, after_rt, after_nx, Option.map_some, List.length_map, tgLen, if_true, if_false, eq_self, Bool.false_eq_true, reduceIte, bmTag, Bool.and_self, sz0, sz1, sz2, sz3, sz4, sz5, sz6, sz7, sz8, sz9, sz10, sz11, sz12, Int.reduceLE, Int.reduceLT, Int.reduceToNat, Int.reduceNe, Int.reduceEq, Int.reduceNeg, decide_true, decide_false, Bool.true_and, Bool.and_true, Bool.or_true, Bool.true_or, Bool.not_true, Bool.not_false, ne_eq, not_false_eq_true, Nat.reducePow, Int.reducePow, na10, int_d, jx5_1, jx5_2, jx5_3, jx5_4, b_add, b_sub, b_adds, b_addt, b_addl, b_mul, b_fdiv, b_mod, b_pow, c_eq, c_ne, c_in, c_nin, c_lt, c_le, c_gt, c_ge, e_ii, e_ss, e_bb, t_bl, t_int, t_non, t_str, t_ref, t_tup, s_ref, s_tup, s_fzl, l_ref, l_fzl, l_tup, i_ref, i_tup, i_fzl, i_str, put_ref, slq_fzl, slq_str, new_l, int_d, src_fzl, src_tup, src_str, src_ref, get_snoc, n_len_s, n_len_t, n_len_r, n_len_f, n_int_i, n_int_b, n_int_s, n_abs, n_tup_r, n_lst_r, n_str_i, n_str_s, nn_non, nn_int, nn_str, nn_bl, nn_tup, nn_ref, tag_is_str, tag_is_int, tag_is_bl, tag_is_non, tag_is_tup, tag_is_ref, Option.some.injEq, reduceCtorEq, a6]
  have lt9 : L7.length < L9.length := (List.getElem?_eq_some_iff.mp a6).1
  have ne9 : L7.length ≠ b := Nat.ne_of_gt b7.ltb
  refine draw_then (P := fun d => ∃ l, d = .str (S l) ∧ Nm l) (xs := rows.map fun l => D.str (S l)) b9 (fun _ _ => rfl) (by rw [List.length_map]; omega) (fun L1 st1 i => ?_) ?_ (fun x hx L10 st10 => ?_) fun acc11 L11 a7 a8 a9 st11 => ?_
  · simp only [Wk.at, Src.at, st1.get ne9 a6]
  · simp only [Wk.len, Src.len, List.getElem?_append_left lt9, a6]
  · obtain ⟨l, hl, rfl⟩ := List.mem_map.mp hx
    obtain ⟨g1, g2, g3⟩ := w3 l hl
    try simp -implicitDefEqProofs only [fs_nil, fs_cons, fmt_str, fmt_int, ev_var, ev_cint, ev_cstr, ev_cbl, ev_cnon, ev_gcon, ev_bop, ev_neg, ev_cmp, ev_isn, ev_nisn, ev_chain, ev_and, ev_or, ev_not, ev_ife, ev_tup, ev_lst, ev_ix, ev_sl, ev_call, ev_meth, ev_make, ev_attr, ev_bi, ev_bm, ev_isin, ev_fstr, evEs, evB, evT, evO, evI, puT, puTs, List.map, List.replicate, List.length, Nat.sub_self, List.append, List.cons_append, List.nil_append, List.getElem?_cons_zero, List.getElem?_cons_succ, must, Option.bind_some, Mi.ret, at5_0, at5_1, at5_2, at5_3, at5_4, ix5_1, ix5_2, ix5_3, ix5_4, List.set_cons_succ, List.set_cons_zero, runs_ok, runs_bind, runs_quiet, Then, after_rt, after_nx, Option.map_some, List.length_map, tgLen, if_true, if_false, eq_self, Bool.false_eq_true, reduceIte, bmTag, Bool.and_self, sz0, sz1, sz2, sz3, sz4, sz5, sz6, sz7, sz8, sz9, sz10, sz11, sz12, Int.reduceLE, Int.reduceLT, Int.reduceToNat, Int.reduceNe, Int.reduceEq, Int.reduceNeg, decide_true, decide_false, Bool.true_and, Bool.and_true, Bool.or_true, Bool.true_or, Bool.not_true, Bool.not_false, ne_eq, not_false_eq_true, Nat.reducePow, Int.reducePow, na10, int_d, jx5_1, jx5_2, jx5_3, jx5_4, b_add, b_sub, b_adds, b_addt, b_addl, b_mul, b_fdiv, b_mod, b_pow, c_eq, c_ne, c_in, c_nin, c_lt, c_le, c_gt, c_ge, e_ii, e_ss, e_bb, t_bl, t_int, t_non, t_str, t_ref, t_tup, s_ref, s_tup, s_fzl, l_ref, l_fzl, l_tup, i_ref, i_tup, i_fzl, i_str, put_ref, slq_fzl, slq_str, new_l, int_d, src_fzl, src_tup, src_str, src_ref, get_snoc, n_len_s, n_len_t, n_len_r, n_len_f, n_int_i, n_int_b, n_int_s, n_abs, n_tup_r, n_lst_r, n_str_i, n_str_s, nn_non, nn_int, nn_str, nn_bl, nn_tup, nn_ref, tag_is_str, tag_is_int, tag_is_bl, tag_is_non, tag_is_tup, tag_is_ref, Option.some.injEq, reduceCtorEq, wipeL, cl_is_name, cl_value_text, cl_history_text, cl_read_integer, cl_read_value, cl_read_history, cl__law_draws, cl__law_pull, cl__law_any, cl__law_like, cl__law_reserved, cl__law_new_names, cl__law_far, cl__law_far_value, cl__law_value_text, cl__law_history_text, cl_law]
    refine (reserved_spec (n := n + 1)).imp fun d L12 ⟨h1, h2⟩ => ?_
    subst h1 h2
    rw [res_S]
    have hin := in_texts (L := L10 ++ [.lst (resL.map fun l => D.str (S l))]) (ls := resL) (l := l) get_snoc
    have b10 := (Step.alloc (o := .lst (resL.map fun l => D.str (S l))) st10.bag)
    by_cases hr : l ∈ resL
    · have q1 : sizeOkB ((S l).length + ("q" : Str).length) = true := by
        unfold sizeOkB
        rw [S_len]
        exact decide_eq_true (by show _ + 1 ≤ _; omega)
      try simp -implicitDefEqProofs only [fs_nil, fs_cons, fmt_str, fmt_int, ev_var, ev_cint, ev_cstr, ev_cbl, ev_cnon, ev_gcon, ev_bop, ev_neg, ev_cmp, ev_isn, ev_nisn, ev_chain, ev_and, ev_or, ev_not, ev_ife, ev_tup, ev_lst, ev_ix, ev_sl, ev_call, ev_meth, ev_make, ev_attr, ev_bi, ev_bm, ev_isin, ev_fstr, evEs, evB, evT, evO, evI, puT, puTs, List.map, List.replicate, List.length, Nat.sub_self, List.append, List.cons_append, List.nil_append, List.getElem?_cons_zero, List.getElem?_cons_succ, must, Option.bind_some, Mi.ret, at5_0, at5_1, at5_2, at5_3, at5_4, ix5_1, ix5_2, ix5_3, ix5_4, List.set_cons_succ, List.set_cons_zero, runs_ok, runs_bind, runs_quiet, Then, after_rt, after_nx, Option.map_some, List.length_map, tgLen, if_true, if_false, eq_self, Bool.false_eq_true, reduceIte, bmTag, Bool.and_self, sz0, sz1, sz2, sz3, sz4, sz5, sz6, sz7, sz8, sz9, sz10, sz11, sz12, Int.reduceLE, Int.reduceLT, Int.reduceToNat, Int.reduceNe, Int.reduceEq, Int.reduceNeg, decide_true, decide_false, Bool.true_and, Bool.and_true, Bool.or_true, Bool.true_or, Bool.not_true, Bool.not_false, ne_eq, not_false_eq_true, Nat.reducePow, Int.reducePow, na10, int_d, jx5_1, jx5_2, jx5_3, jx5_4, b_add, b_sub, b_adds, b_addt, b_addl, b_mul, b_fdiv, b_mod, b_pow, c_eq, c_ne, c_in, c_nin, c_lt, c_le, c_gt, c_ge, e_ii, e_ss, e_bb, t_bl, t_int, t_non, t_str, t_ref, t_tup, s_ref, s_tup, s_fzl, l_ref, l_fzl, l_tup, i_ref, i_tup, i_fzl, i_str, put_ref, slq_fzl, slq_str, new_l, int_d, src_fzl, src_tup, src_str, src_ref, get_snoc, n_len_s, n_len_t, n_len_r, n_len_f, n_int_i, n_int_b, n_int_s, n_abs, n_tup_r, n_lst_r, n_str_i, n_str_s, nn_non, nn_int, nn_str, nn_bl, nn_tup, nn_ref, tag_is_str, tag_is_int, tag_is_bl, tag_is_non, tag_is_tup, tag_is_ref, Option.some.injEq, reduceCtorEq, hin, decide_eq_true hr, q1]
      refine ⟨⟨l ++ [113], ?_, resq hr⟩, b10⟩
      have : ("q" : Str) = S [113] := by decide +kernel
      rw [this, S_cat]
    · try simp -implicitDefEqProofs only [fs_nil, fs_cons, fmt_str, fmt_int, ev_var, ev_cint, ev_cstr, ev_cbl, ev_cnon, ev_gcon, ev_bop, ev_neg, ev_cmp, ev_isn, ev_nisn, ev_chain, ev_and, ev_or, ev_not, ev_ife, ev_tup, ev_lst, ev_ix, ev_sl, ev_call, ev_meth, ev_make, ev_attr, ev_bi, ev_bm, ev_isin, ev_fstr, evEs, evB, evT, evO, evI, puT, puTs, List.map, List.replicate, List.length, Nat.sub_self, List.append, List.cons_append, List.nil_append, List.getElem?_cons_zero, List.getElem?_cons_succ, must, Option.bind_some, Mi.ret, at5_0, at5_1, at5_2, at5_3, at5_4, ix5_1, ix5_2, ix5_3, ix5_4, List.set_cons_succ, List.set_cons_zero, runs_ok, runs_bind, runs_quiet, Then, after_rt, after_nx, Option.map_some, List.length_map, tgLen, if_true, if_false, eq_self, Bool.false_eq_true, reduceIte, bmTag, Bool.and_self, sz0, sz1, sz2, sz3, sz4, sz5, sz6, sz7, sz8, sz9, sz10, sz11, sz12, Int.reduceLE, Int.reduceLT, Int.reduceToNat, Int.reduceNe, Int.reduceEq, Int.reduceNeg, decide_true, decide_false, Bool.true_and, Bool.and_true, Bool.or_true, Bool.true_or, Bool.not_true, Bool.not_false, ne_eq, not_false_eq_true, Nat.reducePow, Int.reducePow, na10, int_d, jx5_1, jx5_2, jx5_3, jx5_4, b_add, b_sub, b_adds, b_addt, b_addl, b_mul, b_fdiv, b_mod, b_pow, c_eq, c_ne, c_in, c_nin, c_lt, c_le, c_gt, c_ge, e_ii, e_ss, e_bb, t_bl, t_int, t_non, t_str, t_ref, t_tup, s_ref, s_tup, s_fzl, l_ref, l_fzl, l_tup, i_ref, i_tup, i_fzl, i_str, put_ref, slq_fzl, slq_str, new_l, int_d, src_fzl, src_tup, src_str, src_ref, get_snoc, n_len_s, n_len_t, n_len_r, n_len_f, n_int_i, n_int_b, n_int_s, n_abs, n_tup_r, n_lst_r, n_str_i, n_str_s, nn_non, nn_int, nn_str, nn_bl, nn_tup, nn_ref, tag_is_str, tag_is_int, tag_is_bl, tag_is_non, tag_is_tup, tag_is_ref, Option.some.injEq, reduceCtorEq, hin, decide_eq_false hr]
      exact ⟨⟨l, rfl, g3, g1, by omega, hr⟩, b10⟩
  · obtain ⟨ns, z1, z2, z3⟩ := texts_of a8
    rw [z1] at a9
    have lens : L7.length ≤ L9.length := st9.len
    rw [List.length_map] at a7
    exact ⟨⟨_, ns, rfl, lens, a9, by omega, z3⟩, st9.trans st11⟩
theorem new_names_spec {k : Nat} (hk : k ≤ 5) (h : Bag L b c) : Runs (callN R.T wf (n + 3) f__law_new_names [.ref b, .int k] L) fun d L' => (∃ (m : Nat) (ls : List (List Nat)), d = .ref m ∧ L.length ≤ m ∧ L'[m]? = some (.lst (ls.map fun l => D.str (S l))) ∧ ls.length = k ∧ ∀ l ∈ ls, Nm l) ∧ Step b c L L' := by
  refine go_def (fd := fd__law_new_names) rfl rfl ?_
  simp only [fd__law_new_names, ir__law_new_names]
  rw [abc_S]
  refine go_cons (go_var ?_)
  try simp -implicitDefEqProofs only [fs_nil, fs_cons, fmt_str, fmt_int, ev_var, ev_cint, ev_cstr, ev_cbl, ev_cnon, ev_gcon, ev_bop, ev_neg, ev_cmp, ev_isn, ev_nisn, ev_chain, ev_and, ev_or, ev_not, ev_ife, ev_tup, ev_lst, ev_ix, ev_sl, ev_call, ev_meth, ev_make, ev_attr, ev_bi, ev_bm, ev_isin, ev_fstr, evEs, evB, evT, evO, evI, puT, puTs, List.map, List.replicate, List.length, Nat.sub_self, List.append, List.cons_append, List.nil_append, List.getElem?_cons_zero, List.getElem?_cons_succ, must, Option.bind_some, Mi.ret, at5_0, at5_1, at5_2, at5_3, at5_4, ix5_1, ix5_2, ix5_3, ix5_4, List.set_cons_succ, List.set_cons_zero, runs_ok, runs_bind, runs_quiet, Then, after_rt, after_nx, Option.map_some, List.length_map, tgLen, if_true, if_false, eq_self, Bool.false_eq_true, reduceIte, bmTag, Bool.and_self, sz0, sz1, sz2, sz3, sz4, sz5, sz6, sz7, sz8, sz9, sz10, sz11, sz12, Int.reduceLE, Int.reduceLT, Int.reduceToNat, Int.reduceNe, Int.reduceEq, Int.reduceNeg, decide_true, decide_false, Bool.true_and, Bool.and_true, Bool.or_true, Bool.true_or, Bool.not_true, Bool.not_false, ne_eq, not_false_eq_true, Nat.reducePow, Int.reducePow, na10, int_d, jx5_1, jx5_2, jx5_3, jx5_4, b_add, b_sub, b_adds, b_addt, b_addl, b_mul, b_fdiv, b_mod, b_pow, c_eq, c_ne, c_in, c_nin, c_lt, c_le, c_gt, c_ge, e_ii, e_ss, e_bb, t_bl, t_int, t_non, t_str, t_ref, t_tup, s_ref, s_tup, s_fzl, l_ref, l_fzl, l_tup, i_ref, i_tup, i_fzl, i_str, put_ref, slq_fzl, slq_str, new_l, int_d, src_fzl, src_tup, src_str, src_ref, get_snoc, n_len_s, n_len_t, n_len_r, n_len_f, n_int_i, n_int_b, n_int_s, n_abs, n_tup_r, n_lst_r, n_str_i, n_str_s, nn_non, nn_int, nn_str, nn_bl, nn_tup, nn_ref, tag_is_str, tag_is_int, tag_is_bl, tag_is_non, tag_is_tup, tag_is_ref, Option.some.injEq, reduceCtorEq]
  refine go_cons (go_var ?_)
  try simp -implicitDefEqProofs only [fs_nil, fs_cons, fmt_str, fmt_int, ev_var, ev_cint, ev_cstr, ev_cbl, ev_cnon, ev_gcon, ev_bop, ev_neg, ev_cmp, ev_isn, ev_nisn, ev_chain, ev_and, ev_or, ev_not, ev_ife, ev_tup, ev_lst, ev_ix, ev_sl, ev_call, ev_meth, ev_make, ev_attr, ev_bi, ev_bm, ev_isin, ev_fstr, evEs, evB, evT, evO, evI, puT, puTs, List.map, List.replicate, List.length, Nat.sub_self, List.append, List.cons_append, List.nil_append, List.getElem?_cons_zero, List.getElem?_cons_succ, must, Option.bind_some, Mi.ret, at5_0, at5_1, at5_2, at5_3, at5_4, ix5_1, ix5_2, ix5_3, ix5_4, List.set_cons_succ, List.set_cons_zero, runs_ok, runs_bind, runs_quiet, Then, after_rt, after_nx, Option.map_some, List.length_map, tgLen, if_true, if_false, eq_self, Bool.false_eq_true, reduceIte, bmTag, Bool.and_self, sz0, sz1, sz2, sz3, sz4, sz5, sz6, sz7, sz8, sz9, sz10, sz11, sz12, Int.reduceLE, Int.reduceLT, Int.reduceToNat, Int.reduceNe, Int.reduceEq, Int.reduceNeg, decide_true, decide_false, Bool.true_and, Bool.and_true, Bool.or_true, Bool.true_or, Bool.not_true, Bool.not_false, ne_eq, not_false_eq_true, Nat.reducePow, Int.reducePow, na10, int_d, jx5_1, jx5_2, jx5_3, jx5_4, b_add, b_sub, b_adds, b_addt, b_addl, b_mul, b_fdiv, b_mod, b_pow, c_eq, c_ne, c_in, c_nin, c_lt, c_le, c_gt, c_ge, e_ii, e_ss, e_bb, t_bl, t_int, t_non, t_str, t_ref, t_tup, s_ref, s_tup, s_fzl, l_ref, l_fzl, l_tup, i_ref, i_tup, i_fzl, i_str, put_ref, slq_fzl, slq_str, new_l, int_d, src_fzl, src_tup, src_str, src_ref, get_snoc, n_len_s, n_len_t, n_len_r, n_len_f, n_int_i, n_int_b, n_int_s, n_abs, n_tup_r, n_lst_r, n_str_i, n_str_s, nn_non, nn_int, nn_str, nn_bl, nn_tup, nn_ref, tag_is_str, tag_is_int, tag_is_bl, tag_is_non, tag_is_tup, tag_is_ref, Option.some.injEq, reduceCtorEq]
  refine go_lc ?_
  try simp -implicitDefEqProofs only [fs_nil, fs_cons, fmt_str, fmt_int, ev_var, ev_cint, ev_cstr, ev_cbl, ev_cnon, ev_gcon, ev_bop, ev_neg, ev_cmp, ev_isn, ev_nisn, ev_chain, ev_and, ev_or, ev_not, ev_ife, ev_tup, ev_lst, ev_ix, ev_sl, ev_call, ev_meth, ev_make, ev_attr, ev_bi, ev_bm, ev_isin, ev_fstr, evEs, evB, evT, evO, evI, puT, puTs, List.map, List.replicate, List.length, Nat.sub_self, List.append, List.cons_append, List.nil_append, List.getElem?_cons_zero, List.getElem?_cons_succ, must, Option.bind_some, Mi.ret, at5_0, at5_1, at5_2, at5_3, at5_4, ix5_1, ix5_2, ix5_3, ix5_4, List.set_cons_succ, List.set_cons_zero, runs_ok, runs_bind, runs_quiet, Then, after_rt, after_nx, Option.map_some, List.length_map, tgLen, if_true, if_false, eq_self, Bool.false_eq_true, reduceIte, bmTag, Bool.and_self, sz0, sz1, sz2, sz3, sz4, sz5, sz6, sz7, sz8, sz9, sz10, sz11, sz12, Int.reduceLE, Int.reduceLT, Int.reduceToNat, Int.reduceNe, Int.reduceEq, Int.reduceNeg, decide_true, decide_false, Bool.true_and, Bool.and_true, Bool.or_true, Bool.true_or, Bool.not_true, Bool.not_false, ne_eq, not_false_eq_true, Nat.reducePow, Int.reducePow, na10, int_d, jx5_1, jx5_2, jx5_3, jx5_4, b_add, b_sub, b_adds, b_addt, b_addl, b_mul, b_fdiv, b_mod, b_pow, c_eq, c_ne, c_in, c_nin, c_lt, c_le, c_gt, c_ge, e_ii, e_ss, e_bb, t_bl, t_int, t_non, t_str, t_ref, t_tup, s_ref, s_tup, s_fzl, l_ref, l_fzl, l_tup, i_ref, i_tup, i_fzl, i_str, put_ref, slq_fzl, slq_str, new_l, int_d, src_fzl, src_tup, src_str, src_ref, get_snoc, n_len_s, n_len_t, n_len_r, n_len_f, n_int_i, n_int_b, n_int_s, n_abs, n_tup_r, n_lst_r, n_str_i, n_str_s, nn_non, nn_int, nn_str, nn_bl, nn_tup, nn_ref, tag_is_str, tag_is_int, tag_is_bl, tag_is_non, tag_is_tup, tag_is_ref, Option.some.injEq, reduceCtorEq, cl_is_name, cl_value_text, cl_history_text, cl_read_integer, cl_read_value, cl_read_history, cl__law_draws, cl__law_pull, cl__law_any, cl__law_like, cl__law_reserved, cl__law_new_names, cl__law_far, cl__law_far_value, cl__law_value_text, cl__law_history_text, cl_law]
  refine pull_then (n := n + 1) (by decide) (by decide) h fun r L1 e2 e3 st => ?_
  try simp -implicitDefEqProofs only [fs_nil, fs_cons, fmt_str, fmt_int, ev_var, ev_cint, ev_cstr, ev_cbl, ev_cnon, ev_gcon, ev_bop, ev_neg, ev_cmp, ev_isn, ev_nisn, ev_chain, ev_and, ev_or, ev_not, ev_ife, ev_tup, ev_lst, ev_ix, ev_sl, ev_call, ev_meth, ev_make, ev_attr, ev_bi, ev_bm, ev_isin, ev_fstr, evEs, evB, evT, evO, evI, puT, puTs, List.map, List.replicate, List.length, Nat.sub_self, List.append, List.cons_append, List.nil_append, List.getElem?_cons_zero, List.getElem?_cons_succ, must, Option.bind_some, Mi.ret, at5_0, at5_1, at5_2, at5_3, at5_4, ix5_1, ix5_2, ix5_3, ix5_4, List.set_cons_succ, List.set_cons_zero, runs_ok, runs_bind, runs_quiet, Then, after_rt, after_nx, Option.map_some, List.length_map, tgLen, if_true, if_false, eq_self, Bool.false_eq_true, reduceIte, bmTag, Bool.and_self, sz0, sz1, sz2, sz3, sz4, sz5, sz6, sz7, sz8, sz9, sz10, sz11, sz12, Int.reduceLE, Int.reduceLT, Int.reduceToNat, Int.reduceNe, Int.reduceEq, Int.reduceNeg, decide_true, decide_false, Bool.true_and, Bool.and_true, Bool.or_true, Bool.true_or, Bool.not_true, Bool.not_false, ne_eq, not_false_eq_true, Nat.reducePow, Int.reducePow, na10, int_d, jx5_1, jx5_2, jx5_3, jx5_4, b_add, b_sub, b_adds, b_addt, b_addl, b_mul, b_fdiv, b_mod, b_pow, c_eq, c_ne, c_in, c_nin, c_lt, c_le, c_gt, c_ge, e_ii, e_ss, e_bb, t_bl, t_int, t_non, t_str, t_ref, t_tup, s_ref, s_tup, s_fzl, l_ref, l_fzl, l_tup, i_ref, i_tup, i_fzl, i_str, put_ref, slq_fzl, slq_str, new_l, int_d, src_fzl, src_tup, src_str, src_ref, get_snoc, n_len_s, n_len_t, n_len_r, n_len_f, n_int_i, n_int_b, n_int_s, n_abs, n_tup_r, n_lst_r, n_str_i, n_str_s, nn_non, nn_int, nn_str, nn_bl, nn_tup, nn_ref, tag_is_str, tag_is_int, tag_is_bl, tag_is_non, tag_is_tup, tag_is_ref, Option.some.injEq, reduceCtorEq, small_of e2 (by omega)]
  have b1 := st.bag
  refine draw_then (P := fun d => ∃ l, d = .str (S l) ∧ (l.length = 1 ∧ low l)) (xs := rngL 0 r.toNat) b1 (fun _ _ => rfl) (by rw [rngL_len]; omega) (fun L1 _ i => rng_at _ _ _ _) rng_dr (fun x _ L4 st4 => ?_) fun acc L5 a1 a2 a3 st5 => ?_
  · try simp -implicitDefEqProofs only [fs_nil, fs_cons, fmt_str, fmt_int, ev_var, ev_cint, ev_cstr, ev_cbl, ev_cnon, ev_gcon, ev_bop, ev_neg, ev_cmp, ev_isn, ev_nisn, ev_chain, ev_and, ev_or, ev_not, ev_ife, ev_tup, ev_lst, ev_ix, ev_sl, ev_call, ev_meth, ev_make, ev_attr, ev_bi, ev_bm, ev_isin, ev_fstr, evEs, evB, evT, evO, evI, puT, puTs, List.map, List.replicate, List.length, Nat.sub_self, List.append, List.cons_append, List.nil_append, List.getElem?_cons_zero, List.getElem?_cons_succ, must, Option.bind_some, Mi.ret, at5_0, at5_1, at5_2, at5_3, at5_4, ix5_1, ix5_2, ix5_3, ix5_4, List.set_cons_succ, List.set_cons_zero, runs_ok, runs_bind, runs_quiet, Then, after_rt, after_nx, Option.map_some, List.length_map, tgLen, if_true, if_false, eq_self, Bool.false_eq_true, reduceIte, bmTag, Bool.and_self, sz0, sz1, sz2, sz3, sz4, sz5, sz6, sz7, sz8, sz9, sz10, sz11, sz12, Int.reduceLE, Int.reduceLT, Int.reduceToNat, Int.reduceNe, Int.reduceEq, Int.reduceNeg, decide_true, decide_false, Bool.true_and, Bool.and_true, Bool.or_true, Bool.true_or, Bool.not_true, Bool.not_false, ne_eq, not_false_eq_true, Nat.reducePow, Int.reducePow, na10, int_d, jx5_1, jx5_2, jx5_3, jx5_4, b_add, b_sub, b_adds, b_addt, b_addl, b_mul, b_fdiv, b_mod, b_pow, c_eq, c_ne, c_in, c_nin, c_lt, c_le, c_gt, c_ge, e_ii, e_ss, e_bb, t_bl, t_int, t_non, t_str, t_ref, t_tup, s_ref, s_tup, s_fzl, l_ref, l_fzl, l_tup, i_ref, i_tup, i_fzl, i_str, put_ref, slq_fzl, slq_str, new_l, int_d, src_fzl, src_tup, src_str, src_ref, get_snoc, n_len_s, n_len_t, n_len_r, n_len_f, n_int_i, n_int_b, n_int_s, n_abs, n_tup_r, n_lst_r, n_str_i, n_str_s, nn_non, nn_int, nn_str, nn_bl, nn_tup, nn_ref, tag_is_str, tag_is_int, tag_is_bl, tag_is_non, tag_is_tup, tag_is_ref, Option.some.injEq, reduceCtorEq, wipeL, cl_is_name, cl_value_text, cl_history_text, cl_read_integer, cl_read_value, cl_read_history, cl__law_draws, cl__law_pull, cl__law_any, cl__law_like, cl__law_reserved, cl__law_new_names, cl__law_far, cl__law_far_value, cl__law_value_text, cl__law_history_text, cl_law]
    refine (any_str (n := n) st4.bag (by decide) (by decide)).imp fun d L6 ⟨⟨x, hx, e⟩, st6⟩ => ⟨⟨[x], e, rfl, fun y hy => ?_⟩, st6⟩
    rw [List.mem_singleton.mp hy]
    exact abc_low _ hx
  obtain ⟨ls, l1, l2, l3⟩ := texts_of a2
  rw [l1] at a3
  have e0 : ("" : Str) = S [] := by decide +kernel
  have hsum := sum_one fun l hl => (l3 l hl).1
  rw [rngL_len] at a1
  have hz : (ls.map List.length).sum + ls.length * ([] : List Nat).length ≤ 16777216 := by
    rw [hsum, List.length_nil, Nat.mul_zero]
    omega
  have hj := bm_join a3 hz
  rw [joinL_nil] at hj
  rw [e0, hj, runs_ok]
  obtain ⟨st0, hst0⟩ : ∃ l : List Nat, l = ls.flatten := ⟨_, rfl⟩
  have hlen : st0.length ≤ 6 := by
    rw [hst0, flat_len fun l hl => (l3 l hl).1]
    omega
  have hlow : low st0 := fun x hx => by
    rw [hst0] at hx
    obtain ⟨l, hl, hx⟩ := List.mem_flatten.mp hx
    exact (l3 l hl).2 x hx
  rw [← hst0]
  have b5 := st5.bag
  obtain ⟨s0, hs0⟩ : ∃ s0 : Str, s0 = S st0 := ⟨_, rfl⟩
  have hz0 : sizeOkB s0.length = true := by rw [hs0]; exact szS (by omega)
  have hl0 : s0.length = st0.length := by rw [hs0]; exact S_len _
  rw [← hs0]
  refine go_cons (go_asg ?_)
  try simp -implicitDefEqProofs only [fs_nil, fs_cons, fmt_str, fmt_int, ev_var, ev_cint, ev_cstr, ev_cbl, ev_cnon, ev_gcon, ev_bop, ev_neg, ev_cmp, ev_isn, ev_nisn, ev_chain, ev_and, ev_or, ev_not, ev_ife, ev_tup, ev_lst, ev_ix, ev_sl, ev_call, ev_meth, ev_make, ev_attr, ev_bi, ev_bm, ev_isin, ev_fstr, evEs, evB, evT, evO, evI, puT, puTs, List.map, List.replicate, List.length, Nat.sub_self, List.append, List.cons_append, List.nil_append, List.getElem?_cons_zero, List.getElem?_cons_succ, must, Option.bind_some, Mi.ret, at5_0, at5_1, at5_2, at5_3, at5_4, ix5_1, ix5_2, ix5_3, ix5_4, List.set_cons_succ, List.set_cons_zero, runs_ok, runs_bind, runs_quiet, Then, after_rt, after_nx, Option.map_some, List.length_map, tgLen, if_true, if_false, eq_self, Bool.false_eq_true, reduceIte, bmTag, Bool.and_self, sz0, sz1, sz2, sz3, sz4, sz5, sz6, sz7, sz8, sz9, sz10, sz11, sz12, Int.reduceLE, Int.reduceLT, Int.reduceToNat, Int.reduceNe, Int.reduceEq, Int.reduceNeg, decide_true, decide_false, Bool.true_and, Bool.and_true, Bool.or_true, Bool.true_or, Bool.not_true, Bool.not_false, ne_eq, not_false_eq_true, Nat.reducePow, Int.reducePow, na10, int_d, jx5_1, jx5_2, jx5_3, jx5_4, b_add, b_sub, b_adds, b_addt, b_addl, b_mul, b_fdiv, b_mod, b_pow, c_eq, c_ne, c_in, c_nin, c_lt, c_le, c_gt, c_ge, e_ii, e_ss, e_bb, t_bl, t_int, t_non, t_str, t_ref, t_tup, s_ref, s_tup, s_fzl, l_ref, l_fzl, l_tup, i_ref, i_tup, i_fzl, i_str, put_ref, slq_fzl, slq_str, new_l, int_d, src_fzl, src_tup, src_str, src_ref, get_snoc, n_len_s, n_len_t, n_len_r, n_len_f, n_int_i, n_int_b, n_int_s, n_abs, n_tup_r, n_lst_r, n_str_i, n_str_s, nn_non, nn_int, nn_str, nn_bl, nn_tup, nn_ref, tag_is_str, tag_is_int, tag_is_bl, tag_is_non, tag_is_tup, tag_is_ref, Option.some.injEq, reduceCtorEq, hz0, cl_is_name, cl_value_text, cl_history_text, cl_read_integer, cl_read_value, cl_read_history, cl__law_draws, cl__law_pull, cl__law_any, cl__law_like, cl__law_reserved, cl__law_new_names, cl__law_far, cl__law_far_value, cl__law_value_text, cl__law_history_text, cl_law]
  refine pull_then (n := n + 1) (by omega) (by omega) b5 fun r6 L6 e5 e6 st6 => ?_
  try simp -implicitDefEqProofs only [fs_nil, fs_cons, fmt_str, fmt_int, ev_var, ev_cint, ev_cstr, ev_cbl, ev_cnon, ev_gcon, ev_bop, ev_neg, ev_cmp, ev_isn, ev_nisn, ev_chain, ev_and, ev_or, ev_not, ev_ife, ev_tup, ev_lst, ev_ix, ev_sl, ev_call, ev_meth, ev_make, ev_attr, ev_bi, ev_bm, ev_isin, ev_fstr, evEs, evB, evT, evO, evI, puT, puTs, List.map, List.replicate, List.length, Nat.sub_self, List.append, List.cons_append, List.nil_append, List.getElem?_cons_zero, List.getElem?_cons_succ, must, Option.bind_some, Mi.ret, at5_0, at5_1, at5_2, at5_3, at5_4, ix5_1, ix5_2, ix5_3, ix5_4, List.set_cons_succ, List.set_cons_zero, runs_ok, runs_bind, runs_quiet, Then, after_rt, after_nx, Option.map_some, List.length_map, tgLen, if_true, if_false, eq_self, Bool.false_eq_true, reduceIte, bmTag, Bool.and_self, sz0, sz1, sz2, sz3, sz4, sz5, sz6, sz7, sz8, sz9, sz10, sz11, sz12, Int.reduceLE, Int.reduceLT, Int.reduceToNat, Int.reduceNe, Int.reduceEq, Int.reduceNeg, decide_true, decide_false, Bool.true_and, Bool.and_true, Bool.or_true, Bool.true_or, Bool.not_true, Bool.not_false, ne_eq, not_false_eq_true, Nat.reducePow, Int.reducePow, na10, int_d, jx5_1, jx5_2, jx5_3, jx5_4, b_add, b_sub, b_adds, b_addt, b_addl, b_mul, b_fdiv, b_mod, b_pow, c_eq, c_ne, c_in, c_nin, c_lt, c_le, c_gt, c_ge, e_ii, e_ss, e_bb, t_bl, t_int, t_non, t_str, t_ref, t_tup, s_ref, s_tup, s_fzl, l_ref, l_fzl, l_tup, i_ref, i_tup, i_fzl, i_str, put_ref, slq_fzl, slq_str, new_l, int_d, src_fzl, src_tup, src_str, src_ref, get_snoc, n_len_s, n_len_t, n_len_r, n_len_f, n_int_i, n_int_b, n_int_s, n_abs, n_tup_r, n_lst_r, n_str_i, n_str_s, nn_non, nn_int, nn_str, nn_bl, nn_tup, nn_ref, tag_is_str, tag_is_int, tag_is_bl, tag_is_non, tag_is_tup, tag_is_ref, Option.some.injEq, reduceCtorEq, cl_is_name, cl_value_text, cl_history_text, cl_read_integer, cl_read_value, cl_read_history, cl__law_draws, cl__law_pull, cl__law_any, cl__law_like, cl__law_reserved, cl__law_new_names, cl__law_far, cl__law_far_value, cl__law_value_text, cl__law_history_text, cl_law]
  refine pull_then (n := n + 1) (by decide) (by decide) st6.bag fun r7 L7 e8 e9 st7 => ?_
  try simp -implicitDefEqProofs only [fs_nil, fs_cons, fmt_str, fmt_int, ev_var, ev_cint, ev_cstr, ev_cbl, ev_cnon, ev_gcon, ev_bop, ev_neg, ev_cmp, ev_isn, ev_nisn, ev_chain, ev_and, ev_or, ev_not, ev_ife, ev_tup, ev_lst, ev_ix, ev_sl, ev_call, ev_meth, ev_make, ev_attr, ev_bi, ev_bm, ev_isin, ev_fstr, evEs, evB, evT, evO, evI, puT, puTs, List.map, List.replicate, List.length, Nat.sub_self, List.append, List.cons_append, List.nil_append, List.getElem?_cons_zero, List.getElem?_cons_succ, must, Option.bind_some, Mi.ret, at5_0, at5_1, at5_2, at5_3, at5_4, ix5_1, ix5_2, ix5_3, ix5_4, List.set_cons_succ, List.set_cons_zero, runs_ok, runs_bind, runs_quiet, Then, after_rt, after_nx, Option.map_some, List.length_map, tgLen, if_true, if_false, eq_self, Bool.false_eq_true, reduceIte, bmTag, Bool.and_self, sz0, sz1, sz2, sz3, sz4, sz5, sz6, sz7, sz8, sz9, sz10, sz11, sz12, Int.reduceLE, Int.reduceLT, Int.reduceToNat, Int.reduceNe, Int.reduceEq, Int.reduceNeg, decide_true, decide_false, Bool.true_and, Bool.and_true, Bool.or_true, Bool.true_or, Bool.not_true, Bool.not_false, ne_eq, not_false_eq_true, Nat.reducePow, Int.reducePow, na10, int_d, jx5_1, jx5_2, jx5_3, jx5_4, b_add, b_sub, b_adds, b_addt, b_addl, b_mul, b_fdiv, b_mod, b_pow, c_eq, c_ne, c_in, c_nin, c_lt, c_le, c_gt, c_ge, e_ii, e_ss, e_bb, t_bl, t_int, t_non, t_str, t_ref, t_tup, s_ref, s_tup, s_fzl, l_ref, l_fzl, l_tup, i_ref, i_tup, i_fzl, i_str, put_ref, slq_fzl, slq_str, new_l, int_d, src_fzl, src_tup, src_str, src_ref, get_snoc, n_len_s, n_len_t, n_len_r, n_len_f, n_int_i, n_int_b, n_int_s, n_abs, n_tup_r, n_lst_r, n_str_i, n_str_s, nn_non, nn_int, nn_str, nn_bl, nn_tup, nn_ref, tag_is_str, tag_is_int, tag_is_bl, tag_is_non, tag_is_tup, tag_is_ref, Option.some.injEq, reduceCtorEq]
  refine (names_tail (n := n) hk hs0 hlen hlow e5 e6 e8 e9 st7.bag).imp fun fl L8 h8 => ?_
  have st8 := st.trans (st5.trans (st6.trans st7))
  cases fl with
  | nx ρ => exact ⟨h8.1.elim fun m h => h.elim fun ls h => (nomatch h.1), st8.trans h8.2⟩
  | rt d => exact ⟨h8.1.elim fun m h => h.elim fun ls h => ⟨m, ls, h.1, Nat.le_trans st8.len h.2.1, h.2.2⟩, st8.trans h8.2⟩
  | bk ρ => exact h8
  | ct ρ => exact h8
  | xc ρ c fs => exact h8
end
end Row
end

section
set_option Elab.async false
set_option linter.all false
set_option maxRecDepth 100000
set_option maxHeartbeats 4000000
namespace Row
open PySem PySem.Spec L2 Mi SX
def numI (z : Int) : List Nat := if z < 0 then 45 :: TL.numL z.natAbs else TL.numL z.natAbs
theorem str_neg (m : Nat) : Str.ofString (toString (Int.negSucc m)) = S (45 :: TL.numL (m + 1)) := by
  have e : toString (Int.negSucc m) = "-" ++ toString (m + 1) := rfl
  have h := num_S (m + 1)
  have e2 : toString ((m + 1 : Nat) : Int) = toString (m + 1) := rfl
  rw [e2] at h
  rw [e]
  have h3 := congrArg (fun x : Str => x.cps.toList) h
  apply TL.ext_tl
  show (Str.ofString ("-" ++ toString (m + 1))).cps.toList = 45 :: TL.numL (m + 1)
  have h4 : (Str.ofString (toString (m + 1))).cps.toList = TL.numL (m + 1) := h3
  rw [← h4]
  simp [Str.ofString_eq_toList]
theorem str_int (z : Int) : Str.ofString (toString z) = S (numI z) := by
  cases z with
  | ofNat n =>
    unfold numI
    have hn : ¬ (Int.ofNat n < 0) := Int.not_lt.mpr (Int.natCast_nonneg n)
    rw [if_neg hn]
    exact num_S n
  | negSucc m =>
    unfold numI
    rw [if_pos (Int.negSucc_lt_zero m)]
    exact str_neg m
/-- far numbers -/
def FarZ (z : Int) : Prop := -big < z ∧ z < big
theorem log_far {z : Int} (h : FarZ z) : decide (z.natAbs.log2 < 1920) = true := by
  obtain ⟨h1, h2⟩ := h
  have hb : z.natAbs < 10 ^ 60 := by
    unfold big at h1 h2
    omega
  apply decide_eq_true
  by_cases h0 : z.natAbs = 0
  · rw [h0]
    decide
  · have h2 : z.natAbs < 2 ^ 200 := Nat.lt_of_lt_of_le hb (by decide)
    exact Nat.lt_of_lt_of_le ((Nat.log2_lt h0).mpr h2) (by decide)
theorem num_len {z : Int} (h : FarZ z) : (TL.numL z.natAbs).length ≤ 60 ∧ (numI z).length ≤ 61 := by
  obtain ⟨h1, h2⟩ := h
  have hb : z.natAbs < 10 ^ 60 := by
    unfold big at h1 h2
    omega
  have := TL.numL_len (k := 60) (by decide) hb
  refine ⟨this, ?_⟩
  unfold numI
  split
  · rw [List.length_cons]
    omega
  · omega
inductive Val where
  | i (z : Int) | t (z : Int) (ms : List Int)
def vD : Val → D
  | .i z => .int z
  | .t z ms => .tup [.int z, .tup (ms.map D.int)]
def VOk : Val → Prop
  | .i z => FarZ z
  | .t z ms => FarZ z ∧ 0 ≤ z ∧ ms.length ≤ 3 ∧ ∀ m ∈ ms, FarZ m
def vt : Val → List Nat
  | .i z => numI z
  | .t z ms => 35 :: (numI z ++ 40 :: (TL.joinL [44] (ms.map numI) ++ [41]))
theorem farV_val {d : D} (h : FarV d) : ∃ v, d = vD v ∧ VOk v := by
  rcases h with ⟨z, e, h1, h2⟩ | ⟨z, ds, e, h0, h1, h2, h3⟩
  · exact ⟨.i z, e, h1, h2⟩
  · have key : ∀ ds : List D, (∀ x ∈ ds, Far x) → ∃ ms : List Int, ds = ms.map D.int ∧ ms.length = ds.length ∧ ∀ m ∈ ms, FarZ m := by
      intro ds
      induction ds with
      | nil => exact fun _ => ⟨[], rfl, rfl, fun m h => by cases h⟩
      | cons d ds ih =>
        intro h
        obtain ⟨z, e, z1, z2⟩ := h d List.mem_cons_self
        obtain ⟨ms, m1, m2, m3⟩ := ih fun x hx => h x (List.mem_cons_of_mem _ hx)
        refine ⟨z :: ms, by rw [List.map_cons, m1, e], by rw [List.length_cons, List.length_cons, m2], fun m hm => ?_⟩
        rcases List.mem_cons.mp hm with rfl | hm
        · exact ⟨z1, z2⟩
        · exact m3 m hm
    obtain ⟨ms, m1, m2, m3⟩ := key ds h3
    refine ⟨.t z ms, by rw [e, m1]; rfl, ⟨?_, h1⟩, h0, by omega, m3⟩
    unfold big at h1 ⊢
    omega
section
variable {n : Nat} {L L' : MH} {b c : Nat} {C : Nat → List D → M D}
theorem sum_le {B : Nat} : ∀ {ls : List (List Nat)}, (∀ l ∈ ls, l.length ≤ B) → (ls.map List.length).sum ≤ ls.length * B
  | [], _ => by simp
  | l :: ls, h => by
    have h1 := h l List.mem_cons_self
    have h2 := sum_le fun x hx => h x (List.mem_cons_of_mem _ hx)
    rw [List.map_cons, List.sum_cons, List.length_cons, Nat.add_mul]
    omega
theorem join_le {a : List Nat} : ∀ ls : List (List Nat), (TL.joinL a ls).length ≤ (ls.map List.length).sum + ls.length * a.length
  | [] => by simp [TL.joinL]
  | [l] => by simp [TL.joinL]
  | l :: m :: r => by
    have h := join_le (a := a) (m :: r)
    show (l ++ (a ++ TL.joinL a (m :: r))).length ≤ _
    rw [List.length_append, List.length_append, List.map_cons, List.sum_cons, List.length_cons, Nat.add_mul]
    omega
theorem marks_sum {ms : List Int} (hms : ∀ m ∈ ms, FarZ m) (hl : ms.length ≤ 3) : ((ms.map numI).map List.length).sum ≤ 183 ∧ (ms.map numI).length ≤ 3 := by
  have h := sum_le (B := 61) (ls := ms.map numI) fun l hl => by
    obtain ⟨m, hm, rfl⟩ := List.mem_map.mp hl
    exact (num_len (hms m hm)).2
  rw [List.length_map] at h ⊢
  omega
/-- the marks' texts -/
theorem marks_lc {own : Nat} {ρ : Mi.Loc} {ms : List Int} (hms : ∀ m ∈ ms, FarZ m) (hl : ms.length ≤ 3) {elt : Mi.Loc → M D} {put : D → Mi.Loc → M Mi.Loc} {test : Mi.Loc → M Bool} (htest : ∀ ρ L, test ρ L = .ok true L)
    (step : ∀ (m : Int) (L : MH), FarZ m → Runs (put (.int m) ρ L) fun ρ1 L2 => Runs (elt ρ1 L2) fun d L3 => d = .str (S (numI m)) ∧ L3 = L) :
    Runs (lcL elt test put (.src (.val (ms.map D.int))) L.length ρ (Wk.len (L ++ [.lst []]) (.src (.val (ms.map D.int)))) 0 (L ++ [.lst []])) fun _ L2 => ∃ u, L2 = L ++ [.lst ((ms.map numI).map fun l => D.str (S l))] ++ u := by
  have := lc_map (L := L) (w := .src (.val (ms.map D.int))) (xs := ms.map D.int) (elt := elt) (test := test) (put := put) (ρ := ρ) (fun d => match d with
    | .int m => .str (S (numI m))
    | d => d) htest (by rw [List.length_map]; omega) (fun u i => rfl) (by simp [Wk.len, Src.len]) fun x hx u => by
      obtain ⟨m, hm, rfl⟩ := List.mem_map.mp hx
      exact (step m _ (hms m hm)).imp fun ρ1 L2 h => h.imp fun d L3 ⟨h1, h2⟩ => ⟨h1, [], by rw [h2, List.append_nil]⟩
  rw [List.map_map] at this ⊢
  exact this
theorem value_text_spec {v : Val} (hv : VOk v) : Runs (callN R.T wf (n + 1) f_value_text [vD v] L) fun d L' => d = .str (S (vt v)) ∧ ∃ u, L' = L ++ u := by
  refine go_def (fd := fd_value_text) rfl rfl ?_
  simp only [fd_value_text, ir_value_text]
  refine go_cons (go_if ?_)
  cases v with
  | i z =>
    try simp -implicitDefEqProofs only [fs_nil, fs_cons, fmt_str, fmt_int, ev_var, ev_cint, ev_cstr, ev_cbl, ev_cnon, ev_gcon, ev_bop, ev_neg, ev_cmp, ev_isn, ev_nisn, ev_chain, ev_and, ev_or, ev_not, ev_ife, ev_tup, ev_lst, ev_ix, ev_sl, ev_call, ev_meth, ev_make, ev_attr, ev_bi, ev_bm, ev_isin, ev_fstr, evEs, evB, evT, evO, evI, puT, puTs, List.map, List.replicate, List.length, Nat.sub_self, List.append, List.cons_append, List.nil_append, List.getElem?_cons_zero, List.getElem?_cons_succ, must, Option.bind_some, Mi.ret, at5_0, at5_1, at5_2, at5_3, at5_4, ix5_1, ix5_2, ix5_3, ix5_4, List.set_cons_succ, List.set_cons_zero, runs_ok, runs_bind, runs_quiet, Then, after_rt, after_nx, Option.map_some, List.length_map, tgLen, if_true, if_false, eq_self, Bool.false_eq_true, reduceIte, bmTag, Bool.and_self, sz0, sz1, sz2, sz3, sz4, sz5, sz6, sz7, sz8, sz9, sz10, sz11, sz12, Int.reduceLE, Int.reduceLT, Int.reduceToNat, Int.reduceNe, Int.reduceEq, Int.reduceNeg, decide_true, decide_false, Bool.true_and, Bool.and_true, Bool.or_true, Bool.true_or, Bool.not_true, Bool.not_false, ne_eq, not_false_eq_true, Nat.reducePow, Int.reducePow, na10, int_d, jx5_1, jx5_2, jx5_3, jx5_4, b_add, b_sub, b_adds, b_addt, b_addl, b_mul, b_fdiv, b_mod, b_pow, c_eq, c_ne, c_in, c_nin, c_lt, c_le, c_gt, c_ge, e_ii, e_ss, e_bb, t_bl, t_int, t_non, t_str, t_ref, t_tup, s_ref, s_tup, s_fzl, l_ref, l_fzl, l_tup, i_ref, i_tup, i_fzl, i_str, put_ref, slq_fzl, slq_str, new_l, int_d, src_fzl, src_tup, src_str, src_ref, get_snoc, n_len_s, n_len_t, n_len_r, n_len_f, n_int_i, n_int_b, n_int_s, n_abs, n_tup_r, n_lst_r, n_str_i, n_str_s, nn_non, nn_int, nn_str, nn_bl, nn_tup, nn_ref, tag_is_str, tag_is_int, tag_is_bl, tag_is_non, tag_is_tup, tag_is_ref, Option.some.injEq, reduceCtorEq, vD, is_i_lt, is_i_l, is_i_t, is_i_b, is_i_i, is_i_s, is_s_lt, is_s_l, is_s_t, is_s_b, is_s_i, is_s_s, is_n_lt, is_n_l, is_n_t, is_n_b, is_n_i, is_n_s, is_t_lt, is_t_l, is_t_t, is_t_b, is_t_i, is_t_s]
    refine go_nilT (go_cons (go_ret ?_))
    try simp -implicitDefEqProofs only [fs_nil, fs_cons, fmt_str, fmt_int, ev_var, ev_cint, ev_cstr, ev_cbl, ev_cnon, ev_gcon, ev_bop, ev_neg, ev_cmp, ev_isn, ev_nisn, ev_chain, ev_and, ev_or, ev_not, ev_ife, ev_tup, ev_lst, ev_ix, ev_sl, ev_call, ev_meth, ev_make, ev_attr, ev_bi, ev_bm, ev_isin, ev_fstr, evEs, evB, evT, evO, evI, puT, puTs, List.map, List.replicate, List.length, Nat.sub_self, List.append, List.cons_append, List.nil_append, List.getElem?_cons_zero, List.getElem?_cons_succ, must, Option.bind_some, Mi.ret, at5_0, at5_1, at5_2, at5_3, at5_4, ix5_1, ix5_2, ix5_3, ix5_4, List.set_cons_succ, List.set_cons_zero, runs_ok, runs_bind, runs_quiet, Then, after_rt, after_nx, Option.map_some, List.length_map, tgLen, if_true, if_false, eq_self, Bool.false_eq_true, reduceIte, bmTag, Bool.and_self, sz0, sz1, sz2, sz3, sz4, sz5, sz6, sz7, sz8, sz9, sz10, sz11, sz12, Int.reduceLE, Int.reduceLT, Int.reduceToNat, Int.reduceNe, Int.reduceEq, Int.reduceNeg, decide_true, decide_false, Bool.true_and, Bool.and_true, Bool.or_true, Bool.true_or, Bool.not_true, Bool.not_false, ne_eq, not_false_eq_true, Nat.reducePow, Int.reducePow, na10, int_d, jx5_1, jx5_2, jx5_3, jx5_4, b_add, b_sub, b_adds, b_addt, b_addl, b_mul, b_fdiv, b_mod, b_pow, c_eq, c_ne, c_in, c_nin, c_lt, c_le, c_gt, c_ge, e_ii, e_ss, e_bb, t_bl, t_int, t_non, t_str, t_ref, t_tup, s_ref, s_tup, s_fzl, l_ref, l_fzl, l_tup, i_ref, i_tup, i_fzl, i_str, put_ref, slq_fzl, slq_str, new_l, int_d, src_fzl, src_tup, src_str, src_ref, get_snoc, n_len_s, n_len_t, n_len_r, n_len_f, n_int_i, n_int_b, n_int_s, n_abs, n_tup_r, n_lst_r, n_str_i, n_str_s, nn_non, nn_int, nn_str, nn_bl, nn_tup, nn_ref, tag_is_str, tag_is_int, tag_is_bl, tag_is_non, tag_is_tup, tag_is_ref, Option.some.injEq, reduceCtorEq, log_far hv]
    rw [str_int]
    exact ⟨rfl, [], (List.append_nil _).symm⟩
  | t z ms =>
    obtain ⟨h1, h2, h3, h4⟩ := hv
    try simp -implicitDefEqProofs only [fs_nil, fs_cons, fmt_str, fmt_int, ev_var, ev_cint, ev_cstr, ev_cbl, ev_cnon, ev_gcon, ev_bop, ev_neg, ev_cmp, ev_isn, ev_nisn, ev_chain, ev_and, ev_or, ev_not, ev_ife, ev_tup, ev_lst, ev_ix, ev_sl, ev_call, ev_meth, ev_make, ev_attr, ev_bi, ev_bm, ev_isin, ev_fstr, evEs, evB, evT, evO, evI, puT, puTs, List.map, List.replicate, List.length, Nat.sub_self, List.append, List.cons_append, List.nil_append, List.getElem?_cons_zero, List.getElem?_cons_succ, must, Option.bind_some, Mi.ret, at5_0, at5_1, at5_2, at5_3, at5_4, ix5_1, ix5_2, ix5_3, ix5_4, List.set_cons_succ, List.set_cons_zero, runs_ok, runs_bind, runs_quiet, Then, after_rt, after_nx, Option.map_some, List.length_map, tgLen, if_true, if_false, eq_self, Bool.false_eq_true, reduceIte, bmTag, Bool.and_self, sz0, sz1, sz2, sz3, sz4, sz5, sz6, sz7, sz8, sz9, sz10, sz11, sz12, Int.reduceLE, Int.reduceLT, Int.reduceToNat, Int.reduceNe, Int.reduceEq, Int.reduceNeg, decide_true, decide_false, Bool.true_and, Bool.and_true, Bool.or_true, Bool.true_or, Bool.not_true, Bool.not_false, ne_eq, not_false_eq_true, Nat.reducePow, Int.reducePow, na10, int_d, jx5_1, jx5_2, jx5_3, jx5_4, b_add, b_sub, b_adds, b_addt, b_addl, b_mul, b_fdiv, b_mod, b_pow, c_eq, c_ne, c_in, c_nin, c_lt, c_le, c_gt, c_ge, e_ii, e_ss, e_bb, t_bl, t_int, t_non, t_str, t_ref, t_tup, s_ref, s_tup, s_fzl, l_ref, l_fzl, l_tup, i_ref, i_tup, i_fzl, i_str, put_ref, slq_fzl, slq_str, new_l, int_d, src_fzl, src_tup, src_str, src_ref, get_snoc, n_len_s, n_len_t, n_len_r, n_len_f, n_int_i, n_int_b, n_int_s, n_abs, n_tup_r, n_lst_r, n_str_i, n_str_s, nn_non, nn_int, nn_str, nn_bl, nn_tup, nn_ref, tag_is_str, tag_is_int, tag_is_bl, tag_is_non, tag_is_tup, tag_is_ref, Option.some.injEq, reduceCtorEq, vD, is_i_lt, is_i_l, is_i_t, is_i_b, is_i_i, is_i_s, is_s_lt, is_s_l, is_s_t, is_s_b, is_s_i, is_s_s, is_n_lt, is_n_l, is_n_t, is_n_b, is_n_i, is_n_s, is_t_lt, is_t_l, is_t_t, is_t_b, is_t_i, is_t_s]
    refine go_cons (go_var ?_)
    try simp -implicitDefEqProofs only [fs_nil, fs_cons, fmt_str, fmt_int, ev_var, ev_cint, ev_cstr, ev_cbl, ev_cnon, ev_gcon, ev_bop, ev_neg, ev_cmp, ev_isn, ev_nisn, ev_chain, ev_and, ev_or, ev_not, ev_ife, ev_tup, ev_lst, ev_ix, ev_sl, ev_call, ev_meth, ev_make, ev_attr, ev_bi, ev_bm, ev_isin, ev_fstr, evEs, evB, evT, evO, evI, puT, puTs, List.map, List.replicate, List.length, Nat.sub_self, List.append, List.cons_append, List.nil_append, List.getElem?_cons_zero, List.getElem?_cons_succ, must, Option.bind_some, Mi.ret, at5_0, at5_1, at5_2, at5_3, at5_4, ix5_1, ix5_2, ix5_3, ix5_4, List.set_cons_succ, List.set_cons_zero, runs_ok, runs_bind, runs_quiet, Then, after_rt, after_nx, Option.map_some, List.length_map, tgLen, if_true, if_false, eq_self, Bool.false_eq_true, reduceIte, bmTag, Bool.and_self, sz0, sz1, sz2, sz3, sz4, sz5, sz6, sz7, sz8, sz9, sz10, sz11, sz12, Int.reduceLE, Int.reduceLT, Int.reduceToNat, Int.reduceNe, Int.reduceEq, Int.reduceNeg, decide_true, decide_false, Bool.true_and, Bool.and_true, Bool.or_true, Bool.true_or, Bool.not_true, Bool.not_false, ne_eq, not_false_eq_true, Nat.reducePow, Int.reducePow, na10, int_d, jx5_1, jx5_2, jx5_3, jx5_4, b_add, b_sub, b_adds, b_addt, b_addl, b_mul, b_fdiv, b_mod, b_pow, c_eq, c_ne, c_in, c_nin, c_lt, c_le, c_gt, c_ge, e_ii, e_ss, e_bb, t_bl, t_int, t_non, t_str, t_ref, t_tup, s_ref, s_tup, s_fzl, l_ref, l_fzl, l_tup, i_ref, i_tup, i_fzl, i_str, put_ref, slq_fzl, slq_str, new_l, int_d, src_fzl, src_tup, src_str, src_ref, get_snoc, n_len_s, n_len_t, n_len_r, n_len_f, n_int_i, n_int_b, n_int_s, n_abs, n_tup_r, n_lst_r, n_str_i, n_str_s, nn_non, nn_int, nn_str, nn_bl, nn_tup, nn_ref, tag_is_str, tag_is_int, tag_is_bl, tag_is_non, tag_is_tup, tag_is_ref, Option.some.injEq, reduceCtorEq]
    refine go_lc ?_
    have at2 : atI [D.int z, D.tup (ms.map D.int)] 1 = some (D.tup (ms.map D.int)) := rfl
    have at1 : atI [D.int z, D.tup (ms.map D.int)] 0 = some (D.int z) := rfl
    try simp -implicitDefEqProofs only [fs_nil, fs_cons, fmt_str, fmt_int, ev_var, ev_cint, ev_cstr, ev_cbl, ev_cnon, ev_gcon, ev_bop, ev_neg, ev_cmp, ev_isn, ev_nisn, ev_chain, ev_and, ev_or, ev_not, ev_ife, ev_tup, ev_lst, ev_ix, ev_sl, ev_call, ev_meth, ev_make, ev_attr, ev_bi, ev_bm, ev_isin, ev_fstr, evEs, evB, evT, evO, evI, puT, puTs, List.map, List.replicate, List.length, Nat.sub_self, List.append, List.cons_append, List.nil_append, List.getElem?_cons_zero, List.getElem?_cons_succ, must, Option.bind_some, Mi.ret, at5_0, at5_1, at5_2, at5_3, at5_4, ix5_1, ix5_2, ix5_3, ix5_4, List.set_cons_succ, List.set_cons_zero, runs_ok, runs_bind, runs_quiet, Then, after_rt, after_nx, Option.map_some, List.length_map, tgLen, if_true, if_false, eq_self, Bool.false_eq_true, reduceIte, bmTag, Bool.and_self, sz0, sz1, sz2, sz3, sz4, sz5, sz6, sz7, sz8, sz9, sz10, sz11, sz12, Int.reduceLE, Int.reduceLT, Int.reduceToNat, Int.reduceNe, Int.reduceEq, Int.reduceNeg, decide_true, decide_false, Bool.true_and, Bool.and_true, Bool.or_true, Bool.true_or, Bool.not_true, Bool.not_false, ne_eq, not_false_eq_true, Nat.reducePow, Int.reducePow, na10, int_d, jx5_1, jx5_2, jx5_3, jx5_4, b_add, b_sub, b_adds, b_addt, b_addl, b_mul, b_fdiv, b_mod, b_pow, c_eq, c_ne, c_in, c_nin, c_lt, c_le, c_gt, c_ge, e_ii, e_ss, e_bb, t_bl, t_int, t_non, t_str, t_ref, t_tup, s_ref, s_tup, s_fzl, l_ref, l_fzl, l_tup, i_ref, i_tup, i_fzl, i_str, put_ref, slq_fzl, slq_str, new_l, int_d, src_fzl, src_tup, src_str, src_ref, get_snoc, n_len_s, n_len_t, n_len_r, n_len_f, n_int_i, n_int_b, n_int_s, n_abs, n_tup_r, n_lst_r, n_str_i, n_str_s, nn_non, nn_int, nn_str, nn_bl, nn_tup, nn_ref, tag_is_str, tag_is_int, tag_is_bl, tag_is_non, tag_is_tup, tag_is_ref, Option.some.injEq, reduceCtorEq, at2]
    refine (marks_lc (own := 2) h4 h3 (fun _ _ => rfl) fun m L1 hm => ?_).imp fun _ L2 ⟨u, e⟩ => ?_
    · try simp -implicitDefEqProofs only [fs_nil, fs_cons, fmt_str, fmt_int, ev_var, ev_cint, ev_cstr, ev_cbl, ev_cnon, ev_gcon, ev_bop, ev_neg, ev_cmp, ev_isn, ev_nisn, ev_chain, ev_and, ev_or, ev_not, ev_ife, ev_tup, ev_lst, ev_ix, ev_sl, ev_call, ev_meth, ev_make, ev_attr, ev_bi, ev_bm, ev_isin, ev_fstr, evEs, evB, evT, evO, evI, puT, puTs, List.map, List.replicate, List.length, Nat.sub_self, List.append, List.cons_append, List.nil_append, List.getElem?_cons_zero, List.getElem?_cons_succ, must, Option.bind_some, Mi.ret, at5_0, at5_1, at5_2, at5_3, at5_4, ix5_1, ix5_2, ix5_3, ix5_4, List.set_cons_succ, List.set_cons_zero, runs_ok, runs_bind, runs_quiet, Then, after_rt, after_nx, Option.map_some, List.length_map, tgLen, if_true, if_false, eq_self, Bool.false_eq_true, reduceIte, bmTag, Bool.and_self, sz0, sz1, sz2, sz3, sz4, sz5, sz6, sz7, sz8, sz9, sz10, sz11, sz12, Int.reduceLE, Int.reduceLT, Int.reduceToNat, Int.reduceNe, Int.reduceEq, Int.reduceNeg, decide_true, decide_false, Bool.true_and, Bool.and_true, Bool.or_true, Bool.true_or, Bool.not_true, Bool.not_false, ne_eq, not_false_eq_true, Nat.reducePow, Int.reducePow, na10, int_d, jx5_1, jx5_2, jx5_3, jx5_4, b_add, b_sub, b_adds, b_addt, b_addl, b_mul, b_fdiv, b_mod, b_pow, c_eq, c_ne, c_in, c_nin, c_lt, c_le, c_gt, c_ge, e_ii, e_ss, e_bb, t_bl, t_int, t_non, t_str, t_ref, t_tup, s_ref, s_tup, s_fzl, l_ref, l_fzl, l_tup, i_ref, i_tup, i_fzl, i_str, put_ref, slq_fzl, slq_str, new_l, int_d, src_fzl, src_tup, src_str, src_ref, get_snoc, n_len_s, n_len_t, n_len_r, n_len_f, n_int_i, n_int_b, n_int_s, n_abs, n_tup_r, n_lst_r, n_str_i, n_str_s, nn_non, nn_int, nn_str, nn_bl, nn_tup, nn_ref, tag_is_str, tag_is_int, tag_is_bl, tag_is_non, tag_is_tup, tag_is_ref, Option.some.injEq, reduceCtorEq, wipeL, log_far hm, str_int, and_self]
    · subst e
      obtain ⟨g1, g2⟩ := marks_sum h4 h3
      have hz : ((ms.map numI).map List.length).sum + (ms.map numI).length * ([44] : List Nat).length ≤ 16777216 := by
        rw [List.length_singleton, Nat.mul_one]
        omega
      have hj := bm_join (a := [44]) (ls := ms.map numI) (L := L ++ [.lst ((ms.map numI).map fun l => D.str (S l))] ++ u) (pre_keep get_snoc) hz
      have e0 : ("," : Str) = S [44] := by decide +kernel
      have e1 : ("#" : Str) = S [35] := by decide +kernel
      have e2 : ("(" : Str) = S [40] := by decide +kernel
      have e3 : (")" : Str) = S [41] := by decide +kernel
      have e4 : Str.empty = S [] := rfl
      have jl := join_le (a := [44]) (ms.map numI)
      rw [List.length_singleton, Nat.mul_one] at jl
      obtain ⟨J, hJ⟩ : ∃ J, J = TL.joinL [44] (ms.map numI) := ⟨_, rfl⟩
      rw [← hJ] at jl hj
      have nl := (num_len h1).2
      rw [e0, hj, runs_ok]
      refine go_cons (go_ret ?_)
      rw [e1, e2, e3]
      try simp -implicitDefEqProofs only [fs_nil, fs_cons, fmt_str, fmt_int, ev_var, ev_cint, ev_cstr, ev_cbl, ev_cnon, ev_gcon, ev_bop, ev_neg, ev_cmp, ev_isn, ev_nisn, ev_chain, ev_and, ev_or, ev_not, ev_ife, ev_tup, ev_lst, ev_ix, ev_sl, ev_call, ev_meth, ev_make, ev_attr, ev_bi, ev_bm, ev_isin, ev_fstr, evEs, evB, evT, evO, evI, puT, puTs, List.map, List.replicate, List.length, Nat.sub_self, List.append, List.cons_append, List.nil_append, List.getElem?_cons_zero, List.getElem?_cons_succ, must, Option.bind_some, Mi.ret, at5_0, at5_1, at5_2, at5_3, at5_4, ix5_1, ix5_2, ix5_3, ix5_4, List.set_cons_succ, List.set_cons_zero, runs_ok, runs_bind, runs_quiet, Then, after_rt, after_nx, Option.map_some, List.length_map, tgLen, if_true, if_false, eq_self, Bool.false_eq_true, reduceIte, bmTag, Bool.and_self, sz0, sz1, sz2, sz3, sz4, sz5, sz6, sz7, sz8, sz9, sz10, sz11, sz12, Int.reduceLE, Int.reduceLT, Int.reduceToNat, Int.reduceNe, Int.reduceEq, Int.reduceNeg, decide_true, decide_false, Bool.true_and, Bool.and_true, Bool.or_true, Bool.true_or, Bool.not_true, Bool.not_false, ne_eq, not_false_eq_true, Nat.reducePow, Int.reducePow, na10, int_d, jx5_1, jx5_2, jx5_3, jx5_4, b_add, b_sub, b_adds, b_addt, b_addl, b_mul, b_fdiv, b_mod, b_pow, c_eq, c_ne, c_in, c_nin, c_lt, c_le, c_gt, c_ge, e_ii, e_ss, e_bb, t_bl, t_int, t_non, t_str, t_ref, t_tup, s_ref, s_tup, s_fzl, l_ref, l_fzl, l_tup, i_ref, i_tup, i_fzl, i_str, put_ref, slq_fzl, slq_str, new_l, int_d, src_fzl, src_tup, src_str, src_ref, get_snoc, n_len_s, n_len_t, n_len_r, n_len_f, n_int_i, n_int_b, n_int_s, n_abs, n_tup_r, n_lst_r, n_str_i, n_str_s, nn_non, nn_int, nn_str, nn_bl, nn_tup, nn_ref, tag_is_str, tag_is_int, tag_is_bl, tag_is_non, tag_is_tup, tag_is_ref, Option.some.injEq, reduceCtorEq, at1, log_far h1, str_int, e4, S_cat, szS (l := [35]) (by decide), szS (l := [40]) (by decide), szS (l := [41]) (by decide), szS (l := J) (by omega), szS (l := 35 :: numI z) (by rw [List.length_cons]; omega), szS (l := 35 :: (numI z ++ [40])) (by rw [List.length_cons, List.length_append, List.length_singleton]; omega),
        szS (l := 35 :: (numI z ++ [40] ++ J)) (by rw [List.length_cons, List.length_append, List.length_append, List.length_singleton]; omega), szS (l := 35 :: (numI z ++ [40] ++ J ++ [41])) (by rw [List.length_cons, List.length_append, List.length_append, List.length_append, List.length_singleton, List.length_singleton]; omega)]
      refine ⟨?_, _, List.append_assoc _ _ _⟩
      rw [vt, hJ]
      simp
end
end Row
end

section
set_option Elab.async false
set_option linter.all false
set_option maxRecDepth 100000
set_option maxHeartbeats 4000000
namespace Row
open PySem PySem.Spec L2 Mi SX
section
variable {n : Nat} {L L' : MH} {b c : Nat} {C : Nat → List D → M D}
theorem szS2 {a l : List Nat} (h : a.length + l.length < 1000000) : sizeOkB ((S a).length + (S l).length) = true := by
  unfold sizeOkB
  rw [S_len, S_len]
  exact decide_eq_true (by omega)
theorem law_value_text_spec {v : Val} (hv : VOk v) : Runs (callN R.T wf (n + 1) f__law_value_text [vD v] L) fun d L' => d = .str (S (vt v)) ∧ ∃ u, L' = L ++ u := by
  refine go_def (fd := fd__law_value_text) rfl rfl ?_
  simp only [fd__law_value_text, ir__law_value_text]
  refine go_cons (go_if ?_)
  cases v with
  | i z =>
    try simp -implicitDefEqProofs only [fs_nil, fs_cons, fmt_str, fmt_int, ev_var, ev_cint, ev_cstr, ev_cbl, ev_cnon, ev_gcon, ev_bop, ev_neg, ev_cmp, ev_isn, ev_nisn, ev_chain, ev_and, ev_or, ev_not, ev_ife, ev_tup, ev_lst, ev_ix, ev_sl, ev_call, ev_meth, ev_make, ev_attr, ev_bi, ev_bm, ev_isin, ev_fstr, evEs, evB, evT, evO, evI, puT, puTs, List.map, List.replicate, List.length, Nat.sub_self, List.append, List.cons_append, List.nil_append, List.getElem?_cons_zero, List.getElem?_cons_succ, must, Option.bind_some, Mi.ret, at5_0, at5_1, at5_2, at5_3, at5_4, ix5_1, ix5_2, ix5_3, ix5_4, List.set_cons_succ, List.set_cons_zero, runs_ok, runs_bind, runs_quiet, Then, after_rt, after_nx, Option.map_some, List.length_map, tgLen, if_true, if_false, eq_self, Bool.false_eq_true, reduceIte, bmTag, Bool.and_self, sz0, sz1, sz2, sz3, sz4, sz5, sz6, sz7, sz8, sz9, sz10, sz11, sz12, Int.reduceLE, Int.reduceLT, Int.reduceToNat, Int.reduceNe, Int.reduceEq, Int.reduceNeg, decide_true, decide_false, Bool.true_and, Bool.and_true, Bool.or_true, Bool.true_or, Bool.not_true, Bool.not_false, ne_eq, not_false_eq_true, Nat.reducePow, Int.reducePow, na10, int_d, jx5_1, jx5_2, jx5_3, jx5_4, b_add, b_sub, b_adds, b_addt, b_addl, b_mul, b_fdiv, b_mod, b_pow, c_eq, c_ne, c_in, c_nin, c_lt, c_le, c_gt, c_ge, e_ii, e_ss, e_bb, t_bl, t_int, t_non, t_str, t_ref, t_tup, s_ref, s_tup, s_fzl, l_ref, l_fzl, l_tup, i_ref, i_tup, i_fzl, i_str, put_ref, slq_fzl, slq_str, new_l, int_d, src_fzl, src_tup, src_str, src_ref, get_snoc, n_len_s, n_len_t, n_len_r, n_len_f, n_int_i, n_int_b, n_int_s, n_abs, n_tup_r, n_lst_r, n_str_i, n_str_s, nn_non, nn_int, nn_str, nn_bl, nn_tup, nn_ref, tag_is_str, tag_is_int, tag_is_bl, tag_is_non, tag_is_tup, tag_is_ref, Option.some.injEq, reduceCtorEq, vD, is_i_lt, is_i_l, is_i_t, is_i_b, is_i_i, is_i_s, is_s_lt, is_s_l, is_s_t, is_s_b, is_s_i, is_s_s, is_n_lt, is_n_l, is_n_t, is_n_b, is_n_i, is_n_s, is_t_lt, is_t_l, is_t_t, is_t_b, is_t_i, is_t_s]
    refine go_nilT (go_cons (go_ret ?_))
    try simp -implicitDefEqProofs only [fs_nil, fs_cons, fmt_str, fmt_int, ev_var, ev_cint, ev_cstr, ev_cbl, ev_cnon, ev_gcon, ev_bop, ev_neg, ev_cmp, ev_isn, ev_nisn, ev_chain, ev_and, ev_or, ev_not, ev_ife, ev_tup, ev_lst, ev_ix, ev_sl, ev_call, ev_meth, ev_make, ev_attr, ev_bi, ev_bm, ev_isin, ev_fstr, evEs, evB, evT, evO, evI, puT, puTs, List.map, List.replicate, List.length, Nat.sub_self, List.append, List.cons_append, List.nil_append, List.getElem?_cons_zero, List.getElem?_cons_succ, must, Option.bind_some, Mi.ret, at5_0, at5_1, at5_2, at5_3, at5_4, ix5_1, ix5_2, ix5_3, ix5_4, List.set_cons_succ, List.set_cons_zero, runs_ok, runs_bind, runs_quiet, Then, after_rt, after_nx, Option.map_some, List.length_map, tgLen, if_true, if_false, eq_self, Bool.false_eq_true, reduceIte, bmTag, Bool.and_self, sz0, sz1, sz2, sz3, sz4, sz5, sz6, sz7, sz8, sz9, sz10, sz11, sz12, Int.reduceLE, Int.reduceLT, Int.reduceToNat, Int.reduceNe, Int.reduceEq, Int.reduceNeg, decide_true, decide_false, Bool.true_and, Bool.and_true, Bool.or_true, Bool.true_or, Bool.not_true, Bool.not_false, ne_eq, not_false_eq_true, Nat.reducePow, Int.reducePow, na10, int_d, jx5_1, jx5_2, jx5_3, jx5_4, b_add, b_sub, b_adds, b_addt, b_addl, b_mul, b_fdiv, b_mod, b_pow, c_eq, c_ne, c_in, c_nin, c_lt, c_le, c_gt, c_ge, e_ii, e_ss, e_bb, t_bl, t_int, t_non, t_str, t_ref, t_tup, s_ref, s_tup, s_fzl, l_ref, l_fzl, l_tup, i_ref, i_tup, i_fzl, i_str, put_ref, slq_fzl, slq_str, new_l, int_d, src_fzl, src_tup, src_str, src_ref, get_snoc, n_len_s, n_len_t, n_len_r, n_len_f, n_int_i, n_int_b, n_int_s, n_abs, n_tup_r, n_lst_r, n_str_i, n_str_s, nn_non, nn_int, nn_str, nn_bl, nn_tup, nn_ref, tag_is_str, tag_is_int, tag_is_bl, tag_is_non, tag_is_tup, tag_is_ref, Option.some.injEq, reduceCtorEq, log_far hv]
    rw [str_int]
    exact ⟨rfl, [], (List.append_nil _).symm⟩
  | t z ms =>
    obtain ⟨h1, h2, h3, h4⟩ := hv
    try simp -implicitDefEqProofs only [fs_nil, fs_cons, fmt_str, fmt_int, ev_var, ev_cint, ev_cstr, ev_cbl, ev_cnon, ev_gcon, ev_bop, ev_neg, ev_cmp, ev_isn, ev_nisn, ev_chain, ev_and, ev_or, ev_not, ev_ife, ev_tup, ev_lst, ev_ix, ev_sl, ev_call, ev_meth, ev_make, ev_attr, ev_bi, ev_bm, ev_isin, ev_fstr, evEs, evB, evT, evO, evI, puT, puTs, List.map, List.replicate, List.length, Nat.sub_self, List.append, List.cons_append, List.nil_append, List.getElem?_cons_zero, List.getElem?_cons_succ, must, Option.bind_some, Mi.ret, at5_0, at5_1, at5_2, at5_3, at5_4, ix5_1, ix5_2, ix5_3, ix5_4, List.set_cons_succ, List.set_cons_zero, runs_ok, runs_bind, runs_quiet, Then, after_rt, after_nx, Option.map_some, List.length_map, tgLen, if_true, if_false, eq_self, Bool.false_eq_true, reduceIte, bmTag, Bool.and_self, sz0, sz1, sz2, sz3, sz4, sz5, sz6, sz7, sz8, sz9, sz10, sz11, sz12, Int.reduceLE, Int.reduceLT, Int.reduceToNat, Int.reduceNe, Int.reduceEq, Int.reduceNeg, decide_true, decide_false, Bool.true_and, Bool.and_true, Bool.or_true, Bool.true_or, Bool.not_true, Bool.not_false, ne_eq, not_false_eq_true, Nat.reducePow, Int.reducePow, na10, int_d, jx5_1, jx5_2, jx5_3, jx5_4, b_add, b_sub, b_adds, b_addt, b_addl, b_mul, b_fdiv, b_mod, b_pow, c_eq, c_ne, c_in, c_nin, c_lt, c_le, c_gt, c_ge, e_ii, e_ss, e_bb, t_bl, t_int, t_non, t_str, t_ref, t_tup, s_ref, s_tup, s_fzl, l_ref, l_fzl, l_tup, i_ref, i_tup, i_fzl, i_str, put_ref, slq_fzl, slq_str, new_l, int_d, src_fzl, src_tup, src_str, src_ref, get_snoc, n_len_s, n_len_t, n_len_r, n_len_f, n_int_i, n_int_b, n_int_s, n_abs, n_tup_r, n_lst_r, n_str_i, n_str_s, nn_non, nn_int, nn_str, nn_bl, nn_tup, nn_ref, tag_is_str, tag_is_int, tag_is_bl, tag_is_non, tag_is_tup, tag_is_ref, Option.some.injEq, reduceCtorEq, vD, is_i_lt, is_i_l, is_i_t, is_i_b, is_i_i, is_i_s, is_s_lt, is_s_l, is_s_t, is_s_b, is_s_i, is_s_s, is_n_lt, is_n_l, is_n_t, is_n_b, is_n_i, is_n_s, is_t_lt, is_t_l, is_t_t, is_t_b, is_t_i, is_t_s]
    refine go_cons (go_ret ?_)
    have at2 : atI [D.int z, D.tup (ms.map D.int)] 1 = some (D.tup (ms.map D.int)) := rfl
    have at1 : atI [D.int z, D.tup (ms.map D.int)] 0 = some (D.int z) := rfl
    have e1 : ("#" : Str) = S [35] := by decide +kernel
    have e2 : ("(" : Str) = S [40] := by decide +kernel
    have e3 : (")" : Str) = S [41] := by decide +kernel
    have e0 : ("," : Str) = S [44] := by decide +kernel
    have nl := (num_len h1).2
    rw [e0, e1, e2, e3]
    try simp -implicitDefEqProofs only [fs_nil, fs_cons, fmt_str, fmt_int, ev_var, ev_cint, ev_cstr, ev_cbl, ev_cnon, ev_gcon, ev_bop, ev_neg, ev_cmp, ev_isn, ev_nisn, ev_chain, ev_and, ev_or, ev_not, ev_ife, ev_tup, ev_lst, ev_ix, ev_sl, ev_call, ev_meth, ev_make, ev_attr, ev_bi, ev_bm, ev_isin, ev_fstr, evEs, evB, evT, evO, evI, puT, puTs, List.map, List.replicate, List.length, Nat.sub_self, List.append, List.cons_append, List.nil_append, List.getElem?_cons_zero, List.getElem?_cons_succ, must, Option.bind_some, Mi.ret, at5_0, at5_1, at5_2, at5_3, at5_4, ix5_1, ix5_2, ix5_3, ix5_4, List.set_cons_succ, List.set_cons_zero, runs_ok, runs_bind, runs_quiet, Then, after_rt, after_nx, Option.map_some, List.length_map, tgLen, if_true, if_false, eq_self, Bool.false_eq_true, reduceIte, bmTag, Bool.and_self, sz0, sz1, sz2, sz3, sz4, sz5, sz6, sz7, sz8, sz9, sz10, sz11, sz12, Int.reduceLE, Int.reduceLT, Int.reduceToNat, Int.reduceNe, Int.reduceEq, Int.reduceNeg, decide_true, decide_false, Bool.true_and, Bool.and_true, Bool.or_true, Bool.true_or, Bool.not_true, Bool.not_false, ne_eq, not_false_eq_true, Nat.reducePow, Int.reducePow, na10, int_d, jx5_1, jx5_2, jx5_3, jx5_4, b_add, b_sub, b_adds, b_addt, b_addl, b_mul, b_fdiv, b_mod, b_pow, c_eq, c_ne, c_in, c_nin, c_lt, c_le, c_gt, c_ge, e_ii, e_ss, e_bb, t_bl, t_int, t_non, t_str, t_ref, t_tup, s_ref, s_tup, s_fzl, l_ref, l_fzl, l_tup, i_ref, i_tup, i_fzl, i_str, put_ref, slq_fzl, slq_str, new_l, int_d, src_fzl, src_tup, src_str, src_ref, get_snoc, n_len_s, n_len_t, n_len_r, n_len_f, n_int_i, n_int_b, n_int_s, n_abs, n_tup_r, n_lst_r, n_str_i, n_str_s, nn_non, nn_int, nn_str, nn_bl, nn_tup, nn_ref, tag_is_str, tag_is_int, tag_is_bl, tag_is_non, tag_is_tup, tag_is_ref, Option.some.injEq, reduceCtorEq, at1, log_far h1, str_int, S_cat, szS2 (a := [35]) (l := numI z) (by rw [List.length_singleton]; omega), szS2 (a := 35 :: numI z) (l := [40]) (by rw [List.length_cons, List.length_singleton]; omega)]
    refine go_lc ?_
    try simp -implicitDefEqProofs only [fs_nil, fs_cons, fmt_str, fmt_int, ev_var, ev_cint, ev_cstr, ev_cbl, ev_cnon, ev_gcon, ev_bop, ev_neg, ev_cmp, ev_isn, ev_nisn, ev_chain, ev_and, ev_or, ev_not, ev_ife, ev_tup, ev_lst, ev_ix, ev_sl, ev_call, ev_meth, ev_make, ev_attr, ev_bi, ev_bm, ev_isin, ev_fstr, evEs, evB, evT, evO, evI, puT, puTs, List.map, List.replicate, List.length, Nat.sub_self, List.append, List.cons_append, List.nil_append, List.getElem?_cons_zero, List.getElem?_cons_succ, must, Option.bind_some, Mi.ret, at5_0, at5_1, at5_2, at5_3, at5_4, ix5_1, ix5_2, ix5_3, ix5_4, List.set_cons_succ, List.set_cons_zero, runs_ok, runs_bind, runs_quiet, Then, after_rt, after_nx, Option.map_some, List.length_map, tgLen, if_true, if_false, eq_self, Bool.false_eq_true, reduceIte, bmTag, Bool.and_self, sz0, sz1, sz2, sz3, sz4, sz5, sz6, sz7, sz8, sz9, sz10, sz11, sz12, Int.reduceLE, Int.reduceLT, Int.reduceToNat, Int.reduceNe, Int.reduceEq, Int.reduceNeg, decide_true, decide_false, Bool.true_and, Bool.and_true, Bool.or_true, Bool.true_or, Bool.not_true, Bool.not_false, ne_eq, not_false_eq_true, Nat.reducePow, Int.reducePow, na10, int_d, jx5_1, jx5_2, jx5_3, jx5_4, b_add, b_sub, b_adds, b_addt, b_addl, b_mul, b_fdiv, b_mod, b_pow, c_eq, c_ne, c_in, c_nin, c_lt, c_le, c_gt, c_ge, e_ii, e_ss, e_bb, t_bl, t_int, t_non, t_str, t_ref, t_tup, s_ref, s_tup, s_fzl, l_ref, l_fzl, l_tup, i_ref, i_tup, i_fzl, i_str, put_ref, slq_fzl, slq_str, new_l, int_d, src_fzl, src_tup, src_str, src_ref, get_snoc, n_len_s, n_len_t, n_len_r, n_len_f, n_int_i, n_int_b, n_int_s, n_abs, n_tup_r, n_lst_r, n_str_i, n_str_s, nn_non, nn_int, nn_str, nn_bl, nn_tup, nn_ref, tag_is_str, tag_is_int, tag_is_bl, tag_is_non, tag_is_tup, tag_is_ref, Option.some.injEq, reduceCtorEq, at2]
    refine (marks_lc (own := 2) h4 h3 (fun _ _ => rfl) fun m L1 hm => ?_).imp fun _ L2 ⟨u, e⟩ => ?_
    · try simp -implicitDefEqProofs only [fs_nil, fs_cons, fmt_str, fmt_int, ev_var, ev_cint, ev_cstr, ev_cbl, ev_cnon, ev_gcon, ev_bop, ev_neg, ev_cmp, ev_isn, ev_nisn, ev_chain, ev_and, ev_or, ev_not, ev_ife, ev_tup, ev_lst, ev_ix, ev_sl, ev_call, ev_meth, ev_make, ev_attr, ev_bi, ev_bm, ev_isin, ev_fstr, evEs, evB, evT, evO, evI, puT, puTs, List.map, List.replicate, List.length, Nat.sub_self, List.append, List.cons_append, List.nil_append, List.getElem?_cons_zero, List.getElem?_cons_succ, must, Option.bind_some, Mi.ret, at5_0, at5_1, at5_2, at5_3, at5_4, ix5_1, ix5_2, ix5_3, ix5_4, List.set_cons_succ, List.set_cons_zero, runs_ok, runs_bind, runs_quiet, Then, after_rt, after_nx, Option.map_some, List.length_map, tgLen, if_true, if_false, eq_self, Bool.false_eq_true, reduceIte, bmTag, Bool.and_self, sz0, sz1, sz2, sz3, sz4, sz5, sz6, sz7, sz8, sz9, sz10, sz11, sz12, Int.reduceLE, Int.reduceLT, Int.reduceToNat, Int.reduceNe, Int.reduceEq, Int.reduceNeg, decide_true, decide_false, Bool.true_and, Bool.and_true, Bool.or_true, Bool.true_or, Bool.not_true, Bool.not_false, ne_eq, not_false_eq_true, Nat.reducePow, Int.reducePow, na10, int_d, jx5_1, jx5_2, jx5_3, jx5_4, b_add, b_sub, b_adds, b_addt, b_addl, b_mul, b_fdiv, b_mod, b_pow, c_eq, c_ne, c_in, c_nin, c_lt, c_le, c_gt, c_ge, e_ii, e_ss, e_bb, t_bl, t_int, t_non, t_str, t_ref, t_tup, s_ref, s_tup, s_fzl, l_ref, l_fzl, l_tup, i_ref, i_tup, i_fzl, i_str, put_ref, slq_fzl, slq_str, new_l, int_d, src_fzl, src_tup, src_str, src_ref, get_snoc, n_len_s, n_len_t, n_len_r, n_len_f, n_int_i, n_int_b, n_int_s, n_abs, n_tup_r, n_lst_r, n_str_i, n_str_s, nn_non, nn_int, nn_str, nn_bl, nn_tup, nn_ref, tag_is_str, tag_is_int, tag_is_bl, tag_is_non, tag_is_tup, tag_is_ref, Option.some.injEq, reduceCtorEq, wipeL, log_far hm, str_int, and_self]
    · subst e
      obtain ⟨g1, g2⟩ := marks_sum h4 h3
      have hz : ((ms.map numI).map List.length).sum + (ms.map numI).length * ([44] : List Nat).length ≤ 16777216 := by
        rw [List.length_singleton, Nat.mul_one]
        omega
      have hj := bm_join (a := [44]) (ls := ms.map numI) (L := L ++ [.lst ((ms.map numI).map fun l => D.str (S l))] ++ u) (pre_keep get_snoc) hz
      have jl := join_le (a := [44]) (ms.map numI)
      rw [List.length_singleton, Nat.mul_one] at jl
      obtain ⟨J, hJ⟩ : ∃ J, J = TL.joinL [44] (ms.map numI) := ⟨_, rfl⟩
      rw [← hJ] at jl hj
      rw [hj, runs_ok]
      try simp -implicitDefEqProofs only [fs_nil, fs_cons, fmt_str, fmt_int, ev_var, ev_cint, ev_cstr, ev_cbl, ev_cnon, ev_gcon, ev_bop, ev_neg, ev_cmp, ev_isn, ev_nisn, ev_chain, ev_and, ev_or, ev_not, ev_ife, ev_tup, ev_lst, ev_ix, ev_sl, ev_call, ev_meth, ev_make, ev_attr, ev_bi, ev_bm, ev_isin, ev_fstr, evEs, evB, evT, evO, evI, puT, puTs, List.map, List.replicate, List.length, Nat.sub_self, List.append, List.cons_append, List.nil_append, List.getElem?_cons_zero, List.getElem?_cons_succ, must, Option.bind_some, Mi.ret, at5_0, at5_1, at5_2, at5_3, at5_4, ix5_1, ix5_2, ix5_3, ix5_4, List.set_cons_succ, List.set_cons_zero, runs_ok, runs_bind, runs_quiet, Then, after_rt, after_nx, Option.map_some, List.length_map, tgLen, if_true, if_false, eq_self, Bool.false_eq_true, reduceIte, bmTag, Bool.and_self, sz0, sz1, sz2, sz3, sz4, sz5, sz6, sz7, sz8, sz9, sz10, sz11, sz12, Int.reduceLE, Int.reduceLT, Int.reduceToNat, Int.reduceNe, Int.reduceEq, Int.reduceNeg, decide_true, decide_false, Bool.true_and, Bool.and_true, Bool.or_true, Bool.true_or, Bool.not_true, Bool.not_false, ne_eq, not_false_eq_true, Nat.reducePow, Int.reducePow, na10, int_d, jx5_1, jx5_2, jx5_3, jx5_4, b_add, b_sub, b_adds, b_addt, b_addl, b_mul, b_fdiv, b_mod, b_pow, c_eq, c_ne, c_in, c_nin, c_lt, c_le, c_gt, c_ge, e_ii, e_ss, e_bb, t_bl, t_int, t_non, t_str, t_ref, t_tup, s_ref, s_tup, s_fzl, l_ref, l_fzl, l_tup, i_ref, i_tup, i_fzl, i_str, put_ref, slq_fzl, slq_str, new_l, int_d, src_fzl, src_tup, src_str, src_ref, get_snoc, n_len_s, n_len_t, n_len_r, n_len_f, n_int_i, n_int_b, n_int_s, n_abs, n_tup_r, n_lst_r, n_str_i, n_str_s, nn_non, nn_int, nn_str, nn_bl, nn_tup, nn_ref, tag_is_str, tag_is_int, tag_is_bl, tag_is_non, tag_is_tup, tag_is_ref, Option.some.injEq, reduceCtorEq, S_cat, szS2 (a := 35 :: (numI z ++ [40])) (l := J) (by rw [List.length_cons, List.length_append, List.length_singleton]; omega), szS2 (a := 35 :: (numI z ++ [40] ++ J)) (l := [41]) (by rw [List.length_cons, List.length_append, List.length_append, List.length_singleton, List.length_singleton]; omega)]
      refine ⟨?_, _, List.append_assoc _ _ _⟩
      rw [vt, hJ]
      simp
/-- steps of a history: a name, its values -/
structure Hs where
  nm : List Nat
  vs : List Val
def hD (h : Hs) : D := .tup [.str (S h.nm), .tup (h.vs.map vD)]
def HOk (h : Hs) : Prop := Nm h.nm ∧ h.vs.length ≤ 5 ∧ ∀ v ∈ h.vs, VOk v
def hst (h : Hs) : List Nat := h.nm ++ (h.vs.map fun v => 32 :: vt v).flatten
def htx (hs : List Hs) : List Nat := if hs = [] then [45] else TL.joinL [32, 59, 32] (hs.map hst)
theorem joinL_sp (a : List Nat) : ∀ (p : List Nat) (ls : List (List Nat)), TL.joinL a (p :: ls) = p ++ (ls.map fun l => a ++ l).flatten
  | p, [] => by simp [TL.joinL]
  | p, q :: r => by
    show p ++ (a ++ TL.joinL a (q :: r)) = _
    rw [joinL_sp a q r]
    simp
theorem vt_len {v : Val} (h : VOk v) : (vt v).length ≤ 260 := by
  cases v with
  | i z =>
    have := (num_len h).2
    show (numI z).length ≤ 260
    omega
  | t z ms =>
    obtain ⟨h1, h2, h3, h4⟩ := h
    obtain ⟨g1, g2⟩ := marks_sum h4 h3
    have jl := join_le (a := [44]) (ms.map numI)
    rw [List.length_singleton, Nat.mul_one] at jl
    have := (num_len h1).2
    unfold vt
    simp only [List.length_cons, List.length_append, List.length_nil]
    omega
theorem hst_len {h : Hs} (ok : HOk h) : (hst h).length ≤ 1400 := by
  obtain ⟨⟨_, _, h2, _⟩, h3, h4⟩ := ok
  unfold hst
  rw [List.length_append, List.length_flatten]
  have := sum_le (B := 261) (ls := h.vs.map fun v => 32 :: vt v) fun l hl => by
    obtain ⟨v, hv, rfl⟩ := List.mem_map.mp hl
    have := vt_len (h4 v hv)
    rw [List.length_cons]
    omega
  rw [List.length_map] at this
  have e : ((h.vs.map fun v => 32 :: vt v).map List.length).sum ≤ 5 * 261 := Nat.le_trans this (Nat.mul_le_mul_right _ h3)
  omega
end
end Row
end

section
set_option Elab.async false
set_option linter.all false
set_option maxRecDepth 100000
set_option maxHeartbeats 4000000
namespace Row
open PySem PySem.Spec L2 Mi SX
section
variable {n : Nat} {L L' : MH} {b c : Nat} {C : Nat → List D → M D}
/-- turns over a list that is a map, that only lay new things -/
theorem lc_mapA {A : Type} {elt : Mi.Loc → M D} {test : Mi.Loc → M Bool} {put : D → Mi.Loc → M Mi.Loc} {w : Wk} {ρ : Mi.Loc} {as : List A} (g r : A → D) (htest : ∀ ρ L, test ρ L = .ok true L) (hz : as.length < 16777216)
    (hat : ∀ (u : MH) (i : Nat), w.at (L ++ u) i = some (as.map g)[i]?) (hn : w.len (L ++ [.lst []]) = as.length)
    (step : ∀ a ∈ as, ∀ u : MH, Runs (put (g a) ρ (L ++ u)) fun ρ1 L2 => Runs (elt ρ1 L2) fun d L3 => d = r a ∧ ∃ v, L3 = L ++ u ++ v) :
    Runs (lcL elt test put w L.length ρ (w.len (L ++ [.lst []])) 0 (L ++ [.lst []])) fun _ L2 => ∃ u, L2 = L ++ [.lst (as.map r)] ++ u := by
  refine lc_run (xs := as.map g) (fun i acc L1 => acc = (as.take i).map r ∧ i ≤ as.length ∧ ∃ u, L1 = L ++ [.lst acc] ++ u) ?hat ?step ?fin _ 0 [] _ (Nat.zero_le _) (by rw [hn, List.length_map]; omega) ⟨by simp, Nat.zero_le _, [], (List.append_nil _).symm⟩
  case hat =>
    intro i acc L1 ⟨_, _, u, e⟩
    rw [e, List.append_assoc]
    exact hat _ _
  case fin =>
    intro acc L1 ⟨e1, _, u, e⟩
    rw [List.length_map, List.take_length] at e1
    exact ⟨u, by rw [e, e1]⟩
  case step =>
    intro i x acc L1 e1 ⟨e2, e3, u, e4⟩
    rw [List.getElem?_map] at e1
    cases q : as[i]? with
    | none => rw [q] at e1; cases e1
    | some a =>
      rw [q] at e1
      cases e1
      have hi := (List.getElem?_eq_some_iff.mp q).1
      rw [e4, List.append_assoc]
      refine (step a (List.mem_of_getElem? q) _).imp fun ρ1 L2 h1 => ?_
      simp only [htest, runs_ok, if_true]
      refine h1.imp fun d L3 ⟨h2, v, h3⟩ => ?_
      refine ⟨?_, ?_, ?_, hi, u ++ v, ?_⟩
      · rw [h3]
        simp
      · rw [e2, List.length_map, List.length_take]
        omega
      · rw [e2, h2]
        have : as.take (i + 1) = as.take i ++ [a] := by
          rw [List.take_succ, q]
          rfl
        rw [this, List.map_append]
        rfl
      · rw [h3]
        simp [List.set_append]
theorem ex4 (A x y z w : MH) : ∃ v, A ++ x ++ y ++ z ++ w = A ++ v := ⟨x ++ (y ++ (z ++ w)), by simp only [List.append_assoc]⟩
theorem hst_join (h : Hs) : TL.joinL [32] (h.nm :: h.vs.map vt) = hst h := by
  rw [joinL_sp]
  unfold hst
  rw [List.map_map]
  rfl
theorem names_sum {h : Hs} (ok : HOk h) : ((h.nm :: h.vs.map vt).map List.length).sum + (h.nm :: h.vs.map vt).length * ([32] : List Nat).length ≤ 16777216 := by
  obtain ⟨⟨_, _, h2, _⟩, h3, h4⟩ := ok
  have := sum_le (B := 260) (ls := h.vs.map vt) fun l hl => by
    obtain ⟨v, hv, rfl⟩ := List.mem_map.mp hl
    exact vt_len (h4 v hv)
  have e : ((h.vs.map vt).map List.length).sum ≤ 5 * 260 := Nat.le_trans this (Nat.mul_le_mul_right _ (by rw [List.length_map]; exact h3))
  simp only [List.map_cons, List.sum_cons, List.length_cons, List.length_map, List.length_nil]
  omega
/-- the list of a history's steps as texts -/
theorem steps_sum {hs : List Hs} (ok : ∀ h ∈ hs, HOk h) (hl : hs.length ≤ 6) : ((hs.map hst).map List.length).sum + (hs.map hst).length * ([32, 59, 32] : List Nat).length ≤ 16777216 := by
  have := sum_le (B := 1400) (ls := hs.map hst) fun l hl => by
    obtain ⟨v, hv, rfl⟩ := List.mem_map.mp hl
    exact hst_len (ok v hv)
  have e : ((hs.map hst).map List.length).sum ≤ 6 * 1400 := Nat.le_trans this (Nat.mul_le_mul_right _ (by rw [List.length_map]; exact hl))
  simp only [List.length_cons, List.length_map, List.length_nil]
  omega
theorem history_text_core {src : D} {w : Wk} {hs : List Hs} (ok : ∀ h ∈ hs, HOk h) (hl : hs.length ≤ 6) (hsrc : (srcOf L src).map Wk.src = some w) (hat : ∀ (u : MH) (i : Nat), w.at (L ++ u) i = some (hs.map hD)[i]?) (hn : w.len (L ++ [.lst []]) = hs.length) :
    Runs (callN R.T wf (n + 2) f_history_text [src] L) fun d L' => d = .str (S (htx hs)) ∧ ∃ u, L' = L ++ u := by
  refine go_def (fd := fd_history_text) rfl rfl ?_
  simp only [fd_history_text, ir_history_text]
  refine go_cons (go_var ?_)
  refine go_lc ?_
  try simp -implicitDefEqProofs only [fs_nil, fs_cons, fmt_str, fmt_int, ev_var, ev_cint, ev_cstr, ev_cbl, ev_cnon, ev_gcon, ev_bop, ev_neg, ev_cmp, ev_isn, ev_nisn, ev_chain, ev_and, ev_or, ev_not, ev_ife, ev_tup, ev_lst, ev_ix, ev_sl, ev_call, ev_meth, ev_make, ev_attr, ev_bi, ev_bm, ev_isin, ev_fstr, evEs, evB, evT, evO, evI, puT, puTs, List.map, List.replicate, List.length, Nat.sub_self, List.append, List.cons_append, List.nil_append, List.getElem?_cons_zero, List.getElem?_cons_succ, must, Option.bind_some, Mi.ret, at5_0, at5_1, at5_2, at5_3, at5_4, ix5_1, ix5_2, ix5_3, ix5_4, List.set_cons_succ, List.set_cons_zero, runs_ok, runs_bind, runs_quiet, Then, after_rt, after_nx, Option.map_some, List.length_map, tgLen, if_true, if_false, eq_self, Bool.false_eq_true, reduceIte, bmTag, Bool.and_self, sz0, sz1, sz2, sz3, sz4, sz5, sz6, sz7, sz8, sz9, sz10, sz11, sz12, Int.reduceLE, Int.reduceLT, Int.reduceToNat, Int.reduceNe, Int.reduceEq, Int.reduceNeg, decide_true, decide_false, Bool.true_and, Bool.and_true, Bool.or_true, Bool.true_or, Bool.not_true, Bool.not_false, ne_eq, not_false_eq_true, Nat.reducePow, Int.reducePow, na10, int_d, jx5_1, jx5_2, jx5_3, jx5_4, b_add, b_sub, b_adds, b_addt, b_addl, b_mul, b_fdiv, b_mod, b_pow, c_eq, c_ne, c_in, c_nin, c_lt, c_le, c_gt, c_ge, e_ii, e_ss, e_bb, t_bl, t_int, t_non, t_str, t_ref, t_tup, s_ref, s_tup, s_fzl, l_ref, l_fzl, l_tup, i_ref, i_tup, i_fzl, i_str, put_ref, slq_fzl, slq_str, new_l, int_d, src_fzl, src_tup, src_str, src_ref, get_snoc, n_len_s, n_len_t, n_len_r, n_len_f, n_int_i, n_int_b, n_int_s, n_abs, n_tup_r, n_lst_r, n_str_i, n_str_s, nn_non, nn_int, nn_str, nn_bl, nn_tup, nn_ref, tag_is_str, tag_is_int, tag_is_bl, tag_is_non, tag_is_tup, tag_is_ref, Option.some.injEq, reduceCtorEq, hsrc]
  refine (lc_mapA hD (fun h => .str (S (hst h))) (fun _ _ => rfl) (by omega) hat hn fun h hh u => ?_).imp fun _ L2 ⟨u, e⟩ => ?_
  · have okh := ok h hh
    have e32 : (" " : Str) = S [32] := by decide +kernel
    rw [e32]
    try simp -implicitDefEqProofs only [fs_nil, fs_cons, fmt_str, fmt_int, ev_var, ev_cint, ev_cstr, ev_cbl, ev_cnon, ev_gcon, ev_bop, ev_neg, ev_cmp, ev_isn, ev_nisn, ev_chain, ev_and, ev_or, ev_not, ev_ife, ev_tup, ev_lst, ev_ix, ev_sl, ev_call, ev_meth, ev_make, ev_attr, ev_bi, ev_bm, ev_isin, ev_fstr, evEs, evB, evT, evO, evI, puT, puTs, List.map, List.replicate, List.length, Nat.sub_self, List.append, List.cons_append, List.nil_append, List.getElem?_cons_zero, List.getElem?_cons_succ, must, Option.bind_some, Mi.ret, at5_0, at5_1, at5_2, at5_3, at5_4, ix5_1, ix5_2, ix5_3, ix5_4, List.set_cons_succ, List.set_cons_zero, runs_ok, runs_bind, runs_quiet, Then, after_rt, after_nx, Option.map_some, List.length_map, tgLen, if_true, if_false, eq_self, Bool.false_eq_true, reduceIte, bmTag, Bool.and_self, sz0, sz1, sz2, sz3, sz4, sz5, sz6, sz7, sz8, sz9, sz10, sz11, sz12, Int.reduceLE, Int.reduceLT, Int.reduceToNat, Int.reduceNe, Int.reduceEq, Int.reduceNeg, decide_true, decide_false, Bool.true_and, Bool.and_true, Bool.or_true, Bool.true_or, Bool.not_true, Bool.not_false, ne_eq, not_false_eq_true, Nat.reducePow, Int.reducePow, na10, int_d, jx5_1, jx5_2, jx5_3, jx5_4, b_add, b_sub, b_adds, b_addt, b_addl, b_mul, b_fdiv, b_mod, b_pow, c_eq, c_ne, c_in, c_nin, c_lt, c_le, c_gt, c_ge, e_ii, e_ss, e_bb, t_bl, t_int, t_non, t_str, t_ref, t_tup, s_ref, s_tup, s_fzl, l_ref, l_fzl, l_tup, i_ref, i_tup, i_fzl, i_str, put_ref, slq_fzl, slq_str, new_l, int_d, src_fzl, src_tup, src_str, src_ref, get_snoc, n_len_s, n_len_t, n_len_r, n_len_f, n_int_i, n_int_b, n_int_s, n_abs, n_tup_r, n_lst_r, n_str_i, n_str_s, nn_non, nn_int, nn_str, nn_bl, nn_tup, nn_ref, tag_is_str, tag_is_int, tag_is_bl, tag_is_non, tag_is_tup, tag_is_ref, Option.some.injEq, reduceCtorEq, wipeL, hD]
    refine go_lc ?_
    try simp -implicitDefEqProofs only [fs_nil, fs_cons, fmt_str, fmt_int, ev_var, ev_cint, ev_cstr, ev_cbl, ev_cnon, ev_gcon, ev_bop, ev_neg, ev_cmp, ev_isn, ev_nisn, ev_chain, ev_and, ev_or, ev_not, ev_ife, ev_tup, ev_lst, ev_ix, ev_sl, ev_call, ev_meth, ev_make, ev_attr, ev_bi, ev_bm, ev_isin, ev_fstr, evEs, evB, evT, evO, evI, puT, puTs, List.map, List.replicate, List.length, Nat.sub_self, List.append, List.cons_append, List.nil_append, List.getElem?_cons_zero, List.getElem?_cons_succ, must, Option.bind_some, Mi.ret, at5_0, at5_1, at5_2, at5_3, at5_4, ix5_1, ix5_2, ix5_3, ix5_4, List.set_cons_succ, List.set_cons_zero, runs_ok, runs_bind, runs_quiet, Then, after_rt, after_nx, Option.map_some, List.length_map, tgLen, if_true, if_false, eq_self, Bool.false_eq_true, reduceIte, bmTag, Bool.and_self, sz0, sz1, sz2, sz3, sz4, sz5, sz6, sz7, sz8, sz9, sz10, sz11, sz12, Int.reduceLE, Int.reduceLT, Int.reduceToNat, Int.reduceNe, Int.reduceEq, Int.reduceNeg, decide_true, decide_false, Bool.true_and, Bool.and_true, Bool.or_true, Bool.true_or, Bool.not_true, Bool.not_false, ne_eq, not_false_eq_true, Nat.reducePow, Int.reducePow, na10, int_d, jx5_1, jx5_2, jx5_3, jx5_4, b_add, b_sub, b_adds, b_addt, b_addl, b_mul, b_fdiv, b_mod, b_pow, c_eq, c_ne, c_in, c_nin, c_lt, c_le, c_gt, c_ge, e_ii, e_ss, e_bb, t_bl, t_int, t_non, t_str, t_ref, t_tup, s_ref, s_tup, s_fzl, l_ref, l_fzl, l_tup, i_ref, i_tup, i_fzl, i_str, put_ref, slq_fzl, slq_str, new_l, int_d, src_fzl, src_tup, src_str, src_ref, get_snoc, n_len_s, n_len_t, n_len_r, n_len_f, n_int_i, n_int_b, n_int_s, n_abs, n_tup_r, n_lst_r, n_str_i, n_str_s, nn_non, nn_int, nn_str, nn_bl, nn_tup, nn_ref, tag_is_str, tag_is_int, tag_is_bl, tag_is_non, tag_is_tup, tag_is_ref, Option.some.injEq, reduceCtorEq]
    refine (lc_mapA (as := h.vs) vD (fun v => .str (S (vt v))) (fun _ _ => rfl) (by have := okh.2.1; omega) (fun u' i => rfl) (by simp [Wk.len, Src.len]) fun v hv u' => ?_).imp fun _ L3 ⟨u3, e3⟩ => ?_
    · try simp -implicitDefEqProofs only [fs_nil, fs_cons, fmt_str, fmt_int, ev_var, ev_cint, ev_cstr, ev_cbl, ev_cnon, ev_gcon, ev_bop, ev_neg, ev_cmp, ev_isn, ev_nisn, ev_chain, ev_and, ev_or, ev_not, ev_ife, ev_tup, ev_lst, ev_ix, ev_sl, ev_call, ev_meth, ev_make, ev_attr, ev_bi, ev_bm, ev_isin, ev_fstr, evEs, evB, evT, evO, evI, puT, puTs, List.map, List.replicate, List.length, Nat.sub_self, List.append, List.cons_append, List.nil_append, List.getElem?_cons_zero, List.getElem?_cons_succ, must, Option.bind_some, Mi.ret, at5_0, at5_1, at5_2, at5_3, at5_4, ix5_1, ix5_2, ix5_3, ix5_4, List.set_cons_succ, List.set_cons_zero, runs_ok, runs_bind, runs_quiet, Then, after_rt, after_nx, Option.map_some, List.length_map, tgLen, if_true, if_false, eq_self, Bool.false_eq_true, reduceIte, bmTag, Bool.and_self, sz0, sz1, sz2, sz3, sz4, sz5, sz6, sz7, sz8, sz9, sz10, sz11, sz12, Int.reduceLE, Int.reduceLT, Int.reduceToNat, Int.reduceNe, Int.reduceEq, Int.reduceNeg, decide_true, decide_false, Bool.true_and, Bool.and_true, Bool.or_true, Bool.true_or, Bool.not_true, Bool.not_false, ne_eq, not_false_eq_true, Nat.reducePow, Int.reducePow, na10, int_d, jx5_1, jx5_2, jx5_3, jx5_4, b_add, b_sub, b_adds, b_addt, b_addl, b_mul, b_fdiv, b_mod, b_pow, c_eq, c_ne, c_in, c_nin, c_lt, c_le, c_gt, c_ge, e_ii, e_ss, e_bb, t_bl, t_int, t_non, t_str, t_ref, t_tup, s_ref, s_tup, s_fzl, l_ref, l_fzl, l_tup, i_ref, i_tup, i_fzl, i_str, put_ref, slq_fzl, slq_str, new_l, int_d, src_fzl, src_tup, src_str, src_ref, get_snoc, n_len_s, n_len_t, n_len_r, n_len_f, n_int_i, n_int_b, n_int_s, n_abs, n_tup_r, n_lst_r, n_str_i, n_str_s, nn_non, nn_int, nn_str, nn_bl, nn_tup, nn_ref, tag_is_str, tag_is_int, tag_is_bl, tag_is_non, tag_is_tup, tag_is_ref, Option.some.injEq, reduceCtorEq, wipeL, cl_is_name, cl_value_text, cl_history_text, cl_read_integer, cl_read_value, cl_read_history, cl__law_draws, cl__law_pull, cl__law_any, cl__law_like, cl__law_reserved, cl__law_new_names, cl__law_far, cl__law_far_value, cl__law_value_text, cl__law_history_text, cl_law]
      exact (value_text_spec (n := n) (okh.2.2 v hv)).imp fun d L4 ⟨q1, u4, q2⟩ => ⟨q1, u4, q2⟩
    · subst e3
      have g1 : (L ++ u ++ [O.lst [D.str (S h.nm)]] ++ [O.lst (h.vs.map fun v => D.str (S (vt v)))] ++ u3)[(L ++ u).length]? = some (.lst [D.str (S h.nm)]) := by
        rw [List.append_assoc _ [O.lst (h.vs.map fun v => D.str (S (vt v)))] u3]
        exact pre_keep get_snoc
      have g2 : (L ++ u ++ [O.lst [D.str (S h.nm)]] ++ [O.lst (h.vs.map fun v => D.str (S (vt v)))] ++ u3)[(L ++ u ++ [O.lst [D.str (S h.nm)]]).length]? = some (.lst (h.vs.map fun v => D.str (S (vt v)))) := pre_keep get_snoc
      have q1 : sizeOkB ([D.str (S h.nm)].length + (h.vs.map fun v => D.str (S (vt v))).length) = true := by
        unfold sizeOkB
        rw [List.length_map, List.length_singleton]
        exact decide_eq_true (by have := okh.2.1; omega)
      rw [g1, g2]
      simp only [q1, if_true, new_l, runs_ok]
      have em : [D.str (S h.nm)] ++ (h.vs.map fun v => D.str (S (vt v))) = (h.nm :: h.vs.map vt).map fun l => D.str (S l) := by
        rw [List.map_cons, List.map_map]
        rfl
      rw [em, bm_join get_snoc (names_sum okh), runs_ok, hst_join]
      exact ⟨rfl, ex4 _ _ _ _ _⟩
  · subst e
    have g1 : (L ++ [O.lst (hs.map fun h => D.str (S (hst h)))] ++ u)[L.length]? = some (.lst ((hs.map hst).map fun l => D.str (S l))) := by
      rw [List.map_map]
      exact pre_keep get_snoc
    have e1 : (" ; " : Str) = S [32, 59, 32] := by decide +kernel
    have e2 : ("-" : Str) = S [45] := by decide +kernel
    refine go_cons (go_ret ?_)
    rw [e1, e2]
    try simp -implicitDefEqProofs only [fs_nil, fs_cons, fmt_str, fmt_int, ev_var, ev_cint, ev_cstr, ev_cbl, ev_cnon, ev_gcon, ev_bop, ev_neg, ev_cmp, ev_isn, ev_nisn, ev_chain, ev_and, ev_or, ev_not, ev_ife, ev_tup, ev_lst, ev_ix, ev_sl, ev_call, ev_meth, ev_make, ev_attr, ev_bi, ev_bm, ev_isin, ev_fstr, evEs, evB, evT, evO, evI, puT, puTs, List.map, List.replicate, List.length, Nat.sub_self, List.append, List.cons_append, List.nil_append, List.getElem?_cons_zero, List.getElem?_cons_succ, must, Option.bind_some, Mi.ret, at5_0, at5_1, at5_2, at5_3, at5_4, ix5_1, ix5_2, ix5_3, ix5_4, List.set_cons_succ, List.set_cons_zero, runs_ok, runs_bind, runs_quiet, Then, after_rt, after_nx, Option.map_some, List.length_map, tgLen, if_true, if_false, eq_self, Bool.false_eq_true, reduceIte, bmTag, Bool.and_self, sz0, sz1, sz2, sz3, sz4, sz5, sz6, sz7, sz8, sz9, sz10, sz11, sz12, Int.reduceLE, Int.reduceLT, Int.reduceToNat, Int.reduceNe, Int.reduceEq, Int.reduceNeg, decide_true, decide_false, Bool.true_and, Bool.and_true, Bool.or_true, Bool.true_or, Bool.not_true, Bool.not_false, ne_eq, not_false_eq_true, Nat.reducePow, Int.reducePow, na10, int_d, jx5_1, jx5_2, jx5_3, jx5_4, b_add, b_sub, b_adds, b_addt, b_addl, b_mul, b_fdiv, b_mod, b_pow, c_eq, c_ne, c_in, c_nin, c_lt, c_le, c_gt, c_ge, e_ii, e_ss, e_bb, t_bl, t_int, t_non, t_str, t_ref, t_tup, s_ref, s_tup, s_fzl, l_ref, l_fzl, l_tup, i_ref, i_tup, i_fzl, i_str, put_ref, slq_fzl, slq_str, new_l, int_d, src_fzl, src_tup, src_str, src_ref, get_snoc, n_len_s, n_len_t, n_len_r, n_len_f, n_int_i, n_int_b, n_int_s, n_abs, n_tup_r, n_lst_r, n_str_i, n_str_s, nn_non, nn_int, nn_str, nn_bl, nn_tup, nn_ref, tag_is_str, tag_is_int, tag_is_bl, tag_is_non, tag_is_tup, tag_is_ref, Option.some.injEq, reduceCtorEq, g1]
    cases hs with
    | nil => exact Runs.ok ⟨rfl, _, List.append_assoc _ _ _⟩
    | cons h r =>
      try simp -implicitDefEqProofs only [fs_nil, fs_cons, fmt_str, fmt_int, ev_var, ev_cint, ev_cstr, ev_cbl, ev_cnon, ev_gcon, ev_bop, ev_neg, ev_cmp, ev_isn, ev_nisn, ev_chain, ev_and, ev_or, ev_not, ev_ife, ev_tup, ev_lst, ev_ix, ev_sl, ev_call, ev_meth, ev_make, ev_attr, ev_bi, ev_bm, ev_isin, ev_fstr, evEs, evB, evT, evO, evI, puT, puTs, List.map, List.replicate, List.length, Nat.sub_self, List.append, List.cons_append, List.nil_append, List.getElem?_cons_zero, List.getElem?_cons_succ, must, Option.bind_some, Mi.ret, at5_0, at5_1, at5_2, at5_3, at5_4, ix5_1, ix5_2, ix5_3, ix5_4, List.set_cons_succ, List.set_cons_zero, runs_ok, runs_bind, runs_quiet, Then, after_rt, after_nx, Option.map_some, List.length_map, tgLen, if_true, if_false, eq_self, Bool.false_eq_true, reduceIte, bmTag, Bool.and_self, sz0, sz1, sz2, sz3, sz4, sz5, sz6, sz7, sz8, sz9, sz10, sz11, sz12, Int.reduceLE, Int.reduceLT, Int.reduceToNat, Int.reduceNe, Int.reduceEq, Int.reduceNeg, decide_true, decide_false, Bool.true_and, Bool.and_true, Bool.or_true, Bool.true_or, Bool.not_true, Bool.not_false, ne_eq, not_false_eq_true, Nat.reducePow, Int.reducePow, na10, int_d, jx5_1, jx5_2, jx5_3, jx5_4, b_add, b_sub, b_adds, b_addt, b_addl, b_mul, b_fdiv, b_mod, b_pow, c_eq, c_ne, c_in, c_nin, c_lt, c_le, c_gt, c_ge, e_ii, e_ss, e_bb, t_bl, t_int, t_non, t_str, t_ref, t_tup, s_ref, s_tup, s_fzl, l_ref, l_fzl, l_tup, i_ref, i_tup, i_fzl, i_str, put_ref, slq_fzl, slq_str, new_l, int_d, src_fzl, src_tup, src_str, src_ref, get_snoc, n_len_s, n_len_t, n_len_r, n_len_f, n_int_i, n_int_b, n_int_s, n_abs, n_tup_r, n_lst_r, n_str_i, n_str_s, nn_non, nn_int, nn_str, nn_bl, nn_tup, nn_ref, tag_is_str, tag_is_int, tag_is_bl, tag_is_non, tag_is_tup, tag_is_ref, Option.some.injEq, reduceCtorEq, List.isEmpty]
      exact ⟨_, _, bm_join g1 (steps_sum ok hl), rfl, _, List.append_assoc _ _ _⟩
end
end Row
end

section
set_option Elab.async false
set_option linter.all false
set_option maxRecDepth 100000
set_option maxHeartbeats 4000000
namespace Row
open PySem PySem.Spec L2 Mi SX
section
variable {n : Nat} {L L' : MH} {b c : Nat} {C : Nat → List D → M D}
def asc (l : List Nat) : Prop := ∀ x ∈ l, x < 128
theorem asc_app {a l : List Nat} (h : asc a) (h' : asc l) : asc (a ++ l) := fun x hx => (List.mem_append.mp hx).elim (h x) (h' x)
theorem asc_cons {x : Nat} {l : List Nat} (h : x < 128) (h' : asc l) : asc (x :: l) := fun y hy => by
  rcases List.mem_cons.mp hy with rfl | hy
  · exact h
  · exact h' y hy
theorem asc_nil : asc [] := fun x h => by cases h
theorem numL_asc (k : Nat) : asc (TL.numL k) := fun x hx => by have := TL.numL_digits k x hx; omega
theorem numI_asc (z : Int) : asc (numI z) := by
  unfold numI
  split
  · exact asc_cons (by decide) (numL_asc _)
  · exact numL_asc _
theorem joinL_asc {a : List Nat} (ha : asc a) : ∀ {ls : List (List Nat)}, (∀ l ∈ ls, asc l) → asc (TL.joinL a ls)
  | [], _ => asc_nil
  | [l], h => h l List.mem_cons_self
  | l :: m :: r, h => asc_app (h l List.mem_cons_self) (asc_app ha (joinL_asc ha fun x hx => h x (List.mem_cons_of_mem _ hx)))
theorem vt_asc (v : Val) : asc (vt v) := by
  cases v with
  | i z => exact numI_asc z
  | t z ms => exact asc_cons (by decide) (asc_app (numI_asc z) (asc_cons (by decide) (asc_app (joinL_asc (asc_cons (by decide) asc_nil) fun l hl => by
      obtain ⟨m, _, rfl⟩ := List.mem_map.mp hl
      exact numI_asc m) (asc_cons (by decide) asc_nil))))
theorem hst_asc {h : Hs} (ok : HOk h) : asc (hst h) := by
  refine asc_app (fun x hx => by have := ok.1.1 x hx; omega) fun x hx => ?_
  obtain ⟨l, hl, hx⟩ := List.mem_flatten.mp hx
  obtain ⟨v, _, rfl⟩ := List.mem_map.mp hl
  exact asc_cons (by decide) (vt_asc v) x hx
theorem strOk_S {l : List Nat} (h : asc l) : PyData.canLay0 (.str (S l)) = true := by
  show ((S l).cps.all _) = true
  rw [← Array.all_toList, List.all_eq_true]
  intro x hx
  have := h x hx
  simp
  omega
theorem dats_S : ∀ (ls : List (List Nat)) (k : Nat), dats L (k + 1) (ls.map fun l => D.str (S l)) = some (ls.map fun l => PyData.str (S l))
  | [], _ => by simp [dats]
  | l :: ls, k => by
    have ih := dats_S ls k
    cases k <;> simp [dats, dat, ih]
theorem lay_S : ∀ {ls : List (List Nat)}, (∀ l ∈ ls, asc l) → PyData.canLayAll0 (ls.map fun l => PyData.str (S l)) = true ∧ PyData.depthAll (ls.map fun l => PyData.str (S l)) = 0
  | [], _ => ⟨rfl, rfl⟩
  | l :: ls, h => by
    obtain ⟨h1, h2⟩ := lay_S fun x hx => h x (List.mem_cons_of_mem _ hx)
    refine ⟨?_, ?_⟩
    · show (PyData.canLay0 (.str (S l)) && _) = true
      rw [strOk_S (h l List.mem_cons_self), h1]
      rfl
    · show max 0 (PyData.depthAll _) = 0
      rw [h2]
      rfl
theorem eq_empty {ls : List (List Nat)} {x y : Nat} (h : ∀ l ∈ ls, asc l) (h1 : L[x]? = some (.lst (ls.map fun l => D.str (S l)))) (h2 : L[y]? = some (.lst [])) : eqD L (.ref x) (.ref y) = some ls.isEmpty := by
  obtain ⟨g1, g2⟩ := lay_S h
  have d1 : dat L 80 (.ref x) = some (.list (ls.map fun l => PyData.str (S l))) := by
    simp only [dat, h1, dats_S, Option.map_some]
  have d2 : dat L 80 (.ref y) = some (.list []) := by
    simp only [dat, h2, dats, Option.map_some]
  have s1 : SeqAt.shaped (.list (ls.map fun l => PyData.str (S l))) = true := by
    show (PyData.canLayAll0 _ && decide (PyData.depthAll _ + 1 ≤ 64)) = true
    rw [g1, g2]
    rfl
  have s2 : SeqAt.shaped (.list []) = true := rfl
  show ((dat L 80 (.ref x)).bind fun x => (dat L 80 (.ref y)).bind fun y => if SeqAt.shaped x && SeqAt.shaped y then some (PyData.eqv x y) else none) = _
  rw [d1, d2]
  simp only [Option.bind_some, s1, s2, Bool.and_self, if_true, Option.some.injEq]
  cases ls <;> rfl
theorem law_history_text_spec {a : Nat} {hs : List Hs} (ok : ∀ h ∈ hs, HOk h) (hl : hs.length ≤ 6) (ha : L[a]? = some (.lst (hs.map hD))) :
    Runs (callN R.T wf (n + 2) f__law_history_text [.ref a] L) fun d L' => d = .str (S (htx hs)) ∧ ∃ u, L' = L ++ u := by
  refine go_def (fd := fd__law_history_text) rfl rfl ?_
  simp only [fd__law_history_text, ir__law_history_text]
  refine go_cons (go_var ?_)
  refine go_lc ?_
  try simp -implicitDefEqProofs only [fs_nil, fs_cons, fmt_str, fmt_int, ev_var, ev_cint, ev_cstr, ev_cbl, ev_cnon, ev_gcon, ev_bop, ev_neg, ev_cmp, ev_isn, ev_nisn, ev_chain, ev_and, ev_or, ev_not, ev_ife, ev_tup, ev_lst, ev_ix, ev_sl, ev_call, ev_meth, ev_make, ev_attr, ev_bi, ev_bm, ev_isin, ev_fstr, evEs, evB, evT, evO, evI, puT, puTs, List.map, List.replicate, List.length, Nat.sub_self, List.append, List.cons_append, List.nil_append, List.getElem?_cons_zero, List.getElem?_cons_succ, must, Option.bind_some, Mi.ret, at5_0, at5_1, at5_2, at5_3, at5_4, ix5_1, ix5_2, ix5_3, ix5_4, List.set_cons_succ, List.set_cons_zero, runs_ok, runs_bind, runs_quiet, Then, after_rt, after_nx, Option.map_some, List.length_map, tgLen, if_true, if_false, eq_self, Bool.false_eq_true, reduceIte, bmTag, Bool.and_self, sz0, sz1, sz2, sz3, sz4, sz5, sz6, sz7, sz8, sz9, sz10, sz11, sz12, Int.reduceLE, Int.reduceLT, Int.reduceToNat, Int.reduceNe, Int.reduceEq, Int.reduceNeg, decide_true, decide_false, Bool.true_and, Bool.and_true, Bool.or_true, Bool.true_or, Bool.not_true, Bool.not_false, ne_eq, not_false_eq_true, Nat.reducePow, Int.reducePow, na10, int_d, jx5_1, jx5_2, jx5_3, jx5_4, b_add, b_sub, b_adds, b_addt, b_addl, b_mul, b_fdiv, b_mod, b_pow, c_eq, c_ne, c_in, c_nin, c_lt, c_le, c_gt, c_ge, e_ii, e_ss, e_bb, t_bl, t_int, t_non, t_str, t_ref, t_tup, s_ref, s_tup, s_fzl, l_ref, l_fzl, l_tup, i_ref, i_tup, i_fzl, i_str, put_ref, slq_fzl, slq_str, new_l, int_d, src_fzl, src_tup, src_str, src_ref, get_snoc, n_len_s, n_len_t, n_len_r, n_len_f, n_int_i, n_int_b, n_int_s, n_abs, n_tup_r, n_lst_r, n_str_i, n_str_s, nn_non, nn_int, nn_str, nn_bl, nn_tup, nn_ref, tag_is_str, tag_is_int, tag_is_bl, tag_is_non, tag_is_tup, tag_is_ref, Option.some.injEq, reduceCtorEq, ha]
  refine (lc_mapA (as := hs) hD (fun h => .str (S (hst h))) (fun _ _ => rfl) (by omega) (fun u i => ?_) ?_ fun h hh u => ?_).imp fun _ L2 ⟨u, e⟩ => ?_
  · simp only [Wk.at, Src.at, pre_keep ha]
  · simp only [Wk.len, Src.len, pre_keep ha, List.length_map]
  · have okh := ok h hh
    have e32 : (" " : Str) = S [32] := by decide +kernel
    have e0 : ("" : Str) = S [] := by decide +kernel
    rw [e32, e0]
    try simp -implicitDefEqProofs only [fs_nil, fs_cons, fmt_str, fmt_int, ev_var, ev_cint, ev_cstr, ev_cbl, ev_cnon, ev_gcon, ev_bop, ev_neg, ev_cmp, ev_isn, ev_nisn, ev_chain, ev_and, ev_or, ev_not, ev_ife, ev_tup, ev_lst, ev_ix, ev_sl, ev_call, ev_meth, ev_make, ev_attr, ev_bi, ev_bm, ev_isin, ev_fstr, evEs, evB, evT, evO, evI, puT, puTs, List.map, List.replicate, List.length, Nat.sub_self, List.append, List.cons_append, List.nil_append, List.getElem?_cons_zero, List.getElem?_cons_succ, must, Option.bind_some, Mi.ret, at5_0, at5_1, at5_2, at5_3, at5_4, ix5_1, ix5_2, ix5_3, ix5_4, List.set_cons_succ, List.set_cons_zero, runs_ok, runs_bind, runs_quiet, Then, after_rt, after_nx, Option.map_some, List.length_map, tgLen, if_true, if_false, eq_self, Bool.false_eq_true, reduceIte, bmTag, Bool.and_self, sz0, sz1, sz2, sz3, sz4, sz5, sz6, sz7, sz8, sz9, sz10, sz11, sz12, Int.reduceLE, Int.reduceLT, Int.reduceToNat, Int.reduceNe, Int.reduceEq, Int.reduceNeg, decide_true, decide_false, Bool.true_and, Bool.and_true, Bool.or_true, Bool.true_or, Bool.not_true, Bool.not_false, ne_eq, not_false_eq_true, Nat.reducePow, Int.reducePow, na10, int_d, jx5_1, jx5_2, jx5_3, jx5_4, b_add, b_sub, b_adds, b_addt, b_addl, b_mul, b_fdiv, b_mod, b_pow, c_eq, c_ne, c_in, c_nin, c_lt, c_le, c_gt, c_ge, e_ii, e_ss, e_bb, t_bl, t_int, t_non, t_str, t_ref, t_tup, s_ref, s_tup, s_fzl, l_ref, l_fzl, l_tup, i_ref, i_tup, i_fzl, i_str, put_ref, slq_fzl, slq_str, new_l, int_d, src_fzl, src_tup, src_str, src_ref, get_snoc, n_len_s, n_len_t, n_len_r, n_len_f, n_int_i, n_int_b, n_int_s, n_abs, n_tup_r, n_lst_r, n_str_i, n_str_s, nn_non, nn_int, nn_str, nn_bl, nn_tup, nn_ref, tag_is_str, tag_is_int, tag_is_bl, tag_is_non, tag_is_tup, tag_is_ref, Option.some.injEq, reduceCtorEq, wipeL, hD]
    refine go_lc ?_
    try simp -implicitDefEqProofs only [fs_nil, fs_cons, fmt_str, fmt_int, ev_var, ev_cint, ev_cstr, ev_cbl, ev_cnon, ev_gcon, ev_bop, ev_neg, ev_cmp, ev_isn, ev_nisn, ev_chain, ev_and, ev_or, ev_not, ev_ife, ev_tup, ev_lst, ev_ix, ev_sl, ev_call, ev_meth, ev_make, ev_attr, ev_bi, ev_bm, ev_isin, ev_fstr, evEs, evB, evT, evO, evI, puT, puTs, List.map, List.replicate, List.length, Nat.sub_self, List.append, List.cons_append, List.nil_append, List.getElem?_cons_zero, List.getElem?_cons_succ, must, Option.bind_some, Mi.ret, at5_0, at5_1, at5_2, at5_3, at5_4, ix5_1, ix5_2, ix5_3, ix5_4, List.set_cons_succ, List.set_cons_zero, runs_ok, runs_bind, runs_quiet, Then, after_rt, after_nx, Option.map_some, List.length_map, tgLen, if_true, if_false, eq_self, Bool.false_eq_true, reduceIte, bmTag, Bool.and_self, sz0, sz1, sz2, sz3, sz4, sz5, sz6, sz7, sz8, sz9, sz10, sz11, sz12, Int.reduceLE, Int.reduceLT, Int.reduceToNat, Int.reduceNe, Int.reduceEq, Int.reduceNeg, decide_true, decide_false, Bool.true_and, Bool.and_true, Bool.or_true, Bool.true_or, Bool.not_true, Bool.not_false, ne_eq, not_false_eq_true, Nat.reducePow, Int.reducePow, na10, int_d, jx5_1, jx5_2, jx5_3, jx5_4, b_add, b_sub, b_adds, b_addt, b_addl, b_mul, b_fdiv, b_mod, b_pow, c_eq, c_ne, c_in, c_nin, c_lt, c_le, c_gt, c_ge, e_ii, e_ss, e_bb, t_bl, t_int, t_non, t_str, t_ref, t_tup, s_ref, s_tup, s_fzl, l_ref, l_fzl, l_tup, i_ref, i_tup, i_fzl, i_str, put_ref, slq_fzl, slq_str, new_l, int_d, src_fzl, src_tup, src_str, src_ref, get_snoc, n_len_s, n_len_t, n_len_r, n_len_f, n_int_i, n_int_b, n_int_s, n_abs, n_tup_r, n_lst_r, n_str_i, n_str_s, nn_non, nn_int, nn_str, nn_bl, nn_tup, nn_ref, tag_is_str, tag_is_int, tag_is_bl, tag_is_non, tag_is_tup, tag_is_ref, Option.some.injEq, reduceCtorEq]
    refine (lc_mapA (as := h.vs) vD (fun v => .str (S (32 :: vt v))) (fun _ _ => rfl) (by have := okh.2.1; omega) (fun u' i => rfl) (by simp [Wk.len, Src.len]) fun v hv u' => ?_).imp fun _ L3 ⟨u3, e3⟩ => ?_
    · try simp -implicitDefEqProofs only [fs_nil, fs_cons, fmt_str, fmt_int, ev_var, ev_cint, ev_cstr, ev_cbl, ev_cnon, ev_gcon, ev_bop, ev_neg, ev_cmp, ev_isn, ev_nisn, ev_chain, ev_and, ev_or, ev_not, ev_ife, ev_tup, ev_lst, ev_ix, ev_sl, ev_call, ev_meth, ev_make, ev_attr, ev_bi, ev_bm, ev_isin, ev_fstr, evEs, evB, evT, evO, evI, puT, puTs, List.map, List.replicate, List.length, Nat.sub_self, List.append, List.cons_append, List.nil_append, List.getElem?_cons_zero, List.getElem?_cons_succ, must, Option.bind_some, Mi.ret, at5_0, at5_1, at5_2, at5_3, at5_4, ix5_1, ix5_2, ix5_3, ix5_4, List.set_cons_succ, List.set_cons_zero, runs_ok, runs_bind, runs_quiet, Then, after_rt, after_nx, Option.map_some, List.length_map, tgLen, if_true, if_false, eq_self, Bool.false_eq_true, reduceIte, bmTag, Bool.and_self, sz0, sz1, sz2, sz3, sz4, sz5, sz6, sz7, sz8, sz9, sz10, sz11, sz12, Int.reduceLE, Int.reduceLT, Int.reduceToNat, Int.reduceNe, Int.reduceEq, Int.reduceNeg, decide_true, decide_false, Bool.true_and, Bool.and_true, Bool.or_true, Bool.true_or, Bool.not_true, Bool.not_false, ne_eq, not_false_eq_true, Nat.reducePow, Int.reducePow, na10, int_d, jx5_1, jx5_2, jx5_3, jx5_4, b_add, b_sub, b_adds, b_addt, b_addl, b_mul, b_fdiv, b_mod, b_pow, c_eq, c_ne, c_in, c_nin, c_lt, c_le, c_gt, c_ge, e_ii, e_ss, e_bb, t_bl, t_int, t_non, t_str, t_ref, t_tup, s_ref, s_tup, s_fzl, l_ref, l_fzl, l_tup, i_ref, i_tup, i_fzl, i_str, put_ref, slq_fzl, slq_str, new_l, int_d, src_fzl, src_tup, src_str, src_ref, get_snoc, n_len_s, n_len_t, n_len_r, n_len_f, n_int_i, n_int_b, n_int_s, n_abs, n_tup_r, n_lst_r, n_str_i, n_str_s, nn_non, nn_int, nn_str, nn_bl, nn_tup, nn_ref, tag_is_str, tag_is_int, tag_is_bl, tag_is_non, tag_is_tup, tag_is_ref, Option.some.injEq, reduceCtorEq, wipeL, cl_is_name, cl_value_text, cl_history_text, cl_read_integer, cl_read_value, cl_read_history, cl__law_draws, cl__law_pull, cl__law_any, cl__law_like, cl__law_reserved, cl__law_new_names, cl__law_far, cl__law_far_value, cl__law_value_text, cl__law_history_text, cl_law]
      have okv := okh.2.2 v hv
      refine (law_value_text_spec (n := n) okv).imp fun d L4 ⟨q1, u4, q2⟩ => ?_
      subst q1
      have vl := vt_len okv
      try simp -implicitDefEqProofs only [fs_nil, fs_cons, fmt_str, fmt_int, ev_var, ev_cint, ev_cstr, ev_cbl, ev_cnon, ev_gcon, ev_bop, ev_neg, ev_cmp, ev_isn, ev_nisn, ev_chain, ev_and, ev_or, ev_not, ev_ife, ev_tup, ev_lst, ev_ix, ev_sl, ev_call, ev_meth, ev_make, ev_attr, ev_bi, ev_bm, ev_isin, ev_fstr, evEs, evB, evT, evO, evI, puT, puTs, List.map, List.replicate, List.length, Nat.sub_self, List.append, List.cons_append, List.nil_append, List.getElem?_cons_zero, List.getElem?_cons_succ, must, Option.bind_some, Mi.ret, at5_0, at5_1, at5_2, at5_3, at5_4, ix5_1, ix5_2, ix5_3, ix5_4, List.set_cons_succ, List.set_cons_zero, runs_ok, runs_bind, runs_quiet, Then, after_rt, after_nx, Option.map_some, List.length_map, tgLen, if_true, if_false, eq_self, Bool.false_eq_true, reduceIte, bmTag, Bool.and_self, sz0, sz1, sz2, sz3, sz4, sz5, sz6, sz7, sz8, sz9, sz10, sz11, sz12, Int.reduceLE, Int.reduceLT, Int.reduceToNat, Int.reduceNe, Int.reduceEq, Int.reduceNeg, decide_true, decide_false, Bool.true_and, Bool.and_true, Bool.or_true, Bool.true_or, Bool.not_true, Bool.not_false, ne_eq, not_false_eq_true, Nat.reducePow, Int.reducePow, na10, int_d, jx5_1, jx5_2, jx5_3, jx5_4, b_add, b_sub, b_adds, b_addt, b_addl, b_mul, b_fdiv, b_mod, b_pow, c_eq, c_ne, c_in, c_nin, c_lt, c_le, c_gt, c_ge, e_ii, e_ss, e_bb, t_bl, t_int, t_non, t_str, t_ref, t_tup, s_ref, s_tup, s_fzl, l_ref, l_fzl, l_tup, i_ref, i_tup, i_fzl, i_str, put_ref, slq_fzl, slq_str, new_l, int_d, src_fzl, src_tup, src_str, src_ref, get_snoc, n_len_s, n_len_t, n_len_r, n_len_f, n_int_i, n_int_b, n_int_s, n_abs, n_tup_r, n_lst_r, n_str_i, n_str_s, nn_non, nn_int, nn_str, nn_bl, nn_tup, nn_ref, tag_is_str, tag_is_int, tag_is_bl, tag_is_non, tag_is_tup, tag_is_ref, Option.some.injEq, reduceCtorEq, S_cat, szS2 (a := [32]) (l := vt v) (by rw [List.length_singleton]; omega)]
      exact ⟨trivial, u4, q2⟩
    · subst e3
      have g1 : (L ++ u ++ [O.lst (h.vs.map fun v => D.str (S (32 :: vt v)))] ++ u3)[(L ++ u).length]? = some (.lst ((h.vs.map fun v => 32 :: vt v).map fun l => D.str (S l))) := by
        rw [List.map_map]
        exact pre_keep get_snoc
      have sm := sum_le (B := 261) (ls := h.vs.map fun v => 32 :: vt v) fun l hl => by
        obtain ⟨v, hv, rfl⟩ := List.mem_map.mp hl
        have := vt_len (okh.2.2 v hv)
        rw [List.length_cons]
        omega
      rw [List.length_map] at sm
      have sm2 := Nat.le_trans sm (Nat.mul_le_mul_right 261 okh.2.1)
      have hz : ((h.vs.map fun v => 32 :: vt v).map List.length).sum + (h.vs.map fun v => 32 :: vt v).length * ([] : List Nat).length ≤ 16777216 := by
        rw [List.length_nil, Nat.mul_zero]
        omega
      have hj := bm_join g1 hz
      rw [joinL_nil] at hj
      rw [hj, runs_ok]
      have nl := okh.1.2.2.1
      have fl : (h.vs.map fun v => 32 :: vt v).flatten.length ≤ 5 * 261 := by
        rw [List.length_flatten]
        exact sm2
      try simp -implicitDefEqProofs only [fs_nil, fs_cons, fmt_str, fmt_int, ev_var, ev_cint, ev_cstr, ev_cbl, ev_cnon, ev_gcon, ev_bop, ev_neg, ev_cmp, ev_isn, ev_nisn, ev_chain, ev_and, ev_or, ev_not, ev_ife, ev_tup, ev_lst, ev_ix, ev_sl, ev_call, ev_meth, ev_make, ev_attr, ev_bi, ev_bm, ev_isin, ev_fstr, evEs, evB, evT, evO, evI, puT, puTs, List.map, List.replicate, List.length, Nat.sub_self, List.append, List.cons_append, List.nil_append, List.getElem?_cons_zero, List.getElem?_cons_succ, must, Option.bind_some, Mi.ret, at5_0, at5_1, at5_2, at5_3, at5_4, ix5_1, ix5_2, ix5_3, ix5_4, List.set_cons_succ, List.set_cons_zero, runs_ok, runs_bind, runs_quiet, Then, after_rt, after_nx, Option.map_some, List.length_map, tgLen, if_true, if_false, eq_self, Bool.false_eq_true, reduceIte, bmTag, Bool.and_self, sz0, sz1, sz2, sz3, sz4, sz5, sz6, sz7, sz8, sz9, sz10, sz11, sz12, Int.reduceLE, Int.reduceLT, Int.reduceToNat, Int.reduceNe, Int.reduceEq, Int.reduceNeg, decide_true, decide_false, Bool.true_and, Bool.and_true, Bool.or_true, Bool.true_or, Bool.not_true, Bool.not_false, ne_eq, not_false_eq_true, Nat.reducePow, Int.reducePow, na10, int_d, jx5_1, jx5_2, jx5_3, jx5_4, b_add, b_sub, b_adds, b_addt, b_addl, b_mul, b_fdiv, b_mod, b_pow, c_eq, c_ne, c_in, c_nin, c_lt, c_le, c_gt, c_ge, e_ii, e_ss, e_bb, t_bl, t_int, t_non, t_str, t_ref, t_tup, s_ref, s_tup, s_fzl, l_ref, l_fzl, l_tup, i_ref, i_tup, i_fzl, i_str, put_ref, slq_fzl, slq_str, new_l, int_d, src_fzl, src_tup, src_str, src_ref, get_snoc, n_len_s, n_len_t, n_len_r, n_len_f, n_int_i, n_int_b, n_int_s, n_abs, n_tup_r, n_lst_r, n_str_i, n_str_s, nn_non, nn_int, nn_str, nn_bl, nn_tup, nn_ref, tag_is_str, tag_is_int, tag_is_bl, tag_is_non, tag_is_tup, tag_is_ref, Option.some.injEq, reduceCtorEq, S_cat, szS2 (a := h.nm) (l := (h.vs.map fun v => 32 :: vt v).flatten) (by omega)]
      exact ⟨rfl, _, List.append_assoc _ _ _⟩
  · subst e
    have g1 : (L ++ [O.lst (hs.map fun h => D.str (S (hst h)))] ++ u)[L.length]? = some (.lst ((hs.map hst).map fun l => D.str (S l))) := by
      rw [List.map_map]
      exact pre_keep get_snoc
    have e1 : (" ; " : Str) = S [32, 59, 32] := by decide +kernel
    have e2 : ("-" : Str) = S [45] := by decide +kernel
    have hall : ∀ l ∈ hs.map hst, asc l := fun l hl => by
      obtain ⟨h, hh, rfl⟩ := List.mem_map.mp hl
      exact hst_asc (ok h hh)
    refine go_cons (go_ret ?_)
    rw [e1, e2]
    have q := eq_empty (L := L ++ [O.lst (hs.map fun h => D.str (S (hst h)))] ++ u ++ [O.lst []]) hall (pre_keep g1) get_snoc
    try simp -implicitDefEqProofs only [fs_nil, fs_cons, fmt_str, fmt_int, ev_var, ev_cint, ev_cstr, ev_cbl, ev_cnon, ev_gcon, ev_bop, ev_neg, ev_cmp, ev_isn, ev_nisn, ev_chain, ev_and, ev_or, ev_not, ev_ife, ev_tup, ev_lst, ev_ix, ev_sl, ev_call, ev_meth, ev_make, ev_attr, ev_bi, ev_bm, ev_isin, ev_fstr, evEs, evB, evT, evO, evI, puT, puTs, List.map, List.replicate, List.length, Nat.sub_self, List.append, List.cons_append, List.nil_append, List.getElem?_cons_zero, List.getElem?_cons_succ, must, Option.bind_some, Mi.ret, at5_0, at5_1, at5_2, at5_3, at5_4, ix5_1, ix5_2, ix5_3, ix5_4, List.set_cons_succ, List.set_cons_zero, runs_ok, runs_bind, runs_quiet, Then, after_rt, after_nx, Option.map_some, List.length_map, tgLen, if_true, if_false, eq_self, Bool.false_eq_true, reduceIte, bmTag, Bool.and_self, sz0, sz1, sz2, sz3, sz4, sz5, sz6, sz7, sz8, sz9, sz10, sz11, sz12, Int.reduceLE, Int.reduceLT, Int.reduceToNat, Int.reduceNe, Int.reduceEq, Int.reduceNeg, decide_true, decide_false, Bool.true_and, Bool.and_true, Bool.or_true, Bool.true_or, Bool.not_true, Bool.not_false, ne_eq, not_false_eq_true, Nat.reducePow, Int.reducePow, na10, int_d, jx5_1, jx5_2, jx5_3, jx5_4, b_add, b_sub, b_adds, b_addt, b_addl, b_mul, b_fdiv, b_mod, b_pow, c_eq, c_ne, c_in, c_nin, c_lt, c_le, c_gt, c_ge, e_ii, e_ss, e_bb, t_bl, t_int, t_non, t_str, t_ref, t_tup, s_ref, s_tup, s_fzl, l_ref, l_fzl, l_tup, i_ref, i_tup, i_fzl, i_str, put_ref, slq_fzl, slq_str, new_l, int_d, src_fzl, src_tup, src_str, src_ref, get_snoc, n_len_s, n_len_t, n_len_r, n_len_f, n_int_i, n_int_b, n_int_s, n_abs, n_tup_r, n_lst_r, n_str_i, n_str_s, nn_non, nn_int, nn_str, nn_bl, nn_tup, nn_ref, tag_is_str, tag_is_int, tag_is_bl, tag_is_non, tag_is_tup, tag_is_ref, Option.some.injEq, reduceCtorEq, q]
    cases hs with
    | nil => exact Runs.ok ⟨rfl, _, by simp only [List.append_assoc]; rfl⟩
    | cons h r =>
      try simp -implicitDefEqProofs only [fs_nil, fs_cons, fmt_str, fmt_int, ev_var, ev_cint, ev_cstr, ev_cbl, ev_cnon, ev_gcon, ev_bop, ev_neg, ev_cmp, ev_isn, ev_nisn, ev_chain, ev_and, ev_or, ev_not, ev_ife, ev_tup, ev_lst, ev_ix, ev_sl, ev_call, ev_meth, ev_make, ev_attr, ev_bi, ev_bm, ev_isin, ev_fstr, evEs, evB, evT, evO, evI, puT, puTs, List.map, List.replicate, List.length, Nat.sub_self, List.append, List.cons_append, List.nil_append, List.getElem?_cons_zero, List.getElem?_cons_succ, must, Option.bind_some, Mi.ret, at5_0, at5_1, at5_2, at5_3, at5_4, ix5_1, ix5_2, ix5_3, ix5_4, List.set_cons_succ, List.set_cons_zero, runs_ok, runs_bind, runs_quiet, Then, after_rt, after_nx, Option.map_some, List.length_map, tgLen, if_true, if_false, eq_self, Bool.false_eq_true, reduceIte, bmTag, Bool.and_self, sz0, sz1, sz2, sz3, sz4, sz5, sz6, sz7, sz8, sz9, sz10, sz11, sz12, Int.reduceLE, Int.reduceLT, Int.reduceToNat, Int.reduceNe, Int.reduceEq, Int.reduceNeg, decide_true, decide_false, Bool.true_and, Bool.and_true, Bool.or_true, Bool.true_or, Bool.not_true, Bool.not_false, ne_eq, not_false_eq_true, Nat.reducePow, Int.reducePow, na10, int_d, jx5_1, jx5_2, jx5_3, jx5_4, b_add, b_sub, b_adds, b_addt, b_addl, b_mul, b_fdiv, b_mod, b_pow, c_eq, c_ne, c_in, c_nin, c_lt, c_le, c_gt, c_ge, e_ii, e_ss, e_bb, t_bl, t_int, t_non, t_str, t_ref, t_tup, s_ref, s_tup, s_fzl, l_ref, l_fzl, l_tup, i_ref, i_tup, i_fzl, i_str, put_ref, slq_fzl, slq_str, new_l, int_d, src_fzl, src_tup, src_str, src_ref, get_snoc, n_len_s, n_len_t, n_len_r, n_len_f, n_int_i, n_int_b, n_int_s, n_abs, n_tup_r, n_lst_r, n_str_i, n_str_s, nn_non, nn_int, nn_str, nn_bl, nn_tup, nn_ref, tag_is_str, tag_is_int, tag_is_bl, tag_is_non, tag_is_tup, tag_is_ref, Option.some.injEq, reduceCtorEq, List.isEmpty]
      exact ⟨_, _, bm_join (pre_keep g1) (steps_sum ok hl), rfl, _, by simp only [List.append_assoc]; rfl⟩
end
end Row
end

section
set_option Elab.async false
set_option linter.all false
set_option maxRecDepth 100000
set_option maxHeartbeats 4000000
namespace Row
open PySem PySem.Spec L2 Mi SX PySem.Builtin.Str
theorem starts_S (x c : Nat) (r : List Nat) : Txt.startswith (S (x :: r)) (S [c]) = decide (x = c) := by
  unfold Txt.startswith
  rw [S_len, S_len]
  have h1 : decide (0 + [c].length ≤ (x :: r).length) = true := decide_eq_true (by simp)
  rw [h1, Bool.true_and]
  unfold subAt
  simp [S, Str.length]
  rfl
theorem numL_head : ∀ (k : Nat), k < 10 ∨ ∃ x r, TL.numL k = x :: r ∧ x ≠ 48 ∧ r ≠ [] := by
  intro k
  induction k using Nat.strongRecOn with
  | ind k ih =>
    by_cases h : k < 10
    · exact .inl h
    · right
      have e := TL.numL_step (n := k) (by omega)
      rcases ih (k / 10) (by omega) with h1 | ⟨x, r, h1, h2, h3⟩
      · rw [TL.numL_lt h1] at e
        exact ⟨48 + k / 10, [48 + k % 10], e, by omega, by simp⟩
      · rw [h1] at e
        exact ⟨x, r ++ [48 + k % 10], e, h2, by simp⟩
def figL : List Nat := [48, 49, 50, 51, 52, 53, 54, 55, 56, 57]
theorem fig_S : ("0123456789" : Str) = S figL := by decide +kernel
theorem fig_mem {x : Nat} (h : 48 ≤ x ∧ x ≤ 57) : x ∈ figL := by
  obtain ⟨h1, h2⟩ := h
  have : x = 48 ∨ x = 49 ∨ x = 50 ∨ x = 51 ∨ x = 52 ∨ x = 53 ∨ x = 54 ∨ x = 55 ∨ x = 56 ∨ x = 57 := by omega
  rcases this with rfl | rfl | rfl | rfl | rfl | rfl | rfl | rfl | rfl | rfl <;> decide
section
variable {n : Nat} {L L' : MH} {b c : Nat} {C : Nat → List D → M D}
theorem in_chars {x : Nat} {l : List Nat} : inD L (.str ⟨#[x]⟩) (.str (S l)) = some (decide (x ∈ l)) := by
  show some (!(occurrences (S l) (S [x]) 0 (S l).length 1).isEmpty) = _
  rw [in_one]
theorem src_S {l : List Nat} (h : l.length < 1000000) : (srcOf L (.str (S l))).map Wk.src = some (.src (.val (l.map fun x => .str ⟨#[x]⟩))) := by
  rw [src_str, if_pos (szS h)]
  rfl
/-- [x in l for x in text] -/
theorem all_in {elt : Mi.Loc → M D} {test : Mi.Loc → M Bool} {put : D → Mi.Loc → M Mi.Loc} {ρ : Mi.Loc} {l ks : List Nat} (htest : ∀ ρ L, test ρ L = .ok true L) (hl : l.length < 1000000) (hin : ∀ x ∈ l, x ∈ ks)
    (step : ∀ (x : Nat) (L : MH), Runs (put (.str ⟨#[x]⟩) ρ L) fun ρ1 L2 => Runs (elt ρ1 L2) fun d L3 => d = .bl (decide (x ∈ ks)) ∧ L3 = L) :
    Runs (lcL elt test put (.src (.val (l.map fun x => .str ⟨#[x]⟩))) L.length ρ (Wk.len (L ++ [.lst []]) (.src (.val (l.map fun x => .str ⟨#[x]⟩)))) 0 (L ++ [.lst []])) fun _ L2 => ∃ u, L2 = L ++ [.lst (List.replicate l.length (.bl true))] ++ u := by
  refine (lc_mapA (as := l) (fun x => .str ⟨#[x]⟩) (fun _ => .bl true) htest (by omega) (fun u i => rfl) (by simp [Wk.len, Src.len]) fun x hx u => ?_).imp fun _ L2 ⟨u, e⟩ => ⟨u, ?_⟩
  · refine (step x (L ++ u)).imp fun ρ1 L2 h => h.imp fun d L3 ⟨h1, h2⟩ => ⟨?_, [], by rw [h2, List.append_nil]⟩
    rw [h1, decide_eq_true (hin x hx)]
  · rw [e, List.map_const']
theorem int_back {z : Int} (h : FarZ z) : intText? (S (numI z)) = some z := by
  obtain ⟨h1, h2⟩ := num_len h
  unfold numI at h2 ⊢
  by_cases hz : z < 0
  · rw [if_pos hz] at h2 ⊢
    have e := intText_neg (x := S (45 :: TL.numL z.natAbs)) (cs := TL.numL z.natAbs) rfl (TL.numL_digits _) (TL.numL_ne _) (by rw [S_len]; omega)
    rw [e, TL.numL_val]
    congr 1
    omega
  · rw [if_neg hz] at h2 ⊢
    have e := intText_digits (x := S (TL.numL z.natAbs)) (TL.numL_digits _) (TL.numL_ne _) (by rw [S_len]; omega)
    rw [e]
    show some ((NumText.digitsVal (TL.numL z.natAbs) : Nat) : Int) = some z
    rw [TL.numL_val]
    congr 1
    omega
/-- read_integer: behind the sign -/
theorem read_tail {t ds : List Nat} {z : Int} (hd : NumText.AllDigits ds) (hne : ds ≠ []) (hl : ds.length ≤ 60) (hz : ds.head? = some 48 → t = [48]) (hi : intText? (S t) = some z) (htl : t.length ≤ 61) :
    Runs (exSs R.T (callN R.T wf n) wf (.cons (.ife (.or (.not (.chain .LtE .LtE (.cint 1) (.bi .len (.cons (.var 1) .nil)) (.gcon 4))) (.not (.bi .all (.cons (.lc (.cmp .In (.var 2) (.gcon 3)) (.var 2) (.seq (.var 1)) .none [2]) .nil)))) (.cons (.ret .cnon) .nil) .nil) (.cons (.ife (.and (.cmp .Eq (.ix (.var 1) (.cint 0)) (.cstr "0")) (.cmp .NotEq (.var 0) (.cstr "0"))) (.cons (.ret .cnon) .nil) .nil) (.cons (.ret (.bi .int1 (.cons (.var 0) .nil))) .nil))) [some (.str (S t)), some (.str (S ds)), none] L)
      (After fun d L' => d = .int z ∧ ∃ u, L' = L ++ u) := by
  have k4 : R.T.con 4 = some (.int 60) := rfl
  have k3 : R.T.con 3 = some (.str "0123456789") := rfl
  have l0 : 0 < ds.length := List.length_pos_iff.mpr hne
  have z1 : sizeOkB (S ds).length = true := szS (by omega)
  have c1 : decide ((1 : Int) ≤ ((S ds).length : Int)) = true := decide_eq_true (by rw [S_len]; omega)
  have c2 : decide (((S ds).length : Int) ≤ 60) = true := decide_eq_true (by rw [S_len]; omega)
  refine go_cons (go_if ?_)
  try simp -implicitDefEqProofs only [fs_nil, fs_cons, fmt_str, fmt_int, ev_var, ev_cint, ev_cstr, ev_cbl, ev_cnon, ev_gcon, ev_bop, ev_neg, ev_cmp, ev_isn, ev_nisn, ev_chain, ev_and, ev_or, ev_not, ev_ife, ev_tup, ev_lst, ev_ix, ev_sl, ev_call, ev_meth, ev_make, ev_attr, ev_bi, ev_bm, ev_isin, ev_fstr, evEs, evB, evT, evO, evI, puT, puTs, List.map, List.replicate, List.length, Nat.sub_self, List.append, List.cons_append, List.nil_append, List.getElem?_cons_zero, List.getElem?_cons_succ, must, Option.bind_some, Mi.ret, at5_0, at5_1, at5_2, at5_3, at5_4, ix5_1, ix5_2, ix5_3, ix5_4, List.set_cons_succ, List.set_cons_zero, runs_ok, runs_bind, runs_quiet, Then, after_rt, after_nx, Option.map_some, List.length_map, tgLen, if_true, if_false, eq_self, Bool.false_eq_true, reduceIte, bmTag, Bool.and_self, sz0, sz1, sz2, sz3, sz4, sz5, sz6, sz7, sz8, sz9, sz10, sz11, sz12, Int.reduceLE, Int.reduceLT, Int.reduceToNat, Int.reduceNe, Int.reduceEq, Int.reduceNeg, decide_true, decide_false, Bool.true_and, Bool.and_true, Bool.or_true, Bool.true_or, Bool.not_true, Bool.not_false, ne_eq, not_false_eq_true, Nat.reducePow, Int.reducePow, na10, int_d, jx5_1, jx5_2, jx5_3, jx5_4, b_add, b_sub, b_adds, b_addt, b_addl, b_mul, b_fdiv, b_mod, b_pow, c_eq, c_ne, c_in, c_nin, c_lt, c_le, c_gt, c_ge, e_ii, e_ss, e_bb, t_bl, t_int, t_non, t_str, t_ref, t_tup, s_ref, s_tup, s_fzl, l_ref, l_fzl, l_tup, i_ref, i_tup, i_fzl, i_str, put_ref, slq_fzl, slq_str, new_l, int_d, src_fzl, src_tup, src_str, src_ref, get_snoc, n_len_s, n_len_t, n_len_r, n_len_f, n_int_i, n_int_b, n_int_s, n_abs, n_tup_r, n_lst_r, n_str_i, n_str_s, nn_non, nn_int, nn_str, nn_bl, nn_tup, nn_ref, tag_is_str, tag_is_int, tag_is_bl, tag_is_non, tag_is_tup, tag_is_ref, Option.some.injEq, reduceCtorEq, k4, z1, c1, c2]
  refine go_lc ?_
  try simp -implicitDefEqProofs only [fs_nil, fs_cons, fmt_str, fmt_int, ev_var, ev_cint, ev_cstr, ev_cbl, ev_cnon, ev_gcon, ev_bop, ev_neg, ev_cmp, ev_isn, ev_nisn, ev_chain, ev_and, ev_or, ev_not, ev_ife, ev_tup, ev_lst, ev_ix, ev_sl, ev_call, ev_meth, ev_make, ev_attr, ev_bi, ev_bm, ev_isin, ev_fstr, evEs, evB, evT, evO, evI, puT, puTs, List.map, List.replicate, List.length, Nat.sub_self, List.append, List.cons_append, List.nil_append, List.getElem?_cons_zero, List.getElem?_cons_succ, must, Option.bind_some, Mi.ret, at5_0, at5_1, at5_2, at5_3, at5_4, ix5_1, ix5_2, ix5_3, ix5_4, List.set_cons_succ, List.set_cons_zero, runs_ok, runs_bind, runs_quiet, Then, after_rt, after_nx, Option.map_some, List.length_map, tgLen, if_true, if_false, eq_self, Bool.false_eq_true, reduceIte, bmTag, Bool.and_self, sz0, sz1, sz2, sz3, sz4, sz5, sz6, sz7, sz8, sz9, sz10, sz11, sz12, Int.reduceLE, Int.reduceLT, Int.reduceToNat, Int.reduceNe, Int.reduceEq, Int.reduceNeg, decide_true, decide_false, Bool.true_and, Bool.and_true, Bool.or_true, Bool.true_or, Bool.not_true, Bool.not_false, ne_eq, not_false_eq_true, Nat.reducePow, Int.reducePow, na10, int_d, jx5_1, jx5_2, jx5_3, jx5_4, b_add, b_sub, b_adds, b_addt, b_addl, b_mul, b_fdiv, b_mod, b_pow, c_eq, c_ne, c_in, c_nin, c_lt, c_le, c_gt, c_ge, e_ii, e_ss, e_bb, t_bl, t_int, t_non, t_str, t_ref, t_tup, s_ref, s_tup, s_fzl, l_ref, l_fzl, l_tup, i_ref, i_tup, i_fzl, i_str, put_ref, slq_fzl, slq_str, new_l, int_d, src_fzl, src_tup, src_str, src_ref, get_snoc, n_len_s, n_len_t, n_len_r, n_len_f, n_int_i, n_int_b, n_int_s, n_abs, n_tup_r, n_lst_r, n_str_i, n_str_s, nn_non, nn_int, nn_str, nn_bl, nn_tup, nn_ref, tag_is_str, tag_is_int, tag_is_bl, tag_is_non, tag_is_tup, tag_is_ref, Option.some.injEq, reduceCtorEq, z1]
  have f1 : ("0123456789" : Str) = S figL := fig_S
  refine (all_in (ks := figL) (fun _ _ => rfl) (by omega) (fun x hx => fig_mem (hd x hx)) fun x L1 => ?_).imp fun _ L2 ⟨u, e⟩ => ?_
  · try simp -implicitDefEqProofs only [fs_nil, fs_cons, fmt_str, fmt_int, ev_var, ev_cint, ev_cstr, ev_cbl, ev_cnon, ev_gcon, ev_bop, ev_neg, ev_cmp, ev_isn, ev_nisn, ev_chain, ev_and, ev_or, ev_not, ev_ife, ev_tup, ev_lst, ev_ix, ev_sl, ev_call, ev_meth, ev_make, ev_attr, ev_bi, ev_bm, ev_isin, ev_fstr, evEs, evB, evT, evO, evI, puT, puTs, List.map, List.replicate, List.length, Nat.sub_self, List.append, List.cons_append, List.nil_append, List.getElem?_cons_zero, List.getElem?_cons_succ, must, Option.bind_some, Mi.ret, at5_0, at5_1, at5_2, at5_3, at5_4, ix5_1, ix5_2, ix5_3, ix5_4, List.set_cons_succ, List.set_cons_zero, runs_ok, runs_bind, runs_quiet, Then, after_rt, after_nx, Option.map_some, List.length_map, tgLen, if_true, if_false, eq_self, Bool.false_eq_true, reduceIte, bmTag, Bool.and_self, sz0, sz1, sz2, sz3, sz4, sz5, sz6, sz7, sz8, sz9, sz10, sz11, sz12, Int.reduceLE, Int.reduceLT, Int.reduceToNat, Int.reduceNe, Int.reduceEq, Int.reduceNeg, decide_true, decide_false, Bool.true_and, Bool.and_true, Bool.or_true, Bool.true_or, Bool.not_true, Bool.not_false, ne_eq, not_false_eq_true, Nat.reducePow, Int.reducePow, na10, int_d, jx5_1, jx5_2, jx5_3, jx5_4, b_add, b_sub, b_adds, b_addt, b_addl, b_mul, b_fdiv, b_mod, b_pow, c_eq, c_ne, c_in, c_nin, c_lt, c_le, c_gt, c_ge, e_ii, e_ss, e_bb, t_bl, t_int, t_non, t_str, t_ref, t_tup, s_ref, s_tup, s_fzl, l_ref, l_fzl, l_tup, i_ref, i_tup, i_fzl, i_str, put_ref, slq_fzl, slq_str, new_l, int_d, src_fzl, src_tup, src_str, src_ref, get_snoc, n_len_s, n_len_t, n_len_r, n_len_f, n_int_i, n_int_b, n_int_s, n_abs, n_tup_r, n_lst_r, n_str_i, n_str_s, nn_non, nn_int, nn_str, nn_bl, nn_tup, nn_ref, tag_is_str, tag_is_int, tag_is_bl, tag_is_non, tag_is_tup, tag_is_ref, Option.some.injEq, reduceCtorEq, wipeL, k3, f1, in_chars, and_self]
  subst e
  rw [all_true (k := ds.length) (pre_keep get_snoc), runs_ok]
  try simp -implicitDefEqProofs only [fs_nil, fs_cons, fmt_str, fmt_int, ev_var, ev_cint, ev_cstr, ev_cbl, ev_cnon, ev_gcon, ev_bop, ev_neg, ev_cmp, ev_isn, ev_nisn, ev_chain, ev_and, ev_or, ev_not, ev_ife, ev_tup, ev_lst, ev_ix, ev_sl, ev_call, ev_meth, ev_make, ev_attr, ev_bi, ev_bm, ev_isin, ev_fstr, evEs, evB, evT, evO, evI, puT, puTs, List.map, List.replicate, List.length, Nat.sub_self, List.append, List.cons_append, List.nil_append, List.getElem?_cons_zero, List.getElem?_cons_succ, must, Option.bind_some, Mi.ret, at5_0, at5_1, at5_2, at5_3, at5_4, ix5_1, ix5_2, ix5_3, ix5_4, List.set_cons_succ, List.set_cons_zero, runs_ok, runs_bind, runs_quiet, Then, after_rt, after_nx, Option.map_some, List.length_map, tgLen, if_true, if_false, eq_self, Bool.false_eq_true, reduceIte, bmTag, Bool.and_self, sz0, sz1, sz2, sz3, sz4, sz5, sz6, sz7, sz8, sz9, sz10, sz11, sz12, Int.reduceLE, Int.reduceLT, Int.reduceToNat, Int.reduceNe, Int.reduceEq, Int.reduceNeg, decide_true, decide_false, Bool.true_and, Bool.and_true, Bool.or_true, Bool.true_or, Bool.not_true, Bool.not_false, ne_eq, not_false_eq_true, Nat.reducePow, Int.reducePow, na10, int_d, jx5_1, jx5_2, jx5_3, jx5_4, b_add, b_sub, b_adds, b_addt, b_addl, b_mul, b_fdiv, b_mod, b_pow, c_eq, c_ne, c_in, c_nin, c_lt, c_le, c_gt, c_ge, e_ii, e_ss, e_bb, t_bl, t_int, t_non, t_str, t_ref, t_tup, s_ref, s_tup, s_fzl, l_ref, l_fzl, l_tup, i_ref, i_tup, i_fzl, i_str, put_ref, slq_fzl, slq_str, new_l, int_d, src_fzl, src_tup, src_str, src_ref, get_snoc, n_len_s, n_len_t, n_len_r, n_len_f, n_int_i, n_int_b, n_int_s, n_abs, n_tup_r, n_lst_r, n_str_i, n_str_s, nn_non, nn_int, nn_str, nn_bl, nn_tup, nn_ref, tag_is_str, tag_is_int, tag_is_bl, tag_is_non, tag_is_tup, tag_is_ref, Option.some.injEq, reduceCtorEq]
  refine go_nilT (go_cons (go_if ?_))
  obtain ⟨x, r, rfl⟩ := List.exists_cons_of_ne_nil hne
  have a0 : atI (S (x :: r)).cps.toList 0 = some x := by
    exact atI_nat (x :: r) 0 (by simp)
  have e48 : ("0" : Str) = S [48] := by decide +kernel
  have q0 : decide ((⟨#[x]⟩ : Str) = S [48]) = decide (x = 48) := by
    by_cases hx : x = 48
    · subst hx
      rfl
    · rw [decide_eq_false hx, decide_eq_false]
      intro h
      have := S_inj (a := [x]) (b := [48]) h
      exact hx (by simpa using this)
  have fin : ∀ L2 : MH, (∃ u, L2 = L ++ u) → Runs (exSs R.T (callN R.T wf n) wf (.cons (.ret (.bi .int1 (.cons (.var 0) .nil))) .nil) [some (.str (S t)), some (.str (S (x :: r))), none] L2) (After fun d L' => d = .int z ∧ ∃ u, L' = L ++ u) := fun L2 hL2 => by
    refine go_cons (go_ret ?_)
    have l640 : decide ((S t).length ≤ 640) = true := decide_eq_true (by rw [S_len]; omega)
    try simp -implicitDefEqProofs only [fs_nil, fs_cons, fmt_str, fmt_int, ev_var, ev_cint, ev_cstr, ev_cbl, ev_cnon, ev_gcon, ev_bop, ev_neg, ev_cmp, ev_isn, ev_nisn, ev_chain, ev_and, ev_or, ev_not, ev_ife, ev_tup, ev_lst, ev_ix, ev_sl, ev_call, ev_meth, ev_make, ev_attr, ev_bi, ev_bm, ev_isin, ev_fstr, evEs, evB, evT, evO, evI, puT, puTs, List.map, List.replicate, List.length, Nat.sub_self, List.append, List.cons_append, List.nil_append, List.getElem?_cons_zero, List.getElem?_cons_succ, must, Option.bind_some, Mi.ret, at5_0, at5_1, at5_2, at5_3, at5_4, ix5_1, ix5_2, ix5_3, ix5_4, List.set_cons_succ, List.set_cons_zero, runs_ok, runs_bind, runs_quiet, Then, after_rt, after_nx, Option.map_some, List.length_map, tgLen, if_true, if_false, eq_self, Bool.false_eq_true, reduceIte, bmTag, Bool.and_self, sz0, sz1, sz2, sz3, sz4, sz5, sz6, sz7, sz8, sz9, sz10, sz11, sz12, Int.reduceLE, Int.reduceLT, Int.reduceToNat, Int.reduceNe, Int.reduceEq, Int.reduceNeg, decide_true, decide_false, Bool.true_and, Bool.and_true, Bool.or_true, Bool.true_or, Bool.not_true, Bool.not_false, ne_eq, not_false_eq_true, Nat.reducePow, Int.reducePow, na10, int_d, jx5_1, jx5_2, jx5_3, jx5_4, b_add, b_sub, b_adds, b_addt, b_addl, b_mul, b_fdiv, b_mod, b_pow, c_eq, c_ne, c_in, c_nin, c_lt, c_le, c_gt, c_ge, e_ii, e_ss, e_bb, t_bl, t_int, t_non, t_str, t_ref, t_tup, s_ref, s_tup, s_fzl, l_ref, l_fzl, l_tup, i_ref, i_tup, i_fzl, i_str, put_ref, slq_fzl, slq_str, new_l, int_d, src_fzl, src_tup, src_str, src_ref, get_snoc, n_len_s, n_len_t, n_len_r, n_len_f, n_int_i, n_int_b, n_int_s, n_abs, n_tup_r, n_lst_r, n_str_i, n_str_s, nn_non, nn_int, nn_str, nn_bl, nn_tup, nn_ref, tag_is_str, tag_is_int, tag_is_bl, tag_is_non, tag_is_tup, tag_is_ref, Option.some.injEq, reduceCtorEq, l640, hi]
    exact ⟨trivial, hL2⟩
  rw [e48]
  by_cases hx : x = 48
  · have ht := hz (by rw [hx]; rfl)
    subst ht
    try simp -implicitDefEqProofs only [fs_nil, fs_cons, fmt_str, fmt_int, ev_var, ev_cint, ev_cstr, ev_cbl, ev_cnon, ev_gcon, ev_bop, ev_neg, ev_cmp, ev_isn, ev_nisn, ev_chain, ev_and, ev_or, ev_not, ev_ife, ev_tup, ev_lst, ev_ix, ev_sl, ev_call, ev_meth, ev_make, ev_attr, ev_bi, ev_bm, ev_isin, ev_fstr, evEs, evB, evT, evO, evI, puT, puTs, List.map, List.replicate, List.length, Nat.sub_self, List.append, List.cons_append, List.nil_append, List.getElem?_cons_zero, List.getElem?_cons_succ, must, Option.bind_some, Mi.ret, at5_0, at5_1, at5_2, at5_3, at5_4, ix5_1, ix5_2, ix5_3, ix5_4, List.set_cons_succ, List.set_cons_zero, runs_ok, runs_bind, runs_quiet, Then, after_rt, after_nx, Option.map_some, List.length_map, tgLen, if_true, if_false, eq_self, Bool.false_eq_true, reduceIte, bmTag, Bool.and_self, sz0, sz1, sz2, sz3, sz4, sz5, sz6, sz7, sz8, sz9, sz10, sz11, sz12, Int.reduceLE, Int.reduceLT, Int.reduceToNat, Int.reduceNe, Int.reduceEq, Int.reduceNeg, decide_true, decide_false, Bool.true_and, Bool.and_true, Bool.or_true, Bool.true_or, Bool.not_true, Bool.not_false, ne_eq, not_false_eq_true, Nat.reducePow, Int.reducePow, na10, int_d, jx5_1, jx5_2, jx5_3, jx5_4, b_add, b_sub, b_adds, b_addt, b_addl, b_mul, b_fdiv, b_mod, b_pow, c_eq, c_ne, c_in, c_nin, c_lt, c_le, c_gt, c_ge, e_ii, e_ss, e_bb, t_bl, t_int, t_non, t_str, t_ref, t_tup, s_ref, s_tup, s_fzl, l_ref, l_fzl, l_tup, i_ref, i_tup, i_fzl, i_str, put_ref, slq_fzl, slq_str, new_l, int_d, src_fzl, src_tup, src_str, src_ref, get_snoc, n_len_s, n_len_t, n_len_r, n_len_f, n_int_i, n_int_b, n_int_s, n_abs, n_tup_r, n_lst_r, n_str_i, n_str_s, nn_non, nn_int, nn_str, nn_bl, nn_tup, nn_ref, tag_is_str, tag_is_int, tag_is_bl, tag_is_non, tag_is_tup, tag_is_ref, Option.some.injEq, reduceCtorEq, z1, a0, q0, decide_eq_true hx]
    exact go_nilT (fin _ ⟨_, List.append_assoc _ _ _⟩)
  · try simp -implicitDefEqProofs only [fs_nil, fs_cons, fmt_str, fmt_int, ev_var, ev_cint, ev_cstr, ev_cbl, ev_cnon, ev_gcon, ev_bop, ev_neg, ev_cmp, ev_isn, ev_nisn, ev_chain, ev_and, ev_or, ev_not, ev_ife, ev_tup, ev_lst, ev_ix, ev_sl, ev_call, ev_meth, ev_make, ev_attr, ev_bi, ev_bm, ev_isin, ev_fstr, evEs, evB, evT, evO, evI, puT, puTs, List.map, List.replicate, List.length, Nat.sub_self, List.append, List.cons_append, List.nil_append, List.getElem?_cons_zero, List.getElem?_cons_succ, must, Option.bind_some, Mi.ret, at5_0, at5_1, at5_2, at5_3, at5_4, ix5_1, ix5_2, ix5_3, ix5_4, List.set_cons_succ, List.set_cons_zero, runs_ok, runs_bind, runs_quiet, Then, after_rt, after_nx, Option.map_some, List.length_map, tgLen, if_true, if_false, eq_self, Bool.false_eq_true, reduceIte, bmTag, Bool.and_self, sz0, sz1, sz2, sz3, sz4, sz5, sz6, sz7, sz8, sz9, sz10, sz11, sz12, Int.reduceLE, Int.reduceLT, Int.reduceToNat, Int.reduceNe, Int.reduceEq, Int.reduceNeg, decide_true, decide_false, Bool.true_and, Bool.and_true, Bool.or_true, Bool.true_or, Bool.not_true, Bool.not_false, ne_eq, not_false_eq_true, Nat.reducePow, Int.reducePow, na10, int_d, jx5_1, jx5_2, jx5_3, jx5_4, b_add, b_sub, b_adds, b_addt, b_addl, b_mul, b_fdiv, b_mod, b_pow, c_eq, c_ne, c_in, c_nin, c_lt, c_le, c_gt, c_ge, e_ii, e_ss, e_bb, t_bl, t_int, t_non, t_str, t_ref, t_tup, s_ref, s_tup, s_fzl, l_ref, l_fzl, l_tup, i_ref, i_tup, i_fzl, i_str, put_ref, slq_fzl, slq_str, new_l, int_d, src_fzl, src_tup, src_str, src_ref, get_snoc, n_len_s, n_len_t, n_len_r, n_len_f, n_int_i, n_int_b, n_int_s, n_abs, n_tup_r, n_lst_r, n_str_i, n_str_s, nn_non, nn_int, nn_str, nn_bl, nn_tup, nn_ref, tag_is_str, tag_is_int, tag_is_bl, tag_is_non, tag_is_tup, tag_is_ref, Option.some.injEq, reduceCtorEq, z1, a0, q0, decide_eq_false hx]
    exact go_nilT (fin _ ⟨_, List.append_assoc _ _ _⟩)
theorem read_integer_spec {z : Int} (h : FarZ z) : Runs (callN R.T wf (n + 1) f_read_integer [.str (S (numI z))] L) fun d L' => d = .int z ∧ ∃ u, L' = L ++ u := by
  refine go_def (fd := fd_read_integer) rfl rfl ?_
  simp only [fd_read_integer, ir_read_integer]
  obtain ⟨h1, h2⟩ := num_len h
  have hi := int_back h
  have e45 : ("-" : Str) = S [45] := by decide +kernel
  refine go_cons (go_var ?_)
  rw [e45]
  have nh := numL_head z.natAbs
  by_cases hz : z < 0
  · have en : numI z = 45 :: TL.numL z.natAbs := by unfold numI; rw [if_pos hz]
    rw [en] at hi h2 ⊢
    have s1 : Txt.slice (S (45 :: TL.numL z.natAbs)) (some 1) none = S (TL.numL z.natAbs) := slice_from (by decide)
    have b1 : bmD .starts (.str (S (45 :: TL.numL z.natAbs))) [.str (S [45])] L = .ok (.bl true) L := by
      show Res.ok (D.bl (Txt.startswith _ _)) L = _
      rw [starts_S]
      rfl
    try simp -implicitDefEqProofs only [fs_nil, fs_cons, fmt_str, fmt_int, ev_var, ev_cint, ev_cstr, ev_cbl, ev_cnon, ev_gcon, ev_bop, ev_neg, ev_cmp, ev_isn, ev_nisn, ev_chain, ev_and, ev_or, ev_not, ev_ife, ev_tup, ev_lst, ev_ix, ev_sl, ev_call, ev_meth, ev_make, ev_attr, ev_bi, ev_bm, ev_isin, ev_fstr, evEs, evB, evT, evO, evI, puT, puTs, List.map, List.replicate, List.length, Nat.sub_self, List.append, List.cons_append, List.nil_append, List.getElem?_cons_zero, List.getElem?_cons_succ, must, Option.bind_some, Mi.ret, at5_0, at5_1, at5_2, at5_3, at5_4, ix5_1, ix5_2, ix5_3, ix5_4, List.set_cons_succ, List.set_cons_zero, runs_ok, runs_bind, runs_quiet, Then, after_rt, after_nx, Option.map_some, List.length_map, tgLen, if_true, if_false, eq_self, Bool.false_eq_true, reduceIte, bmTag, Bool.and_self, sz0, sz1, sz2, sz3, sz4, sz5, sz6, sz7, sz8, sz9, sz10, sz11, sz12, Int.reduceLE, Int.reduceLT, Int.reduceToNat, Int.reduceNe, Int.reduceEq, Int.reduceNeg, decide_true, decide_false, Bool.true_and, Bool.and_true, Bool.or_true, Bool.true_or, Bool.not_true, Bool.not_false, ne_eq, not_false_eq_true, Nat.reducePow, Int.reducePow, na10, int_d, jx5_1, jx5_2, jx5_3, jx5_4, b_add, b_sub, b_adds, b_addt, b_addl, b_mul, b_fdiv, b_mod, b_pow, c_eq, c_ne, c_in, c_nin, c_lt, c_le, c_gt, c_ge, e_ii, e_ss, e_bb, t_bl, t_int, t_non, t_str, t_ref, t_tup, s_ref, s_tup, s_fzl, l_ref, l_fzl, l_tup, i_ref, i_tup, i_fzl, i_str, put_ref, slq_fzl, slq_str, new_l, int_d, src_fzl, src_tup, src_str, src_ref, get_snoc, n_len_s, n_len_t, n_len_r, n_len_f, n_int_i, n_int_b, n_int_s, n_abs, n_tup_r, n_lst_r, n_str_i, n_str_s, nn_non, nn_int, nn_str, nn_bl, nn_tup, nn_ref, tag_is_str, tag_is_int, tag_is_bl, tag_is_non, tag_is_tup, tag_is_ref, Option.some.injEq, reduceCtorEq, b1, s1, szS (l := 45 :: TL.numL z.natAbs) (by omega)]
    refine read_tail (TL.numL_digits _) (TL.numL_ne _) h1 (fun h0 => ?_) hi h2
    rcases nh with nh | ⟨x, r, q1, q2, q3⟩
    · rw [TL.numL_lt nh] at h0
      simp at h0
      omega
    · rw [q1] at h0
      simp at h0
      exact absurd h0 q2
  · have en : numI z = TL.numL z.natAbs := by unfold numI; rw [if_neg hz]
    rw [en] at hi h2 ⊢
    obtain ⟨x, r, ed⟩ := List.exists_cons_of_ne_nil (TL.numL_ne z.natAbs)
    have hx := TL.numL_digits z.natAbs x (by rw [ed]; exact List.mem_cons_self)
    have b1 : bmD .starts (.str (S (TL.numL z.natAbs))) [.str (S [45])] L = .ok (.bl false) L := by
      show Res.ok (D.bl (Txt.startswith _ _)) L = _
      rw [ed, starts_S, decide_eq_false (by omega)]
    try simp -implicitDefEqProofs only [fs_nil, fs_cons, fmt_str, fmt_int, ev_var, ev_cint, ev_cstr, ev_cbl, ev_cnon, ev_gcon, ev_bop, ev_neg, ev_cmp, ev_isn, ev_nisn, ev_chain, ev_and, ev_or, ev_not, ev_ife, ev_tup, ev_lst, ev_ix, ev_sl, ev_call, ev_meth, ev_make, ev_attr, ev_bi, ev_bm, ev_isin, ev_fstr, evEs, evB, evT, evO, evI, puT, puTs, List.map, List.replicate, List.length, Nat.sub_self, List.append, List.cons_append, List.nil_append, List.getElem?_cons_zero, List.getElem?_cons_succ, must, Option.bind_some, Mi.ret, at5_0, at5_1, at5_2, at5_3, at5_4, ix5_1, ix5_2, ix5_3, ix5_4, List.set_cons_succ, List.set_cons_zero, runs_ok, runs_bind, runs_quiet, Then, after_rt, after_nx, Option.map_some, List.length_map, tgLen, if_true, if_false, eq_self, Bool.false_eq_true, reduceIte, bmTag, Bool.and_self, sz0, sz1, sz2, sz3, sz4, sz5, sz6, sz7, sz8, sz9, sz10, sz11, sz12, Int.reduceLE, Int.reduceLT, Int.reduceToNat, Int.reduceNe, Int.reduceEq, Int.reduceNeg, decide_true, decide_false, Bool.true_and, Bool.and_true, Bool.or_true, Bool.true_or, Bool.not_true, Bool.not_false, ne_eq, not_false_eq_true, Nat.reducePow, Int.reducePow, na10, int_d, jx5_1, jx5_2, jx5_3, jx5_4, b_add, b_sub, b_adds, b_addt, b_addl, b_mul, b_fdiv, b_mod, b_pow, c_eq, c_ne, c_in, c_nin, c_lt, c_le, c_gt, c_ge, e_ii, e_ss, e_bb, t_bl, t_int, t_non, t_str, t_ref, t_tup, s_ref, s_tup, s_fzl, l_ref, l_fzl, l_tup, i_ref, i_tup, i_fzl, i_str, put_ref, slq_fzl, slq_str, new_l, int_d, src_fzl, src_tup, src_str, src_ref, get_snoc, n_len_s, n_len_t, n_len_r, n_len_f, n_int_i, n_int_b, n_int_s, n_abs, n_tup_r, n_lst_r, n_str_i, n_str_s, nn_non, nn_int, nn_str, nn_bl, nn_tup, nn_ref, tag_is_str, tag_is_int, tag_is_bl, tag_is_non, tag_is_tup, tag_is_ref, Option.some.injEq, reduceCtorEq, b1]
    refine read_tail (TL.numL_digits _) (TL.numL_ne _) h1 (fun h0 => ?_) hi h2
    rcases nh with nh | ⟨y, r', q1, q2, q3⟩
    · rw [TL.numL_lt nh] at h0 ⊢
      have h5 : 48 + z.natAbs = 48 := Option.some.inj h0
      rw [h5]
    · rw [q1] at h0
      simp at h0
      exact absurd h0 q2
end
end Row
end

section
set_option Elab.async false
set_option linter.all false
set_option maxRecDepth 100000
set_option maxHeartbeats 4000000
namespace Row
open PySem PySem.Spec L2 Mi SX PySem.Builtin.Str
theorem ends_S (a : List Nat) (c : Nat) : Txt.endswith (S (a ++ [c])) (S [c]) = true := by
  unfold Txt.endswith
  have h := (StrLaws.subAt_one (S (a ++ [c])) c a.length).mpr (by show (a ++ [c])[a.length]? = some c; simp)
  have e : (S (a ++ [c])).length - (S [c]).length = a.length := by
    rw [S_len, S_len]
    simp
  rw [e]
  have h1 : decide (0 + (S [c]).length ≤ (S (a ++ [c])).length) = true := decide_eq_true (by rw [S_len, S_len]; simp)
  rw [h1, Bool.true_and]
  exact h.2
theorem numI_free {z : Int} {x : Nat} (h : x < 45 ∨ (45 < x ∧ x < 48) ∨ 57 < x) : x ∉ numI z := fun hm => by
  unfold numI at hm
  have key : ∀ {y}, y ∈ TL.numL z.natAbs → 48 ≤ y ∧ y ≤ 57 := fun {y} hy => TL.numL_digits z.natAbs y hy
  split at hm
  · rcases List.mem_cons.mp hm with e | hm
    · omega
    · have := key hm
      omega
  · have := key hm
    omega
theorem numI_cons (z : Int) : ∃ x r, numI z = x :: r ∧ x ≠ 35 := by
  unfold numI
  split
  · exact ⟨45, _, rfl, by decide⟩
  · obtain ⟨x, r, e⟩ := List.exists_cons_of_ne_nil (TL.numL_ne z.natAbs)
    have := TL.numL_digits z.natAbs x (by rw [e]; exact List.mem_cons_self)
    exact ⟨x, r, e, by omega⟩
section
variable {n : Nat} {L L' : MH} {b c : Nat} {C : Nat → List D → M D}
theorem no_none {a : Nat} {ms : List Int} (h : L[a]? = some (.lst (ms.map D.int))) : inD L .non (.ref a) = some false := by
  have e1 : (ms.map D.int).all flatD = true := by
    rw [List.all_map]
    simp [flatD]
  show ((seqD L (.ref a)).bind fun xs => if flatD .non && xs.all flatD then some (xs.any fun z => eqf z .non) else _) = _
  simp only [seqD, h, Option.bind_some, e1, flatD, Bool.and_self, if_true, Option.some.injEq, List.any_map]
  rw [List.any_eq_false]
  intro m _
  simp [eqf]
theorem read_value_spec {v : Val} (hv : VOk v) : Runs (callN R.T wf (n + 2) f_read_value [.str (S (vt v))] L) fun d L' => d = vD v ∧ ∃ u, L' = L ++ u := by
  refine go_def (fd := fd_read_value) rfl rfl ?_
  simp only [fd_read_value, ir_read_value]
  have e35 : ("#" : Str) = S [35] := by decide +kernel
  refine go_cons (go_if ?_)
  rw [e35]
  cases v with
  | i z =>
    obtain ⟨x, r, e, hx⟩ := numI_cons z
    have b1 : bmD .starts (.str (S (numI z))) [.str (S [35])] L = .ok (.bl false) L := by
      show Res.ok (D.bl (Txt.startswith _ _)) L = _
      rw [e, starts_S, decide_eq_false hx]
    try simp -implicitDefEqProofs only [fs_nil, fs_cons, fmt_str, fmt_int, ev_var, ev_cint, ev_cstr, ev_cbl, ev_cnon, ev_gcon, ev_bop, ev_neg, ev_cmp, ev_isn, ev_nisn, ev_chain, ev_and, ev_or, ev_not, ev_ife, ev_tup, ev_lst, ev_ix, ev_sl, ev_call, ev_meth, ev_make, ev_attr, ev_bi, ev_bm, ev_isin, ev_fstr, evEs, evB, evT, evO, evI, puT, puTs, List.map, List.replicate, List.length, Nat.sub_self, List.append, List.cons_append, List.nil_append, List.getElem?_cons_zero, List.getElem?_cons_succ, must, Option.bind_some, Mi.ret, at5_0, at5_1, at5_2, at5_3, at5_4, ix5_1, ix5_2, ix5_3, ix5_4, List.set_cons_succ, List.set_cons_zero, runs_ok, runs_bind, runs_quiet, Then, after_rt, after_nx, Option.map_some, List.length_map, tgLen, if_true, if_false, eq_self, Bool.false_eq_true, reduceIte, bmTag, Bool.and_self, sz0, sz1, sz2, sz3, sz4, sz5, sz6, sz7, sz8, sz9, sz10, sz11, sz12, Int.reduceLE, Int.reduceLT, Int.reduceToNat, Int.reduceNe, Int.reduceEq, Int.reduceNeg, decide_true, decide_false, Bool.true_and, Bool.and_true, Bool.or_true, Bool.true_or, Bool.not_true, Bool.not_false, ne_eq, not_false_eq_true, Nat.reducePow, Int.reducePow, na10, int_d, jx5_1, jx5_2, jx5_3, jx5_4, b_add, b_sub, b_adds, b_addt, b_addl, b_mul, b_fdiv, b_mod, b_pow, c_eq, c_ne, c_in, c_nin, c_lt, c_le, c_gt, c_ge, e_ii, e_ss, e_bb, t_bl, t_int, t_non, t_str, t_ref, t_tup, s_ref, s_tup, s_fzl, l_ref, l_fzl, l_tup, i_ref, i_tup, i_fzl, i_str, put_ref, slq_fzl, slq_str, new_l, int_d, src_fzl, src_tup, src_str, src_ref, get_snoc, n_len_s, n_len_t, n_len_r, n_len_f, n_int_i, n_int_b, n_int_s, n_abs, n_tup_r, n_lst_r, n_str_i, n_str_s, nn_non, nn_int, nn_str, nn_bl, nn_tup, nn_ref, tag_is_str, tag_is_int, tag_is_bl, tag_is_non, tag_is_tup, tag_is_ref, Option.some.injEq, reduceCtorEq, vt, b1]
    refine go_cons (go_ret ?_)
    try simp -implicitDefEqProofs only [fs_nil, fs_cons, fmt_str, fmt_int, ev_var, ev_cint, ev_cstr, ev_cbl, ev_cnon, ev_gcon, ev_bop, ev_neg, ev_cmp, ev_isn, ev_nisn, ev_chain, ev_and, ev_or, ev_not, ev_ife, ev_tup, ev_lst, ev_ix, ev_sl, ev_call, ev_meth, ev_make, ev_attr, ev_bi, ev_bm, ev_isin, ev_fstr, evEs, evB, evT, evO, evI, puT, puTs, List.map, List.replicate, List.length, Nat.sub_self, List.append, List.cons_append, List.nil_append, List.getElem?_cons_zero, List.getElem?_cons_succ, must, Option.bind_some, Mi.ret, at5_0, at5_1, at5_2, at5_3, at5_4, ix5_1, ix5_2, ix5_3, ix5_4, List.set_cons_succ, List.set_cons_zero, runs_ok, runs_bind, runs_quiet, Then, after_rt, after_nx, Option.map_some, List.length_map, tgLen, if_true, if_false, eq_self, Bool.false_eq_true, reduceIte, bmTag, Bool.and_self, sz0, sz1, sz2, sz3, sz4, sz5, sz6, sz7, sz8, sz9, sz10, sz11, sz12, Int.reduceLE, Int.reduceLT, Int.reduceToNat, Int.reduceNe, Int.reduceEq, Int.reduceNeg, decide_true, decide_false, Bool.true_and, Bool.and_true, Bool.or_true, Bool.true_or, Bool.not_true, Bool.not_false, ne_eq, not_false_eq_true, Nat.reducePow, Int.reducePow, na10, int_d, jx5_1, jx5_2, jx5_3, jx5_4, b_add, b_sub, b_adds, b_addt, b_addl, b_mul, b_fdiv, b_mod, b_pow, c_eq, c_ne, c_in, c_nin, c_lt, c_le, c_gt, c_ge, e_ii, e_ss, e_bb, t_bl, t_int, t_non, t_str, t_ref, t_tup, s_ref, s_tup, s_fzl, l_ref, l_fzl, l_tup, i_ref, i_tup, i_fzl, i_str, put_ref, slq_fzl, slq_str, new_l, int_d, src_fzl, src_tup, src_str, src_ref, get_snoc, n_len_s, n_len_t, n_len_r, n_len_f, n_int_i, n_int_b, n_int_s, n_abs, n_tup_r, n_lst_r, n_str_i, n_str_s, nn_non, nn_int, nn_str, nn_bl, nn_tup, nn_ref, tag_is_str, tag_is_int, tag_is_bl, tag_is_non, tag_is_tup, tag_is_ref, Option.some.injEq, reduceCtorEq, cl_is_name, cl_value_text, cl_history_text, cl_read_integer, cl_read_value, cl_read_history, cl__law_draws, cl__law_pull, cl__law_any, cl__law_like, cl__law_reserved, cl__law_new_names, cl__law_far, cl__law_far_value, cl__law_value_text, cl__law_history_text, cl_law]
    exact read_integer_spec (n := n) hv
  | t z ms =>
    obtain ⟨h1, h2, h3, h4⟩ := hv
    obtain ⟨g1, g2⟩ := marks_sum h4 h3
    have jl := join_le (a := [44]) (ms.map numI)
    rw [List.length_singleton, Nat.mul_one] at jl
    have nl := (num_len h1).2
    have b1 : bmD .starts (.str (S (vt (.t z ms)))) [.str (S [35])] L = .ok (.bl true) L := by
      show Res.ok (D.bl (Txt.startswith _ _)) L = _
      unfold vt
      rw [starts_S]
      rfl
    try simp -implicitDefEqProofs only [fs_nil, fs_cons, fmt_str, fmt_int, ev_var, ev_cint, ev_cstr, ev_cbl, ev_cnon, ev_gcon, ev_bop, ev_neg, ev_cmp, ev_isn, ev_nisn, ev_chain, ev_and, ev_or, ev_not, ev_ife, ev_tup, ev_lst, ev_ix, ev_sl, ev_call, ev_meth, ev_make, ev_attr, ev_bi, ev_bm, ev_isin, ev_fstr, evEs, evB, evT, evO, evI, puT, puTs, List.map, List.replicate, List.length, Nat.sub_self, List.append, List.cons_append, List.nil_append, List.getElem?_cons_zero, List.getElem?_cons_succ, must, Option.bind_some, Mi.ret, at5_0, at5_1, at5_2, at5_3, at5_4, ix5_1, ix5_2, ix5_3, ix5_4, List.set_cons_succ, List.set_cons_zero, runs_ok, runs_bind, runs_quiet, Then, after_rt, after_nx, Option.map_some, List.length_map, tgLen, if_true, if_false, eq_self, Bool.false_eq_true, reduceIte, bmTag, Bool.and_self, sz0, sz1, sz2, sz3, sz4, sz5, sz6, sz7, sz8, sz9, sz10, sz11, sz12, Int.reduceLE, Int.reduceLT, Int.reduceToNat, Int.reduceNe, Int.reduceEq, Int.reduceNeg, decide_true, decide_false, Bool.true_and, Bool.and_true, Bool.or_true, Bool.true_or, Bool.not_true, Bool.not_false, ne_eq, not_false_eq_true, Nat.reducePow, Int.reducePow, na10, int_d, jx5_1, jx5_2, jx5_3, jx5_4, b_add, b_sub, b_adds, b_addt, b_addl, b_mul, b_fdiv, b_mod, b_pow, c_eq, c_ne, c_in, c_nin, c_lt, c_le, c_gt, c_ge, e_ii, e_ss, e_bb, t_bl, t_int, t_non, t_str, t_ref, t_tup, s_ref, s_tup, s_fzl, l_ref, l_fzl, l_tup, i_ref, i_tup, i_fzl, i_str, put_ref, slq_fzl, slq_str, new_l, int_d, src_fzl, src_tup, src_str, src_ref, get_snoc, n_len_s, n_len_t, n_len_r, n_len_f, n_int_i, n_int_b, n_int_s, n_abs, n_tup_r, n_lst_r, n_str_i, n_str_s, nn_non, nn_int, nn_str, nn_bl, nn_tup, nn_ref, tag_is_str, tag_is_int, tag_is_bl, tag_is_non, tag_is_tup, tag_is_ref, Option.some.injEq, reduceCtorEq, b1]
    have s1 : Txt.slice (S (vt (.t z ms))) (some 1) none = S (numI z ++ 40 :: (TL.joinL [44] (ms.map numI) ++ [41])) := slice_from (by decide)
    have zv : sizeOkB (S (vt (.t z ms))).length = true := szS (by have := vt_len (v := .t z ms) ⟨h1, h2, h3, h4⟩; omega)
    obtain ⟨J, hJ⟩ : ∃ J, J = TL.joinL [44] (ms.map numI) := ⟨_, rfl⟩
    rw [← hJ] at s1 jl
    have e40 : ("(" : Str) = S [40] := by decide +kernel
    have e41 : (")" : Str) = S [41] := by decide +kernel
    have e44 : ("," : Str) = S [44] := by decide +kernel
    have pt : Txt.partition (S (numI z ++ 40 :: (J ++ [41]))) (S [40]) = (S (numI z), S [40], S (J ++ [41])) := partition_some (b := [40]) (by simp) (par_head (c := 40) (sep := []) (p := numI z) (J ++ [41]) (numI_free (by omega)))
    have b2 : bmD .part (.str (S (numI z ++ 40 :: (J ++ [41])))) [.str (S [40])] L = .ok (.tup [.str (S (numI z)), .str (S [40]), .str (S (J ++ [41]))]) L := by
      have q : (decide (((S [40]).length == 0) = false) && sizeOkB (S (numI z ++ 40 :: (J ++ [41]))).length) = true := by
        rw [szS (by simp only [List.length_append, List.length_cons, List.length_nil]; omega)]
        rfl
      simp only [bmD, q, if_true]
      rw [pt]
    refine go_nilT (go_cons (go_asg ?_))
    rw [e40, e41, e44]
    try simp -implicitDefEqProofs only [fs_nil, fs_cons, fmt_str, fmt_int, ev_var, ev_cint, ev_cstr, ev_cbl, ev_cnon, ev_gcon, ev_bop, ev_neg, ev_cmp, ev_isn, ev_nisn, ev_chain, ev_and, ev_or, ev_not, ev_ife, ev_tup, ev_lst, ev_ix, ev_sl, ev_call, ev_meth, ev_make, ev_attr, ev_bi, ev_bm, ev_isin, ev_fstr, evEs, evB, evT, evO, evI, puT, puTs, List.map, List.replicate, List.length, Nat.sub_self, List.append, List.cons_append, List.nil_append, List.getElem?_cons_zero, List.getElem?_cons_succ, must, Option.bind_some, Mi.ret, at5_0, at5_1, at5_2, at5_3, at5_4, ix5_1, ix5_2, ix5_3, ix5_4, List.set_cons_succ, List.set_cons_zero, runs_ok, runs_bind, runs_quiet, Then, after_rt, after_nx, Option.map_some, List.length_map, tgLen, if_true, if_false, eq_self, Bool.false_eq_true, reduceIte, bmTag, Bool.and_self, sz0, sz1, sz2, sz3, sz4, sz5, sz6, sz7, sz8, sz9, sz10, sz11, sz12, Int.reduceLE, Int.reduceLT, Int.reduceToNat, Int.reduceNe, Int.reduceEq, Int.reduceNeg, decide_true, decide_false, Bool.true_and, Bool.and_true, Bool.or_true, Bool.true_or, Bool.not_true, Bool.not_false, ne_eq, not_false_eq_true, Nat.reducePow, Int.reducePow, na10, int_d, jx5_1, jx5_2, jx5_3, jx5_4, b_add, b_sub, b_adds, b_addt, b_addl, b_mul, b_fdiv, b_mod, b_pow, c_eq, c_ne, c_in, c_nin, c_lt, c_le, c_gt, c_ge, e_ii, e_ss, e_bb, t_bl, t_int, t_non, t_str, t_ref, t_tup, s_ref, s_tup, s_fzl, l_ref, l_fzl, l_tup, i_ref, i_tup, i_fzl, i_str, put_ref, slq_fzl, slq_str, new_l, int_d, src_fzl, src_tup, src_str, src_ref, get_snoc, n_len_s, n_len_t, n_len_r, n_len_f, n_int_i, n_int_b, n_int_s, n_abs, n_tup_r, n_lst_r, n_str_i, n_str_s, nn_non, nn_int, nn_str, nn_bl, nn_tup, nn_ref, tag_is_str, tag_is_int, tag_is_bl, tag_is_non, tag_is_tup, tag_is_ref, Option.some.injEq, reduceCtorEq, zv, s1, b2]
    refine go_cons (go_var ?_)
    try simp -implicitDefEqProofs only [fs_nil, fs_cons, fmt_str, fmt_int, ev_var, ev_cint, ev_cstr, ev_cbl, ev_cnon, ev_gcon, ev_bop, ev_neg, ev_cmp, ev_isn, ev_nisn, ev_chain, ev_and, ev_or, ev_not, ev_ife, ev_tup, ev_lst, ev_ix, ev_sl, ev_call, ev_meth, ev_make, ev_attr, ev_bi, ev_bm, ev_isin, ev_fstr, evEs, evB, evT, evO, evI, puT, puTs, List.map, List.replicate, List.length, Nat.sub_self, List.append, List.cons_append, List.nil_append, List.getElem?_cons_zero, List.getElem?_cons_succ, must, Option.bind_some, Mi.ret, at5_0, at5_1, at5_2, at5_3, at5_4, ix5_1, ix5_2, ix5_3, ix5_4, List.set_cons_succ, List.set_cons_zero, runs_ok, runs_bind, runs_quiet, Then, after_rt, after_nx, Option.map_some, List.length_map, tgLen, if_true, if_false, eq_self, Bool.false_eq_true, reduceIte, bmTag, Bool.and_self, sz0, sz1, sz2, sz3, sz4, sz5, sz6, sz7, sz8, sz9, sz10, sz11, sz12, Int.reduceLE, Int.reduceLT, Int.reduceToNat, Int.reduceNe, Int.reduceEq, Int.reduceNeg, decide_true, decide_false, Bool.true_and, Bool.and_true, Bool.or_true, Bool.true_or, Bool.not_true, Bool.not_false, ne_eq, not_false_eq_true, Nat.reducePow, Int.reducePow, na10, int_d, jx5_1, jx5_2, jx5_3, jx5_4, b_add, b_sub, b_adds, b_addt, b_addl, b_mul, b_fdiv, b_mod, b_pow, c_eq, c_ne, c_in, c_nin, c_lt, c_le, c_gt, c_ge, e_ii, e_ss, e_bb, t_bl, t_int, t_non, t_str, t_ref, t_tup, s_ref, s_tup, s_fzl, l_ref, l_fzl, l_tup, i_ref, i_tup, i_fzl, i_str, put_ref, slq_fzl, slq_str, new_l, int_d, src_fzl, src_tup, src_str, src_ref, get_snoc, n_len_s, n_len_t, n_len_r, n_len_f, n_int_i, n_int_b, n_int_s, n_abs, n_tup_r, n_lst_r, n_str_i, n_str_s, nn_non, nn_int, nn_str, nn_bl, nn_tup, nn_ref, tag_is_str, tag_is_int, tag_is_bl, tag_is_non, tag_is_tup, tag_is_ref, Option.some.injEq, reduceCtorEq, cl_is_name, cl_value_text, cl_history_text, cl_read_integer, cl_read_value, cl_read_history, cl__law_draws, cl__law_pull, cl__law_any, cl__law_like, cl__law_reserved, cl__law_new_names, cl__law_far, cl__law_far_value, cl__law_value_text, cl__law_history_text, cl_law]
    refine (read_integer_spec (n := n) h1).imp fun d L1 ⟨q1, u1, q2⟩ => ?_
    subst q1 q2
    refine go_cons (go_if ?_)
    have b3 : bmD .ends (.str (S (J ++ [41]))) [.str (S [41])] (L ++ u1) = .ok (.bl true) (L ++ u1) := by
      show Res.ok (D.bl (Txt.endswith _ _)) _ = _
      rw [ends_S]
    have c1 : decide (z < 0) = false := decide_eq_false (by omega)
    try simp -implicitDefEqProofs only [fs_nil, fs_cons, fmt_str, fmt_int, ev_var, ev_cint, ev_cstr, ev_cbl, ev_cnon, ev_gcon, ev_bop, ev_neg, ev_cmp, ev_isn, ev_nisn, ev_chain, ev_and, ev_or, ev_not, ev_ife, ev_tup, ev_lst, ev_ix, ev_sl, ev_call, ev_meth, ev_make, ev_attr, ev_bi, ev_bm, ev_isin, ev_fstr, evEs, evB, evT, evO, evI, puT, puTs, List.map, List.replicate, List.length, Nat.sub_self, List.append, List.cons_append, List.nil_append, List.getElem?_cons_zero, List.getElem?_cons_succ, must, Option.bind_some, Mi.ret, at5_0, at5_1, at5_2, at5_3, at5_4, ix5_1, ix5_2, ix5_3, ix5_4, List.set_cons_succ, List.set_cons_zero, runs_ok, runs_bind, runs_quiet, Then, after_rt, after_nx, Option.map_some, List.length_map, tgLen, if_true, if_false, eq_self, Bool.false_eq_true, reduceIte, bmTag, Bool.and_self, sz0, sz1, sz2, sz3, sz4, sz5, sz6, sz7, sz8, sz9, sz10, sz11, sz12, Int.reduceLE, Int.reduceLT, Int.reduceToNat, Int.reduceNe, Int.reduceEq, Int.reduceNeg, decide_true, decide_false, Bool.true_and, Bool.and_true, Bool.or_true, Bool.true_or, Bool.not_true, Bool.not_false, ne_eq, not_false_eq_true, Nat.reducePow, Int.reducePow, na10, int_d, jx5_1, jx5_2, jx5_3, jx5_4, b_add, b_sub, b_adds, b_addt, b_addl, b_mul, b_fdiv, b_mod, b_pow, c_eq, c_ne, c_in, c_nin, c_lt, c_le, c_gt, c_ge, e_ii, e_ss, e_bb, t_bl, t_int, t_non, t_str, t_ref, t_tup, s_ref, s_tup, s_fzl, l_ref, l_fzl, l_tup, i_ref, i_tup, i_fzl, i_str, put_ref, slq_fzl, slq_str, new_l, int_d, src_fzl, src_tup, src_str, src_ref, get_snoc, n_len_s, n_len_t, n_len_r, n_len_f, n_int_i, n_int_b, n_int_s, n_abs, n_tup_r, n_lst_r, n_str_i, n_str_s, nn_non, nn_int, nn_str, nn_bl, nn_tup, nn_ref, tag_is_str, tag_is_int, tag_is_bl, tag_is_non, tag_is_tup, tag_is_ref, Option.some.injEq, reduceCtorEq, b3, c1]
    -- the end
    have fin : ∀ (L2 : MH) (a : Nat), (∃ u, L2 = L ++ u) → L2[a]? = some (.lst (ms.map D.int)) → Runs (exSs R.T (callN R.T wf (n + 1)) wf (.cons (.ret (.ife (.cmp .In .cnon (.var 5)) .cnon (.tup (.cons (.var 4) (.cons (.bi .tuple1 (.cons (.var 5) .nil)) .nil))))) .nil) [some (.str (S (vt (.t z ms)))), some (.str (S (numI z))), some (.str (S [40])), some (.str (S (J ++ [41]))), some (.int z), some (.ref a), none] L2) (After fun d L' => d = vD (.t z ms) ∧ ∃ u, L' = L ++ u) := fun L2 a hL2 ha => by
      refine go_cons (go_ret ?_)
      try simp -implicitDefEqProofs only [fs_nil, fs_cons, fmt_str, fmt_int, ev_var, ev_cint, ev_cstr, ev_cbl, ev_cnon, ev_gcon, ev_bop, ev_neg, ev_cmp, ev_isn, ev_nisn, ev_chain, ev_and, ev_or, ev_not, ev_ife, ev_tup, ev_lst, ev_ix, ev_sl, ev_call, ev_meth, ev_make, ev_attr, ev_bi, ev_bm, ev_isin, ev_fstr, evEs, evB, evT, evO, evI, puT, puTs, List.map, List.replicate, List.length, Nat.sub_self, List.append, List.cons_append, List.nil_append, List.getElem?_cons_zero, List.getElem?_cons_succ, must, Option.bind_some, Mi.ret, at5_0, at5_1, at5_2, at5_3, at5_4, ix5_1, ix5_2, ix5_3, ix5_4, List.set_cons_succ, List.set_cons_zero, runs_ok, runs_bind, runs_quiet, Then, after_rt, after_nx, Option.map_some, List.length_map, tgLen, if_true, if_false, eq_self, Bool.false_eq_true, reduceIte, bmTag, Bool.and_self, sz0, sz1, sz2, sz3, sz4, sz5, sz6, sz7, sz8, sz9, sz10, sz11, sz12, Int.reduceLE, Int.reduceLT, Int.reduceToNat, Int.reduceNe, Int.reduceEq, Int.reduceNeg, decide_true, decide_false, Bool.true_and, Bool.and_true, Bool.or_true, Bool.true_or, Bool.not_true, Bool.not_false, ne_eq, not_false_eq_true, Nat.reducePow, Int.reducePow, na10, int_d, jx5_1, jx5_2, jx5_3, jx5_4, b_add, b_sub, b_adds, b_addt, b_addl, b_mul, b_fdiv, b_mod, b_pow, c_eq, c_ne, c_in, c_nin, c_lt, c_le, c_gt, c_ge, e_ii, e_ss, e_bb, t_bl, t_int, t_non, t_str, t_ref, t_tup, s_ref, s_tup, s_fzl, l_ref, l_fzl, l_tup, i_ref, i_tup, i_fzl, i_str, put_ref, slq_fzl, slq_str, new_l, int_d, src_fzl, src_tup, src_str, src_ref, get_snoc, n_len_s, n_len_t, n_len_r, n_len_f, n_int_i, n_int_b, n_int_s, n_abs, n_tup_r, n_lst_r, n_str_i, n_str_s, nn_non, nn_int, nn_str, nn_bl, nn_tup, nn_ref, tag_is_str, tag_is_int, tag_is_bl, tag_is_non, tag_is_tup, tag_is_ref, Option.some.injEq, reduceCtorEq, no_none ha, ha]
      exact ⟨rfl, hL2⟩
    refine go_nilT (go_cons (go_var ?_))
    have hd : decide (S (J ++ [41]) = S [41]) = decide (ms = []) := by
      by_cases hm : ms = []
      · subst hm
        rw [decide_eq_true rfl, decide_eq_true]
        rw [hJ]
        rfl
      · rw [decide_eq_false hm, decide_eq_false]
        intro h
        have h5 := S_inj h
        have h6 : J = [] := by simpa using h5
        obtain ⟨m, r, rfl⟩ := List.exists_cons_of_ne_nil hm
        rw [hJ, List.map_cons, joinL_sp] at h6
        obtain ⟨x, r', e, _⟩ := numI_cons m
        rw [e] at h6
        cases h6
    by_cases hm : ms = []
    · try simp -implicitDefEqProofs only [fs_nil, fs_cons, fmt_str, fmt_int, ev_var, ev_cint, ev_cstr, ev_cbl, ev_cnon, ev_gcon, ev_bop, ev_neg, ev_cmp, ev_isn, ev_nisn, ev_chain, ev_and, ev_or, ev_not, ev_ife, ev_tup, ev_lst, ev_ix, ev_sl, ev_call, ev_meth, ev_make, ev_attr, ev_bi, ev_bm, ev_isin, ev_fstr, evEs, evB, evT, evO, evI, puT, puTs, List.map, List.replicate, List.length, Nat.sub_self, List.append, List.cons_append, List.nil_append, List.getElem?_cons_zero, List.getElem?_cons_succ, must, Option.bind_some, Mi.ret, at5_0, at5_1, at5_2, at5_3, at5_4, ix5_1, ix5_2, ix5_3, ix5_4, List.set_cons_succ, List.set_cons_zero, runs_ok, runs_bind, runs_quiet, Then, after_rt, after_nx, Option.map_some, List.length_map, tgLen, if_true, if_false, eq_self, Bool.false_eq_true, reduceIte, bmTag, Bool.and_self, sz0, sz1, sz2, sz3, sz4, sz5, sz6, sz7, sz8, sz9, sz10, sz11, sz12, Int.reduceLE, Int.reduceLT, Int.reduceToNat, Int.reduceNe, Int.reduceEq, Int.reduceNeg, decide_true, decide_false, Bool.true_and, Bool.and_true, Bool.or_true, Bool.true_or, Bool.not_true, Bool.not_false, ne_eq, not_false_eq_true, Nat.reducePow, Int.reducePow, na10, int_d, jx5_1, jx5_2, jx5_3, jx5_4, b_add, b_sub, b_adds, b_addt, b_addl, b_mul, b_fdiv, b_mod, b_pow, c_eq, c_ne, c_in, c_nin, c_lt, c_le, c_gt, c_ge, e_ii, e_ss, e_bb, t_bl, t_int, t_non, t_str, t_ref, t_tup, s_ref, s_tup, s_fzl, l_ref, l_fzl, l_tup, i_ref, i_tup, i_fzl, i_str, put_ref, slq_fzl, slq_str, new_l, int_d, src_fzl, src_tup, src_str, src_ref, get_snoc, n_len_s, n_len_t, n_len_r, n_len_f, n_int_i, n_int_b, n_int_s, n_abs, n_tup_r, n_lst_r, n_str_i, n_str_s, nn_non, nn_int, nn_str, nn_bl, nn_tup, nn_ref, tag_is_str, tag_is_int, tag_is_bl, tag_is_non, tag_is_tup, tag_is_ref, Option.some.injEq, reduceCtorEq, hd, decide_eq_true hm]
      exact fin _ _ ⟨_, List.append_assoc _ _ _⟩ (by rw [hm]; exact get_snoc)
    · try simp -implicitDefEqProofs only [fs_nil, fs_cons, fmt_str, fmt_int, ev_var, ev_cint, ev_cstr, ev_cbl, ev_cnon, ev_gcon, ev_bop, ev_neg, ev_cmp, ev_isn, ev_nisn, ev_chain, ev_and, ev_or, ev_not, ev_ife, ev_tup, ev_lst, ev_ix, ev_sl, ev_call, ev_meth, ev_make, ev_attr, ev_bi, ev_bm, ev_isin, ev_fstr, evEs, evB, evT, evO, evI, puT, puTs, List.map, List.replicate, List.length, Nat.sub_self, List.append, List.cons_append, List.nil_append, List.getElem?_cons_zero, List.getElem?_cons_succ, must, Option.bind_some, Mi.ret, at5_0, at5_1, at5_2, at5_3, at5_4, ix5_1, ix5_2, ix5_3, ix5_4, List.set_cons_succ, List.set_cons_zero, runs_ok, runs_bind, runs_quiet, Then, after_rt, after_nx, Option.map_some, List.length_map, tgLen, if_true, if_false, eq_self, Bool.false_eq_true, reduceIte, bmTag, Bool.and_self, sz0, sz1, sz2, sz3, sz4, sz5, sz6, sz7, sz8, sz9, sz10, sz11, sz12, Int.reduceLE, Int.reduceLT, Int.reduceToNat, Int.reduceNe, Int.reduceEq, Int.reduceNeg, decide_true, decide_false, Bool.true_and, Bool.and_true, Bool.or_true, Bool.true_or, Bool.not_true, Bool.not_false, ne_eq, not_false_eq_true, Nat.reducePow, Int.reducePow, na10, int_d, jx5_1, jx5_2, jx5_3, jx5_4, b_add, b_sub, b_adds, b_addt, b_addl, b_mul, b_fdiv, b_mod, b_pow, c_eq, c_ne, c_in, c_nin, c_lt, c_le, c_gt, c_ge, e_ii, e_ss, e_bb, t_bl, t_int, t_non, t_str, t_ref, t_tup, s_ref, s_tup, s_fzl, l_ref, l_fzl, l_tup, i_ref, i_tup, i_fzl, i_str, put_ref, slq_fzl, slq_str, new_l, int_d, src_fzl, src_tup, src_str, src_ref, get_snoc, n_len_s, n_len_t, n_len_r, n_len_f, n_int_i, n_int_b, n_int_s, n_abs, n_tup_r, n_lst_r, n_str_i, n_str_s, nn_non, nn_int, nn_str, nn_bl, nn_tup, nn_ref, tag_is_str, tag_is_int, tag_is_bl, tag_is_non, tag_is_tup, tag_is_ref, Option.some.injEq, reduceCtorEq, hd, decide_eq_false hm, negD]
      refine go_lc ?_
      have s2 : Txt.slice (S (J ++ [41])) none (some (-1)) = S J := butlast_snoc J 41
      have zj : sizeOkB (S (J ++ [41])).length = true := szS (by rw [List.length_append, List.length_singleton]; omega)
      have sp : Txt.split (S J) (S [44]) = (ms.map numI).map S := by
        rw [split_S (by simp) (by decide), hJ, spl_join (c := 44) (sep := []) (by simp [hm]) fun p hp => by
          obtain ⟨m, _, rfl⟩ := List.mem_map.mp hp
          exact numI_free (by omega)]
      have b4 : ∀ L3 : MH, bmD .split (.str (S J)) [.str (S [44])] L3 = newL ((ms.map fun m => D.str (S (numI m)))) L3 := fun L3 => by
        have q : (decide (((S [44]).length == 0) = false) && sizeOkB ((S J).length + 2)) = true := by
          have : sizeOkB ((S J).length + 2) = true := by
            unfold sizeOkB
            rw [S_len]
            exact decide_eq_true (by omega)
          rw [this]
          rfl
        simp only [bmD, q, if_true, sp, List.map_map]
        rfl
      try simp -implicitDefEqProofs only [fs_nil, fs_cons, fmt_str, fmt_int, ev_var, ev_cint, ev_cstr, ev_cbl, ev_cnon, ev_gcon, ev_bop, ev_neg, ev_cmp, ev_isn, ev_nisn, ev_chain, ev_and, ev_or, ev_not, ev_ife, ev_tup, ev_lst, ev_ix, ev_sl, ev_call, ev_meth, ev_make, ev_attr, ev_bi, ev_bm, ev_isin, ev_fstr, evEs, evB, evT, evO, evI, puT, puTs, List.map, List.replicate, List.length, Nat.sub_self, List.append, List.cons_append, List.nil_append, List.getElem?_cons_zero, List.getElem?_cons_succ, must, Option.bind_some, Mi.ret, at5_0, at5_1, at5_2, at5_3, at5_4, ix5_1, ix5_2, ix5_3, ix5_4, List.set_cons_succ, List.set_cons_zero, runs_ok, runs_bind, runs_quiet, Then, after_rt, after_nx, Option.map_some, List.length_map, tgLen, if_true, if_false, eq_self, Bool.false_eq_true, reduceIte, bmTag, Bool.and_self, sz0, sz1, sz2, sz3, sz4, sz5, sz6, sz7, sz8, sz9, sz10, sz11, sz12, Int.reduceLE, Int.reduceLT, Int.reduceToNat, Int.reduceNe, Int.reduceEq, Int.reduceNeg, decide_true, decide_false, Bool.true_and, Bool.and_true, Bool.or_true, Bool.true_or, Bool.not_true, Bool.not_false, ne_eq, not_false_eq_true, Nat.reducePow, Int.reducePow, na10, int_d, jx5_1, jx5_2, jx5_3, jx5_4, b_add, b_sub, b_adds, b_addt, b_addl, b_mul, b_fdiv, b_mod, b_pow, c_eq, c_ne, c_in, c_nin, c_lt, c_le, c_gt, c_ge, e_ii, e_ss, e_bb, t_bl, t_int, t_non, t_str, t_ref, t_tup, s_ref, s_tup, s_fzl, l_ref, l_fzl, l_tup, i_ref, i_tup, i_fzl, i_str, put_ref, slq_fzl, slq_str, new_l, int_d, src_fzl, src_tup, src_str, src_ref, get_snoc, n_len_s, n_len_t, n_len_r, n_len_f, n_int_i, n_int_b, n_int_s, n_abs, n_tup_r, n_lst_r, n_str_i, n_str_s, nn_non, nn_int, nn_str, nn_bl, nn_tup, nn_ref, tag_is_str, tag_is_int, tag_is_bl, tag_is_non, tag_is_tup, tag_is_ref, Option.some.injEq, reduceCtorEq, negD, zj, s2, b4]
      refine (lc_mapA (as := ms) (fun m => D.str (S (numI m))) D.int (fun _ _ => rfl) (by omega) (fun u i => ?_) ?_ fun m hm' u => ?_).imp fun _ L3 ⟨u3, e3⟩ => ?_
      · simp only [Wk.at, Src.at]
        rw [pre_keep get_snoc]
      · simp only [Wk.len, Src.len]
        rw [pre_keep get_snoc]
        exact List.length_map ..
      · try simp -implicitDefEqProofs only [fs_nil, fs_cons, fmt_str, fmt_int, ev_var, ev_cint, ev_cstr, ev_cbl, ev_cnon, ev_gcon, ev_bop, ev_neg, ev_cmp, ev_isn, ev_nisn, ev_chain, ev_and, ev_or, ev_not, ev_ife, ev_tup, ev_lst, ev_ix, ev_sl, ev_call, ev_meth, ev_make, ev_attr, ev_bi, ev_bm, ev_isin, ev_fstr, evEs, evB, evT, evO, evI, puT, puTs, List.map, List.replicate, List.length, Nat.sub_self, List.append, List.cons_append, List.nil_append, List.getElem?_cons_zero, List.getElem?_cons_succ, must, Option.bind_some, Mi.ret, at5_0, at5_1, at5_2, at5_3, at5_4, ix5_1, ix5_2, ix5_3, ix5_4, List.set_cons_succ, List.set_cons_zero, runs_ok, runs_bind, runs_quiet, Then, after_rt, after_nx, Option.map_some, List.length_map, tgLen, if_true, if_false, eq_self, Bool.false_eq_true, reduceIte, bmTag, Bool.and_self, sz0, sz1, sz2, sz3, sz4, sz5, sz6, sz7, sz8, sz9, sz10, sz11, sz12, Int.reduceLE, Int.reduceLT, Int.reduceToNat, Int.reduceNe, Int.reduceEq, Int.reduceNeg, decide_true, decide_false, Bool.true_and, Bool.and_true, Bool.or_true, Bool.true_or, Bool.not_true, Bool.not_false, ne_eq, not_false_eq_true, Nat.reducePow, Int.reducePow, na10, int_d, jx5_1, jx5_2, jx5_3, jx5_4, b_add, b_sub, b_adds, b_addt, b_addl, b_mul, b_fdiv, b_mod, b_pow, c_eq, c_ne, c_in, c_nin, c_lt, c_le, c_gt, c_ge, e_ii, e_ss, e_bb, t_bl, t_int, t_non, t_str, t_ref, t_tup, s_ref, s_tup, s_fzl, l_ref, l_fzl, l_tup, i_ref, i_tup, i_fzl, i_str, put_ref, slq_fzl, slq_str, new_l, int_d, src_fzl, src_tup, src_str, src_ref, get_snoc, n_len_s, n_len_t, n_len_r, n_len_f, n_int_i, n_int_b, n_int_s, n_abs, n_tup_r, n_lst_r, n_str_i, n_str_s, nn_non, nn_int, nn_str, nn_bl, nn_tup, nn_ref, tag_is_str, tag_is_int, tag_is_bl, tag_is_non, tag_is_tup, tag_is_ref, Option.some.injEq, reduceCtorEq, wipeL, cl_is_name, cl_value_text, cl_history_text, cl_read_integer, cl_read_value, cl_read_history, cl__law_draws, cl__law_pull, cl__law_any, cl__law_like, cl__law_reserved, cl__law_new_names, cl__law_far, cl__law_far_value, cl__law_value_text, cl__law_history_text, cl_law]
        exact read_integer_spec (n := n) (h4 m hm')
      · subst e3
        exact fin _ _ ⟨_, by simp only [List.append_assoc]; rfl⟩ (pre_keep get_snoc)
end
end Row
end

section
set_option Elab.async false
set_option linter.all false
set_option maxRecDepth 100000
set_option maxHeartbeats 4000000
namespace Row
open PySem PySem.Spec L2 Mi SX PySem.Builtin.Str
section
variable {n : Nat} {L L' : MH} {b c : Nat} {C : Nat → List D → M D}
theorem in_tup {ls : List (List Nat)} {l : List Nat} : inD L (.str (S l)) (.tup (ls.map fun l => D.str (S l))) = some (decide (l ∈ ls)) := by
  have e1 : (ls.map fun l => D.str (S l)).all flatD = true := by
    rw [List.all_map]
    simp [flatD]
  show ((seqD L (.tup _)).bind fun xs => if flatD (.str (S l)) && xs.all flatD then some (xs.any fun z => eqf z (.str (S l))) else _) = _
  simp only [seqD, Option.bind_some, e1, flatD, Bool.and_self, if_true, Option.some.injEq, List.any_map]
  rw [Bool.eq_iff_iff, List.any_eq_true, decide_eq_true_iff]
  constructor
  · rintro ⟨x, hx, he⟩
    have he : (S x == S l) = true := he
    rw [S_beq, beq_iff_eq] at he
    rw [← he]
    exact hx
  · intro hl
    refine ⟨l, hl, ?_⟩
    show (S l == S l) = true
    rw [S_beq]
    exact beq_self_eq_true l
theorem is_name_spec {l : List Nat} (h : Nm l) : Runs (callN R.T wf (n + 1) f_is_name [.str (S l)] L) fun d L' => d = .bl true ∧ ∃ u, L' = L ++ u := by
  obtain ⟨h1, h2, h3, h4⟩ := h
  refine go_def (fd := fd_is_name) rfl rfl ?_
  simp only [fd_is_name, ir_is_name]
  have k2 : R.T.con 2 = some (.int 8) := rfl
  have k1 : R.T.con 1 = some (.tup (resL.map fun l => D.str (S l))) := by
    rw [← res_S]
    rfl
  have k0 : R.T.con 0 = some (.str (S abcL)) := by
    rw [← abc_S]
    rfl
  have z1 : sizeOkB (S l).length = true := szS (by omega)
  have c1 : decide ((1 : Int) ≤ ((S l).length : Int)) = true := decide_eq_true (by rw [S_len]; omega)
  have c2 : decide (((S l).length : Int) ≤ 8) = true := decide_eq_true (by rw [S_len]; omega)
  refine go_cons (go_if ?_)
  try simp -implicitDefEqProofs only [fs_nil, fs_cons, fmt_str, fmt_int, ev_var, ev_cint, ev_cstr, ev_cbl, ev_cnon, ev_gcon, ev_bop, ev_neg, ev_cmp, ev_isn, ev_nisn, ev_chain, ev_and, ev_or, ev_not, ev_ife, ev_tup, ev_lst, ev_ix, ev_sl, ev_call, ev_meth, ev_make, ev_attr, ev_bi, ev_bm, ev_isin, ev_fstr, evEs, evB, evT, evO, evI, puT, puTs, List.map, List.replicate, List.length, Nat.sub_self, List.append, List.cons_append, List.nil_append, List.getElem?_cons_zero, List.getElem?_cons_succ, must, Option.bind_some, Mi.ret, at5_0, at5_1, at5_2, at5_3, at5_4, ix5_1, ix5_2, ix5_3, ix5_4, List.set_cons_succ, List.set_cons_zero, runs_ok, runs_bind, runs_quiet, Then, after_rt, after_nx, Option.map_some, List.length_map, tgLen, if_true, if_false, eq_self, Bool.false_eq_true, reduceIte, bmTag, Bool.and_self, sz0, sz1, sz2, sz3, sz4, sz5, sz6, sz7, sz8, sz9, sz10, sz11, sz12, Int.reduceLE, Int.reduceLT, Int.reduceToNat, Int.reduceNe, Int.reduceEq, Int.reduceNeg, decide_true, decide_false, Bool.true_and, Bool.and_true, Bool.or_true, Bool.true_or, Bool.not_true, Bool.not_false, ne_eq, not_false_eq_true, Nat.reducePow, Int.reducePow, na10, int_d, jx5_1, jx5_2, jx5_3, jx5_4, b_add, b_sub, b_adds, b_addt, b_addl, b_mul, b_fdiv, b_mod, b_pow, c_eq, c_ne, c_in, c_nin, c_lt, c_le, c_gt, c_ge, e_ii, e_ss, e_bb, t_bl, t_int, t_non, t_str, t_ref, t_tup, s_ref, s_tup, s_fzl, l_ref, l_fzl, l_tup, i_ref, i_tup, i_fzl, i_str, put_ref, slq_fzl, slq_str, new_l, int_d, src_fzl, src_tup, src_str, src_ref, get_snoc, n_len_s, n_len_t, n_len_r, n_len_f, n_int_i, n_int_b, n_int_s, n_abs, n_tup_r, n_lst_r, n_str_i, n_str_s, nn_non, nn_int, nn_str, nn_bl, nn_tup, nn_ref, tag_is_str, tag_is_int, tag_is_bl, tag_is_non, tag_is_tup, tag_is_ref, Option.some.injEq, reduceCtorEq, k2, k1, z1, c1, c2, in_tup, decide_eq_false h4]
  refine go_nilT (go_cons (go_ret ?_))
  try simp -implicitDefEqProofs only [fs_nil, fs_cons, fmt_str, fmt_int, ev_var, ev_cint, ev_cstr, ev_cbl, ev_cnon, ev_gcon, ev_bop, ev_neg, ev_cmp, ev_isn, ev_nisn, ev_chain, ev_and, ev_or, ev_not, ev_ife, ev_tup, ev_lst, ev_ix, ev_sl, ev_call, ev_meth, ev_make, ev_attr, ev_bi, ev_bm, ev_isin, ev_fstr, evEs, evB, evT, evO, evI, puT, puTs, List.map, List.replicate, List.length, Nat.sub_self, List.append, List.cons_append, List.nil_append, List.getElem?_cons_zero, List.getElem?_cons_succ, must, Option.bind_some, Mi.ret, at5_0, at5_1, at5_2, at5_3, at5_4, ix5_1, ix5_2, ix5_3, ix5_4, List.set_cons_succ, List.set_cons_zero, runs_ok, runs_bind, runs_quiet, Then, after_rt, after_nx, Option.map_some, List.length_map, tgLen, if_true, if_false, eq_self, Bool.false_eq_true, reduceIte, bmTag, Bool.and_self, sz0, sz1, sz2, sz3, sz4, sz5, sz6, sz7, sz8, sz9, sz10, sz11, sz12, Int.reduceLE, Int.reduceLT, Int.reduceToNat, Int.reduceNe, Int.reduceEq, Int.reduceNeg, decide_true, decide_false, Bool.true_and, Bool.and_true, Bool.or_true, Bool.true_or, Bool.not_true, Bool.not_false, ne_eq, not_false_eq_true, Nat.reducePow, Int.reducePow, na10, int_d, jx5_1, jx5_2, jx5_3, jx5_4, b_add, b_sub, b_adds, b_addt, b_addl, b_mul, b_fdiv, b_mod, b_pow, c_eq, c_ne, c_in, c_nin, c_lt, c_le, c_gt, c_ge, e_ii, e_ss, e_bb, t_bl, t_int, t_non, t_str, t_ref, t_tup, s_ref, s_tup, s_fzl, l_ref, l_fzl, l_tup, i_ref, i_tup, i_fzl, i_str, put_ref, slq_fzl, slq_str, new_l, int_d, src_fzl, src_tup, src_str, src_ref, get_snoc, n_len_s, n_len_t, n_len_r, n_len_f, n_int_i, n_int_b, n_int_s, n_abs, n_tup_r, n_lst_r, n_str_i, n_str_s, nn_non, nn_int, nn_str, nn_bl, nn_tup, nn_ref, tag_is_str, tag_is_int, tag_is_bl, tag_is_non, tag_is_tup, tag_is_ref, Option.some.injEq, reduceCtorEq]
  refine go_lc ?_
  try simp -implicitDefEqProofs only [fs_nil, fs_cons, fmt_str, fmt_int, ev_var, ev_cint, ev_cstr, ev_cbl, ev_cnon, ev_gcon, ev_bop, ev_neg, ev_cmp, ev_isn, ev_nisn, ev_chain, ev_and, ev_or, ev_not, ev_ife, ev_tup, ev_lst, ev_ix, ev_sl, ev_call, ev_meth, ev_make, ev_attr, ev_bi, ev_bm, ev_isin, ev_fstr, evEs, evB, evT, evO, evI, puT, puTs, List.map, List.replicate, List.length, Nat.sub_self, List.append, List.cons_append, List.nil_append, List.getElem?_cons_zero, List.getElem?_cons_succ, must, Option.bind_some, Mi.ret, at5_0, at5_1, at5_2, at5_3, at5_4, ix5_1, ix5_2, ix5_3, ix5_4, List.set_cons_succ, List.set_cons_zero, runs_ok, runs_bind, runs_quiet, Then, after_rt, after_nx, Option.map_some, List.length_map, tgLen, if_true, if_false, eq_self, Bool.false_eq_true, reduceIte, bmTag, Bool.and_self, sz0, sz1, sz2, sz3, sz4, sz5, sz6, sz7, sz8, sz9, sz10, sz11, sz12, Int.reduceLE, Int.reduceLT, Int.reduceToNat, Int.reduceNe, Int.reduceEq, Int.reduceNeg, decide_true, decide_false, Bool.true_and, Bool.and_true, Bool.or_true, Bool.true_or, Bool.not_true, Bool.not_false, ne_eq, not_false_eq_true, Nat.reducePow, Int.reducePow, na10, int_d, jx5_1, jx5_2, jx5_3, jx5_4, b_add, b_sub, b_adds, b_addt, b_addl, b_mul, b_fdiv, b_mod, b_pow, c_eq, c_ne, c_in, c_nin, c_lt, c_le, c_gt, c_ge, e_ii, e_ss, e_bb, t_bl, t_int, t_non, t_str, t_ref, t_tup, s_ref, s_tup, s_fzl, l_ref, l_fzl, l_tup, i_ref, i_tup, i_fzl, i_str, put_ref, slq_fzl, slq_str, new_l, int_d, src_fzl, src_tup, src_str, src_ref, get_snoc, n_len_s, n_len_t, n_len_r, n_len_f, n_int_i, n_int_b, n_int_s, n_abs, n_tup_r, n_lst_r, n_str_i, n_str_s, nn_non, nn_int, nn_str, nn_bl, nn_tup, nn_ref, tag_is_str, tag_is_int, tag_is_bl, tag_is_non, tag_is_tup, tag_is_ref, Option.some.injEq, reduceCtorEq, z1]
  refine (all_in (L := L) (ks := abcL) (fun _ _ => rfl) (by omega) (fun x hx => ?_) fun x L1 => ?_).imp fun _ L2 ⟨u, e⟩ => ?_
  · obtain ⟨g1, g2⟩ := h1 x hx
    unfold abcL
    simp only [List.mem_cons, List.not_mem_nil, or_false]
    omega
  · try simp -implicitDefEqProofs only [fs_nil, fs_cons, fmt_str, fmt_int, ev_var, ev_cint, ev_cstr, ev_cbl, ev_cnon, ev_gcon, ev_bop, ev_neg, ev_cmp, ev_isn, ev_nisn, ev_chain, ev_and, ev_or, ev_not, ev_ife, ev_tup, ev_lst, ev_ix, ev_sl, ev_call, ev_meth, ev_make, ev_attr, ev_bi, ev_bm, ev_isin, ev_fstr, evEs, evB, evT, evO, evI, puT, puTs, List.map, List.replicate, List.length, Nat.sub_self, List.append, List.cons_append, List.nil_append, List.getElem?_cons_zero, List.getElem?_cons_succ, must, Option.bind_some, Mi.ret, at5_0, at5_1, at5_2, at5_3, at5_4, ix5_1, ix5_2, ix5_3, ix5_4, List.set_cons_succ, List.set_cons_zero, runs_ok, runs_bind, runs_quiet, Then, after_rt, after_nx, Option.map_some, List.length_map, tgLen, if_true, if_false, eq_self, Bool.false_eq_true, reduceIte, bmTag, Bool.and_self, sz0, sz1, sz2, sz3, sz4, sz5, sz6, sz7, sz8, sz9, sz10, sz11, sz12, Int.reduceLE, Int.reduceLT, Int.reduceToNat, Int.reduceNe, Int.reduceEq, Int.reduceNeg, decide_true, decide_false, Bool.true_and, Bool.and_true, Bool.or_true, Bool.true_or, Bool.not_true, Bool.not_false, ne_eq, not_false_eq_true, Nat.reducePow, Int.reducePow, na10, int_d, jx5_1, jx5_2, jx5_3, jx5_4, b_add, b_sub, b_adds, b_addt, b_addl, b_mul, b_fdiv, b_mod, b_pow, c_eq, c_ne, c_in, c_nin, c_lt, c_le, c_gt, c_ge, e_ii, e_ss, e_bb, t_bl, t_int, t_non, t_str, t_ref, t_tup, s_ref, s_tup, s_fzl, l_ref, l_fzl, l_tup, i_ref, i_tup, i_fzl, i_str, put_ref, slq_fzl, slq_str, new_l, int_d, src_fzl, src_tup, src_str, src_ref, get_snoc, n_len_s, n_len_t, n_len_r, n_len_f, n_int_i, n_int_b, n_int_s, n_abs, n_tup_r, n_lst_r, n_str_i, n_str_s, nn_non, nn_int, nn_str, nn_bl, nn_tup, nn_ref, tag_is_str, tag_is_int, tag_is_bl, tag_is_non, tag_is_tup, tag_is_ref, Option.some.injEq, reduceCtorEq, wipeL, k0, in_chars, and_self]
  · subst e
    rw [all_true (k := l.length) (pre_keep get_snoc), runs_ok]
    exact ⟨rfl, _, List.append_assoc _ _ _⟩
def vP : Val → PyData
  | .i z => .int z
  | .t z ms => .tuple [.int z, .tuple (ms.map PyData.int)]
theorem dats_I : ∀ (ms : List Int) (k : Nat), dats L (k + 1) (ms.map D.int) = some (ms.map PyData.int)
  | [], _ => by simp [dats]
  | m :: ms, k => by
    have ih := dats_I ms k
    cases k <;> simp [dats, dat, ih]
theorem dat_V (v : Val) (k : Nat) : dat L (k + 4) (vD v) = some (vP v) := by
  cases v with
  | i z => simp [vD, vP, dat]
  | t z ms =>
    have h := dats_I (L := L) ms k
    have h' : dats L (k + 1) (ms.map D.int) = some (ms.map PyData.int) := h
    simp [vD, vP, dat, dats, h']
theorem dats_V : ∀ (vs : List Val) (k : Nat), dats L (k + 5) (vs.map vD) = some (vs.map vP)
  | [], _ => by simp [dats]
  | v :: vs, k => by
    have ih := dats_V vs k
    have h := dat_V (L := L) v k
    simp [dats, h, ih]
theorem lay_I : ∀ ms : List Int, PyData.canLayAll0 (ms.map PyData.int) = true ∧ PyData.depthAll (ms.map PyData.int) = 0
  | [] => ⟨rfl, rfl⟩
  | m :: ms => by
    obtain ⟨h1, h2⟩ := lay_I ms
    refine ⟨h1, ?_⟩
    show max 0 (PyData.depthAll _) = 0
    rw [h2]
    rfl
theorem lay_V1 (v : Val) : PyData.canLay0 (vP v) = true ∧ PyData.depth (vP v) ≤ 2 := by
  cases v with
  | i z => exact ⟨rfl, by show 0 ≤ 2; decide⟩
  | t z ms =>
    obtain ⟨h1, h2⟩ := lay_I ms
    refine ⟨?_, ?_⟩
    · show (true && (PyData.canLayAll0 (ms.map PyData.int) && true)) = true
      rw [h1]
      rfl
    · show max 0 (max (PyData.depthAll (ms.map PyData.int) + 1) 0) + 1 ≤ 2
      rw [h2]
      decide
theorem lay_V : ∀ vs : List Val, PyData.canLayAll0 (vs.map vP) = true ∧ PyData.depthAll (vs.map vP) ≤ 2
  | [] => ⟨rfl, by show 0 ≤ 2; decide⟩
  | v :: vs => by
    obtain ⟨h1, h2⟩ := lay_V vs
    obtain ⟨h3, h4⟩ := lay_V1 v
    refine ⟨?_, ?_⟩
    · show (PyData.canLay0 (vP v) && PyData.canLayAll0 (vs.map vP)) = true
      rw [h1, h3]
      rfl
    · show max (PyData.depth (vP v)) (PyData.depthAll (vs.map vP)) ≤ 2
      omega
/-- None in values -/
theorem no_none_v {a : Nat} {vs : List Val} (h : L[a]? = some (.lst (vs.map vD))) : inD L .non (.ref a) = some false := by
  obtain ⟨h1, h2⟩ := lay_V vs
  have d1 : dat L 80 (.ref a) = some (.list (vs.map vP)) := by
    have := dats_V (L := L) vs 74
    simp only [dat, h, this, Option.map_some]
  have s1 : SeqAt.shaped (.list (vs.map vP)) = true := by
    show (PyData.canLayAll0 (vs.map vP) && decide (PyData.depthAll (vs.map vP) + 1 ≤ 64)) = true
    rw [h1, decide_eq_true (by omega)]
    rfl
  have s2 : SeqAt.shaped .none = true := rfl
  have d2 : dat L 80 .non = some .none := by simp [dat]
  show ((seqD L (.ref a)).bind fun xs => if flatD .non && xs.all flatD then some (xs.any fun z => eqf z .non) else (dat L 80 .non).bind fun x => (dat L 80 (.ref a)).bind fun y => (match y with
        | .list bs => if SeqAt.shaped x && SeqAt.shaped (.list bs) then some (bs.any fun z => PyData.eqv z x) else none
        | _ => none)) = _
  simp only [seqD, h, Option.bind_some, d1, d2, s1, s2, Bool.and_self, if_true]
  split
  · rw [List.any_map, Option.some.injEq, List.any_eq_false]
    intro v _
    cases v <;> simp [eqf, vD]
  · rw [List.any_map, Option.some.injEq, List.any_eq_false]
    intro v _
    cases v <;> simp [vP, PyData.eqv]
end
end Row
end

section
set_option Elab.async false
set_option linter.all false
set_option maxRecDepth 100000
set_option maxHeartbeats 4000000
namespace Row
open PySem PySem.Spec L2 Mi SX PySem.Builtin.Str
theorem pre_second {x : Nat} {l : List Nat} (h : x ≠ 59) (c : Nat) : TL.pre [32, 59, 32] (c :: x :: l) = false := by
  unfold TL.pre
  simp [h]
/-- no 59 in it: " ; " begins nowhere -/
theorem free59 : ∀ {p : List Nat}, 59 ∉ p → SX.free [32, 59, 32] p = true
  | [], _ => rfl
  | [c], h => by
    show (!(TL.pre [32, 59, 32] (c :: 32 :: [59, 32])) && true) = true
    rw [pre_second (by decide)]
    rfl
  | c :: d :: r, h => by
    show (!(TL.pre [32, 59, 32] (c :: d :: (r ++ [32, 59, 32]))) && SX.free [32, 59, 32] (d :: r)) = true
    rw [pre_second fun e => h (by simp [e]), free59 fun hm => h (List.mem_cons_of_mem _ hm)]
    rfl
theorem last59 {p : List Nat} (h : 59 ∉ p) : TL.spl [32, 59, 32] 0 [] p = [p] := by
  have e := TL.spl_last (S := [32, 59, 32]) (p := p) (acc := []) fun i hi => by
    have h1 := SX.free_at (free59 h) [] i hi
    cases q : p.drop i with
    | nil =>
      rfl
    | cons x r =>
      cases r with
      | nil => simp [TL.pre]
      | cons y r =>
        refine pre_second (fun e => h ?_) x
        refine List.mem_of_mem_drop (i := i) ?_
        rw [q, e]
        simp
  rw [List.nil_append] at e
  exact e
theorem spl59 : ∀ {ls : List (List Nat)}, ls ≠ [] → (∀ l ∈ ls, 59 ∉ l) → TL.spl [32, 59, 32] 0 [] (TL.joinL [32, 59, 32] ls) = ls
  | [], h, _ => absurd rfl h
  | [p], _, hp => last59 (hp p (List.mem_singleton.mpr rfl))
  | p :: q :: r, _, hp => by
    have e : TL.joinL [32, 59, 32] (p :: q :: r) = p ++ ([32, 59, 32] ++ TL.joinL [32, 59, 32] (q :: r)) := rfl
    rw [e, spl_free _ (by simp) (free59 (hp p List.mem_cons_self)), spl59 (by simp) fun l hl => hp l (List.mem_cons_of_mem _ hl)]
theorem join_free {x : Nat} {sep : List Nat} : ∀ {ls : List (List Nat)}, x ∉ sep → (∀ l ∈ ls, x ∉ l) → x ∉ TL.joinL sep ls
  | [], _, _ => by simp [TL.joinL]
  | [p], _, hp => hp p (List.mem_singleton.mpr rfl)
  | p :: q :: r, hs, hp => by
    have e : TL.joinL sep (p :: q :: r) = p ++ (sep ++ TL.joinL sep (q :: r)) := rfl
    have h1 := join_free (ls := q :: r) hs fun l hl => hp l (List.mem_cons_of_mem _ hl)
    rw [e, List.mem_append, List.mem_append]
    rintro (h | h | h)
    · exact hp p List.mem_cons_self h
    · exact hs h
    · exact h1 h
theorem vt_free {v : Val} {x : Nat} (h : x = 32 ∨ x = 59) : x ∉ vt v := by
  cases v with
  | i z => exact numI_free (by omega)
  | t z ms =>
    have h1 : x ∉ numI z := numI_free (by omega)
    have h2 : x ∉ TL.joinL [44] (ms.map numI) := join_free (by simp; omega) fun l hl => by
      obtain ⟨m, _, rfl⟩ := List.mem_map.mp hl
      exact numI_free (by omega)
    show x ∉ 35 :: (numI z ++ 40 :: (TL.joinL [44] (ms.map numI) ++ [41]))
    simp only [List.mem_cons, List.mem_append, List.not_mem_nil, or_false, not_or]
    exact ⟨by omega, h1, by omega, h2, by omega⟩
theorem nm_free {l : List Nat} {x : Nat} (h : Nm l) (hx : x < 97 ∨ 122 < x) : x ∉ l := fun hm => by
  have := h.1 x hm
  omega
theorem hst_free {h : Hs} (ok : Nm h.nm) : 59 ∉ hst h := by
  rw [← hst_join]
  refine join_free (by decide) fun l hl => ?_
  rcases List.mem_cons.mp hl with rfl | hl
  · exact nm_free ok (by omega)
  · obtain ⟨v, _, rfl⟩ := List.mem_map.mp hl
    exact vt_free (by omega)
theorem hst_split {h : Hs} (ok : Nm h.nm) : Txt.split (S (hst h)) (S [32]) = (h.nm :: h.vs.map vt).map S := by
  rw [split_S (by simp) (by decide), ← hst_join, spl_join (c := 32) (sep := []) (by simp) fun l hl => ?_]
  rcases List.mem_cons.mp hl with rfl | hl
  · exact nm_free ok (by omega)
  · obtain ⟨v, _, rfl⟩ := List.mem_map.mp hl
    exact vt_free (by omega)
theorem htx_split {hs : List Hs} (hne : hs ≠ []) (ok : ∀ h ∈ hs, Nm h.nm) : Txt.split (S (htx hs)) (S [32, 59, 32]) = (hs.map hst).map S := by
  unfold htx
  rw [if_neg hne, split_S (by simp) (by decide), spl59 (by simp [hne]) fun l hl => by
    obtain ⟨h, hh, rfl⟩ := List.mem_map.mp hl
    exact hst_free (ok h hh)]
theorem htx_ne {hs : List Hs} (ok : ∀ h ∈ hs, Nm h.nm) : decide (S (htx hs) = S [45]) = decide (hs = []) := by
  cases hs with
  | nil => rfl
  | cons h r =>
    rw [decide_eq_false (p := h :: r = []) (by simp), decide_eq_false]
    intro e
    have e1 := S_inj e
    obtain ⟨g1, g2, _, _⟩ := ok h List.mem_cons_self
    obtain ⟨x, t, e2⟩ := List.exists_cons_of_ne_nil (List.length_pos_iff.mp g2)
    unfold htx at e1
    rw [if_neg (by simp), List.map_cons, joinL_sp] at e1
    unfold hst at e1
    rw [e2] at e1
    have e3 : x = 45 := by
      have := congrArg List.head? e1
      simpa using this
    have := g1 x (by rw [e2]; exact List.mem_cons_self)
    omega
end Row
end

section
set_option Elab.async false
set_option linter.all false
set_option maxRecDepth 100000
set_option maxHeartbeats 4000000
namespace Row
open PySem PySem.Spec L2 Mi SX PySem.Builtin.Str
section
variable {n : Nat} {L L' : MH} {b c : Nat} {C : Nat → List D → M D}
def BodyR : Sms := (.cons (.asg (.star (.cons (.var 4) (.cons (.var 5) .nil))) (.bm .split (.var 3) (.cons (.cstr " ") .nil))) (.cons (.asg (.var 6) (.lc (.call 6 (.cons (.var 7) .nil) [] .nil) (.var 7) (.seq (.var 5)) .none [7])) (.cons (.ife (.or (.not (.call 2 (.cons (.var 4) .nil) [] .nil)) (.cmp .In .cnon (.var 6))) (.cons .bad .nil) .nil) (.cons (.expr (.bm .append (.var 1) (.cons (.tup (.cons (.var 4) (.cons (.bi .tuple1 (.cons (.var 6) .nil)) .nil))) .nil))) .nil))))
def LocR (t : D) (m : Nat) (o2 o3 o4 o5 o6 o7 : Option D) : Mi.Loc := [some t, some (.ref m), o2, o3, o4, o5, o6, o7]
theorem app_run {m : Nat} {acc : List D} {d : D} (h : L[m]? = some (.lst acc)) (hl : acc.length < 16777216) : bmD .append (.ref m) [d] L = .ok .non (L.set m (.lst (acc ++ [d]))) := by
  simp only [bmD, h, decide_eq_true hl, if_true]
theorem read_turn {t : D} {m : Nat} {acc : List D} {h : Hs} {o2 o4 o5 o6 o7 : Option D} (ok : HOk h) (hm : L[m]? = some (.lst acc)) (hacc : acc.length ≤ 1000) :
    Runs (exSs R.T (callN R.T wf (n + 2)) wf BodyR (LocR t m o2 (some (.str (S (hst h)))) o4 o5 o6 o7) L) fun fl L' => (∃ a2 a3 a4 a5 a6 a7, fl = .nx (LocR t m a2 a3 a4 a5 a6 a7)) ∧ ∃ u, L' = L.set m (.lst (acc ++ [hD h])) ++ u := by
  have ltm : m < L.length := (List.getElem?_eq_some_iff.mp hm).1
  obtain ⟨okn, okl, okv⟩ := ok
  have okh : HOk h := ⟨okn, okl, okv⟩
  unfold BodyR LocR
  have e32 : (" " : Str) = S [32] := by decide +kernel
  rw [e32]
  have sp : bmD .split (.str (S (hst h))) [.str (S [32])] L = newL (D.str (S h.nm) :: h.vs.map fun v => D.str (S (vt v))) L := by
    have q : (decide (((S [32]).length == 0) = false) && sizeOkB ((S (hst h)).length + 2)) = true := by
      have : sizeOkB ((S (hst h)).length + 2) = true := by
        unfold sizeOkB
        rw [S_len]
        exact decide_eq_true (by have := hst_len okh; omega)
      rw [this]
      rfl
    simp only [bmD, q, if_true, hst_split okn, List.map_map, List.map_cons]
    rfl
  have pt : ∀ (ρ : Mi.Loc) (L1 : MH), L1[L.length]? = some (.lst (D.str (S h.nm) :: h.vs.map fun v => D.str (S (vt v)))) → puT R.T (callN R.T wf (n + 2)) (.star (.cons (.var 4) (.cons (.var 5) .nil))) (.ref L.length) ρ L1 = .ok ((ρ.set 4 (some (.str (S h.nm)))).set 5 (some (.ref L1.length))) (L1 ++ [.lst (h.vs.map fun v => D.str (S (vt v)))]) := fun ρ L1 h1 => by
    have q : (decide (tgLen (.cons (.var 4) (.cons (.var 5) .nil)) ≤ (D.str (S h.nm) :: h.vs.map fun v => D.str (S (vt v))).length + 1) && decide ((D.str (S h.nm) :: h.vs.map fun v => D.str (S (vt v))).length ≤ 16384)) = true := by
      rw [Bool.and_eq_true, decide_eq_true_iff, decide_eq_true_iff, List.length_cons, List.length_map]
      exact ⟨by show 2 ≤ _; omega, by omega⟩
    simp only [puT, listD, h1]
    rw [if_pos q]
    rfl
  have he : evE R.T (callN R.T wf (n + 2)) (.bm .split (.var 3) (.cons (.cstr (S [32])) .nil)) [some t, some (.ref m), o2, some (.str (S (hst h))), o4, o5, o6, o7] L = newL (D.str (S h.nm) :: h.vs.map fun v => D.str (S (vt v))) L := sp
  refine go_cons (go_asg ?_)
  rw [he]
  unfold newL
  rw [runs_ok, pt _ _ get_snoc, runs_ok]
  try simp -implicitDefEqProofs only [fs_nil, fs_cons, fmt_str, fmt_int, ev_var, ev_cint, ev_cstr, ev_cbl, ev_cnon, ev_gcon, ev_bop, ev_neg, ev_cmp, ev_isn, ev_nisn, ev_chain, ev_and, ev_or, ev_not, ev_ife, ev_tup, ev_lst, ev_ix, ev_sl, ev_call, ev_meth, ev_make, ev_attr, ev_bi, ev_bm, ev_isin, ev_fstr, evEs, evB, evT, evO, evI, puT, puTs, List.map, List.replicate, List.length, Nat.sub_self, List.append, List.cons_append, List.nil_append, List.getElem?_cons_zero, List.getElem?_cons_succ, must, Option.bind_some, Mi.ret, at5_0, at5_1, at5_2, at5_3, at5_4, ix5_1, ix5_2, ix5_3, ix5_4, List.set_cons_succ, List.set_cons_zero, runs_ok, runs_bind, runs_quiet, Then, after_rt, after_nx, Option.map_some, List.length_map, tgLen, if_true, if_false, eq_self, Bool.false_eq_true, reduceIte, bmTag, Bool.and_self, sz0, sz1, sz2, sz3, sz4, sz5, sz6, sz7, sz8, sz9, sz10, sz11, sz12, Int.reduceLE, Int.reduceLT, Int.reduceToNat, Int.reduceNe, Int.reduceEq, Int.reduceNeg, decide_true, decide_false, Bool.true_and, Bool.and_true, Bool.or_true, Bool.true_or, Bool.not_true, Bool.not_false, ne_eq, not_false_eq_true, Nat.reducePow, Int.reducePow, na10, int_d, jx5_1, jx5_2, jx5_3, jx5_4, b_add, b_sub, b_adds, b_addt, b_addl, b_mul, b_fdiv, b_mod, b_pow, c_eq, c_ne, c_in, c_nin, c_lt, c_le, c_gt, c_ge, e_ii, e_ss, e_bb, t_bl, t_int, t_non, t_str, t_ref, t_tup, s_ref, s_tup, s_fzl, l_ref, l_fzl, l_tup, i_ref, i_tup, i_fzl, i_str, put_ref, slq_fzl, slq_str, new_l, int_d, src_fzl, src_tup, src_str, src_ref, get_snoc, n_len_s, n_len_t, n_len_r, n_len_f, n_int_i, n_int_b, n_int_s, n_abs, n_tup_r, n_lst_r, n_str_i, n_str_s, nn_non, nn_int, nn_str, nn_bl, nn_tup, nn_ref, tag_is_str, tag_is_int, tag_is_bl, tag_is_non, tag_is_tup, tag_is_ref, Option.some.injEq, reduceCtorEq]
  refine go_cons (go_var ?_)
  refine go_lc ?_
  try simp -implicitDefEqProofs only [fs_nil, fs_cons, fmt_str, fmt_int, ev_var, ev_cint, ev_cstr, ev_cbl, ev_cnon, ev_gcon, ev_bop, ev_neg, ev_cmp, ev_isn, ev_nisn, ev_chain, ev_and, ev_or, ev_not, ev_ife, ev_tup, ev_lst, ev_ix, ev_sl, ev_call, ev_meth, ev_make, ev_attr, ev_bi, ev_bm, ev_isin, ev_fstr, evEs, evB, evT, evO, evI, puT, puTs, List.map, List.replicate, List.length, Nat.sub_self, List.append, List.cons_append, List.nil_append, List.getElem?_cons_zero, List.getElem?_cons_succ, must, Option.bind_some, Mi.ret, at5_0, at5_1, at5_2, at5_3, at5_4, ix5_1, ix5_2, ix5_3, ix5_4, List.set_cons_succ, List.set_cons_zero, runs_ok, runs_bind, runs_quiet, Then, after_rt, after_nx, Option.map_some, List.length_map, tgLen, if_true, if_false, eq_self, Bool.false_eq_true, reduceIte, bmTag, Bool.and_self, sz0, sz1, sz2, sz3, sz4, sz5, sz6, sz7, sz8, sz9, sz10, sz11, sz12, Int.reduceLE, Int.reduceLT, Int.reduceToNat, Int.reduceNe, Int.reduceEq, Int.reduceNeg, decide_true, decide_false, Bool.true_and, Bool.and_true, Bool.or_true, Bool.true_or, Bool.not_true, Bool.not_false, ne_eq, not_false_eq_true, Nat.reducePow, Int.reducePow, na10, int_d, jx5_1, jx5_2, jx5_3, jx5_4, b_add, b_sub, b_adds, b_addt, b_addl, b_mul, b_fdiv, b_mod, b_pow, c_eq, c_ne, c_in, c_nin, c_lt, c_le, c_gt, c_ge, e_ii, e_ss, e_bb, t_bl, t_int, t_non, t_str, t_ref, t_tup, s_ref, s_tup, s_fzl, l_ref, l_fzl, l_tup, i_ref, i_tup, i_fzl, i_str, put_ref, slq_fzl, slq_str, new_l, int_d, src_fzl, src_tup, src_str, src_ref, get_snoc, n_len_s, n_len_t, n_len_r, n_len_f, n_int_i, n_int_b, n_int_s, n_abs, n_tup_r, n_lst_r, n_str_i, n_str_s, nn_non, nn_int, nn_str, nn_bl, nn_tup, nn_ref, tag_is_str, tag_is_int, tag_is_bl, tag_is_non, tag_is_tup, tag_is_ref, Option.some.injEq, reduceCtorEq]
  refine (lc_mapA (as := h.vs) (fun v => D.str (S (vt v))) vD (fun _ _ => rfl) (by omega) (fun u i => ?_) ?_ fun v hv u => ?_).imp fun _ L3 ⟨u3, e3⟩ => ?_
  · simp only [Wk.at, Src.at]
    rw [pre_keep get_snoc]
  · simp only [Wk.len, Src.len]
    rw [pre_keep get_snoc]
    exact List.length_map ..
  · try simp -implicitDefEqProofs only [fs_nil, fs_cons, fmt_str, fmt_int, ev_var, ev_cint, ev_cstr, ev_cbl, ev_cnon, ev_gcon, ev_bop, ev_neg, ev_cmp, ev_isn, ev_nisn, ev_chain, ev_and, ev_or, ev_not, ev_ife, ev_tup, ev_lst, ev_ix, ev_sl, ev_call, ev_meth, ev_make, ev_attr, ev_bi, ev_bm, ev_isin, ev_fstr, evEs, evB, evT, evO, evI, puT, puTs, List.map, List.replicate, List.length, Nat.sub_self, List.append, List.cons_append, List.nil_append, List.getElem?_cons_zero, List.getElem?_cons_succ, must, Option.bind_some, Mi.ret, at5_0, at5_1, at5_2, at5_3, at5_4, ix5_1, ix5_2, ix5_3, ix5_4, List.set_cons_succ, List.set_cons_zero, runs_ok, runs_bind, runs_quiet, Then, after_rt, after_nx, Option.map_some, List.length_map, tgLen, if_true, if_false, eq_self, Bool.false_eq_true, reduceIte, bmTag, Bool.and_self, sz0, sz1, sz2, sz3, sz4, sz5, sz6, sz7, sz8, sz9, sz10, sz11, sz12, Int.reduceLE, Int.reduceLT, Int.reduceToNat, Int.reduceNe, Int.reduceEq, Int.reduceNeg, decide_true, decide_false, Bool.true_and, Bool.and_true, Bool.or_true, Bool.true_or, Bool.not_true, Bool.not_false, ne_eq, not_false_eq_true, Nat.reducePow, Int.reducePow, na10, int_d, jx5_1, jx5_2, jx5_3, jx5_4, b_add, b_sub, b_adds, b_addt, b_addl, b_mul, b_fdiv, b_mod, b_pow, c_eq, c_ne, c_in, c_nin, c_lt, c_le, c_gt, c_ge, e_ii, e_ss, e_bb, t_bl, t_int, t_non, t_str, t_ref, t_tup, s_ref, s_tup, s_fzl, l_ref, l_fzl, l_tup, i_ref, i_tup, i_fzl, i_str, put_ref, slq_fzl, slq_str, new_l, int_d, src_fzl, src_tup, src_str, src_ref, get_snoc, n_len_s, n_len_t, n_len_r, n_len_f, n_int_i, n_int_b, n_int_s, n_abs, n_tup_r, n_lst_r, n_str_i, n_str_s, nn_non, nn_int, nn_str, nn_bl, nn_tup, nn_ref, tag_is_str, tag_is_int, tag_is_bl, tag_is_non, tag_is_tup, tag_is_ref, Option.some.injEq, reduceCtorEq, wipeL, cl_is_name, cl_value_text, cl_history_text, cl_read_integer, cl_read_value, cl_read_history, cl__law_draws, cl__law_pull, cl__law_any, cl__law_like, cl__law_reserved, cl__law_new_names, cl__law_far, cl__law_far_value, cl__law_value_text, cl__law_history_text, cl_law]
    exact read_value_spec (n := n) (okv v hv)
  subst e3
  refine go_cons (go_if ?_)
  try simp -implicitDefEqProofs only [fs_nil, fs_cons, fmt_str, fmt_int, ev_var, ev_cint, ev_cstr, ev_cbl, ev_cnon, ev_gcon, ev_bop, ev_neg, ev_cmp, ev_isn, ev_nisn, ev_chain, ev_and, ev_or, ev_not, ev_ife, ev_tup, ev_lst, ev_ix, ev_sl, ev_call, ev_meth, ev_make, ev_attr, ev_bi, ev_bm, ev_isin, ev_fstr, evEs, evB, evT, evO, evI, puT, puTs, List.map, List.replicate, List.length, Nat.sub_self, List.append, List.cons_append, List.nil_append, List.getElem?_cons_zero, List.getElem?_cons_succ, must, Option.bind_some, Mi.ret, at5_0, at5_1, at5_2, at5_3, at5_4, ix5_1, ix5_2, ix5_3, ix5_4, List.set_cons_succ, List.set_cons_zero, runs_ok, runs_bind, runs_quiet, Then, after_rt, after_nx, Option.map_some, List.length_map, tgLen, if_true, if_false, eq_self, Bool.false_eq_true, reduceIte, bmTag, Bool.and_self, sz0, sz1, sz2, sz3, sz4, sz5, sz6, sz7, sz8, sz9, sz10, sz11, sz12, Int.reduceLE, Int.reduceLT, Int.reduceToNat, Int.reduceNe, Int.reduceEq, Int.reduceNeg, decide_true, decide_false, Bool.true_and, Bool.and_true, Bool.or_true, Bool.true_or, Bool.not_true, Bool.not_false, ne_eq, not_false_eq_true, Nat.reducePow, Int.reducePow, na10, int_d, jx5_1, jx5_2, jx5_3, jx5_4, b_add, b_sub, b_adds, b_addt, b_addl, b_mul, b_fdiv, b_mod, b_pow, c_eq, c_ne, c_in, c_nin, c_lt, c_le, c_gt, c_ge, e_ii, e_ss, e_bb, t_bl, t_int, t_non, t_str, t_ref, t_tup, s_ref, s_tup, s_fzl, l_ref, l_fzl, l_tup, i_ref, i_tup, i_fzl, i_str, put_ref, slq_fzl, slq_str, new_l, int_d, src_fzl, src_tup, src_str, src_ref, get_snoc, n_len_s, n_len_t, n_len_r, n_len_f, n_int_i, n_int_b, n_int_s, n_abs, n_tup_r, n_lst_r, n_str_i, n_str_s, nn_non, nn_int, nn_str, nn_bl, nn_tup, nn_ref, tag_is_str, tag_is_int, tag_is_bl, tag_is_non, tag_is_tup, tag_is_ref, Option.some.injEq, reduceCtorEq, cl_is_name, cl_value_text, cl_history_text, cl_read_integer, cl_read_value, cl_read_history, cl__law_draws, cl__law_pull, cl__law_any, cl__law_like, cl__law_reserved, cl__law_new_names, cl__law_far, cl__law_far_value, cl__law_value_text, cl__law_history_text, cl_law]
  refine (is_name_spec (n := n + 1) okn).imp fun d L4 ⟨q1, u4, q2⟩ => ?_
  subst q1 q2
  have gv : ∀ w : MH, (L ++ [.lst (D.str (S h.nm) :: h.vs.map fun v => D.str (S (vt v)))] ++ [.lst (h.vs.map fun v => D.str (S (vt v)))] ++ [.lst (h.vs.map vD)] ++ w)[(L ++ [O.lst (D.str (S h.nm) :: h.vs.map fun v => D.str (S (vt v)))] ++ [O.lst (h.vs.map fun v => D.str (S (vt v)))]).length]? = some (.lst (h.vs.map vD)) := fun w => pre_keep get_snoc
  have gw := gv (u3 ++ u4)
  rw [← List.append_assoc] at gw
  try simp -implicitDefEqProofs only [fs_nil, fs_cons, fmt_str, fmt_int, ev_var, ev_cint, ev_cstr, ev_cbl, ev_cnon, ev_gcon, ev_bop, ev_neg, ev_cmp, ev_isn, ev_nisn, ev_chain, ev_and, ev_or, ev_not, ev_ife, ev_tup, ev_lst, ev_ix, ev_sl, ev_call, ev_meth, ev_make, ev_attr, ev_bi, ev_bm, ev_isin, ev_fstr, evEs, evB, evT, evO, evI, puT, puTs, List.map, List.replicate, List.length, Nat.sub_self, List.append, List.cons_append, List.nil_append, List.getElem?_cons_zero, List.getElem?_cons_succ, must, Option.bind_some, Mi.ret, at5_0, at5_1, at5_2, at5_3, at5_4, ix5_1, ix5_2, ix5_3, ix5_4, List.set_cons_succ, List.set_cons_zero, runs_ok, runs_bind, runs_quiet, Then, after_rt, after_nx, Option.map_some, List.length_map, tgLen, if_true, if_false, eq_self, Bool.false_eq_true, reduceIte, bmTag, Bool.and_self, sz0, sz1, sz2, sz3, sz4, sz5, sz6, sz7, sz8, sz9, sz10, sz11, sz12, Int.reduceLE, Int.reduceLT, Int.reduceToNat, Int.reduceNe, Int.reduceEq, Int.reduceNeg, decide_true, decide_false, Bool.true_and, Bool.and_true, Bool.or_true, Bool.true_or, Bool.not_true, Bool.not_false, ne_eq, not_false_eq_true, Nat.reducePow, Int.reducePow, na10, int_d, jx5_1, jx5_2, jx5_3, jx5_4, b_add, b_sub, b_adds, b_addt, b_addl, b_mul, b_fdiv, b_mod, b_pow, c_eq, c_ne, c_in, c_nin, c_lt, c_le, c_gt, c_ge, e_ii, e_ss, e_bb, t_bl, t_int, t_non, t_str, t_ref, t_tup, s_ref, s_tup, s_fzl, l_ref, l_fzl, l_tup, i_ref, i_tup, i_fzl, i_str, put_ref, slq_fzl, slq_str, new_l, int_d, src_fzl, src_tup, src_str, src_ref, get_snoc, n_len_s, n_len_t, n_len_r, n_len_f, n_int_i, n_int_b, n_int_s, n_abs, n_tup_r, n_lst_r, n_str_i, n_str_s, nn_non, nn_int, nn_str, nn_bl, nn_tup, nn_ref, tag_is_str, tag_is_int, tag_is_bl, tag_is_non, tag_is_tup, tag_is_ref, Option.some.injEq, reduceCtorEq, no_none_v gw]
  have gm : (L ++ [.lst (D.str (S h.nm) :: h.vs.map fun v => D.str (S (vt v)))] ++ [.lst (h.vs.map fun v => D.str (S (vt v)))] ++ [.lst (h.vs.map vD)] ++ u3 ++ u4)[m]? = some (.lst acc) := pre_keep (pre_keep (pre_keep (pre_keep (pre_keep hm))))
  refine go_nilT (go_cons (go_expr ?_))
  try simp -implicitDefEqProofs only [fs_nil, fs_cons, fmt_str, fmt_int, ev_var, ev_cint, ev_cstr, ev_cbl, ev_cnon, ev_gcon, ev_bop, ev_neg, ev_cmp, ev_isn, ev_nisn, ev_chain, ev_and, ev_or, ev_not, ev_ife, ev_tup, ev_lst, ev_ix, ev_sl, ev_call, ev_meth, ev_make, ev_attr, ev_bi, ev_bm, ev_isin, ev_fstr, evEs, evB, evT, evO, evI, puT, puTs, List.map, List.replicate, List.length, Nat.sub_self, List.append, List.cons_append, List.nil_append, List.getElem?_cons_zero, List.getElem?_cons_succ, must, Option.bind_some, Mi.ret, at5_0, at5_1, at5_2, at5_3, at5_4, ix5_1, ix5_2, ix5_3, ix5_4, List.set_cons_succ, List.set_cons_zero, runs_ok, runs_bind, runs_quiet, Then, after_rt, after_nx, Option.map_some, List.length_map, tgLen, if_true, if_false, eq_self, Bool.false_eq_true, reduceIte, bmTag, Bool.and_self, sz0, sz1, sz2, sz3, sz4, sz5, sz6, sz7, sz8, sz9, sz10, sz11, sz12, Int.reduceLE, Int.reduceLT, Int.reduceToNat, Int.reduceNe, Int.reduceEq, Int.reduceNeg, decide_true, decide_false, Bool.true_and, Bool.and_true, Bool.or_true, Bool.true_or, Bool.not_true, Bool.not_false, ne_eq, not_false_eq_true, Nat.reducePow, Int.reducePow, na10, int_d, jx5_1, jx5_2, jx5_3, jx5_4, b_add, b_sub, b_adds, b_addt, b_addl, b_mul, b_fdiv, b_mod, b_pow, c_eq, c_ne, c_in, c_nin, c_lt, c_le, c_gt, c_ge, e_ii, e_ss, e_bb, t_bl, t_int, t_non, t_str, t_ref, t_tup, s_ref, s_tup, s_fzl, l_ref, l_fzl, l_tup, i_ref, i_tup, i_fzl, i_str, put_ref, slq_fzl, slq_str, new_l, int_d, src_fzl, src_tup, src_str, src_ref, get_snoc, n_len_s, n_len_t, n_len_r, n_len_f, n_int_i, n_int_b, n_int_s, n_abs, n_tup_r, n_lst_r, n_str_i, n_str_s, nn_non, nn_int, nn_str, nn_bl, nn_tup, nn_ref, tag_is_str, tag_is_int, tag_is_bl, tag_is_non, tag_is_tup, tag_is_ref, Option.some.injEq, reduceCtorEq, gm, gw]
  rw [app_run gm (by omega)]
  try simp -implicitDefEqProofs only [fs_nil, fs_cons, fmt_str, fmt_int, ev_var, ev_cint, ev_cstr, ev_cbl, ev_cnon, ev_gcon, ev_bop, ev_neg, ev_cmp, ev_isn, ev_nisn, ev_chain, ev_and, ev_or, ev_not, ev_ife, ev_tup, ev_lst, ev_ix, ev_sl, ev_call, ev_meth, ev_make, ev_attr, ev_bi, ev_bm, ev_isin, ev_fstr, evEs, evB, evT, evO, evI, puT, puTs, List.map, List.replicate, List.length, Nat.sub_self, List.append, List.cons_append, List.nil_append, List.getElem?_cons_zero, List.getElem?_cons_succ, must, Option.bind_some, Mi.ret, at5_0, at5_1, at5_2, at5_3, at5_4, ix5_1, ix5_2, ix5_3, ix5_4, List.set_cons_succ, List.set_cons_zero, runs_ok, runs_bind, runs_quiet, Then, after_rt, after_nx, Option.map_some, List.length_map, tgLen, if_true, if_false, eq_self, Bool.false_eq_true, reduceIte, bmTag, Bool.and_self, sz0, sz1, sz2, sz3, sz4, sz5, sz6, sz7, sz8, sz9, sz10, sz11, sz12, Int.reduceLE, Int.reduceLT, Int.reduceToNat, Int.reduceNe, Int.reduceEq, Int.reduceNeg, decide_true, decide_false, Bool.true_and, Bool.and_true, Bool.or_true, Bool.true_or, Bool.not_true, Bool.not_false, ne_eq, not_false_eq_true, Nat.reducePow, Int.reducePow, na10, int_d, jx5_1, jx5_2, jx5_3, jx5_4, b_add, b_sub, b_adds, b_addt, b_addl, b_mul, b_fdiv, b_mod, b_pow, c_eq, c_ne, c_in, c_nin, c_lt, c_le, c_gt, c_ge, e_ii, e_ss, e_bb, t_bl, t_int, t_non, t_str, t_ref, t_tup, s_ref, s_tup, s_fzl, l_ref, l_fzl, l_tup, i_ref, i_tup, i_fzl, i_str, put_ref, slq_fzl, slq_str, new_l, int_d, src_fzl, src_tup, src_str, src_ref, get_snoc, n_len_s, n_len_t, n_len_r, n_len_f, n_int_i, n_int_b, n_int_s, n_abs, n_tup_r, n_lst_r, n_str_i, n_str_s, nn_non, nn_int, nn_str, nn_bl, nn_tup, nn_ref, tag_is_str, tag_is_int, tag_is_bl, tag_is_non, tag_is_tup, tag_is_ref, Option.some.injEq, reduceCtorEq]
  refine go_nil ⟨⟨_, _, _, _, _, _, rfl⟩, [.lst (D.str (S h.nm) :: h.vs.map fun v => D.str (S (vt v)))] ++ [.lst (h.vs.map fun v => D.str (S (vt v)))] ++ [.lst (h.vs.map vD)] ++ u3 ++ u4, ?_⟩
  simp only [List.append_assoc]
  rw [List.set_append_left _ _ ltm]
  rfl
end
end Row
end

section
set_option Elab.async false
set_option linter.all false
set_option maxRecDepth 100000
set_option maxHeartbeats 4000000
namespace Row
open PySem PySem.Spec L2 Mi SX PySem.Builtin.Str
section
variable {n : Nat} {L L' : MH} {b c : Nat} {C : Nat → List D → M D}
theorem read_history_spec {hs : List Hs} (ok : ∀ h ∈ hs, HOk h) (hl : hs.length ≤ 6) : Runs (callN R.T wf (n + 3) f_read_history [.str (S (htx hs))] L) fun d L' => d = .ref L.length ∧ ∃ u, L' = L ++ [.lst (hs.map hD)] ++ u := by
  refine go_def (fd := fd_read_history) rfl rfl ?_
  simp only [fd_read_history, ir_read_history]
  have e1 : (" ; " : Str) = S [32, 59, 32] := by decide +kernel
  have e2 : ("-" : Str) = S [45] := by decide +kernel
  have okn : ∀ h ∈ hs, Nm h.nm := fun h hh => (ok h hh).1
  rw [e1, e2]
  refine go_cons (go_var ?_)
  try simp -implicitDefEqProofs only [fs_nil, fs_cons, fmt_str, fmt_int, ev_var, ev_cint, ev_cstr, ev_cbl, ev_cnon, ev_gcon, ev_bop, ev_neg, ev_cmp, ev_isn, ev_nisn, ev_chain, ev_and, ev_or, ev_not, ev_ife, ev_tup, ev_lst, ev_ix, ev_sl, ev_call, ev_meth, ev_make, ev_attr, ev_bi, ev_bm, ev_isin, ev_fstr, evEs, evB, evT, evO, evI, puT, puTs, List.map, List.replicate, List.length, Nat.sub_self, List.append, List.cons_append, List.nil_append, List.getElem?_cons_zero, List.getElem?_cons_succ, must, Option.bind_some, Mi.ret, at5_0, at5_1, at5_2, at5_3, at5_4, ix5_1, ix5_2, ix5_3, ix5_4, List.set_cons_succ, List.set_cons_zero, runs_ok, runs_bind, runs_quiet, Then, after_rt, after_nx, Option.map_some, List.length_map, tgLen, if_true, if_false, eq_self, Bool.false_eq_true, reduceIte, bmTag, Bool.and_self, sz0, sz1, sz2, sz3, sz4, sz5, sz6, sz7, sz8, sz9, sz10, sz11, sz12, Int.reduceLE, Int.reduceLT, Int.reduceToNat, Int.reduceNe, Int.reduceEq, Int.reduceNeg, decide_true, decide_false, Bool.true_and, Bool.and_true, Bool.or_true, Bool.true_or, Bool.not_true, Bool.not_false, ne_eq, not_false_eq_true, Nat.reducePow, Int.reducePow, na10, int_d, jx5_1, jx5_2, jx5_3, jx5_4, b_add, b_sub, b_adds, b_addt, b_addl, b_mul, b_fdiv, b_mod, b_pow, c_eq, c_ne, c_in, c_nin, c_lt, c_le, c_gt, c_ge, e_ii, e_ss, e_bb, t_bl, t_int, t_non, t_str, t_ref, t_tup, s_ref, s_tup, s_fzl, l_ref, l_fzl, l_tup, i_ref, i_tup, i_fzl, i_str, put_ref, slq_fzl, slq_str, new_l, int_d, src_fzl, src_tup, src_str, src_ref, get_snoc, n_len_s, n_len_t, n_len_r, n_len_f, n_int_i, n_int_b, n_int_s, n_abs, n_tup_r, n_lst_r, n_str_i, n_str_s, nn_non, nn_int, nn_str, nn_bl, nn_tup, nn_ref, tag_is_str, tag_is_int, tag_is_bl, tag_is_non, tag_is_tup, tag_is_ref, Option.some.injEq, reduceCtorEq]
  have he : Runs (evE R.T (callN R.T wf (n + 2)) (.ife (.cmp .NotEq (.var 0) (.cstr (S [45]))) (.bm .split (.var 0) (.cons (.cstr (S [32, 59, 32])) .nil)) (.lst .nil)) (LocR (.str (S (htx hs))) L.length none none none none none none) (L ++ [.lst []])) fun d L1 => d = .ref (L ++ [O.lst []]).length ∧ L1 = L ++ [.lst []] ++ [.lst (hs.map fun h => .str (S (hst h)))] := by
    unfold LocR
    by_cases hn : hs = []
    · subst hn
      try simp -implicitDefEqProofs only [fs_nil, fs_cons, fmt_str, fmt_int, ev_var, ev_cint, ev_cstr, ev_cbl, ev_cnon, ev_gcon, ev_bop, ev_neg, ev_cmp, ev_isn, ev_nisn, ev_chain, ev_and, ev_or, ev_not, ev_ife, ev_tup, ev_lst, ev_ix, ev_sl, ev_call, ev_meth, ev_make, ev_attr, ev_bi, ev_bm, ev_isin, ev_fstr, evEs, evB, evT, evO, evI, puT, puTs, List.map, List.replicate, List.length, Nat.sub_self, List.append, List.cons_append, List.nil_append, List.getElem?_cons_zero, List.getElem?_cons_succ, must, Option.bind_some, Mi.ret, at5_0, at5_1, at5_2, at5_3, at5_4, ix5_1, ix5_2, ix5_3, ix5_4, List.set_cons_succ, List.set_cons_zero, runs_ok, runs_bind, runs_quiet, Then, after_rt, after_nx, Option.map_some, List.length_map, tgLen, if_true, if_false, eq_self, Bool.false_eq_true, reduceIte, bmTag, Bool.and_self, sz0, sz1, sz2, sz3, sz4, sz5, sz6, sz7, sz8, sz9, sz10, sz11, sz12, Int.reduceLE, Int.reduceLT, Int.reduceToNat, Int.reduceNe, Int.reduceEq, Int.reduceNeg, decide_true, decide_false, Bool.true_and, Bool.and_true, Bool.or_true, Bool.true_or, Bool.not_true, Bool.not_false, ne_eq, not_false_eq_true, Nat.reducePow, Int.reducePow, na10, int_d, jx5_1, jx5_2, jx5_3, jx5_4, b_add, b_sub, b_adds, b_addt, b_addl, b_mul, b_fdiv, b_mod, b_pow, c_eq, c_ne, c_in, c_nin, c_lt, c_le, c_gt, c_ge, e_ii, e_ss, e_bb, t_bl, t_int, t_non, t_str, t_ref, t_tup, s_ref, s_tup, s_fzl, l_ref, l_fzl, l_tup, i_ref, i_tup, i_fzl, i_str, put_ref, slq_fzl, slq_str, new_l, int_d, src_fzl, src_tup, src_str, src_ref, get_snoc, n_len_s, n_len_t, n_len_r, n_len_f, n_int_i, n_int_b, n_int_s, n_abs, n_tup_r, n_lst_r, n_str_i, n_str_s, nn_non, nn_int, nn_str, nn_bl, nn_tup, nn_ref, tag_is_str, tag_is_int, tag_is_bl, tag_is_non, tag_is_tup, tag_is_ref, Option.some.injEq, reduceCtorEq, htx_ne okn]
      exact ⟨trivial, trivial⟩
    · have sp : ∀ L1 : MH, bmD .split (.str (S (htx hs))) [.str (S [32, 59, 32])] L1 = newL (hs.map fun h => D.str (S (hst h))) L1 := fun L1 => by
        have q : (decide (((S [32, 59, 32]).length == 0) = false) && sizeOkB ((S (htx hs)).length + 2)) = true := by
          have : sizeOkB ((S (htx hs)).length + 2) = true := by
            unfold sizeOkB
            rw [S_len]
            have := join_le (a := [32, 59, 32]) (hs.map hst)
            have h2 := steps_sum ok hl
            unfold htx
            rw [if_neg hn]
            refine decide_eq_true ?_
            have h3 : ((hs.map hst).map List.length).sum ≤ 6 * 1400 := by
              have := sum_le (B := 1400) (ls := hs.map hst) fun l hl => by
                obtain ⟨v, hv, rfl⟩ := List.mem_map.mp hl
                exact hst_len (ok v hv)
              exact Nat.le_trans this (Nat.mul_le_mul_right _ (by rw [List.length_map]; exact hl))
            rw [List.length_map] at this
            simp only [List.length_cons, List.length_nil] at this
            omega
          rw [this]
          rfl
        simp only [bmD, q, if_true, htx_split hn okn, List.map_map]
        rfl
      try simp -implicitDefEqProofs only [fs_nil, fs_cons, fmt_str, fmt_int, ev_var, ev_cint, ev_cstr, ev_cbl, ev_cnon, ev_gcon, ev_bop, ev_neg, ev_cmp, ev_isn, ev_nisn, ev_chain, ev_and, ev_or, ev_not, ev_ife, ev_tup, ev_lst, ev_ix, ev_sl, ev_call, ev_meth, ev_make, ev_attr, ev_bi, ev_bm, ev_isin, ev_fstr, evEs, evB, evT, evO, evI, puT, puTs, List.map, List.replicate, List.length, Nat.sub_self, List.append, List.cons_append, List.nil_append, List.getElem?_cons_zero, List.getElem?_cons_succ, must, Option.bind_some, Mi.ret, at5_0, at5_1, at5_2, at5_3, at5_4, ix5_1, ix5_2, ix5_3, ix5_4, List.set_cons_succ, List.set_cons_zero, runs_ok, runs_bind, runs_quiet, Then, after_rt, after_nx, Option.map_some, List.length_map, tgLen, if_true, if_false, eq_self, Bool.false_eq_true, reduceIte, bmTag, Bool.and_self, sz0, sz1, sz2, sz3, sz4, sz5, sz6, sz7, sz8, sz9, sz10, sz11, sz12, Int.reduceLE, Int.reduceLT, Int.reduceToNat, Int.reduceNe, Int.reduceEq, Int.reduceNeg, decide_true, decide_false, Bool.true_and, Bool.and_true, Bool.or_true, Bool.true_or, Bool.not_true, Bool.not_false, ne_eq, not_false_eq_true, Nat.reducePow, Int.reducePow, na10, int_d, jx5_1, jx5_2, jx5_3, jx5_4, b_add, b_sub, b_adds, b_addt, b_addl, b_mul, b_fdiv, b_mod, b_pow, c_eq, c_ne, c_in, c_nin, c_lt, c_le, c_gt, c_ge, e_ii, e_ss, e_bb, t_bl, t_int, t_non, t_str, t_ref, t_tup, s_ref, s_tup, s_fzl, l_ref, l_fzl, l_tup, i_ref, i_tup, i_fzl, i_str, put_ref, slq_fzl, slq_str, new_l, int_d, src_fzl, src_tup, src_str, src_ref, get_snoc, n_len_s, n_len_t, n_len_r, n_len_f, n_int_i, n_int_b, n_int_s, n_abs, n_tup_r, n_lst_r, n_str_i, n_str_s, nn_non, nn_int, nn_str, nn_bl, nn_tup, nn_ref, tag_is_str, tag_is_int, tag_is_bl, tag_is_non, tag_is_tup, tag_is_ref, Option.some.injEq, reduceCtorEq, htx_ne okn, decide_eq_false hn, sp]
      exact ⟨trivial, trivial⟩
  refine go_cons (go_for ?_)
  simp only [evI, runs_bind]
  refine he.imp fun d L1 ⟨q1, q2⟩ => ?_
  subst q1 q2
  have en : enumOf (L ++ [.lst []] ++ [.lst (hs.map fun h => .str (S (hst h)))]) (.ref (L ++ [O.lst []]).length) = some (.enum (.lst (L ++ [O.lst []]).length)) := by
    simp only [enumOf, listD, srcOf, get_snoc, Option.map_some]
  rw [en]
  try simp -implicitDefEqProofs only [fs_nil, fs_cons, fmt_str, fmt_int, ev_var, ev_cint, ev_cstr, ev_cbl, ev_cnon, ev_gcon, ev_bop, ev_neg, ev_cmp, ev_isn, ev_nisn, ev_chain, ev_and, ev_or, ev_not, ev_ife, ev_tup, ev_lst, ev_ix, ev_sl, ev_call, ev_meth, ev_make, ev_attr, ev_bi, ev_bm, ev_isin, ev_fstr, evEs, evB, evT, evO, evI, puT, puTs, List.map, List.replicate, List.length, Nat.sub_self, List.append, List.cons_append, List.nil_append, List.getElem?_cons_zero, List.getElem?_cons_succ, must, Option.bind_some, Mi.ret, at5_0, at5_1, at5_2, at5_3, at5_4, ix5_1, ix5_2, ix5_3, ix5_4, List.set_cons_succ, List.set_cons_zero, runs_ok, runs_bind, runs_quiet, Then, after_rt, after_nx, Option.map_some, List.length_map, tgLen, if_true, if_false, eq_self, Bool.false_eq_true, reduceIte, bmTag, Bool.and_self, sz0, sz1, sz2, sz3, sz4, sz5, sz6, sz7, sz8, sz9, sz10, sz11, sz12, Int.reduceLE, Int.reduceLT, Int.reduceToNat, Int.reduceNe, Int.reduceEq, Int.reduceNeg, decide_true, decide_false, Bool.true_and, Bool.and_true, Bool.or_true, Bool.true_or, Bool.not_true, Bool.not_false, ne_eq, not_false_eq_true, Nat.reducePow, Int.reducePow, na10, int_d, jx5_1, jx5_2, jx5_3, jx5_4, b_add, b_sub, b_adds, b_addt, b_addl, b_mul, b_fdiv, b_mod, b_pow, c_eq, c_ne, c_in, c_nin, c_lt, c_le, c_gt, c_ge, e_ii, e_ss, e_bb, t_bl, t_int, t_non, t_str, t_ref, t_tup, s_ref, s_tup, s_fzl, l_ref, l_fzl, l_tup, i_ref, i_tup, i_fzl, i_str, put_ref, slq_fzl, slq_str, new_l, int_d, src_fzl, src_tup, src_str, src_ref, get_snoc, n_len_s, n_len_t, n_len_r, n_len_f, n_int_i, n_int_b, n_int_s, n_abs, n_tup_r, n_lst_r, n_str_i, n_str_s, nn_non, nn_int, nn_str, nn_bl, nn_tup, nn_ref, tag_is_str, tag_is_int, tag_is_bl, tag_is_non, tag_is_tup, tag_is_ref, Option.some.injEq, reduceCtorEq]
  refine for_run (xs := hs.mapIdx fun i h => .tup [.int i, .str (S (hst h))]) (fun i ρ L1 => (∃ a2 a3 a4 a5 a6 a7, ρ = LocR (.str (S (htx hs))) L.length a2 a3 a4 a5 a6 a7) ∧ i ≤ hs.length ∧ ∃ u, L1 = L ++ [.lst ((hs.take i).map hD)] ++ [.lst (hs.map fun h => .str (S (hst h)))] ++ u) ?hat ?step ?fin _ 0 _ _ (Nat.zero_le _) ?fuel ⟨⟨_, _, _, _, _, _, rfl⟩, Nat.zero_le _, [], (List.append_nil _).symm⟩
  case fuel =>
    simp only [Wk.len, Src.len, get_snoc, List.length_mapIdx, List.length_map]
    omega
  case hat =>
    intro i ρ L1 ⟨_, _, u, e⟩
    subst e
    have g : (L ++ [.lst ((hs.take i).map hD)] ++ [.lst (hs.map fun h => .str (S (hst h)))] ++ u)[(L ++ [O.lst []]).length]? = some (.lst (hs.map fun h => .str (S (hst h)))) := by
      have e : (L ++ [O.lst []]).length = (L ++ [O.lst ((hs.take i).map hD)]).length := by simp
      rw [e]
      exact pre_keep get_snoc
    simp only [Wk.at, Src.at, g, Option.map_some, List.getElem?_mapIdx, List.getElem?_map]
    cases hs[i]? <;> rfl
  case fin =>
    intro ρ L1 ⟨⟨_, _, _, _, _, _, e1⟩, _, u, e⟩
    subst e e1
    unfold LocR
    show Runs _ _
    refine go_cons (go_ret ?_)
    try simp -implicitDefEqProofs only [fs_nil, fs_cons, fmt_str, fmt_int, ev_var, ev_cint, ev_cstr, ev_cbl, ev_cnon, ev_gcon, ev_bop, ev_neg, ev_cmp, ev_isn, ev_nisn, ev_chain, ev_and, ev_or, ev_not, ev_ife, ev_tup, ev_lst, ev_ix, ev_sl, ev_call, ev_meth, ev_make, ev_attr, ev_bi, ev_bm, ev_isin, ev_fstr, evEs, evB, evT, evO, evI, puT, puTs, List.map, List.replicate, List.length, Nat.sub_self, List.append, List.cons_append, List.nil_append, List.getElem?_cons_zero, List.getElem?_cons_succ, must, Option.bind_some, Mi.ret, at5_0, at5_1, at5_2, at5_3, at5_4, ix5_1, ix5_2, ix5_3, ix5_4, List.set_cons_succ, List.set_cons_zero, runs_ok, runs_bind, runs_quiet, Then, after_rt, after_nx, Option.map_some, List.length_map, tgLen, if_true, if_false, eq_self, Bool.false_eq_true, reduceIte, bmTag, Bool.and_self, sz0, sz1, sz2, sz3, sz4, sz5, sz6, sz7, sz8, sz9, sz10, sz11, sz12, Int.reduceLE, Int.reduceLT, Int.reduceToNat, Int.reduceNe, Int.reduceEq, Int.reduceNeg, decide_true, decide_false, Bool.true_and, Bool.and_true, Bool.or_true, Bool.true_or, Bool.not_true, Bool.not_false, ne_eq, not_false_eq_true, Nat.reducePow, Int.reducePow, na10, int_d, jx5_1, jx5_2, jx5_3, jx5_4, b_add, b_sub, b_adds, b_addt, b_addl, b_mul, b_fdiv, b_mod, b_pow, c_eq, c_ne, c_in, c_nin, c_lt, c_le, c_gt, c_ge, e_ii, e_ss, e_bb, t_bl, t_int, t_non, t_str, t_ref, t_tup, s_ref, s_tup, s_fzl, l_ref, l_fzl, l_tup, i_ref, i_tup, i_fzl, i_str, put_ref, slq_fzl, slq_str, new_l, int_d, src_fzl, src_tup, src_str, src_ref, get_snoc, n_len_s, n_len_t, n_len_r, n_len_f, n_int_i, n_int_b, n_int_s, n_abs, n_tup_r, n_lst_r, n_str_i, n_str_s, nn_non, nn_int, nn_str, nn_bl, nn_tup, nn_ref, tag_is_str, tag_is_int, tag_is_bl, tag_is_non, tag_is_tup, tag_is_ref, Option.some.injEq, reduceCtorEq]
    refine ⟨trivial, [.lst (hs.map fun h => .str (S (hst h)))] ++ u, ?_⟩
    rw [List.length_mapIdx, List.take_length]
    simp only [List.append_assoc]
  case step =>
    intro i x ρ L1 hx ⟨⟨a2, a3, a4, a5, a6, a7, e1⟩, _, u, e⟩
    subst e1
    rw [List.getElem?_mapIdx] at hx
    cases q : hs[i]? with
    | none => rw [q] at hx; cases hx
    | some h =>
      rw [q] at hx
      cases hx
      have hi := (List.getElem?_eq_some_iff.mp q).1
      have g : L1[L.length]? = some (.lst ((hs.take i).map hD)) := by
        rw [e]
        exact pre_keep (pre_keep get_snoc)
      have t := read_turn (n := n) (t := .str (S (htx hs))) (o2 := some (.int i)) (o4 := a4) (o5 := a5) (o6 := a6) (o7 := a7) (ok h (List.mem_of_getElem? q)) g (by rw [List.length_map, List.length_take]; omega)
      refine ⟨LocR (.str (S (htx hs))) L.length (some (.int i)) (some (.str (S (hst h)))) a4 a5 a6 a7, L1, rfl, ?_⟩
      refine t.imp fun fl L2 ⟨⟨b2, b3, b4, b5, b6, b7, z1⟩, v, z2⟩ => ?_
      subst z1
      refine ⟨⟨b2, b3, b4, b5, b6, b7, rfl⟩, hi, u ++ v, ?_⟩
      rw [z2, e]
      have e3 : hs.take (i + 1) = hs.take i ++ [h] := by
        rw [List.take_succ, q]
        rfl
      rw [e3]
      simp [List.set_append]
end
end Row
end

section
set_option Elab.async false
set_option linter.all false
set_option maxRecDepth 100000
set_option maxHeartbeats 4000000
namespace Row
open PySem PySem.Spec L2 Mi SX PySem.Builtin.Str
section
variable {n : Nat} {L L' : MH} {b c : Nat} {C : Nat → List D → M D}
theorem cl_kw4 {C : Nat → List D → M D} {x : D} : callD R.T C 4 [] [5] [x] = C 4 [x] := rfl
theorem cl_kw7 {C : Nat → List D → M D} {x : D} : callD R.T C 7 [] [3] [x] = C 7 [x] := rfl
theorem like_tup {d : Nat} {xs : List D} (hl : xs.length < 16777216) (h : ∀ x ∈ xs, like L d x x) : like L (d + 1) (.tup xs) (.tup xs) := by
  unfold like
  refine ⟨rfl, hl, fun i x y e1 e2 => ?_⟩
  rw [e1] at e2
  cases e2
  exact h x (List.mem_of_getElem? e1)
theorem like_int {d : Nat} {z : Int} : like L (d + 1) (.int z) (.int z) := by
  unfold like
  rfl
theorem like_str {d : Nat} {z : Str} : like L (d + 1) (.str z) (.str z) := by
  unfold like
  rfl
theorem like_V {v : Val} (ok : VOk v) : like L 3 (vD v) (vD v) := by
  cases v with
  | i z => exact like_int
  | t z ms =>
    obtain ⟨_, _, h3, _⟩ := ok
    refine like_tup (by simp) fun x hx => ?_
    rcases List.mem_cons.mp hx with rfl | hx
    · exact like_int
    · rw [List.mem_singleton.mp hx]
      refine like_tup (by rw [List.length_map]; omega) fun x hx => ?_
      obtain ⟨m, _, rfl⟩ := List.mem_map.mp hx
      exact like_int
theorem like_H {h : Hs} (ok : HOk h) : like L 5 (hD h) (hD h) := by
  obtain ⟨_, h2, h3⟩ := ok
  refine like_tup (by simp) fun x hx => ?_
  rcases List.mem_cons.mp hx with rfl | hx
  · exact like_str
  · rw [List.mem_singleton.mp hx]
    refine like_tup (by rw [List.length_map]; omega) fun x hx => ?_
    obtain ⟨v, hv, rfl⟩ := List.mem_map.mp hx
    exact like_V (h3 v hv)
theorem like_hist {a m : Nat} {hs : List Hs} (ok : ∀ h ∈ hs, HOk h) (hl : hs.length ≤ 6) (ha : L[a]? = some (.lst (hs.map hD))) (hm : L[m]? = some (.lst (hs.map hD))) : like L 6 (.ref m) (.ref a) := by
  unfold like
  refine ⟨_, _, hm, ha, rfl, by rw [List.length_map]; omega, fun i x y e1 e2 => ?_⟩
  rw [e1] at e2
  cases e2
  obtain ⟨h, hh, rfl⟩ := List.mem_map.mp (List.mem_of_getElem? e1)
  exact like_H (ok h hh)
theorem text_ref {a : Nat} {hs : List Hs} (ok : ∀ h ∈ hs, HOk h) (hl : hs.length ≤ 6) (ha : L[a]? = some (.lst (hs.map hD))) : Runs (callN R.T wf (n + 2) f_history_text [.ref a] L) fun d L' => d = .str (S (htx hs)) ∧ ∃ u, L' = L ++ u := by
  refine history_text_core (w := .src (.lst a)) ok hl ?_ (fun u i => ?_) ?_
  · simp only [srcOf, ha, Option.map_some]
  · simp only [Wk.at, Src.at, pre_keep ha]
  · simp only [Wk.len, Src.len, pre_keep ha, List.length_map]
theorem text_tup {hs : List Hs} (ok : ∀ h ∈ hs, HOk h) (hl : hs.length ≤ 6) : Runs (callN R.T wf (n + 2) f_history_text [.tup (hs.map hD)] L) fun d L' => d = .str (S (htx hs)) ∧ ∃ u, L' = L ++ u := by
  refine history_text_core (w := .src (.val (hs.map hD))) ok hl rfl (fun u i => rfl) ?_
  simp only [Wk.len, Src.len, List.length_map]
theorem like_three {a m p q : Nat} {t : Str} {hs : List Hs} (ok : ∀ h ∈ hs, HOk h) (hl : hs.length ≤ 6) (ha : L[a]? = some (.lst (hs.map hD))) (hm : L[m]? = some (.lst (hs.map hD))) (hp : L[p]? = some (.lst [.str t, .str t, .ref m])) (hq : L[q]? = some (.lst [.str t, .str t, .ref a])) : like L 7 (.ref p) (.ref q) := by
  unfold like
  refine ⟨_, _, hp, hq, rfl, by simp, fun i x y e1 e2 => ?_⟩
  rcases i with _ | _ | _ | i
  · cases e1
    cases e2
    exact like_str
  · cases e1
    cases e2
    exact like_str
  · cases e1
    cases e2
    exact like_hist ok hl ha hm
  · cases e1
/-- what a turn asks -/
theorem check_spec {o0 o1 o2 o3 o5 o7 o8 o9 : Option D} {a : Nat} {hs : List Hs} (ok : ∀ h ∈ hs, HOk h) (hl : hs.length ≤ 6) (ha : L[a]? = some (.lst (hs.map hD))) :
    Runs (evB R.T (callN R.T wf (n + 7)) (.not (.call 11 (.cons (.lst (.cons (.call 4 (.cons (.var 4) .nil) [] .nil) (.cons (.call 4 .nil [5] (.cons (.bi .tuple1 (.cons (.var 4) .nil)) .nil)) (.cons (.call 7 (.cons (.var 6) .nil) [] .nil) .nil)))) (.cons (.lst (.cons (.var 6) (.cons (.var 6) (.cons (.var 4) .nil)))) .nil)) [] .nil)) [o0, o1, o2, o3, some (.ref a), o5, some (.str (S (htx hs))), o7, o8, o9] L) fun k L' => k = false ∧ ∃ u, L' = L ++ u := by
  try simp -implicitDefEqProofs only [fs_nil, fs_cons, fmt_str, fmt_int, ev_var, ev_cint, ev_cstr, ev_cbl, ev_cnon, ev_gcon, ev_bop, ev_neg, ev_cmp, ev_isn, ev_nisn, ev_chain, ev_and, ev_or, ev_not, ev_ife, ev_tup, ev_lst, ev_ix, ev_sl, ev_call, ev_meth, ev_make, ev_attr, ev_bi, ev_bm, ev_isin, ev_fstr, evEs, evB, evT, evO, evI, puT, puTs, List.map, List.replicate, List.length, Nat.sub_self, List.append, List.cons_append, List.nil_append, List.getElem?_cons_zero, List.getElem?_cons_succ, must, Option.bind_some, Mi.ret, at5_0, at5_1, at5_2, at5_3, at5_4, ix5_1, ix5_2, ix5_3, ix5_4, List.set_cons_succ, List.set_cons_zero, runs_ok, runs_bind, runs_quiet, Then, after_rt, after_nx, Option.map_some, List.length_map, tgLen, if_true, if_false, eq_self, Bool.false_eq_true, reduceIte, bmTag, Bool.and_self, sz0, sz1, sz2, sz3, sz4, sz5, sz6, sz7, sz8, sz9, sz10, sz11, sz12, Int.reduceLE, Int.reduceLT, Int.reduceToNat, Int.reduceNe, Int.reduceEq, Int.reduceNeg, decide_true, decide_false, Bool.true_and, Bool.and_true, Bool.or_true, Bool.true_or, Bool.not_true, Bool.not_false, ne_eq, not_false_eq_true, Nat.reducePow, Int.reducePow, na10, int_d, jx5_1, jx5_2, jx5_3, jx5_4, b_add, b_sub, b_adds, b_addt, b_addl, b_mul, b_fdiv, b_mod, b_pow, c_eq, c_ne, c_in, c_nin, c_lt, c_le, c_gt, c_ge, e_ii, e_ss, e_bb, t_bl, t_int, t_non, t_str, t_ref, t_tup, s_ref, s_tup, s_fzl, l_ref, l_fzl, l_tup, i_ref, i_tup, i_fzl, i_str, put_ref, slq_fzl, slq_str, new_l, int_d, src_fzl, src_tup, src_str, src_ref, get_snoc, n_len_s, n_len_t, n_len_r, n_len_f, n_int_i, n_int_b, n_int_s, n_abs, n_tup_r, n_lst_r, n_str_i, n_str_s, nn_non, nn_int, nn_str, nn_bl, nn_tup, nn_ref, tag_is_str, tag_is_int, tag_is_bl, tag_is_non, tag_is_tup, tag_is_ref, Option.some.injEq, reduceCtorEq, cl_is_name, cl_value_text, cl_history_text, cl_read_integer, cl_read_value, cl_read_history, cl__law_draws, cl__law_pull, cl__law_any, cl__law_like, cl__law_reserved, cl__law_new_names, cl__law_far, cl__law_far_value, cl__law_value_text, cl__law_history_text, cl_law]
  refine (text_ref (n := n + 5) ok hl ha).imp fun d L1 ⟨q1, u1, q2⟩ => ?_
  subst q1 q2
  try simp -implicitDefEqProofs only [fs_nil, fs_cons, fmt_str, fmt_int, ev_var, ev_cint, ev_cstr, ev_cbl, ev_cnon, ev_gcon, ev_bop, ev_neg, ev_cmp, ev_isn, ev_nisn, ev_chain, ev_and, ev_or, ev_not, ev_ife, ev_tup, ev_lst, ev_ix, ev_sl, ev_call, ev_meth, ev_make, ev_attr, ev_bi, ev_bm, ev_isin, ev_fstr, evEs, evB, evT, evO, evI, puT, puTs, List.map, List.replicate, List.length, Nat.sub_self, List.append, List.cons_append, List.nil_append, List.getElem?_cons_zero, List.getElem?_cons_succ, must, Option.bind_some, Mi.ret, at5_0, at5_1, at5_2, at5_3, at5_4, ix5_1, ix5_2, ix5_3, ix5_4, List.set_cons_succ, List.set_cons_zero, runs_ok, runs_bind, runs_quiet, Then, after_rt, after_nx, Option.map_some, List.length_map, tgLen, if_true, if_false, eq_self, Bool.false_eq_true, reduceIte, bmTag, Bool.and_self, sz0, sz1, sz2, sz3, sz4, sz5, sz6, sz7, sz8, sz9, sz10, sz11, sz12, Int.reduceLE, Int.reduceLT, Int.reduceToNat, Int.reduceNe, Int.reduceEq, Int.reduceNeg, decide_true, decide_false, Bool.true_and, Bool.and_true, Bool.or_true, Bool.true_or, Bool.not_true, Bool.not_false, ne_eq, not_false_eq_true, Nat.reducePow, Int.reducePow, na10, int_d, jx5_1, jx5_2, jx5_3, jx5_4, b_add, b_sub, b_adds, b_addt, b_addl, b_mul, b_fdiv, b_mod, b_pow, c_eq, c_ne, c_in, c_nin, c_lt, c_le, c_gt, c_ge, e_ii, e_ss, e_bb, t_bl, t_int, t_non, t_str, t_ref, t_tup, s_ref, s_tup, s_fzl, l_ref, l_fzl, l_tup, i_ref, i_tup, i_fzl, i_str, put_ref, slq_fzl, slq_str, new_l, int_d, src_fzl, src_tup, src_str, src_ref, get_snoc, n_len_s, n_len_t, n_len_r, n_len_f, n_int_i, n_int_b, n_int_s, n_abs, n_tup_r, n_lst_r, n_str_i, n_str_s, nn_non, nn_int, nn_str, nn_bl, nn_tup, nn_ref, tag_is_str, tag_is_int, tag_is_bl, tag_is_non, tag_is_tup, tag_is_ref, Option.some.injEq, reduceCtorEq, cl_kw4, pre_keep ha]
  refine (text_tup (n := n + 5) ok hl).imp fun d L1 ⟨q1, u2, q2⟩ => ?_
  subst q1 q2
  try simp -implicitDefEqProofs only [fs_nil, fs_cons, fmt_str, fmt_int, ev_var, ev_cint, ev_cstr, ev_cbl, ev_cnon, ev_gcon, ev_bop, ev_neg, ev_cmp, ev_isn, ev_nisn, ev_chain, ev_and, ev_or, ev_not, ev_ife, ev_tup, ev_lst, ev_ix, ev_sl, ev_call, ev_meth, ev_make, ev_attr, ev_bi, ev_bm, ev_isin, ev_fstr, evEs, evB, evT, evO, evI, puT, puTs, List.map, List.replicate, List.length, Nat.sub_self, List.append, List.cons_append, List.nil_append, List.getElem?_cons_zero, List.getElem?_cons_succ, must, Option.bind_some, Mi.ret, at5_0, at5_1, at5_2, at5_3, at5_4, ix5_1, ix5_2, ix5_3, ix5_4, List.set_cons_succ, List.set_cons_zero, runs_ok, runs_bind, runs_quiet, Then, after_rt, after_nx, Option.map_some, List.length_map, tgLen, if_true, if_false, eq_self, Bool.false_eq_true, reduceIte, bmTag, Bool.and_self, sz0, sz1, sz2, sz3, sz4, sz5, sz6, sz7, sz8, sz9, sz10, sz11, sz12, Int.reduceLE, Int.reduceLT, Int.reduceToNat, Int.reduceNe, Int.reduceEq, Int.reduceNeg, decide_true, decide_false, Bool.true_and, Bool.and_true, Bool.or_true, Bool.true_or, Bool.not_true, Bool.not_false, ne_eq, not_false_eq_true, Nat.reducePow, Int.reducePow, na10, int_d, jx5_1, jx5_2, jx5_3, jx5_4, b_add, b_sub, b_adds, b_addt, b_addl, b_mul, b_fdiv, b_mod, b_pow, c_eq, c_ne, c_in, c_nin, c_lt, c_le, c_gt, c_ge, e_ii, e_ss, e_bb, t_bl, t_int, t_non, t_str, t_ref, t_tup, s_ref, s_tup, s_fzl, l_ref, l_fzl, l_tup, i_ref, i_tup, i_fzl, i_str, put_ref, slq_fzl, slq_str, new_l, int_d, src_fzl, src_tup, src_str, src_ref, get_snoc, n_len_s, n_len_t, n_len_r, n_len_f, n_int_i, n_int_b, n_int_s, n_abs, n_tup_r, n_lst_r, n_str_i, n_str_s, nn_non, nn_int, nn_str, nn_bl, nn_tup, nn_ref, tag_is_str, tag_is_int, tag_is_bl, tag_is_non, tag_is_tup, tag_is_ref, Option.some.injEq, reduceCtorEq, cl_is_name, cl_value_text, cl_history_text, cl_read_integer, cl_read_value, cl_read_history, cl__law_draws, cl__law_pull, cl__law_any, cl__law_like, cl__law_reserved, cl__law_new_names, cl__law_far, cl__law_far_value, cl__law_value_text, cl__law_history_text, cl_law]
  refine (read_history_spec (n := n + 4) ok hl).imp fun d L1 ⟨q1, u3, q2⟩ => ?_
  subst q1 q2
  try simp -implicitDefEqProofs only [fs_nil, fs_cons, fmt_str, fmt_int, ev_var, ev_cint, ev_cstr, ev_cbl, ev_cnon, ev_gcon, ev_bop, ev_neg, ev_cmp, ev_isn, ev_nisn, ev_chain, ev_and, ev_or, ev_not, ev_ife, ev_tup, ev_lst, ev_ix, ev_sl, ev_call, ev_meth, ev_make, ev_attr, ev_bi, ev_bm, ev_isin, ev_fstr, evEs, evB, evT, evO, evI, puT, puTs, List.map, List.replicate, List.length, Nat.sub_self, List.append, List.cons_append, List.nil_append, List.getElem?_cons_zero, List.getElem?_cons_succ, must, Option.bind_some, Mi.ret, at5_0, at5_1, at5_2, at5_3, at5_4, ix5_1, ix5_2, ix5_3, ix5_4, List.set_cons_succ, List.set_cons_zero, runs_ok, runs_bind, runs_quiet, Then, after_rt, after_nx, Option.map_some, List.length_map, tgLen, if_true, if_false, eq_self, Bool.false_eq_true, reduceIte, bmTag, Bool.and_self, sz0, sz1, sz2, sz3, sz4, sz5, sz6, sz7, sz8, sz9, sz10, sz11, sz12, Int.reduceLE, Int.reduceLT, Int.reduceToNat, Int.reduceNe, Int.reduceEq, Int.reduceNeg, decide_true, decide_false, Bool.true_and, Bool.and_true, Bool.or_true, Bool.true_or, Bool.not_true, Bool.not_false, ne_eq, not_false_eq_true, Nat.reducePow, Int.reducePow, na10, int_d, jx5_1, jx5_2, jx5_3, jx5_4, b_add, b_sub, b_adds, b_addt, b_addl, b_mul, b_fdiv, b_mod, b_pow, c_eq, c_ne, c_in, c_nin, c_lt, c_le, c_gt, c_ge, e_ii, e_ss, e_bb, t_bl, t_int, t_non, t_str, t_ref, t_tup, s_ref, s_tup, s_fzl, l_ref, l_fzl, l_tup, i_ref, i_tup, i_fzl, i_str, put_ref, slq_fzl, slq_str, new_l, int_d, src_fzl, src_tup, src_str, src_ref, get_snoc, n_len_s, n_len_t, n_len_r, n_len_f, n_int_i, n_int_b, n_int_s, n_abs, n_tup_r, n_lst_r, n_str_i, n_str_s, nn_non, nn_int, nn_str, nn_bl, nn_tup, nn_ref, tag_is_str, tag_is_int, tag_is_bl, tag_is_non, tag_is_tup, tag_is_ref, Option.some.injEq, reduceCtorEq, cl_is_name, cl_value_text, cl_history_text, cl_read_integer, cl_read_value, cl_read_history, cl__law_draws, cl__law_pull, cl__law_any, cl__law_like, cl__law_reserved, cl__law_new_names, cl__law_far, cl__law_far_value, cl__law_value_text, cl__law_history_text, cl_law]
  have gm : (L ++ u1 ++ u2 ++ [.lst (hs.map hD)])[(L ++ u1 ++ u2).length]? = some (.lst (hs.map hD)) := get_snoc
  have lk := like_three (L := L ++ u1 ++ u2 ++ [.lst (hs.map hD)] ++ u3 ++ [.lst [.str (S (htx hs)), .str (S (htx hs)), .ref (L ++ u1 ++ u2).length]] ++ [.lst [.str (S (htx hs)), .str (S (htx hs)), .ref a]]) ok hl
    (pre_keep (pre_keep (pre_keep (pre_keep (pre_keep (pre_keep ha)))))) (pre_keep (pre_keep (pre_keep gm))) (pre_keep get_snoc) get_snoc
  refine (like_spec (n := n) 7 _ _ _ lk).imp fun d L1 ⟨q1, u4, q2⟩ => ?_
  subst q1 q2
  try simp -implicitDefEqProofs only [fs_nil, fs_cons, fmt_str, fmt_int, ev_var, ev_cint, ev_cstr, ev_cbl, ev_cnon, ev_gcon, ev_bop, ev_neg, ev_cmp, ev_isn, ev_nisn, ev_chain, ev_and, ev_or, ev_not, ev_ife, ev_tup, ev_lst, ev_ix, ev_sl, ev_call, ev_meth, ev_make, ev_attr, ev_bi, ev_bm, ev_isin, ev_fstr, evEs, evB, evT, evO, evI, puT, puTs, List.map, List.replicate, List.length, Nat.sub_self, List.append, List.cons_append, List.nil_append, List.getElem?_cons_zero, List.getElem?_cons_succ, must, Option.bind_some, Mi.ret, at5_0, at5_1, at5_2, at5_3, at5_4, ix5_1, ix5_2, ix5_3, ix5_4, List.set_cons_succ, List.set_cons_zero, runs_ok, runs_bind, runs_quiet, Then, after_rt, after_nx, Option.map_some, List.length_map, tgLen, if_true, if_false, eq_self, Bool.false_eq_true, reduceIte, bmTag, Bool.and_self, sz0, sz1, sz2, sz3, sz4, sz5, sz6, sz7, sz8, sz9, sz10, sz11, sz12, Int.reduceLE, Int.reduceLT, Int.reduceToNat, Int.reduceNe, Int.reduceEq, Int.reduceNeg, decide_true, decide_false, Bool.true_and, Bool.and_true, Bool.or_true, Bool.true_or, Bool.not_true, Bool.not_false, ne_eq, not_false_eq_true, Nat.reducePow, Int.reducePow, na10, int_d, jx5_1, jx5_2, jx5_3, jx5_4, b_add, b_sub, b_adds, b_addt, b_addl, b_mul, b_fdiv, b_mod, b_pow, c_eq, c_ne, c_in, c_nin, c_lt, c_le, c_gt, c_ge, e_ii, e_ss, e_bb, t_bl, t_int, t_non, t_str, t_ref, t_tup, s_ref, s_tup, s_fzl, l_ref, l_fzl, l_tup, i_ref, i_tup, i_fzl, i_str, put_ref, slq_fzl, slq_str, new_l, int_d, src_fzl, src_tup, src_str, src_ref, get_snoc, n_len_s, n_len_t, n_len_r, n_len_f, n_int_i, n_int_b, n_int_s, n_abs, n_tup_r, n_lst_r, n_str_i, n_str_s, nn_non, nn_int, nn_str, nn_bl, nn_tup, nn_ref, tag_is_str, tag_is_int, tag_is_bl, tag_is_non, tag_is_tup, tag_is_ref, Option.some.injEq, reduceCtorEq]
  refine ⟨trivial, u1 ++ u2 ++ [.lst (hs.map hD)] ++ u3 ++ [.lst [.str (S (htx hs)), .str (S (htx hs)), .ref (L ++ u1 ++ u2).length]] ++ [.lst [.str (S (htx hs)), .str (S (htx hs)), .ref a]] ++ u4, ?_⟩
  simp only [List.append_assoc]
end
end Row
end

section
set_option Elab.async false
set_option linter.all false
set_option maxRecDepth 100000
set_option maxHeartbeats 4000000
namespace Row
open PySem PySem.Spec L2 Mi SX PySem.Builtin.Str
section
variable {n : Nat} {L L' : MH} {b c : Nat} {C : Nat → List D → M D}
def nIf : List Nat := [105, 102]
def nSet : List Nat := [115, 101, 116]
def nNone : List Nat := [110, 111, 110, 101]
def hsN : List Hs := [⟨nNone, [.t 0 []]⟩]
def hsI : List Hs := [⟨nIf, [.i 1, .i 2, .i 3, .i 4, .i 5]⟩, ⟨nSet, [.t 1 [1, 2, 3]]⟩]
theorem nIf_ok : Nm nIf := ⟨by unfold low nIf; decide, by decide, by decide, by decide⟩
theorem nSet_ok : Nm nSet := ⟨by unfold low nSet; decide, by decide, by decide, by decide⟩
theorem nNone_ok : Nm nNone := ⟨by unfold low nNone; decide, by decide, by decide, by decide⟩
theorem far_small {z : Int} (h1 : 0 ≤ z) (h2 : z < 10) : FarZ z := by
  unfold FarZ big
  omega
theorem hsN_ok : ∀ h ∈ hsN, HOk h := fun h hh => by
  rw [List.mem_singleton.mp hh]
  refine ⟨nNone_ok, by decide, fun v hv => ?_⟩
  rw [List.mem_singleton.mp hv]
  exact ⟨far_small (by decide) (by decide), by decide, by decide, fun m hm => by cases hm⟩
theorem hsI_ok : ∀ h ∈ hsI, HOk h := fun h hh => by
  unfold hsI at hh
  simp only [List.mem_cons, List.not_mem_nil, or_false] at hh
  rcases hh with rfl | rfl
  · refine ⟨nIf_ok, by decide, fun v hv => ?_⟩
    simp only [List.mem_cons, List.not_mem_nil, or_false] at hv
    rcases hv with rfl | rfl | rfl | rfl | rfl <;> exact far_small (by decide) (by decide)
  · refine ⟨nSet_ok, by decide, fun v hv => ?_⟩
    simp only [List.mem_cons, List.not_mem_nil, or_false] at hv
    subst hv
    refine ⟨far_small (by decide) (by decide), by decide, by decide, fun m hm => ?_⟩
    simp only [List.mem_cons, List.not_mem_nil, or_false] at hm
    rcases hm with rfl | rfl | rfl <;> exact far_small (by decide) (by decide)
theorem tN : ("none #0()" : Str) = S (htx hsN) := by decide +kernel
theorem tI : ("if 1 2 3 4 5 ; set #1(1,2,3)" : Str) = S (htx hsI) := by decide +kernel
theorem tE : ("-" : Str) = S (htx []) := by decide +kernel
theorem sIf : ("if" : Str) = S nIf := by decide +kernel
theorem sSet : ("set" : Str) = S nSet := by decide +kernel
theorem sNone : ("none" : Str) = S nNone := by decide +kernel
def TailR : Sms := (.cons (.asg (.var 7) (.lst (.cons (.tup (.cons (.cstr "if") (.cons (.tup (.cons (.cint 1) (.cons (.cint 2) (.cons (.cint 3) (.cons (.cint 4) (.cons (.cint 5) .nil)))))) .nil))) (.cons (.tup (.cons (.cstr "set") (.cons (.tup (.cons (.tup (.cons (.cint 1) (.cons (.tup (.cons (.cint 1) (.cons (.cint 2) (.cons (.cint 3) .nil)))) .nil))) .nil)) .nil))) .nil)))) (.cons (.asg (.var 8) (.lst (.cons (.call 7 .nil [3] (.cons (.cstr "-") .nil)) (.cons (.call 4 (.cons (.lst .nil) .nil) [] .nil) (.cons (.call 7 (.cons (.cstr "none #0()") .nil) [] .nil) (.cons (.call 7 (.cons (.cstr "if 1 2 3 4 5 ; set #1(1,2,3)") .nil) [] .nil) .nil)))))) (.cons (.ret (.call 11 (.cons (.var 8) (.cons (.lst (.cons (.lst .nil) (.cons (.cstr "-") (.cons (.lst (.cons (.tup (.cons (.cstr "none") (.cons (.tup (.cons (.tup (.cons (.cint 0) (.cons (.tup .nil) .nil))) .nil)) .nil))) .nil)) (.cons (.var 7) .nil))))) .nil)) [] .nil)) .nil)))
theorem like_four {p q a0 a2 a3 b0 b2 b3 : Nat} {t : Str} (hp : L[p]? = some (.lst [.ref a0, .str t, .ref a2, .ref a3])) (hq : L[q]? = some (.lst [.ref b0, .str t, .ref b2, .ref b3]))
    (h0 : like L 6 (.ref a0) (.ref b0)) (h2 : like L 6 (.ref a2) (.ref b2)) (h3 : like L 6 (.ref a3) (.ref b3)) : like L 7 (.ref p) (.ref q) := by
  unfold like
  refine ⟨_, _, hp, hq, rfl, by simp, fun i x y e1 e2 => ?_⟩
  rcases i with _ | _ | _ | _ | i
  · cases e1
    cases e2
    exact h0
  · cases e1
    cases e2
    exact like_str
  · cases e1
    cases e2
    exact h2
  · cases e1
    cases e2
    exact h3
  · cases e1
theorem tail_spec {o0 o1 o2 o3 o4 o5 o6 o7 o8 o9 : Option D} : Runs (exSs R.T (callN R.T wf (n + 7)) wf TailR [o0, o1, o2, o3, o4, o5, o6, o7, o8, o9] L) (After fun d _ => d = .bl true) := by
  unfold TailR
  rw [tN, tI, sIf, sSet, sNone, tE]
  refine go_cons (go_var ?_)
  try simp -implicitDefEqProofs only [fs_nil, fs_cons, fmt_str, fmt_int, ev_var, ev_cint, ev_cstr, ev_cbl, ev_cnon, ev_gcon, ev_bop, ev_neg, ev_cmp, ev_isn, ev_nisn, ev_chain, ev_and, ev_or, ev_not, ev_ife, ev_tup, ev_lst, ev_ix, ev_sl, ev_call, ev_meth, ev_make, ev_attr, ev_bi, ev_bm, ev_isin, ev_fstr, evEs, evB, evT, evO, evI, puT, puTs, List.map, List.replicate, List.length, Nat.sub_self, List.append, List.cons_append, List.nil_append, List.getElem?_cons_zero, List.getElem?_cons_succ, must, Option.bind_some, Mi.ret, at5_0, at5_1, at5_2, at5_3, at5_4, ix5_1, ix5_2, ix5_3, ix5_4, List.set_cons_succ, List.set_cons_zero, runs_ok, runs_bind, runs_quiet, Then, after_rt, after_nx, Option.map_some, List.length_map, tgLen, if_true, if_false, eq_self, Bool.false_eq_true, reduceIte, bmTag, Bool.and_self, sz0, sz1, sz2, sz3, sz4, sz5, sz6, sz7, sz8, sz9, sz10, sz11, sz12, Int.reduceLE, Int.reduceLT, Int.reduceToNat, Int.reduceNe, Int.reduceEq, Int.reduceNeg, decide_true, decide_false, Bool.true_and, Bool.and_true, Bool.or_true, Bool.true_or, Bool.not_true, Bool.not_false, ne_eq, not_false_eq_true, Nat.reducePow, Int.reducePow, na10, int_d, jx5_1, jx5_2, jx5_3, jx5_4, b_add, b_sub, b_adds, b_addt, b_addl, b_mul, b_fdiv, b_mod, b_pow, c_eq, c_ne, c_in, c_nin, c_lt, c_le, c_gt, c_ge, e_ii, e_ss, e_bb, t_bl, t_int, t_non, t_str, t_ref, t_tup, s_ref, s_tup, s_fzl, l_ref, l_fzl, l_tup, i_ref, i_tup, i_fzl, i_str, put_ref, slq_fzl, slq_str, new_l, int_d, src_fzl, src_tup, src_str, src_ref, get_snoc, n_len_s, n_len_t, n_len_r, n_len_f, n_int_i, n_int_b, n_int_s, n_abs, n_tup_r, n_lst_r, n_str_i, n_str_s, nn_non, nn_int, nn_str, nn_bl, nn_tup, nn_ref, tag_is_str, tag_is_int, tag_is_bl, tag_is_non, tag_is_tup, tag_is_ref, Option.some.injEq, reduceCtorEq]
  refine go_cons (go_var ?_)
  try simp -implicitDefEqProofs only [fs_nil, fs_cons, fmt_str, fmt_int, ev_var, ev_cint, ev_cstr, ev_cbl, ev_cnon, ev_gcon, ev_bop, ev_neg, ev_cmp, ev_isn, ev_nisn, ev_chain, ev_and, ev_or, ev_not, ev_ife, ev_tup, ev_lst, ev_ix, ev_sl, ev_call, ev_meth, ev_make, ev_attr, ev_bi, ev_bm, ev_isin, ev_fstr, evEs, evB, evT, evO, evI, puT, puTs, List.map, List.replicate, List.length, Nat.sub_self, List.append, List.cons_append, List.nil_append, List.getElem?_cons_zero, List.getElem?_cons_succ, must, Option.bind_some, Mi.ret, at5_0, at5_1, at5_2, at5_3, at5_4, ix5_1, ix5_2, ix5_3, ix5_4, List.set_cons_succ, List.set_cons_zero, runs_ok, runs_bind, runs_quiet, Then, after_rt, after_nx, Option.map_some, List.length_map, tgLen, if_true, if_false, eq_self, Bool.false_eq_true, reduceIte, bmTag, Bool.and_self, sz0, sz1, sz2, sz3, sz4, sz5, sz6, sz7, sz8, sz9, sz10, sz11, sz12, Int.reduceLE, Int.reduceLT, Int.reduceToNat, Int.reduceNe, Int.reduceEq, Int.reduceNeg, decide_true, decide_false, Bool.true_and, Bool.and_true, Bool.or_true, Bool.true_or, Bool.not_true, Bool.not_false, ne_eq, not_false_eq_true, Nat.reducePow, Int.reducePow, na10, int_d, jx5_1, jx5_2, jx5_3, jx5_4, b_add, b_sub, b_adds, b_addt, b_addl, b_mul, b_fdiv, b_mod, b_pow, c_eq, c_ne, c_in, c_nin, c_lt, c_le, c_gt, c_ge, e_ii, e_ss, e_bb, t_bl, t_int, t_non, t_str, t_ref, t_tup, s_ref, s_tup, s_fzl, l_ref, l_fzl, l_tup, i_ref, i_tup, i_fzl, i_str, put_ref, slq_fzl, slq_str, new_l, int_d, src_fzl, src_tup, src_str, src_ref, get_snoc, n_len_s, n_len_t, n_len_r, n_len_f, n_int_i, n_int_b, n_int_s, n_abs, n_tup_r, n_lst_r, n_str_i, n_str_s, nn_non, nn_int, nn_str, nn_bl, nn_tup, nn_ref, tag_is_str, tag_is_int, tag_is_bl, tag_is_non, tag_is_tup, tag_is_ref, Option.some.injEq, reduceCtorEq, cl_kw7]
  refine (read_history_spec (n := n + 4) (hs := []) (fun h hh => by cases hh) (by decide)).imp fun d L1 ⟨q1, u1, q2⟩ => ?_
  subst q1 q2
  try simp -implicitDefEqProofs only [fs_nil, fs_cons, fmt_str, fmt_int, ev_var, ev_cint, ev_cstr, ev_cbl, ev_cnon, ev_gcon, ev_bop, ev_neg, ev_cmp, ev_isn, ev_nisn, ev_chain, ev_and, ev_or, ev_not, ev_ife, ev_tup, ev_lst, ev_ix, ev_sl, ev_call, ev_meth, ev_make, ev_attr, ev_bi, ev_bm, ev_isin, ev_fstr, evEs, evB, evT, evO, evI, puT, puTs, List.map, List.replicate, List.length, Nat.sub_self, List.append, List.cons_append, List.nil_append, List.getElem?_cons_zero, List.getElem?_cons_succ, must, Option.bind_some, Mi.ret, at5_0, at5_1, at5_2, at5_3, at5_4, ix5_1, ix5_2, ix5_3, ix5_4, List.set_cons_succ, List.set_cons_zero, runs_ok, runs_bind, runs_quiet, Then, after_rt, after_nx, Option.map_some, List.length_map, tgLen, if_true, if_false, eq_self, Bool.false_eq_true, reduceIte, bmTag, Bool.and_self, sz0, sz1, sz2, sz3, sz4, sz5, sz6, sz7, sz8, sz9, sz10, sz11, sz12, Int.reduceLE, Int.reduceLT, Int.reduceToNat, Int.reduceNe, Int.reduceEq, Int.reduceNeg, decide_true, decide_false, Bool.true_and, Bool.and_true, Bool.or_true, Bool.true_or, Bool.not_true, Bool.not_false, ne_eq, not_false_eq_true, Nat.reducePow, Int.reducePow, na10, int_d, jx5_1, jx5_2, jx5_3, jx5_4, b_add, b_sub, b_adds, b_addt, b_addl, b_mul, b_fdiv, b_mod, b_pow, c_eq, c_ne, c_in, c_nin, c_lt, c_le, c_gt, c_ge, e_ii, e_ss, e_bb, t_bl, t_int, t_non, t_str, t_ref, t_tup, s_ref, s_tup, s_fzl, l_ref, l_fzl, l_tup, i_ref, i_tup, i_fzl, i_str, put_ref, slq_fzl, slq_str, new_l, int_d, src_fzl, src_tup, src_str, src_ref, get_snoc, n_len_s, n_len_t, n_len_r, n_len_f, n_int_i, n_int_b, n_int_s, n_abs, n_tup_r, n_lst_r, n_str_i, n_str_s, nn_non, nn_int, nn_str, nn_bl, nn_tup, nn_ref, tag_is_str, tag_is_int, tag_is_bl, tag_is_non, tag_is_tup, tag_is_ref, Option.some.injEq, reduceCtorEq, cl_is_name, cl_value_text, cl_history_text, cl_read_integer, cl_read_value, cl_read_history, cl__law_draws, cl__law_pull, cl__law_any, cl__law_like, cl__law_reserved, cl__law_new_names, cl__law_far, cl__law_far_value, cl__law_value_text, cl__law_history_text, cl_law]
  refine (text_ref (n := n + 5) (hs := []) (fun h hh => by cases hh) (by decide) get_snoc).imp fun d L1 ⟨q1, u2, q2⟩ => ?_
  subst q1 q2
  try simp -implicitDefEqProofs only [fs_nil, fs_cons, fmt_str, fmt_int, ev_var, ev_cint, ev_cstr, ev_cbl, ev_cnon, ev_gcon, ev_bop, ev_neg, ev_cmp, ev_isn, ev_nisn, ev_chain, ev_and, ev_or, ev_not, ev_ife, ev_tup, ev_lst, ev_ix, ev_sl, ev_call, ev_meth, ev_make, ev_attr, ev_bi, ev_bm, ev_isin, ev_fstr, evEs, evB, evT, evO, evI, puT, puTs, List.map, List.replicate, List.length, Nat.sub_self, List.append, List.cons_append, List.nil_append, List.getElem?_cons_zero, List.getElem?_cons_succ, must, Option.bind_some, Mi.ret, at5_0, at5_1, at5_2, at5_3, at5_4, ix5_1, ix5_2, ix5_3, ix5_4, List.set_cons_succ, List.set_cons_zero, runs_ok, runs_bind, runs_quiet, Then, after_rt, after_nx, Option.map_some, List.length_map, tgLen, if_true, if_false, eq_self, Bool.false_eq_true, reduceIte, bmTag, Bool.and_self, sz0, sz1, sz2, sz3, sz4, sz5, sz6, sz7, sz8, sz9, sz10, sz11, sz12, Int.reduceLE, Int.reduceLT, Int.reduceToNat, Int.reduceNe, Int.reduceEq, Int.reduceNeg, decide_true, decide_false, Bool.true_and, Bool.and_true, Bool.or_true, Bool.true_or, Bool.not_true, Bool.not_false, ne_eq, not_false_eq_true, Nat.reducePow, Int.reducePow, na10, int_d, jx5_1, jx5_2, jx5_3, jx5_4, b_add, b_sub, b_adds, b_addt, b_addl, b_mul, b_fdiv, b_mod, b_pow, c_eq, c_ne, c_in, c_nin, c_lt, c_le, c_gt, c_ge, e_ii, e_ss, e_bb, t_bl, t_int, t_non, t_str, t_ref, t_tup, s_ref, s_tup, s_fzl, l_ref, l_fzl, l_tup, i_ref, i_tup, i_fzl, i_str, put_ref, slq_fzl, slq_str, new_l, int_d, src_fzl, src_tup, src_str, src_ref, get_snoc, n_len_s, n_len_t, n_len_r, n_len_f, n_int_i, n_int_b, n_int_s, n_abs, n_tup_r, n_lst_r, n_str_i, n_str_s, nn_non, nn_int, nn_str, nn_bl, nn_tup, nn_ref, tag_is_str, tag_is_int, tag_is_bl, tag_is_non, tag_is_tup, tag_is_ref, Option.some.injEq, reduceCtorEq, cl_is_name, cl_value_text, cl_history_text, cl_read_integer, cl_read_value, cl_read_history, cl__law_draws, cl__law_pull, cl__law_any, cl__law_like, cl__law_reserved, cl__law_new_names, cl__law_far, cl__law_far_value, cl__law_value_text, cl__law_history_text, cl_law]
  refine (read_history_spec (n := n + 4) (hs := hsN) hsN_ok (by decide)).imp fun d L1 ⟨q1, u3, q2⟩ => ?_
  subst q1 q2
  try simp -implicitDefEqProofs only [fs_nil, fs_cons, fmt_str, fmt_int, ev_var, ev_cint, ev_cstr, ev_cbl, ev_cnon, ev_gcon, ev_bop, ev_neg, ev_cmp, ev_isn, ev_nisn, ev_chain, ev_and, ev_or, ev_not, ev_ife, ev_tup, ev_lst, ev_ix, ev_sl, ev_call, ev_meth, ev_make, ev_attr, ev_bi, ev_bm, ev_isin, ev_fstr, evEs, evB, evT, evO, evI, puT, puTs, List.map, List.replicate, List.length, Nat.sub_self, List.append, List.cons_append, List.nil_append, List.getElem?_cons_zero, List.getElem?_cons_succ, must, Option.bind_some, Mi.ret, at5_0, at5_1, at5_2, at5_3, at5_4, ix5_1, ix5_2, ix5_3, ix5_4, List.set_cons_succ, List.set_cons_zero, runs_ok, runs_bind, runs_quiet, Then, after_rt, after_nx, Option.map_some, List.length_map, tgLen, if_true, if_false, eq_self, Bool.false_eq_true, reduceIte, bmTag, Bool.and_self, sz0, sz1, sz2, sz3, sz4, sz5, sz6, sz7, sz8, sz9, sz10, sz11, sz12, Int.reduceLE, Int.reduceLT, Int.reduceToNat, Int.reduceNe, Int.reduceEq, Int.reduceNeg, decide_true, decide_false, Bool.true_and, Bool.and_true, Bool.or_true, Bool.true_or, Bool.not_true, Bool.not_false, ne_eq, not_false_eq_true, Nat.reducePow, Int.reducePow, na10, int_d, jx5_1, jx5_2, jx5_3, jx5_4, b_add, b_sub, b_adds, b_addt, b_addl, b_mul, b_fdiv, b_mod, b_pow, c_eq, c_ne, c_in, c_nin, c_lt, c_le, c_gt, c_ge, e_ii, e_ss, e_bb, t_bl, t_int, t_non, t_str, t_ref, t_tup, s_ref, s_tup, s_fzl, l_ref, l_fzl, l_tup, i_ref, i_tup, i_fzl, i_str, put_ref, slq_fzl, slq_str, new_l, int_d, src_fzl, src_tup, src_str, src_ref, get_snoc, n_len_s, n_len_t, n_len_r, n_len_f, n_int_i, n_int_b, n_int_s, n_abs, n_tup_r, n_lst_r, n_str_i, n_str_s, nn_non, nn_int, nn_str, nn_bl, nn_tup, nn_ref, tag_is_str, tag_is_int, tag_is_bl, tag_is_non, tag_is_tup, tag_is_ref, Option.some.injEq, reduceCtorEq, cl_is_name, cl_value_text, cl_history_text, cl_read_integer, cl_read_value, cl_read_history, cl__law_draws, cl__law_pull, cl__law_any, cl__law_like, cl__law_reserved, cl__law_new_names, cl__law_far, cl__law_far_value, cl__law_value_text, cl__law_history_text, cl_law]
  refine (read_history_spec (n := n + 4) (hs := hsI) hsI_ok (by decide)).imp fun d L1 ⟨q1, u4, q2⟩ => ?_
  subst q1 q2
  try simp -implicitDefEqProofs only [fs_nil, fs_cons, fmt_str, fmt_int, ev_var, ev_cint, ev_cstr, ev_cbl, ev_cnon, ev_gcon, ev_bop, ev_neg, ev_cmp, ev_isn, ev_nisn, ev_chain, ev_and, ev_or, ev_not, ev_ife, ev_tup, ev_lst, ev_ix, ev_sl, ev_call, ev_meth, ev_make, ev_attr, ev_bi, ev_bm, ev_isin, ev_fstr, evEs, evB, evT, evO, evI, puT, puTs, List.map, List.replicate, List.length, Nat.sub_self, List.append, List.cons_append, List.nil_append, List.getElem?_cons_zero, List.getElem?_cons_succ, must, Option.bind_some, Mi.ret, at5_0, at5_1, at5_2, at5_3, at5_4, ix5_1, ix5_2, ix5_3, ix5_4, List.set_cons_succ, List.set_cons_zero, runs_ok, runs_bind, runs_quiet, Then, after_rt, after_nx, Option.map_some, List.length_map, tgLen, if_true, if_false, eq_self, Bool.false_eq_true, reduceIte, bmTag, Bool.and_self, sz0, sz1, sz2, sz3, sz4, sz5, sz6, sz7, sz8, sz9, sz10, sz11, sz12, Int.reduceLE, Int.reduceLT, Int.reduceToNat, Int.reduceNe, Int.reduceEq, Int.reduceNeg, decide_true, decide_false, Bool.true_and, Bool.and_true, Bool.or_true, Bool.true_or, Bool.not_true, Bool.not_false, ne_eq, not_false_eq_true, Nat.reducePow, Int.reducePow, na10, int_d, jx5_1, jx5_2, jx5_3, jx5_4, b_add, b_sub, b_adds, b_addt, b_addl, b_mul, b_fdiv, b_mod, b_pow, c_eq, c_ne, c_in, c_nin, c_lt, c_le, c_gt, c_ge, e_ii, e_ss, e_bb, t_bl, t_int, t_non, t_str, t_ref, t_tup, s_ref, s_tup, s_fzl, l_ref, l_fzl, l_tup, i_ref, i_tup, i_fzl, i_str, put_ref, slq_fzl, slq_str, new_l, int_d, src_fzl, src_tup, src_str, src_ref, get_snoc, n_len_s, n_len_t, n_len_r, n_len_f, n_int_i, n_int_b, n_int_s, n_abs, n_tup_r, n_lst_r, n_str_i, n_str_s, nn_non, nn_int, nn_str, nn_bl, nn_tup, nn_ref, tag_is_str, tag_is_int, tag_is_bl, tag_is_non, tag_is_tup, tag_is_ref, Option.some.injEq, reduceCtorEq, cl_is_name, cl_value_text, cl_history_text, cl_read_integer, cl_read_value, cl_read_history, cl__law_draws, cl__law_pull, cl__law_any, cl__law_like, cl__law_reserved, cl__law_new_names, cl__law_far, cl__law_far_value, cl__law_value_text, cl__law_history_text, cl_law]
  refine go_cons (go_ret ?_)
  try simp -implicitDefEqProofs only [fs_nil, fs_cons, fmt_str, fmt_int, ev_var, ev_cint, ev_cstr, ev_cbl, ev_cnon, ev_gcon, ev_bop, ev_neg, ev_cmp, ev_isn, ev_nisn, ev_chain, ev_and, ev_or, ev_not, ev_ife, ev_tup, ev_lst, ev_ix, ev_sl, ev_call, ev_meth, ev_make, ev_attr, ev_bi, ev_bm, ev_isin, ev_fstr, evEs, evB, evT, evO, evI, puT, puTs, List.map, List.replicate, List.length, Nat.sub_self, List.append, List.cons_append, List.nil_append, List.getElem?_cons_zero, List.getElem?_cons_succ, must, Option.bind_some, Mi.ret, at5_0, at5_1, at5_2, at5_3, at5_4, ix5_1, ix5_2, ix5_3, ix5_4, List.set_cons_succ, List.set_cons_zero, runs_ok, runs_bind, runs_quiet, Then, after_rt, after_nx, Option.map_some, List.length_map, tgLen, if_true, if_false, eq_self, Bool.false_eq_true, reduceIte, bmTag, Bool.and_self, sz0, sz1, sz2, sz3, sz4, sz5, sz6, sz7, sz8, sz9, sz10, sz11, sz12, Int.reduceLE, Int.reduceLT, Int.reduceToNat, Int.reduceNe, Int.reduceEq, Int.reduceNeg, decide_true, decide_false, Bool.true_and, Bool.and_true, Bool.or_true, Bool.true_or, Bool.not_true, Bool.not_false, ne_eq, not_false_eq_true, Nat.reducePow, Int.reducePow, na10, int_d, jx5_1, jx5_2, jx5_3, jx5_4, b_add, b_sub, b_adds, b_addt, b_addl, b_mul, b_fdiv, b_mod, b_pow, c_eq, c_ne, c_in, c_nin, c_lt, c_le, c_gt, c_ge, e_ii, e_ss, e_bb, t_bl, t_int, t_non, t_str, t_ref, t_tup, s_ref, s_tup, s_fzl, l_ref, l_fzl, l_tup, i_ref, i_tup, i_fzl, i_str, put_ref, slq_fzl, slq_str, new_l, int_d, src_fzl, src_tup, src_str, src_ref, get_snoc, n_len_s, n_len_t, n_len_r, n_len_f, n_int_i, n_int_b, n_int_s, n_abs, n_tup_r, n_lst_r, n_str_i, n_str_s, nn_non, nn_int, nn_str, nn_bl, nn_tup, nn_ref, tag_is_str, tag_is_int, tag_is_bl, tag_is_non, tag_is_tup, tag_is_ref, Option.some.injEq, reduceCtorEq, cl_is_name, cl_value_text, cl_history_text, cl_read_integer, cl_read_value, cl_read_history, cl__law_draws, cl__law_pull, cl__law_any, cl__law_like, cl__law_reserved, cl__law_new_names, cl__law_far, cl__law_far_value, cl__law_value_text, cl__law_history_text, cl_law]
  have nil_ok : ∀ h ∈ ([] : List Hs), HOk h := fun h hh => by cases hh
  refine (like_spec (n := n) 7 _ _ _ (like_four (t := S (htx [])) (pre_keep (pre_keep (pre_keep get_snoc))) get_snoc ?h0 ?h2 ?h3)).imp fun d L1 ⟨q1, u5, q2⟩ => q1
  case h0 =>
    refine like_hist (hs := []) nil_ok (by decide) ?_ ?_
    · exact pre_keep (pre_keep get_snoc)
    · (iterate 11 refine pre_keep ?_)
      exact get_snoc
  case h2 =>
    refine like_hist (hs := hsN) hsN_ok (by decide) ?_ ?_
    · exact pre_keep get_snoc
    · (iterate 7 refine pre_keep ?_)
      exact get_snoc
  case h3 =>
    refine like_hist (hs := hsI) hsI_ok (by decide) ?_ ?_
    · (iterate 12 refine pre_keep ?_)
      exact get_snoc
    · (iterate 5 refine pre_keep ?_)
      exact get_snoc
end
end Row
end

section
set_option Elab.async false
set_option linter.all false
set_option maxRecDepth 100000
set_option maxHeartbeats 4000000
namespace Row
open PySem PySem.Spec L2 Mi SX PySem.Builtin.Str
section
variable {n : Nat} {L L' : MH} {b c : Nat} {C : Nat → List D → M D}
/-- the law's locals -/
def LocL (o0 : Option D) (b : Nat) (o2 o3 o4 o5 o6 o7 o8 o9 : Option D) : Mi.Loc := [o0, some (.ref b), o2, o3, o4, o5, o6, o7, o8, o9]
def StepB : Sms := (.cons (.expr (.bm .append (.var 4) (.cons (.tup (.cons (.call 10 (.cons (.var 1) (.cons (.var 3) .nil)) [] .nil) (.cons (.bi .tuple1 (.cons (.lc (.call 15 (.cons (.var 1) .nil) [] .nil) (.var 9) (.rng1 (.call 9 (.cons (.var 1) (.cons (.cint 4) .nil)) [] .nil)) .none [9]) .nil)) .nil))) .nil))) .nil)
theorem vals_of : ∀ {acc : List D}, (∀ d ∈ acc, FarV d) → ∃ vs : List Val, acc = vs.map vD ∧ vs.length = acc.length ∧ ∀ v ∈ vs, VOk v
  | [], _ => ⟨[], rfl, rfl, fun v h => by cases h⟩
  | d :: acc, h => by
    obtain ⟨v, e, ok⟩ := farV_val (h d List.mem_cons_self)
    obtain ⟨vs, e2, l2, ok2⟩ := vals_of fun x hx => h x (List.mem_cons_of_mem _ hx)
    refine ⟨v :: vs, by rw [e, e2]; rfl, by simp [l2], fun w hw => ?_⟩
    rcases List.mem_cons.mp hw with rfl | hw
    · exact ok
    · exact ok2 w hw
/-- one step drawn and appended -/
theorem step_turn {o0 o2 o5 o6 o7 o8 o9 : Option D} {m3 m4 : Nat} {ls : List (List Nat)} {hs : List Hs} (hb : Bag L b c) (n3 : m3 ≠ b) (n4 : m4 ≠ b) (n4c : m4 ≠ c) (n34 : m3 ≠ m4) (h3 : L[m3]? = some (.lst (ls.map fun l => D.str (S l)))) (hls : ls.length = 5) (okn : ∀ l ∈ ls, Nm l) (h4 : L[m4]? = some (.lst (hs.map hD))) (hl : hs.length ≤ 6) :
    Runs (exSs R.T (callN R.T wf (n + 5)) wf StepB (LocL o0 b o2 (some (.ref m3)) (some (.ref m4)) o5 o6 o7 o8 o9) L) fun fl L' => (∃ h a9, HOk h ∧ fl = .nx (LocL o0 b o2 (some (.ref m3)) (some (.ref m4)) o5 o6 o7 o8 a9) ∧ L'[m4]? = some (.lst ((hs ++ [h]).map hD))) ∧ Bag L' b c ∧ L'[m3]? = some (.lst (ls.map fun l => D.str (S l))) ∧ L.length ≤ L'.length := by
  unfold StepB LocL
  refine go_cons (go_expr ?_)
  try simp -implicitDefEqProofs only [fs_nil, fs_cons, fmt_str, fmt_int, ev_var, ev_cint, ev_cstr, ev_cbl, ev_cnon, ev_gcon, ev_bop, ev_neg, ev_cmp, ev_isn, ev_nisn, ev_chain, ev_and, ev_or, ev_not, ev_ife, ev_tup, ev_lst, ev_ix, ev_sl, ev_call, ev_meth, ev_make, ev_attr, ev_bi, ev_bm, ev_isin, ev_fstr, evEs, evB, evT, evO, evI, puT, puTs, List.map, List.replicate, List.length, Nat.sub_self, List.append, List.cons_append, List.nil_append, List.getElem?_cons_zero, List.getElem?_cons_succ, must, Option.bind_some, Mi.ret, at5_0, at5_1, at5_2, at5_3, at5_4, ix5_1, ix5_2, ix5_3, ix5_4, List.set_cons_succ, List.set_cons_zero, runs_ok, runs_bind, runs_quiet, Then, after_rt, after_nx, Option.map_some, List.length_map, tgLen, if_true, if_false, eq_self, Bool.false_eq_true, reduceIte, bmTag, Bool.and_self, sz0, sz1, sz2, sz3, sz4, sz5, sz6, sz7, sz8, sz9, sz10, sz11, sz12, Int.reduceLE, Int.reduceLT, Int.reduceToNat, Int.reduceNe, Int.reduceEq, Int.reduceNeg, decide_true, decide_false, Bool.true_and, Bool.and_true, Bool.or_true, Bool.true_or, Bool.not_true, Bool.not_false, ne_eq, not_false_eq_true, Nat.reducePow, Int.reducePow, na10, int_d, jx5_1, jx5_2, jx5_3, jx5_4, b_add, b_sub, b_adds, b_addt, b_addl, b_mul, b_fdiv, b_mod, b_pow, c_eq, c_ne, c_in, c_nin, c_lt, c_le, c_gt, c_ge, e_ii, e_ss, e_bb, t_bl, t_int, t_non, t_str, t_ref, t_tup, s_ref, s_tup, s_fzl, l_ref, l_fzl, l_tup, i_ref, i_tup, i_fzl, i_str, put_ref, slq_fzl, slq_str, new_l, int_d, src_fzl, src_tup, src_str, src_ref, get_snoc, n_len_s, n_len_t, n_len_r, n_len_f, n_int_i, n_int_b, n_int_s, n_abs, n_tup_r, n_lst_r, n_str_i, n_str_s, nn_non, nn_int, nn_str, nn_bl, nn_tup, nn_ref, tag_is_str, tag_is_int, tag_is_bl, tag_is_non, tag_is_tup, tag_is_ref, Option.some.injEq, reduceCtorEq, h4, cl_is_name, cl_value_text, cl_history_text, cl_read_integer, cl_read_value, cl_read_history, cl__law_draws, cl__law_pull, cl__law_any, cl__law_like, cl__law_reserved, cl__law_new_names, cl__law_far, cl__law_far_value, cl__law_value_text, cl__law_history_text, cl_law]
  refine (any_list (n := n + 3) hb n3 h3 (by intro h; have := congrArg List.length h; rw [List.length_map, hls] at this; cases this) (by rw [List.length_map]; omega)).imp fun d L1 ⟨hd, st1⟩ => ?_
  obtain ⟨nm, hnm, rfl⟩ := List.mem_map.mp hd
  try simp -implicitDefEqProofs only [fs_nil, fs_cons, fmt_str, fmt_int, ev_var, ev_cint, ev_cstr, ev_cbl, ev_cnon, ev_gcon, ev_bop, ev_neg, ev_cmp, ev_isn, ev_nisn, ev_chain, ev_and, ev_or, ev_not, ev_ife, ev_tup, ev_lst, ev_ix, ev_sl, ev_call, ev_meth, ev_make, ev_attr, ev_bi, ev_bm, ev_isin, ev_fstr, evEs, evB, evT, evO, evI, puT, puTs, List.map, List.replicate, List.length, Nat.sub_self, List.append, List.cons_append, List.nil_append, List.getElem?_cons_zero, List.getElem?_cons_succ, must, Option.bind_some, Mi.ret, at5_0, at5_1, at5_2, at5_3, at5_4, ix5_1, ix5_2, ix5_3, ix5_4, List.set_cons_succ, List.set_cons_zero, runs_ok, runs_bind, runs_quiet, Then, after_rt, after_nx, Option.map_some, List.length_map, tgLen, if_true, if_false, eq_self, Bool.false_eq_true, reduceIte, bmTag, Bool.and_self, sz0, sz1, sz2, sz3, sz4, sz5, sz6, sz7, sz8, sz9, sz10, sz11, sz12, Int.reduceLE, Int.reduceLT, Int.reduceToNat, Int.reduceNe, Int.reduceEq, Int.reduceNeg, decide_true, decide_false, Bool.true_and, Bool.and_true, Bool.or_true, Bool.true_or, Bool.not_true, Bool.not_false, ne_eq, not_false_eq_true, Nat.reducePow, Int.reducePow, na10, int_d, jx5_1, jx5_2, jx5_3, jx5_4, b_add, b_sub, b_adds, b_addt, b_addl, b_mul, b_fdiv, b_mod, b_pow, c_eq, c_ne, c_in, c_nin, c_lt, c_le, c_gt, c_ge, e_ii, e_ss, e_bb, t_bl, t_int, t_non, t_str, t_ref, t_tup, s_ref, s_tup, s_fzl, l_ref, l_fzl, l_tup, i_ref, i_tup, i_fzl, i_str, put_ref, slq_fzl, slq_str, new_l, int_d, src_fzl, src_tup, src_str, src_ref, get_snoc, n_len_s, n_len_t, n_len_r, n_len_f, n_int_i, n_int_b, n_int_s, n_abs, n_tup_r, n_lst_r, n_str_i, n_str_s, nn_non, nn_int, nn_str, nn_bl, nn_tup, nn_ref, tag_is_str, tag_is_int, tag_is_bl, tag_is_non, tag_is_tup, tag_is_ref, Option.some.injEq, reduceCtorEq]
  refine go_lc ?_
  try simp -implicitDefEqProofs only [fs_nil, fs_cons, fmt_str, fmt_int, ev_var, ev_cint, ev_cstr, ev_cbl, ev_cnon, ev_gcon, ev_bop, ev_neg, ev_cmp, ev_isn, ev_nisn, ev_chain, ev_and, ev_or, ev_not, ev_ife, ev_tup, ev_lst, ev_ix, ev_sl, ev_call, ev_meth, ev_make, ev_attr, ev_bi, ev_bm, ev_isin, ev_fstr, evEs, evB, evT, evO, evI, puT, puTs, List.map, List.replicate, List.length, Nat.sub_self, List.append, List.cons_append, List.nil_append, List.getElem?_cons_zero, List.getElem?_cons_succ, must, Option.bind_some, Mi.ret, at5_0, at5_1, at5_2, at5_3, at5_4, ix5_1, ix5_2, ix5_3, ix5_4, List.set_cons_succ, List.set_cons_zero, runs_ok, runs_bind, runs_quiet, Then, after_rt, after_nx, Option.map_some, List.length_map, tgLen, if_true, if_false, eq_self, Bool.false_eq_true, reduceIte, bmTag, Bool.and_self, sz0, sz1, sz2, sz3, sz4, sz5, sz6, sz7, sz8, sz9, sz10, sz11, sz12, Int.reduceLE, Int.reduceLT, Int.reduceToNat, Int.reduceNe, Int.reduceEq, Int.reduceNeg, decide_true, decide_false, Bool.true_and, Bool.and_true, Bool.or_true, Bool.true_or, Bool.not_true, Bool.not_false, ne_eq, not_false_eq_true, Nat.reducePow, Int.reducePow, na10, int_d, jx5_1, jx5_2, jx5_3, jx5_4, b_add, b_sub, b_adds, b_addt, b_addl, b_mul, b_fdiv, b_mod, b_pow, c_eq, c_ne, c_in, c_nin, c_lt, c_le, c_gt, c_ge, e_ii, e_ss, e_bb, t_bl, t_int, t_non, t_str, t_ref, t_tup, s_ref, s_tup, s_fzl, l_ref, l_fzl, l_tup, i_ref, i_tup, i_fzl, i_str, put_ref, slq_fzl, slq_str, new_l, int_d, src_fzl, src_tup, src_str, src_ref, get_snoc, n_len_s, n_len_t, n_len_r, n_len_f, n_int_i, n_int_b, n_int_s, n_abs, n_tup_r, n_lst_r, n_str_i, n_str_s, nn_non, nn_int, nn_str, nn_bl, nn_tup, nn_ref, tag_is_str, tag_is_int, tag_is_bl, tag_is_non, tag_is_tup, tag_is_ref, Option.some.injEq, reduceCtorEq, cl_is_name, cl_value_text, cl_history_text, cl_read_integer, cl_read_value, cl_read_history, cl__law_draws, cl__law_pull, cl__law_any, cl__law_like, cl__law_reserved, cl__law_new_names, cl__law_far, cl__law_far_value, cl__law_value_text, cl__law_history_text, cl_law]
  refine pull_then (n := n + 4) (by decide) (by decide) st1.bag fun r L2 e2 e3 st2 => ?_
  try simp -implicitDefEqProofs only [fs_nil, fs_cons, fmt_str, fmt_int, ev_var, ev_cint, ev_cstr, ev_cbl, ev_cnon, ev_gcon, ev_bop, ev_neg, ev_cmp, ev_isn, ev_nisn, ev_chain, ev_and, ev_or, ev_not, ev_ife, ev_tup, ev_lst, ev_ix, ev_sl, ev_call, ev_meth, ev_make, ev_attr, ev_bi, ev_bm, ev_isin, ev_fstr, evEs, evB, evT, evO, evI, puT, puTs, List.map, List.replicate, List.length, Nat.sub_self, List.append, List.cons_append, List.nil_append, List.getElem?_cons_zero, List.getElem?_cons_succ, must, Option.bind_some, Mi.ret, at5_0, at5_1, at5_2, at5_3, at5_4, ix5_1, ix5_2, ix5_3, ix5_4, List.set_cons_succ, List.set_cons_zero, runs_ok, runs_bind, runs_quiet, Then, after_rt, after_nx, Option.map_some, List.length_map, tgLen, if_true, if_false, eq_self, Bool.false_eq_true, reduceIte, bmTag, Bool.and_self, sz0, sz1, sz2, sz3, sz4, sz5, sz6, sz7, sz8, sz9, sz10, sz11, sz12, Int.reduceLE, Int.reduceLT, Int.reduceToNat, Int.reduceNe, Int.reduceEq, Int.reduceNeg, decide_true, decide_false, Bool.true_and, Bool.and_true, Bool.or_true, Bool.true_or, Bool.not_true, Bool.not_false, ne_eq, not_false_eq_true, Nat.reducePow, Int.reducePow, na10, int_d, jx5_1, jx5_2, jx5_3, jx5_4, b_add, b_sub, b_adds, b_addt, b_addl, b_mul, b_fdiv, b_mod, b_pow, c_eq, c_ne, c_in, c_nin, c_lt, c_le, c_gt, c_ge, e_ii, e_ss, e_bb, t_bl, t_int, t_non, t_str, t_ref, t_tup, s_ref, s_tup, s_fzl, l_ref, l_fzl, l_tup, i_ref, i_tup, i_fzl, i_str, put_ref, slq_fzl, slq_str, new_l, int_d, src_fzl, src_tup, src_str, src_ref, get_snoc, n_len_s, n_len_t, n_len_r, n_len_f, n_int_i, n_int_b, n_int_s, n_abs, n_tup_r, n_lst_r, n_str_i, n_str_s, nn_non, nn_int, nn_str, nn_bl, nn_tup, nn_ref, tag_is_str, tag_is_int, tag_is_bl, tag_is_non, tag_is_tup, tag_is_ref, Option.some.injEq, reduceCtorEq, small_of e2 (by omega)]
  refine draw_then (P := FarV) (xs := rngL 0 r.toNat) st2.bag (fun _ _ => rfl) (by rw [rngL_len]; omega) (fun L1 _ i => rng_at _ _ _ _) rng_dr (fun x _ L4 st4 => ?_) fun acc L5 a1 a2 a3 st5 => ?_
  · try simp -implicitDefEqProofs only [fs_nil, fs_cons, fmt_str, fmt_int, ev_var, ev_cint, ev_cstr, ev_cbl, ev_cnon, ev_gcon, ev_bop, ev_neg, ev_cmp, ev_isn, ev_nisn, ev_chain, ev_and, ev_or, ev_not, ev_ife, ev_tup, ev_lst, ev_ix, ev_sl, ev_call, ev_meth, ev_make, ev_attr, ev_bi, ev_bm, ev_isin, ev_fstr, evEs, evB, evT, evO, evI, puT, puTs, List.map, List.replicate, List.length, Nat.sub_self, List.append, List.cons_append, List.nil_append, List.getElem?_cons_zero, List.getElem?_cons_succ, must, Option.bind_some, Mi.ret, at5_0, at5_1, at5_2, at5_3, at5_4, ix5_1, ix5_2, ix5_3, ix5_4, List.set_cons_succ, List.set_cons_zero, runs_ok, runs_bind, runs_quiet, Then, after_rt, after_nx, Option.map_some, List.length_map, tgLen, if_true, if_false, eq_self, Bool.false_eq_true, reduceIte, bmTag, Bool.and_self, sz0, sz1, sz2, sz3, sz4, sz5, sz6, sz7, sz8, sz9, sz10, sz11, sz12, Int.reduceLE, Int.reduceLT, Int.reduceToNat, Int.reduceNe, Int.reduceEq, Int.reduceNeg, decide_true, decide_false, Bool.true_and, Bool.and_true, Bool.or_true, Bool.true_or, Bool.not_true, Bool.not_false, ne_eq, not_false_eq_true, Nat.reducePow, Int.reducePow, na10, int_d, jx5_1, jx5_2, jx5_3, jx5_4, b_add, b_sub, b_adds, b_addt, b_addl, b_mul, b_fdiv, b_mod, b_pow, c_eq, c_ne, c_in, c_nin, c_lt, c_le, c_gt, c_ge, e_ii, e_ss, e_bb, t_bl, t_int, t_non, t_str, t_ref, t_tup, s_ref, s_tup, s_fzl, l_ref, l_fzl, l_tup, i_ref, i_tup, i_fzl, i_str, put_ref, slq_fzl, slq_str, new_l, int_d, src_fzl, src_tup, src_str, src_ref, get_snoc, n_len_s, n_len_t, n_len_r, n_len_f, n_int_i, n_int_b, n_int_s, n_abs, n_tup_r, n_lst_r, n_str_i, n_str_s, nn_non, nn_int, nn_str, nn_bl, nn_tup, nn_ref, tag_is_str, tag_is_int, tag_is_bl, tag_is_non, tag_is_tup, tag_is_ref, Option.some.injEq, reduceCtorEq, wipeL, cl_is_name, cl_value_text, cl_history_text, cl_read_integer, cl_read_value, cl_read_history, cl__law_draws, cl__law_pull, cl__law_any, cl__law_like, cl__law_reserved, cl__law_new_names, cl__law_far, cl__law_far_value, cl__law_value_text, cl__law_history_text, cl_law]
    exact far_value_spec (n := n + 1) st4.bag
  obtain ⟨vs, v1, v2, v3⟩ := vals_of a2
  rw [v1] at a3
  rw [rngL_len] at a1
  have st := st1.trans (st2.trans st5)
  have g4 := st.get n4 h4
  try simp -implicitDefEqProofs only [fs_nil, fs_cons, fmt_str, fmt_int, ev_var, ev_cint, ev_cstr, ev_cbl, ev_cnon, ev_gcon, ev_bop, ev_neg, ev_cmp, ev_isn, ev_nisn, ev_chain, ev_and, ev_or, ev_not, ev_ife, ev_tup, ev_lst, ev_ix, ev_sl, ev_call, ev_meth, ev_make, ev_attr, ev_bi, ev_bm, ev_isin, ev_fstr, evEs, evB, evT, evO, evI, puT, puTs, List.map, List.replicate, List.length, Nat.sub_self, List.append, List.cons_append, List.nil_append, List.getElem?_cons_zero, List.getElem?_cons_succ, must, Option.bind_some, Mi.ret, at5_0, at5_1, at5_2, at5_3, at5_4, ix5_1, ix5_2, ix5_3, ix5_4, List.set_cons_succ, List.set_cons_zero, runs_ok, runs_bind, runs_quiet, Then, after_rt, after_nx, Option.map_some, List.length_map, tgLen, if_true, if_false, eq_self, Bool.false_eq_true, reduceIte, bmTag, Bool.and_self, sz0, sz1, sz2, sz3, sz4, sz5, sz6, sz7, sz8, sz9, sz10, sz11, sz12, Int.reduceLE, Int.reduceLT, Int.reduceToNat, Int.reduceNe, Int.reduceEq, Int.reduceNeg, decide_true, decide_false, Bool.true_and, Bool.and_true, Bool.or_true, Bool.true_or, Bool.not_true, Bool.not_false, ne_eq, not_false_eq_true, Nat.reducePow, Int.reducePow, na10, int_d, jx5_1, jx5_2, jx5_3, jx5_4, b_add, b_sub, b_adds, b_addt, b_addl, b_mul, b_fdiv, b_mod, b_pow, c_eq, c_ne, c_in, c_nin, c_lt, c_le, c_gt, c_ge, e_ii, e_ss, e_bb, t_bl, t_int, t_non, t_str, t_ref, t_tup, s_ref, s_tup, s_fzl, l_ref, l_fzl, l_tup, i_ref, i_tup, i_fzl, i_str, put_ref, slq_fzl, slq_str, new_l, int_d, src_fzl, src_tup, src_str, src_ref, get_snoc, n_len_s, n_len_t, n_len_r, n_len_f, n_int_i, n_int_b, n_int_s, n_abs, n_tup_r, n_lst_r, n_str_i, n_str_s, nn_non, nn_int, nn_str, nn_bl, nn_tup, nn_ref, tag_is_str, tag_is_int, tag_is_bl, tag_is_non, tag_is_tup, tag_is_ref, Option.some.injEq, reduceCtorEq, a3, g4]
  rw [app_run g4 (by rw [List.length_map]; omega)]
  try simp -implicitDefEqProofs only [fs_nil, fs_cons, fmt_str, fmt_int, ev_var, ev_cint, ev_cstr, ev_cbl, ev_cnon, ev_gcon, ev_bop, ev_neg, ev_cmp, ev_isn, ev_nisn, ev_chain, ev_and, ev_or, ev_not, ev_ife, ev_tup, ev_lst, ev_ix, ev_sl, ev_call, ev_meth, ev_make, ev_attr, ev_bi, ev_bm, ev_isin, ev_fstr, evEs, evB, evT, evO, evI, puT, puTs, List.map, List.replicate, List.length, Nat.sub_self, List.append, List.cons_append, List.nil_append, List.getElem?_cons_zero, List.getElem?_cons_succ, must, Option.bind_some, Mi.ret, at5_0, at5_1, at5_2, at5_3, at5_4, ix5_1, ix5_2, ix5_3, ix5_4, List.set_cons_succ, List.set_cons_zero, runs_ok, runs_bind, runs_quiet, Then, after_rt, after_nx, Option.map_some, List.length_map, tgLen, if_true, if_false, eq_self, Bool.false_eq_true, reduceIte, bmTag, Bool.and_self, sz0, sz1, sz2, sz3, sz4, sz5, sz6, sz7, sz8, sz9, sz10, sz11, sz12, Int.reduceLE, Int.reduceLT, Int.reduceToNat, Int.reduceNe, Int.reduceEq, Int.reduceNeg, decide_true, decide_false, Bool.true_and, Bool.and_true, Bool.or_true, Bool.true_or, Bool.not_true, Bool.not_false, ne_eq, not_false_eq_true, Nat.reducePow, Int.reducePow, na10, int_d, jx5_1, jx5_2, jx5_3, jx5_4, b_add, b_sub, b_adds, b_addt, b_addl, b_mul, b_fdiv, b_mod, b_pow, c_eq, c_ne, c_in, c_nin, c_lt, c_le, c_gt, c_ge, e_ii, e_ss, e_bb, t_bl, t_int, t_non, t_str, t_ref, t_tup, s_ref, s_tup, s_fzl, l_ref, l_fzl, l_tup, i_ref, i_tup, i_fzl, i_str, put_ref, slq_fzl, slq_str, new_l, int_d, src_fzl, src_tup, src_str, src_ref, get_snoc, n_len_s, n_len_t, n_len_r, n_len_f, n_int_i, n_int_b, n_int_s, n_abs, n_tup_r, n_lst_r, n_str_i, n_str_s, nn_non, nn_int, nn_str, nn_bl, nn_tup, nn_ref, tag_is_str, tag_is_int, tag_is_bl, tag_is_non, tag_is_tup, tag_is_ref, Option.some.injEq, reduceCtorEq]
  refine go_nil ⟨⟨⟨nm, vs⟩, _, ⟨okn nm hnm, by show vs.length ≤ 5; omega, v3⟩, rfl, ?_⟩, ?_, ?_, ?_⟩
  · rw [List.getElem?_set_self (List.getElem?_eq_some_iff.mp g4).1, List.map_append]
    rfl
  · obtain ⟨is, i, cur, seed, cnt, hbc, hb, hc, r⟩ := st.bag
    exact ⟨is, i, cur, seed, cnt, hbc, by rw [List.getElem?_set_ne n4]; exact hb, by rw [List.getElem?_set_ne n4c]; exact hc, r⟩
  · rw [List.getElem?_set_ne (Ne.symm n34)]
    exact st.get n3 h3
  · rw [List.length_set]
    exact st.len
end
end Row
end

section
set_option Elab.async false
set_option linter.all false
set_option maxRecDepth 100000
set_option maxHeartbeats 4000000
namespace Row
open PySem PySem.Spec L2 Mi SX PySem.Builtin.Str
section
variable {n : Nat} {L L' : MH} {b c : Nat} {C : Nat → List D → M D}
def TurnB : Sms := (.cons (.par [3, 4] (.cons (.call 13 (.cons (.var 1) (.cons (.cint 5) .nil)) [] .nil) (.cons (.lst .nil) .nil))) (.cons (.fr (.var 5) (.rng1 (.call 9 (.cons (.var 1) (.cons (.cint 7) .nil)) [] .nil)) StepB) (.cons (.asg (.var 6) (.call 17 (.cons (.var 4) .nil) [] .nil)) (.cons (.ife (.not (.call 11 (.cons (.lst (.cons (.call 4 (.cons (.var 4) .nil) [] .nil) (.cons (.call 4 .nil [5] (.cons (.bi .tuple1 (.cons (.var 4) .nil)) .nil)) (.cons (.call 7 (.cons (.var 6) .nil) [] .nil) .nil)))) (.cons (.lst (.cons (.var 6) (.cons (.var 6) (.cons (.var 4) .nil)))) .nil)) [] .nil)) (.cons (.ret (.cbl false)) .nil) .nil) .nil))))
theorem Bag.ext (h : Bag L b c) (u : MH) : Bag (L ++ u) b c := h.mono fun a ha => by rw [List.getElem?_append_left ha]
theorem law_turn {o0 o2 o3 o4 o5 o6 o7 o8 o9 : Option D} (hb : Bag L b c) :
    Runs (exSs R.T (callN R.T wf (n + 7)) wf TurnB (LocL o0 b o2 o3 o4 o5 o6 o7 o8 o9) L) fun fl L' => (∃ a2 a3 a4 a5 a6 a7 a8 a9, fl = .nx (LocL o0 b a2 a3 a4 a5 a6 a7 a8 a9)) ∧ Bag L' b c := by
  unfold TurnB LocL
  refine go_cons (go_par ?_)
  try simp -implicitDefEqProofs only [fs_nil, fs_cons, fmt_str, fmt_int, ev_var, ev_cint, ev_cstr, ev_cbl, ev_cnon, ev_gcon, ev_bop, ev_neg, ev_cmp, ev_isn, ev_nisn, ev_chain, ev_and, ev_or, ev_not, ev_ife, ev_tup, ev_lst, ev_ix, ev_sl, ev_call, ev_meth, ev_make, ev_attr, ev_bi, ev_bm, ev_isin, ev_fstr, evEs, evB, evT, evO, evI, puT, puTs, List.map, List.replicate, List.length, Nat.sub_self, List.append, List.cons_append, List.nil_append, List.getElem?_cons_zero, List.getElem?_cons_succ, must, Option.bind_some, Mi.ret, at5_0, at5_1, at5_2, at5_3, at5_4, ix5_1, ix5_2, ix5_3, ix5_4, List.set_cons_succ, List.set_cons_zero, runs_ok, runs_bind, runs_quiet, Then, after_rt, after_nx, Option.map_some, List.length_map, tgLen, if_true, if_false, eq_self, Bool.false_eq_true, reduceIte, bmTag, Bool.and_self, sz0, sz1, sz2, sz3, sz4, sz5, sz6, sz7, sz8, sz9, sz10, sz11, sz12, Int.reduceLE, Int.reduceLT, Int.reduceToNat, Int.reduceNe, Int.reduceEq, Int.reduceNeg, decide_true, decide_false, Bool.true_and, Bool.and_true, Bool.or_true, Bool.true_or, Bool.not_true, Bool.not_false, ne_eq, not_false_eq_true, Nat.reducePow, Int.reducePow, na10, int_d, jx5_1, jx5_2, jx5_3, jx5_4, b_add, b_sub, b_adds, b_addt, b_addl, b_mul, b_fdiv, b_mod, b_pow, c_eq, c_ne, c_in, c_nin, c_lt, c_le, c_gt, c_ge, e_ii, e_ss, e_bb, t_bl, t_int, t_non, t_str, t_ref, t_tup, s_ref, s_tup, s_fzl, l_ref, l_fzl, l_tup, i_ref, i_tup, i_fzl, i_str, put_ref, slq_fzl, slq_str, new_l, int_d, src_fzl, src_tup, src_str, src_ref, get_snoc, n_len_s, n_len_t, n_len_r, n_len_f, n_int_i, n_int_b, n_int_s, n_abs, n_tup_r, n_lst_r, n_str_i, n_str_s, nn_non, nn_int, nn_str, nn_bl, nn_tup, nn_ref, tag_is_str, tag_is_int, tag_is_bl, tag_is_non, tag_is_tup, tag_is_ref, Option.some.injEq, reduceCtorEq, cl_is_name, cl_value_text, cl_history_text, cl_read_integer, cl_read_value, cl_read_history, cl__law_draws, cl__law_pull, cl__law_any, cl__law_like, cl__law_reserved, cl__law_new_names, cl__law_far, cl__law_far_value, cl__law_value_text, cl__law_history_text, cl_law]
  refine (new_names_spec (n := n + 4) (k := 5) (by decide) hb).imp fun d L1 ⟨⟨m3, ls, q1, q2, q3, q4, q5⟩, st1⟩ => ?_
  subst q1
  try simp -implicitDefEqProofs only [fs_nil, fs_cons, fmt_str, fmt_int, ev_var, ev_cint, ev_cstr, ev_cbl, ev_cnon, ev_gcon, ev_bop, ev_neg, ev_cmp, ev_isn, ev_nisn, ev_chain, ev_and, ev_or, ev_not, ev_ife, ev_tup, ev_lst, ev_ix, ev_sl, ev_call, ev_meth, ev_make, ev_attr, ev_bi, ev_bm, ev_isin, ev_fstr, evEs, evB, evT, evO, evI, puT, puTs, List.map, List.replicate, List.length, Nat.sub_self, List.append, List.cons_append, List.nil_append, List.getElem?_cons_zero, List.getElem?_cons_succ, must, Option.bind_some, Mi.ret, at5_0, at5_1, at5_2, at5_3, at5_4, ix5_1, ix5_2, ix5_3, ix5_4, List.set_cons_succ, List.set_cons_zero, runs_ok, runs_bind, runs_quiet, Then, after_rt, after_nx, Option.map_some, List.length_map, tgLen, if_true, if_false, eq_self, Bool.false_eq_true, reduceIte, bmTag, Bool.and_self, sz0, sz1, sz2, sz3, sz4, sz5, sz6, sz7, sz8, sz9, sz10, sz11, sz12, Int.reduceLE, Int.reduceLT, Int.reduceToNat, Int.reduceNe, Int.reduceEq, Int.reduceNeg, decide_true, decide_false, Bool.true_and, Bool.and_true, Bool.or_true, Bool.true_or, Bool.not_true, Bool.not_false, ne_eq, not_false_eq_true, Nat.reducePow, Int.reducePow, na10, int_d, jx5_1, jx5_2, jx5_3, jx5_4, b_add, b_sub, b_adds, b_addt, b_addl, b_mul, b_fdiv, b_mod, b_pow, c_eq, c_ne, c_in, c_nin, c_lt, c_le, c_gt, c_ge, e_ii, e_ss, e_bb, t_bl, t_int, t_non, t_str, t_ref, t_tup, s_ref, s_tup, s_fzl, l_ref, l_fzl, l_tup, i_ref, i_tup, i_fzl, i_str, put_ref, slq_fzl, slq_str, new_l, int_d, src_fzl, src_tup, src_str, src_ref, get_snoc, n_len_s, n_len_t, n_len_r, n_len_f, n_int_i, n_int_b, n_int_s, n_abs, n_tup_r, n_lst_r, n_str_i, n_str_s, nn_non, nn_int, nn_str, nn_bl, nn_tup, nn_ref, tag_is_str, tag_is_int, tag_is_bl, tag_is_non, tag_is_tup, tag_is_ref, Option.some.injEq, reduceCtorEq]
  refine ⟨trivial, ?_⟩
  have b1 := st1.bag
  have lt3 : m3 < L1.length := (List.getElem?_eq_some_iff.mp q3).1
  have n3 : m3 ≠ b := Nat.ne_of_gt (Nat.lt_of_lt_of_le hb.ltb q2)
  have n4 : L1.length ≠ b := Nat.ne_of_gt b1.ltb
  have n4c : L1.length ≠ c := Nat.ne_of_gt b1.ltc
  have n34 : m3 ≠ L1.length := Nat.ne_of_lt lt3
  simp only [setAll, List.set_cons_succ, List.set_cons_zero]
  refine go_cons (go_for ?_)
  try simp -implicitDefEqProofs only [fs_nil, fs_cons, fmt_str, fmt_int, ev_var, ev_cint, ev_cstr, ev_cbl, ev_cnon, ev_gcon, ev_bop, ev_neg, ev_cmp, ev_isn, ev_nisn, ev_chain, ev_and, ev_or, ev_not, ev_ife, ev_tup, ev_lst, ev_ix, ev_sl, ev_call, ev_meth, ev_make, ev_attr, ev_bi, ev_bm, ev_isin, ev_fstr, evEs, evB, evT, evO, evI, puT, puTs, List.map, List.replicate, List.length, Nat.sub_self, List.append, List.cons_append, List.nil_append, List.getElem?_cons_zero, List.getElem?_cons_succ, must, Option.bind_some, Mi.ret, at5_0, at5_1, at5_2, at5_3, at5_4, ix5_1, ix5_2, ix5_3, ix5_4, List.set_cons_succ, List.set_cons_zero, runs_ok, runs_bind, runs_quiet, Then, after_rt, after_nx, Option.map_some, List.length_map, tgLen, if_true, if_false, eq_self, Bool.false_eq_true, reduceIte, bmTag, Bool.and_self, sz0, sz1, sz2, sz3, sz4, sz5, sz6, sz7, sz8, sz9, sz10, sz11, sz12, Int.reduceLE, Int.reduceLT, Int.reduceToNat, Int.reduceNe, Int.reduceEq, Int.reduceNeg, decide_true, decide_false, Bool.true_and, Bool.and_true, Bool.or_true, Bool.true_or, Bool.not_true, Bool.not_false, ne_eq, not_false_eq_true, Nat.reducePow, Int.reducePow, na10, int_d, jx5_1, jx5_2, jx5_3, jx5_4, b_add, b_sub, b_adds, b_addt, b_addl, b_mul, b_fdiv, b_mod, b_pow, c_eq, c_ne, c_in, c_nin, c_lt, c_le, c_gt, c_ge, e_ii, e_ss, e_bb, t_bl, t_int, t_non, t_str, t_ref, t_tup, s_ref, s_tup, s_fzl, l_ref, l_fzl, l_tup, i_ref, i_tup, i_fzl, i_str, put_ref, slq_fzl, slq_str, new_l, int_d, src_fzl, src_tup, src_str, src_ref, get_snoc, n_len_s, n_len_t, n_len_r, n_len_f, n_int_i, n_int_b, n_int_s, n_abs, n_tup_r, n_lst_r, n_str_i, n_str_s, nn_non, nn_int, nn_str, nn_bl, nn_tup, nn_ref, tag_is_str, tag_is_int, tag_is_bl, tag_is_non, tag_is_tup, tag_is_ref, Option.some.injEq, reduceCtorEq, cl_is_name, cl_value_text, cl_history_text, cl_read_integer, cl_read_value, cl_read_history, cl__law_draws, cl__law_pull, cl__law_any, cl__law_like, cl__law_reserved, cl__law_new_names, cl__law_far, cl__law_far_value, cl__law_value_text, cl__law_history_text, cl_law]
  refine pull_then (n := n + 6) (by decide) (by decide) (b1.ext [.lst []]) fun r L2 e2 e3 st2 => ?_
  try simp -implicitDefEqProofs only [fs_nil, fs_cons, fmt_str, fmt_int, ev_var, ev_cint, ev_cstr, ev_cbl, ev_cnon, ev_gcon, ev_bop, ev_neg, ev_cmp, ev_isn, ev_nisn, ev_chain, ev_and, ev_or, ev_not, ev_ife, ev_tup, ev_lst, ev_ix, ev_sl, ev_call, ev_meth, ev_make, ev_attr, ev_bi, ev_bm, ev_isin, ev_fstr, evEs, evB, evT, evO, evI, puT, puTs, List.map, List.replicate, List.length, Nat.sub_self, List.append, List.cons_append, List.nil_append, List.getElem?_cons_zero, List.getElem?_cons_succ, must, Option.bind_some, Mi.ret, at5_0, at5_1, at5_2, at5_3, at5_4, ix5_1, ix5_2, ix5_3, ix5_4, List.set_cons_succ, List.set_cons_zero, runs_ok, runs_bind, runs_quiet, Then, after_rt, after_nx, Option.map_some, List.length_map, tgLen, if_true, if_false, eq_self, Bool.false_eq_true, reduceIte, bmTag, Bool.and_self, sz0, sz1, sz2, sz3, sz4, sz5, sz6, sz7, sz8, sz9, sz10, sz11, sz12, Int.reduceLE, Int.reduceLT, Int.reduceToNat, Int.reduceNe, Int.reduceEq, Int.reduceNeg, decide_true, decide_false, Bool.true_and, Bool.and_true, Bool.or_true, Bool.true_or, Bool.not_true, Bool.not_false, ne_eq, not_false_eq_true, Nat.reducePow, Int.reducePow, na10, int_d, jx5_1, jx5_2, jx5_3, jx5_4, b_add, b_sub, b_adds, b_addt, b_addl, b_mul, b_fdiv, b_mod, b_pow, c_eq, c_ne, c_in, c_nin, c_lt, c_le, c_gt, c_ge, e_ii, e_ss, e_bb, t_bl, t_int, t_non, t_str, t_ref, t_tup, s_ref, s_tup, s_fzl, l_ref, l_fzl, l_tup, i_ref, i_tup, i_fzl, i_str, put_ref, slq_fzl, slq_str, new_l, int_d, src_fzl, src_tup, src_str, src_ref, get_snoc, n_len_s, n_len_t, n_len_r, n_len_f, n_int_i, n_int_b, n_int_s, n_abs, n_tup_r, n_lst_r, n_str_i, n_str_s, nn_non, nn_int, nn_str, nn_bl, nn_tup, nn_ref, tag_is_str, tag_is_int, tag_is_bl, tag_is_non, tag_is_tup, tag_is_ref, Option.some.injEq, reduceCtorEq, small_of e2 (by omega)]
  refine for_run (xs := rngL 0 r.toNat) (fun i ρ L3 => ∃ (hs : List Hs) (a5 a6 a7 a8 a9 : Option D), (∀ h ∈ hs, HOk h) ∧ hs.length = i ∧ i ≤ 6 ∧ ρ = LocL o0 b o2 (some (.ref m3)) (some (.ref L1.length)) a5 a6 a7 a8 a9 ∧ L3[L1.length]? = some (.lst (hs.map hD)) ∧ L3[m3]? = some (.lst (ls.map fun l => D.str (S l))) ∧ Bag L3 b c) (fun i ρ L3 _ => rng_at _ _ _ _) ?step ?fin _ 0 _ _ (Nat.zero_le _) ?fuel ⟨[], _, _, _, _, _, (fun h hh => by cases hh), rfl, by decide, rfl, st2.get n4 get_snoc, st2.get n3 (pre_keep q3), st2.bag⟩
  case fuel =>
    simp only [Wk.len, rngL_len]
    omega
  case step =>
    intro i x ρ L3 hx ⟨hs, a5, a6, a7, a8, a9, ok, e1, e4, e5, g4, g3, b3⟩
    subst e5
    have hi : i < r.toNat := by
      have := (List.getElem?_eq_some_iff.mp hx).1
      rw [rngL_len] at this
      exact this
    refine ⟨LocL o0 b o2 (some (.ref m3)) (some (.ref L1.length)) (some x) a6 a7 a8 a9, L3, rfl, ?_⟩
    refine (step_turn (n := n + 2) b3 n3 n4 n4c n34 g3 q4 q5 g4 (by omega)).imp fun fl L4 ⟨⟨h, z9, okh, z1, z2⟩, z3, z4, z5⟩ => ?_
    subst z1
    refine ⟨hs ++ [h], _, _, _, _, _, fun k hk => ?_, by simp [e1], by omega, rfl, z2, z4, z3⟩
    rcases List.mem_append.mp hk with hk | hk
    · exact ok k hk
    · rw [List.mem_singleton.mp hk]
      exact okh
  case fin =>
    intro ρ L3 ⟨hs, a5, a6, a7, a8, a9, ok, e1, e4, e5, g4, g3, b3⟩
    subst e5
    have hl : hs.length ≤ 6 := by omega
    unfold LocL
    show Runs _ _
    refine go_cons (go_var ?_)
    try simp -implicitDefEqProofs only [fs_nil, fs_cons, fmt_str, fmt_int, ev_var, ev_cint, ev_cstr, ev_cbl, ev_cnon, ev_gcon, ev_bop, ev_neg, ev_cmp, ev_isn, ev_nisn, ev_chain, ev_and, ev_or, ev_not, ev_ife, ev_tup, ev_lst, ev_ix, ev_sl, ev_call, ev_meth, ev_make, ev_attr, ev_bi, ev_bm, ev_isin, ev_fstr, evEs, evB, evT, evO, evI, puT, puTs, List.map, List.replicate, List.length, Nat.sub_self, List.append, List.cons_append, List.nil_append, List.getElem?_cons_zero, List.getElem?_cons_succ, must, Option.bind_some, Mi.ret, at5_0, at5_1, at5_2, at5_3, at5_4, ix5_1, ix5_2, ix5_3, ix5_4, List.set_cons_succ, List.set_cons_zero, runs_ok, runs_bind, runs_quiet, Then, after_rt, after_nx, Option.map_some, List.length_map, tgLen, if_true, if_false, eq_self, Bool.false_eq_true, reduceIte, bmTag, Bool.and_self, sz0, sz1, sz2, sz3, sz4, sz5, sz6, sz7, sz8, sz9, sz10, sz11, sz12, Int.reduceLE, Int.reduceLT, Int.reduceToNat, Int.reduceNe, Int.reduceEq, Int.reduceNeg, decide_true, decide_false, Bool.true_and, Bool.and_true, Bool.or_true, Bool.true_or, Bool.not_true, Bool.not_false, ne_eq, not_false_eq_true, Nat.reducePow, Int.reducePow, na10, int_d, jx5_1, jx5_2, jx5_3, jx5_4, b_add, b_sub, b_adds, b_addt, b_addl, b_mul, b_fdiv, b_mod, b_pow, c_eq, c_ne, c_in, c_nin, c_lt, c_le, c_gt, c_ge, e_ii, e_ss, e_bb, t_bl, t_int, t_non, t_str, t_ref, t_tup, s_ref, s_tup, s_fzl, l_ref, l_fzl, l_tup, i_ref, i_tup, i_fzl, i_str, put_ref, slq_fzl, slq_str, new_l, int_d, src_fzl, src_tup, src_str, src_ref, get_snoc, n_len_s, n_len_t, n_len_r, n_len_f, n_int_i, n_int_b, n_int_s, n_abs, n_tup_r, n_lst_r, n_str_i, n_str_s, nn_non, nn_int, nn_str, nn_bl, nn_tup, nn_ref, tag_is_str, tag_is_int, tag_is_bl, tag_is_non, tag_is_tup, tag_is_ref, Option.some.injEq, reduceCtorEq, cl_is_name, cl_value_text, cl_history_text, cl_read_integer, cl_read_value, cl_read_history, cl__law_draws, cl__law_pull, cl__law_any, cl__law_like, cl__law_reserved, cl__law_new_names, cl__law_far, cl__law_far_value, cl__law_value_text, cl__law_history_text, cl_law]
    refine (law_history_text_spec (n := n + 5) ok hl g4).imp fun d L4 ⟨y1, u4, y2⟩ => ?_
    subst y1 y2
    try simp -implicitDefEqProofs only [fs_nil, fs_cons, fmt_str, fmt_int, ev_var, ev_cint, ev_cstr, ev_cbl, ev_cnon, ev_gcon, ev_bop, ev_neg, ev_cmp, ev_isn, ev_nisn, ev_chain, ev_and, ev_or, ev_not, ev_ife, ev_tup, ev_lst, ev_ix, ev_sl, ev_call, ev_meth, ev_make, ev_attr, ev_bi, ev_bm, ev_isin, ev_fstr, evEs, evB, evT, evO, evI, puT, puTs, List.map, List.replicate, List.length, Nat.sub_self, List.append, List.cons_append, List.nil_append, List.getElem?_cons_zero, List.getElem?_cons_succ, must, Option.bind_some, Mi.ret, at5_0, at5_1, at5_2, at5_3, at5_4, ix5_1, ix5_2, ix5_3, ix5_4, List.set_cons_succ, List.set_cons_zero, runs_ok, runs_bind, runs_quiet, Then, after_rt, after_nx, Option.map_some, List.length_map, tgLen, if_true, if_false, eq_self, Bool.false_eq_true, reduceIte, bmTag, Bool.and_self, sz0, sz1, sz2, sz3, sz4, sz5, sz6, sz7, sz8, sz9, sz10, sz11, sz12, Int.reduceLE, Int.reduceLT, Int.reduceToNat, Int.reduceNe, Int.reduceEq, Int.reduceNeg, decide_true, decide_false, Bool.true_and, Bool.and_true, Bool.or_true, Bool.true_or, Bool.not_true, Bool.not_false, ne_eq, not_false_eq_true, Nat.reducePow, Int.reducePow, na10, int_d, jx5_1, jx5_2, jx5_3, jx5_4, b_add, b_sub, b_adds, b_addt, b_addl, b_mul, b_fdiv, b_mod, b_pow, c_eq, c_ne, c_in, c_nin, c_lt, c_le, c_gt, c_ge, e_ii, e_ss, e_bb, t_bl, t_int, t_non, t_str, t_ref, t_tup, s_ref, s_tup, s_fzl, l_ref, l_fzl, l_tup, i_ref, i_tup, i_fzl, i_str, put_ref, slq_fzl, slq_str, new_l, int_d, src_fzl, src_tup, src_str, src_ref, get_snoc, n_len_s, n_len_t, n_len_r, n_len_f, n_int_i, n_int_b, n_int_s, n_abs, n_tup_r, n_lst_r, n_str_i, n_str_s, nn_non, nn_int, nn_str, nn_bl, nn_tup, nn_ref, tag_is_str, tag_is_int, tag_is_bl, tag_is_non, tag_is_tup, tag_is_ref, Option.some.injEq, reduceCtorEq]
    refine go_cons (go_if ?_)
    refine (check_spec (n := n) ok hl (pre_keep g4)).imp fun k L5 ⟨y3, u5, y4⟩ => ?_
    subst y3 y4
    try simp -implicitDefEqProofs only [fs_nil, fs_cons, fmt_str, fmt_int, ev_var, ev_cint, ev_cstr, ev_cbl, ev_cnon, ev_gcon, ev_bop, ev_neg, ev_cmp, ev_isn, ev_nisn, ev_chain, ev_and, ev_or, ev_not, ev_ife, ev_tup, ev_lst, ev_ix, ev_sl, ev_call, ev_meth, ev_make, ev_attr, ev_bi, ev_bm, ev_isin, ev_fstr, evEs, evB, evT, evO, evI, puT, puTs, List.map, List.replicate, List.length, Nat.sub_self, List.append, List.cons_append, List.nil_append, List.getElem?_cons_zero, List.getElem?_cons_succ, must, Option.bind_some, Mi.ret, at5_0, at5_1, at5_2, at5_3, at5_4, ix5_1, ix5_2, ix5_3, ix5_4, List.set_cons_succ, List.set_cons_zero, runs_ok, runs_bind, runs_quiet, Then, after_rt, after_nx, Option.map_some, List.length_map, tgLen, if_true, if_false, eq_self, Bool.false_eq_true, reduceIte, bmTag, Bool.and_self, sz0, sz1, sz2, sz3, sz4, sz5, sz6, sz7, sz8, sz9, sz10, sz11, sz12, Int.reduceLE, Int.reduceLT, Int.reduceToNat, Int.reduceNe, Int.reduceEq, Int.reduceNeg, decide_true, decide_false, Bool.true_and, Bool.and_true, Bool.or_true, Bool.true_or, Bool.not_true, Bool.not_false, ne_eq, not_false_eq_true, Nat.reducePow, Int.reducePow, na10, int_d, jx5_1, jx5_2, jx5_3, jx5_4, b_add, b_sub, b_adds, b_addt, b_addl, b_mul, b_fdiv, b_mod, b_pow, c_eq, c_ne, c_in, c_nin, c_lt, c_le, c_gt, c_ge, e_ii, e_ss, e_bb, t_bl, t_int, t_non, t_str, t_ref, t_tup, s_ref, s_tup, s_fzl, l_ref, l_fzl, l_tup, i_ref, i_tup, i_fzl, i_str, put_ref, slq_fzl, slq_str, new_l, int_d, src_fzl, src_tup, src_str, src_ref, get_snoc, n_len_s, n_len_t, n_len_r, n_len_f, n_int_i, n_int_b, n_int_s, n_abs, n_tup_r, n_lst_r, n_str_i, n_str_s, nn_non, nn_int, nn_str, nn_bl, nn_tup, nn_ref, tag_is_str, tag_is_int, tag_is_bl, tag_is_non, tag_is_tup, tag_is_ref, Option.some.injEq, reduceCtorEq]
    refine go_nilT (go_nil ⟨⟨_, _, _, _, _, _, _, _, rfl⟩, ?_⟩)
    exact (b3.ext u4).ext u5
theorem law_spec {ns : List Int} (h : ns.length ≤ 63) : Runs (callN R.T wf (n + 8) f_law [.fzl (ns.map D.int)] []) fun d _ => d = .bl true := by
  refine go_def (fd := fd_law) rfl rfl ?_
  show Runs (exSs R.T (callN R.T wf (n + 7)) wf (.cons (.asg (.var 1) (.call 8 (.cons (.var 0) .nil) [] .nil)) (.cons (.fr (.var 2) (.rng1 (.cint 8)) TurnB) TailR)) [some (.fzl (ns.map D.int)), none, none, none, none, none, none, none, none, none] []) _
  refine go_cons (go_var ?_)
  try simp -implicitDefEqProofs only [fs_nil, fs_cons, fmt_str, fmt_int, ev_var, ev_cint, ev_cstr, ev_cbl, ev_cnon, ev_gcon, ev_bop, ev_neg, ev_cmp, ev_isn, ev_nisn, ev_chain, ev_and, ev_or, ev_not, ev_ife, ev_tup, ev_lst, ev_ix, ev_sl, ev_call, ev_meth, ev_make, ev_attr, ev_bi, ev_bm, ev_isin, ev_fstr, evEs, evB, evT, evO, evI, puT, puTs, List.map, List.replicate, List.length, Nat.sub_self, List.append, List.cons_append, List.nil_append, List.getElem?_cons_zero, List.getElem?_cons_succ, must, Option.bind_some, Mi.ret, at5_0, at5_1, at5_2, at5_3, at5_4, ix5_1, ix5_2, ix5_3, ix5_4, List.set_cons_succ, List.set_cons_zero, runs_ok, runs_bind, runs_quiet, Then, after_rt, after_nx, Option.map_some, List.length_map, tgLen, if_true, if_false, eq_self, Bool.false_eq_true, reduceIte, bmTag, Bool.and_self, sz0, sz1, sz2, sz3, sz4, sz5, sz6, sz7, sz8, sz9, sz10, sz11, sz12, Int.reduceLE, Int.reduceLT, Int.reduceToNat, Int.reduceNe, Int.reduceEq, Int.reduceNeg, decide_true, decide_false, Bool.true_and, Bool.and_true, Bool.or_true, Bool.true_or, Bool.not_true, Bool.not_false, ne_eq, not_false_eq_true, Nat.reducePow, Int.reducePow, na10, int_d, jx5_1, jx5_2, jx5_3, jx5_4, b_add, b_sub, b_adds, b_addt, b_addl, b_mul, b_fdiv, b_mod, b_pow, c_eq, c_ne, c_in, c_nin, c_lt, c_le, c_gt, c_ge, e_ii, e_ss, e_bb, t_bl, t_int, t_non, t_str, t_ref, t_tup, s_ref, s_tup, s_fzl, l_ref, l_fzl, l_tup, i_ref, i_tup, i_fzl, i_str, put_ref, slq_fzl, slq_str, new_l, int_d, src_fzl, src_tup, src_str, src_ref, get_snoc, n_len_s, n_len_t, n_len_r, n_len_f, n_int_i, n_int_b, n_int_s, n_abs, n_tup_r, n_lst_r, n_str_i, n_str_s, nn_non, nn_int, nn_str, nn_bl, nn_tup, nn_ref, tag_is_str, tag_is_int, tag_is_bl, tag_is_non, tag_is_tup, tag_is_ref, Option.some.injEq, reduceCtorEq, cl_is_name, cl_value_text, cl_history_text, cl_read_integer, cl_read_value, cl_read_history, cl__law_draws, cl__law_pull, cl__law_any, cl__law_like, cl__law_reserved, cl__law_new_names, cl__law_far, cl__law_far_value, cl__law_value_text, cl__law_history_text, cl_law]
  refine (draws_spec (n := n + 6) h).imp fun d L1 ⟨b, c, q1, hb⟩ => ?_
  subst q1
  try simp -implicitDefEqProofs only [fs_nil, fs_cons, fmt_str, fmt_int, ev_var, ev_cint, ev_cstr, ev_cbl, ev_cnon, ev_gcon, ev_bop, ev_neg, ev_cmp, ev_isn, ev_nisn, ev_chain, ev_and, ev_or, ev_not, ev_ife, ev_tup, ev_lst, ev_ix, ev_sl, ev_call, ev_meth, ev_make, ev_attr, ev_bi, ev_bm, ev_isin, ev_fstr, evEs, evB, evT, evO, evI, puT, puTs, List.map, List.replicate, List.length, Nat.sub_self, List.append, List.cons_append, List.nil_append, List.getElem?_cons_zero, List.getElem?_cons_succ, must, Option.bind_some, Mi.ret, at5_0, at5_1, at5_2, at5_3, at5_4, ix5_1, ix5_2, ix5_3, ix5_4, List.set_cons_succ, List.set_cons_zero, runs_ok, runs_bind, runs_quiet, Then, after_rt, after_nx, Option.map_some, List.length_map, tgLen, if_true, if_false, eq_self, Bool.false_eq_true, reduceIte, bmTag, Bool.and_self, sz0, sz1, sz2, sz3, sz4, sz5, sz6, sz7, sz8, sz9, sz10, sz11, sz12, Int.reduceLE, Int.reduceLT, Int.reduceToNat, Int.reduceNe, Int.reduceEq, Int.reduceNeg, decide_true, decide_false, Bool.true_and, Bool.and_true, Bool.or_true, Bool.true_or, Bool.not_true, Bool.not_false, ne_eq, not_false_eq_true, Nat.reducePow, Int.reducePow, na10, int_d, jx5_1, jx5_2, jx5_3, jx5_4, b_add, b_sub, b_adds, b_addt, b_addl, b_mul, b_fdiv, b_mod, b_pow, c_eq, c_ne, c_in, c_nin, c_lt, c_le, c_gt, c_ge, e_ii, e_ss, e_bb, t_bl, t_int, t_non, t_str, t_ref, t_tup, s_ref, s_tup, s_fzl, l_ref, l_fzl, l_tup, i_ref, i_tup, i_fzl, i_str, put_ref, slq_fzl, slq_str, new_l, int_d, src_fzl, src_tup, src_str, src_ref, get_snoc, n_len_s, n_len_t, n_len_r, n_len_f, n_int_i, n_int_b, n_int_s, n_abs, n_tup_r, n_lst_r, n_str_i, n_str_s, nn_non, nn_int, nn_str, nn_bl, nn_tup, nn_ref, tag_is_str, tag_is_int, tag_is_bl, tag_is_non, tag_is_tup, tag_is_ref, Option.some.injEq, reduceCtorEq]
  refine go_cons (go_for ?_)
  try simp -implicitDefEqProofs only [fs_nil, fs_cons, fmt_str, fmt_int, ev_var, ev_cint, ev_cstr, ev_cbl, ev_cnon, ev_gcon, ev_bop, ev_neg, ev_cmp, ev_isn, ev_nisn, ev_chain, ev_and, ev_or, ev_not, ev_ife, ev_tup, ev_lst, ev_ix, ev_sl, ev_call, ev_meth, ev_make, ev_attr, ev_bi, ev_bm, ev_isin, ev_fstr, evEs, evB, evT, evO, evI, puT, puTs, List.map, List.replicate, List.length, Nat.sub_self, List.append, List.cons_append, List.nil_append, List.getElem?_cons_zero, List.getElem?_cons_succ, must, Option.bind_some, Mi.ret, at5_0, at5_1, at5_2, at5_3, at5_4, ix5_1, ix5_2, ix5_3, ix5_4, List.set_cons_succ, List.set_cons_zero, runs_ok, runs_bind, runs_quiet, Then, after_rt, after_nx, Option.map_some, List.length_map, tgLen, if_true, if_false, eq_self, Bool.false_eq_true, reduceIte, bmTag, Bool.and_self, sz0, sz1, sz2, sz3, sz4, sz5, sz6, sz7, sz8, sz9, sz10, sz11, sz12, Int.reduceLE, Int.reduceLT, Int.reduceToNat, Int.reduceNe, Int.reduceEq, Int.reduceNeg, decide_true, decide_false, Bool.true_and, Bool.and_true, Bool.or_true, Bool.true_or, Bool.not_true, Bool.not_false, ne_eq, not_false_eq_true, Nat.reducePow, Int.reducePow, na10, int_d, jx5_1, jx5_2, jx5_3, jx5_4, b_add, b_sub, b_adds, b_addt, b_addl, b_mul, b_fdiv, b_mod, b_pow, c_eq, c_ne, c_in, c_nin, c_lt, c_le, c_gt, c_ge, e_ii, e_ss, e_bb, t_bl, t_int, t_non, t_str, t_ref, t_tup, s_ref, s_tup, s_fzl, l_ref, l_fzl, l_tup, i_ref, i_tup, i_fzl, i_str, put_ref, slq_fzl, slq_str, new_l, int_d, src_fzl, src_tup, src_str, src_ref, get_snoc, n_len_s, n_len_t, n_len_r, n_len_f, n_int_i, n_int_b, n_int_s, n_abs, n_tup_r, n_lst_r, n_str_i, n_str_s, nn_non, nn_int, nn_str, nn_bl, nn_tup, nn_ref, tag_is_str, tag_is_int, tag_is_bl, tag_is_non, tag_is_tup, tag_is_ref, Option.some.injEq, reduceCtorEq, small_of (show (0 : Int) ≤ 8 by decide) (by decide)]
  refine for_run (xs := rngL 0 8) (fun i ρ L3 => (∃ a2 a3 a4 a5 a6 a7 a8 a9, ρ = LocL (some (.fzl (ns.map D.int))) b a2 a3 a4 a5 a6 a7 a8 a9) ∧ Bag L3 b c) (fun i ρ L3 _ => rng_at _ _ _ _) ?step ?fin _ 0 _ _ (Nat.zero_le _) ?fuel ⟨⟨_, _, _, _, _, _, _, _, rfl⟩, hb⟩
  case fuel =>
    simp only [Wk.len, rngL_len]
    decide
  case step =>
    intro i x ρ L3 _ ⟨⟨a2, a3, a4, a5, a6, a7, a8, a9, e⟩, b3⟩
    subst e
    refine ⟨LocL (some (.fzl (ns.map D.int))) b (some x) a3 a4 a5 a6 a7 a8 a9, L3, rfl, ?_⟩
    refine (law_turn (n := n) b3).imp fun fl L4 ⟨⟨z2, z3, z4, z5, z6, z7, z8, z9, e⟩, b4⟩ => ?_
    subst e
    exact ⟨⟨_, _, _, _, _, _, _, _, rfl⟩, b4⟩
  case fin =>
    intro ρ L3 ⟨⟨a2, a3, a4, a5, a6, a7, a8, a9, e⟩, b3⟩
    subst e
    exact tail_spec (n := n)
theorem spec (ns : List Int) (h : ns.length ≤ 63) : ∃ L', callN R.T wf 40 f_law [.fzl (ns.map D.int)] [] = .ok (.bl true) L' := by
  obtain ⟨d, L', e1, e2⟩ := law_spec (n := 32) h
  subst e2
  exact ⟨L', e1⟩
end
end Row
end

section
set_option Elab.async false
set_option linter.all false
set_option maxRecDepth 100000
set_option maxHeartbeats 0
open PySem PySem.W PySem.Calls PyProof.Rows
theorem PySem.Challenge.cw_samesight_k29_history_texts_holds : PySem.Challenge.rw_samesight_k29_history_texts.Holds := by
  w_on; o_law
  refine HandSHeadRun.head_any (r := OpenLaw.row PySem.Challenge.rw_samesight_k29_history_texts) (q := view (OpenLaw.row PySem.Challenge.rw_samesight_k29_history_texts).prog [27]) (H := Row.hk) (ob := Row.ob) (M := 3000) (loose := Row.nms) (d := HandSHeadRun.topDef (OpenLaw.row PySem.Challenge.rw_samesight_k29_history_texts).prog 27) (kwd := []) Row.ob_eq
    (by kernel_rfl) (fun s => by kernel_rfl) Row.run (by kernel_rfl) (by kernel_rfl) (by kernel_rfl) (by rfl) (by first | assumption | decide +kernel) (by decide +kernel) ⟨rfl, rfl, rfl, rfl, rfl, by decide +kernel⟩ ?hw ?hc
  case hw => w_witness2
  case hc =>
    refine Mi.walk_ofW (l := PySem.Challenge.rw_samesight_k29_history_texts) (n := 63) (k := 80) (x := "_law_script") rfl (by decide) (by kernel_rfl) ⟨rfl, by decide, by decide⟩ ?F
    intro w mg fa h Y G hmg0
    obtain ⟨K, KX, c⟩ := Y
    have hmg : mg ("law" : PySem.Str) = some (.ref fa) := by
      have e : (HandSHeadRun.topDef (OpenLaw.row PySem.Challenge.rw_samesight_k29_history_texts).prog 27).name = ("law" : PySem.Str) := by kernel_rfl
      rw [← e]
      exact hmg0
    have hd : ∀ z ∈ Row.R.fns, ∃ fd, L2.FunD K z.2.1.name z.2.1.qual z.2.1.params z.2.1.body z.2.1.scope (z.2.1.dvs K) (z.2.1.kws K) (He.fAd K z.2.1.at_) fd := fun z hz => c.t.d.defs (List.mem_map.mpr ⟨z, hz, rfl⟩)
    have e1 := hmg.symm.trans (He.glo_ok KX G (c.t.d.facts (f := .glo "law") (List.mem_singleton.mpr rfl)))
    have e2 : fa = Row.R.fad K Row.f_law := Value.ref.inj (Option.some.inj e1)
    subst e2
    obtain ⟨fd, F⟩ := hd (Row.fd_law, Row.d_law, Row.N_law) (List.mem_of_getElem? (i := Row.f_law) rfl)
    have hb := L2.FunD.bindsA (ps := ["_law_script"]) F fun _ _ _ _ _ _ us hl => match us, hl with | [_], _ => rfl
    have ed : Mi.datOf K (Row.R.fad K Row.f_law) = fd := Mi.dat_of F
    refine ⟨K, fd, Mi.spL (Row.R.g K) Row.R.T Row.wf 40 Row.f_law, KX, fun s u => hb s [u] rfl, fun H a ns hl _ hO hS => ?_, fun base => ?_⟩
    · obtain ⟨L', e⟩ := Row.spec ns hl
      exact Mi.law_says hO hS e
    · rw [← ed]
      exact Mi.row_fns Row.wf KX G hd Row.dfl Row.ok c.more 40 Row.f_law Row.fd_law rfl
end
