import PyProof.Rows.All
import HandS.ForMost
import HandS.ForExc
import HandS.Wide
import HandS.IsInst
import HandS.ExcInit
import HandS.TryMany
import HandS.ExcField
import HandS.ExcIs
import HandS.MakeKw
import HandS.CallSlots
import HandS.Flow
import HandS.Style
import HandS.TupAny
import HandS.Conv
import HandS.Defaults
import HandS.TupLe
import HandS.TupMul
import HandS.StrMore
import HandS.ExcSuper
import HandS.Iter
import HandS.Head0
import HandS.Head1
import HandS.Head2
import HandS.HeadEnd
import HandS.HeadHook1
import HandS.HeadHook2
import PySem.Challenge.RW_tropicbench_k75_disks_and_cuts
import KE.KStateDown
section
set_option Elab.async false
set_option linter.all false
set_option maxRecDepth 100000
set_option maxHeartbeats 2000000
/-! Mi1: abstract values (trees), ownership, the assertion that ties an abstract state to slots and heap. -/
namespace Mi
open PySem PySem.Spec PyProof.Rows L2

/-- built-in types by name -/
inductive Tn where
  | non | bool | int | str | list | tuple | dict
  deriving DecidableEq
def Tn.nm : Tn → String
  | .non => "NoneType" | .bool => "bool" | .int => "int" | .str => "str" | .list => "list" | .tuple => "tuple" | .dict => "dict"
/-- a value as a tree: nothing of it is ever changed; objects by handles -/
inductive D where
  | non | bl (b : Bool) | int (i : Int) | str (s : Str)
  | lst (xs : List D) | tup (xs : List D) | dct (kvs : List (Key × D))
  | obj (n : Nat) | glo (x : Str) | ty (n : Tn)
  | scr (xs : List D)
  | exn

/-- a value with what of it may still be changed: own lists and dicts, instances -/
inductive OD where
  | d (x : D)
  | own (xs : List OD)
  | odk (kvs : List (Key × OD))
  | ins (c : Str) (fl : List (Str × OD))

abbrev Cl := List (Addr × HO)

section
variable (K : PySem.W.Frag) (mg : Str → Option Value) (Z : Hp) (η : List Addr)
mutual
inductive Rep : D → V → Prop
  | non : Rep .non .non
  | bl {b} : Rep (.bl b) (.bl b)
  | int {i} : Rep (.int i) (.int i)
  | str {x} : Rep (.str x) (.str x)
  | lst {xs vs a} : Z a = some (.lst vs) → Reps xs vs → Rep (.lst xs) (.ref a)
  | scr {xs vs a} : SqL K Z a vs → Reps xs vs → Rep (.scr xs) (.ref a)
  | tup {xs vs a} : SqT K Z a vs → Reps xs vs → Rep (.tup xs) (.ref a)
  | dct {kvs kws a} : Z a = some (.dK kws) → RepK kvs kws → Rep (.dct kvs) (.ref a)
  | obj {n a} : η[n]? = some a → Rep (.obj n) (.ref a)
  | glo {x f} : mg x = some (.ref f) → Rep (.glo x) (.ref f)
  | ty {n} : Rep (.ty n) (.ty n.nm)
  | exn {a} : Rep .exn (.ref a)
inductive Reps : List D → List V → Prop
  | nil : Reps [] []
  | cons {x v xs vs} : Rep x v → Reps xs vs → Reps (x :: xs) (v :: vs)
inductive RepK : List (Key × D) → List (Key × V) → Prop
  | nil : RepK [] []
  | cons {k x v xs vs} : Rep x v → RepK xs vs → RepK ((k, x) :: xs) ((k, v) :: vs)
end
mutual
inductive RepO : OD → V → Cl → Prop
  | d {x v} : Rep K mg Z η x v → RepO (.d x) v []
  | own {xs vs a C} : RepOs xs vs C → RepO (.own xs) (.ref a) ((a, .lst vs) :: C)
  | odk {kvs kws a C} : RepOk kvs kws C → RepO (.odk kvs) (.ref a) ((a, .dK kws) :: C)
  | ins {c fl fs a dx Ca C} : mg c = some (.ref Ca) → RepOf fl fs C → RepO (.ins c fl) (.ref a) ((a, .ins Ca dx fs) :: (dx, .own a) :: C)
inductive RepOs : List OD → List V → Cl → Prop
  | nil : RepOs [] [] []
  | cons {x v xs vs C1 C2} : RepO x v C1 → RepOs xs vs C2 → RepOs (x :: xs) (v :: vs) (C1 ++ C2)
inductive RepOk : List (Key × OD) → List (Key × V) → Cl → Prop
  | nil : RepOk [] [] []
  | cons {k x v xs vs C1 C2} : RepO x v C1 → RepOk xs vs C2 → RepOk ((k, x) :: xs) ((k, v) :: vs) (C1 ++ C2)
inductive RepOf : List (Str × OD) → List (Str × V) → Cl → Prop
  | nil : RepOf [] [] []
  | cons {k x v xs vs C1 C2} : RepO x v C1 → RepOf xs vs C2 → RepOf ((k, x) :: xs) ((k, v) :: vs) (C1 ++ C2)
end
end

section
variable {K : PySem.W.Frag} {mg : Str → Option Value} {Z Z' : Hp} {η η' : List Addr}

theorem pre_get {α : Type} {l l' : List α} (h : l <+: l') {n : Nat} {x : α} (e : l[n]? = some x) : l'[n]? = some x := by
  obtain ⟨t, rfl⟩ := h
  obtain ⟨hn, _⟩ := List.getElem?_eq_some_iff.mp e
  rw [List.getElem?_append_left hn]
  exact e
theorem SqT_same {H H' : Hp} {a : Addr} {xs : List V} (e : Same H H') (h : SqT K H a xs) : SqT K H' a xs := by
  rcases h with (h | ⟨o, h⟩) | h
  · exact .inl (.inl (e _ _ h))
  · exact .inl (.inr ⟨o, e _ _ h⟩)
  · exact .inr h

mutual
theorem Rep.mono (hz : Same Z Z') (he : η <+: η') : ∀ {x : D} {v : V}, Rep K mg Z η x v → Rep K mg Z' η' x v
  | _, _, .non => .non
  | _, _, .bl => .bl
  | _, _, .int => .int
  | _, _, .str => .str
  | _, _, .lst h r => .lst (hz _ _ h) (Reps.mono hz he r)
  | _, _, .scr h r => .scr (hz.seq h) (Reps.mono hz he r)
  | _, _, .tup h r => .tup (SqT_same hz h) (Reps.mono hz he r)
  | _, _, .dct h r => .dct (hz _ _ h) (RepK.mono hz he r)
  | _, _, .obj h => .obj (pre_get he h)
  | _, _, .glo h => .glo h
  | _, _, .ty => .ty
  | _, _, .exn => .exn
theorem Reps.mono (hz : Same Z Z') (he : η <+: η') : ∀ {x : List D} {v : List V}, Reps K mg Z η x v → Reps K mg Z' η' x v
  | _, _, .nil => .nil
  | _, _, .cons h r => .cons (Rep.mono hz he h) (Reps.mono hz he r)
theorem RepK.mono (hz : Same Z Z') (he : η <+: η') : ∀ {x : List (Key × D)} {v : List (Key × V)}, RepK K mg Z η x v → RepK K mg Z' η' x v
  | _, _, .nil => .nil
  | _, _, .cons h r => .cons (Rep.mono hz he h) (RepK.mono hz he r)
end
mutual
theorem RepO.mono (hz : Same Z Z') (he : η <+: η') : ∀ {x : OD} {v : V} {C : Cl}, RepO K mg Z η x v C → RepO K mg Z' η' x v C
  | _, _, _, .d h => .d (h.mono hz he)
  | _, _, _, .own r => .own (RepOs.mono hz he r)
  | _, _, _, .odk r => .odk (RepOk.mono hz he r)
  | _, _, _, .ins h r => .ins h (RepOf.mono hz he r)
theorem RepOs.mono (hz : Same Z Z') (he : η <+: η') : ∀ {x : List OD} {v : List V} {C : Cl}, RepOs K mg Z η x v C → RepOs K mg Z' η' x v C
  | _, _, _, .nil => .nil
  | _, _, _, .cons h r => .cons (RepO.mono hz he h) (RepOs.mono hz he r)
theorem RepOk.mono (hz : Same Z Z') (he : η <+: η') : ∀ {x : List (Key × OD)} {v : List (Key × V)} {C : Cl}, RepOk K mg Z η x v C → RepOk K mg Z' η' x v C
  | _, _, _, .nil => .nil
  | _, _, _, .cons h r => .cons (RepO.mono hz he h) (RepOk.mono hz he r)
theorem RepOf.mono (hz : Same Z Z') (he : η <+: η') : ∀ {x : List (Str × OD)} {v : List (Str × V)} {C : Cl}, RepOf K mg Z η x v C → RepOf K mg Z' η' x v C
  | _, _, _, .nil => .nil
  | _, _, _, .cons h r => .cons (RepO.mono hz he h) (RepOf.mono hz he r)
end

theorem Reps.length : ∀ {xs : List D} {vs : List V}, Reps K mg Z η xs vs → xs.length = vs.length
  | _, _, .nil => rfl
  | _, _, .cons _ r => by simp [Reps.length r]
theorem Reps.get : ∀ {xs : List D} {vs : List V} {i : Nat} {x : D}, Reps K mg Z η xs vs → xs[i]? = some x → ∃ v, vs[i]? = some v ∧ Rep K mg Z η x v
  | _, _, _, _, .nil, e => by simp at e
  | _, _, 0, _, .cons h _, e => by simp at e; subst e; exact ⟨_, rfl, h⟩
  | _, _, i + 1, _, .cons _ r, e => by
    obtain ⟨v, h1, h2⟩ := Reps.get (i := i) r (by simpa using e)
    exact ⟨v, by simpa using h1, h2⟩
theorem Reps.append : ∀ {xs : List D} {vs : List V} {ys : List D} {ws : List V}, Reps K mg Z η xs vs → Reps K mg Z η ys ws → Reps K mg Z η (xs ++ ys) (vs ++ ws)
  | _, _, _, _, .nil, s => s
  | _, _, _, _, .cons h r, s => .cons h (Reps.append r s)
theorem Reps.take : ∀ {xs : List D} {vs : List V} (n : Nat), Reps K mg Z η xs vs → Reps K mg Z η (xs.take n) (vs.take n)
  | _, _, 0, _ => by simp; exact .nil
  | _, _, _ + 1, .nil => .nil
  | _, _, n + 1, .cons h r => .cons h (Reps.take n r)
theorem Reps.drop : ∀ {xs : List D} {vs : List V} (n : Nat), Reps K mg Z η xs vs → Reps K mg Z η (xs.drop n) (vs.drop n)
  | _, _, 0, r => r
  | _, _, _ + 1, .nil => .nil
  | _, _, n + 1, .cons _ r => Reps.drop n r
theorem RepOs.length : ∀ {xs : List OD} {vs : List V} {C : Cl}, RepOs K mg Z η xs vs C → xs.length = vs.length
  | _, _, _, .nil => rfl
  | _, _, _, .cons _ r => by simp [RepOs.length r]
theorem RepOs.app : ∀ {xs ys : List OD} {vs ws : List V} {C C' : Cl}, RepOs K mg Z η xs vs C → RepOs K mg Z η ys ws C' → RepOs K mg Z η (xs ++ ys) (vs ++ ws) (C ++ C')
  | _, _, _, _, _, _, .nil, s => s
  | _, _, _, _, _, _, .cons h r, s => by
    rw [List.append_assoc]
    exact .cons h (RepOs.app r s)
theorem RepOs.split : ∀ {xs ys : List OD} {us : List V} {C : Cl}, RepOs K mg Z η (xs ++ ys) us C → ∃ vs ws C1 C2, us = vs ++ ws ∧ C = C1 ++ C2 ∧ RepOs K mg Z η xs vs C1 ∧ RepOs K mg Z η ys ws C2
  | [], ys, us, C, h => ⟨[], us, [], C, rfl, rfl, .nil, h⟩
  | x :: xs, ys, us, C, h => by
    cases h with
    | cons h r =>
      obtain ⟨vs, ws, C1, C2, rfl, rfl, r1, r2⟩ := RepOs.split (xs := xs) r
      exact ⟨_ :: vs, ws, _ ++ C1, C2, rfl, by simp, .cons h r1, r2⟩
theorem Reps.os : ∀ {xs : List D} {vs : List V}, Reps K mg Z η xs vs → RepOs K mg Z η (xs.map .d) vs []
  | _, _, .nil => .nil
  | _, _, .cons h r => .cons (C1 := []) (C2 := []) (.d h) (Reps.os r)
theorem RepOs.ds : ∀ {xs : List D} {vs : List V} {C : Cl}, RepOs K mg Z η (xs.map .d) vs C → Reps K mg Z η xs vs ∧ C = []
  | [], _, _, .nil => ⟨.nil, rfl⟩
  | x :: xs, _, _, h => by
    cases h with
    | cons h r =>
      cases h with
      | d h =>
        obtain ⟨r1, rfl⟩ := RepOs.ds r
        exact ⟨.cons h r1, rfl⟩
end

/-! ### roots -/
abbrev Roots := List (OD × V)
def RepR (K : PySem.W.Frag) (mg : Str → Option Value) (Z : Hp) (η : List Addr) (R : Roots) (C : Cl) : Prop := RepOs K mg Z η (R.map (·.1)) (R.map (·.2)) C
section
variable {K : PySem.W.Frag} {mg : Str → Option Value} {Z Z' : Hp} {η η' : List Addr} {R R' : Roots} {C C' : Cl}
theorem RepR.nil : RepR K mg Z η [] [] := RepOs.nil
theorem RepR.cons {x : OD} {v : V} {C1 : Cl} (h : RepO K mg Z η x v C1) (r : RepR K mg Z η R C) : RepR K mg Z η ((x, v) :: R) (C1 ++ C) := RepOs.cons h r
theorem RepR.uncons {x : OD} {v : V} (h : RepR K mg Z η ((x, v) :: R) C) : ∃ C1 C2, C = C1 ++ C2 ∧ RepO K mg Z η x v C1 ∧ RepR K mg Z η R C2 := by
  cases h with
  | cons h r => exact ⟨_, _, rfl, h, r⟩
theorem RepR.mono (hz : Same Z Z') (he : η <+: η') (h : RepR K mg Z η R C) : RepR K mg Z' η' R C := RepOs.mono hz he h
theorem RepR.app (h : RepR K mg Z η R C) (h' : RepR K mg Z η R' C') : RepR K mg Z η (R ++ R') (C ++ C') := by
  unfold RepR; rw [List.map_append, List.map_append]
  exact RepOs.app h h'
theorem RepR.split : ∀ {R R' : Roots} {C : Cl}, RepR K mg Z η (R ++ R') C → ∃ C1 C2, C = C1 ++ C2 ∧ RepR K mg Z η R C1 ∧ RepR K mg Z η R' C2
  | [], _, C, h => ⟨[], C, rfl, .nil, h⟩
  | (x, v) :: R, R', C, h => by
    obtain ⟨C1, C2, rfl, h1, h2⟩ := RepR.uncons h
    obtain ⟨C3, C4, rfl, h3, h4⟩ := RepR.split (R := R) h2
    exact ⟨C1 ++ C3, C4, by simp, .cons h1 h3, h4⟩
theorem RepR.perm (p : R.Perm R') : ∀ {C : Cl}, RepR K mg Z η R C → ∃ C', RepR K mg Z η R' C' ∧ C.Perm C' := by
  induction p with
  | nil => exact fun h => ⟨_, h, .refl _⟩
  | cons x _ ih =>
    intro C h
    obtain ⟨C1, C2, rfl, h1, h2⟩ := RepR.uncons h
    obtain ⟨C', h3, p⟩ := ih h2
    exact ⟨C1 ++ C', .cons h1 h3, p.append_left C1⟩
  | swap x y l =>
    intro C h
    obtain ⟨C1, C2, rfl, h1, h2⟩ := RepR.uncons h
    obtain ⟨C3, C4, rfl, h3, h4⟩ := RepR.uncons h2
    refine ⟨C3 ++ (C1 ++ C4), .cons h3 (.cons h1 h4), ?_⟩
    rw [← List.append_assoc, ← List.append_assoc]
    exact List.perm_append_comm.append_right C4
  | trans _ _ ih1 ih2 =>
    intro C h
    obtain ⟨C1, h1, p1⟩ := ih1 h
    obtain ⟨C2, h2, p2⟩ := ih2 h1
    exact ⟨C2, h2, p1.trans p2⟩
end

/-! ### the abstract state -/
/-- slots; nodes (objects by handle), or none where the code at hand sees no object -/
structure AS where
  v : List (Option OD)
  μ : Option (List OD)

/-- a def's entry: the heap, what is frozen there, the handles, what it may write -/
structure Frm where
  H0 : Hp
  Z0 : Hp
  η0 : List Addr
  W : Addr → Prop

def sroots : List (Option OD) → List (Option V) → Roots
  | some x :: s, some v :: σ => (x, v) :: sroots s σ
  | _ :: s, _ :: σ => sroots s σ
  | _, _ => []
def mroots (μ : Option (List OD)) (η : List Addr) : Roots := match μ with
  | some m => m.zip (η.map V.ref)
  | none => []
def SlotOk (s : List (Option OD)) (σ : L2.St) : Prop := s.length = σ.length ∧ ∀ (i : Nat) (x : OD), s[i]? = some (some x) → ∃ v, σ[i]? = some (some v)

/-- the nodes go with the handles; where none are seen, there are no new handles -/
def MuOk (μ : Option (List OD)) (η η0 : List Addr) : Prop := match μ with
  | some m => m.length = η.length
  | none => η = η0
structure AsnC (K : PySem.W.Frag) (mg : Str → Option Value) (F : Frm) (R : Roots) (S : AS) (σ : L2.St) (H : Hp) (Z : Hp) (η : List Addr) (C : Cl) : Prop where
  z0 : Same F.Z0 Z
  e0 : F.η0 <+: η
  zh : Same Z H
  fr : ∀ a o, F.H0 a = some o → ¬ F.W a → H a = some o
  zn : ∀ a o, Z a = some o → F.Z0 a = some o ∨ F.W a ∨ F.H0 a = none
  cw : ∀ p ∈ C, H p.1 = some p.2 ∧ Z p.1 = none ∧ (F.W p.1 ∨ F.H0 p.1 = none)
  nd : (C.map (·.1)).Nodup
  sl : SlotOk S.v σ
  ml : MuOk S.μ η F.η0
  rep : RepR K mg Z η (R ++ (sroots S.v σ ++ mroots S.μ η)) C
def Asn (K : PySem.W.Frag) (mg : Str → Option Value) (F : Frm) (R : Roots) (S : AS) (σ : L2.St) (H : Hp) : Prop := ∃ Z η C, AsnC K mg F R S σ H Z η C

/-! ### slots -/
theorem sroots_get : ∀ {s : List (Option OD)} {σ : L2.St} {i : Nat} {x : OD} {v : V}, s[i]? = some (some x) → σ[i]? = some (some v) → (sroots s σ).Perm ((x, v) :: sroots (s.set i none) σ)
  | [], _, _, _, _, h, _ => by simp at h
  | _ :: _, [], _, _, _, _, h => by simp at h
  | y :: s, w :: σ, 0, x, v, h1, h2 => by
    simp at h1 h2; subst h1; subst h2
    simp [sroots]
  | y :: s, w :: σ, i + 1, x, v, h1, h2 => by
    have ih := sroots_get (s := s) (σ := σ) (i := i) (x := x) (v := v) (by simpa using h1) (by simpa using h2)
    cases y with
    | none => simpa [sroots] using ih
    | some y =>
      cases w with
      | none => simpa [sroots] using ih
      | some w =>
        simp only [sroots, List.set_cons_succ]
        exact (ih.cons (y, w)).trans (.swap _ _ _)
theorem sroots_set : ∀ {s : List (Option OD)} {σ : L2.St} {i : Nat} {x : OD} {v : V}, i < s.length → i < σ.length → (sroots (s.set i (some x)) (σ.set i (some v))).Perm ((x, v) :: sroots (s.set i none) σ)
  | [], _, _, _, _, h, _ => by simp at h
  | _ :: _, [], _, _, _, _, h => by simp at h
  | y :: s, w :: σ, 0, x, v, h1, h2 => by simp [sroots]
  | y :: s, w :: σ, i + 1, x, v, h1, h2 => by
    have ih := sroots_set (s := s) (σ := σ) (i := i) (x := x) (v := v) (by simpa using h1) (by simpa using h2)
    cases y with
    | none => simpa [sroots] using ih
    | some y =>
      cases w with
      | none => simpa [sroots] using ih
      | some w =>
        simp only [sroots, List.set_cons_succ]
        exact (ih.cons (y, w)).trans (.swap _ _ _)
/-- what is dropped -/
theorem sroots_drop : ∀ {s : List (Option OD)} {σ : L2.St} {i : Nat}, i < s.length → i < σ.length → ∃ E : Roots, (sroots s σ).Perm (E ++ sroots (s.set i none) σ)
  | [], _, _, h, _ => by simp at h
  | _ :: _, [], _, _, h => by simp at h
  | y :: s, w :: σ, 0, h1, h2 => by
    cases y with
    | none => exact ⟨[], by simp [sroots]⟩
    | some y =>
      cases w with
      | none => exact ⟨[], by simp [sroots]⟩
      | some w => exact ⟨[(y, w)], by simp [sroots]⟩
  | y :: s, w :: σ, i + 1, h1, h2 => by
    obtain ⟨E, ih⟩ := sroots_drop (s := s) (σ := σ) (i := i) (by simpa using h1) (by simpa using h2)
    cases y with
    | none => exact ⟨E, by simpa [sroots] using ih⟩
    | some y =>
      cases w with
      | none => exact ⟨E, by simpa [sroots] using ih⟩
      | some w =>
        refine ⟨E, ?_⟩
        simp only [sroots, List.set_cons_succ]
        exact (ih.cons (y, w)).trans List.perm_middle.symm
theorem SlotOk.set {s : List (Option OD)} {σ : L2.St} (h : SlotOk s σ) (i : Nat) (x : OD) (v : V) : SlotOk (s.set i (some x)) (σ.set i (some v)) := by
  refine ⟨by simpa using h.1, fun j y e => ?_⟩
  by_cases hj : j = i
  · subst hj
    have hl : j < (s.set j (some x)).length := (List.getElem?_eq_some_iff.mp e).1
    have : j < σ.length := by rw [← h.1]; simpa using hl
    exact ⟨v, by simp [this]⟩
  · rw [List.getElem?_set_ne (Ne.symm hj)] at e ⊢
    exact h.2 j y e
theorem SlotOk.clear {s : List (Option OD)} {σ : L2.St} (h : SlotOk s σ) (i : Nat) : SlotOk (s.set i none) σ := by
  refine ⟨by simpa using h.1, fun j y e => ?_⟩
  by_cases hj : j = i
  · subst hj
    have hl : j < (s.set j none).length := (List.getElem?_eq_some_iff.mp e).1
    rw [List.getElem?_set_self (by simpa using hl)] at e
    cases e
  · rw [List.getElem?_set_ne (Ne.symm hj)] at e
    exact h.2 j y e

/-! ### moves between roots -/
theorem perm_count {α : Type} {l l' : List α} (h : ∀ [DecidableEq α] (a : α), l.count a = l'.count a) : l.Perm l' := by
  classical
  exact List.perm_iff_count.mpr fun a => h a
section
variable {K : PySem.W.Frag} {mg : Str → Option Value} {F : Frm} {R R' : Roots} {S S' : AS} {σ σ' : L2.St} {H H' Z Z' : Hp} {η η' : List Addr} {C C' : Cl}
/-- the same cells under other roots -/
theorem AsnC.re (h : AsnC K mg F R S σ H Z η C) (sl : SlotOk S'.v σ') (ml : MuOk S'.μ η F.η0) (r : RepR K mg Z η (R' ++ (sroots S'.v σ' ++ mroots S'.μ η)) C') (sub : ∃ E, C.Perm (E ++ C')) : AsnC K mg F R' S' σ' H Z η C' := by
  obtain ⟨E, p⟩ := sub
  refine ⟨h.z0, h.e0, h.zh, h.fr, h.zn, fun q hq => h.cw q (p.mem_iff.mpr (List.mem_append_right _ hq)), ?_, sl, ml, r⟩
  have n := (p.map (·.1)).nodup_iff.mp h.nd
  rw [List.map_append] at n
  exact (List.nodup_append.mp n).2.1
/-- roots exchanged, some dropped -/
theorem AsnC.perm (h : AsnC K mg F R S σ H Z η C) (sl : SlotOk S'.v σ') (ml : MuOk S'.μ η F.η0) {E : Roots} (p : (R ++ (sroots S.v σ ++ mroots S.μ η)).Perm (E ++ (R' ++ (sroots S'.v σ' ++ mroots S'.μ η)))) : ∃ C', AsnC K mg F R' S' σ' H Z η C' := by
  obtain ⟨C1, r1, p1⟩ := h.rep.perm p
  obtain ⟨C2, C3, rfl, r2, r3⟩ := r1.split
  exact ⟨C3, h.re sl ml r3 ⟨C2, p1⟩⟩
theorem Asn.perm (h : Asn K mg F R S σ H) (sl : SlotOk S.v σ → SlotOk S'.v σ') (hμ : S'.μ = S.μ) {E : Roots} (p : ∀ η, (R ++ (sroots S.v σ ++ mroots S.μ η)).Perm (E ++ (R' ++ (sroots S'.v σ' ++ mroots S.μ η)))) : Asn K mg F R' S' σ' H := by
  obtain ⟨Z, η, C, h⟩ := h
  obtain ⟨C', h'⟩ := h.perm (S' := S') (sl h.sl) (hμ ▸ h.ml) (by rw [hμ]; exact p η)
  exact ⟨Z, η, C', h'⟩
/-- a temporary is dropped -/
theorem Asn.drop {x : OD × V} (h : Asn K mg F (x :: R) S σ H) : Asn K mg F R S σ H := h.perm (E := [x]) (fun z => z) rfl fun _ => .refl _
theorem Asn.dropN : ∀ {R0 : Roots}, Asn K mg F (R0 ++ R) S σ H → Asn K mg F R S σ H
  | [], h => h
  | _ :: R0, h => Asn.dropN (R0 := R0) h.drop
theorem Asn.tperm (h : Asn K mg F R S σ H) (p : R.Perm R') : Asn K mg F R' S σ H := h.perm (E := []) (fun z => z) rfl fun _ => p.append_right _
/-- a temporary goes to a slot -/
theorem Asn.store {x : OD} {v : V} {i : Nat} (h : Asn K mg F ((x, v) :: R) S σ H) (hi : i < S.v.length) : Asn K mg F R { S with v := S.v.set i (some x) } (σ.set i (some v)) H := by
  have hs : i < σ.length := by obtain ⟨_, _, _, h⟩ := h; rw [← h.sl.1]; exact hi
  obtain ⟨E, p⟩ := sroots_drop hi hs
  refine h.perm (E := E) (fun z => z.set i x v) rfl fun η => ?_
  have p2 := sroots_set (x := x) (v := v) hi hs
  -- (x,v) :: R ++ (sr ++ m)  ~  E ++ (R ++ (sr' ++ m))
  have a1 : (((x, v) :: R) ++ (sroots S.v σ ++ mroots S.μ η)).Perm (((x, v) :: R) ++ ((E ++ sroots (S.v.set i none) σ) ++ mroots S.μ η)) := (p.append_right _).append_left _
  refine a1.trans ?_
  have a2 : (E ++ (R ++ (sroots (S.v.set i (some x)) (σ.set i (some v)) ++ mroots S.μ η))).Perm (E ++ (R ++ (((x, v) :: sroots (S.v.set i none) σ) ++ mroots S.μ η))) := ((p2.append_right _).append_left _).append_left _
  refine List.Perm.trans ?_ a2.symm
  refine perm_count fun q => ?_
  simp only [List.count_append, List.count_cons, List.cons_append]
  omega
/-- a slot that is given up -/
theorem Asn.forget {i : Nat} (h : Asn K mg F R S σ H) : Asn K mg F R { S with v := S.v.set i none } σ H := by
  by_cases hi : i < S.v.length
  · have hs : i < σ.length := by obtain ⟨_, _, _, h⟩ := h; rw [← h.sl.1]; exact hi
    obtain ⟨E, p⟩ := sroots_drop hi hs
    refine h.perm (E := E) (fun z => z.clear i) rfl fun η => ?_
    refine ((p.append_right _).append_left _).trans ?_
    refine perm_count fun q => ?_
    simp only [List.count_append]
    omega
  · rw [List.set_eq_of_length_le (by omega)]
    exact h

/-! ### temporaries that are trees -/
theorem AsnC.addD {x : D} {v : V} (h : AsnC K mg F R S σ H Z η C) (r : Rep K mg Z η x v) : AsnC K mg F ((.d x, v) :: R) S σ H Z η C :=
  ⟨h.z0, h.e0, h.zh, h.fr, h.zn, h.cw, h.nd, h.sl, h.ml, RepR.cons (C1 := []) (.d r) h.rep⟩
theorem AsnC.takeD {x : D} {v : V} (h : AsnC K mg F ((.d x, v) :: R) S σ H Z η C) : Rep K mg Z η x v ∧ AsnC K mg F R S σ H Z η C := by
  obtain ⟨C1, C2, e, h1, h2⟩ := RepR.uncons h.rep
  cases h1 with
  | d h1 => subst e; exact ⟨h1, h.z0, h.e0, h.zh, h.fr, h.zn, h.cw, h.nd, h.sl, h.ml, h2⟩
/-- a new object, never to be changed -/
theorem AsnC.newZ {p : Addr} {o : HO} (h : AsnC K mg F R S σ H Z η C) (hp : H p = none) : AsnC K mg F R S σ (upd H p o) (upd Z p o) η C := by
  have zp : Z p = none := Same.free h.zh hp
  have sz : Same Z (upd Z p o) := fun b u e => by rw [upd_ne (ne_of_none e zp)]; exact e
  have sh : Same H (upd H p o) := fun b u e => by rw [upd_ne (ne_of_none e hp)]; exact e
  refine ⟨h.z0.trans sz, h.e0, fun b u e => ?_, fun a u e w => sh _ _ (h.fr a u e w), fun a u e => ?_, fun q hq => ?_, h.nd, h.sl, h.ml, h.rep.mono sz (List.prefix_refl _)⟩
  · by_cases hb : b = p
    · subst hb; rw [upd_same] at e ⊢; exact e
    · rw [upd_ne hb] at e ⊢; exact h.zh b u e
  · by_cases ha : a = p
    · subst ha
      by_cases w : F.W a
      · exact .inr (.inl w)
      · refine .inr (.inr ?_)
        cases q : F.H0 a with
        | none => rfl
        | some u' => rw [h.fr a u' q w] at hp; cases hp
    · rw [upd_ne ha] at e; exact h.zn a u e
  · obtain ⟨a1, a2, a3⟩ := h.cw q hq
    exact ⟨sh _ _ a1, by rw [upd_ne (ne_of_none a1 hp)]; exact a2, a3⟩
theorem same_upd {H : Hp} {p : Addr} {o : HO} (hp : H p = none) : Same H (upd H p o) := fun b u e => by rw [upd_ne (ne_of_none e hp)]; exact e
/-- a new object that is owned -/
theorem AsnC.newC {p : Addr} {o : HO} {v : V} {x : OD} {R0 : Roots} {C0 C1 : Cl} (h : AsnC K mg F (R0 ++ R) S σ H Z η (C0 ++ C1)) (hp : H p = none) (h0 : RepR K mg Z η R0 C0) (h1 : RepR K mg Z η (R ++ (sroots S.v σ ++ mroots S.μ η)) C1)
    (hx : RepO K mg Z η x v ((p, o) :: C0)) : AsnC K mg F ((x, v) :: R) S σ (upd H p o) Z η (((p, o) :: C0) ++ C1) := by
  have sh := same_upd (o := o) hp
  have zp : Z p = none := Same.free h.zh hp
  refine ⟨h.z0, h.e0, h.zh.trans sh, fun a u e w => sh _ _ (h.fr a u e w), h.zn, fun q hq => ?_, ?_, h.sl, h.ml, RepR.cons hx h1⟩
  · rcases List.mem_cons.mp hq with e | hq
    · subst e
      refine ⟨upd_same, zp, ?_⟩
      by_cases w : F.W p
      · exact .inl w
      · refine .inr ?_
        cases q : F.H0 p with
        | none => rfl
        | some u' => rw [h.fr p u' q w] at hp; cases hp
    · obtain ⟨a1, a2, a3⟩ := h.cw q hq
      exact ⟨sh _ _ a1, a2, a3⟩
  · rw [List.cons_append, List.map_cons, List.nodup_cons]
    refine ⟨fun hm => ?_, h.nd⟩
    obtain ⟨q, hq, e⟩ := List.mem_map.mp hm
    obtain ⟨a1, _, _⟩ := h.cw q hq
    rw [e, hp] at a1; cases a1

/-- temporaries of several values -/
def tz (xs : List OD) (vs : List V) : Roots := xs.zip vs
theorem RepR.tz {xs : List OD} {vs : List V} {C : Cl} (e : vs.length = xs.length) (h : RepR K mg Z η (tz xs vs) C) : RepOs K mg Z η xs vs C := by
  unfold RepR Mi.tz at h
  rw [List.map_fst_zip (by omega), List.map_snd_zip (by omega)] at h
  exact h
theorem RepR.of_tz {xs : List OD} {vs : List V} {C : Cl} (h : RepOs K mg Z η xs vs C) : RepR K mg Z η (Mi.tz xs vs) C := by
  have e := h.length
  unfold RepR Mi.tz
  rw [List.map_fst_zip (by omega), List.map_snd_zip (by omega)]
  exact h
theorem AsnC.takeDs {xs : List D} {vs : List V} (e : vs.length = xs.length) (h : AsnC K mg F (tz (xs.map .d) vs ++ R) S σ H Z η C) : Reps K mg Z η xs vs ∧ AsnC K mg F R S σ H Z η C := by
  have hr := h.rep
  rw [List.append_assoc] at hr
  obtain ⟨C1, C2, e1, h1, h2⟩ := hr.split
  obtain ⟨r, e2⟩ := RepOs.ds (RepR.tz (by simpa using e) h1)
  subst e2; subst e1
  exact ⟨r, h.z0, h.e0, h.zh, h.fr, h.zn, h.cw, h.nd, h.sl, h.ml, h2⟩
theorem AsnC.addDs {xs : List D} {vs : List V} (h : AsnC K mg F R S σ H Z η C) (r : Reps K mg Z η xs vs) : AsnC K mg F (tz (xs.map .d) vs ++ R) S σ H Z η C := by
  refine ⟨h.z0, h.e0, h.zh, h.fr, h.zn, h.cw, h.nd, h.sl, h.ml, ?_⟩
  rw [List.append_assoc]
  exact RepR.app (C := []) (RepR.of_tz r.os) h.rep

/-! ### freezing -/
mutual
def OD.toD : OD → Option D
  | .d x => some x
  | .own xs => (OD.toDs xs).map .lst
  | .odk kvs => (OD.toDk kvs).map .dct
  | .ins _ _ => none
def OD.toDs : List OD → Option (List D)
  | [] => some []
  | x :: xs => match OD.toD x, OD.toDs xs with
    | some y, some ys => some (y :: ys)
    | _, _ => none
def OD.toDk : List (Key × OD) → Option (List (Key × D))
  | [] => some []
  | (k, x) :: xs => match OD.toD x, OD.toDk xs with
    | some y, some ys => some ((k, y) :: ys)
    | _, _ => none
end
theorem toDs_map (xs : List D) : OD.toDs (xs.map .d) = some xs := by
  induction xs with
  | nil => rfl
  | cons x xs ih => simp [OD.toDs, OD.toD, ih]
theorem toD_own (xs : List D) : OD.toD (.own (xs.map .d)) = some (.lst xs) := by simp [OD.toD, toDs_map]
mutual
theorem RepO.toD {Z' : Hp} (hz : Same Z Z') : ∀ {x : OD} {v : V} {C : Cl} {y : D}, RepO K mg Z η x v C → OD.toD x = some y → (∀ p ∈ C, Z' p.1 = some p.2) → Rep K mg Z' η y v
  | _, _, _, y, .d h, e, hc => by
    simp [OD.toD] at e; subst e
    exact h.mono hz (List.prefix_refl _)
  | _, _, _, y, .own (xs := xs) r, e, hc => by
    simp only [OD.toD, Option.map_eq_some_iff] at e
    obtain ⟨ys, e1, rfl⟩ := e
    exact .lst (hc _ List.mem_cons_self) (RepOs.toD hz r e1 fun p hp => hc p (List.mem_cons_of_mem _ hp))
  | _, _, _, y, .odk (kvs := xs) r, e, hc => by
    simp only [OD.toD, Option.map_eq_some_iff] at e
    obtain ⟨ys, e1, rfl⟩ := e
    exact .dct (hc _ List.mem_cons_self) (RepOk.toD hz r e1 fun p hp => hc p (List.mem_cons_of_mem _ hp))
  | _, _, _, y, .ins _ _, e, hc => by simp [OD.toD] at e
theorem RepOs.toD {Z' : Hp} (hz : Same Z Z') : ∀ {x : List OD} {v : List V} {C : Cl} {y : List D}, RepOs K mg Z η x v C → OD.toDs x = some y → (∀ p ∈ C, Z' p.1 = some p.2) → Reps K mg Z' η y v
  | _, _, _, y, .nil, e, hc => by simp [OD.toDs] at e; subst e; exact .nil
  | _, _, _, y, .cons (x := x) (xs := xs) h r, e, hc => by
    simp only [OD.toDs] at e
    cases e1 : OD.toD x with
    | none => rw [e1] at e; simp at e
    | some a =>
      cases e2 : OD.toDs xs with
      | none => rw [e1, e2] at e; simp at e
      | some as =>
        rw [e1, e2] at e; simp at e; subst e
        exact .cons (RepO.toD hz h e1 fun p hp => hc p (List.mem_append_left _ hp)) (RepOs.toD hz r e2 fun p hp => hc p (List.mem_append_right _ hp))
theorem RepOk.toD {Z' : Hp} (hz : Same Z Z') : ∀ {x : List (Key × OD)} {v : List (Key × V)} {C : Cl} {y : List (Key × D)}, RepOk K mg Z η x v C → OD.toDk x = some y → (∀ p ∈ C, Z' p.1 = some p.2) → RepK K mg Z' η y v
  | _, _, _, y, .nil, e, hc => by simp [OD.toDk] at e; subst e; exact .nil
  | _, _, _, y, .cons (k := k) (x := x) (xs := xs) h r, e, hc => by
    simp only [OD.toDk] at e
    cases e1 : OD.toD x with
    | none => rw [e1] at e; simp at e
    | some a =>
      cases e2 : OD.toDk xs with
      | none => rw [e1, e2] at e; simp at e
      | some as =>
        rw [e1, e2] at e; simp at e; subst e
        exact .cons (RepO.toD hz h e1 fun p hp => hc p (List.mem_append_left _ hp)) (RepOk.toD hz r e2 fun p hp => hc p (List.mem_append_right _ hp))
end
/-- the frozen part with some cells more -/
def ovl (C : Cl) (Z : Hp) : Hp := fun a => (C.find? fun p => p.1 == a).elim (Z a) fun p => some p.2
theorem ovl_mem {C : Cl} {Z : Hp} (nd : (C.map (·.1)).Nodup) {p : Addr × HO} (hp : p ∈ C) : ovl C Z p.1 = some p.2 := by
  unfold ovl
  induction C with
  | nil => cases hp
  | cons q C ih =>
    rw [List.map_cons, List.nodup_cons] at nd
    by_cases e : q.1 = p.1
    · rcases List.mem_cons.mp hp with z | z
      · subst z; simp
      · exact absurd (List.mem_map.mpr ⟨p, z, rfl⟩) (e ▸ nd.1)
    · rcases List.mem_cons.mp hp with z | z
      · subst z; exact absurd rfl e
      · rw [List.find?_cons_of_neg (by simpa using e)]
        exact ih nd.2 z
theorem ovl_out {C : Cl} {Z : Hp} {a : Addr} (h : ∀ p ∈ C, p.1 ≠ a) : ovl C Z a = Z a := by
  unfold ovl
  rw [List.find?_eq_none.mpr (fun p hp => by simpa using h p hp)]
  rfl
theorem ovl_cases {C : Cl} {Z : Hp} {a : Addr} {o : HO} (e : ovl C Z a = some o) : (∃ p ∈ C, p.1 = a ∧ p.2 = o) ∨ Z a = some o := by
  unfold ovl at e
  cases q : C.find? fun p => p.1 == a with
  | none => rw [q] at e; exact .inr e
  | some p =>
    rw [q] at e
    have h1 := List.find?_some q
    exact .inl ⟨p, List.mem_of_find?_eq_some q, by simpa using h1, by simpa using e⟩
theorem Asn.freeze {x : OD} {y : D} {v : V} (h : Asn K mg F ((x, v) :: R) S σ H) (e : x.toD = some y) : Asn K mg F ((.d y, v) :: R) S σ H := by
  obtain ⟨Z, η, C, h⟩ := h
  obtain ⟨C1, C2, e1, h1, h2⟩ := RepR.uncons h.rep
  subst e1
  have nd := h.nd
  rw [List.map_append] at nd
  obtain ⟨nd1, nd2, nd3⟩ := List.nodup_append.mp nd
  have sz : Same Z (ovl C1 Z) := fun a o q => by
    rw [ovl_out]; exact q
    intro p hp ea
    obtain ⟨_, z, _⟩ := h.cw p (List.mem_append_left _ hp)
    rw [ea, q] at z; cases z
  refine ⟨ovl C1 Z, η, C2, h.z0.trans sz, h.e0, fun a o q => ?_, h.fr, fun a o q => ?_, fun p hp => ?_, nd2, h.sl, h.ml, ?_⟩
  · rcases ovl_cases q with ⟨p, hp, rfl, rfl⟩ | q
    · exact (h.cw p (List.mem_append_left _ hp)).1
    · exact h.zh a o q
  · rcases ovl_cases q with ⟨p, hp, rfl, rfl⟩ | q
    · exact .inr (h.cw p (List.mem_append_left _ hp)).2.2
    · exact h.zn a o q
  · obtain ⟨a1, a2, a3⟩ := h.cw p (List.mem_append_right _ hp)
    refine ⟨a1, ?_, a3⟩
    rw [ovl_out]; exact a2
    intro q hq ea
    exact nd3 _ (List.mem_map.mpr ⟨q, hq, rfl⟩) _ (List.mem_map.mpr ⟨p, hp, rfl⟩) ea
  · exact RepR.cons (C1 := []) (.d (h1.toD sz e fun p hp => ovl_mem nd1 hp)) (h2.mono sz (List.prefix_refl _))
end
end Mi
end
section
set_option Elab.async false
set_option linter.all false
set_option maxRecDepth 100000
set_option maxHeartbeats 2000000
/-! Mi2: results, readings, expressions. -/
namespace Mi
open PySem PySem.Spec PyProof.Rows L2

inductive Rs (α : Type) where
  | ok (a : α) (S : AS)
  | ex (c : Str) (fl : List (Str × D)) (S : AS)
  | no
def Rs.bind {α β : Type} (r : Rs α) (f : α → AS → Rs β) : Rs β := match r with
  | .ok a S => f a S
  | .ex c fl S => .ex c fl S
  | .no => .no
@[simp] theorem Rs.bind_ok {α β : Type} {a : α} {S : AS} {f : α → AS → Rs β} : (Rs.ok a S).bind f = f a S := rfl
@[simp] theorem Rs.bind_ex {α β : Type} {c fl} {S : AS} {f : α → AS → Rs β} : (Rs.ex c fl S : Rs α).bind f = .ex c fl S := rfl
@[simp] theorem Rs.bind_no {α β : Type} {f : α → AS → Rs β} : (Rs.no : Rs α).bind f = .no := rfl
abbrev XD := AS → Rs D
abbrev XO := AS → Rs OD
abbrev XT := AS → Rs Bool
abbrev XA := AS → Rs (List D)

section
variable (K : PySem.W.Frag) (mg : Str → Option Value)
mutual
inductive RepX (Z : Hp) (η : List Addr) : List (Str × D) → List (Str × V) → Prop
  | nil : RepX Z η [] []
  | cons {k x v xs vs} : Rep K mg Z η x v → RepX Z η xs vs → RepX Z η ((k, x) :: xs) ((k, v) :: vs)
end
/-- an exception on its way: its class by name, what its own dict holds -/
def ExA (F : Frm) (S : AS) (σ : L2.St) (H : Hp) (c : Str) (fl : List (Str × D)) (cls : Value) (d : Option Addr) : Prop :=
  ∃ Z η C, AsnC K mg F [] S σ H Z η C ∧ (∃ Ca, mg c = some (.ref Ca) ∧ cls = .ref Ca) ∧ match d with
    | none => fl = []
    | some d => ∃ fs, Z d = some (.xd fs) ∧ RepX K mg Z η fl fs
/-- the reading of an expression -/
def Rd (F : Frm) (W : WX) (p : Bool) (A : XD) : TE := fun σ H Q => ∃ R S, Asn K mg F R S σ H ∧ match A S with
  | .ok x S' => ∀ v H', (p = true → Same H H') → Asn K mg F ((.d x, v) :: R) S' σ H' → Q v H'
  | .ex c fl S' => ∀ H' cls d, ExA K mg F S' σ H' c fl cls d → W cls d σ H'
  | .no => False
def RdO (F : Frm) (W : WX) (p : Bool) (A : XO) : TE := fun σ H Q => ∃ R S, Asn K mg F R S σ H ∧ match A S with
  | .ok x S' => ∀ v H', (p = true → Same H H') → Asn K mg F ((x, v) :: R) S' σ H' → Q v H'
  | .ex c fl S' => ∀ H' cls d, ExA K mg F S' σ H' c fl cls d → W cls d σ H'
  | .no => False
def RdT (F : Frm) (W : WX) (p : Bool) (A : XT) : TT := fun σ H Q => ∃ R S, Asn K mg F R S σ H ∧ match A S with
  | .ok x S' => ∀ H', (p = true → Same H H') → Asn K mg F R S' σ H' → Q x H'
  | .ex c fl S' => ∀ H' cls d, ExA K mg F S' σ H' c fl cls d → W cls d σ H'
  | .no => False
def RdA (F : Frm) (W : WX) (p : Bool) (A : XA) : TA := fun σ H Q => ∃ R S, Asn K mg F R S σ H ∧ match A S with
  | .ok xs S' => ∀ vs H', (p = true → Same H H') → vs.length = xs.length → Asn K mg F (tz (xs.map .d) vs ++ R) S' σ H' → Q vs H'
  | .ex c fl S' => ∀ H' cls d, ExA K mg F S' σ H' c fl cls d → W cls d σ H'
  | .no => False
end

section
variable {X : Cx} {F : Frm} {W : WX} {p p1 p2 p3 : Bool}
theorem PE.imp {e : Expr} {t t' : TE} (h : PE X e t) (m : ∀ σ H Q, t' σ H Q → t σ H Q) : PE X e t' := ⟨fun pins s σ H Q I q => h.run pins s σ H Q I (m σ H Q q)⟩
theorem PT.imp {e : Expr} {t t' : TT} (h : PT X e t) (m : ∀ σ H Q, t' σ H Q → t σ H Q) : PT X e t' := ⟨fun pins s σ H Q I q => h.run pins s σ H Q I (m σ H Q q)⟩
theorem PW.imp {e : Expr} {t t' : TT} (h : PW X e t) (m : ∀ σ H Q, t' σ H Q → t σ H Q) : PW X e t' := ⟨fun wh pins s σ H Q I q => h.run wh pins s σ H Q I (m σ H Q q)⟩
theorem PA.imp {es : List Expr} {t t' : TA} (h : PA X es t) (m : ∀ σ H Q, t' σ H Q → t σ H Q) : PA X es t' := ⟨fun pos pins s σ H Q I q => h.run pos pins s σ H Q I (m σ H Q q)⟩
theorem PS.imp {e : Stmt} {t t' : TS} (h : PS X e t) (m : ∀ D σ H, t' D σ H → t D σ H) : PS X e t' := ⟨fun pins s σ H D I q => h.run pins s σ H D I (m D σ H q)⟩
theorem PSs.imp {e : List Stmt} {t t' : TS} (h : PSs X e t) (m : ∀ D σ H, t' D σ H → t D σ H) : PSs X e t' := ⟨fun pins s σ H D I q => h.run pins s σ H D I (m D σ H q)⟩

abbrev E_ (X : Cx) (F : Frm) (W : WX) (e : Expr) (p : Bool) (A : XD) : Prop := PE X e (Rd X.K X.mg F W p A)
abbrev EO_ (X : Cx) (F : Frm) (W : WX) (e : Expr) (p : Bool) (A : XO) : Prop := PE X e (RdO X.K X.mg F W p A)
abbrev ET_ (X : Cx) (F : Frm) (W : WX) (e : Expr) (p : Bool) (A : XT) : Prop := PT X e (RdT X.K X.mg F W p A)
abbrev EW_ (X : Cx) (F : Frm) (W : WX) (e : Expr) (p : Bool) (A : XT) : Prop := PW X e (RdT X.K X.mg F W p A)
abbrev EA_ (X : Cx) (F : Frm) (W : WX) (es : List Expr) (p : Bool) (A : XA) : Prop := PA X es (RdA X.K X.mg F W p A)

/-! ### constants, names -/
def xC (x : D) : XD := fun S => .ok x S
theorem Asn.addS {K : PySem.W.Frag} {mg : Str → Option Value} {R : Roots} {S : AS} {σ : L2.St} {H : Hp} {x : D} {v : V} (h : Asn K mg F R S σ H) (r : ∀ Z η, Rep K mg Z η x v) : Asn K mg F ((.d x, v) :: R) S σ H := by
  obtain ⟨Z, η, C, h⟩ := h
  exact ⟨Z, η, C, h.addD (r Z η)⟩
theorem rd_c {σ : L2.St} {H : Hp} {Q : VK} {x : D} {v : V} (r : ∀ Z η, Rep X.K X.mg Z η x v) (h : Rd X.K X.mg F W p (xC x) σ H Q) : Q v H := by
  obtain ⟨R, S, a, q⟩ := h
  exact q v H (fun _ => Same.refl H) (a.addS r)
theorem e_int {i j pos} : E_ X F W (.Constant (.int i) j pos) true (xC (.int i)) := PE.imp pe_int fun σ H Q h => rd_c (fun _ _ => .int) h
theorem e_bl {i j pos} : E_ X F W (.Constant (.bool i) j pos) true (xC (.bl i)) := PE.imp pe_bl fun σ H Q h => rd_c (fun _ _ => .bl) h
theorem e_non {j pos} : E_ X F W (.Constant .none j pos) true (xC .non) := PE.imp pe_non fun σ H Q h => rd_c (fun _ _ => .non) h
theorem e_str {i j pos} : E_ X F W (.Constant (.str i) j pos) true (xC (.str i)) := PE.imp pe_str fun σ H Q h => rd_c (fun _ _ => .str) h
/-- a module's constant -/
theorem e_gint {x : Str} {pos : Pos} {i : Int} {t : Tok} (hm : X.mg x = some (.int i t)) (hg : Gl X x := by rfl) (hd : (x == ("__debug__" : Str)) = false := by decide) : E_ X F W (.Name x pos) true (xC (.int i)) :=
  PE.imp (pe_glob (v := .int i) hg hm ⟨_, rfl⟩ hd) fun σ H Q h => rd_c (fun _ _ => .int) h
theorem e_gstr {x : Str} {pos : Pos} {i : Str} {t : Tok} (hm : X.mg x = some (.str i t)) (hg : Gl X x := by rfl) (hd : (x == ("__debug__" : Str)) = false := by decide) : E_ X F W (.Name x pos) true (xC (.str i)) :=
  PE.imp (pe_glob (v := .str i) hg hm ⟨_, rfl⟩ hd) fun σ H Q h => rd_c (fun _ _ => .str) h
/-- a name: what it owns is frozen -/
def xV (i : Nat) : XD := fun S => match S.v[i]? with
  | some (some (.d x)) => .ok x S
  | some (some x) => match x.toD with
    | some y => .ok y { S with v := S.v.set i (some (.d y)) }
    | none => .no
  | _ => .no
theorem Asn.slot {K : PySem.W.Frag} {mg : Str → Option Value} {R : Roots} {S : AS} {σ : L2.St} {H : Hp} {x : D} {i : Nat} (h : Asn K mg F R S σ H) (e : S.v[i]? = some (some (.d x))) : ∃ v, σ[i]? = some (some v) ∧ Asn K mg F ((.d x, v) :: R) S σ H := by
  obtain ⟨Z, η, C, h⟩ := h
  obtain ⟨v, ev⟩ := h.sl.2 i _ e
  refine ⟨v, ev, Z, η, C, h.addD ?_⟩
  have p := sroots_get e ev
  obtain ⟨C1, r1, p1⟩ := h.rep.perm ((p.append_right _).append_left R)
  obtain ⟨C2, C3, _, _, r3⟩ := r1.split
  obtain ⟨C4, C5, _, r4, _⟩ := r3.uncons
  cases r4 with
  | d r => exact r
theorem set_self {α : Type} {l : List α} {i : Nat} {x : α} (e : l[i]? = some x) : l.set i x = l := by
  apply List.ext_getElem?
  intro j
  by_cases h : j = i
  · subst h
    rw [List.getElem?_set_self (List.getElem?_eq_some_iff.mp e).1, e]
  · rw [List.getElem?_set_ne (Ne.symm h)]
/-- an owned slot is taken out -/
theorem Asn.takeSlot {K : PySem.W.Frag} {mg : Str → Option Value} {R : Roots} {S : AS} {σ : L2.St} {H : Hp} {x : OD} {i : Nat} (h : Asn K mg F R S σ H) (e : S.v[i]? = some (some x)) : ∃ v, σ[i]? = some (some v) ∧ Asn K mg F ((x, v) :: R) { S with v := S.v.set i none } σ H := by
  have h0 := h
  obtain ⟨_, _, _, h1⟩ := h0
  obtain ⟨v, ev⟩ := h1.sl.2 i _ e
  refine ⟨v, ev, h.perm (E := []) (fun z => z.clear i) rfl fun η => ?_⟩
  refine (((sroots_get e ev).append_right _).append_left R).trans ?_
  exact List.perm_middle
theorem Asn.putSlot {K : PySem.W.Frag} {mg : Str → Option Value} {R : Roots} {S : AS} {σ : L2.St} {H : Hp} {x : OD} {v : V} {i : Nat} (h : Asn K mg F ((x, v) :: R) S σ H) (hi : i < S.v.length) (e : σ[i]? = some (some v)) : Asn K mg F R { S with v := S.v.set i (some x) } σ H := by
  have z := h.store hi
  rw [show σ.set i (some v) = σ from set_self e] at z
  exact z
theorem e_var {x : Str} {pos : Pos} (i : Nat) (hN : X.N[i]? = some x := by rfl) (hv : Vis X.env.scope x := by first | exact Or.inl rfl | exact Or.inr (Or.inl rfl) | exact Or.inr (Or.inr rfl)) (hd : (x == ("__debug__" : Str)) = false := by decide)
    (hcd : (x == ("__classdict__" : Str)) = false := by decide) : E_ X F W (.Name x pos) true (xV i) := by
  refine PE.imp (pe_var hN hv hd hcd) fun σ H Q h => ?_
  obtain ⟨R, S, a, q⟩ := h
  unfold xV at q
  cases e : S.v[i]? with
  | none => rw [e] at q; exact q.elim
  | some o =>
    cases o with
    | none => rw [e] at q; exact q.elim
    | some o =>
      have gen : ∀ y, o.toD = some y → (∀ v H', Same H H' → Asn X.K X.mg F ((.d y, v) :: R) { S with v := S.v.set i (some (.d y)) } σ H' → Q v H') → tVar i σ H Q := fun y hy q => by
        obtain ⟨v, ev, b⟩ := a.takeSlot e
        have hi : i < (S.v.set i none).length := by simpa using (List.getElem?_eq_some_iff.mp e).1
        have c := (b.freeze hy).putSlot (S := { S with v := S.v.set i none }) hi ev
        simp only [List.set_set] at c
        have c' : Asn X.K X.mg F R { S with v := S.v.set i (some (.d y)) } σ H := c
        obtain ⟨v', ev', c2⟩ := c'.slot (i := i) (x := y) (List.getElem?_set_self (List.getElem?_eq_some_iff.mp e).1)
        rw [ev] at ev'; cases ev'
        exact ⟨v, ev, q v H (Same.refl H) c2⟩
      rw [e] at q
      cases o with
      | d x =>
        obtain ⟨v, ev, b⟩ := a.slot e
        exact ⟨v, ev, q v H (fun _ => Same.refl H) b⟩
      | own xs =>
        simp only at q
        cases hy : OD.toD (.own xs) with
        | none => rw [hy] at q; exact q.elim
        | some y => rw [hy] at q; exact gen y hy fun v H' s b => q v H' (fun _ => s) b
      | odk xs =>
        simp only at q
        cases hy : OD.toD (.odk xs) with
        | none => rw [hy] at q; exact q.elim
        | some y => rw [hy] at q; exact gen y hy fun v H' s b => q v H' (fun _ => s) b
      | ins c fl => simp [OD.toD] at q
/-- an own result, frozen -/
def xF (A : XO) : XD := fun S => (A S).bind fun x S' => match x.toD with
  | some y => .ok y S'
  | none => .no
theorem e_fz {e : Expr} {A : XO} (h : EO_ X F W e p A) : E_ X F W e p (xF A) := by
  refine PE.imp h fun σ H Q q => ?_
  obtain ⟨R, S, a, q⟩ := q
  refine ⟨R, S, a, ?_⟩
  unfold xF at q
  cases e : A S with
  | no => rw [e] at q; exact q
  | ex c fl S' => rw [e] at q; exact q
  | ok x S' =>
    rw [e] at q
    simp only [Rs.bind_ok] at q
    cases hy : x.toD with
    | none => rw [hy] at q; exact q.elim
    | some y =>
      rw [hy] at q
      exact fun v H' s b => q v H' s (b.freeze hy)
/-- a tree where an own result may stand -/
def xU (A : XD) : XO := fun S => (A S).bind fun x S' => .ok (.d x) S'
theorem eo_of {e : Expr} {A : XD} (h : E_ X F W e p A) : EO_ X F W e p (xU A) := by
  refine PE.imp h fun σ H Q q => ?_
  obtain ⟨R, S, a, q⟩ := q
  refine ⟨R, S, a, ?_⟩
  unfold xU at q
  cases e : A S with
  | no => rw [e] at q; exact q
  | ex c fl S' => rw [e] at q; exact q
  | ok x S' => rw [e] at q; exact q

/-! ### a generic step: one reading behind another -/
theorem rd_elim {σ : L2.St} {H : Hp} {Q Q' : VK} {A : XD} {B : D → AS → Rs D} (h : Rd X.K X.mg F W p (fun S => (A S).bind B) σ H Q)
    (f : ∀ R S x S', Asn X.K X.mg F R S σ H → A S = .ok x S' → (match B x S' with
      | .ok y S2 => ∀ v H', (p = true → Same H H') → Asn X.K X.mg F ((.d y, v) :: R) S2 σ H' → Q v H'
      | .ex c fl S2 => ∀ H' cls d, ExA X.K X.mg F S2 σ H' c fl cls d → W cls d σ H'
      | .no => False) → ∀ v H', (p1 = true → Same H H') → Asn X.K X.mg F ((.d x, v) :: R) S' σ H' → Q' v H') : Rd X.K X.mg F W p1 A σ H Q' := by
  obtain ⟨R, S, a, q⟩ := h
  refine ⟨R, S, a, ?_⟩
  cases e : A S with
  | no => simp only [e, Rs.bind_no] at q
  | ex c fl S' => simp only [e, Rs.bind_ex] at q; exact q
  | ok x S' =>
    simp only [e, Rs.bind_ok] at q
    exact f R S x S' a e q
end
end Mi
end
section
set_option Elab.async false
set_option linter.all false
set_option maxRecDepth 100000
set_option maxHeartbeats 2000000
/-! Mi3: operators, comparisons, tests. -/
namespace Mi
open PySem PySem.Spec PyProof.Rows L2

/-! ### what an operand is: a tree, or an own list looked at (its items are trees) -/
section
variable (K : PySem.W.Frag) (mg : Str → Option Value) (H Z : Hp) (η : List Addr)
inductive RepT : D → V → Prop
  | of {x v} : Rep K mg Z η x v → RepT x v
  | lst {xs vs a} : H a = some (.lst vs) → Reps K mg Z η xs vs → RepT (.lst xs) (.ref a)
  | dct {xs vs a} : H a = some (.dK vs) → RepK K mg Z η xs vs → RepT (.dct xs) (.ref a)
end
section
variable {K : PySem.W.Frag} {mg : Str → Option Value} {H Z : Hp} {η : List Addr} {v : V}
theorem RepT.isInt {i : Int} (h : RepT K mg H Z η (.int i) v) : v = .int i := by
  cases h with
  | of h => cases h; rfl
theorem RepT.isStr {i : Str} (h : RepT K mg H Z η (.str i) v) : v = .str i := by
  cases h with
  | of h => cases h; rfl
theorem RepT.isBl {i : Bool} (h : RepT K mg H Z η (.bl i) v) : v = .bl i := by
  cases h with
  | of h => cases h; rfl
theorem RepT.isNon (h : RepT K mg H Z η .non v) : v = .non := by
  cases h with
  | of h => cases h; rfl
theorem RepT.isLst {xs : List D} (z : Same Z H) (h : RepT K mg H Z η (.lst xs) v) : ∃ a vs, v = .ref a ∧ H a = some (.lst vs) ∧ Reps K mg Z η xs vs := by
  cases h with
  | of h =>
    cases h with
    | lst hz r => exact ⟨_, _, rfl, z _ _ hz, r⟩
  | lst hh r => exact ⟨_, _, rfl, hh, r⟩
theorem RepT.isDct {xs : List (Key × D)} (z : Same Z H) (h : RepT K mg H Z η (.dct xs) v) : ∃ a vs, v = .ref a ∧ H a = some (.dK vs) ∧ RepK K mg Z η xs vs := by
  cases h with
  | of h =>
    cases h with
    | dct hz r => exact ⟨_, _, rfl, z _ _ hz, r⟩
  | dct hh r => exact ⟨_, _, rfl, hh, r⟩
theorem RepT.isScr {xs : List D} (z : Same Z H) (h : RepT K mg H Z η (.scr xs) v) : ∃ a vs, v = .ref a ∧ SqL K H a vs ∧ Reps K mg Z η xs vs := by
  cases h with
  | of h =>
    cases h with
    | scr hz r => exact ⟨_, _, rfl, z.seq hz, r⟩
theorem RepT.isTup {xs : List D} (z : Same Z H) (h : RepT K mg H Z η (.tup xs) v) : ∃ a vs, v = .ref a ∧ SqT K H a vs ∧ Reps K mg Z η xs vs ∧ Rep K mg Z η (.tup xs) v := by
  cases h with
  | of h =>
    have h0 := h
    cases h with
    | tup hz r => exact ⟨_, _, rfl, SqT_same z hz, r, h0⟩
end

/-! ### two operands -/
def xB (g : D → D → Option D) (A B : XD) : XD := fun S => (A S).bind fun x S1 => (B S1).bind fun y S2 => match g x y with
  | some z => .ok z S2
  | none => .no
section
variable {X : Cx} {F : Frm} {W : WX} {p p1 p2 p3 : Bool} {a b c : Expr} {A B C : XD} {pos : Pos}

theorem rd2 {g : D → D → Option D} {r : R2} {σ : L2.St} {H : Hp} {Q : VK} (h : Rd X.K X.mg F W (p1 && p2) (xB g A B) σ H Q)
    (f : ∀ R S x y z v w H' Z η C, AsnC X.K X.mg F R S σ H' Z η C → RepT X.K X.mg H' Z η x v → RepT X.K X.mg H' Z η y w → g x y = some z → (∀ u H'', Same H' H'' → Asn X.K X.mg F ((.d z, u) :: R) S σ H'' → Q u H'') → r v w H' Q) :
    Rd X.K X.mg F W p1 A σ H fun v H1 => Rd X.K X.mg F W p2 B σ H1 fun w H2 => r v w H2 Q := by
  refine rd_elim h fun R S x S' a e q v H1 s1 a1 => ⟨_, _, a1, ?_⟩
  cases e2 : B S' with
  | no => simp only [e2, Rs.bind_no] at q
  | ex c fl S2 => simp only [e2, Rs.bind_ex] at q; exact q
  | ok y S2 =>
    simp only [e2, Rs.bind_ok] at q
    intro w H2 s2 a2
    cases e3 : g x y with
    | none => simp only [e3] at q
    | some z =>
      simp only [e3] at q
      obtain ⟨Z, η, C, b⟩ := a2
      obtain ⟨ry, b1⟩ := b.takeD
      obtain ⟨rx, b2⟩ := b1.takeD
      refine f R S2 x y z v w H2 Z η C b2 (.of rx) (.of ry) e3 fun u H3 s3 a3 => q u H3 (fun hp => ?_) a3
      rw [Bool.and_eq_true] at hp
      exact (s1 hp.1).trans ((s2 hp.2).trans s3)

/-- an operator: its rule of the layer, what it gives of trees -/
def OpG (X : Cx) (f : Value → Value → Sem Value) (g : D → D → Option D) : Prop := ∃ r, OpR X f r ∧ ∀ F R S σ H Z η C x y z v w Q, AsnC X.K X.mg F R S σ H Z η C → RepT X.K X.mg H Z η x v → RepT X.K X.mg H Z η y w → g x y = some z → (∀ u H', Same H H' → Asn X.K X.mg F ((.d z, u) :: R) S σ H' → Q u H') → r v w H Q
theorem e_bin {op : Operator} {g : D → D → Option D} (ho : OpG X (binaryOp op) g) (ha : E_ X F W a p1 A) (hb : E_ X F W b p2 B) : E_ X F W (.BinOp a op b pos) (p1 && p2) (xB g A B) := by
  obtain ⟨r, hr, hf⟩ := ho
  exact PE.imp (pe_op hr ha hb) fun σ H Q h => rd2 h fun R S x y z v w H' Z η C a rx ry e k => hf F R S σ H' Z η C x y z v w Q a rx ry e k
theorem e_cmp {op : CmpOp} {g : D → D → Option D} (ho : OpG X (compareOp op) g) (ha : E_ X F W a p1 A) (hb : E_ X F W b p2 B) (hm : behindInMarks op b = false := by exact nomark _) : E_ X F W (.Compare a [op] [b] pos) (p1 && p2) (xB g A B) := by
  obtain ⟨r, hr, hf⟩ := ho
  exact PE.imp (pe_cmpR hr ha hb hm) fun σ H Q h => rd2 h fun R S x y z v w H' Z η C a rx ry e k => hf F R S σ H' Z η C x y z v w Q a rx ry e k

/-- a bool as a test -/
def xT (A : XD) : XT := fun S => (A S).bind fun x S' => match x with
  | .bl b => .ok b S'
  | _ => .no
theorem rdT_elim {σ : L2.St} {H : Hp} {Q : Bool → Hp → Prop} (h : RdT X.K X.mg F W p (xT A) σ H Q) : Rd X.K X.mg F W p A σ H fun v H' => ∃ k, v = .bl k ∧ Q k H' := by
  obtain ⟨R, S, a, q⟩ := h
  refine ⟨R, S, a, ?_⟩
  unfold xT at q
  cases e : A S with
  | no => simp only [e, Rs.bind_no] at q
  | ex c fl S' => simp only [e, Rs.bind_ex] at q; exact q
  | ok x S' =>
    simp only [e, Rs.bind_ok] at q
    cases x with
    | bl k =>
      intro v H' s b
      obtain ⟨Z, η, C, b1⟩ := b
      obtain ⟨r, b2⟩ := b1.takeD
      cases r
      exact ⟨k, rfl, q H' s ⟨Z, η, C, b2⟩⟩
    | _ => exact q.elim
theorem t_val {e : Expr} (h : E_ X F W e p A) (he : ∀ whole, isTrue e X.env whole = (do let v ← whole; standAt e.pos; holding [v] (truthy v)) := by intro _; rfl) : ET_ X F W e p (xT A) :=
  PT.imp (pt_val h he) fun σ H Q q => rdT_elim q
theorem t_cmp {op : CmpOp} {g : D → D → Option D} (ho : OpG X (compareOp op) g) (ha : E_ X F W a p1 A) (hb : E_ X F W b p2 B) (hm : behindInMarks op b = false := by exact nomark _) : ET_ X F W (.Compare a [op] [b] pos) (p1 && p2) (xT (xB g A B)) := by
  obtain ⟨r, hr, hf⟩ := ho
  exact PT.imp (pt_cmpR hr ha hb hm) fun σ H Q h => rd2 (rdT_elim h) fun R S x y z v w H' Z η C a rx ry e k => hf F R S σ H' Z η C x y z v w _ a rx ry e k

/-- a op b op' c -/
def xCh (g g' : D → D → Option D) (A B C : XD) : XD := fun S => (A S).bind fun x S1 => (B S1).bind fun y S2 => match g x y with
  | some (.bl true) => (C S2).bind fun z S3 => match g' y z with
    | some u => .ok u S3
    | none => .no
  | some (.bl false) => .ok (.bl false) S2
  | _ => .no
theorem rdCh {g g' : D → D → Option D} {r r' : R2} {σ : L2.St} {H : Hp} {Q : VK} (h : Rd X.K X.mg F W (p1 && p2 && p3) (xCh g g' A B C) σ H Q)
    (f : ∀ R S σ H Z η C x y z v w Q, AsnC X.K X.mg F R S σ H Z η C → RepT X.K X.mg H Z η x v → RepT X.K X.mg H Z η y w → g x y = some z → (∀ u H', Same H H' → Asn X.K X.mg F ((.d z, u) :: R) S σ H' → Q u H') → r v w H Q)
    (f' : ∀ R S σ H Z η C x y z v w Q, AsnC X.K X.mg F R S σ H Z η C → RepT X.K X.mg H Z η x v → RepT X.K X.mg H Z η y w → g' x y = some z → (∀ u H', Same H H' → Asn X.K X.mg F ((.d z, u) :: R) S σ H' → Q u H') → r' v w H Q) :
    tChain r r' (Rd X.K X.mg F W p1 A) (Rd X.K X.mg F W p2 B) (Rd X.K X.mg F W p3 C) σ H Q := by
  refine rd_elim h fun R S x S' a e q v H1 s1 a1 => ⟨_, _, a1, ?_⟩
  cases e2 : B S' with
  | no => simp only [e2, Rs.bind_no] at q
  | ex c fl S2 => simp only [e2, Rs.bind_ex] at q; exact q
  | ok y S2 =>
    simp only [e2, Rs.bind_ok] at q
    intro w H2 s2 a2
    cases e3 : g x y with
    | none => simp only [e3] at q
    | some z =>
      -- y is kept beside
      obtain ⟨Z0, η0, C00, b⟩ := a2
      obtain ⟨ry, b1⟩ := b.takeD
      obtain ⟨rx, b2⟩ := b1.takeD
      refine f ((.d y, w) :: R) S2 σ H2 Z0 η0 C00 x y z v w _ (b2.addD ry) (.of rx) (.of ry) e3 fun u H3 s3 a4 => ?_
      cases z with
      | bl k =>
        obtain ⟨Z, η, C0, a41⟩ := a4
        obtain ⟨rz, a5⟩ := a41.takeD
        cases rz
        refine ⟨k, rfl, ?_⟩
        cases k with
        | true =>
          simp only [e3] at q
          rw [if_pos rfl]
          refine ⟨_, _, ⟨Z, η, C0, a5⟩, ?_⟩
          cases e4 : C S2 with
          | no => simp only [e4, Rs.bind_no] at q
          | ex c fl S3 => simp only [e4, Rs.bind_ex] at q; exact q
          | ok z S3 =>
            simp only [e4, Rs.bind_ok] at q
            intro u H4 s4 a6
            cases e5 : g' y z with
            | none => simp only [e5] at q
            | some t =>
              simp only [e5] at q
              obtain ⟨Z1, η1, C1, b⟩ := a6
              obtain ⟨rz', b1⟩ := b.takeD
              obtain ⟨ry', b2⟩ := b1.takeD
              refine f' R S3 σ H4 Z1 η1 C1 y z t w u Q b2 (.of ry') (.of rz') e5 fun u2 H5 s5 a7 => q u2 H5 (fun hp => ?_) a7
              rw [Bool.and_eq_true, Bool.and_eq_true] at hp
              exact (s1 hp.1.1).trans ((s2 hp.1.2).trans (s3.trans ((s4 hp.2).trans s5)))
        | false =>
          simp only [e3] at q
          rw [if_neg Bool.false_ne_true]
          refine q _ H3 (fun hp => ?_) ?_
          · rw [Bool.and_eq_true, Bool.and_eq_true] at hp
            exact (s1 hp.1.1).trans ((s2 hp.1.2).trans s3)
          · obtain ⟨_, a6⟩ := a5.takeD
            exact ⟨Z, η, C0, a6.addD .bl⟩
      | _ => simp only [e3] at q
theorem e_chain {op op' : CmpOp} {g g' : D → D → Option D} (ho : OpG X (compareOp op) g) (ho' : OpG X (compareOp op') g') (ha : E_ X F W a p1 A) (hb : E_ X F W b p2 B) (hc : E_ X F W c p3 C)
    (hm : lastMarks [op, op'] [b, c] = false := by with_unfolding_all rfl) : E_ X F W (.Compare a [op, op'] [b, c] pos) (p1 && p2 && p3) (xCh g g' A B C) := by
  obtain ⟨r, hr, hf⟩ := ho
  obtain ⟨r', hr', hf'⟩ := ho'
  exact PE.imp (pe_chain hr hr' ha hb hc hm) fun σ H Q h => rdCh h (fun R S σ H Z η C x y z v w Q => hf F R S σ H Z η C x y z v w Q) (fun R S σ H Z η C x y z v w Q => hf' F R S σ H Z η C x y z v w Q)
theorem t_chain {op op' : CmpOp} {g g' : D → D → Option D} (ho : OpG X (compareOp op) g) (ho' : OpG X (compareOp op') g') (ha : E_ X F W a p1 A) (hb : E_ X F W b p2 B) (hc : E_ X F W c p3 C)
    (hm : lastMarks [op, op'] [b, c] = false := by with_unfolding_all rfl) : ET_ X F W (.Compare a [op, op'] [b, c] pos) (p1 && p2 && p3) (xT (xCh g g' A B C)) := by
  obtain ⟨r, hr, hf⟩ := ho
  obtain ⟨r', hr', hf'⟩ := ho'
  refine PT.imp (pt_chain hr hr' ha hb hc hm) fun σ H Q h => ?_
  exact rdCh (rdT_elim h) (fun R S σ H Z η C x y z v w Q => hf F R S σ H Z η C x y z v w Q) (fun R S σ H Z η C x y z v w Q => hf' F R S σ H Z η C x y z v w Q)
end
end Mi
end
section
set_option Elab.async false
set_option linter.all false
set_option maxRecDepth 100000
set_option maxHeartbeats 2000000
/-! Mi4: the operators of trees. -/
namespace Mi
open PySem PySem.Spec PyProof.Rows L2

section
variable {K : PySem.W.Frag} {mg : Str → Option Value} {F : Frm} {R : Roots} {S : AS} {σ : L2.St} {H : Hp} {v : V}
theorem Asn.top {x : D} (h : Asn K mg F ((.d x, v) :: R) S σ H) : ∃ Z η C, Rep K mg Z η x v ∧ AsnC K mg F R S σ H Z η C := by
  obtain ⟨Z, η, C, h⟩ := h
  obtain ⟨r, h⟩ := h.takeD
  exact ⟨Z, η, C, r, h⟩
theorem Asn.isInt {i : Int} (h : Asn K mg F ((.d (.int i), v) :: R) S σ H) : v = .int i := by
  obtain ⟨Z, η, C, r, h⟩ := h.top
  cases r; rfl
theorem Asn.isStr {i : Str} (h : Asn K mg F ((.d (.str i), v) :: R) S σ H) : v = .str i := by
  obtain ⟨Z, η, C, r, h⟩ := h.top
  cases r; rfl
theorem Asn.isBl {i : Bool} (h : Asn K mg F ((.d (.bl i), v) :: R) S σ H) : v = .bl i := by
  obtain ⟨Z, η, C, r, h⟩ := h.top
  cases r; rfl
theorem Asn.isNon (h : Asn K mg F ((.d .non, v) :: R) S σ H) : v = .non := by
  obtain ⟨Z, η, C, r, h⟩ := h.top
  cases r; rfl
/-- a new list of trees, a new tuple -/
theorem Asn.newLst {xs : List D} {vs : List V} {p : Addr} (e : vs.length = xs.length) (h : Asn K mg F (tz (xs.map .d) vs ++ R) S σ H) (hp : H p = none) : Asn K mg F ((.d (.lst xs), .ref p) :: R) S σ (upd H p (.lst vs)) := by
  obtain ⟨Z, η, C, h⟩ := h
  obtain ⟨r, h⟩ := h.takeDs e
  have zp : Z p = none := Same.free h.zh hp
  exact ⟨_, η, C, (h.newZ hp).addD (.lst upd_same (r.mono (same_upd zp) (List.prefix_refl _)))⟩
theorem Asn.newTup {xs : List D} {vs : List V} {p : Addr} (e : vs.length = xs.length) (h : Asn K mg F (tz (xs.map .d) vs ++ R) S σ H) (hp : H p = none) : Asn K mg F ((.d (.tup xs), .ref p) :: R) S σ (upd H p (.tup vs)) := by
  obtain ⟨Z, η, C, h⟩ := h
  obtain ⟨r, h⟩ := h.takeDs e
  have zp : Z p = none := Same.free h.zh hp
  exact ⟨_, η, C, (h.newZ hp).addD (.tup (.of upd_same) (r.mono (same_upd zp) (List.prefix_refl _)))⟩
/-- by the representation of what was there -/
theorem AsnC.newLst {Z : Hp} {η : List Addr} {C : Cl} {xs : List D} {vs : List V} {p : Addr} (h : AsnC K mg F R S σ H Z η C) (r : Reps K mg Z η xs vs) (hp : H p = none) : Asn K mg F ((.d (.lst xs), .ref p) :: R) S σ (upd H p (.lst vs)) := by
  have zp : Z p = none := Same.free h.zh hp
  exact ⟨_, η, C, (h.newZ hp).addD (.lst upd_same (r.mono (same_upd zp) (List.prefix_refl _)))⟩
theorem AsnC.newTup {Z : Hp} {η : List Addr} {C : Cl} {xs : List D} {vs : List V} {p : Addr} (h : AsnC K mg F R S σ H Z η C) (r : Reps K mg Z η xs vs) (hp : H p = none) : Asn K mg F ((.d (.tup xs), .ref p) :: R) S σ (upd H p (.tup vs)) := by
  have zp : Z p = none := Same.free h.zh hp
  exact ⟨_, η, C, (h.newZ hp).addD (.tup (.of upd_same) (r.mono (same_upd zp) (List.prefix_refl _)))⟩
theorem SqT_up {Z H : Hp} {a : Addr} {xs : List V} (z : Same Z H) (h : SqT K Z a xs) : SqT K H a xs := SqT_same z h
end

/-! ### arithmetic -/
def gAdd : D → D → Option D
  | .int i, .int j => some (.int (i + j))
  | .str i, .str j => if i.length + j.length ≤ sizeLine then some (.str (i ++ j)) else none
  | .lst xs, .lst ys => if xs.length + ys.length ≤ sizeLine then some (.lst (xs ++ ys)) else none
  | .tup xs, .tup ys => if xs.length + ys.length ≤ sizeLine then some (.tup (xs ++ ys)) else none
  | _, _ => none
def gSub : D → D → Option D
  | .int i, .int j => some (.int (i - j))
  | _, _ => none
def gMul : D → D → Option D
  | .int i, .int j => if i.natAbs.log2 + j.natAbs.log2 < 1000000 then some (.int (i * j)) else none
  | .lst xs, .int k => if xs.length * k.toNat ≤ sizeLine ∧ -(2 ^ 63) ≤ k ∧ k < 2 ^ 63 then some (.lst (List.replicate k.toNat xs).flatten) else none
  | .str x, .int k => if x.length * k.toNat ≤ sizeLine ∧ -(2 ^ 63) ≤ k ∧ k < 2 ^ 63 ∧ x.length ≤ 1000000 ∧ k ≤ 1000000 then some (.str (Txt.mul x k)) else none
  | _, _ => none
def gDiv : D → D → Option D
  | .int i, .int j => if 0 < j ∧ j.natAbs.log2 < 9000 then some (.int (i / j)) else none
  | _, _ => none
def gMod : D → D → Option D
  | .int i, .int j => if 0 < j then some (.int (i % j)) else none
  | _, _ => none
def gPow : D → D → Option D
  | .int i, .int j => if 0 ≤ j ∧ j ≤ 1000000 ∧ i.natAbs < 2 ^ 64 then some (.int (i ^ j.toNat)) else none
  | _, _ => none
section
variable {X : Cx}
theorem og_add : OpG X (binaryOp .Add) gAdd := by
  refine ⟨_, op_add.or (op_add_str.or (op_cat.or op_catA)), fun F R S σ H Z η C x y z v w Q a hx hy e k => ?_⟩
  cases x with
  | int i =>
    cases y with
    | int j =>
      obtain rfl := hy.isInt
      obtain rfl := hx.isInt
      simp only [gAdd, Option.some.injEq] at e; subst e
      exact .inl ⟨i, j, rfl, rfl, k _ H (Same.refl H) (Asn.addS ⟨Z, η, C, a⟩ fun _ _ => .int)⟩
    | _ => simp [gAdd] at e
  | str i =>
    cases y with
    | str j =>
      obtain rfl := hy.isStr
      obtain rfl := hx.isStr
      simp only [gAdd] at e
      split at e
      · simp only [Option.some.injEq] at e; subst e
        exact .inr (.inl ⟨i, j, rfl, rfl, by assumption, k _ H (Same.refl H) (Asn.addS ⟨Z, η, C, a⟩ fun _ _ => .str)⟩)
      · cases e
    | _ => simp [gAdd] at e
  | lst xs =>
    cases y with
    | lst ys =>
      obtain ⟨pa, vx, rfl, ha, rxs⟩ := hx.isLst a.zh
      obtain ⟨pb, vy, rfl, hb, rys⟩ := hy.isLst a.zh
      simp only [gAdd] at e
      split at e
      · rename_i hl
        simp only [Option.some.injEq] at e; subst e
        refine .inr (.inr (.inl ⟨_, _, _, _, rfl, rfl, ha, hb, by rw [← rxs.length, ← rys.length]; exact hl, fun p hp => ?_⟩))
        exact k _ _ (same_upd hp) (a.newLst (rxs.append rys) hp)
      · cases e
    | _ => simp [gAdd] at e
  | tup xs =>
    cases y with
    | tup ys =>
      obtain ⟨pa, vx, rfl, ha, rxs, hxr⟩ := hx.isTup a.zh
      obtain ⟨pb, vy, rfl, hb, rys, hyr⟩ := hy.isTup a.zh
      simp only [gAdd] at e
      split at e
      · rename_i hl
        simp only [Option.some.injEq] at e; subst e
        have lx := rxs.length
        have ly := rys.length
        refine .inr (.inr (.inr ⟨_, _, _, _, rfl, rfl, ha, hb, by rw [← rxs.length, ← rys.length]; exact hl, fun h0 => ?_, fun _ h0 => ?_, fun _ _ p hp => ?_⟩))
        · subst h0
          rw [List.length_nil] at lx
          obtain rfl := List.eq_nil_of_length_eq_zero lx
          exact k _ H (Same.refl H) ⟨Z, η, C, a.addD hyr⟩
        · subst h0
          rw [List.length_nil] at ly
          obtain rfl := List.eq_nil_of_length_eq_zero ly
          rw [List.append_nil] at k
          exact k _ H (Same.refl H) ⟨Z, η, C, a.addD hxr⟩
        · exact k _ _ (same_upd hp) (a.newTup (rxs.append rys) hp)
      · cases e
    | _ => simp [gAdd] at e
  | _ => cases y <;> simp [gAdd] at e
theorem og_sub : OpG X (binaryOp .Sub) gSub := by
  refine ⟨_, op_sub, fun F R S σ H Z η C x y z v w Q a hx hy e k => ?_⟩
  cases x with
  | int i =>
    cases y with
    | int j =>
      obtain rfl := hy.isInt
      obtain rfl := hx.isInt
      simp only [gSub, Option.some.injEq] at e; subst e
      exact ⟨i, j, rfl, rfl, k _ H (Same.refl H) (Asn.addS ⟨Z, η, C, a⟩ fun _ _ => .int)⟩
    | _ => simp [gSub] at e
  | _ => cases y <;> simp [gSub] at e
theorem og_div : OpG X (binaryOp .FloorDiv) gDiv := by
  refine ⟨_, op_fdivW, fun F R S σ H Z η C x y z v w Q a hx hy e k => ?_⟩
  cases x with
  | int i =>
    cases y with
    | int j =>
      obtain rfl := hy.isInt
      obtain rfl := hx.isInt
      simp only [gDiv] at e
      split at e
      · simp only [Option.some.injEq] at e; subst e
        exact ⟨i, j, rfl, rfl, by assumption, k _ H (Same.refl H) (Asn.addS ⟨Z, η, C, a⟩ fun _ _ => .int)⟩
      · cases e
    | _ => simp [gDiv] at e
  | _ => cases y <;> simp [gDiv] at e
theorem og_mod : OpG X (binaryOp .Mod) gMod := by
  refine ⟨_, op_mod, fun F R S σ H Z η C x y z v w Q a hx hy e k => ?_⟩
  cases x with
  | int i =>
    cases y with
    | int j =>
      obtain rfl := hy.isInt
      obtain rfl := hx.isInt
      simp only [gMod] at e
      split at e
      · simp only [Option.some.injEq] at e; subst e
        exact ⟨i, j, rfl, rfl, by assumption, k _ H (Same.refl H) (Asn.addS ⟨Z, η, C, a⟩ fun _ _ => .int)⟩
      · cases e
    | _ => simp [gMod] at e
  | _ => cases y <;> simp [gMod] at e
theorem og_pow : OpG X (binaryOp .Pow) gPow := by
  refine ⟨_, op_pow, fun F R S σ H Z η C x y z v w Q a hx hy e k => ?_⟩
  cases x with
  | int i =>
    cases y with
    | int j =>
      obtain rfl := hy.isInt
      obtain rfl := hx.isInt
      simp only [gPow] at e
      split at e
      · simp only [Option.some.injEq] at e; subst e
        exact ⟨i, j, rfl, rfl, by assumption, k _ H (Same.refl H) (Asn.addS ⟨Z, η, C, a⟩ fun _ _ => .int)⟩
      · cases e
    | _ => simp [gPow] at e
  | _ => cases y <;> simp [gPow] at e
/-- a text some times -/
def rMulS : R2 := fun x y H Q => ∃ i k, x = .str i ∧ y = .int k ∧ MulOk i k ∧ Q (.str (Txt.mul i k)) H
theorem op_mulS : OpR X (binaryOp .Mult) rMulS := by
  intro pins s σ H x y v u Q I rx ry h
  obtain ⟨i, k, rfl, rfl, ok, q⟩ := h
  obtain ⟨t, rfl⟩ := rx
  obtain ⟨t', rfl⟩ := ry
  exact SB.mul ok fun t2 tk => ⟨.str _, H, I.tok tk, ⟨_, rfl⟩, q⟩
theorem mulOk_of {x : Str} {k : Int} (h : x.length * k.toNat ≤ sizeLine ∧ -(2 ^ 63) ≤ k ∧ k < 2 ^ 63 ∧ x.length ≤ 1000000 ∧ k ≤ 1000000) : MulOk x k := by
  obtain ⟨h1, h2, h3, h4, h5⟩ := h
  refine ⟨?_, fun h _ => ?_, fun _ _ => ?_⟩
  · rw [Bool.or_eq_false_iff]
    exact ⟨decide_eq_false (by omega), decide_eq_false (by omega)⟩
  · intro hg
    have hk : 0 < k := by omega
    have h6 : (1000000 : Int) ≤ (2 ^ 63 - 1) / k := Int.le_ediv_of_mul_le hk (by omega)
    omega
  · unfold Builtin.Str.tooLong
    exact decide_eq_false (by omega)
theorem reps_flat {K : PySem.W.Frag} {mg : Str → Option Value} {Z : Hp} {η : List Addr} {xs : List D} {vs : List V} (r : Reps K mg Z η xs vs) : ∀ n : Nat, Reps K mg Z η (List.replicate n xs).flatten (List.replicate n vs).flatten
  | 0 => by simp; exact .nil
  | n + 1 => by
    rw [List.replicate_succ, List.replicate_succ, List.flatten_cons, List.flatten_cons]
    exact r.append (reps_flat r n)
theorem og_mul : OpG X (binaryOp .Mult) gMul := by
  refine ⟨_, op_mulW.or (op_mulS.or op_rep), fun F R S σ H Z η C x y z v w Q a hx hy e k => ?_⟩
  cases x with
  | int i =>
    cases y with
    | int j =>
      obtain rfl := hy.isInt
      obtain rfl := hx.isInt
      simp only [gMul] at e
      split at e
      · simp only [Option.some.injEq] at e; subst e
        exact .inl ⟨i, j, rfl, rfl, by assumption, k _ H (Same.refl H) (Asn.addS ⟨Z, η, C, a⟩ fun _ _ => .int)⟩
      · cases e
    | _ => simp [gMul] at e
  | str i =>
    cases y with
    | int j =>
      obtain rfl := hy.isInt
      obtain rfl := hx.isStr
      simp only [gMul] at e
      split at e
      · simp only [Option.some.injEq] at e; subst e
        exact .inr (.inl ⟨i, j, rfl, rfl, mulOk_of (by assumption), k _ H (Same.refl H) (Asn.addS ⟨Z, η, C, a⟩ fun _ _ => .str)⟩)
      · cases e
    | _ => simp [gMul] at e
  | lst xs =>
    cases y with
    | int j =>
      obtain rfl := hy.isInt
      obtain ⟨pa, vx, rfl, ha, rxs⟩ := hx.isLst a.zh
      simp only [gMul] at e
      split at e
      · rename_i hl
        simp only [Option.some.injEq] at e; subst e
        refine .inr (.inr ⟨_, j, _, rfl, rfl, ha, hl.2.1, hl.2.2, by rw [← rxs.length]; exact hl.1, fun p hp => ?_⟩)
        exact k _ _ (same_upd hp) (a.newLst (reps_flat rxs _) hp)
      · cases e
    | _ => simp [gMul] at e
  | _ => cases y <;> simp [gMul] at e
end

/-! ### order -/
def gCmpI (f : Int → Int → Bool) (h : Str → Str → Bool) : D → D → Option D
  | .int i, .int j => some (.bl (f i j))
  | .str i, .str j => some (.bl (h i j))
  | _, _ => none
abbrev gLt := gCmpI (fun i j => decide (i < j)) (fun i j => decide (i.cps.toList < j.cps.toList))
abbrev gLe := gCmpI (fun i j => decide (i ≤ j)) (fun i j => !decide (j.cps.toList < i.cps.toList))
abbrev gGt := gCmpI (fun i j => decide (j < i)) (fun i j => decide (j.cps.toList < i.cps.toList))
abbrev gGe := gCmpI (fun i j => decide (j ≤ i)) (fun i j => !decide (i.cps.toList < j.cps.toList))
section
variable {X : Cx}
theorem og_cmpI {op : CmpOp} {f : Int → Int → Bool} {h : Str → Str → Bool} (o1 : OpR X (compareOp op) (rI0 fun i j => .bl (f i j))) (o2 : OpR X (compareOp op) (fun x y H Q => ∃ i j, x = .str i ∧ y = .str j ∧ Q (.bl (h i j)) H)) : OpG X (compareOp op) (gCmpI f h) := by
  refine ⟨_, o1.or o2, fun F R S σ H Z η C x y z v w Q a hx hy e k => ?_⟩
  cases x with
  | int i =>
    cases y with
    | int j =>
      obtain rfl := hy.isInt
      obtain rfl := hx.isInt
      simp only [gCmpI, Option.some.injEq] at e; subst e
      exact .inl ⟨i, j, rfl, rfl, k _ H (Same.refl H) (Asn.addS ⟨Z, η, C, a⟩ fun _ _ => .bl)⟩
    | _ => simp [gCmpI] at e
  | str i =>
    cases y with
    | str j =>
      obtain rfl := hy.isStr
      obtain rfl := hx.isStr
      simp only [gCmpI, Option.some.injEq] at e; subst e
      exact .inr ⟨i, j, rfl, rfl, k _ H (Same.refl H) (Asn.addS ⟨Z, η, C, a⟩ fun _ _ => .bl)⟩
    | _ => simp [gCmpI] at e
  | _ => cases y <;> simp [gCmpI] at e
theorem og_lt : OpG X (compareOp .Lt) gLt := og_cmpI op_lt op_lt_str
theorem og_le : OpG X (compareOp .LtE) gLe := og_cmpI op_le op_le_str
theorem og_gt : OpG X (compareOp .Gt) gGt := og_cmpI op_gt op_gt_str
theorem og_ge : OpG X (compareOp .GtE) gGe := og_cmpI op_ge op_ge_str
end

/-! ### equality of data -/
mutual
def D.py : D → Option PyData
  | .non => some .none
  | .bl b => some (.bool b)
  | .int i => some (.int i)
  | .str s => some (.str s)
  | .lst xs => (D.pys xs).map .list
  | .scr xs => (D.pys xs).map .list
  | .tup xs => (D.pys xs).map .tuple
  | _ => none
def D.pys : List D → Option (List PyData)
  | [] => some []
  | x :: xs => match D.py x, D.pys xs with
    | some y, some ys => some (y :: ys)
    | _, _ => none
end
section
variable {K : PySem.W.Frag} {mg : Str → Option Value} {Z H : Hp} {η : List Addr}
mutual
theorem Rep.dp (z : Same Z H) : ∀ {x : D} {v : V} {p : PyData}, Rep K mg Z η x v → D.py x = some p → Dp K H v p
  | _, _, _, .non, e => by simp [D.py] at e; subst e; exact .non
  | _, _, _, .bl, e => by simp [D.py] at e; subst e; exact .bl _
  | _, _, _, .int, e => by simp [D.py] at e; subst e; exact .int _
  | _, _, _, .str, e => by simp [D.py] at e; subst e; exact .str _
  | _, _, _, .lst h r, e => by
    simp only [D.py, Option.map_eq_some_iff] at e
    obtain ⟨ps, e, rfl⟩ := e
    exact .lst (.of (z _ _ h)) (Reps.dp z r e)
  | _, _, _, .scr h r, e => by
    simp only [D.py, Option.map_eq_some_iff] at e
    obtain ⟨ps, e, rfl⟩ := e
    exact .lst (z.seq h) (Reps.dp z r e)
  | _, _, _, .tup h r, e => by
    simp only [D.py, Option.map_eq_some_iff] at e
    obtain ⟨ps, e, rfl⟩ := e
    exact .tup (SqT_same z h) (Reps.dp z r e)
  | _, _, _, .dct _ _, e => by simp [D.py] at e
  | _, _, _, .obj _, e => by simp [D.py] at e
  | _, _, _, .glo _, e => by simp [D.py] at e
  | _, _, _, .ty, e => by simp [D.py] at e
theorem Reps.dp (z : Same Z H) : ∀ {xs : List D} {vs : List V} {ps : List PyData}, Reps K mg Z η xs vs → D.pys xs = some ps → DpAll K H vs ps
  | _, _, _, .nil, e => by simp [D.pys] at e; subst e; exact .nil
  | _, _, _, .cons (x := x) (xs := xs) h r, e => by
    simp only [D.pys] at e
    cases e1 : D.py x with
    | none => rw [e1] at e; simp at e
    | some a =>
      cases e2 : D.pys xs with
      | none => rw [e1, e2] at e; simp at e
      | some as =>
        rw [e1, e2] at e; simp at e; subst e
        exact .cons (Rep.dp z h e1) (Reps.dp z r e2)
end
end
theorem RepT.dp {K : PySem.W.Frag} {mg : Str → Option Value} {Z H : Hp} {η : List Addr} (z : Same Z H) {x : D} {v : V} {p : PyData} (h : RepT K mg H Z η x v) (e : D.py x = some p) : Dp K H v p := by
  cases h with
  | of h => exact h.dp z e
  | lst hh r =>
    simp only [D.py, Option.map_eq_some_iff] at e
    obtain ⟨ps, e, rfl⟩ := e
    exact .lst (.of hh) (Reps.dp z r e)
  | dct hh r => simp [D.py] at e
def D.eq : D → D → Option Bool
  | .str i, .str j => some (decide (i = j))
  | x, y => match x.py, y.py with
    | some p, some q => if SeqAt.shaped p = true ∧ SeqAt.shaped q = true then some (PyData.eqv p q) else none
    | _, _ => none
def gEq (x y : D) : Option D := (D.eq x y).map .bl
def gNe (x y : D) : Option D := (D.eq x y).map fun b => .bl (!b)
theorem D.eq_cases {x y : D} {b : Bool} (e : D.eq x y = some b) : (∃ i j, x = .str i ∧ y = .str j ∧ b = decide (i = j)) ∨ ∃ p q, x.py = some p ∧ y.py = some q ∧ SeqAt.shaped p = true ∧ SeqAt.shaped q = true ∧ b = PyData.eqv p q := by
  unfold D.eq at e
  split at e
  · exact .inl ⟨_, _, rfl, rfl, (Option.some.inj e).symm⟩
  · split at e
    · split at e
      · rename_i h
        exact .inr ⟨_, _, by assumption, by assumption, h.1, h.2, (Option.some.inj e).symm⟩
      · cases e
    · cases e
section
variable {X : Cx}
theorem og_eq (hu : X.A.units + 64 < cLine) : OpG X (compareOp .Eq) gEq := by
  refine ⟨_, op_eq.or (op_eqD hu), fun F R S σ H Z η C x y z v w Q a hx hy e k => ?_⟩
  unfold gEq at e
  rw [Option.map_eq_some_iff] at e
  obtain ⟨b, e, rfl⟩ := e
  rcases D.eq_cases e with ⟨i, j, rfl, rfl, rfl⟩ | ⟨p, q, h1, h2, h3, h4, rfl⟩
  · obtain rfl := hy.isStr
    obtain rfl := hx.isStr
    refine .inl ⟨rfl, ?_⟩
    have e2 : decide (V.str i = V.str j) = decide (i = j) := by rw [dec_str]; exact Bool.beq_eq_decide_eq _ _
    rw [e2]
    exact k _ H (Same.refl H) (Asn.addS ⟨Z, η, C, a⟩ fun _ _ => .bl)
  · exact .inr ⟨p, q, hx.dp a.zh h1, hy.dp a.zh h2, h3, h4, k _ H (Same.refl H) (Asn.addS ⟨Z, η, C, a⟩ fun _ _ => .bl)⟩
theorem og_ne (hu : X.A.units + 64 < cLine) : OpG X (compareOp .NotEq) gNe := by
  refine ⟨_, op_ne.or (op_neD hu), fun F R S σ H Z η C x y z v w Q a hx hy e k => ?_⟩
  unfold gNe at e
  rw [Option.map_eq_some_iff] at e
  obtain ⟨b, e, rfl⟩ := e
  rcases D.eq_cases e with ⟨i, j, rfl, rfl, rfl⟩ | ⟨p, q, h1, h2, h3, h4, rfl⟩
  · obtain rfl := hy.isStr
    obtain rfl := hx.isStr
    refine .inl ⟨rfl, ?_⟩
    have e2 : decide (V.str i = V.str j) = decide (i = j) := by rw [dec_str]; exact Bool.beq_eq_decide_eq _ _
    rw [e2]
    exact k _ H (Same.refl H) (Asn.addS ⟨Z, η, C, a⟩ fun _ _ => .bl)
  · exact .inr ⟨p, q, hx.dp a.zh h1, hy.dp a.zh h2, h3, h4, k _ H (Same.refl H) (Asn.addS ⟨Z, η, C, a⟩ fun _ _ => .bl)⟩
/-- is None; is of two bools -/
def D.isNon : D → Bool
  | .non => true
  | _ => false
def gIs : D → D → Option D
  | x, .non => some (.bl x.isNon)
  | .bl a, .bl b => some (.bl (decide (a = b)))
  | _, _ => none
def gIsNot : D → D → Option D
  | x, .non => some (.bl (!x.isNon))
  | .bl a, .bl b => some (.bl (!decide (a = b)))
  | _, _ => none
theorem RepT.non_iff {K : PySem.W.Frag} {mg : Str → Option Value} {H Z : Hp} {η : List Addr} {x : D} {v : V} (r : RepT K mg H Z η x v) : decide (v = .non) = x.isNon := by
  cases r with
  | of r => cases r <;> first | rfl | exact decide_eq_false (fun z => nomatch z)
  | lst _ _ => rfl
  | dct _ _ => rfl
theorem Rep.non_iff {K : PySem.W.Frag} {mg : Str → Option Value} {Z : Hp} {η : List Addr} {x : D} {v : V} (r : Rep K mg Z η x v) : decide (v = .non) = x.isNon := by
  cases r <;> first | rfl | exact decide_eq_false (fun z => nomatch z)
theorem og_is : OpG X (compareOp .Is) gIs := by
  refine ⟨_, op_isN.or op_is_bl, fun F R S σ H Z η C x y z v w Q a hx hy e k => ?_⟩
  cases y with
  | non =>
    obtain rfl := hy.isNon
    have e2 : z = .bl x.isNon := by cases x <;> simp_all [gIs]
    subst e2
    refine .inl ⟨rfl, ?_⟩
    rw [hx.non_iff]
    exact k _ H (Same.refl H) (Asn.addS ⟨Z, η, C, a⟩ fun _ _ => .bl)
  | bl j =>
    cases x with
    | bl i =>
      obtain rfl := hy.isBl
      obtain rfl := hx.isBl
      simp only [gIs, Option.some.injEq] at e; subst e
      exact .inr ⟨i, j, rfl, rfl, k _ H (Same.refl H) (Asn.addS ⟨Z, η, C, a⟩ fun _ _ => .bl)⟩
    | _ => simp [gIs] at e
  | _ => cases x <;> simp [gIs] at e
theorem og_isnot : OpG X (compareOp .IsNot) gIsNot := by
  refine ⟨_, op_notN.or op_isnot_bl, fun F R S σ H Z η C x y z v w Q a hx hy e k => ?_⟩
  cases y with
  | non =>
    obtain rfl := hy.isNon
    have e2 : z = .bl (!x.isNon) := by cases x <;> simp_all [gIsNot]
    subst e2
    refine .inl ⟨rfl, ?_⟩
    rw [hx.non_iff]
    exact k _ H (Same.refl H) (Asn.addS ⟨Z, η, C, a⟩ fun _ _ => .bl)
  | bl j =>
    cases x with
    | bl i =>
      obtain rfl := hy.isBl
      obtain rfl := hx.isBl
      simp only [gIsNot, Option.some.injEq] at e; subst e
      exact .inr ⟨i, j, rfl, rfl, k _ H (Same.refl H) (Asn.addS ⟨Z, η, C, a⟩ fun _ _ => .bl)⟩
    | _ => simp [gIsNot] at e
  | _ => cases x <;> simp [gIsNot] at e
end
end Mi
end
section
set_option Elab.async false
set_option linter.all false
set_option maxRecDepth 100000
set_option maxHeartbeats 2000000
/-! Mi5: argument lists, calls of own defs, what a def promises. -/
namespace Mi
open PySem PySem.Spec PyProof.Rows L2

section
variable {K : PySem.W.Frag} {mg : Str → Option Value} {F : Frm} {R R1 : Roots} {S : AS} {σ : L2.St} {H H' Z Z' : Hp} {η η' : List Addr} {C C' : Cl}
/-- what a callee sees: the arguments, the nodes -/
theorem AsnC.callee {ds : List D} {vs : List V} (h : AsnC K mg F (tz (ds.map .d) vs ++ R) S σ H Z η C) (e : vs.length = ds.length) :
    ∃ W Cm Co, AsnC K mg ⟨H, Z, η, W⟩ (tz (ds.map .d) vs) ⟨[], S.μ⟩ [] H Z η Cm ∧ (∀ a, W a ↔ ∃ p ∈ Cm, p.1 = a) ∧ RepR K mg Z η (R ++ sroots S.v σ) Co ∧ C.Perm (Co ++ Cm) := by
  obtain ⟨rd, h1⟩ := h.takeDs e
  have hr := h1.rep
  rw [← List.append_assoc] at hr
  obtain ⟨Co, Cm, rfl, r1, r2⟩ := hr.split
  have nd := h1.nd
  rw [List.map_append] at nd
  refine ⟨fun a => ∃ p ∈ Cm, p.1 = a, Cm, Co, ⟨Same.refl _, List.prefix_refl _, h.zh, fun a o e _ => e, fun a o e => .inl e, fun p hp => ?_, (List.nodup_append.mp nd).2.1, ⟨rfl, fun i x q => by simp at q⟩, ?_, ?_⟩, fun _ => Iff.rfl, r1, .refl _⟩
  · obtain ⟨a1, a2, a3⟩ := h1.cw p (List.mem_append_right _ hp)
    exact ⟨a1, a2, .inl ⟨p, hp, rfl⟩⟩
  · have z := h.ml
    cases q : S.μ with
    | none => exact rfl
    | some m => rw [q] at z; exact z
  · have z := RepR.app (RepR.of_tz rd.os) (show RepR K mg Z η ([] ++ mroots S.μ η) Cm from r2)
    exact z
theorem AsnC.back {ds : List D} {vs : List V} {W : Addr → Prop} {Cm Co : Cl} {μ' : Option (List OD)} (h : AsnC K mg F (tz (ds.map .d) vs ++ R) S σ H Z η C) (hW : ∀ a, W a ↔ ∃ p ∈ Cm, p.1 = a) (ro : RepR K mg Z η (R ++ sroots S.v σ) Co) (pc : C.Perm (Co ++ Cm))
    (g : AsnC K mg ⟨H, Z, η, W⟩ R1 ⟨[], μ'⟩ [] H' Z' η' C') (hμ : μ'.isSome = S.μ.isSome) : ∃ C2, AsnC K mg F (R1 ++ R) ⟨S.v, μ'⟩ σ H' Z' η' C2 := by
  have nd := (pc.map (·.1)).nodup_iff.mp h.nd
  rw [List.map_append] at nd
  obtain ⟨n1, n2, n3⟩ := List.nodup_append.mp nd
  have hcm : ∀ p ∈ Cm, p ∈ C := fun p hp => pc.mem_iff.mpr (List.mem_append_right _ hp)
  have hco : ∀ p ∈ Co, p ∈ C := fun p hp => pc.mem_iff.mpr (List.mem_append_left _ hp)
  have nW : ∀ a o, F.H0 a = some o → ¬ F.W a → ¬ W a := fun a o e1 e2 w => by
    obtain ⟨p, hp, rfl⟩ := (hW a).mp w
    rcases (h.cw p (hcm p hp)).2.2 with z | z
    · exact e2 z
    · rw [z] at e1; cases e1
  have back : ∀ a, W a ∨ H a = none → F.W a ∨ F.H0 a = none := fun a x => by
    by_cases w : F.W a
    · exact .inl w
    · refine .inr ?_
      cases q : F.H0 a with
      | none => rfl
      | some o =>
        rcases x with x | x
        · exact absurd x (nW a o q w)
        · rw [h.fr a o q w] at x; cases x
  have oW : ∀ p ∈ Co, ¬ W p.1 := fun p hp w => by
    obtain ⟨q, hq, e⟩ := (hW _).mp w
    exact n3 _ (List.mem_map.mpr ⟨p, hp, rfl⟩) _ (List.mem_map.mpr ⟨q, hq, rfl⟩) e.symm
  have gr := g.rep
  obtain ⟨D1, D2, e1, r1, r2⟩ := gr.split
  have rall : RepR K mg Z' η' ((R1 ++ R) ++ (sroots S.v σ ++ mroots μ' η')) (D1 ++ (Co ++ D2)) := by
    have z := RepR.app r1 (RepR.app (ro.mono g.z0 g.e0) (show RepR K mg Z' η' (mroots μ' η') D2 from r2))
    rw [List.append_assoc, ← List.append_assoc R]
    exact z
  have pp : (D1 ++ (Co ++ D2)).Perm (C' ++ Co) := by
    rw [e1]
    refine perm_count fun a => ?_
    simp only [List.count_append]
    omega
  refine ⟨_, h.z0.trans g.z0, h.e0.trans g.e0, g.zh, fun a o e1 e2 => g.fr a o (h.fr a o e1 e2) (nW a o e1 e2), fun a o e => ?_, fun p hp => ?_, ?_, h.sl, ?_, rall⟩
  · rcases g.zn a o e with z | z | z
    · exact h.zn a o z
    · exact .inr (back a (.inl z))
    · exact .inr (back a (.inr z))
  · rcases List.mem_append.mp (pp.mem_iff.mp hp) with hp | hp
    · obtain ⟨a1, a2, a3⟩ := g.cw p hp
      exact ⟨a1, a2, back _ a3⟩
    · obtain ⟨a1, a2, a3⟩ := h.cw p (hco p hp)
      refine ⟨g.fr _ _ a1 (oW p hp), ?_, a3⟩
      cases q : Z' p.1 with
      | none => rfl
      | some o =>
        rcases g.zn _ _ q with z | z | z
        · rw [show Z p.1 = some o from z] at a2; cases a2
        · exact absurd z (oW p hp)
        · rw [show H p.1 = none from z] at a1; cases a1
  · refine (pp.map (·.1)).nodup_iff.mpr ?_
    rw [List.map_append]
    refine List.nodup_append.mpr ⟨g.nd, n1, fun a ha b hb e => ?_⟩
    obtain ⟨p, hp, rfl⟩ := List.mem_map.mp ha
    obtain ⟨q, hq, rfl⟩ := List.mem_map.mp hb
    obtain ⟨a1, _, _⟩ := h.cw q (hco q hq)
    rcases (g.cw p hp).2.2 with z | z
    · exact oW q hq (e ▸ z)
    · rw [← e, show H p.1 = none from z] at a1; cases a1
  · have z := g.ml
    cases q : μ' with
    | some m => rw [q] at z; exact z
    | none =>
      rw [q] at z hμ
      have z2 := h.ml
      cases q2 : S.μ with
      | some m => rw [q2] at hμ; simp at hμ
      | none =>
        rw [q2] at z2
        exact (show η' = η from z).trans z2
/-- a callee that sees no object -/
theorem AsnC.calleeP {ds : List D} {vs : List V} (h : AsnC K mg F (tz (ds.map .d) vs ++ R) S σ H Z η C) (e : vs.length = ds.length) : AsnC K mg ⟨H, Z, η, fun _ => False⟩ (tz (ds.map .d) vs) ⟨[], none⟩ [] H Z η [] := by
  obtain ⟨rd, h1⟩ := h.takeDs e
  refine ⟨Same.refl _, List.prefix_refl _, h.zh, fun a o e _ => e, fun a o e => .inl e, fun p hp => (by cases hp), List.nodup_nil, ⟨rfl, fun i x q => by simp at q⟩, rfl, ?_⟩
  show RepR K mg Z η (tz (ds.map .d) vs ++ ([] ++ [])) []
  rw [List.append_nil, List.append_nil]
  exact RepR.of_tz rd.os
theorem AsnC.backP {ds : List D} {vs : List V} (h : AsnC K mg F (tz (ds.map .d) vs ++ R) S σ H Z η C) (e : vs.length = ds.length) (g : AsnC K mg ⟨H, Z, η, fun _ => False⟩ R1 ⟨[], none⟩ [] H' Z' η' C') : Same H H' ∧ ∃ C2, AsnC K mg F (R1 ++ R) S σ H' Z' η' C2 := by
  have sm : Same H H' := fun a o q => g.fr a o q (fun z => z)
  obtain ⟨_, h1⟩ := h.takeDs e
  have eη : η' = η := g.ml
  have back : ∀ a, H a = none → F.W a ∨ F.H0 a = none := fun a x => by
    by_cases w : F.W a
    · exact .inl w
    · refine .inr ?_
      cases q : F.H0 a with
      | none => rfl
      | some o => rw [h.fr a o q w] at x; cases x
  have gr := g.rep
  rw [show (sroots ([] : List (Option OD)) ([] : L2.St) ++ mroots none η' : Roots) = [] from rfl, List.append_nil] at gr
  refine ⟨sm, C' ++ C, h.z0.trans g.z0, h.e0.trans g.e0, g.zh, fun a o e1 e2 => sm _ _ (h.fr a o e1 e2), fun a o q => ?_, fun p hp => ?_, ?_, h.sl, ?_, ?_⟩
  · rcases g.zn a o q with z | z | z
    · exact h.zn a o z
    · exact z.elim
    · exact .inr (back a z)
  · rcases List.mem_append.mp hp with hp | hp
    · obtain ⟨a1, a2, a3⟩ := g.cw p hp
      exact ⟨a1, a2, back _ (a3.elim (fun z => z.elim) fun z => z)⟩
    · obtain ⟨a1, a2, a3⟩ := h.cw p hp
      refine ⟨sm _ _ a1, ?_, a3⟩
      cases q : Z' p.1 with
      | none => rfl
      | some o =>
        rcases g.zn _ _ q with z | z | z
        · rw [show Z p.1 = some o from z] at a2; cases a2
        · exact z.elim
        · rw [show H p.1 = none from z] at a1; cases a1
  · rw [List.map_append]
    refine List.nodup_append.mpr ⟨g.nd, h.nd, fun a ha b hb e => ?_⟩
    obtain ⟨p, hp, rfl⟩ := List.mem_map.mp ha
    obtain ⟨q, hq, rfl⟩ := List.mem_map.mp hb
    obtain ⟨a1, _, _⟩ := h.cw q hq
    rcases (g.cw p hp).2.2 with z | z
    · exact z.elim
    · rw [← e, show H p.1 = none from z] at a1; cases a1
  · rw [eη]; exact h.ml
  · rw [List.append_assoc]
    refine RepR.app gr ?_
    rw [eη]
    exact h1.rep.mono g.z0 (List.prefix_refl _)
end

/-! ### what a def promises -/
inductive FR where
  | ok (x : OD) (μ : Option (List OD))
  | ex (c : Str) (fl : List (Str × D)) (μ : Option (List OD))
  | no
/-- a def as a function of trees -/
abbrev Mf := List D → Option (List OD) → FR
def spF (K : PySem.W.Frag) (mg : Str → Option Value) (n : Nat) (m : Mf) : Sp := fun vs H Q E => ∃ Z η W μ ds, ds.length = n ∧ vs.length = ds.length ∧ Asn K mg ⟨H, Z, η, W⟩ (tz (ds.map .d) vs) ⟨[], μ⟩ [] H ∧ match m ds μ with
  | .ok x μ' => ∀ v H', Asn K mg ⟨H, Z, η, W⟩ [(x, v)] ⟨[], μ'⟩ [] H' → Q v H'
  | .ex c fl μ' => ∀ H' cls d, ExA K mg ⟨H, Z, η, W⟩ ⟨[], μ'⟩ [] H' c fl cls d → E cls d H'
  | .no => False

/-! ### argument lists -/
def xNil : XA := fun S => .ok [] S
def xCons (A : XD) (B : XA) : XA := fun S => (A S).bind fun x S1 => (B S1).bind fun xs S2 => .ok (x :: xs) S2
section
variable {X : Cx} {F : Frm} {W : WX} {p p1 p2 : Bool} {e : Expr} {es : List Expr} {A : XD} {B : XA}
theorem a_nil : EA_ X F W [] true xNil := PA.imp pa_nil fun σ H Q h => by
  obtain ⟨R, S, a, q⟩ := h
  exact q [] H (fun _ => Same.refl H) rfl a
theorem rdCons {σ : L2.St} {H : Hp} {Q : List V → Hp → Prop} (h : RdA X.K X.mg F W (p1 && p2) (xCons A B) σ H Q) : tCons (Rd X.K X.mg F W p1 A) (RdA X.K X.mg F W p2 B) σ H Q := by
  obtain ⟨R, S, a, q⟩ := h
  refine ⟨R, S, a, ?_⟩
  unfold xCons at q
  cases e : A S with
  | no => simp only [e, Rs.bind_no] at q
  | ex c fl S' => simp only [e, Rs.bind_ex] at q; exact q
  | ok x S' =>
    simp only [e, Rs.bind_ok] at q
    intro v H1 s1 a1
    refine ⟨_, _, a1, ?_⟩
    cases e2 : B S' with
    | no => simp only [e2, Rs.bind_no] at q
    | ex c fl S2 => simp only [e2, Rs.bind_ex] at q; exact q
    | ok xs S2 =>
      simp only [e2, Rs.bind_ok] at q
      intro vs H2 s2 l a2
      refine q (v :: vs) H2 (fun hp => ?_) (by simp [l]) (a2.tperm ?_)
      · rw [Bool.and_eq_true] at hp
        exact (s1 hp.1).trans (s2 hp.2)
      · show (tz (xs.map .d) vs ++ (OD.d x, v) :: R).Perm ((OD.d x, v) :: (tz (xs.map .d) vs ++ R))
        exact List.perm_middle
theorem a_cons (ha : E_ X F W e p1 A) (hb : EA_ X F W es p2 B) (hs : starEach (e :: es) X.env = (false, eval e X.env) :: starEach es X.env := by rfl) : EA_ X F W (e :: es) (p1 && p2) (xCons A B) :=
  PA.imp (pa_cons ha hb hs) fun σ H Q h => rdCons h
/-- keywords -/
abbrev EK_ (X : Cx) (F : Frm) (W : WX) (kws : List Keyword) (p : Bool) (A : XA) : Prop := PK X kws (RdA X.K X.mg F W p A)
theorem PK.imp {kws : List Keyword} {t t' : TA} (h : PK X kws t) (m : ∀ σ H Q, t' σ H Q → t σ H Q) : PK X kws t' := ⟨fun pos pins s σ H Q I q => h.run pos pins s σ H Q I (m σ H Q q)⟩
theorem k_nil : EK_ X F W [] true xNil := PK.imp pk_nil fun σ H Q h => by
  obtain ⟨R, S, a, q⟩ := h
  exact q [] H (fun _ => Same.refl H) rfl a
theorem k_cons {kws : List Keyword} {nm : Option Str} {kpos : Pos} (ha : E_ X F W e p1 A) (hb : EK_ X F W kws p2 B) : EK_ X F W (⟨nm, e, kpos⟩ :: kws) (p1 && p2) (xCons A B) :=
  PK.imp (pk_cons ha hb) fun σ H Q h => rdCons h
end

/-! ### a call's values -/
/-- f(first .., us .., ks = ws ..): t, tk are the readings of the positional and the keywords' values -/
def CW (X : Cx) (f : Value) (first : List Value) (es : List Expr) (kws : List Keyword) (pos : Pos) (ks : List Str) (t tk : TA) : Prop :=
  ∀ (pins : List (Addr × Obj)) (s : Shared) (σ : L2.St) (H : Hp) (Q : Value → Shared → Prop) (G : List V → List V → Hp → Prop), Inv X pins σ H s → (t σ H fun vs H1 => tk σ H1 fun zs H2 => G vs zs H2) →
    (∀ us ws vs zs s2 H2, Inv X pins σ H2 s2 → Vals vs us → Vals zs ws → G vs zs H2 → wpAny (model X.prog X.w) X.A (call f (first ++ us) (ks.zip ws)) Q X.xe s2) →
    wpAny (model X.prog X.w) X.A (callWith pos f first (backTo pos (starEach es X.env)) (backToKw pos (keywordEach kws X.env))) Q X.xe s
section
variable {X : Cx} {f : Value} {first : List Value} {e : Expr} {es : List Expr} {kws : List Keyword} {pos : Pos} {ks : List Str} {t tk : TA}
theorem cw_p (hk : PySem.W.keepIn X.K f = true) (ha : PA X (e :: es) t) (he : starEach (e :: es) X.env = (false, eval e X.env) :: starEach es X.env := by rfl) (hpl : (backTo pos (starEach es X.env)).any (·.1) = false := by rfl) :
    CW X f first (e :: es) [] pos [] t tNil := fun pins s σ H Q G I h k => by
  refine PySem.W.callWith_K (h₀ := X.base) I.ok.mod.kin hk (thn (ha.run pos pins s σ H _ I h) fun us s1 ⟨vs, H1, I1, r, q⟩ => ⟨I1.kIn, ?_⟩) he hpl
  exact k us [] vs [] s1 H1 I1 r .nil q
theorem cw_0 (hk : PySem.W.keepIn X.K f = true) : CW X f first [] [] pos [] tNil tNil := fun pins s σ H Q G I h k =>
  PySem.W.callWith_K0 I.kIn hk (k [] [] [] [] s H I .nil .nil h)
theorem cw_pk (hk : PySem.W.keepIn X.K f = true) (ha : PA X (e :: es) t) (hkw : PK X kws tk) (hall : (backToKw pos (keywordEach kws X.env)).all (·.1.isSome) = true := by rfl) (hks : (backToKw pos (keywordEach kws X.env)).filterMap (·.1) = ks := by rfl)
    (he : starEach (e :: es) X.env = (false, eval e X.env) :: starEach es X.env := by rfl) (hpl : ((backTo pos (starEach (e :: es) X.env)).any (·.1) || (backToKw pos (keywordEach kws X.env)).any (·.1.isNone)) = false := by rfl) :
    CW X f first (e :: es) kws pos ks t tk := fun pins s σ H Q G I h k => by
  refine PySem.W.callWith_KW (h₀ := X.base) I.ok.mod.kin hk hall (thn (ha.run pos pins s σ H _ I h) fun us s1 ⟨vs, H1, I1, r, q⟩ => ?_) hpl he
  refine thn (hkw.run pos pins s1 σ H1 _ I1 q) fun ws s2 ⟨zs, H2, I2, rz, q2⟩ => ⟨I2.kIn, ?_⟩
  rw [hks]
  exact k us ws vs zs s2 H2 I2 r rz q2
end

/-! ### the values of a call in one list -/
def CWA (X : Cx) (F : Frm) (W : WX) (f : Value) (first : List Value) (es : List Expr) (kws : List Keyword) (pos : Pos) (ks : List Str) (p : Bool) (A : XA) : Prop :=
  ∀ (pins : List (Addr × Obj)) (s : Shared) (σ : L2.St) (H : Hp) (Q : Value → Shared → Prop) (G : List V → Hp → Prop), Inv X pins σ H s → RdA X.K X.mg F W p A σ H G →
    (∀ us ws vs s2 H2, Inv X pins σ H2 s2 → Vals vs (us ++ ws) → (ks = [] → ws = []) → (ks ≠ [] → us.length = es.length ∧ ws.length = ks.length) → G vs H2 → wpAny (model X.prog X.w) X.A (call f (first ++ us) (ks.zip ws)) Q X.xe s2) →
    wpAny (model X.prog X.w) X.A (callWith pos f first (backTo pos (starEach es X.env)) (backToKw pos (keywordEach kws X.env))) Q X.xe s
/-- positional values, then keywords' -/
def xKw (np nk : Nat) (A B : XA) : XA := fun S => (A S).bind fun xs S1 => (B S1).bind fun ys S2 => if xs.length = np ∧ ys.length = nk then .ok (xs ++ ys) S2 else .no
section
variable {X : Cx} {F : Frm} {W : WX} {p p1 p2 : Bool} {f : Value} {first : List Value} {e : Expr} {es : List Expr} {kws : List Keyword} {pos : Pos} {ks : List Str} {A B : XA}
theorem ca_p (hk : PySem.W.keepIn X.K f = true) (ha : EA_ X F W (e :: es) p A) (he : starEach (e :: es) X.env = (false, eval e X.env) :: starEach es X.env := by rfl) (hpl : (backTo pos (starEach es X.env)).any (·.1) = false := by rfl) :
    CWA X F W f first (e :: es) [] pos [] p A := fun pins s σ H Q G I h k => by
  refine PySem.W.callWith_K (h₀ := X.base) I.ok.mod.kin hk (thn (ha.run pos pins s σ H _ I h) fun us s1 ⟨vs, H1, I1, r, q⟩ => ⟨I1.kIn, ?_⟩) he hpl
  exact k us [] vs s1 H1 I1 (by rw [List.append_nil]; exact r) (fun _ => rfl) (fun z => absurd rfl z) q
theorem ca_0 (hk : PySem.W.keepIn X.K f = true) : CWA X F W f first [] [] pos [] true xNil := fun pins s σ H Q G I h k => by
  obtain ⟨R, S, a, q⟩ := h
  exact PySem.W.callWith_K0 I.kIn hk (k [] [] [] s H I .nil (fun _ => rfl) (fun z => absurd rfl z) (q [] H (fun _ => Same.refl H) rfl a))
theorem rdKw {σ : L2.St} {H : Hp} {G : List V → Hp → Prop} {np nk : Nat} (h : RdA X.K X.mg F W (p1 && p2) (xKw np nk A B) σ H G) :
    RdA X.K X.mg F W p1 A σ H fun vs H1 => RdA X.K X.mg F W p2 B σ H1 fun zs H2 => vs.length = np ∧ zs.length = nk ∧ G (vs ++ zs) H2 := by
  obtain ⟨R, S, a, q⟩ := h
  refine ⟨R, S, a, ?_⟩
  unfold xKw at q
  cases e : A S with
  | no => simp only [e, Rs.bind_no] at q
  | ex c fl S' => simp only [e, Rs.bind_ex] at q; exact q
  | ok xs S' =>
    simp only [e, Rs.bind_ok] at q
    intro vs H1 s1 l1 a1
    refine ⟨_, _, a1, ?_⟩
    cases e2 : B S' with
    | no => simp only [e2, Rs.bind_no] at q
    | ex c fl S2 => simp only [e2, Rs.bind_ex] at q; exact q
    | ok ys S2 =>
      simp only [e2, Rs.bind_ok] at q
      intro zs H2 s2 l2 a2
      by_cases hl : xs.length = np ∧ ys.length = nk
      · rw [if_pos hl] at q
        refine ⟨by omega, by omega, q (vs ++ zs) H2 (fun hp => ?_) (by simp [l1, l2]) ?_⟩
        · rw [Bool.and_eq_true] at hp
          exact (s1 hp.1).trans (s2 hp.2)
        · obtain ⟨Z, η, C, a3⟩ := a2
          obtain ⟨r2, a4⟩ := a3.takeDs l2
          obtain ⟨r1, a5⟩ := a4.takeDs l1
          exact ⟨Z, η, C, a5.addDs (r1.append r2)⟩
      · rw [if_neg hl] at q
        exact q.elim
theorem ca_pk (hk : PySem.W.keepIn X.K f = true) (hne : ks ≠ []) (ha : EA_ X F W (e :: es) p1 A) (hkw : EK_ X F W kws p2 B) (hall : (backToKw pos (keywordEach kws X.env)).all (·.1.isSome) = true := by rfl) (hks : (backToKw pos (keywordEach kws X.env)).filterMap (·.1) = ks := by rfl)
    (he : starEach (e :: es) X.env = (false, eval e X.env) :: starEach es X.env := by rfl) (hpl : ((backTo pos (starEach (e :: es) X.env)).any (·.1) || (backToKw pos (keywordEach kws X.env)).any (·.1.isNone)) = false := by rfl) :
    CWA X F W f first (e :: es) kws pos ks (p1 && p2) (xKw (e :: es).length ks.length A B) := fun pins s σ H Q G I h k => by
  refine PySem.W.callWith_KW (h₀ := X.base) I.ok.mod.kin hk hall (thn (ha.run pos pins s σ H _ I (rdKw h)) fun us s1 ⟨vs, H1, I1, r, q⟩ => ?_) hpl he
  refine thn (hkw.run pos pins s1 σ H1 _ I1 q) fun ws s2 ⟨zs, H2, I2, rz, l1, l2, q2⟩ => ⟨I2.kIn, ?_⟩
  rw [hks]
  exact k us ws (vs ++ zs) s2 H2 I2 (r.append rz) (fun z => absurd z hne) (fun _ => ⟨r.length.symm.trans l1, rz.length.symm.trans l2⟩) q2
theorem ca_k (hk : PySem.W.keepIn X.K f = true) (hne : ks ≠ []) (hkw : EK_ X F W kws p2 B) (hall : (backToKw pos (keywordEach kws X.env)).all (·.1.isSome) = true := by rfl) (hks : (backToKw pos (keywordEach kws X.env)).filterMap (·.1) = ks := by rfl)
    (hpl : ((backTo pos (starEach [] X.env)).any (·.1) || (backToKw pos (keywordEach kws X.env)).any (·.1.isNone)) = false := by rfl) :
    CWA X F W f first [] kws pos ks (true && p2) (xKw 0 ks.length xNil B) := fun pins s σ H Q G I h k => by
  obtain ⟨R, S, a, q⟩ := rdKw h
  have q1 := q [] H (fun _ => Same.refl H) rfl a
  refine PySem.W.callWith_KW0 (h₀ := X.base) I.ok.mod.kin hk hall (thn (hkw.run pos pins s σ H _ I q1) fun ws s2 ⟨zs, H2, I2, rz, l1, l2, q2⟩ => ⟨I2.kIn, ?_⟩) hpl
  rw [hks]
  exact k [] ws zs s2 H2 I2 rz (fun z => absurd z hne) (fun _ => ⟨rfl, rz.length.symm.trans l2⟩) q2
end

/-! ### own defs called -/
/-- the values in the parameters' order -/
def ro {α : Type} : Option (List Nat) → List α → List α
  | none, l => l
  | some ix, l => ix.filterMap fun i => l[i]?
theorem ro_vals {ix : Option (List Nat)} {vs : List V} {us : List Value} (r : Vals vs us) : Vals (ro ix vs) (ro ix us) := by
  cases ix with
  | none => exact r
  | some ix =>
    show Vals (ix.filterMap fun i => vs[i]?) (ix.filterMap fun i => us[i]?)
    induction ix with
    | nil => exact .nil
    | cons i ix ih =>
      rw [List.filterMap_cons, List.filterMap_cons]
      cases e : vs[i]? with
      | none =>
        rw [r.none_of e]
        exact ih
      | some v =>
        obtain ⟨u, e2, rv⟩ := r.get e
        rw [e2]
        exact .cons rv ih
theorem ro_reps {K : PySem.W.Frag} {mg : Str → Option Value} {Z : Hp} {η : List Addr} {ix : Option (List Nat)} {xs : List D} {vs : List V} (r : Reps K mg Z η xs vs) : Reps K mg Z η (ro ix xs) (ro ix vs) := by
  cases ix with
  | none => exact r
  | some ix =>
    show Reps K mg Z η (ix.filterMap fun i => xs[i]?) (ix.filterMap fun i => vs[i]?)
    induction ix with
    | nil => exact .nil
    | cons i ix ih =>
      rw [List.filterMap_cons, List.filterMap_cons]
      cases e : xs[i]? with
      | none =>
        have : vs[i]? = none := by
          have l := r.length
          rw [List.getElem?_eq_none_iff] at e ⊢
          omega
        rw [this]
        exact ih
      | some v =>
        obtain ⟨u, e2, rv⟩ := r.get e
        rw [e2]
        exact .cons rv ih
/-- how the values bind: np positional ones, the keywords ks -/
def Bn (fd : FuncData) (ps : List Str) (np : Nat) (ks : List Str) (ix : Option (List Nat)) : Prop :=
  ∀ us ws : List Value, us.length = np → ws.length = ks.length → bindArgs fd ⟨us, ks.zip ws⟩ = pure (ps.zip (ro ix (us ++ ws)))
abbrev FO (X : Cx) (k : Nat) (f : Addr) (fd : FuncData) (ps : List Str) (m : Mf) : Prop := FnOk X.prog X.w X.K X.mg X.base (L2.CX X.prog X.w) k f fd ps (spF X.K X.mg ps.length m)
def xCall (m : Mf) (ix : Option (List Nat)) (A : XA) : XO := fun S => (A S).bind fun xs S1 => match m (ro ix xs) S1.μ with
  | .ok x μ' => if μ'.isSome = S1.μ.isSome then .ok x ⟨S1.v, μ'⟩ else .no
  | .ex c fl μ' => if μ'.isSome = S1.μ.isSome then .ex c fl ⟨S1.v, μ'⟩ else .no
  | .no => .no
/-- a def that sees no object -/
def xCallP (m : Mf) (ix : Option (List Nat)) (A : XA) : XO := fun S => (A S).bind fun xs S1 => match m (ro ix xs) none with
  | .ok x none => .ok x S1
  | .ex c fl none => .ex c fl S1
  | _ => .no
section
variable {X : Cx} {F : Frm} {W : WX} {p p1 p2 : Bool} {k np : Nat} {f : Addr} {fd : FuncData} {ps ks : List Str} {m : Mf} {ix : Option (List Nat)} {es : List Expr} {kws : List Keyword} {pos p0 : Pos} {A : XA} {x : Str}
/-- the callee runs -/
theorem run_fo {pins : List (Addr × Obj)} {σ : L2.St} {H : Hp} {s : Shared} {Q : VK} {us ws : List Value} {vs : List V} (Fk : FO X k f fd ps m) (hr : Room k X.A) (hb : Bn fd ps np ks ix) (tk : Takes X W) (I : Inv X pins σ H s) (r : Vals vs (us ++ ws))
    (lu : us.length = np) (lw : ws.length = ks.length) (h : spF X.K X.mg ps.length m (ro ix vs) H Q (WE W σ)) : wpAny (model X.prog X.w) X.A (call (.ref f) us (ks.zip ws)) (EP X pins σ Q) X.xe s := by
  refine wpAny_call (codeAny_mono (Fk.run X.A X.stack s H ⟨us, ks.zip ws⟩ (ro ix (us ++ ws)) (ro ix vs) Q (WE W σ) hr I.env0 (.of_eq (hb us ws lu lw)) (ro_vals r) h) fun r s' hq => ?_)
  cases r with
  | error e => exact passAt tk σ pins H s e s' I hq
  | ok fl =>
    cases fl with
    | ret u => exact I.after hq
    | next => exact False.elim hq
    | brk => exact False.elim hq
    | cont => exact False.elim hq
/-- from the reading of the values to the callee's promise -/
theorem rd_call {σ : L2.St} {H : Hp} {Q : VK} (n : Nat) (hn : ∀ xs : List D, (∃ u, m (ro ix xs) u ≠ .no) → (ro ix xs).length = n) (h : RdO X.K X.mg F W false (xCall m ix A) σ H Q) : RdA X.K X.mg F W p A σ H fun vs H1 => spF X.K X.mg n m (ro ix vs) H1 Q (WE W σ) := by
  obtain ⟨R, S, a, q⟩ := h
  refine ⟨R, S, a, ?_⟩
  unfold xCall at q
  cases e : A S with
  | no => simp only [e, Rs.bind_no] at q
  | ex c fl S' => simp only [e, Rs.bind_ex] at q; exact q
  | ok xs S1 =>
    simp only [e, Rs.bind_ok] at q
    intro vs H1 s1 l1 a1
    obtain ⟨Z, η, C, a2⟩ := a1
    obtain ⟨r1, a3⟩ := a2.takeDs l1
    have r2 := ro_reps (ix := ix) r1
    have l2 : (ro ix vs).length = (ro ix xs).length := r2.length.symm
    have a4 := a3.addDs r2
    obtain ⟨W', Cm, Co, g, hW, ro', pc⟩ := a4.callee l2
    have hl : (ro ix xs).length = n := hn xs (by
      refine ⟨S1.μ, fun z => ?_⟩
      rw [z] at q; exact q)
    refine ⟨Z, η, W', S1.μ, ro ix xs, hl, l2, ⟨Z, η, Cm, g⟩, ?_⟩
    cases em : m (ro ix xs) S1.μ with
    | no => rw [em] at q; exact q
    | ok x μ' =>
      rw [em] at q
      simp only at q
      by_cases hμ : μ'.isSome = S1.μ.isSome
      · rw [if_pos hμ] at q
        intro v H' g2
        obtain ⟨Z', η', C', g2⟩ := g2
        obtain ⟨C2, b⟩ := a4.back hW ro' pc g2 hμ
        exact q v H' (fun z => nomatch z) ⟨Z', η', C2, b⟩
      · rw [if_neg hμ] at q
        exact q.elim
    | ex c fl μ' =>
      rw [em] at q
      simp only at q
      by_cases hμ : μ'.isSome = S1.μ.isSome
      · rw [if_pos hμ] at q
        intro H' cls d g2
        obtain ⟨Z', η', C', g3, hc, hd⟩ := g2
        obtain ⟨C2, b⟩ := a4.back hW ro' pc g3 hμ
        have b2 : AsnC X.K X.mg F ([] ++ R) ⟨S1.v, μ'⟩ σ H' Z' η' C2 := b
        obtain ⟨C3, b3⟩ := b2.perm (S' := ⟨S1.v, μ'⟩) (σ' := σ) (R' := []) (E := R) b2.sl b2.ml (by simp)
        exact q H' cls d ⟨Z', η', C3, b3, hc, hd⟩
      · rw [if_neg hμ] at q
        exact q.elim
theorem rd_callP {σ : L2.St} {H : Hp} {Q : VK} (n : Nat) (hn : ∀ xs : List D, (∃ u, m (ro ix xs) u ≠ .no) → (ro ix xs).length = n) (h : RdO X.K X.mg F W p (xCallP m ix A) σ H Q) : RdA X.K X.mg F W p A σ H fun vs H1 => spF X.K X.mg n m (ro ix vs) H1 Q (WE W σ) := by
  obtain ⟨R, S, a, q⟩ := h
  refine ⟨R, S, a, ?_⟩
  unfold xCallP at q
  cases e : A S with
  | no => simp only [e, Rs.bind_no] at q
  | ex c fl S' => simp only [e, Rs.bind_ex] at q; exact q
  | ok xs S1 =>
    simp only [e, Rs.bind_ok] at q
    intro vs H1 s1 l1 a1
    obtain ⟨Z, η, C, a2⟩ := a1
    obtain ⟨r1, a3⟩ := a2.takeDs l1
    have r2 := ro_reps (ix := ix) r1
    have l2 : (ro ix vs).length = (ro ix xs).length := r2.length.symm
    have a4 := a3.addDs r2
    have g := a4.calleeP l2
    have hl : (ro ix xs).length = n := hn xs (by
      refine ⟨none, fun z => ?_⟩
      rw [z] at q; exact q)
    refine ⟨Z, η, _, none, ro ix xs, hl, l2, ⟨Z, η, _, g⟩, ?_⟩
    cases em : m (ro ix xs) none with
    | no => rw [em] at q; exact q
    | ok x μ' =>
      rw [em] at q
      cases μ' with
      | some _ => exact q.elim
      | none =>
        intro v H' g2
        obtain ⟨Z', η', C', g2⟩ := g2
        obtain ⟨sm, C2, b⟩ := a4.backP l2 g2
        exact q v H' (fun z => (s1 z).trans sm) ⟨Z', η', C2, b⟩
    | ex c fl μ' =>
      rw [em] at q
      cases μ' with
      | some _ => exact q.elim
      | none =>
        intro H' cls d g2
        obtain ⟨Z', η', C', g3, hc, hd⟩ := g2
        obtain ⟨sm, C2, b⟩ := a4.backP l2 g3
        have b2 : AsnC X.K X.mg F ([] ++ R) S1 σ H' Z' η' C2 := b
        obtain ⟨C3, b3⟩ := b2.perm (S' := S1) (σ' := σ) (R' := []) (E := R) b2.sl b2.ml (by simp)
        exact q H' cls d ⟨Z', η', C3, b3, hc, hd⟩
/-- a function that answers only lists of n -/
def Ar (m : Mf) (n : Nat) : Prop := ∀ xs u, xs.length ≠ n → m xs u = .no
theorem Ar.len (h : Ar m k) : ∀ xs : List D, (∃ u, m (ro ix xs) u ≠ .no) → (ro ix xs).length = k := fun xs ⟨u, hu⟩ => by
  by_cases e : (ro ix xs).length = k
  · exact e
  · exact absurd (h _ u e) hu
/-- f(..) -/
theorem eo_call (Fk : FO X k f fd ps m) (har : Ar m ps.length) (hr : Room k X.A) (hm : X.mg x = some (.ref f)) (hb : Bn fd ps es.length ks ix) (tk : Takes X W) (cw : CWA X F W (.ref f) [] es kws pos ks p A) (hix : ks = [] → ix = none ∧ es.length = ps.length := by first | exact fun _ => ⟨rfl, rfl⟩ | exact fun z => nomatch z)
    (hg : Gl X x := by rfl) (hdb : (x == ("__debug__" : Str)) = false := by decide) : EO_ X F W (.Call (.Name x p0) es kws pos) false (xCall m ix A) := by
  refine ⟨fun pins s σ H Q I h => ?_⟩
  refine wpAny_Call_Name_kw (ld_glob I hg hm ?_ hdb)
  refine cw pins s σ H _ _ I (rd_call (p := p) ps.length har.len h) fun us ws vs s2 H2 I2 r z1 z2 q => ?_
  by_cases hks : ks = []
  · obtain ⟨rfl, e2⟩ := hix hks
    obtain rfl := z1 hks
    have lv : vs.length = ps.length := by
      obtain ⟨_, _, _, _, ds, l1, l2, _⟩ := q
      exact l2.trans l1
    refine run_fo Fk hr hb tk I2 r ?_ (by rw [hks]; rfl) q
    have := r.length
    rw [List.append_nil] at this
    rw [List.nil_append]
    omega
  · obtain ⟨l1, l2⟩ := z2 hks
    exact run_fo Fk hr hb tk I2 r l1 l2 q
theorem eo_callP (Fk : FO X k f fd ps m) (har : Ar m ps.length) (hr : Room k X.A) (hm : X.mg x = some (.ref f)) (hb : Bn fd ps es.length ks ix) (tk : Takes X W) (cw : CWA X F W (.ref f) [] es kws pos ks p A) (hix : ks = [] → ix = none ∧ es.length = ps.length := by first | exact fun _ => ⟨rfl, rfl⟩ | exact fun z => nomatch z)
    (hg : Gl X x := by rfl) (hdb : (x == ("__debug__" : Str)) = false := by decide) : EO_ X F W (.Call (.Name x p0) es kws pos) p (xCallP m ix A) := by
  refine ⟨fun pins s σ H Q I h => ?_⟩
  refine wpAny_Call_Name_kw (ld_glob I hg hm ?_ hdb)
  refine cw pins s σ H _ _ I (rd_callP (p := p) ps.length har.len h) fun us ws vs s2 H2 I2 r z1 z2 q => ?_
  by_cases hks : ks = []
  · obtain ⟨rfl, e2⟩ := hix hks
    obtain rfl := z1 hks
    have lv : vs.length = ps.length := by
      obtain ⟨_, _, _, _, ds, l1, l2, _⟩ := q
      exact l2.trans l1
    refine run_fo Fk hr hb tk I2 r ?_ (by rw [hks]; rfl) q
    have := r.length
    rw [List.append_nil] at this
    rw [List.nil_append]
    omega
  · obtain ⟨l1, l2⟩ := z2 hks
    exact run_fo Fk hr hb tk I2 r l1 l2 q
end
end Mi
end
section
set_option Elab.async false
set_option linter.all false
set_option maxRecDepth 100000
set_option maxHeartbeats 2000000
/-! Mi6: and, or, not, if; displays, indices, slices, built-in functions. -/
namespace Mi
open PySem PySem.Spec PyProof.Rows L2

/-! ### tests -/
def xAnd (A B : XT) : XT := fun S => (A S).bind fun c S1 => match c with
  | true => B S1
  | false => .ok false S1
def xOr (A B : XT) : XT := fun S => (A S).bind fun c S1 => match c with
  | true => .ok true S1
  | false => B S1
def xNot (A : XT) : XT := fun S => (A S).bind fun c S1 => .ok (!c) S1
def xAndV (A B : XD) : XD := fun S => (A S).bind fun x S1 => match x with
  | .bl true => B S1
  | .bl false => .ok (.bl false) S1
  | _ => .no
def xOrV (A B : XD) : XD := fun S => (A S).bind fun x S1 => match x with
  | .bl true => .ok (.bl true) S1
  | .bl false => B S1
  | _ => .no
def xNotV (A : XD) : XD := fun S => (A S).bind fun x S1 => match x with
  | .bl c => .ok (.bl (!c)) S1
  | _ => .no
def xIf (T : XT) (A B : XD) : XD := fun S => (T S).bind fun c S1 => match c with
  | true => A S1
  | false => B S1
section
variable {X : Cx} {F : Frm} {W : WX} {p p1 p2 p3 : Bool} {a b c : Expr} {rest : List Expr} {A B : XD} {T U : XT} {pos : Pos}
theorem w_and1 (ha : ET_ X F W a p T) : EW_ X F W (.BoolOp .And [a] pos) p T := pw_and1 ha
theorem w_or1 (ha : ET_ X F W a p T) : EW_ X F W (.BoolOp .Or [a] pos) p T := pw_or1 ha
theorem w_and (ha : ET_ X F W a p1 T) (hb : EW_ X F W (.BoolOp .And (b :: rest) pos) p2 U) : EW_ X F W (.BoolOp .And (a :: b :: rest) pos) (p1 && p2) (xAnd T U) := by
  refine PW.imp (pw_and ha hb) fun σ H Q h => ?_
  obtain ⟨R, S, a, q⟩ := h
  refine ⟨R, S, a, ?_⟩
  unfold xAnd at q
  cases e : T S with
  | no => simp only [e, Rs.bind_no] at q
  | ex c fl S' => simp only [e, Rs.bind_ex] at q; exact q
  | ok x S' =>
    simp only [e, Rs.bind_ok] at q
    intro H1 s1 a1
    cases x with
    | true =>
      rw [if_pos rfl]
      refine ⟨R, S', a1, ?_⟩
      simp only at q
      cases e2 : U S' with
      | no => simp only [e2] at q
      | ex c fl S2 => simp only [e2] at q; exact q
      | ok y S2 =>
        simp only [e2] at q
        intro H2 s2 a2
        exact q H2 (fun hp => by rw [Bool.and_eq_true] at hp; exact (s1 hp.1).trans (s2 hp.2)) a2
    | false =>
      rw [if_neg Bool.false_ne_true]
      exact q H1 (fun hp => by rw [Bool.and_eq_true] at hp; exact s1 hp.1) a1
theorem w_or (ha : ET_ X F W a p1 T) (hb : EW_ X F W (.BoolOp .Or (b :: rest) pos) p2 U) : EW_ X F W (.BoolOp .Or (a :: b :: rest) pos) (p1 && p2) (xOr T U) := by
  refine PW.imp (pw_or ha hb) fun σ H Q h => ?_
  obtain ⟨R, S, a, q⟩ := h
  refine ⟨R, S, a, ?_⟩
  unfold xOr at q
  cases e : T S with
  | no => simp only [e, Rs.bind_no] at q
  | ex c fl S' => simp only [e, Rs.bind_ex] at q; exact q
  | ok x S' =>
    simp only [e, Rs.bind_ok] at q
    intro H1 s1 a1
    cases x with
    | false =>
      rw [if_neg Bool.false_ne_true]
      refine ⟨R, S', a1, ?_⟩
      simp only at q
      cases e2 : U S' with
      | no => simp only [e2] at q
      | ex c fl S2 => simp only [e2] at q; exact q
      | ok y S2 =>
        simp only [e2] at q
        intro H2 s2 a2
        exact q H2 (fun hp => by rw [Bool.and_eq_true] at hp; exact (s1 hp.1).trans (s2 hp.2)) a2
    | true =>
      rw [if_pos rfl]
      exact q H1 (fun hp => by rw [Bool.and_eq_true] at hp; exact s1 hp.1) a1
theorem t_bool {op : BoolOp} {vs : List Expr} (h : EW_ X F W (.BoolOp op vs pos) p T) : ET_ X F W (.BoolOp op vs pos) p T := PW.pt h
theorem t_not (ha : ET_ X F W a p T) : ET_ X F W (.UnaryOp .Not a pos) p (xNot T) := by
  refine PT.imp (pt_not ha) fun σ H Q h => ?_
  obtain ⟨R, S, a, q⟩ := h
  refine ⟨R, S, a, ?_⟩
  unfold xNot at q
  cases e : T S with
  | no => simp only [e, Rs.bind_no] at q
  | ex c fl S' => simp only [e, Rs.bind_ex] at q; exact q
  | ok x S' => simp only [e, Rs.bind_ok] at q; exact q
theorem e_one {op} (h : E_ X F W a p A) : E_ X F W (.BoolOp op [a] pos) p A := pe_one h
/-- a bool read off a root -/
theorem Asn.bl_ex {K : PySem.W.Frag} {mg : Str → Option Value} {F : Frm} {R : Roots} {S : AS} {σ : L2.St} {H : Hp} {k : Bool} {v : V} (h : Asn K mg F ((.d (.bl k), v) :: R) S σ H) : v = .bl k ∧ Asn K mg F R S σ H := ⟨h.isBl, h.drop⟩
theorem e_and (ha : E_ X F W a p1 A) (hb : E_ X F W (.BoolOp .And (b :: rest) pos) p2 B) : E_ X F W (.BoolOp .And (a :: b :: rest) pos) (p1 && p2) (xAndV A B) := by
  refine PE.imp (pe_and ha hb) fun σ H Q h => ?_
  refine rd_elim h fun R S x S' a e q v H1 s1 a1 => ?_
  cases x with
  | bl k =>
    obtain ⟨rfl, a2⟩ := a1.bl_ex
    refine ⟨k, rfl, ?_⟩
    cases k with
    | true =>
      rw [if_pos rfl]
      refine ⟨R, S', a2, ?_⟩
      simp only at q
      cases e2 : B S' with
      | no => simp only [e2] at q
      | ex c fl S2 => simp only [e2] at q; exact q
      | ok y S2 =>
        simp only [e2] at q
        intro u H2 s2 a3
        exact q u H2 (fun hp => by rw [Bool.and_eq_true] at hp; exact (s1 hp.1).trans (s2 hp.2)) a3
    | false =>
      rw [if_neg Bool.false_ne_true]
      exact q _ H1 (fun hp => by rw [Bool.and_eq_true] at hp; exact s1 hp.1) a1
  | _ => exact q.elim
theorem e_or (ha : E_ X F W a p1 A) (hb : E_ X F W (.BoolOp .Or (b :: rest) pos) p2 B) : E_ X F W (.BoolOp .Or (a :: b :: rest) pos) (p1 && p2) (xOrV A B) := by
  refine PE.imp (pe_or ha hb) fun σ H Q h => ?_
  refine rd_elim h fun R S x S' a e q v H1 s1 a1 => ?_
  cases x with
  | bl k =>
    obtain ⟨rfl, a2⟩ := a1.bl_ex
    refine ⟨k, rfl, ?_⟩
    cases k with
    | false =>
      rw [if_neg Bool.false_ne_true]
      refine ⟨R, S', a2, ?_⟩
      simp only at q
      cases e2 : B S' with
      | no => simp only [e2] at q
      | ex c fl S2 => simp only [e2] at q; exact q
      | ok y S2 =>
        simp only [e2] at q
        intro u H2 s2 a3
        exact q u H2 (fun hp => by rw [Bool.and_eq_true] at hp; exact (s1 hp.1).trans (s2 hp.2)) a3
    | true =>
      rw [if_pos rfl]
      exact q _ H1 (fun hp => by rw [Bool.and_eq_true] at hp; exact s1 hp.1) a1
  | _ => exact q.elim
theorem e_not (ha : E_ X F W a p A) : E_ X F W (.UnaryOp .Not a pos) p (xNotV A) := by
  refine PE.imp (pe_not ha) fun σ H Q h => ?_
  refine rd_elim h fun R S x S' a e q v H1 s1 a1 => ?_
  cases x with
  | bl k =>
    obtain ⟨rfl, a2⟩ := a1.bl_ex
    exact ⟨k, rfl, q _ H1 s1 (a2.addS fun _ _ => .bl)⟩
  | _ => exact q.elim
theorem e_if (hc : ET_ X F W c p1 T) (ha : E_ X F W a p2 A) (hb : E_ X F W b p3 B) : E_ X F W (.IfExp c a b pos) (p1 && p2 && p3) (xIf T A B) := by
  refine PE.imp (pe_ifExp hc ha hb) fun σ H Q h => ?_
  obtain ⟨R, S, a, q⟩ := h
  refine ⟨R, S, a, ?_⟩
  unfold xIf at q
  cases e : T S with
  | no => simp only [e, Rs.bind_no] at q
  | ex c fl S' => simp only [e, Rs.bind_ex] at q; exact q
  | ok x S' =>
    simp only [e, Rs.bind_ok] at q
    intro H1 s1 a1
    cases x with
    | true =>
      rw [if_pos rfl]
      refine ⟨R, S', a1, ?_⟩
      simp only at q
      cases e2 : A S' with
      | no => simp only [e2] at q
      | ex c fl S2 => simp only [e2] at q; exact q
      | ok y S2 =>
        simp only [e2] at q
        intro u H2 s2 a2
        exact q u H2 (fun hp => by rw [Bool.and_eq_true, Bool.and_eq_true] at hp; exact (s1 hp.1.1).trans (s2 hp.1.2)) a2
    | false =>
      rw [if_neg Bool.false_ne_true]
      refine ⟨R, S', a1, ?_⟩
      simp only at q
      cases e2 : B S' with
      | no => simp only [e2] at q
      | ex c fl S2 => simp only [e2] at q; exact q
      | ok y S2 =>
        simp only [e2] at q
        intro u H2 s2 a2
        exact q u H2 (fun hp => by rw [Bool.and_eq_true, Bool.and_eq_true] at hp; exact (s1 hp.1.1).trans (s2 hp.2)) a2
end

/-! ### displays -/
def xLst (A : XA) : XD := fun S => (A S).bind fun xs S1 => if xs.length ≤ sizeLine then .ok (.lst xs) S1 else .no
def xTup (A : XA) : XD := fun S => (A S).bind fun xs S1 => if xs.length ≤ sizeLine then .ok (.tup xs) S1 else .no
def xLstO (A : XA) : XO := fun S => (A S).bind fun xs S1 => if xs.length ≤ sizeLine then .ok (.own (xs.map .d)) S1 else .no
section
variable {X : Cx} {F : Frm} {W : WX} {p p1 p2 p3 : Bool} {es : List Expr} {A : XA} {pos : Pos}
theorem rdA_elim {β : Type} {σ : L2.St} {H : Hp} {Q : List V → Hp → Prop} {B : List D → AS → Rs β} {P : Rs β → Prop} (hno : P .no → False) (hex : ∀ c fl S, P (.ex c fl S) → ∀ H' cls d, ExA X.K X.mg F S σ H' c fl cls d → W cls d σ H')
    (h : ∃ R S, Asn X.K X.mg F R S σ H ∧ P ((A S).bind B) ∧ ∀ xs S', A S = .ok xs S' → P (B xs S') → ∀ vs H', (p = true → Same H H') → vs.length = xs.length → Asn X.K X.mg F (tz (xs.map .d) vs ++ R) S' σ H' → Q vs H') : RdA X.K X.mg F W p A σ H Q := by
  obtain ⟨R, S, a, q, k⟩ := h
  refine ⟨R, S, a, ?_⟩
  cases e : A S with
  | no => rw [e] at q; exact hno q
  | ex c fl S' => rw [e] at q; exact hex c fl S' q
  | ok xs S' => rw [e] at q; exact k xs S' e q
theorem e_lst (ha : EA_ X F W es p A) : E_ X F W (.List es pos) p (xLst A) := by
  refine PE.imp (pe_lst ha) fun σ H Q h => ?_
  obtain ⟨R, S, a, q⟩ := h
  refine ⟨R, S, a, ?_⟩
  unfold xLst at q
  cases e : A S with
  | no => simp only [e, Rs.bind_no] at q
  | ex c fl S' => simp only [e, Rs.bind_ex] at q; exact q
  | ok xs S' =>
    simp only [e, Rs.bind_ok] at q
    intro vs H1 s1 l1 a1
    by_cases hl : xs.length ≤ sizeLine
    · rw [if_pos hl] at q
      exact ⟨by rw [l1]; exact hl, fun pp hp => q _ _ (fun z => (s1 z).trans (same_upd hp)) (a1.newLst l1 hp)⟩
    · rw [if_neg hl] at q; exact q.elim
theorem e_tup {k : Nat} (ha : EA_ X F W es p A) : E_ X F W (.Tuple es k pos) p (xTup A) := by
  refine PE.imp (pe_tup ha) fun σ H Q h => ?_
  obtain ⟨R, S, a, q⟩ := h
  refine ⟨R, S, a, ?_⟩
  unfold xTup at q
  cases e : A S with
  | no => simp only [e, Rs.bind_no] at q
  | ex c fl S' => simp only [e, Rs.bind_ex] at q; exact q
  | ok xs S' =>
    simp only [e, Rs.bind_ok] at q
    intro vs H1 s1 l1 a1
    by_cases hl : xs.length ≤ sizeLine
    · rw [if_pos hl] at q
      exact ⟨by rw [l1]; exact hl, fun pp hp => q _ _ (fun z => (s1 z).trans (same_upd hp)) (a1.newTup l1 hp)⟩
    · rw [if_neg hl] at q; exact q.elim
theorem AsnC.newOwn {K : PySem.W.Frag} {mg : Str → Option Value} {R : Roots} {S : AS} {σ : L2.St} {H Z : Hp} {η : List Addr} {C : Cl} {xs : List D} {vs : List V} {pp : Addr} (h : AsnC K mg F R S σ H Z η C) (r : Reps K mg Z η xs vs) (hp : H pp = none) : Asn K mg F ((.own (xs.map .d), .ref pp) :: R) S σ (upd H pp (.lst vs)) :=
  ⟨Z, η, _, AsnC.newC (R0 := []) (C0 := []) (C1 := C) h hp .nil h.rep (.own r.os)⟩
theorem eo_lst (ha : EA_ X F W es p A) : EO_ X F W (.List es pos) p (xLstO A) := by
  refine PE.imp (pe_lst ha) fun σ H Q h => ?_
  obtain ⟨R, S, a, q⟩ := h
  refine ⟨R, S, a, ?_⟩
  unfold xLstO at q
  cases e : A S with
  | no => simp only [e, Rs.bind_no] at q
  | ex c fl S' => simp only [e, Rs.bind_ex] at q; exact q
  | ok xs S' =>
    simp only [e, Rs.bind_ok] at q
    intro vs H1 s1 l1 a1
    by_cases hl : xs.length ≤ sizeLine
    · rw [if_pos hl] at q
      refine ⟨by rw [l1]; exact hl, fun pp hp => q _ _ (fun z => (s1 z).trans (same_upd hp)) ?_⟩
      obtain ⟨Z, η, C, a2⟩ := a1
      obtain ⟨r, a3⟩ := a2.takeDs l1
      exact a3.newOwn r hp
    · rw [if_neg hl] at q; exact q.elim
/-- {} -/
theorem e_dict0 : E_ X F W (.Dict [] [] pos) true (xC (.dct [])) := by
  refine PE.imp pe_dnewK fun σ H Q h => ?_
  obtain ⟨R, S, a, q⟩ := h
  intro pp hp
  refine q _ _ (fun _ => same_upd hp) ?_
  obtain ⟨Z, η, C, a⟩ := a
  exact ⟨_, η, C, (a.newZ hp).addD (.dct upd_same .nil)⟩
end

/-! ### indices, slices -/
def D.at? (l : List D) (i : Int) : Option D := atI l i
def gIdx : D → D → Option D
  | .lst xs, .int i => atI xs i
  | .scr xs, .int i => atI xs i
  | .tup xs, .int i => atI xs i
  | .str z, .int i => if z.length ≤ sizeLine then (atI z.cps.toList i).map fun c => .str ⟨#[c]⟩ else none
  | _, _ => none
theorem atI_reps {K : PySem.W.Frag} {mg : Str → Option Value} {Z : Hp} {η : List Addr} {xs : List D} {vs : List V} {i : Int} {x : D} (r : Reps K mg Z η xs vs) (e : atI xs i = some x) : ∃ v, atI vs i = some v ∧ Rep K mg Z η x v := by
  unfold atI at e ⊢
  rw [← r.length]
  rw [Option.bind_eq_some_iff] at e
  obtain ⟨j, e1, e2⟩ := e
  obtain ⟨v, e3, rv⟩ := r.get e2
  exact ⟨v, by rw [e1]; exact e3, rv⟩
section
variable {X : Cx} {F : Frm} {W : WX} {p p1 p2 p3 : Bool} {a b : Expr} {A B : XD} {pos p2' : Pos}
/-- both readings at once -/
theorem PE.or {e : Expr} {t t' : TE} (h : PE X e t) (h' : PE X e t') : PE X e (fun σ H Q => t σ H Q ∨ t' σ H Q) := ⟨fun pins s σ H Q I q => q.elim (h.run pins s σ H Q I) (h'.run pins s σ H Q I)⟩
theorem og_idx {H : Hp} {R : Roots} {S : AS} {σ : L2.St} {Z : Hp} {η : List Addr} {C : Cl} {x y z : D} {v w : V} {Q : VK} (a : AsnC X.K X.mg F R S σ H Z η C) (hx : RepT X.K X.mg H Z η x v) (hy : RepT X.K X.mg H Z η y w) (e : gIdx x y = some z)
    (k : ∀ u H', Same H H' → Asn X.K X.mg F ((.d z, u) :: R) S σ H' → Q u H') : rIx X.K v w H Q := by
  cases y with
  | int i =>
    obtain rfl := hy.isInt
    cases x with
    | lst xs =>
      obtain ⟨pa, vx, rfl, ha, r⟩ := hx.isLst a.zh
      obtain ⟨v', e2, rv⟩ := atI_reps r e
      exact .inl ⟨_, _, _, _, rfl, rfl, .of ha, e2, k _ _ (Same.refl _) ⟨Z, η, C, a.addD rv⟩⟩
    | scr xs =>
      obtain ⟨pa, vx, rfl, ha, r⟩ := hx.isScr a.zh
      obtain ⟨v', e2, rv⟩ := atI_reps r e
      exact .inl ⟨_, _, _, _, rfl, rfl, ha, e2, k _ _ (Same.refl _) ⟨Z, η, C, a.addD rv⟩⟩
    | tup xs =>
      obtain ⟨pa, vx, rfl, ha, r, _⟩ := hx.isTup a.zh
      obtain ⟨v', e2, rv⟩ := atI_reps r e
      exact .inr (.inl ⟨_, _, _, _, rfl, rfl, ha, e2, k _ _ (Same.refl _) ⟨Z, η, C, a.addD rv⟩⟩)
    | str z' =>
      obtain rfl := hx.isStr
      simp only [gIdx] at e
      by_cases hl : z'.length ≤ sizeLine
      · rw [if_pos hl, Option.map_eq_some_iff] at e
        obtain ⟨c, e2, rfl⟩ := e
        exact .inr (.inr ⟨_, _, c, rfl, rfl, hl, e2, k _ _ (Same.refl _) ⟨Z, η, C, a.addD .str⟩⟩)
      · rw [if_neg hl] at e; cases e
    | _ => simp [gIdx] at e
  | _ => cases x <;> simp [gIdx] at e
theorem e_idx (ha : E_ X F W a p1 A) (hb : E_ X F W b p2 B) (hs : PlainIx b := by exact fun _ _ => rfl) : E_ X F W (.Subscript a b pos) (p1 && p2) (xB gIdx A B) :=
  PE.imp (pe_ix ix_seq ha hb hs) fun σ H Q h => rd2 h fun R S x y z v w H' Z η C a rx ry e k => og_idx a rx ry e k

/-- a slice's parts -/
abbrev XP := AS → Rs (Option Int)
def RdP (K : PySem.W.Frag) (mg : Str → Option Value) (F : Frm) (W : WX) (p : Bool) (A : XP) : TO := fun σ H Q => ∃ R S, Asn K mg F R S σ H ∧ match A S with
  | .ok x S' => ∀ H', (p = true → Same H H') → Asn K mg F R S' σ H' → Q x H'
  | .ex c fl S' => ∀ H' cls d, ExA K mg F S' σ H' c fl cls d → W cls d σ H'
  | .no => False
abbrev EP_ (X : Cx) (F : Frm) (W : WX) (e : Option Expr) (p : Bool) (A : XP) : Prop := PO X e (RdP X.K X.mg F W p A)
theorem PO.imp {e : Option Expr} {t t' : TO} (h : PO X e t) (m : ∀ σ H Q, t' σ H Q → t σ H Q) : PO X e t' := ⟨fun pins s σ H Q I q => h.run pins s σ H Q I (m σ H Q q)⟩
def xP0 : XP := fun S => .ok none S
def xP1 (A : XD) : XP := fun S => (A S).bind fun x S1 => match x with
  | .int i => .ok (some i) S1
  | _ => .no
theorem p_none : EP_ X F W none true xP0 := PO.imp po_none fun σ H Q h => by
  obtain ⟨R, S, a, q⟩ := h
  exact q H (fun _ => Same.refl H) a
theorem p_some (ha : E_ X F W a p A) : EP_ X F W (some a) p (xP1 A) := PO.imp (po_some ha) fun σ H Q h => by
  obtain ⟨R, S, a, q⟩ := h
  refine ⟨R, S, a, ?_⟩
  unfold xP1 at q
  cases e : A S with
  | no => simp only [e, Rs.bind_no] at q
  | ex c fl S' => simp only [e, Rs.bind_ex] at q; exact q
  | ok x S' =>
    simp only [e, Rs.bind_ok] at q
    intro v H1 s1 a1
    cases x with
    | int i =>
      obtain rfl := a1.isInt
      exact ⟨i, rfl, q H1 s1 a1.drop⟩
    | _ => exact q.elim
def cutD (xs : List D) (lo hi : Option Int) : List D := (xs.drop (HT.sIx xs.length 0 lo)).take (HT.sIx xs.length xs.length hi - HT.sIx xs.length 0 lo)
def gSl (x : D) (lo hi : Option Int) : Option D := match x with
  | .lst xs => some (.lst (cutD xs lo hi))
  | .scr xs => some (.lst (cutD xs lo hi))
  | .tup xs => some (.tup (cutD xs lo hi))
  | .str z => if z.length ≤ sizeLine then some (.str (cutS z lo hi)) else none
  | _ => none
def xSl (A : XD) (B C : XP) : XD := fun S => (A S).bind fun x S1 => (B S1).bind fun lo S2 => (C S2).bind fun hi S3 => match gSl x lo hi with
  | some z => .ok z S3
  | none => .no
theorem cut_reps {K : PySem.W.Frag} {mg : Str → Option Value} {Z : Hp} {η : List Addr} {xs : List D} {vs : List V} {lo hi : Option Int} (r : Reps K mg Z η xs vs) : Reps K mg Z η (cutD xs lo hi) (cutV vs lo hi) := by
  unfold cutD cutV
  rw [← r.length]
  exact (r.drop _).take _
theorem og_sl {H : Hp} {R : Roots} {S : AS} {σ : L2.St} {Z : Hp} {η : List Addr} {C : Cl} {x z : D} {lo hi : Option Int} {v : V} {Q : VK} (a : AsnC X.K X.mg F R S σ H Z η C) (hx : RepT X.K X.mg H Z η x v) (e : gSl x lo hi = some z)
    (k : ∀ u H', Same H H' → Asn X.K X.mg F ((.d z, u) :: R) S σ H' → Q u H') : rSlL X.K v lo hi H Q ∨ rSlS v lo hi H Q ∨ rSlA X.K v lo hi H Q := by
  cases x with
  | lst xs =>
    simp only [gSl, Option.some.injEq] at e; subst e
    obtain ⟨pa, vx, rfl, ha, r⟩ := hx.isLst a.zh
    exact .inl ⟨_, _, rfl, .of ha, fun pp hp => k _ _ (same_upd hp) (a.newLst (cut_reps r) hp)⟩
  | scr xs =>
    simp only [gSl, Option.some.injEq] at e; subst e
    obtain ⟨pa, vx, rfl, ha, r⟩ := hx.isScr a.zh
    exact .inl ⟨_, _, rfl, ha, fun pp hp => k _ _ (same_upd hp) (a.newLst (cut_reps r) hp)⟩
  | str zz =>
    simp only [gSl] at e
    obtain rfl := hx.isStr
    by_cases hl : zz.length ≤ sizeLine
    · rw [if_pos hl] at e
      simp only [Option.some.injEq] at e; subst e
      exact .inr (.inl ⟨_, rfl, hl, k _ _ (Same.refl _) ⟨Z, η, C, a.addD .str⟩⟩)
    · rw [if_neg hl] at e; cases e
  | tup xs =>
    simp only [gSl, Option.some.injEq] at e; subst e
    obtain ⟨pa, vx, rfl, ha, r, hr⟩ := hx.isTup a.zh
    refine .inr (.inr ⟨_, _, rfl, ha, fun hw => ?_, fun _ pp hp => k _ _ (same_upd hp) (a.newTup (cut_reps r) hp)⟩)
    have e5 : cutD xs lo hi = xs := by
      unfold cutD
      rw [r.length, hw.1, hw.2, List.drop_zero, Nat.sub_zero, ← r.length, List.take_length]
    rw [e5] at k
    exact k _ _ (Same.refl _) ⟨Z, η, C, a.addD hr⟩
  | _ => simp [gSl] at e
theorem e_slice {lo hi : Option Expr} {B C : XP} (ha : E_ X F W a p1 A) (hb : EP_ X F W lo p2 B) (hc : EP_ X F W hi p3 C) : E_ X F W (.Subscript a (.Slice lo hi none p2') pos) (p1 && p2 && p3) (xSl A B C) := by
  refine PE.imp (pe_slice (sl_list.or (sl_str.or sl_tupA)) ha hb hc) fun σ H Q h => ?_
  refine rd_elim h fun R S x S' a e q v H1 s1 a1 => ⟨_, _, a1, ?_⟩
  cases e2 : B S' with
  | no => simp only [e2, Rs.bind_no] at q
  | ex c fl S2 => simp only [e2, Rs.bind_ex] at q; exact q
  | ok y S2 =>
    simp only [e2, Rs.bind_ok] at q
    intro H2 s2 a2
    refine ⟨_, _, a2, ?_⟩
    cases e3 : C S2 with
    | no => simp only [e3, Rs.bind_no] at q
    | ex c fl S2 => simp only [e3, Rs.bind_ex] at q; exact q
    | ok z S3 =>
      simp only [e3, Rs.bind_ok] at q
      intro H3 s3 a3
      cases e4 : gSl x y z with
      | none => simp only [e4] at q
      | some t =>
        simp only [e4] at q
        obtain ⟨Z, η, C0, rx, a4⟩ := a3.top
        refine og_sl a4 (.of rx) e4 fun u H4 s4 a5 => q u H4 (fun hp => ?_) a5
        rw [Bool.and_eq_true, Bool.and_eq_true] at hp
        exact (s1 hp.1.1).trans ((s2 hp.1.2).trans ((s3 hp.2).trans s4))
end

/-! ### built-in functions of trees -/
def xG (g : List D → Option D) (A : XA) : XD := fun S => (A S).bind fun xs S1 => match g xs with
  | some z => .ok z S1
  | none => .no
inductive RepTs (K : PySem.W.Frag) (mg : Str → Option Value) (H Z : Hp) (η : List Addr) : List D → List V → Prop
  | nil : RepTs K mg H Z η [] []
  | cons {x v xs vs} : RepT K mg H Z η x v → RepTs K mg H Z η xs vs → RepTs K mg H Z η (x :: xs) (v :: vs)
theorem Reps.ts {K : PySem.W.Frag} {mg : Str → Option Value} {H Z : Hp} {η : List Addr} : ∀ {xs : List D} {vs : List V}, Reps K mg Z η xs vs → RepTs K mg H Z η xs vs
  | _, _, .nil => .nil
  | _, _, .cons h r => .cons (.of h) (Reps.ts r)
theorem RepTs.one {K : PySem.W.Frag} {mg : Str → Option Value} {H Z : Hp} {η : List Addr} {x : D} {vs : List V} (h : RepTs K mg H Z η [x] vs) : ∃ v, vs = [v] ∧ RepT K mg H Z η x v := by
  cases h with
  | cons h r => cases r; exact ⟨_, rfl, h⟩
theorem RepTs.two {K : PySem.W.Frag} {mg : Str → Option Value} {H Z : Hp} {η : List Addr} {x y : D} {vs : List V} (h : RepTs K mg H Z η [x, y] vs) : ∃ v w, vs = [v, w] ∧ RepT K mg H Z η x v ∧ RepT K mg H Z η y w := by
  cases h with
  | cons h r =>
    cases r with
    | cons h2 r => cases r; exact ⟨_, _, rfl, h, h2⟩
def CallG (X : Cx) (f : Value) (g : List D → Option D) : Prop := ∃ r, CallR X f r ∧ ∀ F R S σ H Z η C xs vs z Q, AsnC X.K X.mg F R S σ H Z η C → RepTs X.K X.mg H Z η xs vs → g xs = some z → (∀ u H', Same H H' → Asn X.K X.mg F ((.d z, u) :: R) S σ H' → Q u H') → r vs H Q
section
variable {X : Cx} {F : Frm} {W : WX} {p : Bool} {e : Expr} {es : List Expr} {A : XA} {p0 pos : Pos} {x : Str} {id T : String} {g : List D → Option D}
theorem rdG {σ : L2.St} {H : Hp} {Q : VK} {r : List V → Hp → VK → Prop} (h : Rd X.K X.mg F W p (xG g A) σ H Q)
    (f : ∀ R S xs vs z H' Z η C, AsnC X.K X.mg F R S σ H' Z η C → RepTs X.K X.mg H' Z η xs vs → g xs = some z → (∀ u H'', Same H' H'' → Asn X.K X.mg F ((.d z, u) :: R) S σ H'' → Q u H'') → r vs H' Q) : RdA X.K X.mg F W p A σ H fun vs H1 => r vs H1 Q := by
  obtain ⟨R, S, a, q⟩ := h
  refine ⟨R, S, a, ?_⟩
  unfold xG at q
  cases e : A S with
  | no => simp only [e, Rs.bind_no] at q
  | ex c fl S' => simp only [e, Rs.bind_ex] at q; exact q
  | ok xs S1 =>
    simp only [e, Rs.bind_ok] at q
    intro vs H1 s1 l1 a1
    cases e2 : g xs with
    | none => simp only [e2] at q
    | some z =>
      simp only [e2] at q
      obtain ⟨Z, η, C, b⟩ := a1
      obtain ⟨r1, b1⟩ := b.takeDs l1
      exact f R S1 xs vs z H1 Z η C b1 r1.ts e2 fun u H2 s2 a2 => q u H2 (fun hp => (s1 hp).trans s2) a2
theorem e_bi (hc : CallG X (.builtin id) g) (hm : X.mg x = none) (hv : bootBuiltins x = some (.builtin id)) (ha : EA_ X F W (e :: es) p A) (hg : Gl X x := by rfl) (hn : x ≠ "__name__" := by decide) (hdb : (x == ("__debug__" : Str)) = false := by decide)
    (he : starEach (e :: es) X.env = (false, eval e X.env) :: starEach es X.env := by rfl) (hpl : (backTo pos (starEach es X.env)).any (·.1) = false := by rfl) : E_ X F W (.Call (.Name x p0) (e :: es) [] pos) p (xG g A) := by
  obtain ⟨r, hr, hf⟩ := hc
  exact PE.imp (pe_callB hr hg hm hv ha hn hdb he hpl) fun σ H Q h => rdG h fun R S xs vs z H' Z η C a r e k => hf F R S σ H' Z η C xs vs z Q a r e k
theorem e_bt (hc : CallG X (.type T) g) (hm : X.mg x = none) (hv : bootBuiltins x = some (.type T)) (ha : EA_ X F W (e :: es) p A) (hg : Gl X x := by rfl) (hn : x ≠ "__name__" := by decide) (hdb : (x == ("__debug__" : Str)) = false := by decide)
    (he : starEach (e :: es) X.env = (false, eval e X.env) :: starEach es X.env := by rfl) (hpl : (backTo pos (starEach es X.env)).any (·.1) = false := by rfl) : E_ X F W (.Call (.Name x p0) (e :: es) [] pos) p (xG g A) := by
  obtain ⟨r, hr, hf⟩ := hc
  exact PE.imp (pe_callTy hr hg hm hv ha hn hdb he hpl) fun σ H Q h => rdG h fun R S xs vs z H' Z η C a r e k => hf F R S σ H' Z η C xs vs z Q a r e k
/-- a built-in type's name as a value -/
theorem e_ty {n : Tn} (hm : X.mg x = none) (hv : bootBuiltins x = some (.type n.nm)) (hg : Gl X x := by rfl) (hn : x ≠ "__name__" := by decide) (hdb : (x == ("__debug__" : Str)) = false := by decide) : E_ X F W (.Name x pos) true (xC (.ty n)) :=
  PE.imp (pe_bltn (v := .ty n.nm) hg hm hv rfl hn hdb) fun σ H Q h => rd_c (fun _ _ => .ty) h
end
def gLen : List D → Option D
  | [.lst xs] => some (.int xs.length)
  | [.scr xs] => some (.int xs.length)
  | [.tup xs] => some (.int xs.length)
  | [.dct xs] => some (.int xs.length)
  | [.str z] => if z.length ≤ sizeLine then some (.int z.length) else none
  | _ => none
theorem CallR.or {X : Cx} {f : Value} {r r' : List V → Hp → VK → Prop} (h : CallR X f r) (h' : CallR X f r') : CallR X f (fun vs H Q => r vs H Q ∨ r' vs H Q) := fun pins s σ H xs us Q I v q => q.elim (h pins s σ H xs us Q I v) (h' pins s σ H xs us Q I v)
theorem RepK.length {K : PySem.W.Frag} {mg : Str → Option Value} {Z : Hp} {η : List Addr} : ∀ {xs : List (Key × D)} {vs : List (Key × V)}, RepK K mg Z η xs vs → xs.length = vs.length
  | _, _, .nil => rfl
  | _, _, .cons _ r => by simp [RepK.length r]
section
variable {X : Cx}
theorem cg_len : CallG X (.builtin "len") gLen := by
  refine ⟨_, call_len.or call_lenD, fun F R S σ H Z η C xs vs z Q a l e k => ?_⟩
  match xs, l, e with
  | [], _, e => simp [gLen] at e
  | _ :: _ :: _, _, e => simp [gLen] at e
  | [x], l, e =>
    obtain ⟨v, rfl, hx⟩ := l.one
    have fin : ∀ n : Nat, z = .int n → Q (.int n) H := fun n hz => by
      subst hz
      exact k _ H (Same.refl H) ⟨Z, η, C, a.addD .int⟩
    cases x with
    | lst xs =>
      simp only [gLen, Option.some.injEq] at e
      obtain ⟨pa, vx, rfl, ha, r⟩ := hx.isLst a.zh
      exact .inl ⟨_, _, rfl, .inl ⟨_, .of ha, rfl⟩, fin _ (by rw [← r.length]; exact e.symm)⟩
    | scr xs =>
      simp only [gLen, Option.some.injEq] at e
      obtain ⟨pa, vx, rfl, ha, r⟩ := hx.isScr a.zh
      exact .inl ⟨_, _, rfl, .inl ⟨_, ha, rfl⟩, fin _ (by rw [← r.length]; exact e.symm)⟩
    | tup xs =>
      simp only [gLen, Option.some.injEq] at e
      obtain ⟨pa, vx, rfl, ha, r, _⟩ := hx.isTup a.zh
      exact .inl ⟨_, _, rfl, .inr ⟨_, ha, rfl⟩, fin _ (by rw [← r.length]; exact e.symm)⟩
    | dct xs =>
      simp only [gLen, Option.some.injEq] at e
      obtain ⟨pa, vx, rfl, ha, r⟩ := hx.isDct a.zh
      exact .inr ⟨_, _, rfl, ha, fin _ (by rw [← r.length]; exact e.symm)⟩
    | str z' =>
      simp only [gLen] at e
      by_cases hl : z'.length ≤ sizeLine
      · rw [if_pos hl] at e
        simp only [Option.some.injEq] at e
        obtain rfl := hx.isStr
        exact .inl ⟨_, z'.length, rfl, ⟨hl, rfl⟩, fin _ e.symm⟩
      · rw [if_neg hl] at e; cases e
    | _ => simp [gLen] at e
def gAbs : List D → Option D
  | [.int i] => some (.int (if i < 0 then -i else i))
  | _ => none
theorem cg_abs : CallG X (.builtin "abs") gAbs := by
  refine ⟨_, call_abs, fun F R S σ H Z η C xs vs z Q a l e k => ?_⟩
  match xs, l, e with
  | [], _, e => simp [gAbs] at e
  | _ :: _ :: _, _, e => simp [gAbs] at e
  | [x], l, e =>
    obtain ⟨v, rfl, hx⟩ := l.one
    cases x with
    | int i =>
      simp only [gAbs, Option.some.injEq] at e; subst e
      obtain rfl := hx.isInt
      exact ⟨i, rfl, k _ H (Same.refl H) ⟨Z, η, C, a.addD .int⟩⟩
    | _ => simp [gAbs] at e
def gInt : List D → Option D
  | [.int i] => some (.int i)
  | [.bl b] => some (.int (if b then 1 else 0))
  | _ => none
theorem cg_int : CallG X (.type "int") gInt := by
  refine ⟨_, call_int1, fun F R S σ H Z η C xs vs z Q a l e k => ?_⟩
  match xs, l, e with
  | [], _, e => simp [gInt] at e
  | _ :: _ :: _, _, e => simp [gInt] at e
  | [x], l, e =>
    obtain ⟨v, rfl, hx⟩ := l.one
    cases x with
    | int i =>
      simp only [gInt, Option.some.injEq] at e; subst e
      obtain rfl := hx.isInt
      exact .inl ⟨i, rfl, k _ H (Same.refl H) ⟨Z, η, C, a.addD .int⟩⟩
    | bl i =>
      simp only [gInt, Option.some.injEq] at e; subst e
      obtain rfl := hx.isBl
      exact .inr ⟨i, rfl, k _ H (Same.refl H) ⟨Z, η, C, a.addD .int⟩⟩
    | _ => simp [gInt] at e
def D.int? : D → Option Int
  | .int i => some i
  | _ => none
def D.bl? : D → Option Bool
  | .bl i => some i
  | _ => none
/-- all of a list by a partial function -/
def allOf {α β : Type} (f : α → Option β) : List α → Option (List β)
  | [] => some []
  | x :: xs => match f x, allOf f xs with
    | some y, some ys => some (y :: ys)
    | _, _ => none
theorem allOf_map {α β : Type} {f : α → Option β} {g : β → α} (h : ∀ b, f (g b) = some b) (bs : List β) : allOf f (bs.map g) = some bs := by
  induction bs with
  | nil => rfl
  | cons b bs ih => rw [List.map_cons, allOf, h, ih]
theorem reps_ints {K : PySem.W.Frag} {mg : Str → Option Value} {Z : Hp} {η : List Addr} : ∀ {xs : List D} {vs : List V} {ns : List Int}, Reps K mg Z η xs vs → allOf D.int? xs = some ns → vs = ns.map V.int
  | _, _, _, .nil, e => by simp [allOf] at e; subst e; rfl
  | _, _, ns, .cons (x := x) (xs := xs) h r, e => by
    simp only [allOf] at e
    cases x with
    | int i =>
      cases e2 : allOf D.int? xs with
      | none => rw [e2] at e; simp [D.int?] at e
      | some as =>
        rw [e2] at e; simp [D.int?] at e; subst e
        cases h
        rw [reps_ints r e2]; rfl
    | _ => simp [D.int?] at e
theorem reps_bls {K : PySem.W.Frag} {mg : Str → Option Value} {Z : Hp} {η : List Addr} : ∀ {xs : List D} {vs : List V} {ns : List Bool}, Reps K mg Z η xs vs → allOf D.bl? xs = some ns → vs = ns.map V.bl
  | _, _, _, .nil, e => by simp [allOf] at e; subst e; rfl
  | _, _, ns, .cons (x := x) (xs := xs) h r, e => by
    simp only [allOf] at e
    cases x with
    | bl i =>
      cases e2 : allOf D.bl? xs with
      | none => rw [e2] at e; simp [D.bl?] at e
      | some as =>
        rw [e2] at e; simp [D.bl?] at e; subst e
        cases h
        rw [reps_bls r e2]; rfl
    | _ => simp [D.bl?] at e
def D.lst? : D → Option (List D)
  | .lst xs => some xs
  | _ => none
theorem Asn.lst1 {K : PySem.W.Frag} {mg : Str → Option Value} {F : Frm} {R : Roots} {S : AS} {σ : L2.St} {H : Hp} {xs : List D} {v : V} (h : Asn K mg F ((.d (.lst xs), v) :: R) S σ H) : ∃ Z η C a vs, v = .ref a ∧ H a = some (.lst vs) ∧ Reps K mg Z η xs vs ∧ AsnC K mg F R S σ H Z η C := by
  obtain ⟨Z, η, C, r, h1⟩ := h.top
  cases r with
  | lst hz r => exact ⟨Z, η, C, _, _, rfl, h1.zh _ _ hz, r, h1⟩
def gSum : List D → Option D
  | [.lst xs] => (allOf D.int? xs).map fun ns => .int ns.sum
  | _ => none
theorem cg_sum (hc : X.calm = true) : CallG X (.builtin "sum") gSum := by
  refine ⟨_, cr_sum hc, fun F R S σ H Z η C xs vs z Q a l e k => ?_⟩
  match xs, l, e with
  | [], _, e => simp [gSum] at e
  | _ :: _ :: _, _, e => simp [gSum] at e
  | [x], l, e =>
    obtain ⟨v, rfl, hx⟩ := l.one
    cases x with
    | lst xs =>
      simp only [gSum, Option.map_eq_some_iff] at e
      obtain ⟨ns, e1, rfl⟩ := e
      obtain ⟨aa, ws, rfl, hh, r⟩ := hx.isLst a.zh
      exact ⟨aa, ns, rfl, .of (by rw [← reps_ints r e1]; exact hh), k _ H (Same.refl H) ⟨Z, η, C, a.addD .int⟩⟩
    | _ => simp [gSum] at e
def gAll : List D → Option D
  | [.lst xs] => (allOf D.bl? xs).map fun ns => .bl (ns.all id)
  | _ => none
def gAny : List D → Option D
  | [.lst xs] => (allOf D.bl? xs).map fun ns => .bl (ns.any id)
  | _ => none
theorem cg_all (hc : X.calm = true) : CallG X (.builtin "all") gAll := by
  refine ⟨_, cr_all hc, fun F R S σ H Z η C xs vs z Q a l e k => ?_⟩
  match xs, l, e with
  | [], _, e => simp [gAll] at e
  | _ :: _ :: _, _, e => simp [gAll] at e
  | [x], l, e =>
    obtain ⟨v, rfl, hx⟩ := l.one
    cases x with
    | lst xs =>
      simp only [gAll, Option.map_eq_some_iff] at e
      obtain ⟨ns, e1, rfl⟩ := e
      obtain ⟨aa, ws, rfl, hh, r⟩ := hx.isLst a.zh
      exact ⟨aa, ns, rfl, .of (by rw [← reps_bls r e1]; exact hh), k _ H (Same.refl H) ⟨Z, η, C, a.addD .bl⟩⟩
    | _ => simp [gAll] at e
theorem cg_any (hc : X.calm = true) : CallG X (.builtin "any") gAny := by
  refine ⟨_, cr_any hc, fun F R S σ H Z η C xs vs z Q a l e k => ?_⟩
  match xs, l, e with
  | [], _, e => simp [gAny] at e
  | _ :: _ :: _, _, e => simp [gAny] at e
  | [x], l, e =>
    obtain ⟨v, rfl, hx⟩ := l.one
    cases x with
    | lst xs =>
      simp only [gAny, Option.map_eq_some_iff] at e
      obtain ⟨ns, e1, rfl⟩ := e
      obtain ⟨aa, ws, rfl, hh, r⟩ := hx.isLst a.zh
      exact ⟨aa, ns, rfl, .of (by rw [← reps_bls r e1]; exact hh), k _ H (Same.refl H) ⟨Z, η, C, a.addD .bl⟩⟩
    | _ => simp [gAny] at e
/-- list(x), tuple(x) -/
def gList : List D → Option D
  | [.lst xs] => some (.lst xs)
  | [.scr xs] => some (.lst xs)
  | [.tup xs] => some (.lst xs)
  | _ => none
def gTuple : List D → Option D
  | [.lst xs] => some (.tup xs)
  | [.scr xs] => some (.tup xs)
  | [.tup xs] => some (.tup xs)
  | _ => none
theorem cg_list : CallG X (.type "list") gList := by
  refine ⟨_, call_list_of, fun F R S σ H Z η C xs vs z Q a l e k => ?_⟩
  match xs, l, e with
  | [], _, e => simp [gList] at e
  | _ :: _ :: _, _, e => simp [gList] at e
  | [x], l, e =>
    obtain ⟨v, rfl, hx⟩ := l.one
    cases x with
    | lst xs =>
      simp only [gList, Option.some.injEq] at e; subst e
      obtain ⟨pa, vx, rfl, ha, r⟩ := hx.isLst a.zh
      exact ⟨_, _, rfl, .inl (.of ha), fun pp hp => k _ _ (same_upd hp) (a.newLst r hp)⟩
    | scr xs =>
      simp only [gList, Option.some.injEq] at e; subst e
      obtain ⟨pa, vx, rfl, ha, r⟩ := hx.isScr a.zh
      exact ⟨_, _, rfl, .inl ha, fun pp hp => k _ _ (same_upd hp) (a.newLst r hp)⟩
    | tup xs =>
      simp only [gList, Option.some.injEq] at e; subst e
      obtain ⟨pa, vx, rfl, ha, r, _⟩ := hx.isTup a.zh
      exact ⟨_, _, rfl, .inr ha, fun pp hp => k _ _ (same_upd hp) (a.newLst r hp)⟩
    | _ => simp [gList] at e
theorem cg_tuple : CallG X (.type "tuple") gTuple := by
  refine ⟨_, call_tuple_of, fun F R S σ H Z η C xs vs z Q a l e k => ?_⟩
  match xs, l, e with
  | [], _, e => simp [gTuple] at e
  | _ :: _ :: _, _, e => simp [gTuple] at e
  | [x], l, e =>
    obtain ⟨v, rfl, hx⟩ := l.one
    cases x with
    | lst xs =>
      simp only [gTuple, Option.some.injEq] at e; subst e
      obtain ⟨pa, vx, rfl, ha, r⟩ := hx.isLst a.zh
      exact ⟨_, _, rfl, .inl ⟨.of ha, fun pp hp => k _ _ (same_upd hp) (a.newTup r hp)⟩⟩
    | scr xs =>
      simp only [gTuple, Option.some.injEq] at e; subst e
      obtain ⟨pa, vx, rfl, ha, r⟩ := hx.isScr a.zh
      exact ⟨_, _, rfl, .inl ⟨ha, fun pp hp => k _ _ (same_upd hp) (a.newTup r hp)⟩⟩
    | tup xs =>
      simp only [gTuple, Option.some.injEq] at e; subst e
      obtain ⟨pa, vx, rfl, ha, r, hr⟩ := hx.isTup a.zh
      exact ⟨_, _, rfl, .inr ⟨ha, k _ _ (Same.refl H) ⟨Z, η, C, a.addD hr⟩⟩⟩
    | _ => simp [gTuple] at e
end
end Mi
end
section
set_option Elab.async false
set_option linter.all false
set_option maxRecDepth 100000
set_option maxHeartbeats 2000000
/-! Mi7: isinstance, objects: fields read and stored. -/
namespace Mi
open PySem PySem.Spec PyProof.Rows L2

/-! ### isinstance with built-in types -/
def D.tn : D → Option Tn
  | .non => some .non
  | .bl _ => some .bool
  | .int _ => some .int
  | .str _ => some .str
  | .lst _ => some .list
  | .scr _ => some .list
  | .tup _ => some .tuple
  | .dct _ => some .dict
  | _ => none
def Tn.is (t n : Tn) : Bool := decide (t = n) || (decide (t = .bool) && decide (n = .int))
def Tn.good : Tn → Bool
  | .non => false
  | _ => true
theorem kitB_tn (t n : Tn) (h : n.good = true) : kitB t.nm n.nm = some (t.is n) := by
  cases t <;> cases n <;> first | exact absurd h Bool.false_ne_true | decide +kernel
theorem RepT.tyx {K : PySem.W.Frag} {mg : Str → Option Value} {H Z : Hp} {η : List Addr} {x : D} {v : V} {t : Tn} (z : Same Z H) (h : RepT K mg H Z η x v) (e : x.tn = some t) : TyX K H v (.type t.nm) := by
  cases x with
  | non => obtain rfl := h.isNon; cases e; exact .base .non
  | bl b => obtain rfl := h.isBl; cases e; exact .base (.bl b)
  | int i => obtain rfl := h.isInt; cases e; exact .base (.int i)
  | str i => obtain rfl := h.isStr; cases e; exact .base (.str i)
  | lst xs =>
    obtain ⟨a, vs, rfl, ha, _⟩ := h.isLst z
    cases e; exact .base (.lst ha)
  | dct xs =>
    obtain ⟨a, vs, rfl, ha, _⟩ := h.isDct z
    cases e; exact .base (.dK ha)
  | scr xs =>
    obtain ⟨a, vs, rfl, ha, _⟩ := h.isScr z
    cases e
    rcases ha with (ha | ⟨o, ha⟩) | ⟨o, its, n, hk, hc, _⟩
    · exact .base (.lst ha)
    · exact .base (.frz ha)
    · exact .kList hk hc
  | tup xs =>
    obtain ⟨a, vs, rfl, ha, _⟩ := h.isTup z
    cases e
    rcases ha with (ha | ⟨o, ha⟩) | ⟨o, its, n, hk, hc, _⟩
    · exact .base (.tup ha)
    · exact .fTuple ha
    · exact .kTuple hk hc
  | _ => simp [D.tn] at e
/-- isinstance(x, T), isinstance(x, (T, ..)) -/
def xIs (ns : List Tn) (A : XD) : XD := fun S => (A S).bind fun x S1 => match x.tn with
  | some t => .ok (.bl (ns.any fun n => t.is n)) S1
  | none => .no
def tTys (ns : List Tn) : TA := fun _ H Q => Q (ns.map fun n => .ty n.nm) H
section
variable {X : Cx} {F : Frm} {W : WX} {p p1 p2 : Bool} {e e2 : Expr} {es : List Expr} {A : XD} {p0 p2' pos : Pos} {ns : List Tn} {n : Tn} {x : Str}
theorem tys_nil : PA X [] (tTys []) := pa_nil
theorem tys_cons (hm : X.mg x = none) (hv : bootBuiltins x = some (.type n.nm)) (hr : PA X es (tTys ns)) (hg : Gl X x := by rfl) (hn : x ≠ "__name__" := by decide) (hdb : (x == ("__debug__" : Str)) = false := by decide)
    (hs : starEach (.Name x p0 :: es) X.env = (false, eval (.Name x p0) X.env) :: starEach es X.env := by rfl) : PA X (.Name x p0 :: es) (tTys (n :: ns)) :=
  PA.imp (pa_cons (pe_bltn (v := .ty n.nm) hg hm hv rfl hn hdb) hr hs) fun σ H Q h => h
theorem RepT.up {K : PySem.W.Frag} {mg : Str → Option Value} {H H' Z : Hp} {η : List Addr} {x : D} {v : V} (z : Same H H') (h : RepT K mg H Z η x v) : RepT K mg H' Z η x v := by
  cases h with
  | of h => exact .of h
  | lst a r => exact .lst (z _ _ a) r
  | dct a r => exact .dct (z _ _ a) r
theorem clsV_tys : ∀ ns : List Tn, Paired ClsV (ns.map fun n => V.ty n.nm) (ns.map fun n => Value.type n.nm)
  | [] => .nil
  | n :: ns => .cons (.ty n.nm) (clsV_tys ns)
theorem kitAny_tys {K : PySem.W.Frag} (t : Tn) : ∀ ns : List Tn, ns.all Tn.good = true → PySem.W.kitAny K (.type t.nm) (ns.map fun n => Value.type n.nm) = some (ns.any fun n => t.is n)
  | [], _ => rfl
  | n :: ns, h => by
    rw [List.all_cons, Bool.and_eq_true] at h
    rw [List.map_cons, List.any_cons]
    refine kitAny_cons (kit_ty (kitB_tn t n h.1)) (fun hb => ?_) fun hb => ?_
    · rw [hb, Bool.false_or]; exact kitAny_tys t ns h.2
    · rw [hb, Bool.true_or]
theorem e_isT {p3 : Pos} {k : Nat} (ha : E_ X F W e p A) (hts : PA X es (tTys ns)) (hgd : ns.all Tn.good = true := by rfl) (hl : ns.length ≤ 100 := by decide) (hm : X.mg "isinstance" = none) (hg : Gl X "isinstance" := by rfl)
    (h1 : starEach [e, .Tuple es k p3] X.env = (false, eval e X.env) :: starEach [.Tuple es k p3] X.env := by rfl) (h2 : starEach [.Tuple es k p3] X.env = (false, eval (.Tuple es k p3) X.env) :: starEach [] X.env := by rfl)
    (hpl : (backTo pos (starEach [.Tuple es k p3] X.env)).any (·.1) = false := by rfl) : E_ X F W (.Call (.Name "isinstance" p0) [e, .Tuple es k p3] [] pos) p (xIs ns A) := by
  refine PE.imp (pe_callB call_isiT hg hm (by decide +kernel) (pa_cons ha (pa_cons (pe_tup hts) pa_nil h2) h1) (by decide) (by decide) h1 hpl) fun σ H Q h => ?_
  refine rd_elim h fun R S x S' a e q v H1 s1 a1 => ?_
  obtain ⟨Z, η, C, rx, a2⟩ := a1.top
  cases ht : x.tn with
  | none => simp only [ht] at q
  | some t =>
    simp only [ht] at q
    refine ⟨by rw [List.length_map, sizeLine_eq]; omega, fun tp htp => ?_⟩
    have a3 := a2.newZ (o := .tup (ns.map fun n => V.ty n.nm)) htp
    have rx' : RepT X.K X.mg (upd H1 tp (.tup (ns.map fun n => V.ty n.nm))) (upd Z tp (.tup (ns.map fun n => V.ty n.nm))) η x v := .of (rx.mono (same_upd (Same.free a2.zh htp)) (List.prefix_refl _))
    exact ⟨v, tp, _, _, ns.map fun n => .type n.nm, _, rfl, upd_same, clsV_tys ns, rx'.tyx a3.zh ht, kitAny_tys t ns hgd, q _ _ (fun z => (s1 z).trans (same_upd htp)) ⟨_, η, C, a3.addD .bl⟩⟩
theorem e_is1 {q0 : Pos} (ha : E_ X F W e p A) (hm2 : X.mg x = none) (hv : bootBuiltins x = some (.type n.nm)) (hm : X.mg "isinstance" = none) (hgd : n.good = true := by rfl) (hg2 : Gl X x := by rfl) (hg : Gl X "isinstance" := by rfl)
    (h1 : starEach [e, .Name x q0] X.env = (false, eval e X.env) :: starEach [.Name x q0] X.env := by rfl) (h2 : starEach [.Name x q0] X.env = (false, eval (.Name x q0) X.env) :: starEach [] X.env := by rfl)
    (hpl : (backTo pos (starEach [.Name x q0] X.env)).any (·.1) = false := by rfl) (hn : x ≠ "__name__" := by decide) (hdb : (x == ("__debug__" : Str)) = false := by decide) : E_ X F W (.Call (.Name "isinstance" p0) [e, .Name x q0] [] pos) p (xIs [n] A) := by
  refine PE.imp (pe_callB call_isi hg hm (by decide +kernel) (pa_cons ha (pa_cons (pe_bltn (v := .ty n.nm) hg2 hm2 hv rfl hn hdb) pa_nil h2) h1) (by decide) (by decide) h1 hpl) fun σ H Q h => ?_
  refine rd_elim h fun R S x S' a e q v H1 s1 a1 => ?_
  obtain ⟨Z, η, C, rx, a2⟩ := a1.top
  cases ht : x.tn with
  | none => simp only [ht] at q
  | some t =>
    simp only [ht] at q
    refine ⟨v, .ty n.nm, _, _, _, rfl, .ty n.nm, RepT.tyx a2.zh (.of rx) ht, kit_ty (kitB_tn t n hgd), ?_⟩
    have q1 := q (.bl ([n].any fun n => t.is n)) H1 s1 ⟨Z, η, C, a2.addD .bl⟩
    simp only [List.any_cons, List.any_nil, Bool.or_false] at q1
    exact q1
end

/-! ### nodes -/
theorem zip_set : ∀ {m : List OD} {l : List V} {n : Nat} {v : V}, n < m.length → l[n]? = some v → ∃ rest : Roots, ∀ y, ((m.set n y).zip l).Perm ((y, v) :: rest)
  | [], _, _, _, h, _ => by simp at h
  | _ :: _, [], _, _, _, h => by simp at h
  | x :: m, w :: l, 0, v, _, h => by
    simp at h; subst h
    exact ⟨m.zip l, fun y => by simp⟩
  | x :: m, w :: l, n + 1, v, h1, h2 => by
    obtain ⟨rest, h⟩ := zip_set (m := m) (l := l) (n := n) (v := v) (by simpa using h1) (by simpa using h2)
    refine ⟨(x, w) :: rest, fun y => ?_⟩
    simp only [List.set_cons_succ, List.zip_cons_cons]
    exact ((h y).cons (x, w)).trans (.swap _ _ _)
/-- a node is looked at: where it stands, the others -/
theorem mroots_node {m : List OD} {η : List Addr} {n : Nat} {x : OD} (e : m[n]? = some x) (hl : m.length = η.length) : ∃ a rest, η[n]? = some a ∧ ∀ y, (mroots (some (m.set n y)) η).Perm ((y, .ref a) :: rest) := by
  have hn := (List.getElem?_eq_some_iff.mp e).1
  obtain ⟨a, ha⟩ : ∃ a, η[n]? = some a := ⟨η[n]'(by omega), by simp⟩
  obtain ⟨rest, h⟩ := zip_set (m := m) (l := η.map V.ref) (n := n) (v := .ref a) hn (by simp [ha])
  exact ⟨a, rest, ha, h⟩

/-! ### fields -/
def pf {α : Type} (f : Str) (v : α) : List (Str × α) → List (Str × α)
  | [] => [(f, v)]
  | (g, x) :: r => if g = f then (g, v) :: r else (g, x) :: pf f v r
theorem putF_pf (f : Str) (v : V) : ∀ fs : List (Str × V), putF f v fs = pf f v fs
  | [] => rfl
  | (g, x) :: r => by
    show (if g = f then (g, v) :: r else (g, x) :: putF f v r) = if g = f then (g, v) :: r else (g, x) :: pf f v r
    rw [putF_pf f v r]
section
variable {K : PySem.W.Frag} {mg : Str → Option Value} {Z : Hp} {η : List Addr}
theorem RepOf.length : ∀ {fl : List (Str × OD)} {fs : List (Str × V)} {C : Cl}, RepOf K mg Z η fl fs C → fl.length = fs.length
  | _, _, _, .nil => rfl
  | _, _, _, .cons _ r => by simp [RepOf.length r]
theorem RepOf.get {f : Str} {x : OD} : ∀ {fl : List (Str × OD)} {fs : List (Str × V)} {C : Cl}, RepOf K mg Z η fl fs C → fl.lookup f = some x →
    ∃ v C1 C2, fs.lookup f = some v ∧ RepO K mg Z η x v C1 ∧ C.Perm (C1 ++ C2) ∧ ∀ {Z' : Hp} (y : OD) (w : V) (D : Cl), Same Z Z' → RepO K mg Z' η y w D → ∃ C', RepOf K mg Z' η (pf f y fl) (pf f w fs) C' ∧ C'.Perm (D ++ C2)
  | _, _, _, .nil, e => by simp at e
  | _, _, _, .cons (k := k) (x := z) (v := w) (xs := xs) (vs := vs) (C1 := D1) (C2 := D2) h r, e => by
    by_cases hk : k = f
    · subst hk
      simp [List.lookup] at e
      subst e
      refine ⟨w, D1, D2, by simp [List.lookup], h, .refl _, fun y u D sz hy => ⟨D ++ D2, ?_, .refl _⟩⟩
      simp only [pf, if_true]
      exact .cons hy (RepOf.mono sz (List.prefix_refl _) r)
    · have hb : (f == k) = false := beq_eq_false_iff_ne.mpr (Ne.symm hk)
      simp only [List.lookup, hb] at e
      obtain ⟨v, C1, C2, e1, h1, p1, k1⟩ := RepOf.get r e
      refine ⟨v, C1, D1 ++ C2, by simp only [List.lookup, hb]; exact e1, h1, ?_, fun y u D sz hy => ?_⟩
      · refine perm_count fun a => ?_
        have := p1.count_eq a
        simp only [List.count_append] at this ⊢
        omega
      · obtain ⟨C', h2, p2⟩ := k1 y u D sz hy
        refine ⟨D1 ++ C', ?_, ?_⟩
        · simp only [pf, if_neg hk]
          exact .cons (h.mono sz (List.prefix_refl _)) h2
        · refine perm_count fun a => ?_
          have := p2.count_eq a
          simp only [List.count_append] at this ⊢
          omega
theorem RepOf.put {f : Str} : ∀ {fl : List (Str × OD)} {fs : List (Str × V)} {C : Cl}, RepOf K mg Z η fl fs C → fl.lookup f = none → ∀ (y : OD) (w : V) (D : Cl), RepO K mg Z η y w D → ∃ C', RepOf K mg Z η (pf f y fl) (pf f w fs) C' ∧ C'.Perm (D ++ C)
  | _, _, _, .nil, e => fun y w D h => ⟨D ++ [], .cons h .nil, .refl _⟩
  | _, _, _, .cons (k := k) (x := z) (v := v) (xs := xs) (vs := vs) (C1 := D1) (C2 := D2) h r, e => fun y w D hy => by
    by_cases hk : k = f
    · subst hk; simp [List.lookup] at e
    · have hb : (f == k) = false := beq_eq_false_iff_ne.mpr (Ne.symm hk)
      simp only [List.lookup, hb] at e
      obtain ⟨C', h2, p2⟩ := RepOf.put r e y w D hy
      refine ⟨D1 ++ C', ?_, ?_⟩
      · simp only [pf, if_neg hk]
        exact .cons h h2
      · refine perm_count fun a => ?_
        have := p2.count_eq a
        simp only [List.count_append] at this ⊢
        omega
theorem RepOf.look {f : Str} : ∀ {fl : List (Str × OD)} {fs : List (Str × V)} {C : Cl}, RepOf K mg Z η fl fs C → fl.lookup f = none → fs.lookup f = none
  | _, _, _, .nil, e => rfl
  | _, _, _, .cons (k := k) h r, e => by
    by_cases hk : k = f
    · subst hk; simp [List.lookup] at e
    · have hb : (f == k) = false := beq_eq_false_iff_ne.mpr (Ne.symm hk)
      simp only [List.lookup, hb] at e ⊢
      exact RepOf.look r e
end

/-! ### the node at a handle -/
def nodeAt (S : AS) (n : Nat) : Option OD := match S.μ with
  | some m => m[n]?
  | none => none
def setNode (S : AS) (n : Nat) (y : OD) : AS := ⟨S.v, S.μ.map fun m => m.set n y⟩
section
variable {K : PySem.W.Frag} {mg : Str → Option Value} {F : Frm} {R R' : Roots} {S S' : AS} {σ σ' : L2.St} {H H' Z Z' : Hp} {η η' : List Addr} {C C' C0 E : Cl}
/-- one owned cell is written -/
theorem AsnC.write {a : Addr} {o o' : HO} (h : AsnC K mg F R S σ H Z η C) (pc : C.Perm ((a, o) :: (E ++ C0))) (sl : SlotOk S'.v σ') (ml : MuOk S'.μ η F.η0) (r : RepR K mg Z η (R' ++ (sroots S'.v σ' ++ mroots S'.μ η)) C') (pc' : C'.Perm ((a, o') :: C0)) :
    AsnC K mg F R' S' σ' (upd H a o') Z η C' := by
  obtain ⟨ha, za, wa⟩ := h.cw (a, o) (pc.mem_iff.mpr List.mem_cons_self)
  have nd := (pc.map (·.1)).nodup_iff.mp h.nd
  rw [List.map_cons, List.nodup_cons, List.map_append] at nd
  obtain ⟨n1, n2⟩ := nd
  refine ⟨h.z0, h.e0, fun b u e => ?_, fun b u e w => ?_, h.zn, fun q hq => ?_, ?_, sl, ml, r⟩
  · rw [upd_ne]; exact h.zh b u e
    rintro rfl
    rw [show Z b = none from za] at e; cases e
  · rw [upd_ne]; exact h.fr b u e w
    rintro rfl
    rcases wa with z | z
    · exact w z
    · rw [show F.H0 b = none from z] at e; cases e
  · rcases List.mem_cons.mp (pc'.mem_iff.mp hq) with e | hq
    · subst e; exact ⟨upd_same, za, wa⟩
    · obtain ⟨b1, b2, b3⟩ := h.cw q (pc.mem_iff.mpr (List.mem_cons_of_mem _ (List.mem_append_right _ hq)))
      refine ⟨?_, b2, b3⟩
      rw [upd_ne]; exact b1
      intro e
      exact n1 (e ▸ List.mem_append_right _ (List.mem_map.mpr ⟨q, hq, rfl⟩))
  · refine (pc'.map (·.1)).nodup_iff.mpr ?_
    rw [List.map_cons, List.nodup_cons]
    exact ⟨fun z => n1 (List.mem_append_right _ z), (List.nodup_append.mp n2).2.1⟩
/-- the node at a handle, its cells, the rest -/
theorem AsnC.node {n : Nat} {x : OD} (h : AsnC K mg F R S σ H Z η C) (e : nodeAt S n = some x) : ∃ a rest C1 C2, η[n]? = some a ∧ RepO K mg Z η x (.ref a) C1 ∧ RepR K mg Z η (R ++ (sroots S.v σ ++ rest)) C2 ∧ C.Perm (C1 ++ C2) ∧
    ∀ y, (mroots (setNode S n y).μ η).Perm ((y, .ref a) :: rest) := by
  unfold nodeAt at e
  cases hm : S.μ with
  | none => rw [hm] at e; cases e
  | some m =>
    rw [hm] at e
    simp only at e
    have ml := h.ml
    rw [hm] at ml
    obtain ⟨a, rest, ha, hp⟩ := mroots_node e ml
    have p0 := hp x
    rw [set_self e] at p0
    have r0 := h.rep
    rw [hm] at r0
    have p1 : (R ++ (sroots S.v σ ++ mroots (some m) η)).Perm ((x, .ref a) :: (R ++ (sroots S.v σ ++ rest))) := by
      refine ((p0.append_left _).append_left _).trans ?_
      refine perm_count fun q => ?_
      simp only [List.count_append, List.count_cons]
      omega
    obtain ⟨C', r1, pc⟩ := r0.perm p1
    obtain ⟨C1, C2, rfl, r2, r3⟩ := r1.uncons
    refine ⟨a, rest, C1, C2, ha, r2, r3, pc, fun y => ?_⟩
    show (mroots (S.μ.map fun m => m.set n y) η).Perm _
    rw [hm]
    exact hp y
theorem setNode_ml {n : Nat} {y : OD} {η0 : List Addr} (h : MuOk S.μ η η0) : MuOk (setNode S n y).μ η η0 := by
  unfold setNode
  cases e : S.μ with
  | none => rw [e] at h; exact h
  | some m =>
    rw [e] at h
    show (m.set n y).length = η.length
    rw [List.length_set]
    exact h
end
end Mi
end
section
set_option Elab.async false
set_option linter.all false
set_option maxRecDepth 100000
set_option maxHeartbeats 2000000
/-! Mi8: fields; places: what is owned by a slot, a field, an own list, looked at and changed. -/
namespace Mi
open PySem PySem.Spec PyProof.Rows L2

section
variable {K : PySem.W.Frag} {mg : Str → Option Value} {F : Frm} {R R' T : Roots} {S S' : AS} {σ σ' : L2.St} {H H' Z Z' : Hp} {η η' : List Addr} {C C' C0 E : Cl}
/-- a field is stored -/
theorem AsnC.setField {n : Nat} {c : Str} {fl : List (Str × OD)} {x : OD} {v : V} (h : AsnC K mg F ((x, v) :: R) S σ H Z η C) (e : nodeAt S n = some (.ins c fl)) :
    ∃ a Ca dx fs, η[n]? = some a ∧ mg c = some (.ref Ca) ∧ H a = some (.ins Ca dx fs) ∧ fs.length = fl.length ∧ ∀ f, Asn K mg F R (setNode S n (.ins c (pf f x fl))) σ (upd H a (.ins Ca dx (putF f v fs))) := by
  obtain ⟨a, rest, C1, C2, ha, r1, r2, pc, hp⟩ := h.node e
  cases r1 with
  | ins hm hf =>
    rename_i fs dx Ca Cf
    obtain ⟨Cv, C3, rfl, rv, r3⟩ := RepR.uncons (show RepR K mg Z η ((x, v) :: (R ++ (sroots S.v σ ++ rest))) C2 from r2)
    have hh := (h.cw _ (pc.mem_iff.mpr (List.mem_append_left _ List.mem_cons_self))).1
    refine ⟨a, Ca, dx, fs, ha, hm, hh, hf.length.symm, fun f => ?_⟩
    have key : ∃ C' E0 D2, RepOf K mg Z η (pf f x fl) (pf f v fs) C' ∧ C'.Perm (Cv ++ D2) ∧ Cf.Perm (E0 ++ D2) := by
      cases q : fl.lookup f with
      | none =>
        obtain ⟨C', k1, k2⟩ := hf.put q x v Cv rv
        exact ⟨C', [], Cf, k1, k2, .refl _⟩
      | some y =>
        obtain ⟨v0, D1, D2, _, _, p1, k⟩ := hf.get q
        obtain ⟨C', k1, k2⟩ := k x v Cv (Same.refl Z) rv
        exact ⟨C', D1, D2, k1, k2, p1⟩
    obtain ⟨C', E0, D2, k1, k2, k3⟩ := key
    have newr := RepR.cons (RepO.ins (a := a) (dx := dx) hm k1) r3
    have pr : ((OD.ins c (pf f x fl), V.ref a) :: (R ++ (sroots S.v σ ++ rest))).Perm (R ++ (sroots (setNode S n (.ins c (pf f x fl))).v σ ++ mroots (setNode S n (.ins c (pf f x fl))).μ η)) := by
      have p2 := hp (.ins c (pf f x fl))
      refine List.Perm.trans ?_ (((p2.append_left _).append_left _).symm)
      refine perm_count fun q => ?_
      show List.count q _ = List.count q (R ++ (sroots S.v σ ++ _))
      simp only [List.count_append, List.count_cons]
      omega
    obtain ⟨C'', r4, p4⟩ := newr.perm pr
    rw [putF_pf]
    refine ⟨Z, η, C'', h.write (E := E0) (C0 := (dx, .own a) :: (Cv ++ D2 ++ C3)) (a := a) (o := .ins Ca dx fs) ?_ h.sl (setNode_ml h.ml) r4 ?_⟩
    · refine pc.trans ?_
      refine perm_count fun q => ?_
      have z := k3.count_eq q
      simp only [List.count_append, List.count_cons, List.cons_append] at z ⊢
      omega
    · refine p4.symm.trans ?_
      refine perm_count fun q => ?_
      have z := k2.count_eq q
      simp only [List.count_append, List.count_cons, List.cons_append] at z ⊢
      omega
/-- a field is read -/
theorem AsnC.getField {n : Nat} {c f : Str} {fl : List (Str × OD)} {x : OD} (h : AsnC K mg F R S σ H Z η C) (e : nodeAt S n = some (.ins c fl)) (ef : fl.lookup f = some x) :
    ∃ a Ca dx fs v C1, η[n]? = some a ∧ mg c = some (.ref Ca) ∧ H a = some (.ins Ca dx fs) ∧ fs.lookup f = some v ∧ RepO K mg Z η x v C1 := by
  obtain ⟨a, rest, C1, C2, ha, r1, r2, pc, hp⟩ := h.node e
  cases r1 with
  | ins hm hf =>
    rename_i fs dx Ca Cf
    have hh := (h.cw _ (pc.mem_iff.mpr (List.mem_append_left _ List.mem_cons_self))).1
    obtain ⟨v0, D1, D2, e0, rx, p1, k⟩ := hf.get ef
    exact ⟨a, Ca, dx, fs, v0, D1, ha, hm, hh, e0, rx⟩
end

/-- o.f, a tree; cs: the classes that have the field -/
def xFld (cs : List Str) (f : Str) (A : XD) : XD := fun S => (A S).bind fun x S1 => match x with
  | .obj n => match nodeAt S1 n with
    | some (.ins c fl) => if cs.contains c then match fl.lookup f with
      | some (.d y) => .ok y S1
      | _ => .no else .no
    | _ => .no
  | _ => .no
/-- the classes have the field, as a plain one -/
def HasF (K : PySem.W.Frag) (mg : Str → Option Value) (cs : List Str) (f : Str) : Prop := ∀ c ∈ cs, ∀ Ca, mg c = some (.ref Ca) → Cls K Ca ∧ NoAttr K Ca f
section
variable {X : Cx} {F : Frm} {W : WX} {p p1 p2 : Bool} {e : Expr} {f : Str} {A : XD} {pos : Pos} {cs : List Str}
theorem e_fld (hc : HasF X.K X.mg cs f) (ha : E_ X F W e p A) (hb : attributeBase e f X.env (eval e X.env) = eval e X.env := by rfl) : E_ X F W (.Attribute e f pos) p (xFld cs f A) := by
  refine PE.imp (pe_fld ha hb) fun σ H Q h => ?_
  refine rd_elim h fun R S x S' a e q v H1 s1 a1 => ?_
  cases x with
  | obj n =>
    simp only at q
    cases e1 : nodeAt S' n with
    | none => simp only [e1] at q
    | some o =>
      cases o with
      | ins c fl =>
        simp only [e1] at q
        by_cases hcs : cs.contains c = true
        · rw [if_pos hcs] at q
          cases e2 : fl.lookup f with
          | none => simp only [e2] at q
          | some y =>
            cases y with
            | d y =>
              simp only [e2] at q
              obtain ⟨Z, η, C, rx, a2⟩ := a1.top
              obtain ⟨a0, Ca, dx, fs, v0, C1, h1, h2, h3, h4, h5⟩ := a2.getField e1 e2
              cases rx with
              | obj h0 =>
                rw [h1] at h0; cases h0
                obtain ⟨k1, k2⟩ := hc c (by simpa using hcs) Ca h2
                cases h5 with
                | d h5 => exact ⟨_, Ca, dx, fs, v0, rfl, h3, k1, k2, h4, q v0 H1 s1 ⟨Z, η, C, a2.addD h5⟩⟩
            | _ => simp only [e2] at q
        · rw [if_neg hcs] at q; exact q.elim
      | _ => simp only [e1] at q
  | _ => exact q.elim
end

/-! ### places -/
inductive PLoc where
  | sl (i : Nat)
  | fd (n : Nat) (f : Str)
  | nd (n : Nat)
  | ix (pl : PLoc) (k : Nat)
def getP (S : AS) : PLoc → Option OD
  | .sl i => (S.v[i]?).join
  | .fd n f => match nodeAt S n with
    | some (.ins _ fl) => fl.lookup f
    | _ => none
  | .nd n => nodeAt S n
  | .ix pl k => match getP S pl with
    | some (.own xs) => xs[k]?
    | _ => none
def setP (S : AS) : PLoc → OD → AS
  | .sl i, y => { S with v := S.v.set i (some y) }
  | .fd n f, y => match nodeAt S n with
    | some (.ins c fl) => setNode S n (.ins c (pf f y fl))
    | _ => S
  | .nd n, y => setNode S n y
  | .ix pl k, y => match getP S pl with
    | some (.own xs) => setP S pl (.own (xs.set k y))
    | _ => S
/-- the value that the place has; T pins the handle -/
def ValP (σ : L2.St) (H : Hp) : PLoc → V → Roots → Prop
  | .sl i, v, T => σ[i]? = some (some v) ∧ T = []
  | .fd n f, v, T => ∃ a Ca dx fs, T = [(.d (.obj n), .ref a)] ∧ H a = some (.ins Ca dx fs) ∧ fs.lookup f = some v
  | .nd n, v, T => ∃ a, v = .ref a ∧ T = [(.d (.obj n), .ref a)]
  | .ix pl k, v, T => ∃ a vs, ValP σ H pl (.ref a) T ∧ H a = some (.lst vs) ∧ vs[k]? = some v
theorem ValP.up {σ : L2.St} {H H' : Hp} (z : Same H H') : ∀ {pl : PLoc} {v : V} {T : Roots}, ValP σ H pl v T → ValP σ H' pl v T
  | .sl _, _, _, h => h
  | .fd _ _, _, _, ⟨a, Ca, dx, fs, h1, h2, h3⟩ => ⟨a, Ca, dx, fs, h1, z _ _ h2, h3⟩
  | .nd _, _, _, h => h
  | .ix pl k, _, _, ⟨a, vs, h1, h2, h3⟩ => ⟨a, vs, h1.up z, z _ _ h2, h3⟩
section
variable {K : PySem.W.Frag} {mg : Str → Option Value} {F : Frm} {R R' T : Roots} {S S' : AS} {σ σ' : L2.St} {H H' Z Z' : Hp} {η η' : List Addr} {C C' C0 E : Cl}
theorem RepOs.focus {x : OD} : ∀ {xs : List OD} {vs : List V} {C : Cl} {k : Nat}, RepOs K mg Z η xs vs C → xs[k]? = some x → ∃ v C1 C2, vs[k]? = some v ∧ RepO K mg Z η x v C1 ∧ C.Perm (C1 ++ C2) ∧ ∀ {y : OD} {w : V} {D : Cl}, RepO K mg Z η y w D → ∃ C', RepOs K mg Z η (xs.set k y) (vs.set k w) C' ∧ C'.Perm (D ++ C2)
  | _, _, _, _, .nil, e => by simp at e
  | _, _, _, 0, .cons (C1 := C1) (C2 := C2) h r, e => by
    simp at e; subst e
    exact ⟨_, C1, C2, rfl, h, .refl _, fun {y w D} hy => ⟨D ++ C2, .cons hy r, .refl _⟩⟩
  | _, _, _, k + 1, .cons (C1 := D1) (C2 := D2) h r, e => by
    obtain ⟨v, C1, C2, e1, h1, p1, kk⟩ := RepOs.focus (k := k) r (by simpa using e)
    refine ⟨v, C1, D1 ++ C2, by simpa using e1, h1, ?_, fun {y w D} hy => ?_⟩
    · refine perm_count fun a => ?_
      have z := p1.count_eq a
      simp only [List.count_append] at z ⊢
      omega
    · obtain ⟨C', r', p'⟩ := kk hy
      refine ⟨D1 ++ C', .cons h r', ?_⟩
      refine perm_count fun a => ?_
      have z := p'.count_eq a
      simp only [List.count_append] at z ⊢
      omega
/-- the heart: what stands at a place, the rest, and the place with something else in it -/
theorem AsnC.focus (h : AsnC K mg F (T ++ R) S σ H Z η C) : ∀ {pl : PLoc} {x : OD} {v : V}, ValP σ H pl v T → getP S pl = some x → ∃ C1 C2, RepO K mg Z η x v C1 ∧ C.Perm (C1 ++ C2) ∧
    ∀ y D, RepO K mg Z η y v D → ∃ C', RepR K mg Z η ((T ++ R) ++ (sroots (setP S pl y).v σ ++ mroots (setP S pl y).μ η)) C' ∧ C'.Perm (D ++ C2) ∧ SlotOk (setP S pl y).v σ ∧ MuOk (setP S pl y).μ η F.η0
  | .sl i, x, v, ⟨ev, hT⟩, e => by
    have e' : S.v[i]? = some (some x) := by
      simp only [getP] at e
      cases q : S.v[i]? with
      | none => rw [q] at e; cases e
      | some o => rw [q] at e; exact congrArg some e
    have p := sroots_get e' ev
    have p1 : ((T ++ R) ++ (sroots S.v σ ++ mroots S.μ η)).Perm ((x, v) :: ((T ++ R) ++ (sroots (S.v.set i none) σ ++ mroots S.μ η))) := by
      refine ((p.append_right _).append_left _).trans ?_
      refine perm_count fun q => ?_
      simp only [List.count_append, List.count_cons, List.cons_append]
      omega
    obtain ⟨C', r1, pc⟩ := h.rep.perm p1
    obtain ⟨C1, C2, rfl, r2, r3⟩ := r1.uncons
    refine ⟨C1, C2, r2, pc, fun y D hy => ?_⟩
    have hi := (List.getElem?_eq_some_iff.mp e').1
    have hs : i < σ.length := (List.getElem?_eq_some_iff.mp ev).1
    have p2 := sroots_set (x := y) (v := v) hi hs
    rw [set_self ev] at p2
    have p3 : ((y, v) :: ((T ++ R) ++ (sroots (S.v.set i none) σ ++ mroots S.μ η))).Perm ((T ++ R) ++ (sroots (setP S (.sl i) y).v σ ++ mroots (setP S (.sl i) y).μ η)) := by
      refine List.Perm.trans ?_ (((p2.append_right _).append_left _).symm)
      refine perm_count fun q => ?_
      show List.count q _ = List.count q (T ++ R ++ (_ ++ mroots S.μ η))
      simp only [List.count_append, List.count_cons, List.cons_append]
      omega
    obtain ⟨C'', r4, p4⟩ := (RepR.cons hy r3).perm p3
    have sl := h.sl.set i y v
    rw [set_self ev] at sl
    exact ⟨C'', r4, p4.symm, sl, h.ml⟩
  | .fd n f, x, v, ⟨a, Ca, dx, fs, hT, hh, hl⟩, e => by
    simp only [getP] at e
    cases e1 : nodeAt S n with
    | none => simp only [e1] at e; cases e
    | some o =>
      cases o with
      | ins c fl =>
        simp only [e1] at e
        obtain ⟨a', rest, C1, C2, ha, r1, r2, pc, hp⟩ := h.node e1
        have ea : a' = a := by
          subst hT
          obtain ⟨r0, _⟩ := AsnC.takeD (show AsnC K mg F ((.d (.obj n), .ref a) :: R) S σ H Z η C from h)
          cases r0 with
          | obj h0 => rw [ha] at h0; cases h0; rfl
        subst ea
        cases r1 with
        | ins hm hf =>
          rename_i fs' dx' Ca' Cf
          have hh' := (h.cw _ (pc.mem_iff.mpr (List.mem_append_left _ List.mem_cons_self))).1
          rw [hh] at hh'
          cases hh'
          obtain ⟨v0, D1, D2, e0, rx, p1, k⟩ := hf.get e
          rw [hl] at e0; cases e0
          refine ⟨D1, ((a', .ins Ca dx fs) :: (dx, .own a') :: D2) ++ C2, rx, ?_, fun y D hy => ?_⟩
          · refine pc.trans (perm_count fun q => ?_)
            have z := p1.count_eq q
            simp only [List.count_append, List.count_cons, List.cons_append] at z ⊢
            omega
          · obtain ⟨C', k1, k2⟩ := k y v D (Same.refl Z) hy
            have ep : pf f v fs = fs := by
              clear k k1 hf hh r2 pc p1
              induction fs with
              | nil => simp at hl
              | cons q fs ih =>
                obtain ⟨g, w⟩ := q
                by_cases hg : g = f
                · subst hg
                  simp [List.lookup] at hl
                  subst hl
                  simp [pf]
                · have hb : (f == g) = false := beq_eq_false_iff_ne.mpr (Ne.symm hg)
                  simp only [List.lookup, hb] at hl
                  simp only [pf, if_neg hg]
                  rw [ih hl]
            rw [ep] at k1
            have newr := RepR.cons (RepO.ins (a := a') (dx := dx) hm k1) r2
            have es : setP S (.fd n f) y = setNode S n (.ins c (pf f y fl)) := by simp only [setP, e1]
            rw [es]
            have pr : ((OD.ins c (pf f y fl), V.ref a') :: ((T ++ R) ++ (sroots S.v σ ++ rest))).Perm ((T ++ R) ++ (sroots (setNode S n (.ins c (pf f y fl))).v σ ++ mroots (setNode S n (.ins c (pf f y fl))).μ η)) := by
              have p2 := hp (.ins c (pf f y fl))
              refine List.Perm.trans ?_ (((p2.append_left _).append_left _).symm)
              refine perm_count fun q => ?_
              show List.count q _ = List.count q (T ++ R ++ (sroots S.v σ ++ _))
              simp only [List.count_append, List.count_cons]
              omega
            obtain ⟨C'', r4, p4⟩ := newr.perm pr
            refine ⟨C'', r4, ?_, h.sl, setNode_ml h.ml⟩
            refine p4.symm.trans (perm_count fun q => ?_)
            have z := k2.count_eq q
            simp only [List.count_append, List.count_cons, List.cons_append] at z ⊢
            omega
      | _ => simp only [e1] at e; cases e
  | .nd n, x, v, ⟨a, hv, hT⟩, e => by
    subst hv
    obtain ⟨a', rest, C1, C2, ha, r1, r2, pc, hp⟩ := h.node (n := n) e
    have ea : a' = a := by
      subst hT
      obtain ⟨r0, _⟩ := AsnC.takeD (show AsnC K mg F ((.d (.obj n), .ref a) :: R) S σ H Z η C from h)
      cases r0 with
      | obj h0 => rw [ha] at h0; cases h0; rfl
    subst ea
    refine ⟨C1, C2, r1, pc, fun y D hy => ?_⟩
    have pr : ((y, V.ref a') :: ((T ++ R) ++ (sroots S.v σ ++ rest))).Perm ((T ++ R) ++ (sroots (setP S (.nd n) y).v σ ++ mroots (setP S (.nd n) y).μ η)) := by
      have p2 := hp y
      refine List.Perm.trans ?_ (((p2.append_left _).append_left _).symm)
      refine perm_count fun q => ?_
      show List.count q _ = List.count q (T ++ R ++ (sroots S.v σ ++ _))
      simp only [List.count_append, List.count_cons]
      omega
    obtain ⟨C'', r4, p4⟩ := (RepR.cons hy r2).perm pr
    exact ⟨C'', r4, p4.symm, h.sl, setNode_ml h.ml⟩
  | .ix pl k, x, v, ⟨a, vs, hv, hh, hk⟩, e => by
    simp only [getP] at e
    cases e1 : getP S pl with
    | none => simp only [e1] at e; cases e
    | some o =>
      cases o with
      | own xs =>
        simp only [e1] at e
        obtain ⟨C1, C2, r1, p1, kk⟩ := h.focus hv e1
        cases r1 with
        | own ro =>
          rename_i vs' Cx
          have hh' := (h.cw _ (p1.mem_iff.mpr (List.mem_append_left _ List.mem_cons_self))).1
          rw [show H a = some (.lst vs) from hh] at hh'
          cases hh'
          obtain ⟨v', D1, D2, e2, rx, p2, k2⟩ := ro.focus e
          rw [hk] at e2; cases e2
          refine ⟨D1, ((a, .lst vs) :: D2) ++ C2, rx, ?_, fun y D hy => ?_⟩
          · refine p1.trans (perm_count fun q => ?_)
            have z := p2.count_eq q
            simp only [List.count_append, List.count_cons, List.cons_append] at z ⊢
            omega
          · obtain ⟨C', k3, k4⟩ := k2 hy
            rw [set_self hk] at k3
            obtain ⟨C'', k5, k6, k7, k8⟩ := kk (.own (xs.set k y)) _ (.own k3)
            have es : setP S (.ix pl k) y = setP S pl (.own (xs.set k y)) := by simp only [setP, e1]
            rw [es]
            refine ⟨C'', k5, ?_, k7, k8⟩
            refine k6.trans (perm_count fun q => ?_)
            have z := k4.count_eq q
            simp only [List.count_append, List.count_cons, List.cons_append] at z ⊢
            omega
      | _ => simp only [e1] at e; cases e
end
end Mi
end
section
set_option Elab.async false
set_option linter.all false
set_option maxRecDepth 100000
set_option maxHeartbeats 2000000
/-! Mi9: places looked at; own lists changed. -/
namespace Mi
open PySem PySem.Spec PyProof.Rows L2

/-- an own list whose items are trees, as a tree -/
def unD : OD → Option D
  | .d x => some x
  | _ => none
def unKD : Key × OD → Option (Key × D)
  | (k, .d x) => some (k, x)
  | _ => none
def viewD : OD → Option D
  | .d x => some x
  | .own xs => (allOf unD xs).map .lst
  | .odk kvs => (allOf unKD kvs).map .dct
  | _ => none
theorem viewD_own (xs : List D) : viewD (.own (xs.map .d)) = some (.lst xs) := by
  simp only [viewD]
  rw [allOf_map (g := OD.d) (fun _ => rfl)]
  rfl
section
variable {K : PySem.W.Frag} {mg : Str → Option Value} {F : Frm} {R R' T : Roots} {S S' : AS} {σ σ' : L2.St} {H H' Z Z' : Hp} {η η' : List Addr} {C C' C0 E : Cl}
theorem un_map : ∀ {xs : List OD} {ys : List D}, allOf unD xs = some ys → xs = ys.map .d
  | [], _, e => by simp [allOf] at e; subst e; rfl
  | x :: xs, ys, e => by
    simp only [allOf] at e
    cases x with
    | d x =>
      cases e2 : allOf unD xs with
      | none => rw [e2] at e; simp [unD] at e
      | some as => rw [e2] at e; simp [unD] at e; subst e; rw [un_map e2]; rfl
    | _ => simp [unD] at e
theorem unK_rep : ∀ {xs : List (Key × OD)} {vs : List (Key × V)} {C : Cl} {ys : List (Key × D)}, RepOk K mg Z η xs vs C → allOf unKD xs = some ys → RepK K mg Z η ys vs ∧ C = []
  | _, _, _, _, .nil, e => by simp [allOf] at e; subst e; exact ⟨.nil, rfl⟩
  | _, _, _, ys, .cons (k := k) (x := x) (xs := xs) h r, e => by
    simp only [allOf] at e
    cases x with
    | d x =>
      cases e2 : allOf unKD xs with
      | none => rw [e2] at e; simp [unKD] at e
      | some as =>
        rw [e2] at e; simp [unKD] at e; subst e
        obtain ⟨r1, rfl⟩ := unK_rep r e2
        cases h with
        | d h => exact ⟨.cons h r1, rfl⟩
    | _ => simp [unKD] at e
theorem AsnC.view {pl : PLoc} {x : OD} {y : D} {v : V} (h : AsnC K mg F (T ++ R) S σ H Z η C) (hv : ValP σ H pl v T) (e : getP S pl = some x) (ev : viewD x = some y) : RepT K mg H Z η y v := by
  obtain ⟨C1, C2, r, pc, _⟩ := h.focus hv e
  cases x with
  | d x => simp [viewD] at ev; subst ev; cases r with | d r => exact .of r
  | own xs =>
    simp only [viewD, Option.map_eq_some_iff] at ev
    obtain ⟨ys, e1, rfl⟩ := ev
    cases r with
    | own r =>
      have hh := (h.cw _ (pc.mem_iff.mpr (List.mem_append_left _ List.mem_cons_self))).1
      rw [un_map e1] at r
      exact .lst hh (RepOs.ds r).1
  | odk xs =>
    simp only [viewD, Option.map_eq_some_iff] at ev
    obtain ⟨ys, e1, rfl⟩ := ev
    cases r with
    | odk r =>
      have hh := (h.cw _ (pc.mem_iff.mpr (List.mem_append_left _ List.mem_cons_self))).1
      exact .dct hh (unK_rep r e1).1
  | ins c fl => simp [viewD] at ev
/-- the value of a temporary goes away from the roots -/
theorem AsnC.take {x : OD} {v : V} (h : AsnC K mg F ((x, v) :: R) S σ H Z η C) : ∃ C1 C2, C = C1 ++ C2 ∧ RepO K mg Z η x v C1 ∧ AsnC K mg F R S σ H Z η C2 := by
  obtain ⟨C1, C2, e, h1, h2⟩ := RepR.uncons h.rep
  exact ⟨C1, C2, e, h1, h.re h.sl h.ml h2 ⟨C1, by rw [e]⟩⟩
/-- an own list grows by a temporary -/
theorem Asn.append {pl : PLoc} {xs : List OD} {x : OD} {v w : V} (h : Asn K mg F ((x, w) :: (T ++ R)) S σ H) (hv : ValP σ H pl v T) (e : getP S pl = some (.own xs)) :
    ∃ a vs, v = .ref a ∧ H a = some (.lst vs) ∧ vs.length = xs.length ∧ Asn K mg F (T ++ R) (setP S pl (.own (xs ++ [x]))) σ (upd H a (.lst (vs ++ [w]))) := by
  obtain ⟨Z, η, C, h⟩ := h
  obtain ⟨Cw, Cr, rfl, rw', h2⟩ := h.take
  obtain ⟨C1, C2, r, pc, k⟩ := h2.focus hv e
  cases r with
  | own r =>
    rename_i vs a Cx
    have hh := (h2.cw _ (pc.mem_iff.mpr (List.mem_append_left _ List.mem_cons_self))).1
    have r2 : RepOs K mg Z η (xs ++ [x]) (vs ++ [w]) (Cx ++ (Cw ++ [])) := r.app (.cons rw' .nil)
    obtain ⟨C', k1, k2, k3, k4⟩ := k (.own (xs ++ [x])) _ (.own (a := a) r2)
    refine ⟨a, vs, rfl, hh, r.length.symm, Z, η, C', h.write (E := []) (a := a) (o := .lst vs) (C0 := (Cx ++ Cw) ++ C2) ?_ k3 k4 k1 ?_⟩
    · refine perm_count fun q => ?_
      have z := pc.count_eq q
      simp only [List.count_append, List.count_cons, List.cons_append, List.nil_append] at z ⊢
      omega
    · refine k2.trans (perm_count fun q => ?_)
      simp only [List.count_append, List.count_cons, List.cons_append, List.append_nil]
/-- an item of an own list is stored -/
theorem Asn.setItem {pl : PLoc} {xs : List OD} {x : OD} {v w : V} {j : Nat} (h : Asn K mg F ((x, w) :: (T ++ R)) S σ H) (hv : ValP σ H pl v T) (e : getP S pl = some (.own xs)) (hj : j < xs.length) :
    ∃ a vs, v = .ref a ∧ H a = some (.lst vs) ∧ vs.length = xs.length ∧ Asn K mg F (T ++ R) (setP S pl (.own (xs.set j x))) σ (upd H a (.lst (vs.set j w))) := by
  obtain ⟨Z, η, C, h⟩ := h
  obtain ⟨Cw, Cr, rfl, rw', h2⟩ := h.take
  obtain ⟨C1, C2, r, pc, k⟩ := h2.focus hv e
  cases r with
  | own r =>
    rename_i vs a Cx
    have hh := (h2.cw _ (pc.mem_iff.mpr (List.mem_append_left _ List.mem_cons_self))).1
    obtain ⟨v0, D1, D2, _, _, p1, kk⟩ := r.focus (x := xs[j]) (k := j) (by simp [hj])
    obtain ⟨C3, r2, p2⟩ := kk rw'
    obtain ⟨C', k1, k2, k3, k4⟩ := k (.own (xs.set j x)) _ (.own (a := a) r2)
    refine ⟨a, vs, rfl, hh, r.length.symm, Z, η, C', h.write (E := D1) (a := a) (o := .lst vs) (C0 := (Cw ++ D2) ++ C2) ?_ k3 k4 k1 ?_⟩
    · refine perm_count fun q => ?_
      have z := pc.count_eq q
      have z1 := p1.count_eq q
      simp only [List.count_append, List.count_cons, List.cons_append, List.nil_append] at z z1 ⊢
      omega
    · refine k2.trans (perm_count fun q => ?_)
      have z2 := p2.count_eq q
      simp only [List.count_append, List.count_cons, List.cons_append, List.append_nil] at z2 ⊢
      omega
/-- an item of an own list is taken out -/
theorem RepOs.erase {x : OD} : ∀ {xs : List OD} {vs : List V} {C : Cl} {k : Nat}, RepOs K mg Z η xs vs C → xs[k]? = some x → ∃ v C1 C2, vs[k]? = some v ∧ RepO K mg Z η x v C1 ∧ C.Perm (C1 ++ C2) ∧ RepOs K mg Z η (xs.eraseIdx k) (vs.eraseIdx k) C2
  | _, _, _, _, .nil, e => by simp at e
  | _, _, _, 0, .cons (C1 := C1) (C2 := C2) h r, e => by
    simp at e; subst e
    exact ⟨_, C1, C2, rfl, h, .refl _, r⟩
  | _, _, _, k + 1, .cons (C1 := D1) (C2 := D2) h r, e => by
    obtain ⟨v, C1, C2, e1, h1, p1, r1⟩ := RepOs.erase (k := k) r (by simpa using e)
    refine ⟨v, C1, D1 ++ C2, by simpa using e1, h1, ?_, .cons h r1⟩
    refine perm_count fun a => ?_
    have z := p1.count_eq a
    simp only [List.count_append] at z ⊢
    omega
theorem Asn.popItem {pl : PLoc} {xs : List OD} {x : OD} {v : V} {j : Nat} (h : Asn K mg F (T ++ R) S σ H) (hv : ValP σ H pl v T) (e : getP S pl = some (.own xs)) (hj : xs[j]? = some x) :
    ∃ a vs w, v = .ref a ∧ H a = some (.lst vs) ∧ vs.length = xs.length ∧ vs[j]? = some w ∧ Asn K mg F ((x, w) :: (T ++ R)) (setP S pl (.own (xs.eraseIdx j))) σ (upd H a (.lst (vs.eraseIdx j))) := by
  obtain ⟨Z, η, C, h⟩ := h
  obtain ⟨C1, C2, r, pc, k⟩ := h.focus hv e
  cases r with
  | own r =>
    rename_i vs a Cx
    have hh := (h.cw _ (pc.mem_iff.mpr (List.mem_append_left _ List.mem_cons_self))).1
    obtain ⟨w, D1, D2, e1, rx, p1, r2⟩ := r.erase hj
    obtain ⟨C', k1, k2, k3, k4⟩ := k (.own (xs.eraseIdx j)) _ (.own (a := a) r2)
    have k5 := RepR.cons rx k1
    refine ⟨a, vs, w, rfl, hh, r.length.symm, e1, Z, η, D1 ++ C', h.write (E := []) (a := a) (o := .lst vs) (C0 := (D1 ++ D2) ++ C2) ?_ k3 k4 k5 ?_⟩
    · refine perm_count fun q => ?_
      have z := pc.count_eq q
      have z1 := p1.count_eq q
      simp only [List.count_append, List.count_cons, List.cons_append, List.nil_append] at z z1 ⊢
      omega
    · refine perm_count fun q => ?_
      have z2 := k2.count_eq q
      simp only [List.count_append, List.count_cons, List.cons_append, List.append_nil] at z2 ⊢
      omega
end

theorem RepO.own_inv {K : PySem.W.Frag} {mg : Str → Option Value} {Z : Hp} {η : List Addr} {xs : List OD} {v : V} {C : Cl} (h : RepO K mg Z η (.own xs) v C) : ∃ a vs Cx, v = .ref a ∧ C = (a, .lst vs) :: Cx ∧ RepOs K mg Z η xs vs Cx := by
  cases h with
  | own r => exact ⟨_, _, _, rfl, rfl, r⟩
/-! ### the reading of a place -/
abbrev XL := AS → Rs PLoc
def RdL (K : PySem.W.Frag) (mg : Str → Option Value) (F : Frm) (W : WX) (p : Bool) (A : XL) : TE := fun σ H Q => ∃ R S, Asn K mg F R S σ H ∧ match A S with
  | .ok pl S' => ∀ v H' T, (p = true → Same H H') → Asn K mg F (T ++ R) S' σ H' → ValP σ H' pl v T → Q v H'
  | .ex c fl S' => ∀ H' cls d, ExA K mg F S' σ H' c fl cls d → W cls d σ H'
  | .no => False
abbrev L_ (X : Cx) (F : Frm) (W : WX) (e : Expr) (p : Bool) (A : XL) : Prop := PE X e (RdL X.K X.mg F W p A)
def xLv (i : Nat) : XL := fun S => match S.v[i]? with
  | some (some _) => .ok (.sl i) S
  | _ => .no
def xLf (cs : List Str) (f : Str) (A : XD) : XL := fun S => (A S).bind fun x S1 => match x with
  | .obj n => match nodeAt S1 n with
    | some (.ins c fl) => if cs.contains c ∧ (fl.lookup f).isSome then .ok (.fd n f) S1 else .no
    | _ => .no
  | _ => .no
/-- an item of an own list -/
def xLi (P : XL) (B : XD) : XL := fun S => (P S).bind fun pl S1 => (B S1).bind fun y S2 => match getP S2 pl, y with
  | some (.own xs), .int k => match ixN xs.length k with
    | some j => if j < xs.length then .ok (.ix pl j) S2 else .no
    | none => .no
  | _, _ => .no
section
variable {X : Cx} {F : Frm} {W : WX} {p p1 p2 : Bool} {a b e : Expr} {f : Str} {A B : XD} {P : XL} {pos : Pos} {cs : List Str}
theorem l_var {x : Str} {pos : Pos} (i : Nat) (hN : X.N[i]? = some x := by rfl) (hv : Vis X.env.scope x := by first | exact Or.inl rfl | exact Or.inr (Or.inl rfl) | exact Or.inr (Or.inr rfl)) (hd : (x == ("__debug__" : Str)) = false := by decide)
    (hcd : (x == ("__classdict__" : Str)) = false := by decide) : L_ X F W (.Name x pos) true (xLv i) := by
  refine PE.imp (pe_var hN hv hd hcd) fun σ H Q h => ?_
  obtain ⟨R, S, a, q⟩ := h
  unfold xLv at q
  cases e : S.v[i]? with
  | none => rw [e] at q; exact q.elim
  | some o =>
    cases o with
    | none => rw [e] at q; exact q.elim
    | some o =>
      rw [e] at q
      obtain ⟨v, ev⟩ : ∃ v, σ[i]? = some (some v) := by
        obtain ⟨_, _, _, a1⟩ := a
        exact a1.sl.2 i o e
      exact ⟨v, ev, q v H [] (fun _ => Same.refl H) a ⟨ev, rfl⟩⟩
theorem l_fld (hc : HasF X.K X.mg cs f) (ha : E_ X F W e p A) (hb : attributeBase e f X.env (eval e X.env) = eval e X.env := by rfl) : L_ X F W (.Attribute e f pos) p (xLf cs f A) := by
  refine PE.imp (pe_fld ha hb) fun σ H Q h => ?_
  obtain ⟨R, S, a, q⟩ := h
  refine ⟨R, S, a, ?_⟩
  unfold xLf at q
  cases e0 : A S with
  | no => simp only [e0, Rs.bind_no] at q
  | ex c fl S' => simp only [e0, Rs.bind_ex] at q; exact q
  | ok x S' =>
    simp only [e0, Rs.bind_ok] at q
    intro v H1 s1 a1
    cases x with
    | obj n =>
      simp only at q
      cases e1 : nodeAt S' n with
      | none => simp only [e1] at q
      | some o =>
        cases o with
        | ins c fl =>
          simp only [e1] at q
          by_cases hcs : cs.contains c = true ∧ (fl.lookup f).isSome = true
          · rw [if_pos hcs] at q
            obtain ⟨x, e2⟩ := Option.isSome_iff_exists.mp hcs.2
            obtain ⟨Z, η, C, rx, a2⟩ := a1.top
            obtain ⟨a0, Ca, dx, fs, v0, C1, h1, h2, h3, h4, h5⟩ := a2.getField e1 e2
            cases rx with
            | obj h0 =>
              rw [h1] at h0; cases h0
              obtain ⟨k1, k2⟩ := hc c (by simpa using hcs.1) Ca h2
              exact ⟨_, Ca, dx, fs, v0, rfl, h3, k1, k2, h4, q v0 H1 [(.d (.obj n), .ref a0)] s1 a1 ⟨a0, Ca, dx, fs, rfl, h3, h4⟩⟩
          · rw [if_neg hcs] at q; exact q.elim
        | _ => simp only [e1] at q
    | _ => exact q.elim
theorem l_idx (ha : L_ X F W a p1 P) (hb : E_ X F W b true B) (hs : PlainIx b := by exact fun _ _ => rfl) : L_ X F W (.Subscript a b pos) p1 (xLi P B) := by
  refine PE.imp (pe_ix ix_list ha hb hs) fun σ H Q h => ?_
  obtain ⟨R, S, a, q⟩ := h
  refine ⟨R, S, a, ?_⟩
  unfold xLi at q
  cases e : P S with
  | no => simp only [e, Rs.bind_no] at q
  | ex c fl S' => simp only [e, Rs.bind_ex] at q; exact q
  | ok pl S' =>
    simp only [e, Rs.bind_ok] at q
    intro v H1 T s1 a1 vp
    refine ⟨T ++ R, S', a1, ?_⟩
    cases e2 : B S' with
    | no => simp only [e2, Rs.bind_no] at q
    | ex c fl S2 => simp only [e2, Rs.bind_ex] at q; exact q
    | ok y S2 =>
      simp only [e2, Rs.bind_ok] at q
      intro w H2 s2 a2
      have vp2 := vp.up (s2 rfl)
      cases e3 : getP S2 pl with
      | none => simp only [e3] at q
      | some o =>
        cases o with
        | own xs =>
          cases y with
          | int k =>
            simp only [e3] at q
            cases e4 : ixN xs.length k with
            | none => simp only [e4] at q
            | some j =>
              simp only [e4] at q
              by_cases hj : j < xs.length
              · rw [if_pos hj] at q
                obtain rfl := a2.isInt
                have a3 := a2.drop
                have a4 := a3
                obtain ⟨Z, η, C, a4⟩ := a4
                obtain ⟨C1, C2, r, pc, _⟩ := a4.focus vp2 e3
                obtain ⟨ad, vs, Cx, rfl, rfl, rr⟩ := r.own_inv
                have hh := (a4.cw _ (pc.mem_iff.mpr (List.mem_append_left _ List.mem_cons_self))).1
                have hl := rr.length
                obtain ⟨u, hu⟩ : ∃ u, vs[j]? = some u := ⟨vs[j]'(by omega), by simp⟩
                refine ⟨ad, vs, k, u, rfl, rfl, .of hh, ?_, q u H2 T (fun z => (s1 z).trans (s2 rfl)) a3 ⟨ad, vs, vp2, hh, hu⟩⟩
                unfold atI
                rw [← hl, e4]
                exact hu
              · rw [if_neg hj] at q; exact q.elim
          | _ => simp only [e3] at q
        | _ => simp only [e3] at q

/-! ### looks at places -/
def xGV (g : List D → Option D) (P : XL) : XD := fun S => (P S).bind fun pl S1 => match (getP S1 pl).bind viewD with
  | some x => match g [x] with
    | some z => .ok z S1
    | none => .no
  | none => .no
def xB1 (g : D → D → Option D) (P : XL) (B : XD) : XD := fun S => (P S).bind fun pl S1 => (B S1).bind fun y S2 => match (getP S2 pl).bind viewD with
  | some x => match g x y with
    | some z => .ok z S2
    | none => .no
  | none => .no
def xB2 (g : D → D → Option D) (A : XD) (P : XL) : XD := fun S => (A S).bind fun x S1 => (P S1).bind fun pl S2 => match (getP S2 pl).bind viewD with
  | some y => match g x y with
    | some z => .ok z S2
    | none => .no
  | none => .no
theorem bind_view {S : AS} {pl : PLoc} {x : D} (h : (getP S pl).bind viewD = some x) : ∃ o, getP S pl = some o ∧ viewD o = some x := Option.bind_eq_some_iff.mp h
theorem rdGV {g : List D → Option D} {σ : L2.St} {H : Hp} {Q : VK} {r : List V → Hp → VK → Prop} (h : Rd X.K X.mg F W p (xGV g P) σ H Q)
    (f : ∀ R S x v z H' Z η C, AsnC X.K X.mg F R S σ H' Z η C → RepT X.K X.mg H' Z η x v → g [x] = some z → (∀ u H'', Same H' H'' → Asn X.K X.mg F ((.d z, u) :: R) S σ H'' → Q u H'') → r [v] H' Q) : tCons (RdL X.K X.mg F W p P) tNil σ H fun vs H1 => r vs H1 Q := by
  obtain ⟨R, S, a, q⟩ := h
  refine ⟨R, S, a, ?_⟩
  unfold xGV at q
  cases e : P S with
  | no => simp only [e, Rs.bind_no] at q
  | ex c fl S' => simp only [e, Rs.bind_ex] at q; exact q
  | ok pl S1 =>
    simp only [e, Rs.bind_ok] at q
    intro v H1 T s1 a1 vp
    cases e2 : (getP S1 pl).bind viewD with
    | none => simp only [e2] at q
    | some x =>
      simp only [e2] at q
      cases e3 : g [x] with
      | none => simp only [e3] at q
      | some z =>
        simp only [e3] at q
        obtain ⟨o, e4, e5⟩ := bind_view e2
        obtain ⟨Z, η, C, a2⟩ := a1
        exact f (T ++ R) S1 x v z H1 Z η C a2 (a2.view vp e4 e5) e3 fun u H2 s2 a3 => q u H2 (fun hp => (s1 hp).trans s2) (Asn.dropN (R0 := T) (a3.tperm (by
          show ((OD.d z, u) :: (T ++ R)).Perm (T ++ (OD.d z, u) :: R)
          exact List.perm_middle.symm)))
theorem e_biV {id : String} {g : List D → Option D} {x : Str} {p0 : Pos} (hc : CallG X (.builtin id) g) (hm : X.mg x = none) (hv : bootBuiltins x = some (.builtin id)) (ha : L_ X F W e p P) (hg : Gl X x := by rfl) (hn : x ≠ "__name__" := by decide) (hdb : (x == ("__debug__" : Str)) = false := by decide)
    (he : starEach [e] X.env = (false, eval e X.env) :: starEach [] X.env := by rfl) (hpl : (backTo pos (starEach [] X.env)).any (·.1) = false := by rfl) : E_ X F W (.Call (.Name x p0) [e] [] pos) p (xGV g P) := by
  obtain ⟨r, hr, hf⟩ := hc
  exact PE.imp (pe_callB hr hg hm hv (pa_cons ha pa_nil he) hn hdb he hpl) fun σ H Q h => rdGV h fun R S x v z H' Z η C a rx e k => hf F R S σ H' Z η C [x] [v] z Q a (.cons rx .nil) e k
theorem e_btV {T : String} {g : List D → Option D} {x : Str} {p0 : Pos} (hc : CallG X (.type T) g) (hm : X.mg x = none) (hv : bootBuiltins x = some (.type T)) (ha : L_ X F W e p P) (hg : Gl X x := by rfl) (hn : x ≠ "__name__" := by decide) (hdb : (x == ("__debug__" : Str)) = false := by decide)
    (he : starEach [e] X.env = (false, eval e X.env) :: starEach [] X.env := by rfl) (hpl : (backTo pos (starEach [] X.env)).any (·.1) = false := by rfl) : E_ X F W (.Call (.Name x p0) [e] [] pos) p (xGV g P) := by
  obtain ⟨r, hr, hf⟩ := hc
  exact PE.imp (pe_callTy hr hg hm hv (pa_cons ha pa_nil he) hn hdb he hpl) fun σ H Q h => rdGV h fun R S x v z H' Z η C a rx e k => hf F R S σ H' Z η C [x] [v] z Q a (.cons rx .nil) e k
theorem rdB1 {g : D → D → Option D} {r : R2} {σ : L2.St} {H : Hp} {Q : VK} (h : Rd X.K X.mg F W p (xB1 g P B) σ H Q)
    (f : ∀ R S x y z v w H' Z η C, AsnC X.K X.mg F R S σ H' Z η C → RepT X.K X.mg H' Z η x v → RepT X.K X.mg H' Z η y w → g x y = some z → (∀ u H'', Same H' H'' → Asn X.K X.mg F ((.d z, u) :: R) S σ H'' → Q u H'') → r v w H' Q) :
    RdL X.K X.mg F W p P σ H fun v H1 => Rd X.K X.mg F W true B σ H1 fun w H2 => r v w H2 Q := by
  obtain ⟨R, S, a, q⟩ := h
  refine ⟨R, S, a, ?_⟩
  unfold xB1 at q
  cases e : P S with
  | no => simp only [e, Rs.bind_no] at q
  | ex c fl S' => simp only [e, Rs.bind_ex] at q; exact q
  | ok pl S1 =>
    simp only [e, Rs.bind_ok] at q
    intro v H1 T s1 a1 vp
    refine ⟨T ++ R, S1, a1, ?_⟩
    cases e2 : B S1 with
    | no => simp only [e2, Rs.bind_no] at q
    | ex c fl S2 => simp only [e2, Rs.bind_ex] at q; exact q
    | ok y S2 =>
      simp only [e2, Rs.bind_ok] at q
      intro w H2 s2 a2
      cases e3 : (getP S2 pl).bind viewD with
      | none => simp only [e3] at q
      | some x =>
        simp only [e3] at q
        cases e4 : g x y with
        | none => simp only [e4] at q
        | some z =>
          simp only [e4] at q
          obtain ⟨o, e5, e6⟩ := bind_view e3
          obtain ⟨Z, η, C, a3⟩ := a2
          obtain ⟨ry, a4⟩ := a3.takeD
          exact f (T ++ R) S2 x y z v w H2 Z η C a4 (a4.view (vp.up (s2 rfl)) e5 e6) (.of ry) e4 fun u H3 s3 a5 => q u H3 (fun hp => (s1 hp).trans ((s2 rfl).trans s3)) (Asn.dropN (R0 := T) (a5.tperm (by
            show ((OD.d z, u) :: (T ++ R)).Perm (T ++ (OD.d z, u) :: R)
            exact List.perm_middle.symm)))
theorem rdB2 {g : D → D → Option D} {r : R2} {σ : L2.St} {H : Hp} {Q : VK} (h : Rd X.K X.mg F W (p1 && p2) (xB2 g A P) σ H Q)
    (f : ∀ R S x y z v w H' Z η C, AsnC X.K X.mg F R S σ H' Z η C → RepT X.K X.mg H' Z η x v → RepT X.K X.mg H' Z η y w → g x y = some z → (∀ u H'', Same H' H'' → Asn X.K X.mg F ((.d z, u) :: R) S σ H'' → Q u H'') → r v w H' Q) :
    Rd X.K X.mg F W p1 A σ H fun v H1 => RdL X.K X.mg F W p2 P σ H1 fun w H2 => r v w H2 Q := by
  refine rd_elim h fun R S x S' a e q v H1 s1 a1 => ⟨_, _, a1, ?_⟩
  cases e2 : P S' with
  | no => simp only [e2, Rs.bind_no] at q
  | ex c fl S2 => simp only [e2, Rs.bind_ex] at q; exact q
  | ok pl S2 =>
    simp only [e2, Rs.bind_ok] at q
    intro w H2 T s2 a2 vp
    cases e3 : (getP S2 pl).bind viewD with
    | none => simp only [e3] at q
    | some y =>
      simp only [e3] at q
      cases e4 : g x y with
      | none => simp only [e4] at q
      | some z =>
        simp only [e4] at q
        obtain ⟨o, e5, e6⟩ := bind_view e3
        obtain ⟨Z, η, C, a3⟩ := a2
        have ry := a3.view vp e5 e6
        have a4 : AsnC X.K X.mg F ((.d x, v) :: (T ++ R)) S2 σ H2 Z η C ∨ True := .inr trivial
        obtain ⟨C', a5⟩ := a3.perm (S' := S2) (σ' := σ) (R' := (.d x, v) :: (T ++ R)) (E := []) a3.sl a3.ml (by
          rw [List.nil_append]
          exact (List.perm_middle (l₁ := T)).append_right _)
        obtain ⟨rx, a6⟩ := a5.takeD
        refine f (T ++ R) S2 x y z v w H2 Z η C' a6 (.of rx) ?_ e4 fun u H3 s3 a7 => q u H3 (fun hp => ?_) (Asn.dropN (R0 := T) (a7.tperm (by
          show ((OD.d z, u) :: (T ++ R)).Perm (T ++ (OD.d z, u) :: R)
          exact List.perm_middle.symm)))
        · exact ry
        · rw [Bool.and_eq_true] at hp
          exact (s1 hp.1).trans ((s2 hp.2).trans s3)
theorem e_idxV (ha : L_ X F W a p P) (hb : E_ X F W b true B) (hs : PlainIx b := by exact fun _ _ => rfl) : E_ X F W (.Subscript a b pos) p (xB1 gIdx P B) :=
  PE.imp (pe_ix ix_seq ha hb hs) fun σ H Q h => rdB1 h fun R S x y z v w H' Z η C a rx ry e k => og_idx a rx ry e k
theorem e_bin1 {op : Operator} {g : D → D → Option D} (ho : OpG X (binaryOp op) g) (ha : L_ X F W a p P) (hb : E_ X F W b true B) : E_ X F W (.BinOp a op b pos) p (xB1 g P B) := by
  obtain ⟨r, hr, hf⟩ := ho
  exact PE.imp (pe_op hr ha hb) fun σ H Q h => rdB1 h fun R S x y z v w H' Z η C a rx ry e k => hf F R S σ H' Z η C x y z v w Q a rx ry e k
theorem e_cmp1 {op : CmpOp} {g : D → D → Option D} (ho : OpG X (compareOp op) g) (ha : L_ X F W a p P) (hb : E_ X F W b true B) (hm : behindInMarks op b = false := by exact nomark _) : E_ X F W (.Compare a [op] [b] pos) p (xB1 g P B) := by
  obtain ⟨r, hr, hf⟩ := ho
  exact PE.imp (pe_cmpR hr ha hb hm) fun σ H Q h => rdB1 h fun R S x y z v w H' Z η C a rx ry e k => hf F R S σ H' Z η C x y z v w Q a rx ry e k
theorem t_cmp1 {op : CmpOp} {g : D → D → Option D} (ho : OpG X (compareOp op) g) (ha : L_ X F W a p P) (hb : E_ X F W b true B) (hm : behindInMarks op b = false := by exact nomark _) : ET_ X F W (.Compare a [op] [b] pos) p (xT (xB1 g P B)) := by
  obtain ⟨r, hr, hf⟩ := ho
  exact PT.imp (pt_cmpR hr ha hb hm) fun σ H Q h => rdB1 (rdT_elim h) fun R S x y z v w H' Z η C a rx ry e k => hf F R S σ H' Z η C x y z v w _ a rx ry e k
theorem e_cmp2 {op : CmpOp} {g : D → D → Option D} (ho : OpG X (compareOp op) g) (ha : E_ X F W a p1 A) (hb : L_ X F W b p2 P) (hm : behindInMarks op b = false := by first | exact nomark _ | rfl) : E_ X F W (.Compare a [op] [b] pos) (p1 && p2) (xB2 g A P) := by
  obtain ⟨r, hr, hf⟩ := ho
  exact PE.imp (pe_cmpR hr ha hb hm) fun σ H Q h => rdB2 h fun R S x y z v w H' Z η C a rx ry e k => hf F R S σ H' Z η C x y z v w Q a rx ry e k
theorem t_cmp2 {op : CmpOp} {g : D → D → Option D} (ho : OpG X (compareOp op) g) (ha : E_ X F W a p1 A) (hb : L_ X F W b p2 P) (hm : behindInMarks op b = false := by first | exact nomark _ | rfl) : ET_ X F W (.Compare a [op] [b] pos) (p1 && p2) (xT (xB2 g A P)) := by
  obtain ⟨r, hr, hf⟩ := ho
  exact PT.imp (pt_cmpR hr ha hb hm) fun σ H Q h => rdB2 (rdT_elim h) fun R S x y z v w H' Z η C a rx ry e k => hf F R S σ H' Z η C x y z v w _ a rx ry e k
end
end Mi
end
section
set_option Elab.async false
set_option linter.all false
set_option maxRecDepth 100000
set_option maxHeartbeats 2000000
/-! Mi10: statements, targets; own lists changed by methods. -/
namespace Mi
open PySem PySem.Spec PyProof.Rows L2

inductive Out where
  | nx (S : AS)
  | rt (x : OD) (S : AS)
  | bk (S : AS)
  | ct (S : AS)
  | ex (c : Str) (fl : List (Str × D)) (S : AS)
  | no
abbrev XS := AS → Out
section
variable (K : PySem.W.Frag) (mg : Str → Option Value)
def Post (F : Frm) (W : WX) (R : Roots) (D : Ends) : Out → Prop
  | .nx S => ∀ σ H, Asn K mg F R S σ H → D.nx σ H
  | .rt x S => ∀ v σ H, Asn K mg F ((x, v) :: R) S σ H → D.rt v H
  | .bk S => ∀ σ H, Asn K mg F R S σ H → D.bk σ H
  | .ct S => ∀ σ H, Asn K mg F R S σ H → D.ct σ H
  | .ex c fl S => ∀ σ H cls d, ExA K mg F S σ H c fl cls d → W cls d σ H
  | .no => False
def RdS (F : Frm) (W : WX) (m : XS) : TS := fun D σ H => ∃ R S, Asn K mg F R S σ H ∧ Post K mg F W R D (m S)
end
abbrev S_ (X : Cx) (F : Frm) (W : WX) (st : Stmt) (m : XS) : Prop := PS X st (RdS X.K X.mg F W m)
abbrev SS_ (X : Cx) (F : Frm) (W : WX) (st : List Stmt) (m : XS) : Prop := PSs X st (RdS X.K X.mg F W m)
/-- a result, then the rest -/
def Rs.out {α : Type} (r : Rs α) (f : α → AS → Out) : Out := match r with
  | .ok a S => f a S
  | .ex c fl S => .ex c fl S
  | .no => .no
@[simp] theorem Rs.out_ok {α : Type} {a : α} {S : AS} {f : α → AS → Out} : (Rs.ok a S).out f = f a S := rfl
@[simp] theorem Rs.out_ex {α : Type} {c fl} {S : AS} {f : α → AS → Out} : (Rs.ex c fl S : Rs α).out f = .ex c fl S := rfl
@[simp] theorem Rs.out_no {α : Type} {f : α → AS → Out} : (Rs.no : Rs α).out f = .no := rfl
def sNil : XS := fun S => .nx S
def sSeq (m n : XS) : XS := fun S => match m S with
  | .nx S' => n S'
  | o => o
section
variable {X : Cx} {F : Frm} {W : WX} {p p1 p2 : Bool} {st : Stmt} {rest a b : List Stmt} {m n : XS} {e c : Expr} {A : XO} {T : XT} {pos : Pos}
theorem s_nil : SS_ X F W [] sNil := PSs.imp pss_nil fun D σ H h => by
  obtain ⟨R, S, a, q⟩ := h
  exact q σ H a
theorem s_one (h : S_ X F W st m) : SS_ X F W [st] m := pss_one h
theorem s_cons (h : S_ X F W st m) (h2 : SS_ X F W rest n) : SS_ X F W (st :: rest) (sSeq m n) := PSs.imp (pss_cons h h2) fun D σ H q => by
  obtain ⟨R, S, a, q⟩ := q
  refine ⟨R, S, a, ?_⟩
  unfold sSeq at q
  cases e : m S with
  | nx S' =>
    simp only [e] at q
    exact fun σ' H' a' => ⟨R, S', a', q⟩
  | rt x S' => simp only [e] at q; exact q
  | bk S' => simp only [e] at q; exact q
  | ct S' => simp only [e] at q; exact q
  | ex c fl S' => simp only [e] at q; exact q
  | no => simp only [e] at q; exact q
def sBrk : XS := fun S => .bk S
def sCnt : XS := fun S => .ct S
theorem s_pass : S_ X F W (.Pass pos) sNil := PS.imp ps_pass fun D σ H h => by
  obtain ⟨R, S, a, q⟩ := h; exact q σ H a
theorem s_break : S_ X F W (.Break pos) sBrk := PS.imp ps_break fun D σ H h => by
  obtain ⟨R, S, a, q⟩ := h; exact q σ H a
theorem s_continue : S_ X F W (.Continue pos) sCnt := PS.imp ps_continue fun D σ H h => by
  obtain ⟨R, S, a, q⟩ := h; exact q σ H a
def sEx (A : XO) : XS := fun S => (A S).out fun _ S' => .nx S'
theorem s_expr (he : EO_ X F W e p A) (hs : swapsWith e none pos.line X.env = pure false := by rfl) : S_ X F W (.Expr e pos) (sEx A) := PS.imp (ps_expr he hs) fun D σ H h => by
  obtain ⟨R, S, a, q⟩ := h
  refine ⟨R, S, a, ?_⟩
  unfold sEx at q
  cases e : A S with
  | no => simp only [e, Rs.out_no] at q; exact q
  | ex c fl S' => simp only [e, Rs.out_ex] at q; exact fun H' cls d x => q σ H' cls d x
  | ok x S' =>
    simp only [e, Rs.out_ok] at q
    exact fun v H' _ a' => q σ H' a'.drop
def sRet (A : XO) : XS := fun S => (A S).out fun x S' => .rt x S'
theorem s_ret (he : EO_ X F W e p A) : S_ X F W (.Return (some e) pos) (sRet A) := PS.imp (ps_ret he) fun D σ H h => by
  obtain ⟨R, S, a, q⟩ := h
  refine ⟨R, S, a, ?_⟩
  unfold sRet at q
  cases e : A S with
  | no => simp only [e, Rs.out_no] at q; exact q
  | ex c fl S' => simp only [e, Rs.out_ex] at q; exact fun H' cls d x => q σ H' cls d x
  | ok x S' =>
    simp only [e, Rs.out_ok] at q
    exact fun v H' _ a' => q v σ H' a'
def sRetN : XS := fun S => .rt (.d .non) S
theorem s_retN : S_ X F W (.Return none pos) sRetN := PS.imp ps_retN fun D σ H h => by
  obtain ⟨R, S, a, q⟩ := h
  exact q .non σ H (a.addS fun _ _ => .non)
/-- an owned slot handed out -/
def xMv (i : Nat) : XO := fun S => match S.v[i]? with
  | some (some x) => .ok x { S with v := S.v.set i none }
  | _ => .no
theorem eo_mv {x : Str} {pos : Pos} (i : Nat) (hN : X.N[i]? = some x := by rfl) (hv : Vis X.env.scope x := by first | exact Or.inl rfl | exact Or.inr (Or.inl rfl) | exact Or.inr (Or.inr rfl)) (hd : (x == ("__debug__" : Str)) = false := by decide)
    (hcd : (x == ("__classdict__" : Str)) = false := by decide) : EO_ X F W (.Name x pos) true (xMv i) := by
  refine PE.imp (pe_var hN hv hd hcd) fun σ H Q h => ?_
  obtain ⟨R, S, a, q⟩ := h
  unfold xMv at q
  cases e : S.v[i]? with
  | none => rw [e] at q; exact q.elim
  | some o =>
    cases o with
    | none => rw [e] at q; exact q.elim
    | some o =>
      rw [e] at q
      obtain ⟨v, ev, a2⟩ := a.takeSlot e
      exact ⟨v, ev, q v H (fun _ => Same.refl H) a2⟩
def sIf (T : XT) (m n : XS) : XS := fun S => (T S).out fun c S' => match c with
  | true => m S'
  | false => n S'
theorem s_if (hc : ET_ X F W c p T) (ha : SS_ X F W a m) (hb : SS_ X F W b n) : S_ X F W (.If c a b pos) (sIf T m n) := PS.imp (ps_if hc ha hb) fun D σ H h => by
  obtain ⟨R, S, a, q⟩ := h
  refine ⟨R, S, a, ?_⟩
  unfold sIf at q
  cases e : T S with
  | no => simp only [e, Rs.out_no] at q; exact q
  | ex c fl S' => simp only [e, Rs.out_ex] at q; exact fun H' cls d x => q σ H' cls d x
  | ok x S' =>
    simp only [e, Rs.out_ok] at q
    intro H' _ a'
    cases x with
    | true => rw [if_pos rfl]; exact ⟨R, S', a', q⟩
    | false => rw [if_neg Bool.false_ne_true]; exact ⟨R, S', a', q⟩
end

/-! ### targets -/
abbrev XG := OD → AS → Rs Unit
abbrev XGs := List OD → AS → Rs Unit
section
variable (K : PySem.W.Frag) (mg : Str → Option Value)
def PostG (F : Frm) (W : WX) (R : Roots) (Q : L2.St → Hp → Prop) : Rs Unit → Prop
  | .ok _ S => ∀ σ H, Asn K mg F R S σ H → Q σ H
  | .ex c fl S => ∀ σ H cls d, ExA K mg F S σ H c fl cls d → W cls d σ H
  | .no => False
def RdG (F : Frm) (W : WX) (G : XG) : TG := fun v σ H Q => ∃ R S x, Asn K mg F ((x, v) :: R) S σ H ∧ PostG K mg F W R Q (G x S)
def RdGs (F : Frm) (W : WX) (G : XGs) : TGs := fun vs σ H Q => ∃ R S xs, vs.length = xs.length ∧ Asn K mg F (tz xs vs ++ R) S σ H ∧ PostG K mg F W R Q (G xs S)
end
abbrev G_ (X : Cx) (F : Frm) (W : WX) (tg : Expr) (G : XG) : Prop := PG X tg (RdG X.K X.mg F W G)
abbrev GS_ (X : Cx) (F : Frm) (W : WX) (tg : List Expr) (G : XGs) : Prop := PGs X tg (RdGs X.K X.mg F W G)
/-- kept as it is, or frozen -/
def frz (own : Bool) (x : OD) : Option OD := if own then some x else x.toD.map .d
def xgN (own : Bool) (i : Nat) : XG := fun x S => match frz own x with
  | some y => if i < S.v.length then .ok () { S with v := S.v.set i (some y) } else .no
  | none => .no
def xgsNil : XGs := fun xs S => match xs with
  | [] => .ok () S
  | _ => .no
def xgsCons (G : XG) (Gs : XGs) : XGs := fun xs S => match xs with
  | x :: xs => (G x S).bind fun _ S' => Gs xs S'
  | [] => .no
/-- a tuple's (or list's) items -/
def xgT (n : Nat) (Gs : XGs) : XG := fun x S => match x.toD with
  | some (.tup ds) => if ds.length = n then Gs (ds.map .d) S else .no
  | some (.lst ds) => if ds.length = n then Gs (ds.map .d) S else .no
  | _ => .no
theorem Asn.frz {K : PySem.W.Frag} {mg : Str → Option Value} {F : Frm} {R : Roots} {S : AS} {σ : L2.St} {H : Hp} {own : Bool} {x y : OD} {v : V} (h : Asn K mg F ((x, v) :: R) S σ H) (e : frz own x = some y) : Asn K mg F ((y, v) :: R) S σ H := by
  unfold Mi.frz at e
  cases own with
  | true => simp at e; subst e; exact h
  | false =>
    simp only [Bool.false_eq_true, if_false, Option.map_eq_some_iff] at e
    obtain ⟨z, e, rfl⟩ := e
    exact h.freeze e
section
variable {X : Cx} {F : Frm} {W : WX} {p p1 p2 : Bool} {tg e o : Expr} {es : List Expr} {A : XO} {G : XG} {Gs : XGs} {pos : Pos} {n : Nat}
theorem PG.imp {tg : Expr} {t t' : TG} (h : PG X tg t) (m : ∀ v σ H Q, t' v σ H Q → t v σ H Q) : PG X tg t' := ⟨fun pins s σ H v u Q I r q => h.run pins s σ H v u Q I r (m v σ H Q q)⟩
theorem PGs.imp {tg : List Expr} {t t' : TGs} (h : PGs X tg t) (m : ∀ v σ H Q, t' v σ H Q → t v σ H Q) : PGs X tg t' := ⟨fun pins s σ H v u Q I r q => h.run pins s σ H v u Q I r (m v σ H Q q)⟩
theorem PG.or {tg : Expr} {t t' : TG} (h : PG X tg t) (h' : PG X tg t') : PG X tg (fun v σ H Q => t v σ H Q ∨ t' v σ H Q) := ⟨fun pins s σ H v u Q I r q => q.elim (h.run pins s σ H v u Q I r) (h'.run pins s σ H v u Q I r)⟩
theorem g_name {x : Str} (own : Bool) (i : Nat) (hN : X.N.Nodup) (hi : X.N[i]? = some x := by rfl) (hx : Loc X.env.scope x := by first | exact Or.inl rfl | exact Or.inr rfl) (hf : X.fn x = true ∨ X.env.scope.names.lookup x = some .local := by first | exact .inl rfl | exact .inr rfl) : G_ X F W (.Name x pos) (xgN own i) :=
  PG.imp (pg_name (i := i) hN hi hx hf) fun v σ H Q h => by
    obtain ⟨R, S, y, a, q⟩ := h
    unfold xgN at q
    cases e : frz own y with
    | none => simp only [e] at q; exact q.elim
    | some z =>
      simp only [e] at q
      by_cases hl : i < S.v.length
      · rw [if_pos hl] at q
        exact q _ H ((a.frz e).store hl)
      · rw [if_neg hl] at q; exact q.elim
theorem gs_nil : GS_ X F W [] xgsNil := PGs.imp pgs_nil fun vs σ H Q h => by
  obtain ⟨R, S, xs, l, a, q⟩ := h
  unfold xgsNil at q
  cases xs with
  | nil =>
    obtain rfl := List.eq_nil_of_length_eq_zero l
    exact ⟨rfl, q σ H a⟩
  | cons _ _ => exact q.elim
theorem gs_cons (h1 : G_ X F W e G) (h2 : GS_ X F W es Gs) (hs : (assignEach (e :: es) X.env).map (·.2) = assign e X.env :: (assignEach es X.env).map (·.2) := by rfl) : GS_ X F W (e :: es) (xgsCons G Gs) := PGs.imp (pgs_cons h1 h2 hs) fun vs σ H Q h => by
  obtain ⟨R, S, xs, l, a, q⟩ := h
  unfold xgsCons at q
  cases xs with
  | nil => exact q.elim
  | cons x xs =>
    match vs, l with
    | v :: vs, l =>
      refine ⟨v, vs, rfl, tz xs vs ++ R, S, x, a, ?_⟩
      cases e2 : G x S with
      | no => simp only [e2, Rs.bind_no] at q; exact q
      | ex c fl S' => simp only [e2, Rs.bind_ex] at q; exact q
      | ok u S' =>
        simp only [e2, Rs.bind_ok] at q
        exact fun σ' H' a' => ⟨R, S', xs, by simpa using l, a', q⟩
theorem g_tup {k : Nat} (hc : X.calm = true) (h : GS_ X F W es Gs) (hn : (assignEach es X.env).length = n := by rfl) (hst : (assignEach es X.env).findIdx? (·.1) = none := by rfl) : G_ X F W (.Tuple es k pos) (xgT n Gs) :=
  PG.imp (PG.or (pg_tup hc h hn hst) (pg_lst hc h hn hst)) fun v σ H Q q => by
    obtain ⟨R, S, x, a, q⟩ := q
    unfold xgT at q
    cases e : x.toD with
    | none => simp only [e] at q; exact q.elim
    | some y =>
      have a1 := a.freeze e
      cases y with
      | tup ds =>
        simp only [e] at q
        by_cases hl : ds.length = n
        · rw [if_pos hl] at q
          obtain ⟨Z, η, C, r, a2⟩ := a1.top
          cases r with
          | tup hz r =>
            have lr := r.length
            exact .inl ⟨_, _, rfl, SqT_up a2.zh hz, by omega, R, S, ds.map .d, by simp [lr], ⟨Z, η, C, a2.addDs r⟩, q⟩
        · rw [if_neg hl] at q; exact q.elim
      | lst ds =>
        simp only [e] at q
        by_cases hl : ds.length = n
        · rw [if_pos hl] at q
          obtain ⟨Z, η, C, r, a2⟩ := a1.top
          cases r with
          | lst hz r =>
            have lr := r.length
            exact .inr ⟨_, _, rfl, .of (a2.zh _ _ hz), by omega, R, S, ds.map .d, by simp [lr], ⟨Z, η, C, a2.addDs r⟩, q⟩
        · rw [if_neg hl] at q; exact q.elim
      | _ => simp only [e] at q; exact q.elim
/-- o.f = .. -/
def gAttr (K : PySem.W.Frag) (ta : TE) (f : Str) : TG := fun v σ H Q => ta σ H fun x H1 => ∃ a C dx fs, x = .ref a ∧ H1 a = some (.ins C dx fs) ∧ Cls K C ∧ NoAttr K C f ∧ fs.length < 1000 ∧ Q σ (upd H1 a (.ins C dx (putF f v fs)))
theorem pg_attr {ta : TE} {f : Str} (he : PE X o ta) : PG X (.Attribute o f pos) (gAttr X.K ta f) := ⟨fun pins s σ H v u Q I r h => by
  refine PySem.W.kas_attr (thn (he.run pins s σ H _ I h) fun ov s1 ⟨x, H1, I1, rx, a, C, dx, fs, ex, ea, c, n, l, q⟩ => ?_)
  subst ex
  obtain rfl : ov = Value.ref a := rx
  exact setattr_ok I1 ea c n l r fun s3 I3 => ⟨σ, _, I3, q⟩⟩
def xgA (cs : List Str) (own : Bool) (f : Str) (A : XD) : XG := fun x S => match frz own x with
  | some x => (A S).bind fun o S1 => match o with
    | .obj n => match nodeAt S1 n with
      | some (.ins c fl) => if cs.contains c ∧ fl.length < 1000 then .ok () (setNode S1 n (.ins c (pf f x fl))) else .no
      | _ => .no
    | _ => .no
  | none => .no
theorem g_attr {A : XD} {f : Str} {cs : List Str} (own : Bool) (hc : HasF X.K X.mg cs f) (ha : E_ X F W o p A) : G_ X F W (.Attribute o f pos) (xgA cs own f A) := PG.imp (pg_attr ha) fun v σ H Q h => by
  obtain ⟨R, S, x0, a, q⟩ := h
  unfold xgA at q
  cases e0 : frz own x0 with
  | none => simp only [e0] at q; exact q.elim
  | some x =>
  simp only [e0] at q
  refine ⟨(x, v) :: R, S, a.frz e0, ?_⟩
  cases e : A S with
  | no => simp only [e, Rs.bind_no] at q; exact q
  | ex c fl S' => simp only [e, Rs.bind_ex] at q; exact fun H' cls d z => q σ H' cls d z
  | ok y S' =>
    simp only [e, Rs.bind_ok] at q
    intro u H1 _ a1
    cases y with
    | obj n =>
      simp only at q
      cases e1 : nodeAt S' n with
      | none => simp only [e1] at q; exact q.elim
      | some oo =>
        cases oo with
        | ins c fl =>
          simp only [e1] at q
          by_cases hcs : cs.contains c = true ∧ fl.length < 1000
          · rw [if_pos hcs] at q
            obtain ⟨Z, η, C, ru, a2⟩ := a1.top
            obtain ⟨a0, Ca, dx, fs, h1, h2, h3, h4, k⟩ := a2.setField e1
            cases ru with
            | obj h0 =>
              rw [h1] at h0; cases h0
              obtain ⟨k1, k2⟩ := hc c (by simpa using hcs.1) Ca h2
              exact ⟨_, Ca, dx, fs, rfl, h3, k1, k2, by omega, q σ _ (k f)⟩
          · rw [if_neg hcs] at q; exact q.elim
        | _ => simp only [e1] at q; exact q.elim
    | _ => exact q.elim
/-- an own list's item -/
def xgI (own : Bool) (P : XL) (B : XD) : XG := fun x S => match frz own x with
  | some x => (P S).bind fun pl S1 => (B S1).bind fun y S2 => match getP S2 pl, y with
    | some (.own xs), .int k => match ixN xs.length k with
      | some j => if j < xs.length then .ok () (setP S2 pl (.own (xs.set j x))) else .no
      | none => .no
    | _, _ => .no
  | none => .no
theorem g_idx {b : Expr} {P : XL} {B : XD} (own : Bool) (ha : L_ X F W o p P) (hb : E_ X F W b true B) : G_ X F W (.Subscript o b pos) (xgI own P B) := by
  have hpg : PG X (.Subscript o b pos) (L2.gSub (RdL X.K X.mg F W p P) (Rd X.K X.mg F W true B) rSetL) := ⟨fun pins s σ H v u Q I r h => by
    refine PySem.W.kas_sub (thn (ha.run pins s σ H _ I h) fun ov s1 ⟨x, H1, I1, r1, q1⟩ => ?_)
    refine thn (hb.run pins s1 σ H1 _ I1 q1) fun iv s2 ⟨y, H2, I2, r2, q2⟩ => ?_
    exact thn (set_list pins s2 σ H2 x y v ov iv u _ I2 r1 r2 r q2) fun _ s3 ⟨H3, I3, q3⟩ => ⟨σ, H3, I3, q3⟩⟩
  refine PG.imp hpg fun v σ H Q h => ?_
  obtain ⟨R, S, x0, a, q⟩ := h
  unfold xgI at q
  cases e0 : frz own x0 with
  | none => simp only [e0] at q; exact q.elim
  | some x =>
  simp only [e0] at q
  refine ⟨(x, v) :: R, S, a.frz e0, ?_⟩
  cases e : P S with
  | no => simp only [e, Rs.bind_no] at q; exact q
  | ex c fl S' => simp only [e, Rs.bind_ex] at q; exact fun H' cls d z => q σ H' cls d z
  | ok pl S' =>
    simp only [e, Rs.bind_ok] at q
    intro u H1 T _ a1 vp
    refine ⟨_, S', a1, ?_⟩
    cases e2 : B S' with
    | no => simp only [e2, Rs.bind_no] at q; exact q
    | ex c fl S' => simp only [e2, Rs.bind_ex] at q; exact fun H' cls d z => q σ H' cls d z
    | ok y S2 =>
      simp only [e2, Rs.bind_ok] at q
      intro w H2 s2 a2
      have vp2 := vp.up (s2 rfl)
      cases e3 : getP S2 pl with
      | none => simp only [e3] at q; exact q.elim
      | some oo =>
        cases oo with
        | own xs =>
          cases y with
          | int k =>
            simp only [e3] at q
            cases e4 : ixN xs.length k with
            | none => simp only [e4] at q; exact q.elim
            | some j =>
              simp only [e4] at q
              by_cases hj : j < xs.length
              · rw [if_pos hj] at q
                obtain rfl := a2.isInt
                have a3 : Asn X.K X.mg F ((x, v) :: (T ++ R)) S2 σ H2 := a2.drop.tperm List.perm_middle
                obtain ⟨ad, vs, rfl, hh, hl, a4⟩ := a3.setItem vp2 e3 hj
                refine ⟨ad, vs, k, j, rfl, rfl, hh, by rw [hl]; exact e4, q σ _ (Asn.dropN (R0 := T) a4)⟩
              · rw [if_neg hj] at q; exact q.elim
          | _ => simp only [e3] at q; exact q.elim
        | _ => simp only [e3] at q; exact q.elim

/-! ### assignment -/
def sAsg (A : XO) (G : XG) : XS := fun S => (A S).out fun x S1 => (G x S1).out fun _ S2 => .nx S2
theorem s_asg (he : EO_ X F W e p A) (hg : G_ X F W tg G) (hs : swapsWithSole [tg] e pos.line X.env = pure false := by rfl) (hw : swappedStores [tg] e X.env = pure none := by rfl)
    (h1 : (assignEach [tg] X.env).map (·.2) = [assign tg X.env] := by rfl) : S_ X F W (.Assign [tg] e pos) (sAsg A G) := PS.imp (ps_asg he hg hs hw h1) fun D σ H h => by
  obtain ⟨R, S, a, q⟩ := h
  refine ⟨R, S, a, ?_⟩
  unfold sAsg at q
  cases e : A S with
  | no => simp only [e, Rs.out_no] at q; exact q
  | ex c fl S' => simp only [e, Rs.out_ex] at q; exact fun H' cls d x => q σ H' cls d x
  | ok x S' =>
    simp only [e, Rs.out_ok] at q
    intro v H' _ a'
    refine ⟨R, S', x, a', ?_⟩
    cases e2 : G x S' with
    | no => simp only [e2, Rs.out_no] at q; exact q
    | ex c fl S2 => simp only [e2, Rs.out_ex] at q; exact q
    | ok u S2 => simp only [e2, Rs.out_ok] at q; exact q
/-- values where own ones may stand -/
abbrev XAO := AS → Rs (List OD)
def RdAO (K : PySem.W.Frag) (mg : Str → Option Value) (F : Frm) (W : WX) (p : Bool) (A : XAO) : TA := fun σ H Q => ∃ R S, Asn K mg F R S σ H ∧ match A S with
  | .ok xs S' => ∀ vs H', (p = true → Same H H') → vs.length = xs.length → Asn K mg F (tz xs vs ++ R) S' σ H' → Q vs H'
  | .ex c fl S' => ∀ H' cls d, ExA K mg F S' σ H' c fl cls d → W cls d σ H'
  | .no => False
abbrev AO_ (X : Cx) (F : Frm) (W : WX) (es : List Expr) (p : Bool) (A : XAO) : Prop := PA X es (RdAO X.K X.mg F W p A)
def xoNil : XAO := fun S => .ok [] S
def xoCons (A : XO) (B : XAO) : XAO := fun S => (A S).bind fun x S1 => (B S1).bind fun xs S2 => .ok (x :: xs) S2
theorem ao_nil : AO_ X F W [] true xoNil := PA.imp pa_nil fun σ H Q h => by
  obtain ⟨R, S, a, q⟩ := h
  exact q [] H (fun _ => Same.refl H) rfl a
theorem ao_cons {B : XAO} (ha : EO_ X F W e p1 A) (hb : AO_ X F W es p2 B) (hs : starEach (e :: es) X.env = (false, eval e X.env) :: starEach es X.env := by rfl) : AO_ X F W (e :: es) (p1 && p2) (xoCons A B) := PA.imp (pa_cons ha hb hs) fun σ H Q h => by
  obtain ⟨R, S, a, q⟩ := h
  refine ⟨R, S, a, ?_⟩
  unfold xoCons at q
  cases e : A S with
  | no => simp only [e, Rs.bind_no] at q
  | ex c fl S' => simp only [e, Rs.bind_ex] at q; exact q
  | ok x S' =>
    simp only [e, Rs.bind_ok] at q
    intro v H1 s1 a1
    refine ⟨_, _, a1, ?_⟩
    cases e2 : B S' with
    | no => simp only [e2, Rs.bind_no] at q
    | ex c fl S2 => simp only [e2, Rs.bind_ex] at q; exact q
    | ok xs S2 =>
      simp only [e2, Rs.bind_ok] at q
      intro vs H2 s2 l a2
      refine q (v :: vs) H2 (fun hp => ?_) (by simp [l]) (a2.tperm ?_)
      · rw [Bool.and_eq_true] at hp
        exact (s1 hp.1).trans (s2 hp.2)
      · show (tz xs vs ++ (x, v) :: R).Perm ((x, v) :: (tz xs vs ++ R))
        exact List.perm_middle
/-- a, b = x, y: a written tuple is laid and unpacked -/
def sTup (n : Nat) (A : XAO) (Gs : XGs) : XS := fun S => (A S).out fun xs S1 => if xs.length = n then (Gs xs S1).out fun _ S2 => .nx S2 else .no
theorem s_tup {es2 : List Expr} {k k2 : Nat} {pt pt2 : Pos} {A : XAO} (hc : X.calm = true) (hn2 : n ≤ 100) (ha : AO_ X F W es2 p A) (hg : GS_ X F W es Gs) (hn : (assignEach es X.env).length = n := by rfl) (hst : (assignEach es X.env).findIdx? (·.1) = none := by rfl)
    (hs : swapsWithSole [.Tuple es k pt] (.Tuple es2 k2 pt2) pos.line X.env = pure false := by rfl) (hw : swappedStores [.Tuple es k pt] (.Tuple es2 k2 pt2) X.env = pure none := by rfl)
    (h1 : (assignEach [.Tuple es k pt] X.env).map (·.2) = [assign (.Tuple es k pt) X.env] := by rfl) : S_ X F W (.Assign [.Tuple es k pt] (.Tuple es2 k2 pt2) pos) (sTup n A Gs) :=
  PS.imp (ps_asg (pe_tup ha) (pg_tup hc hg hn hst) hs hw h1) fun D σ H h => by
    obtain ⟨R, S, a, q⟩ := h
    refine ⟨R, S, a, ?_⟩
    unfold sTup at q
    cases e : A S with
    | no => simp only [e, Rs.out_no] at q; exact q
    | ex c fl S' => simp only [e, Rs.out_ex] at q; exact fun H' cls d x => q σ H' cls d x
    | ok xs S' =>
      simp only [e, Rs.out_ok] at q
      intro vs H1 _ l a1
      by_cases hl : xs.length = n
      · rw [if_pos hl] at q
        refine ⟨by rw [sizeLine_eq]; omega, fun pp hp => ⟨pp, vs, rfl, .of upd_same, by omega, R, S', xs, l, ?_, ?_⟩⟩
        · obtain ⟨Z, η, C, a1⟩ := a1
          exact ⟨_, η, C, a1.newZ hp⟩
        · cases e2 : Gs xs S' with
          | no => simp only [e2, Rs.out_no] at q; exact q
          | ex c fl S2 => simp only [e2, Rs.out_ex] at q; exact q
          | ok u S2 => simp only [e2, Rs.out_ok] at q; exact q
      · rw [if_neg hl] at q; exact q.elim
/-- a, b = x, y with local names: stored from the right -/
def sPar (o1 o2 : Bool) (i j : Nat) (A : XAO) : XS := fun S => (A S).out fun xs S1 => match xs with
  | [x, y] => (xgN o1 i x S1).out fun _ S2 => (xgN o2 j y S2).out fun _ S3 => .nx S3
  | _ => .no
theorem xgN_ok {K : PySem.W.Frag} {mg : Str → Option Value} {R : Roots} {S S' : AS} {σ : L2.St} {H : Hp} {own : Bool} {i : Nat} {x : OD} {v : V} (h : Asn K mg F ((x, v) :: R) S σ H) (e : xgN own i x S = .ok () S') : Asn K mg F R S' (σ.set i (some v)) H := by
  unfold xgN at e
  cases e1 : frz own x with
  | none => simp only [e1] at e; cases e
  | some y =>
    simp only [e1] at e
    by_cases hl : i < S.v.length
    · rw [if_pos hl] at e
      cases e
      exact (h.frz e1).store hl
    · rw [if_neg hl] at e; cases e
theorem xgN_ex {own : Bool} {i : Nat} {x : OD} {S S' : AS} {c : Str} {fl : List (Str × D)} : xgN own i x S ≠ .ex c fl S' := by
  unfold xgN
  split
  · split <;> exact fun z => nomatch z
  · exact fun z => nomatch z
theorem s_par {i j : Nat} {x y : Str} {e1 e2 : Expr} {A : XAO} {px py pt : Pos} {kt k2 : Nat} {pt2 : Pos} (o1 o2 : Bool) (hc : X.calm = true) (hN : X.N.Nodup) (ha : AO_ X F W [e1, e2] p A) (hi : X.N[i]? = some x := by rfl) (hj : X.N[j]? = some y := by rfl) (hij : i ≠ j := by decide)
    (hx : X.env.scope.names.lookup x = some .local := by rfl) (hy : X.env.scope.names.lookup y = some .local := by rfl)
    (hw : swappedStores [.Tuple [.Name x px, .Name y py] kt pt] (.Tuple [e1, e2] k2 pt2) X.env = pure (some [x, y]) := by rfl)
    (hs : swapsWithSole [.Tuple [.Name x px, .Name y py] kt pt] (.Tuple [e1, e2] k2 pt2) pos.line X.env = pure false := by rfl) :
    S_ X F W (.Assign [.Tuple [.Name x px, .Name y py] kt pt] (.Tuple [e1, e2] k2 pt2) pos) (sPar o1 o2 i j A) :=
  PS.imp (ps_par hc hN hi hj hij hx hy ha hw hs) fun D σ H h => by
    obtain ⟨R, S, a, q⟩ := h
    refine ⟨R, S, a, ?_⟩
    unfold sPar at q
    cases e : A S with
    | no => simp only [e, Rs.out_no] at q; exact q
    | ex c fl S' => simp only [e, Rs.out_ex] at q; exact fun H' cls d x => q σ H' cls d x
    | ok xs S' =>
      simp only [e, Rs.out_ok] at q
      intro vs H1 _ l a1
      match xs, vs, l with
      | [a, b], [v, w], _ =>
        simp only at q
        cases e2 : xgN o1 i a S' with
        | no => simp only [e2, Rs.out_no] at q; exact q.elim
        | ex c fl S2 => exact absurd e2 xgN_ex
        | ok u S2 =>
          simp only [e2, Rs.out_ok] at q
          cases e3 : xgN o2 j b S2 with
          | no => simp only [e3, Rs.out_no] at q; exact q.elim
          | ex c fl S2 => exact absurd e3 xgN_ex
          | ok u S3 =>
            simp only [e3, Rs.out_ok] at q
            exact ⟨v, w, rfl, q _ _ (xgN_ok (xgN_ok a1 e2) e3)⟩
      | [], _, _ => exact q.elim
      | [_], _, _ => exact q.elim
      | _ :: _ :: _ :: _, _, _ => exact q.elim
def sPar3 (o1 o2 o3 : Bool) (i j k : Nat) (A : XAO) : XS := fun S => (A S).out fun xs S1 => match xs with
  | [x, y, z] => (xgN o1 i x S1).out fun _ S2 => (xgN o2 j y S2).out fun _ S3 => (xgN o3 k z S3).out fun _ S4 => .nx S4
  | _ => .no
theorem s_par3 {i j l : Nat} {x y z : Str} {e1 e2 e3 : Expr} {A : XAO} {px py pz pt : Pos} {kt k2 : Nat} {pt2 : Pos} (o1 o2 o3 : Bool) (hc : X.calm = true) (hN : X.N.Nodup) (ha : AO_ X F W [e1, e2, e3] p A) (hi : X.N[i]? = some x := by rfl) (hj : X.N[j]? = some y := by rfl) (hl : X.N[l]? = some z := by rfl)
    (hij : i ≠ j := by decide) (hil : i ≠ l := by decide) (hjl : j ≠ l := by decide)
    (hx : X.env.scope.names.lookup x = some .local := by rfl) (hy : X.env.scope.names.lookup y = some .local := by rfl) (hz : X.env.scope.names.lookup z = some .local := by rfl)
    (hw : swappedStores [.Tuple [.Name x px, .Name y py, .Name z pz] kt pt] (.Tuple [e1, e2, e3] k2 pt2) X.env = pure (some [x, y, z]) := by rfl)
    (hs : swapsWithSole [.Tuple [.Name x px, .Name y py, .Name z pz] kt pt] (.Tuple [e1, e2, e3] k2 pt2) pos.line X.env = pure false := by rfl) :
    S_ X F W (.Assign [.Tuple [.Name x px, .Name y py, .Name z pz] kt pt] (.Tuple [e1, e2, e3] k2 pt2) pos) (sPar3 o1 o2 o3 i j l A) :=
  PS.imp (ps_par3 hc hN hi hj hl hij hil hjl hx hy hz ha hw hs) fun D σ H h => by
    obtain ⟨R, S, a, q⟩ := h
    refine ⟨R, S, a, ?_⟩
    unfold sPar3 at q
    cases e : A S with
    | no => simp only [e, Rs.out_no] at q; exact q
    | ex c fl S' => simp only [e, Rs.out_ex] at q; exact fun H' cls d x => q σ H' cls d x
    | ok xs S' =>
      simp only [e, Rs.out_ok] at q
      intro vs H1 _ ll a1
      match xs, vs, ll with
      | [a, b, c], [v, w, u], _ =>
        simp only at q
        cases e2 : xgN o1 i a S' with
        | no => simp only [e2, Rs.out_no] at q; exact q.elim
        | ex c fl S2 => exact absurd e2 xgN_ex
        | ok _ S2 =>
          simp only [e2, Rs.out_ok] at q
          cases e3 : xgN o2 j b S2 with
          | no => simp only [e3, Rs.out_no] at q; exact q.elim
          | ex c fl S2 => exact absurd e3 xgN_ex
          | ok _ S3 =>
            simp only [e3, Rs.out_ok] at q
            cases e4 : xgN o3 l c S3 with
            | no => simp only [e4, Rs.out_no] at q; exact q.elim
            | ex c fl S2 => exact absurd e4 xgN_ex
            | ok _ S4 =>
              simp only [e4, Rs.out_ok] at q
              exact ⟨v, w, u, rfl, q _ _ (xgN_ok (xgN_ok (xgN_ok a1 e2) e3) e4)⟩
      | [], _, _ => exact q.elim
      | [_], _, _ => exact q.elim
      | [_, _], _, _ => exact q.elim
      | _ :: _ :: _ :: _ :: _, _, _ => exact q.elim
end

/-! ### append, pop -/
def xApp (own : Bool) (P : XL) (A : XO) : XD := fun S => (P S).bind fun pl S1 => match getP S1 pl with
  | some (.own _) => (A S1).bind fun x S2 => match frz own x, getP S2 pl with
    | some x, some (.own xs) => if xs.length < sizeLine then .ok .non (setP S2 pl (.own (xs ++ [x]))) else .no
    | _, _ => .no
  | _ => .no
def xPop (P : XL) : XO := fun S => (P S).bind fun pl S1 => match getP S1 pl with
  | some (.own xs) => match xs[xs.length - 1]? with
    | some x => .ok x (setP S1 pl (.own (xs.eraseIdx (xs.length - 1))))
    | none => .no
  | _ => .no
def xPopAt (P : XL) (B : XD) : XO := fun S => (P S).bind fun pl S1 => match getP S1 pl with
  | some (.own _) => (B S1).bind fun y S2 => match getP S2 pl, y with
    | some (.own xs), .int i => if -(2 ^ 63) ≤ i ∧ i < 2 ^ 63 then match seqIndex? i xs.length with
      | some k => match xs[k]? with
        | some x => .ok x (setP S2 pl (.own (xs.eraseIdx k)))
        | none => .no
      | none => .no else .no
    | _, _ => .no
  | _ => .no
section
variable {X : Cx} {F : Frm} {W : WX} {p p1 p2 : Bool} {e o : Expr} {A : XO} {B : XD} {P : XL} {apos cpos : Pos}
theorem ownList {K : PySem.W.Frag} {mg : Str → Option Value} {T R : Roots} {S : AS} {σ : L2.St} {H : Hp} {pl : PLoc} {xs : List OD} {v : V} (h : Asn K mg F (T ++ R) S σ H) (hv : ValP σ H pl v T) (e : getP S pl = some (.own xs)) : ∃ a vs, v = .ref a ∧ H a = some (.lst vs) ∧ vs.length = xs.length := by
  obtain ⟨Z, η, C, h⟩ := h
  obtain ⟨C1, C2, r, pc, _⟩ := h.focus hv e
  obtain ⟨a, vs, Cx, rfl, rfl, rr⟩ := r.own_inv
  exact ⟨a, vs, rfl, (h.cw _ (pc.mem_iff.mpr (List.mem_append_left _ List.mem_cons_self))).1, rr.length.symm⟩
/-- what keeps a place's value behind another evaluation -/
def Stays (P : XL) (p : Bool) : Prop := p = true ∨ ∃ i, P = xLv i
theorem e_append (own : Bool) (ha : L_ X F W o p1 P) (he : EO_ X F W e p2 A) (hst : Stays P p2 := by first | exact Or.inl rfl | exact Or.inr ⟨_, rfl⟩) (hbase : attributeBase o "append" X.env (eval o X.env) = eval o X.env := by rfl)
    (hfew : ((backTo cpos (starEach [e] X.env)).all (fun x => !x.1) && (backToKw cpos (keywordEach [] X.env)).all (fun x => x.1.isSome) && decide ([e].length + ([] : List Keyword).length + (if ([] : List Keyword).isEmpty then 0 else 1) < 30)) = true := by rfl)
    (hline : (apos.endLine == cpos.line) = true := by rfl) (hs : starEach [e] X.env = (false, eval e X.env) :: starEach [] X.env := by rfl) (hplain : (backTo cpos (starEach [] X.env)).any (·.1) = false := by rfl) :
    E_ X F W (.Call (.Attribute o "append" apos) [e] [] cpos) false (xApp own P A) := by
  refine PE.imp (pe_bm PySem.F.plainAttrs_list PySem.F.slot_list_append PySem.F.type_list_append mt_append ha (pa_cons he pa_nil hs) hbase hfew hline hs hplain) fun σ H Q h => ?_
  obtain ⟨R, S, a, q⟩ := h
  refine ⟨R, S, a, ?_⟩
  unfold xApp at q
  cases e0 : P S with
  | no => simp only [e0, Rs.bind_no] at q
  | ex c fl S' => simp only [e0, Rs.bind_ex] at q; exact q
  | ok pl S1 =>
    simp only [e0, Rs.bind_ok] at q
    intro v H1 T s1 a1 vp
    cases e1 : getP S1 pl with
    | none => simp only [e1] at q
    | some oo =>
      cases oo with
      | own xs0 =>
        simp only [e1] at q
        obtain ⟨a0, vs0, rfl, h0, _⟩ := ownList a1 vp e1
        refine ⟨.inl ⟨rfl, _, .of h0⟩, T ++ R, S1, a1, ?_⟩
        cases e2 : A S1 with
        | no => simp only [e2, Rs.bind_no] at q
        | ex c fl S' => simp only [e2, Rs.bind_ex] at q; exact q
        | ok x0 S2 =>
          simp only [e2, Rs.bind_ok] at q
          intro w H2 s2 a2
          have vp2 : ValP σ H2 pl (.ref a0) T := by
            rcases hst with z | ⟨i, z⟩
            · exact vp.up (s2 z)
            · subst z
              have epl : pl = .sl i := by
                unfold xLv at e0
                split at e0
                · cases e0; rfl
                · cases e0
              subst epl
              exact vp
          cases e3 : frz own x0 with
          | none => simp only [e3] at q
          | some x =>
            cases e4 : getP S2 pl with
            | none => simp only [e3, e4] at q
            | some oo =>
              cases oo with
              | own xs =>
                simp only [e3, e4] at q
                by_cases hl : xs.length < sizeLine
                · rw [if_pos hl] at q
                  obtain ⟨a', vs, e5, h5, l5, a5⟩ := (a2.frz e3).append vp2 e4
                  cases e5
                  exact ⟨a0, vs, w, rfl, rfl, h5, by omega, q .non _ (fun z => nomatch z) ((Asn.dropN (R0 := T) a5).addS fun _ _ => .non)⟩
                · rw [if_neg hl] at q; exact q.elim
              | _ => simp only [e3, e4] at q
      | _ => simp only [e1] at q
theorem dropLast_erase {α : Type} : ∀ l : List α, l.dropLast = l.eraseIdx (l.length - 1)
  | [] => rfl
  | [_] => rfl
  | a :: b :: l => by
    have ih := dropLast_erase (b :: l)
    simp only [List.dropLast_cons_cons, List.length_cons, Nat.add_sub_cancel, List.eraseIdx_cons_succ] at ih ⊢
    rw [ih]
theorem eo_pop (ha : L_ X F W o p1 P) (hbase : attributeBase o "pop" X.env (eval o X.env) = eval o X.env := by rfl) (hline : (apos.endLine == cpos.line) = true := by rfl) : EO_ X F W (.Call (.Attribute o "pop" apos) [] [] cpos) false (xPop P) := by
  refine PE.imp (pe_bm0 PySem.F.plainAttrs_list PySem.F.slot_list_pop PySem.F.type_list_pop mt_pop ha hbase hline) fun σ H Q h => ?_
  obtain ⟨R, S, a, q⟩ := h
  refine ⟨R, S, a, ?_⟩
  unfold xPop at q
  cases e0 : P S with
  | no => simp only [e0, Rs.bind_no] at q
  | ex c fl S' => simp only [e0, Rs.bind_ex] at q; exact q
  | ok pl S1 =>
    simp only [e0, Rs.bind_ok] at q
    intro v H1 T s1 a1 vp
    cases e1 : getP S1 pl with
    | none => simp only [e1] at q
    | some oo =>
      cases oo with
      | own xs =>
        simp only [e1] at q
        cases e2 : xs[xs.length - 1]? with
        | none => simp only [e2] at q
        | some x =>
          simp only [e2] at q
          obtain ⟨a0, vs, w, rfl, h0, l0, h1, a2⟩ := a1.popItem vp e1 e2
          refine ⟨.inl ⟨rfl, _, .of h0⟩, a0, vs, w, rfl, rfl, h0, by rw [l0]; exact h1, ?_⟩
          rw [dropLast_erase, l0]
          refine q w _ (fun z => nomatch z) (Asn.dropN (R0 := T) (a2.tperm ?_))
          exact List.perm_middle.symm
      | _ => simp only [e1] at q
theorem eo_popAt (ha : L_ X F W o p1 P) (he : E_ X F W e p2 B) (hst : Stays P p2 := by first | exact Or.inl rfl | exact Or.inr ⟨_, rfl⟩) (hbase : attributeBase o "pop" X.env (eval o X.env) = eval o X.env := by rfl)
    (hfew : ((backTo cpos (starEach [e] X.env)).all (fun x => !x.1) && (backToKw cpos (keywordEach [] X.env)).all (fun x => x.1.isSome) && decide ([e].length + ([] : List Keyword).length + (if ([] : List Keyword).isEmpty then 0 else 1) < 30)) = true := by rfl)
    (hline : (apos.endLine == cpos.line) = true := by rfl) (hs : starEach [e] X.env = (false, eval e X.env) :: starEach [] X.env := by rfl) (hplain : (backTo cpos (starEach [] X.env)).any (·.1) = false := by rfl) :
    EO_ X F W (.Call (.Attribute o "pop" apos) [e] [] cpos) false (xPopAt P B) := by
  refine PE.imp (pe_bm PySem.F.plainAttrs_list PySem.F.slot_list_pop PySem.F.type_list_pop mt_popAt ha (pa_cons he pa_nil hs) hbase hfew hline hs hplain) fun σ H Q h => ?_
  obtain ⟨R, S, a, q⟩ := h
  refine ⟨R, S, a, ?_⟩
  unfold xPopAt at q
  cases e0 : P S with
  | no => simp only [e0, Rs.bind_no] at q
  | ex c fl S' => simp only [e0, Rs.bind_ex] at q; exact q
  | ok pl S1 =>
    simp only [e0, Rs.bind_ok] at q
    intro v H1 T s1 a1 vp
    cases e1 : getP S1 pl with
    | none => simp only [e1] at q
    | some oo =>
      cases oo with
      | own xs0 =>
        simp only [e1] at q
        obtain ⟨a0, vs0, rfl, h0, _⟩ := ownList a1 vp e1
        refine ⟨.inl ⟨rfl, _, .of h0⟩, T ++ R, S1, a1, ?_⟩
        cases e2 : B S1 with
        | no => simp only [e2, Rs.bind_no] at q
        | ex c fl S' => simp only [e2, Rs.bind_ex] at q; exact q
        | ok y S2 =>
          simp only [e2, Rs.bind_ok] at q
          intro w H2 s2 a2
          have vp2 : ValP σ H2 pl (.ref a0) T := by
            rcases hst with z | ⟨i, z⟩
            · exact vp.up (s2 z)
            · subst z
              have epl : pl = .sl i := by
                unfold xLv at e0
                split at e0
                · cases e0; rfl
                · cases e0
              subst epl
              exact vp
          cases e4 : getP S2 pl with
          | none => simp only [e4] at q
          | some oo =>
            cases oo with
            | own xs =>
              cases y with
              | int i =>
                simp only [e4] at q
                by_cases hi : -(2 ^ 63) ≤ i ∧ i < 2 ^ 63
                · rw [if_pos hi] at q
                  cases e5 : seqIndex? i xs.length with
                  | none => simp only [e5] at q
                  | some k =>
                    simp only [e5] at q
                    cases e6 : xs[k]? with
                    | none => simp only [e6] at q
                    | some x =>
                      simp only [e6] at q
                      obtain rfl := a2.isInt
                      obtain ⟨a', vs, u, e7, h7, l7, h8, a8⟩ := a2.drop.popItem vp2 e4 e6
                      cases e7
                      refine ⟨a0, vs, i, k, u, rfl, rfl, h7, hi.1, hi.2, by rw [l7]; exact e5, h8, q u _ (fun z => nomatch z) (Asn.dropN (R0 := T) (a8.tperm ?_))⟩
                      exact List.perm_middle.symm
                · rw [if_neg hi] at q; exact q.elim
              | _ => simp only [e4] at q
            | _ => simp only [e4] at q
      | _ => simp only [e1] at q
end
end Mi
end
section
set_option Elab.async false
set_option linter.all false
set_option maxRecDepth 100000
set_option maxHeartbeats 2000000
/-! Mi11: while, for, comprehensions; what is walked. -/
namespace Mi
open PySem PySem.Spec PyProof.Rows L2

/-! ### while -/
def sWhile : Nat → XT → XS → XS
  | 0, _, _ => fun _ => .no
  | n + 1, T, m => fun S => (T S).out fun c S1 => match c with
    | false => .nx S1
    | true => match m S1 with
      | .nx S2 => sWhile n T m S2
      | .ct S2 => sWhile n T m S2
      | .bk S2 => .nx S2
      | o => o
/-- more turns than any loop takes -/
def big : Nat := 1000000
section
variable {X : Cx} {F : Frm} {W : WX} {p : Bool} {c : Expr} {body : List Stmt} {T : XT} {m : XS} {pos : Pos}
theorem s_while (hp : PassesOwn (model X.prog X.w) X.A X.env X.xe) (hc : ET_ X F W c p T) (hb : SS_ X F W body m) : S_ X F W (.While c body [] pos) (sWhile big T m) := PS.imp (ps_while hp hc hb) fun D σ H h => by
  obtain ⟨R, S, a, q⟩ := h
  refine ⟨fun k σ H => ∃ S, Asn X.K X.mg F R S σ H ∧ Post X.K X.mg F W R D (sWhile k T m S), ⟨big, S, a, q⟩, ?_⟩
  rintro k σ H ⟨S, a, q⟩
  cases k with
  | zero => exact q.elim
  | succ k =>
    refine ⟨R, S, a, ?_⟩
    unfold sWhile at q
    cases e : T S with
    | no => simp only [e, Rs.out_no] at q; exact q
    | ex c fl S' => simp only [e, Rs.out_ex] at q; exact fun H' cls d x => q σ H' cls d x
    | ok c S1 =>
      simp only [e, Rs.out_ok] at q
      intro H1 _ a1
      cases c with
      | false => rw [if_neg Bool.false_ne_true]; exact q σ H1 a1
      | true =>
        rw [if_pos rfl]
        refine ⟨fun σ' H' => ∃ S2, Asn X.K X.mg F R S2 σ' H' ∧ Post X.K X.mg F W R D (sWhile k T m S2), fun σ' H' n' => ⟨k, Nat.lt_succ_self k, n'⟩, R, S1, a1, ?_⟩
        simp only at q
        cases e2 : m S1 with
        | nx S2 => simp only [e2] at q; exact fun σ' H' a' => ⟨S2, a', q⟩
        | ct S2 => simp only [e2] at q; exact fun σ' H' a' => ⟨S2, a', q⟩
        | bk S2 => simp only [e2] at q; exact q
        | rt x S2 => simp only [e2] at q; exact q
        | ex c fl S2 => simp only [e2] at q; exact q
        | no => simp only [e2] at q; exact q
end

/-! ### what is walked -/
structure Src (K : PySem.W.Frag) (mg : Str → Option Value) (F : Frm) (J : It) (xs : List D) (R : Roots) : Prop where
  stop : ∀ (i : Nat) S σ H, Asn K mg F R S σ H → xs.length ≤ i → J.stop i H
  go : ∀ (i : Nat) S σ H, Asn K mg F R S σ H → i < xs.length → J.go i H
  yld : ∀ (i : Nat) x R' S σ H v H', Asn K mg F (R' ++ R) S σ H → xs[i]? = some x → J.yld i H v H' → Same H H' ∧ Asn K mg F ((.d x, v) :: (R' ++ R)) S σ H'
abbrev XI := AS → Rs (List D)
def RdI (K : PySem.W.Frag) (mg : Str → Option Value) (F : Frm) (W : WX) (p : Bool) (I : XI) : TI := fun σ H Q => ∃ R S, Asn K mg F R S σ H ∧ match I S with
  | .ok xs S' => ∀ J H' T, (p = true → Same H H') → Asn K mg F (T ++ R) S' σ H' → Src K mg F J xs T → Q J H'
  | .ex c fl S' => ∀ H' cls d, ExA K mg F S' σ H' c fl cls d → W cls d σ H'
  | .no => False
abbrev I_ (X : Cx) (F : Frm) (W : WX) (tg it : Expr) (p : Bool) (I : XI) : Prop := PI X tg it (RdI X.K X.mg F W p I)
theorem PI.imp {X : Cx} {tg it : Expr} {t t' : TI} (h : PI X tg it t) (m : ∀ σ H Q, t' σ H Q → t σ H Q) : PI X tg it t' := ⟨fun pins s σ H R I q => h.run pins s σ H R I (m σ H R q)⟩
theorem PI.or {X : Cx} {tg it : Expr} {t t' : TI} (h : PI X tg it t) (h' : PI X tg it t') : PI X tg it (fun σ H Q => t σ H Q ∨ t' σ H Q) := ⟨fun pins s σ H R I q => q.elim (h.run pins s σ H R I) (h'.run pins s σ H R I)⟩
/-- the items of a value -/
def D.items : D → Option (List D)
  | .lst xs => some xs
  | .scr xs => some xs
  | .tup xs => some xs
  | .str z => some (z.cps.toList.map fun c => .str ⟨#[c]⟩)
  | _ => none
def xI (A : XD) : XI := fun S => (A S).bind fun x S1 => match x.items with
  | some xs => .ok xs S1
  | none => .no
section
variable {K : PySem.W.Frag} {mg : Str → Option Value} {F : Frm} {W : WX} {R : Roots} {a : Addr}
theorem Asn.mid {R' R : Roots} {S : AS} {σ : L2.St} {H : Hp} {x : OD × V} (h : Asn K mg F (R' ++ x :: R) S σ H) : Asn K mg F (x :: (R' ++ R)) S σ H := h.tperm List.perm_middle
theorem src_list {xs : List D} (hx : D.lst xs = D.lst xs) : Src K mg F (Itl K a) xs [(.d (.lst xs), .ref a)] := by
  have key : ∀ {R' S σ H}, Asn K mg F (R' ++ [(.d (.lst xs), .ref a)]) S σ H → ∃ Z η C vs, H a = some (.lst vs) ∧ Reps K mg Z η xs vs ∧ AsnC K mg F (R' ++ [(.d (.lst xs), .ref a)]) S σ H Z η C := fun {R' S σ H} h => by
    obtain ⟨Z, η, C, h⟩ := h
    have h2 := h
    obtain ⟨C', h3⟩ := h.perm (S' := S) (σ' := σ) (R' := (.d (.lst xs), .ref a) :: (R' ++ [])) (E := []) h.sl h.ml (by rw [List.nil_append]; exact List.perm_middle.append_right _)
    obtain ⟨r, h4⟩ := h3.takeD
    cases r with
    | lst hz r => exact ⟨Z, η, C, _, h4.zh _ _ hz, r, h2⟩
  refine ⟨fun i S σ H h hi => ?_, fun i S σ H h hi => ?_, fun i x R' S σ H v H' h e y => ?_⟩
  · obtain ⟨Z, η, C, vs, hh, r, _⟩ := key (R' := []) h
    exact ⟨vs, .of hh, by rw [← r.length]; exact hi⟩
  · obtain ⟨Z, η, C, vs, hh, r, _⟩ := key (R' := []) h
    have hl := r.length
    exact ⟨vs, vs[i]'(by omega), .of hh, by simp⟩
  · obtain ⟨Z, η, C, vs, hh, r, h2⟩ := key h
    obtain ⟨rfl, y⟩ := y
    obtain ⟨w, e2, rw'⟩ := r.get e
    rw [y vs (.of hh)] at e2
    cases e2
    exact ⟨Same.refl _, Z, η, C, h2.addD rw'⟩
theorem sq_inj {K : PySem.W.Frag} {H : Hp} {a : Addr} {xs ys : List V} (h : SqL K H a xs) (h' : SqL K H a ys) (hk : H a ≠ none ∨ H a = none) : True := trivial
/-- a list that is read, of any kind -/
theorem src_scr {xs : List D} : Src K mg F (Itl K a) xs [(.d (.scr xs), .ref a)] := by
  have key : ∀ {R' S σ H}, Asn K mg F (R' ++ [(.d (.scr xs), .ref a)]) S σ H → ∃ Z η C vs, SqL K H a vs ∧ Reps K mg Z η xs vs ∧ AsnC K mg F (R' ++ [(.d (.scr xs), .ref a)]) S σ H Z η C := fun {R' S σ H} h => by
    obtain ⟨Z, η, C, h⟩ := h
    have h2 := h
    obtain ⟨C', h3⟩ := h.perm (S' := S) (σ' := σ) (R' := (.d (.scr xs), .ref a) :: (R' ++ [])) (E := []) h.sl h.ml (by rw [List.nil_append]; exact List.perm_middle.append_right _)
    obtain ⟨r, h4⟩ := h3.takeD
    cases r with
    | scr hz r => exact ⟨Z, η, C, _, h4.zh.seq hz, r, h2⟩
  refine ⟨fun i S σ H h hi => ?_, fun i S σ H h hi => ?_, fun i x R' S σ H v H' h e y => ?_⟩
  · obtain ⟨Z, η, C, vs, hh, r, _⟩ := key (R' := []) h
    exact ⟨vs, hh, by rw [← r.length]; exact hi⟩
  · obtain ⟨Z, η, C, vs, hh, r, _⟩ := key (R' := []) h
    have hl := r.length
    exact ⟨vs, vs[i]'(by omega), hh, by simp⟩
  · obtain ⟨Z, η, C, vs, hh, r, h2⟩ := key h
    obtain ⟨rfl, y⟩ := y
    obtain ⟨w, e2, rw'⟩ := r.get e
    rw [y vs hh] at e2
    cases e2
    exact ⟨Same.refl _, Z, η, C, h2.addD rw'⟩
theorem src_tup {xs : List D} : Src K mg F (Itt K a) xs [(.d (.tup xs), .ref a)] := by
  have key : ∀ {R' S σ H}, Asn K mg F (R' ++ [(.d (.tup xs), .ref a)]) S σ H → ∃ Z η C vs, SqT K H a vs ∧ Reps K mg Z η xs vs ∧ AsnC K mg F (R' ++ [(.d (.tup xs), .ref a)]) S σ H Z η C := fun {R' S σ H} h => by
    obtain ⟨Z, η, C, h⟩ := h
    have h2 := h
    obtain ⟨C', h3⟩ := h.perm (S' := S) (σ' := σ) (R' := (.d (.tup xs), .ref a) :: (R' ++ [])) (E := []) h.sl h.ml (by rw [List.nil_append]; exact List.perm_middle.append_right _)
    obtain ⟨r, h4⟩ := h3.takeD
    cases r with
    | tup hz r => exact ⟨Z, η, C, _, SqT_up h4.zh hz, r, h2⟩
  refine ⟨fun i S σ H h hi => ?_, fun i S σ H h hi => ?_, fun i x R' S σ H v H' h e y => ?_⟩
  · obtain ⟨Z, η, C, vs, hh, r, _⟩ := key (R' := []) h
    exact ⟨vs, hh, by rw [← r.length]; exact hi⟩
  · obtain ⟨Z, η, C, vs, hh, r, _⟩ := key (R' := []) h
    have hl := r.length
    exact ⟨vs, vs[i]'(by omega), hh, by simp⟩
  · obtain ⟨Z, η, C, vs, hh, r, h2⟩ := key h
    obtain ⟨rfl, y⟩ := y
    obtain ⟨w, e2, rw'⟩ := r.get e
    rw [y vs hh] at e2
    cases e2
    exact ⟨Same.refl _, Z, η, C, h2.addD rw'⟩
theorem src_str {z : Str} {T : Roots} : Src K mg F (Its z) (z.cps.toList.map fun c => D.str ⟨#[c]⟩) T := by
  refine ⟨fun i S σ H h hi => ?_, fun i S σ H h hi => ?_, fun i x R' S σ H v H' h e y => ?_⟩
  · simpa [Its] using hi
  · simpa [Its] using hi
  · obtain ⟨rfl, c, e1, rfl⟩ := y
    rw [List.getElem?_map, Option.map_eq_some_iff] at e
    obtain ⟨c', e2, rfl⟩ := e
    have : z.cps.toList[i]? = some c := by simpa using e1
    rw [this] at e2; cases e2
    exact ⟨Same.refl _, h.addS fun _ _ => .str⟩
theorem src_range {lo : Int} {n : Nat} {T : Roots} : Src K mg F (Itr lo n) ((List.range n).map fun i => D.int (lo + (i : Nat))) T := by
  refine ⟨fun i S σ H h hi => ?_, fun i S σ H h hi => ?_, fun i x R' S σ H v H' h e y => ?_⟩
  · simpa [Itr] using hi
  · simpa [Itr] using hi
  · obtain ⟨rfl, rfl⟩ := y
    rw [List.getElem?_map, Option.map_eq_some_iff] at e
    obtain ⟨c', e2, rfl⟩ := e
    have hi := (List.getElem?_eq_some_iff.mp e2).1
    rw [List.length_range] at hi
    rw [List.getElem?_range hi] at e2; cases e2
    exact ⟨Same.refl _, h.addS fun _ _ => .int⟩
theorem src_rangeC {lo c : Int} {n : Nat} {T : Roots} : Src K mg F (Itc lo c n) ((List.range n).map fun i => D.int (lo + (i : Nat) * c)) T := by
  refine ⟨fun i S σ H h hi => ?_, fun i S σ H h hi => ?_, fun i x R' S σ H v H' h e y => ?_⟩
  · simpa [Itc] using hi
  · simpa [Itc] using hi
  · obtain ⟨rfl, rfl⟩ := y
    rw [List.getElem?_map, Option.map_eq_some_iff] at e
    obtain ⟨c', e2, rfl⟩ := e
    have hi := (List.getElem?_eq_some_iff.mp e2).1
    rw [List.length_range] at hi
    rw [List.getElem?_range hi] at e2; cases e2
    exact ⟨Same.refl _, h.addS fun _ _ => .int⟩
end
section
variable {X : Cx} {F : Frm} {W : WX} {p p1 p2 : Bool} {tg e e2 : Expr} {A B : XD} {p0 pos : Pos}
theorem i_val (ha : E_ X F W e p A) : I_ X F W tg e p (xI A) := by
  refine PI.imp (PI.or (pi_list (tg := tg) ha) (PI.or (pi_tup ha) (pi_str ha))) fun σ H Q h => ?_
  obtain ⟨R, S, a, q⟩ := h
  unfold xI at q
  cases e : A S with
  | no => simp only [e, Rs.bind_no] at q
  | ex c fl S' =>
    simp only [e, Rs.bind_ex] at q
    exact .inl ⟨R, S, a, by rw [e]; exact q⟩
  | ok x S' =>
    simp only [e, Rs.bind_ok] at q
    cases x with
    | lst xs =>
      refine .inl ⟨R, S, a, ?_⟩
      rw [e]
      intro v H1 s1 a1
      have a2 := a1
      obtain ⟨Z, η, C, r, b⟩ := a1.top
      cases r with
      | lst hz r => exact ⟨_, rfl, ⟨_, .of (b.zh _ _ hz)⟩, q _ H1 [_] s1 a2 (src_list rfl)⟩
    | scr xs =>
      refine .inl ⟨R, S, a, ?_⟩
      rw [e]
      intro v H1 s1 a1
      have a2 := a1
      obtain ⟨Z, η, C, r, b⟩ := a1.top
      cases r with
      | scr hz r => exact ⟨_, rfl, ⟨_, b.zh.seq hz⟩, q _ H1 [_] s1 a2 src_scr⟩
    | tup xs =>
      refine .inr (.inl ⟨R, S, a, ?_⟩)
      rw [e]
      intro v H1 s1 a1
      have a2 := a1
      obtain ⟨Z, η, C, r, b⟩ := a1.top
      cases r with
      | tup hz r => exact ⟨_, rfl, ⟨_, SqT_up b.zh hz⟩, q _ H1 [_] s1 a2 src_tup⟩
    | str z =>
      refine .inr (.inr ⟨R, S, a, ?_⟩)
      rw [e]
      intro v H1 s1 a1
      obtain rfl := a1.isStr
      exact ⟨z, rfl, q _ H1 [_] s1 a1 src_str⟩
    | _ => simp [D.items] at q
/-- range -/
def xR1 (A : XA) : XI := fun S => (A S).bind fun xs S1 => match xs with
  | [.int j] => if -(2 ^ 62) ≤ j ∧ j < 2 ^ 62 then .ok ((List.range j.toNat).map fun i => D.int (0 + (i : Nat))) S1 else .no
  | _ => .no
def xR2 (A : XA) : XI := fun S => (A S).bind fun xs S1 => match xs with
  | [.int i, .int j] => if -(2 ^ 62) ≤ i ∧ i < 2 ^ 62 ∧ -(2 ^ 62) ≤ j ∧ j < 2 ^ 62 then .ok ((List.range (j - i).toNat).map fun k => D.int (i + (k : Nat))) S1 else .no
  | _ => .no
theorem i_range1 {A : XA} (hm : X.mg "range" = none) (ha : EA_ X F W [e] p A) (hg : Gl X "range" := by rfl) (hs : starEach [e] X.env = [(false, eval e X.env)] := by rfl) : I_ X F W tg (.Call (.Name "range" p0) [e] [] pos) p (xR1 A) := by
  refine PI.imp (pi_range1 hg hm ha hs) fun σ H Q h => ?_
  obtain ⟨R, S, a, q⟩ := h
  refine ⟨R, S, a, ?_⟩
  unfold xR1 at q
  cases e : A S with
  | no => simp only [e, Rs.bind_no] at q
  | ex c fl S' => simp only [e, Rs.bind_ex] at q; exact q
  | ok xs S' =>
    simp only [e, Rs.bind_ok] at q
    intro vs H1 s1 l1 a1
    match xs, vs, l1 with
    | [.int j], [v], _ =>
      simp only at q
      by_cases hj : -(2 ^ 62) ≤ j ∧ j < 2 ^ 62
      · rw [if_pos hj] at q
        obtain rfl := Asn.isInt (R := R) a1
        exact ⟨j, rfl, hj.1, hj.2, q _ H1 [] s1 (Asn.drop (x := (.d (.int j), .int j)) a1) src_range⟩
      · rw [if_neg hj] at q; exact q.elim
theorem i_range2 {A : XA} (hm : X.mg "range" = none) (ha : EA_ X F W [e, e2] p A) (hg : Gl X "range" := by rfl) (hs : starEach [e, e2] X.env = [(false, eval e X.env), (false, eval e2 X.env)] := by rfl) (hs2 : starEach [e2] X.env = [(false, eval e2 X.env)] := by rfl) :
    I_ X F W tg (.Call (.Name "range" p0) [e, e2] [] pos) p (xR2 A) := by
  refine PI.imp (pi_range2 hg hm ha hs hs2) fun σ H Q h => ?_
  obtain ⟨R, S, a, q⟩ := h
  refine ⟨R, S, a, ?_⟩
  unfold xR2 at q
  cases e : A S with
  | no => simp only [e, Rs.bind_no] at q
  | ex c fl S' => simp only [e, Rs.bind_ex] at q; exact q
  | ok xs S' =>
    simp only [e, Rs.bind_ok] at q
    intro vs H1 s1 l1 a1
    match xs, vs, l1 with
    | [.int i, .int j], [v, w], _ =>
      simp only at q
      by_cases hj : -(2 ^ 62) ≤ i ∧ i < 2 ^ 62 ∧ -(2 ^ 62) ≤ j ∧ j < 2 ^ 62
      · rw [if_pos hj] at q
        have a2 : Asn X.K X.mg F ((.d (.int i), v) :: (.d (.int j), w) :: R) S' σ H1 := a1
        obtain rfl := a2.isInt
        obtain rfl := a2.drop.isInt
        exact ⟨i, j, rfl, hj, q _ H1 [] s1 a2.drop.drop src_range⟩
      · rw [if_neg hj] at q; exact q.elim
end

/-! ### for -/
def sForL (G : XG) (m : XS) : List D → XS
  | [] => fun S => .nx S
  | x :: xs => fun S => (G (.d x) S).out fun _ S1 => match m S1 with
    | .nx S2 => sForL G m xs S2
    | .ct S2 => sForL G m xs S2
    | .bk S2 => .nx S2
    | o => o
def sFor (I : XI) (G : XG) (m : XS) : XS := fun S => (I S).out fun xs S1 => sForL G m xs S1
section
variable {X : Cx} {F : Frm} {W : WX} {p : Bool} {tg it : Expr} {body : List Stmt} {I : XI} {G : XG} {m : XS} {pos : Pos}
theorem s_for (hp : PassesOwn (model X.prog X.w) X.A X.env X.xe) (hc : X.calm = true) (hi : I_ X F W tg it p I) (hg : G_ X F W tg G) (hb : SS_ X F W body m) (hs : ∀ x, foldedSetIterable it X.env x = pure x := by intro _; rfl) : S_ X F W (.For tg it body [] pos) (sFor I G m) :=
  PS.imp (ps_for hp hc hi hg hb hs) fun D σ H h => by
    obtain ⟨R, S, a, q⟩ := h
    refine ⟨R, S, a, ?_⟩
    unfold sFor at q
    cases e : I S with
    | no => simp only [e, Rs.out_no] at q; exact q
    | ex c fl S' => simp only [e, Rs.out_ex] at q; exact fun H' cls d x => q σ H' cls d x
    | ok xs S1 =>
      simp only [e, Rs.out_ok] at q
      intro J H1 T _ a1 src
      refine ⟨fun i k σ H => k = xs.length - i ∧ i ≤ xs.length ∧ ∃ S, Asn X.K X.mg F (T ++ R) S σ H ∧ Post X.K X.mg F W R D (sForL G m (xs.drop i) S), ⟨_, rfl, Nat.zero_le _, S1, a1, by rw [List.drop_zero]; exact q⟩, ?_⟩
      rintro i k σ H ⟨rfl, hi, S, a, q⟩
      -- the source's roots stand in front of R, so that all of it is for any further roots
      have aT : ∀ {S σ H}, Asn X.K X.mg F (T ++ R) S σ H → Asn X.K X.mg F T S σ H := fun {S σ H} h => h.perm (E := R) (fun z => z) rfl fun η => by
        rw [← List.append_assoc R]
        exact List.perm_append_comm.append_right _
      by_cases hlt : i < xs.length
      · refine .inr ⟨src.go i S σ H (aT a) hlt, ?_⟩
        have ed : xs.drop i = xs[i] :: xs.drop (i + 1) := List.drop_eq_getElem_cons hlt
        rw [ed] at q
        refine ⟨fun σ' H' => ∃ S2, Asn X.K X.mg F (T ++ R) S2 σ' H' ∧ Post X.K X.mg F W R D (sForL G m (xs.drop (i + 1)) S2), fun σ' H' ⟨S2, a2, q2⟩ => ⟨xs.length - (i + 1), by omega, rfl, hlt, S2, a2, q2⟩, fun v H' y => ?_⟩
        obtain ⟨_, a2⟩ := src.yld i xs[i] R S σ H v H' (a.tperm List.perm_append_comm) (by simp [hlt]) y
        refine ⟨R ++ T, S, .d xs[i], a2, ?_⟩
        simp only [sForL] at q
        have dT : ∀ {S σ H}, Asn X.K X.mg F (R ++ T) S σ H → Asn X.K X.mg F R S σ H := fun {S σ H} h => Asn.dropN (R0 := T) (h.tperm List.perm_append_comm)
        cases e2 : G (.d xs[i]) S with
        | no => simp only [e2, Rs.out_no] at q; exact q
        | ex c fl S2 => simp only [e2, Rs.out_ex] at q; exact q
        | ok u S2 =>
          simp only [e2, Rs.out_ok] at q
          intro σ2 H2 a3
          refine ⟨R ++ T, S2, a3, ?_⟩
          cases e3 : m S2 with
          | nx S3 => simp only [e3] at q; exact fun σ' H' a' => ⟨S3, a'.tperm List.perm_append_comm, q⟩
          | ct S3 => simp only [e3] at q; exact fun σ' H' a' => ⟨S3, a'.tperm List.perm_append_comm, q⟩
          | bk S3 => simp only [e3] at q; exact fun σ' H' a' => q σ' H' (dT a')
          | rt x S3 =>
            simp only [e3] at q
            intro v' σ' H' a'
            refine q v' σ' H' (Asn.dropN (R0 := T) (a'.tperm ?_))
            refine perm_count fun z => ?_
            simp only [List.count_append, List.count_cons]
            omega
          | ex c fl S3 => simp only [e3] at q; exact q
          | no => simp only [e3] at q; exact q
      · have hd : xs.drop i = [] := List.drop_eq_nil_of_le (by omega)
        rw [hd] at q
        exact .inl ⟨src.stop i S σ H (aT a) (by omega), q σ H (Asn.dropN a)⟩
end
end Mi
end
section
set_option Elab.async false
set_option linter.all false
set_option maxRecDepth 100000
set_option maxHeartbeats 2000000
/-! Mi12: comprehensions. -/
namespace Mi
open PySem PySem.Spec PyProof.Rows L2

/-! ### the names of a block -/
def clr : List Nat → AS → AS
  | [], S => S
  | v :: vs, S => ⟨(clr vs S).v.set v none, S.μ⟩
theorem clr_mu : ∀ (vs : List Nat) (S : AS), (clr vs S).μ = S.μ
  | [], _ => rfl
  | _ :: _, _ => rfl
theorem clr_get {i : Nat} : ∀ {vs : List Nat} {S : AS}, (clr vs S).v[i]? = if i ∈ vs ∧ i < S.v.length then some none else S.v[i]?
  | [], S => by simp [clr]
  | v :: vs, S => by
    have ih := clr_get (i := i) (vs := vs) (S := S)
    have hl : (clr vs S).v.length = S.v.length := by
      clear ih
      induction vs with
      | nil => rfl
      | cons u vs ih => show ((clr vs S).v.set u none).length = _; rw [List.length_set, ih]
    show ((clr vs S).v.set v none)[i]? = _
    by_cases e : v = i
    · subst e
      by_cases h : v < S.v.length
      · rw [List.getElem?_set_self (by omega), if_pos ⟨List.mem_cons_self, h⟩]
      · rw [if_neg (fun z => h z.2), List.getElem?_eq_none (by rw [List.length_set]; omega), List.getElem?_eq_none (by omega)]
    · rw [List.getElem?_set_ne e, ih]
      have : (i ∈ v :: vs ∧ i < S.v.length) ↔ (i ∈ vs ∧ i < S.v.length) := by
        rw [List.mem_cons]
        constructor
        · rintro ⟨a | a, b⟩
          · exact absurd a.symm e
          · exact ⟨a, b⟩
        · exact fun ⟨a, b⟩ => ⟨.inr a, b⟩
      simp only [this]
theorem wipe_get {i : Nat} : ∀ {vs : List Nat} {σ : L2.St}, (wipe σ vs)[i]? = if i ∈ vs ∧ i < σ.length then some none else σ[i]?
  | [], σ => by simp [wipe]
  | v :: vs, σ => by
    have ih := wipe_get (i := i) (vs := vs) (σ := σ)
    have hl := wipe_length σ vs
    show ((wipe σ vs).set v none)[i]? = _
    by_cases e : v = i
    · subst e
      by_cases h : v < σ.length
      · rw [List.getElem?_set_self (by omega), if_pos ⟨List.mem_cons_self, h⟩]
      · rw [if_neg (fun z => h z.2), List.getElem?_eq_none (by rw [List.length_set]; omega), List.getElem?_eq_none (by omega)]
    · rw [List.getElem?_set_ne e, ih]
      have : (i ∈ v :: vs ∧ i < σ.length) ↔ (i ∈ vs ∧ i < σ.length) := by
        rw [List.mem_cons]
        constructor
        · rintro ⟨a | a, b⟩
          · exact absurd a.symm e
          · exact ⟨a, b⟩
        · exact fun ⟨a, b⟩ => ⟨.inr a, b⟩
      simp only [this]
theorem wipe_eq {vs : List Nat} {σ σ' : L2.St} (hl : σ'.length = σ.length) (h : ∀ i, i ∉ vs → σ'[i]? = σ[i]?) : wipe σ' vs = wipe σ vs := by
  apply List.ext_getElem?
  intro i
  rw [wipe_get, wipe_get, hl]
  by_cases e : i ∈ vs ∧ i < σ.length
  · rw [if_pos e, if_pos e]
  · rw [if_neg e, if_neg e]
    by_cases e2 : i ∈ vs
    · have : σ.length ≤ i := Nat.le_of_not_lt fun z => e ⟨e2, z⟩
      rw [List.getElem?_eq_none (by omega), List.getElem?_eq_none (by omega)]
    · exact h i e2
theorem wipe_out' {vs : List Nat} {σ σ' : L2.St} (e : wipe σ' vs = wipe σ vs) : σ'.length = σ.length ∧ ∀ i, i ∉ vs → σ'[i]? = σ[i]? := by
  refine ⟨by rw [← wipe_length σ' vs, e, wipe_length], fun i hi => ?_⟩
  have z := congrArg (fun l => l[i]?) e
  simp only [wipe_get] at z
  rw [if_neg (fun q => hi q.1), if_neg (fun q => hi q.1)] at z
  exact z
/-- the roots see only what stands in the abstract slots -/
theorem sroots_congr : ∀ {s : List (Option OD)} {σ σ' : L2.St}, σ'.length = σ.length → (∀ (i : Nat) (x : OD), s[i]? = some (some x) → σ'[i]? = σ[i]?) → sroots s σ' = sroots s σ
  | [], σ, σ', _, _ => by
    cases σ <;> cases σ' <;> rfl
  | _ :: _, [], [], _, _ => rfl
  | _ :: _, [], _ :: _, h, _ => by simp at h
  | _ :: _, _ :: _, [], h, _ => by simp at h
  | y :: s, w :: σ, w' :: σ', hl, h => by
    have ih := sroots_congr (s := s) (σ := σ) (σ' := σ') (by simpa using hl) (fun i x e => by simpa using h (i + 1) x (by simpa using e))
    cases y with
    | none => simpa [sroots] using ih
    | some y =>
      have e0 : w' = w := by simpa using h 0 y rfl
      subst e0
      cases w' with
      | none => simpa [sroots] using ih
      | some w => simp only [sroots, ih]
section
variable {K : PySem.W.Frag} {mg : Str → Option Value} {F : Frm} {R : Roots} {S : AS} {σ σ' : L2.St} {H : Hp}
theorem Asn.congr (h : Asn K mg F R S σ H) (hl : σ'.length = σ.length) (e : ∀ (i : Nat) (x : OD), S.v[i]? = some (some x) → σ'[i]? = σ[i]?) : Asn K mg F R S σ' H := by
  obtain ⟨Z, η, C, h⟩ := h
  refine ⟨Z, η, C, h.z0, h.e0, h.zh, h.fr, h.zn, h.cw, h.nd, ⟨by rw [hl]; exact h.sl.1, fun i x q => ?_⟩, h.ml, ?_⟩
  · rw [e i x q]; exact h.sl.2 i x q
  · rw [sroots_congr hl e]; exact h.rep
theorem Asn.clr (h : Asn K mg F R S σ H) : ∀ vs : List Nat, Asn K mg F R (Mi.clr vs S) σ H
  | [] => h
  | v :: vs => by
    have z := (h.clr vs).forget (i := v)
    have e : ({ Mi.clr vs S with v := (Mi.clr vs S).v.set v none } : AS) = Mi.clr (v :: vs) S := by
      show (⟨(Mi.clr vs S).v.set v none, (Mi.clr vs S).μ⟩ : AS) = ⟨(Mi.clr vs S).v.set v none, S.μ⟩
      rw [clr_mu]
    rw [e] at z
    exact z
theorem Asn.rewipe {vs : List Nat} (h : Asn K mg F R (Mi.clr vs S) σ H) (e : wipe σ' vs = wipe σ vs) : Asn K mg F R (Mi.clr vs S) σ' H := by
  obtain ⟨hl, ho⟩ := wipe_out' e
  refine Asn.congr h hl fun i x q => ho i fun hi => ?_
  rw [clr_get] at q
  split at q
  · cases q
  · rename_i hn
    have := (List.getElem?_eq_some_iff.mp q).1
    exact hn ⟨hi, this⟩
/-- a list in the making grows -/
theorem Asn.grow {y : D} {w : V} {acc : List D} {A0 : Addr} (h : Asn K mg F ((.d y, w) :: (.own (acc.map .d), .ref A0) :: R) S σ H) :
    ∃ vs, H A0 = some (.lst vs) ∧ vs.length = acc.length ∧ Asn K mg F ((.own ((acc ++ [y]).map .d), .ref A0) :: R) S σ (upd H A0 (.lst (vs ++ [w]))) := by
  obtain ⟨Z, η, C, h⟩ := h
  obtain ⟨ry, h1⟩ := h.takeD
  obtain ⟨C1, C2, e, r, r2⟩ := RepR.uncons h1.rep
  obtain ⟨a, vs, Cx, ea, ec, ro⟩ := r.own_inv
  cases ea
  obtain ⟨rr, e2⟩ := RepOs.ds ro
  subst e2; subst ec; subst e
  have hh := (h1.cw _ (List.mem_append_left _ List.mem_cons_self)).1
  have r3 : Reps K mg Z η (acc ++ [y]) (vs ++ [w]) := rr.append (.cons ry .nil)
  refine ⟨vs, hh, rr.length.symm, Z, η, _, h1.write (E := []) (a := A0) (o := .lst vs) (C0 := C2) (.refl _) h1.sl h1.ml (RepR.cons (.own r3.os) r2) (.refl _)⟩
end

/-! ### a block's targets -/
mutual
inductive CT where
  | nm (i : Nat)
  | tp (l : CTs)
inductive CTs where
  | nil
  | cons (c : CT) (l : CTs)
end
mutual
def CT.sl : CT → List Nat
  | .nm i => [i]
  | .tp l => l.sl
def CTs.sl : CTs → List Nat
  | .nil => []
  | .cons c l => c.sl ++ l.sl
end
def CTs.len : CTs → Nat
  | .nil => 0
  | .cons _ l => l.len + 1
mutual
def ctG (K : PySem.W.Frag) : CT → TG
  | .nm i => gName i
  | .tp l => fun v σ H Q => gTup K l.len (ctGs K l) v σ H Q ∨ gLst K l.len (ctGs K l) v σ H Q
def ctGs (K : PySem.W.Frag) : CTs → TGs
  | .nil => gNil
  | .cons c l => gCons (ctG K c) (ctGs K l)
end
mutual
def xct : CT → XG
  | .nm i => xgN false i
  | .tp l => xgT l.len (xcts l)
def xcts : CTs → XGs
  | .nil => xgsNil
  | .cons c l => xgsCons (xct c) (xcts l)
end
section
variable {K : PySem.W.Frag} {mg : Str → Option Value} {F : Frm}
mutual
theorem ct_ok {Q : L2.St → Hp → Prop} {H : Hp} : ∀ (c : CT) {R : Roots} {S S1 : AS} {σ : L2.St} {x : OD} {v : V} {u : Unit}, Asn K mg F ((x, v) :: R) S σ H → xct c x S = .ok u S1 →
    (∀ σ', σ'.length = σ.length → (∀ i, i ∉ c.sl → σ'[i]? = σ[i]?) → Asn K mg F R S1 σ' H → Q σ' H) → ctG K c v σ H Q
  | .nm i, R, S, S1, σ, x, v, u, h, e, k => by
    refine k _ (by simp) (fun j hj => ?_) (xgN_ok h e)
    rw [List.getElem?_set_ne]
    intro z
    exact hj (by simp [CT.sl, z])
  | .tp l, R, S, S1, σ, x, v, u, h, e, k => by
    simp only [xct, xgT] at e
    cases e1 : x.toD with
    | none => simp only [e1] at e; cases e
    | some y =>
      have a1 := h.freeze e1
      cases y with
      | tup ds =>
        simp only [e1] at e
        by_cases hl : ds.length = l.len
        · rw [if_pos hl] at e
          obtain ⟨Z, η, C, r, a2⟩ := a1.top
          cases r with
          | tup hz r =>
            have lr := r.length
            exact .inl ⟨_, _, rfl, SqT_up a2.zh hz, by omega, cts_ok l (by simp [lr]) ⟨Z, η, C, a2.addDs r⟩ e k⟩
        · rw [if_neg hl] at e; cases e
      | lst ds =>
        simp only [e1] at e
        by_cases hl : ds.length = l.len
        · rw [if_pos hl] at e
          obtain ⟨Z, η, C, r, a2⟩ := a1.top
          cases r with
          | lst hz r =>
            have lr := r.length
            exact .inr ⟨_, _, rfl, .of (a2.zh _ _ hz), by omega, cts_ok l (by simp [lr]) ⟨Z, η, C, a2.addDs r⟩ e k⟩
        · rw [if_neg hl] at e; cases e
      | _ => simp only [e1] at e; cases e
theorem cts_ok {Q : L2.St → Hp → Prop} {H : Hp} : ∀ (l : CTs) {R : Roots} {S S1 : AS} {σ : L2.St} {xs : List OD} {vs : List V} {u : Unit}, vs.length = xs.length → Asn K mg F (tz xs vs ++ R) S σ H → xcts l xs S = .ok u S1 →
    (∀ σ', σ'.length = σ.length → (∀ i, i ∉ l.sl → σ'[i]? = σ[i]?) → Asn K mg F R S1 σ' H → Q σ' H) → ctGs K l vs σ H Q
  | .nil, R, S, S1, σ, xs, vs, u, hl, h, e, k => by
    simp only [xcts, xgsNil] at e
    cases xs with
    | nil =>
      cases e
      obtain rfl := List.eq_nil_of_length_eq_zero hl
      exact ⟨rfl, k σ rfl (fun _ _ => rfl) h⟩
    | cons _ _ => cases e
  | .cons c l, R, S, S1, σ, xs, vs, u, hl, h, e, k => by
    simp only [xcts, xgsCons] at e
    cases xs with
    | nil => cases e
    | cons x xs =>
      match vs, hl with
      | v :: vs, hl =>
        cases e2 : xct c x S with
        | no => simp only [e2, Rs.bind_no] at e; cases e
        | ex cc fl S' => simp only [e2, Rs.bind_ex] at e; cases e
        | ok u2 S2 =>
          simp only [e2, Rs.bind_ok] at e
          refine ⟨v, vs, rfl, ct_ok c (R := tz xs vs ++ R) h e2 fun σ' l1 o1 a1 => ?_⟩
          refine cts_ok l (by simpa using hl) a1 e fun σ'' l2 o2 a2 => k σ'' (l2.trans l1) (fun i hi => ?_) a2
          simp only [CTs.sl, List.mem_append, not_or] at hi
          exact (o2 i hi.2).trans (o1 i hi.1)
end
end
section
variable {X : Cx} {e : Expr} {es : List Expr} {c : CT} {l : CTs} {pos : Pos}
theorem cg_nm {x : Str} (i : Nat) (hN : X.N.Nodup) (hi : X.N[i]? = some x := by rfl) (hx : Loc X.env.scope x := by first | exact Or.inl rfl | exact Or.inr rfl) (hf : X.fn x = true ∨ X.env.scope.names.lookup x = some .local := by first | exact .inl rfl | exact .inr rfl) : PG X (.Name x pos) (ctG X.K (.nm i)) := pg_name hN hi hx hf
theorem cgs_nil : PGs X [] (ctGs X.K .nil) := pgs_nil
theorem cgs_cons (h1 : PG X e (ctG X.K c)) (h2 : PGs X es (ctGs X.K l)) (hs : (assignEach (e :: es) X.env).map (·.2) = assign e X.env :: (assignEach es X.env).map (·.2) := by rfl) : PGs X (e :: es) (ctGs X.K (.cons c l)) := pgs_cons h1 h2 hs
theorem cg_tp {k : Nat} (hc : X.calm = true) (h : PGs X es (ctGs X.K l)) (hn : (assignEach es X.env).length = l.len := by rfl) (hst : (assignEach es X.env).findIdx? (·.1) = none := by rfl) : PG X (.Tuple es k pos) (ctG X.K (.tp l)) :=
  PG.or (pg_tup hc h hn hst) (pg_lst hc h hn hst)
end

/-! ### list comprehensions -/
def xYes : XT := fun S => .ok true S
abbrev ETs_ (X : Cx) (F : Frm) (W : WX) (ifs : List Expr) (p : Bool) (T : XT) : Prop := PTs X ifs (RdT X.K X.mg F W p T)
theorem ts_nil {X : Cx} {F : Frm} {W : WX} : ETs_ X F W [] true xYes := ⟨fun pins s σ H Q I h => by
  obtain ⟨R, S, a, q⟩ := h
  exact pts_nil.run pins s σ H Q I (q H (fun _ => Same.refl H) a)⟩
theorem ts_one {X : Cx} {F : Frm} {W : WX} {p : Bool} {c : Expr} {T : XT} (h : ET_ X F W c p T) : ETs_ X F W [c] p T := pts_one h
/-- no exception within a block -/
abbrev W0 : WX := fun _ _ _ _ => False
/-- the turns of a block: vs its names -/
def xCompL (vs : List Nat) (c : CT) (T : XT) (A : XD) : List D → List D → AS → Rs (List D)
  | [], acc, S => .ok acc S
  | x :: xs, acc, S => match xct c (.d x) S with
    | .ok _ S1 => match T S1 with
      | .ok true S2 => match A S2 with
        | .ok y S3 => if acc.length < sizeLine then xCompL vs c T A xs (acc ++ [y]) (clr vs S3) else .no
        | _ => .no
      | .ok false S2 => xCompL vs c T A xs acc (clr vs S2)
      | _ => .no
    | _ => .no
def xComp (vs : List Nat) (I : XI) (c : CT) (T : XT) (A : XD) : XO := fun S => (I S).bind fun xs S1 => match xCompL vs c T A xs [] (clr vs S1) with
  | .ok ys S2 => .ok (.own (ys.map .d)) S2
  | _ => .no
theorem rdComp {K : PySem.W.Frag} {mg : Str → Option Value} {F : Frm} {W : WX} {p1 p2 p3 : Bool} {vs : List Nat} {I : XI} {c : CT} {T : XT} {A : XD} {σ : L2.St} {H : Hp} {Q : VK} (hv : ∀ i ∈ c.sl, i ∈ vs)
    (h : RdO K mg F W (p1 && p2 && p3) (xComp vs I c T A) σ H Q) : tLc (RdI K mg F W p1 I) (ctG K c) (RdT K mg F W0 p2 T) (Rd K mg F W0 p3 A) vs σ H Q := by
  obtain ⟨R, S, a, q⟩ := h
  refine ⟨R, S, a, ?_⟩
  unfold xComp at q
  cases e : I S with
  | no => simp only [e, Rs.bind_no] at q
  | ex c fl S' => simp only [e, Rs.bind_ex] at q; exact q
  | ok xs S1 =>
    simp only [e, Rs.bind_ok] at q
    intro J H1 Tr s1 a1 src A0 hA0
    -- what is wanted at the end
    let PC : Rs (List D) → Prop := fun r => match r with
      | .ok ys S' => ∀ H', ((p1 && p2 && p3) = true → Same H H') → Asn K mg F ((.own (ys.map .d), .ref A0) :: R) S' σ H' → Q (.ref A0) H'
      | _ => False
    have q0 : PC (xCompL vs c T A xs [] (clr vs S1)) := by
      show match xCompL vs c T A xs [] (clr vs S1) with
        | .ok ys S' => ∀ H', ((p1 && p2 && p3) = true → Same H H') → Asn K mg F ((.own (ys.map .d), .ref A0) :: R) S' σ H' → Q (.ref A0) H'
        | _ => False
      cases e2 : xCompL vs c T A xs [] (clr vs S1) with
      | no => simp only [e2] at q
      | ex c fl S' => simp only [e2] at q
      | ok ys S2 => simp only [e2] at q; exact fun H' s a => q _ H' s a
    have sameA : ∀ {H2 : Hp} {o : HO}, ((p2 && p3) = true → Same H1 H2) → ((p2 && p3) = true → Same H1 (upd H2 A0 o)) := fun {H2 o} s z b u e => by
      rw [upd_ne (ne_of_none e hA0)]; exact s z b u e
    have fin : ∀ {H2 : Hp}, ((p2 && p3) = true → Same H1 H2) → ((p1 && p2 && p3) = true → Same H H2) := fun {H2} s z => by
      rw [Bool.and_assoc, Bool.and_eq_true] at z
      exact (s1 z.1).trans (s z.2)
    refine ⟨fun i k H => k = xs.length - i ∧ i ≤ xs.length ∧ ((p2 && p3) = true → Same H1 H) ∧ ∃ S acc, Asn K mg F ((.own (acc.map .d), .ref A0) :: (Tr ++ R)) (clr vs S) σ H ∧ PC (xCompL vs c T A (xs.drop i) acc (clr vs S)),
      ⟨_, rfl, Nat.zero_le _, fun _ => same_upd hA0, S1, [], ?_, by rw [List.drop_zero]; exact q0⟩, ?_⟩
    · obtain ⟨Z, η, C, b⟩ := a1.clr vs
      exact b.newOwn .nil hA0
    rintro i k H2 ⟨rfl, hi, s2, S2, acc, a2, q2⟩
    have aT : ∀ {R' S σ H}, Asn K mg F (R' ++ (Tr ++ R)) S σ H → Asn K mg F ((R' ++ R) ++ Tr) S σ H := fun {R' S σ H} h => h.tperm (perm_count fun z => by
      simp only [List.count_append]; omega)
    have onlyT : ∀ {R' S σ H}, Asn K mg F (R' ++ Tr) S σ H → Asn K mg F Tr S σ H := fun {R' S σ H} h => Asn.dropN h
    have a3 := aT (R' := [(.own (acc.map .d), .ref A0)]) a2
    by_cases hlt : i < xs.length
    · refine .inr ⟨src.go i _ σ H2 (onlyT a3) hlt, ?_⟩
      have ed : xs.drop i = xs[i] :: xs.drop (i + 1) := List.drop_eq_getElem_cons hlt
      rw [ed] at q2
      refine ⟨fun H' => ((p2 && p3) = true → Same H1 H') ∧ ∃ S acc, Asn K mg F ((.own (acc.map .d), .ref A0) :: (Tr ++ R)) (clr vs S) σ H' ∧ PC (xCompL vs c T A (xs.drop (i + 1)) acc (clr vs S)),
        fun H' ⟨s', S', acc', a', q'⟩ => ⟨xs.length - (i + 1), by omega, rfl, hlt, s', S', acc', a', q'⟩, fun v H3 y => ?_⟩
      obtain ⟨s3, a4⟩ := src.yld i xs[i] _ _ σ H2 v H3 a3 (by simp [hlt]) y
      have a5 : Asn K mg F ((.d xs[i], v) :: (([(.own (acc.map .d), .ref A0)] ++ R) ++ Tr)) (clr vs S2) (wipe σ vs) H3 := a4.rewipe (wipe_eq (by rw [wipe_length]) (fun j hj => wipe_out hj))
      simp only [xCompL] at q2
      cases e3 : xct c (.d xs[i]) (clr vs S2) with
      | no => simp only [e3] at q2; exact q2.elim
      | ex cc fl S' => simp only [e3] at q2; exact q2.elim
      | ok u S3 =>
        simp only [e3] at q2
        refine ct_ok c a5 e3 fun σ2 l2 o2 a6 => ?_
        have ew : wipe σ2 vs = wipe σ vs := by
          have z : wipe σ2 vs = wipe (wipe σ vs) vs := wipe_eq l2 fun j hj => o2 j fun z => hj (hv j z)
          rw [z]
          exact wipe_eq (by rw [wipe_length]) fun j hj => wipe_out hj
        refine ⟨ew, _, S3, a6, ?_⟩
        have out : ∀ {S' : AS} {acc' : List D} {H' : Hp}, Asn K mg F (([(.own (acc'.map .d), .ref A0)] ++ R) ++ Tr) S' σ2 H' → Asn K mg F ((.own (acc'.map .d), .ref A0) :: (Tr ++ R)) (clr vs S') σ H' := fun {S' acc' H'} h => by
          have z := (h.clr vs).rewipe ew.symm
          exact z.tperm (perm_count fun z => by simp only [List.count_append, List.count_cons, List.count_nil]; omega)
        cases e4 : T S3 with
        | no => simp only [e4] at q2; exact q2.elim
        | ex cc fl S' => simp only [e4] at q2; exact q2.elim
        | ok b S4 =>
          intro H4 s4 a7
          cases b with
          | false =>
            simp only [e4] at q2
            rw [if_neg Bool.false_ne_true]
            refine ⟨fun z => ?_, S4, acc, out a7, q2⟩
            have z2 := z
            rw [Bool.and_eq_true] at z2
            exact (s2 z).trans (s3.trans (s4 z2.1))
          | true =>
            simp only [e4] at q2
            rw [if_pos rfl]
            refine ⟨_, S4, a7, ?_⟩
            cases e5 : A S4 with
            | no => simp only [e5] at q2; exact q2.elim
            | ex cc fl S' => simp only [e5] at q2; exact q2.elim
            | ok y S5 =>
              simp only [e5] at q2
              intro w H5 s5 a8
              by_cases hl : acc.length < sizeLine
              · rw [if_pos hl] at q2
                obtain ⟨ws, h6, l6, a9⟩ := Asn.grow (R := R ++ Tr) a8
                refine ⟨ws, h6, by omega, fun z => ?_, S5, acc ++ [y], out a9, q2⟩
                refine sameA (fun z => ?_) z
                have z2 := z
                rw [Bool.and_eq_true] at z2
                exact (s2 z).trans (s3.trans ((s4 z2.1).trans (s5 z2.2)))
              · rw [if_neg hl] at q2; exact q2.elim
    · have hd : xs.drop i = [] := List.drop_eq_nil_of_le (by omega)
      rw [hd] at q2
      refine .inl ⟨src.stop i _ σ H2 (onlyT a3) (by omega), q2 H2 (fin s2) ?_⟩
      exact Asn.dropN (R0 := Tr) (a2.tperm List.perm_middle.symm)
section
variable {X : Cx} {F : Frm} {W : WX} {p1 p2 p3 : Bool} {elt tg iter : Expr} {ifs : List Expr} {scope : Scope} {own : List (Str × Nat)} {pos : Pos} {I : XI} {c : CT} {T : XT} {A : XD}
theorem eo_comp (own : List (Str × Nat)) (hc : X.calm = true) (hN : X.N.Nodup) (hi : I_ X F W tg iter p1 I) (ok : BlkOk X.N X.env.scope scope own) (hv : ∀ i ∈ c.sl, i ∈ own.map (·.2))
    (hg : ∀ (s : Shared) (H : Hp) (C : Addr) (cl : List (Str × Addr)) (fp : List Addr), PG (X.blk s H scope (compEnvC scope cl C X.env) fp) tg (ctG X.K c)) (ht : ∀ (s : Shared) (H : Hp) (C : Addr) (cl : List (Str × Addr)) (fp : List Addr), ETs_ (X.blk s H scope (compEnvC scope cl C X.env) fp) F W0 ifs p2 T)
    (he : ∀ (s : Shared) (H : Hp) (C : Addr) (cl : List (Str × Addr)) (fp : List Addr), E_ (X.blk s H scope (compEnvC scope cl C X.env) fp) F W0 elt p3 A) (hs : ∀ x, foldedSetIterable iter X.env x = pure x := by intro _; rfl) :
    EO_ X F W (.ListComp elt [⟨tg, iter, ifs, 0⟩] scope pos) (p1 && p2 && p3) (xComp (own.map (·.2)) I c T A) := PE.imp (pe_lc hc hN hi ok hg ht he hs) fun σ H Q h => rdComp hv h
/-- name = [..] -/
theorem s_setLc {i : Nat} {y : Str} {py spos : Pos} (own : List (Str × Nat)) (o : Bool) (hc : X.calm = true) (hN : X.N.Nodup) (hi : I_ X F W tg iter p1 I) (ok : BlkOk X.N X.env.scope scope own) (hv : ∀ i ∈ c.sl, i ∈ own.map (·.2))
    (hg : ∀ (s : Shared) (H : Hp) (C : Addr) (cl : List (Str × Addr)) (fp : List Addr), PG (X.blk s H scope (compEnvC scope cl C X.env) fp) tg (ctG X.K c)) (ht : ∀ (s : Shared) (H : Hp) (C : Addr) (cl : List (Str × Addr)) (fp : List Addr), ETs_ (X.blk s H scope (compEnvC scope cl C X.env) fp) F W0 ifs p2 T)
    (he : ∀ (s : Shared) (H : Hp) (C : Addr) (cl : List (Str × Addr)) (fp : List Addr), E_ (X.blk s H scope (compEnvC scope cl C X.env) fp) F W0 elt p3 A)
    (hsw : swapsWith (.ListComp elt [⟨tg, iter, ifs, 0⟩] scope pos) (some (.Name y py)) spos.line X.env = pure true) (hy : X.N[i]? = some y := by rfl) (hyl : X.env.scope.names.lookup y = some .local := by rfl) (hs : ∀ x, foldedSetIterable iter X.env x = pure x := by intro _; rfl) :
    S_ X F W (.Assign [.Name y py] (.ListComp elt [⟨tg, iter, ifs, 0⟩] scope pos) spos) (sAsg (xComp (own.map (·.2)) I c T A) (xgN o i)) := PS.imp (ps_setLc hc hN hy hyl hsw hi ok hg ht he hs) fun D σ H h => by
  obtain ⟨R, S, a, q⟩ := h
  refine rdComp (p1 := p1) (p2 := p2) (p3 := p3) (W := W) (c := c) (T := T) (A := A) (I := I) hv ?_
  refine ⟨R, S, a, ?_⟩
  unfold sAsg at q
  cases e : xComp (own.map (·.2)) I c T A S with
  | no => simp only [e, Rs.out_no] at q; exact q
  | ex c fl S' => simp only [e, Rs.out_ex] at q; exact fun H' cls d x => q σ H' cls d x
  | ok x S' =>
    simp only [e, Rs.out_ok] at q
    intro v H' _ a'
    cases e2 : xgN o i x S' with
    | no => simp only [e2, Rs.out_no] at q; exact q.elim
    | ex c fl S2 => exact absurd e2 xgN_ex
    | ok u S2 =>
      simp only [e2, Rs.out_ok] at q
      exact q _ _ (xgN_ok a' e2)
end
end Mi
end
section
set_option Elab.async false
set_option linter.all false
set_option maxRecDepth 100000
set_option maxHeartbeats 2000000
/-! Mi13: calls of methods and of classes. -/
namespace Mi
open PySem PySem.Spec PyProof.Rows L2

theorem rd_call_at {X : Cx} {F : Frm} {W : WX} {p : Bool} {m : Mf} {ix : Option (List Nat)} {A : XA} {σ : L2.St} {H : Hp} {Q : VK} {R : Roots} {S : AS} (n : Nat) (hn : ∀ xs : List D, (∃ u, m (ro ix xs) u ≠ .no) → (ro ix xs).length = n)
    (q : match xCall m ix A S with
      | .ok x S' => ∀ v H', (false = true → Same H H') → Asn X.K X.mg F ((x, v) :: R) S' σ H' → Q v H'
      | .ex c fl S' => ∀ H' cls d, ExA X.K X.mg F S' σ H' c fl cls d → W cls d σ H'
      | .no => False) :
    match A S with
      | .ok xs S' => ∀ vs H1, vs.length = xs.length → Asn X.K X.mg F (tz (xs.map .d) vs ++ R) S' σ H1 → spF X.K X.mg n m (ro ix vs) H1 Q (WE W σ)
      | .ex c fl S' => ∀ H' cls d, ExA X.K X.mg F S' σ H' c fl cls d → W cls d σ H'
      | .no => False := by
  unfold xCall at q
  cases e : A S with
  | no => simp only [e, Rs.bind_no] at q
  | ex c fl S' => simp only [e, Rs.bind_ex] at q; exact q
  | ok xs S1 =>
    simp only [e, Rs.bind_ok] at q
    intro vs H1 l1 a1
    obtain ⟨Z, η, C, a2⟩ := a1
    obtain ⟨r1, a3⟩ := a2.takeDs l1
    have r2 := ro_reps (ix := ix) r1
    have l2 : (ro ix vs).length = (ro ix xs).length := r2.length.symm
    have a4 := a3.addDs r2
    obtain ⟨W', Cm, Co, g, hW, ro', pc⟩ := a4.callee l2
    have hl : (ro ix xs).length = n := hn xs (by
      refine ⟨S1.μ, fun z => ?_⟩
      rw [z] at q; exact q)
    refine ⟨Z, η, W', S1.μ, ro ix xs, hl, l2, ⟨Z, η, Cm, g⟩, ?_⟩
    cases em : m (ro ix xs) S1.μ with
    | no => rw [em] at q; exact q
    | ok x μ' =>
      rw [em] at q
      simp only at q
      by_cases hμ : μ'.isSome = S1.μ.isSome
      · rw [if_pos hμ] at q
        intro v H' g2
        obtain ⟨Z', η', C', g2⟩ := g2
        obtain ⟨C2, b⟩ := a4.back hW ro' pc g2 hμ
        exact q v H' (fun z => nomatch z) ⟨Z', η', C2, b⟩
      · rw [if_neg hμ] at q
        exact q.elim
    | ex c fl μ' =>
      rw [em] at q
      simp only at q
      by_cases hμ : μ'.isSome = S1.μ.isSome
      · rw [if_pos hμ] at q
        intro H' cls d g2
        obtain ⟨Z', η', C', g3, hc, hd⟩ := g2
        obtain ⟨C2, b⟩ := a4.back hW ro' pc g3 hμ
        have b2 : AsnC X.K X.mg F ([] ++ R) ⟨S1.v, μ'⟩ σ H' Z' η' C2 := b
        obtain ⟨C3, b3⟩ := b2.perm (S' := ⟨S1.v, μ'⟩) (σ' := σ) (R' := []) (E := R) b2.sl b2.ml (by simp)
        exact q H' cls d ⟨Z', η', C3, b3, hc, hd⟩
      · rw [if_neg hμ] at q
        exact q.elim

/-! ### methods -/
def xFst (x : D) (A : XA) : XA := fun S => (A S).bind fun xs S1 => .ok (x :: xs) S1
/-- o.m(..), o of the class c -/
def xMeth (c mn : Str) (m : Mf) (ix : Option (List Nat)) (A0 : XD) (A : XA) : XO := fun S => (A0 S).bind fun x S0 => match x with
  | .obj n => match nodeAt S0 n with
    | some (.ins c' fl) => if c' = c ∧ (fl.lookup mn).isNone = true then xCall m ix (xFst (.obj n) A) S0 else .no
    | _ => .no
  | _ => .no
section
variable {X : Cx} {F : Frm} {W : WX} {p p0 : Bool} {k np : Nat} {f C : Addr} {fd : FuncData} {ps ks : List Str} {m : Mf} {ix : Option (List Nat)} {es : List Expr} {kws : List Keyword} {pos apos npos : Pos} {A : XA} {A0 : XD} {c mn x : Str} {o : Expr}
theorem eo_meth {pl : Sem Bool} (h0 : E_ X F W o p0 A0) (hc : X.mg c = some (.ref C)) (hcl : Cls X.K C) (hme : Meth X.K C mn f) (Fk : FO X k f fd ps m) (har : Ar m ps.length) (hr : Room k X.A) (hb : Bn fd ps (es.length + 1) ks ix) (tk : Takes X W)
    (cw : ∀ a, CWA X F W (.ref f) [.ref a] es kws pos ks p A) (hix : ks = [] → ix = none ∧ es.length + 1 = ps.length := by first | exact fun _ => ⟨rfl, rfl⟩ | exact fun z => nomatch z)
    (ht : eval (.Call (.Attribute o mn apos) es kws pos) X.env = (do
      let ov ← eval o X.env
      standAt apos.atName
      let (f, first) ← holding [ov] (getMethod ov mn pl)
      callWith pos f first (backTo pos (starEach es X.env)) (backToKw pos (keywordEach kws X.env))) := by rfl) :
    EO_ X F W (.Call (.Attribute o mn apos) es kws pos) false (xMeth c mn m ix A0 A) := by
  refine ⟨fun pins s σ H Q I h => ?_⟩
  refine PySem.W.methodCall_KW (pl := pl) (thn (h0.run pins s σ H (fun v H1 => ∃ a dx fs, v = .ref a ∧ H1 a = some (.ins C dx fs) ∧ fs.lookup mn = none ∧
    RdA X.K X.mg F W p A σ H1 fun vs H2 => spF X.K X.mg ps.length m (ro ix (.ref a :: vs)) H2 Q (WE W σ)) I ?_) fun u s1 ⟨v, H1, I1, rv, a, dx, fs, ev, ea, l, q⟩ => ?_) ht
  · obtain ⟨R, S, a, q⟩ := h
    refine ⟨R, S, a, ?_⟩
    unfold xMeth at q
    cases e : A0 S with
    | no => simp only [e, Rs.bind_no] at q
    | ex c fl S' => simp only [e, Rs.bind_ex] at q; exact q
    | ok x S0 =>
      simp only [e, Rs.bind_ok] at q
      intro v H1 s1 a1
      cases x with
      | obj n =>
        simp only at q
        cases en : nodeAt S0 n with
        | none => simp only [en] at q
        | some nd =>
          cases nd with
          | ins c' fl =>
            simp only [en] at q
            by_cases hcc : c' = c ∧ (fl.lookup mn).isNone = true
            · rw [if_pos hcc] at q
              obtain ⟨rfl, hl⟩ := hcc
              obtain ⟨Z, η, Cl', a2⟩ := a1
              obtain ⟨rv, a3⟩ := a2.takeD
              cases rv with
              | @obj _ a hη =>
                obtain ⟨a', rest, C1, C2, hη', rn, _, pc, _⟩ := a2.node en
                rw [hη] at hη'; cases hη'
                cases rn with
                | @ins _ _ fs _ dx Ca C3 hmg rf =>
                  rw [hc] at hmg; cases hmg
                  have hH := (a2.cw _ (pc.mem_iff.mpr (List.mem_append_left _ List.mem_cons_self))).1
                  refine ⟨a, dx, fs, rfl, hH, rf.look (by simpa using hl), (.d (.obj n), .ref a) :: R, S0, ⟨Z, η, _, a2⟩, ?_⟩
                  have q2 := rd_call_at (X := X) (F := F) (W := W) (p := p) (m := m) (ix := ix) (A := xFst (.obj n) A) (σ := σ) (H := H) (Q := Q) (R := R) (S := S0) ps.length har.len q
                  unfold xFst at q2
                  cases eA : A S0 with
                  | no => simp only [eA, Rs.bind_no] at q2
                  | ex c fl S' => simp only [eA, Rs.bind_ex] at q2; exact q2
                  | ok xs S1 =>
                    simp only [eA, Rs.bind_ok] at q2
                    intro vs H2 _ l2 a4
                    refine q2 (.ref a :: vs) H2 (by simp [l2]) (a4.tperm ?_)
                    show (tz (xs.map .d) vs ++ (OD.d (.obj n), V.ref a) :: R).Perm ((OD.d (.obj n), V.ref a) :: (tz (xs.map .d) vs ++ R))
                    exact List.perm_middle
            · rw [if_neg hcc] at q; exact q.elim
          | _ => simp only [en] at q
      | _ => exact q.elim
  · subst ev
    obtain rfl : u = Value.ref a := rv
    refine getmeth_ok I1 ea hcl hme l ?_
    refine cw a pins s1 σ H1 _ _ I1 q fun us ws vs s2 H2 I2 r z1 z2 q2 => ?_
    have r' : Vals (.ref a :: vs) ((Value.ref a :: us) ++ ws) := .cons rfl r
    show wpAny _ _ (call (.ref f) (Value.ref a :: us) (ks.zip ws)) _ _ _
    by_cases hks : ks = []
    · obtain ⟨rfl, e2⟩ := hix hks
      obtain rfl := z1 hks
      have lv : (V.ref a :: vs).length = ps.length := by
        obtain ⟨_, _, _, _, ds, l1, l2, _⟩ := q2
        exact l2.trans l1
      refine run_fo (np := es.length + 1) Fk hr hb tk I2 r' ?_ (by rw [hks]; rfl) q2
      have := r'.length
      rw [List.append_nil] at this
      omega
    · obtain ⟨l1, l2⟩ := z2 hks
      exact run_fo (np := es.length + 1) Fk hr hb tk I2 r' (by simp [l1]) l2 q2
end

/-! ### new objects -/
section
variable {K : PySem.W.Frag} {mg : Str → Option Value} {F : Frm} {R : Roots} {S : AS} {σ : L2.St} {H Z : Hp} {η : List Addr} {C : Cl}
theorem AsnC.newObj {a dx Ca : Addr} {c : Str} {μ : List OD} (h : AsnC K mg F R S σ H Z η C) (hμ : S.μ = some μ) (ha : H a = none) (hd : H dx = none) (ne : dx ≠ a) (hc : mg c = some (.ref Ca)) :
    AsnC K mg F ((.d (.obj μ.length), .ref a) :: R) ⟨S.v, some (μ ++ [.ins c []])⟩ σ (upd (upd H dx (.own a)) a (.ins Ca dx [])) Z (η ++ [a]) (C ++ [(a, .ins Ca dx []), (dx, .own a)]) := by
  have ml : μ.length = η.length := by have := h.ml; rw [hμ] at this; exact this
  have s1 : Same H (upd H dx (.own a)) := same_upd hd
  have ha1 : (upd H dx (.own a)) a = none := by rw [upd_ne (Ne.symm ne)]; exact ha
  have s2 : Same H (upd (upd H dx (.own a)) a (.ins Ca dx [])) := s1.trans (same_upd ha1)
  have nz : ∀ {b}, H b = none → Z b = none := fun e => Same.free h.zh e
  have nw : ∀ {b}, H b = none → F.W b ∨ F.H0 b = none := fun {b} e => by
    by_cases w : F.W b
    · exact .inl w
    · refine .inr ?_
      cases q : F.H0 b with
      | none => rfl
      | some u' => rw [h.fr b u' q w] at e; cases e
  have hη : (η ++ [a])[μ.length]? = some a := by rw [ml, List.getElem?_append_right (Nat.le_refl _), Nat.sub_self]; rfl
  refine ⟨h.z0, h.e0.trans (List.prefix_append _ _), h.zh.trans s2, fun b u e w => s2 _ _ (h.fr b u e w), h.zn, fun q hq => ?_, ?_, h.sl, ?_, ?_⟩
  · rcases List.mem_append.mp hq with hq | hq
    · obtain ⟨b1, b2, b3⟩ := h.cw q hq
      exact ⟨s2 _ _ b1, b2, b3⟩
    · rcases List.mem_cons.mp hq with e | hq
      · subst e; exact ⟨upd_same, nz ha, nw ha⟩
      · rcases List.mem_cons.mp hq with e | hq
        · subst e; exact ⟨by show upd _ a _ dx = _; rw [upd_ne ne, upd_same], nz hd, nw hd⟩
        · cases hq
  · rw [List.map_append]
    refine List.nodup_append.mpr ⟨h.nd, by simp [Ne.symm ne], fun b hb c' hc' e => ?_⟩
    obtain ⟨q, hq, e1⟩ := List.mem_map.mp hb
    obtain ⟨b1, _, _⟩ := h.cw q hq
    subst e; subst e1
    simp only [List.map_cons, List.map_nil, List.mem_cons, List.not_mem_nil, or_false] at hc'
    rcases hc' with e | e
    · rw [e, ha] at b1; cases b1
    · rw [e, hd] at b1; cases b1
  · show (μ ++ [OD.ins c []]).length = (η ++ [a]).length
    simp [ml]
  · have r0 := h.rep.mono (Same.refl _) (List.prefix_append η [a])
    rw [hμ] at r0
    have r1 : RepR K mg Z (η ++ [a]) [(OD.ins c [], V.ref a)] [(a, .ins Ca dx []), (dx, .own a)] := by
      exact RepR.cons (K := K) (mg := mg) (Z := Z) (η := η ++ [a]) (R := []) (C := []) (C1 := [(a, .ins Ca dx []), (dx, .own a)]) (RepO.ins hc RepOf.nil) .nil
    have r2 := RepR.cons (x := .d (.obj μ.length)) (v := .ref a) (C1 := []) (.d (.obj hη)) (r0.app r1)
    have e : mroots (some (μ ++ [OD.ins c []])) (η ++ [a]) = mroots (some μ) η ++ [(OD.ins c [], V.ref a)] := by
      show (μ ++ [OD.ins c []]).zip ((η ++ [a]).map V.ref) = μ.zip (η.map V.ref) ++ _
      rw [List.map_append, List.zip_append (by simp [ml])]
      rfl
    rw [e]
    have e2 : (((.d (.obj μ.length), .ref a) :: R : Roots) ++ (sroots S.v σ ++ (mroots (some μ) η ++ [(OD.ins c [], V.ref a)]))) = (.d (.obj μ.length), .ref a) :: (R ++ (sroots S.v σ ++ mroots (some μ) η) ++ [(OD.ins c [], V.ref a)]) := by simp
    rw [e2]
    exact r2
end
def xMake (c : Str) (m : Mf) (ix : Option (List Nat)) (A : XA) : XO := fun S => (A S).bind fun xs S1 => match S1.μ with
  | none => .no
  | some μ => match m (ro ix (.obj μ.length :: xs)) (some (μ ++ [.ins c []])) with
    | .ok (.d .non) (some μ') => .ok (.d (.obj μ.length)) ⟨S1.v, some μ'⟩
    | .ex c fl (some μ') => .ex c fl ⟨S1.v, some μ'⟩
    | _ => .no
section
variable {X : Cx} {F : Frm} {W : WX} {p p0 : Bool} {k np : Nat} {f C : Addr} {fd : FuncData} {ps ks : List Str} {m : Mf} {ix : Option (List Nat)} {es : List Expr} {kws : List Keyword} {pos apos npos : Pos} {A : XA} {A0 : XD} {x : Str}
theorem run_mk {pins : List (Addr × Obj)} {σ : L2.St} {H : Hp} {s : Shared} {Q : VK} {us ws : List Value} {vs : List V} (M : Mk X.K C f) (Fk : FO X k f fd ps m) (hr : Room (k + 1) X.A) (hb : Bn fd ps (np + 1) ks ix) (tk : Takes X W) (I : Inv X pins σ H s) (r : Vals vs (us ++ ws))
    (lu : us.length = np) (lw : ws.length = ks.length)
    (h : ∀ a dx, H a = none → H dx = none → dx ≠ a → spF X.K X.mg ps.length m (ro ix (.ref a :: vs)) (upd (upd H dx (.own a)) a (.ins C dx [])) (fun v H2 => v = .non ∧ Q (.ref a) H2) (WE W σ)) :
    wpAny (model X.prog X.w) X.A (call (.ref C) us (ks.zip ws)) (EP X pins σ Q) X.xe s := by
  have hq := h (s.heap.objs.size + 1) s.heap.objs.size (I.hok.fresh (Nat.le_succ _)) (I.hok.fresh (Nat.le_refl _)) (Nat.ne_of_lt (Nat.lt_succ_self _))
  have I2 := Inv.made (C := C) I
  have r1 : Vals (V.ref (s.heap.objs.size + 1) :: vs) ((Value.ref (s.heap.objs.size + 1) :: us) ++ ws) := .cons rfl r
  refine wpAny_call (make_map (f := f) I.kIn M.makes M.init (beq_iff_eq.mp M.fn) (codeAny_mono (Fk.run _ X.stack _ _ ⟨Value.ref (s.heap.objs.size + 1) :: us, ks.zip ws⟩ (ro ix ((Value.ref (s.heap.objs.size + 1) :: us) ++ ws)) _ _ (WE W σ) (hr.make C us (ks.zip ws))
    (I2.env0.make C us (ks.zip ws)) (.of_eq (hb (Value.ref (s.heap.objs.size + 1) :: us) ws (by simp [lu]) lw)) (ro_vals r1) hq) fun r s' hq' => ?_))
  cases r with
  | error e => exact passAt tk σ pins _ _ e s' I2 hq'
  | ok fl =>
    cases fl with
    | ret u =>
      obtain ⟨v, H', I3, rv, ev, q3⟩ := I2.after hq'
      subst ev
      exact ⟨rv, ⟨V.ref (s.heap.objs.size + 1), H', I3, rfl, q3⟩⟩
    | next => exact False.elim hq'
    | brk => exact False.elim hq'
    | cont => exact False.elim hq'
theorem eo_make (M : Mk X.K C f) (Fk : FO X k f fd ps m) (har : Ar m ps.length) (hr : Room (k + 1) X.A) (hm : X.mg x = some (.ref C)) (hb : Bn fd ps (es.length + 1) ks ix) (tk : Takes X W) (cw : CWA X F W (.ref C) [] es kws pos ks p A)
    (hix : ks = [] → ix = none ∧ es.length + 1 = ps.length := by first | exact fun _ => ⟨rfl, rfl⟩ | exact fun z => nomatch z)
    (hg : Gl X x := by rfl) (hdb : (x == ("__debug__" : Str)) = false := by decide) : EO_ X F W (.Call (.Name x npos) es kws pos) false (xMake x m ix A) := by
  refine ⟨fun pins s σ H Q I h => ?_⟩
  refine wpAny_Call_Name_kw (ld_glob I hg hm ?_ hdb)
  refine cw pins s σ H _ (fun vs H1 => (∀ a dx, H1 a = none → H1 dx = none → dx ≠ a → spF X.K X.mg ps.length m (ro ix (.ref a :: vs)) (upd (upd H1 dx (.own a)) a (.ins C dx [])) (fun v H2 => v = .non ∧ Q (.ref a) H2) (WE W σ)) ∧ (ks = [] → vs.length = es.length)) I ?_ fun us ws vs s2 H2 I2 r z1 z2 q => ?_
  · obtain ⟨R, S, a, q⟩ := h
    refine ⟨R, S, a, ?_⟩
    unfold xMake at q
    cases e : A S with
    | no => simp only [e, Rs.bind_no] at q
    | ex c fl S' => simp only [e, Rs.bind_ex] at q; exact q
    | ok xs S1 =>
      simp only [e, Rs.bind_ok] at q
      intro vs H1 s1 l1 a1
      cases hμ : S1.μ with
      | none => simp only [hμ] at q
      | some μ =>
        simp only [hμ] at q
        have hl : (ro ix (.obj μ.length :: xs)).length = ps.length := by
          refine har.len _ ⟨some (μ ++ [.ins x []]), fun z => ?_⟩
          simp only [z] at q
        refine ⟨fun a dx ha hd ne => ?_, fun hks => ?_⟩
        · obtain ⟨Z, η, C0, a2⟩ := a1
          have a3 := a2.newObj hμ ha hd ne hm
          have a4 : AsnC X.K X.mg F (tz ((D.obj μ.length :: xs).map .d) (.ref a :: vs) ++ R) ⟨S1.v, some (μ ++ [.ins x []])⟩ σ _ Z (η ++ [a]) _ := a3
          have l1' : (V.ref a :: vs).length = (D.obj μ.length :: xs).length := by simp [l1]
          obtain ⟨r1, a5⟩ := a4.takeDs l1'
          have robj : Rep X.K X.mg Z (η ++ [a]) (.obj μ.length) (.ref a) := by cases r1 with | cons r _ => exact r
          have r2 := ro_reps (ix := ix) r1
          have l2 : (ro ix (V.ref a :: vs)).length = (ro ix (D.obj μ.length :: xs)).length := r2.length.symm
          have a6 := (a5.addD robj).addDs r2
          obtain ⟨W', Cm, Co, g, hW, ro', pc⟩ := a6.callee l2
          refine ⟨Z, η ++ [a], W', some (μ ++ [.ins x []]), _, hl, l2, ⟨Z, _, Cm, g⟩, ?_⟩
          cases em : m (ro ix (.obj μ.length :: xs)) (some (μ ++ [.ins x []])) with
          | no => simp only [em] at q
          | ok y μ' =>
            cases μ' with
            | none => cases y with
              | d y => cases y <;> simp only [em] at q
              | _ => simp only [em] at q
            | some μ' =>
              cases y with
              | d y =>
                cases y with
                | non =>
                  simp only [em] at q
                  intro v H' g2
                  obtain ⟨Z', η', C', g2⟩ := g2
                  obtain ⟨C2, b⟩ := a6.back hW ro' pc g2 rfl
                  have b' : AsnC X.K X.mg F ((.d .non, v) :: (.d (.obj μ.length), .ref a) :: R) ⟨S1.v, some μ'⟩ σ H' Z' η' C2 := b
                  obtain ⟨rn, b2⟩ := b'.takeD
                  cases rn
                  exact ⟨rfl, q _ H' (fun z => nomatch z) ⟨Z', η', C2, b2⟩⟩
                | _ => simp only [em] at q
              | _ => simp only [em] at q
          | ex c fl μ' =>
            cases μ' with
            | none => simp only [em] at q
            | some μ' =>
              simp only [em] at q
              intro H' cls d g2
              obtain ⟨Z', η', C', g3, hc, hd⟩ := g2
              obtain ⟨C2, b⟩ := a6.back hW ro' pc g3 rfl
              have b2 : AsnC X.K X.mg F ([] ++ (.d (.obj μ.length), .ref a) :: R) ⟨S1.v, some μ'⟩ σ H' Z' η' C2 := b
              obtain ⟨C3, b3⟩ := b2.perm (S' := ⟨S1.v, some μ'⟩) (σ' := σ) (R' := []) (E := (.d (.obj μ.length), .ref a) :: R) b2.sl b2.ml (by simp)
              exact q H' cls d ⟨Z', η', C3, b3, hc, hd⟩
        · obtain ⟨rfl, e2⟩ := hix hks
          have : (D.obj μ.length :: xs).length = ps.length := hl
          simp only [List.length_cons] at this
          omega
  · obtain ⟨q, ql⟩ := q
    by_cases hks : ks = []
    · obtain rfl := z1 hks
      refine run_mk (np := es.length) M Fk hr hb tk I2 r ?_ (by rw [hks]; rfl) q
      have := r.length
      rw [List.append_nil] at this
      have := ql hks
      rw [List.nil_append]
      omega
    · obtain ⟨l1, l2⟩ := z2 hks
      exact run_mk (np := es.length) M Fk hr hb tk I2 r l1 l2 q
end
end Mi
end
section
set_option Elab.async false
set_option linter.all false
set_option maxRecDepth 100000
set_option maxHeartbeats 2000000
/-! Mi14: own exception classes over Exception with `__init__(self, f): self.f = f`; raise; a def from its body. -/
namespace PySem
namespace MiX
open Builtin Builtin.ObjectAttr PySem.HandSPX
abbrev exTl : List Value := [.type "Exception", .type "BaseException", .type "object"]
def refsE : List Value → Bool
  | .ref _ :: r => refsE r
  | l => l == exTl
theorem refsE_cases : ∀ l : List Value, refsE l = true → (∃ c r, l = .ref c :: r ∧ refsE r = true) ∨ l = exTl
  | [], e => .inr (beq_iff_eq.mp e)
  | .ref c :: r, e => .inl ⟨c, r, rfl, e⟩
  | .none :: _, e => .inr (beq_iff_eq.mp e)
  | .ellipsis :: _, e => .inr (beq_iff_eq.mp e)
  | .notImplemented :: _, e => .inr (beq_iff_eq.mp e)
  | .bool _ :: _, e => .inr (beq_iff_eq.mp e)
  | .int _ _ :: _, e => .inr (beq_iff_eq.mp e)
  | .float _ _ :: _, e => .inr (beq_iff_eq.mp e)
  | .str _ _ :: _, e => .inr (beq_iff_eq.mp e)
  | .bytes _ _ :: _, e => .inr (beq_iff_eq.mp e)
  | .type _ :: _, e => .inr (beq_iff_eq.mp e)
  | .builtin _ :: _, e => .inr (beq_iff_eq.mp e)
theorem refsE_pass (self : Value) : ∀ l : List Value, refsE l = true → refuseLoop self "__setattr__" l = pure () := by
  intro l
  induction l with
  | nil => intro e; exact absurd e (by decide)
  | cons a r ih =>
    intro e
    rcases refsE_cases (a :: r) e with ⟨c, r', q, h⟩ | q
    · obtain ⟨rfl, rfl⟩ := List.cons.inj q
      rw [refuseLoop_ref]; exact ih h
    · rw [q]; exact F.store_Exception.passes self
theorem refsE_contains (X : String) : ∀ l : List Value, refsE l = true → l.contains (.type X) = exTl.contains (.type X) := by
  intro l
  induction l with
  | nil => intro e; exact absurd e (by decide)
  | cons a r ih =>
    intro e
    rcases refsE_cases (a :: r) e with ⟨c, r', q, h⟩ | q
    · obtain ⟨rfl, rfl⟩ := List.cons.inj q
      rw [List.contains_cons, ih h]; rfl
    · rw [q]
theorem refsE_ne {l : List Value} (e : refsE l = true) : l.isEmpty = false := by
  cases l with
  | nil => exact absurd e (by decide)
  | cons _ _ => rfl
section
variable {prog : Program} {w : World} {A : Around} {E : Value → Shared → Prop} {R : Result → Shared → Prop} {hp : Heap} {g : Array GenState} {d : Drawn} {t : Nat} {os : OsState}
theorem exc_osaE {K : W.Frag} {name : Str} {tk : Tok} {v : Value} {x C : Addr} {fv : Array Value} {cd : ClassData}
    (X : K.In hp) (hx : hp.get? x = some { cls := .ref C, data := .fields fv }) (hcd : W.clsIn K C = some cd) (hm : refsE cd.mro = true) (hh : cd.hasDict = true) (ha : W.findIn K (.ref C) name = some none)
    (hq : ∀ h' tk' dx, (∀ b o, b ≠ x → hp.get? b = some o → h'.get? b = some o) → hp.objs.size ≤ dx → dx ≠ x → h'.get? x = some { cls := .ref C, dict := some dx, data := .fields fv } →
      h'.Ns1 dx (fun y => if y = name then some v else none) → R (.ok (.ret .none)) ⟨h', g, d, tk', os⟩) :
    codeAny (model prog w) A (.call (.builtin "object.__setattr__") ⟨[.ref x, .str name tk, v], []⟩) R ⟨hp, g, d, t, os⟩ := by
  have I : W.InstAt hp x { cls := .ref C, data := .fields fv } C none := ⟨hx, rfl, rfl, trivial⟩
  have SF := F.store_object
  have ne := refsE_ne hm
  have hob : cd.mro.contains (.type "object") = true := (refsE_contains "object" _ hm).trans (by decide +kernel)
  have hxs : x ≠ hp.objs.size := Nat.ne_of_lt (Heap.lt_size hx)
  have sub : W.Looks (model prog w) hp (isInstance (.ref x) (.type "object")) true := I.type.andThen (W.looks_mroIn X (by unfold W.mroIn; rw [hcd, Option.bind_some, if_neg (by rw [ne]; decide), hob]))
  refine codeAny_call_builtin SF.slot.plain SF.entry (@W.check_slot (model prog w) _ _ ⟨hp, g, d, t, os⟩ "object.__setattr__" "object" "__setattr__" (.ref x) [.str name tk, v] [] _ SF.kind SF.split sub (SF.args (.ref x) (.str name tk) v) ?_)
  have hmr : W.Looks (model prog w) hp (mroOf (.ref C)) cd.mro := (W.looks_clsIn X hcd).andThen .now
  have L3 : W.Looks (model prog w) hp (storeTaker? none) none := .now
  have hcls : W.Looks (model prog w) hp (classData C) cd := W.looks_clsIn X hcd
  rw [W.osa_eq, refuse_eq]
  refine wpAny_bind (wpAny_bind (I.type.at (wpAny_bind (hmr.at ?_))))
  rw [refsE_pass _ _ hm]
  refine wpAny_pure (wpAny_bind (I.type.at (wpAny_bind ((W.looks_findIn X ha).at (wpAny_bind (L3.at ?_))))))
  show wpAny _ _ (storeInOwnDict (.ref x) (.ref C) (.str name tk) name v false) _ _ _
  obtain ⟨nm, bs, mro, ns, qn, hd, sn, sb, ab, col, del⟩ := cd
  dsimp only at hh
  subst hh
  unfold storeInOwnDict ownDictForStores
  repeat (first | with_reducible refine HandSPX.store_in_new ?_ ?_ | with_reducible refine wpAny_loadPart_at hx ?_ | with_reducible refine hcls.at ?_ | wp_step)
  · exact ⟨_, #[], _, (Heap.get?_update_ne _ _ _ _ hxs.symm).trans (Heap.get?_push_at rfl rfl), rfl, fun e he => absurd he (by simp), fun _ => rfl⟩
  · intro h' tk' hn' hs
    have hx₁ : (hp.push { cls := .type "dict", data := .dict #[] }).get? x = some { cls := .ref C, data := .fields fv } := Heap.get?_push_of_some _ hx
    refine hq h' tk' hp.objs.size (fun b o hb ho => ?_) (Nat.le_refl _) hxs.symm ?_ hn'
    · exact (hs.2 b (Nat.ne_of_lt (Heap.lt_size ho))).trans ((Heap.get?_update_ne _ _ _ _ hb).trans (Heap.get?_push_of_some _ ho))
    · exact (hs.2 x hxs).trans (Heap.get?_update_self _ hx₁ rfl)
end
end MiX
end PySem
namespace Mi
open PySem PySem.Spec PyProof.Rows L2

/-- an own class over Exception -/
structure OexE (K : PySem.W.Frag) (C : Addr) : Prop where
  cls : ∃ nm q N bs bm sn sub ab col dd k0 k1 k2 k3 k5, K.lookup C = some (excClassObj nm q C N bs bm true sn sub ab col dd k0 k1 k2 k3 k5 "Exception.__new__") ∧ PySem.MiX.refsE bm = true
  sa : PySem.W.findIn K (.ref C) "__setattr__" = some (some (.builtin "object.__setattr__"))
  exC : PySem.W.subIn K (.ref C) (.type "BaseException") = some true
  tyC : PySem.W.typeIn K (.ref C) = some (.type "type")
  kC : PySem.W.keepIn K (.ref C) = true
section
variable {X : Cx} {pins : List (Addr × Obj)} {σ : L2.St} {H : Hp} {s : Shared} {a C dx : Addr} {f : Str} {y : V} {u : Value} {fs : List (Str × V)} {Q : Unit → Shared → Prop} {E : Value → Shared → Prop} {A : Around}
theorem ost_newE (T : OexE X.K C) (I : Inv X pins σ H s) (e : H a = some (exo a C none)) (hno : PySem.W.findIn X.K (.ref C) f = some none) (ry : RelV y u)
    (h : ∀ dx s', H dx = none → dx ≠ a → Inv X pins σ (upd (upd H dx (exd dx [(f, y)])) a (exo a C (some dx))) s' → Q () s') : wpAny (model X.prog X.w) A (setAttr (.ref a) f u) Q E s := by
  obtain ⟨nm, q, N, bs, bm, sn, sub, ab, col, dd, k0, k1, k2, k3, k5, hC, hbm⟩ := T.cls
  have hcl : PySem.W.clsIn X.K C = some { name := nm, bases := bs, mro := .ref C :: bm, ns := N, qualname := q, hasDict := true, slotNames := sn, subclasses := sub, abstract := ab, collection := col, hasDel := false } := by unfold PySem.W.clsIn; rw [hC] <;> rfl
  obtain ⟨t1, ho⟩ := exo_at I.hok e
  obtain ⟨hp, g, d, t, os⟩ := s
  refine PySem.W.set_plain I.kIn (ox := { cls := .ref C, dict := none, data := .fields #[.ref t1, .none, .none, .none, .bool false, .none] }) (od := none) ⟨ho, rfl, rfl, trivial⟩ T.sa ?_
  refine PySem.MiX.exc_osaE I.kIn ho hcl (show PySem.MiX.refsE (.ref C :: bm) = true from hbm) rfl hno (fun h' tk' dx k dn dne hx hn => ?_)
  have hnd : H dx = none := I.hok.fresh dn
  have nd : ∀ {b : Addr} {o : Obj}, hp.get? b = some o → b ≠ dx := fun {b o} q => Nat.ne_of_lt (Nat.lt_of_lt_of_le (Heap.lt_size q) dn)
  have na : ∀ {b : Addr}, H b = none → b ≠ a := fun {b} n z => by
    rw [z, e] at n
    cases n
  have Un1 : Un X.fs [] H (upd (upd H dx (exd dx [(f, y)])) a (exo a C (some dx))) hp h' := {
    keep := fun b o q n _ _ => k b o (na n) q
    slot := fun b o q n _ _ => ⟨o.slots, k b o (na n) q⟩
    free := fun b o q n _ => by rw [upd_ne (na n), upd_ne (nd q)]; exact n
    there := fun b o q _ => by
      by_cases hb : b = a
      · exact ⟨_, by rw [hb]; exact hx⟩
      · exact ⟨o, k b o hb q⟩
    tups := fun b xs q => by rw [upd_ne (at_ne e q exo_tup), upd_ne (ne_of_none q hnd)]; exact q
    frzs := fun b o v q => by rw [upd_ne (at_ne e q exo_frz), upd_ne (ne_of_none q hnd)]; exact q
    tbls := fun b ps q => ⟨#[], by rw [upd_ne (at_ne e q exo_tbl), upd_ne (ne_of_none q hnd), q]; simp⟩ }
  refine h dx _ hnd dne (I.un (t' := tk') Un1 fun b o q => ?_)
  by_cases hb : b = a
  · subst hb
    rw [upd_same] at q
    cases q
    exact exo_ok hx
  · rw [upd_ne hb] at q
    by_cases hd : b = dx
    · subst hd
      rw [upd_same] at q
      cases q
      exact exd_ok hn (relO_put (fs := []) ry fun g => True.intro)
    · rw [upd_ne hd] at q
      exact (I.hok b o q).stay (fun c v hc z => k c v (by
          rcases hc with hc | hc
          · rw [hc]
            exact hb
          · exact at_ne e hc exo_own) z)
        (fun c hc => by rw [upd_ne (at_ne e hc exo_own), upd_ne (ne_of_none hc hnd)]; exact hc) (fun c xs hc => by rw [upd_ne (at_ne e hc exo_tup), upd_ne (ne_of_none hc hnd)]; exact hc)
end
/-- self.f = e of an exception that is being made -/
def tOstE (K : PySem.W.Frag) (f : Str) (to te : TE) : TS := fun D σ H => te σ H fun y H1 => to σ H1 fun x H2 => ∃ a C : Addr, x = .ref a ∧ OexE K C ∧ PySem.W.findIn K (.ref C) f = some none ∧
  H2 a = some (exo a C none) ∧ ∀ dx, H2 dx = none → dx ≠ a → D.nx σ (upd (upd H2 dx (exd dx [(f, y)])) a (exo a C (some dx)))
theorem ps_ostE {X : Cx} {o e : Expr} {to te : TE} {f : Str} {p' pos : Pos} (ho : PE X o to) (he : PE X e te) (hs : swapsWith e (some (.Attribute o f p')) pos.line X.env = pure false := by rfl) : PS X (.Assign [.Attribute o f p'] e pos) (tOstE X.K f to te) := by
  refine ⟨fun pins s σ H D I h => ?_⟩
  refine plainObj_wpAny_Assign_Attribute (thn (he.run pins s σ H _ I h) fun v s1 ⟨y, H1, I1, r1, q1⟩ => thn (ho.run pins s1 σ H1 _ I1 q1) fun u s2 ⟨x, H2, I2, r2, a, C, ex, T, hno, ea, q⟩ => ?_) hs
  subst ex
  obtain rfl : u = Value.ref a := r2
  exact ost_newE T I2 ea hno r1 fun dx s' n ne J => ⟨σ, _, J, q dx n ne⟩
/-- what such an __init__ does -/
def spIni (K : PySem.W.Frag) (f : Str) : Sp := fun vs H Q _ => ∃ a y C, vs = [.ref a, y] ∧ OexE K C ∧ PySem.W.findIn K (.ref C) f = some none ∧ H a = some (exo a C none) ∧
  ∀ dx, H dx = none → dx ≠ a → Q .non (upd (upd H dx (exd dx [(f, y)])) a (exo a C (some dx)))
theorem ini_ok {P : Program} {w : World} {K : PySem.W.Frag} {mg : Str → Option Value} {base : Heap} {x qual f fp : Str} {params : Arguments} {scope : Scope} {g : Addr} {fd : FuncData} {p1 p2 p3 p4 : Pos} (F : FunD K x qual params [.Assign [.Attribute (.Name "self" p1) f p2] (.Name fp p3) p4] scope [] [] g fd)
    (S : FnScope ["self", fp] ["self", fp] scope) (h1 : scope.names.lookup ("self" : Str) = some .local := by rfl) (h2 : scope.names.lookup fp = some .local := by rfl) (d1 : (fp == ("__debug__" : Str)) = false := by decide) (d2 : (fp == ("__classdict__" : Str)) = false := by decide)
    (hs : ∀ env : Env, swapsWith (.Name fp p3) (some (.Attribute (.Name "self" p1) f p2)) p4.line env = pure false := by intro _; rfl) (hb : ∀ env : Env, attributeBase (.Name "self" p1) f env (eval (.Name "self" p1) env) = eval (.Name "self" p1) env := by intro _; rfl) :
    FnOk P w K mg base (L2.CX P w) 1 g fd ["self", fp] (spIni K f) := by
  refine F.ok S (fun vs H Q E h => ?_) fun cdv A outer s H vs Q E hr h => ⟨tOstE K f (tVar 0) (tVar 1), pss_one (ps_ostE (pe_var (i := 0) rfl (.inl h1) (by decide) (by decide)) (pe_var (i := 1) rfl (.inl h2) d1 d2) (hs _)), ?_⟩
  · obtain ⟨a, y, C, rfl, _⟩ := h
    rfl
  · obtain ⟨a, y, C, rfl, T, hno, ea, q⟩ := h
    exact ⟨y, rfl, .ref a, rfl, a, C, rfl, T, hno, ea, q⟩
section
variable {X : Cx} {o e : Expr} {es : List Expr} {to te : TE} {ta : TA} {f : Str} {p p' p1 p2 pos : Pos}
/-- C(e) of such a class -/
theorem pmk_oexE {x : Str} {C fI : Addr} {k : Nat} {fd : FuncData} {ps : List Str} {sp : Sp} (T : OexE X.K C) (iC : PySem.W.findIn X.K (.ref C) "__init__" = some (some (.ref fI))) (tI : PySem.W.typeIn X.K (.ref fI) = some (.type "function"))
    (F1 : FnOk X.prog X.w X.K X.mg X.base (L2.CX X.prog X.w) k fI fd ps sp) (hr : Room (k + 1) X.A) (hb : Binds X.K fd ps []) (hg : Gl X x) (hm : X.mg x = some (.ref C)) (ha : PA X (e :: es) ta)
    (hdb : (x == ("__debug__" : Str)) = false := by decide) (he : starEach (e :: es) X.env = (false, eval e X.env) :: starEach es X.env := by rfl) (hpl : (backTo pos (starEach es X.env)).any (·.1) = false := by rfl) :
    PMk X (.Call (.Name x p) (e :: es) [] pos) (tMkO C sp [] ta) := by
  have hx : Passes (L2.CX X.prog X.w) X (fun _ _ _ => False) := passL
  intro pins s σ H Q I h
  obtain ⟨nm, q, N, bs, bm, sn, sub, ab, col, dd, k0, k1, k2, k3, k5, hC, hbm⟩ := T.cls
  refine wpAny_Call_Name_kw (ld_glob I hg hm ?_ hdb)
  refine PySem.W.callWith_K (h₀ := X.base) I.ok.mod.kin T.kC (thn (ha.run pos pins s σ H _ I h) fun us s1 ⟨vs, H1, I1, r1, hz, q1⟩ => ⟨I1.kIn, ?_⟩) he hpl
  show wpAny _ _ (call (.ref C) us) _ _ _
  obtain ⟨hp, g, dr, tk, os⟩ := s1
  have hsz : hp.objs.size ≤ hp.objs.size + 1 := Nat.le_succ _
  have hn : H1 (hp.objs.size + 1) = none := I1.hok.fresh hsz
  have hq := q1 (hp.objs.size + 1) hn
  rw [List.append_nil] at hq
  have kk : ∀ b o, hp.get? b = some o → ((hp.push (PySem.W.kdv_tup us)).push (PySem.HandSPX.excO C hp.objs.size)).get? b = some o := fun b o e => Heap.get?_push_of_some _ (Heap.get?_push_of_some _ e)
  have hget : ((hp.push (PySem.W.kdv_tup us)).push (PySem.HandSPX.excO C hp.objs.size)).get? (hp.objs.size + 1) = some (PySem.HandSPX.excO C hp.objs.size) := by heap_get
  have I2 : Inv X pins σ (upd H1 (hp.objs.size + 1) (exo (hp.objs.size + 1) C none)) ⟨(hp.push (PySem.W.kdv_tup us)).push (PySem.HandSPX.excO C hp.objs.size), g, dr, tk, os⟩ :=
    I1.laid (t' := tk) (a := hp.objs.size + 1) (o := exo (hp.objs.size + 1) C none) (h' := (hp.push (PySem.W.kdv_tup us)).push (PySem.HandSPX.excO C hp.objs.size)) kk hsz (exo_ok hget)
  have r2 : Vals (V.ref (hp.objs.size + 1) :: vs) (Value.ref (hp.objs.size + 1) :: us) := .cons rfl r1
  have hl : (Value.ref (hp.objs.size + 1) :: us).length = ps.length := by
    have e := r2.length
    rw [F1.len _ _ _ _ hq] at e
    exact e.symm
  have hus : us.length ≤ sizeLine := by
    rw [← Paired.length r1, sizeLine_eq]
    omega
  have b := hb ⟨(hp.push (PySem.W.kdv_tup us)).push (PySem.HandSPX.excO C hp.objs.size), g, dr, tk, os⟩ (Value.ref (hp.objs.size + 1) :: us) I2.kIn (by rw [List.append_nil]; exact hl)
  rw [List.append_nil] at b
  refine wpAny_call (PySem.HandSPX.call_own F.excBase_Exception (fun Y => PySem.MiX.refsE_contains Y bm hbm) (I1.kIn _ _ hC) (PySem.W.looks_findIn I1.kIn iC) (fun self => PySem.W.bind_fn I1.kIn self tI) hus
    (codeAny_mono (F1.run _ X.stack _ _ ⟨Value.ref (hp.objs.size + 1) :: us, []⟩ (Value.ref (hp.objs.size + 1) :: us) _ _ (fun _ _ _ => False) (hr.make C us []) (I2.env0.make C us []) b r2 hq) fun r s' hq' => ?_))
  cases r with
  | error er => exact hx pins σ _ _ er s' I2 hq'
  | ok fl =>
    cases fl with
    | ret u =>
      obtain ⟨v, H2, os2, bare2, un2, hok2, rv, ev, d, fs, ea, ed, hd1, q2⟩ := hq'
      subst ev
      obtain ⟨h2, g2, d2, t2, os'⟩ := s'
      exact ⟨rv, mk_end (raises_own T.exC T.tyC) I1 hsz kk un2 hok2 os2 bare2 ea ed hd1 q2⟩
    | next => exact False.elim hq'
    | brk => exact False.elim hq'
    | cont => exact False.elim hq'
end

/-! ### raise -/
/-- what the class of an exception with one field must be -/
structure XCls (K : PySem.W.Frag) (mg : Str → Option Value) (c f : Str) : Prop where
  ex : ∃ C fI, mg c = some (.ref C) ∧ OexE K C ∧ PySem.W.findIn K (.ref C) "__init__" = some (some (.ref fI)) ∧ PySem.W.typeIn K (.ref fI) = some (.type "function") ∧ PySem.W.findIn K (.ref C) f = some none ∧
    ∀ (P : Program) (w : World) (base : Heap), ∃ fd ps, FnOk P w K mg base (L2.CX P w) 1 fI fd ps (spIni K f) ∧ Binds K fd ps []
def sRaise (c f : Str) (A : XD) : XS := fun S => (A S).out fun x S' => .ex c [(f, x)] S'
def sRaise0 (c : Str) : XS := fun S => .ex c [] S
section
variable {X : Cx} {F : Frm} {W : WX} {p : Bool} {e : Expr} {c f : Str} {A : XD} {pos pos2 p0 : Pos}
theorem s_raise (hc : X.calm = true) (tk : Takes X W) (hx : XCls X.K X.mg c f) (hr : Room 2 X.A) (h : E_ X F W e p A) (hg : Gl X c := by rfl) (hdb : (c == ("__debug__" : Str)) = false := by decide) (he : starEach [e] X.env = (false, eval e X.env) :: starEach [] X.env := by rfl) :
    S_ X F W (.Raise (some (.Call (.Name c p0) [e] [] pos)) none pos2) (sRaise c f A) := by
  obtain ⟨C, fI, hm, T, iC, tI, hno, hfn⟩ := hx.ex
  obtain ⟨fd, ps, Fk, hb⟩ := hfn X.prog X.w X.base
  refine PS.imp (ps_raise hc tk (pmk_oexE (p := p0) (pos := pos) T iC tI Fk hr hb hg hm (a_cons h a_nil he) hdb he)) fun D σ H q => ?_
  obtain ⟨R, S, a, q⟩ := q
  refine ⟨R, S, a, ?_⟩
  unfold sRaise at q
  show match xCons A xNil S with
  | .ok xs S' => _
  | .ex c fl S' => _
  | .no => False
  unfold xCons xNil
  cases e : A S with
  | no => simp only [e, Rs.out_no] at q; exact q.elim
  | ex c fl S' => simp only [e, Rs.out_ex] at q; exact fun H' cls d x => q σ H' cls d x
  | ok x S' =>
    simp only [e, Rs.out_ok] at q
    intro vs H1 _ l1 a1
    match vs, l1 with
    | [y], _ =>
      refine ⟨by show 1 ≤ 1000; decide, fun a0 ha0 => ⟨a0, y, C, rfl, T, hno, upd_same, fun dx hdx ne => ⟨rfl, dx, [(f, y)], upd_same, ?_, ?_, ?_⟩⟩⟩
      · rw [upd_ne ne, upd_same]
      · rwa [upd_ne ne] at hdx
      · have hd1 : H1 dx = none := by rwa [upd_ne ne] at hdx
        have eH : upd (del (upd (upd (upd H1 a0 (exo a0 C none)) dx (exd dx [(f, y)])) a0 (exo a0 C (some dx))) a0) dx (.xd [(f, y)]) = upd H1 dx (.xd [(f, y)]) := by
          funext b
          by_cases h1 : b = dx
          · subst h1; rw [upd_same, upd_same]
          · rw [upd_ne h1, upd_ne h1]
            by_cases h2 : b = a0
            · subst h2; rw [del_same, ha0]
            · rw [del_ne h2, upd_ne h2, upd_ne h1, upd_ne h2]
        rw [eH]
        obtain ⟨Z, η, C0, a2⟩ := a1
        obtain ⟨rs, a3⟩ := AsnC.takeDs (xs := [x]) rfl a2
        have a4 := a3.newZ (o := .xd [(f, y)]) hd1
        obtain ⟨C5, a5⟩ := a4.perm (S' := S') (σ' := σ) (R' := []) (E := R) a4.sl a4.ml (by simp)
        refine q σ _ _ _ ⟨_, _, C5, a5, ⟨C, hm, rfl⟩, [(f, y)], upd_same, ?_⟩
        have zd : Z dx = none := Same.free a3.zh hd1
        cases rs with
        | cons r _ => exact .cons (r.mono (same_upd zd) (List.prefix_refl _)) .nil
/-- raise C() of a class without own __init__ -/
structure XCls0 (K : PySem.W.Frag) (mg : Str → Option Value) (c : Str) : Prop where
  ex : ∃ C, mg c = some (.ref C) ∧ PySem.W.excIn K C [.type "Exception", .type "BaseException", .type "object"] "Exception.__new__" = true ∧ PySem.W.keepIn K (.ref C) = true ∧ PySem.W.subIn K (.ref C) (.type "BaseException") = some true ∧ PySem.W.typeIn K (.ref C) = some (.type "type")
theorem pmk_own0 {bmB : List Value} {B newId initId : String} {x : Str} {C : Addr} (Fb : ExcBaseFacts B newId initId bmB) (q : PySem.W.excIn X.K C bmB newId = true) (gC : X.mg x = some (.ref C)) (kC : PySem.W.keepIn X.K (.ref C) = true) (r : Raises X (.ref C)) (hg : Gl X x)
    (hdb : (x == ("__debug__" : Str)) = false := by decide) : PMk X (.Call (.Name x p0) [] [] pos) (fun _ H Q => Q (.ref C) none H) := by
  intro pins s σ H Q I h
  refine wpAny_Call_Name_kw (ld_glob I hg gC ?_ hdb)
  refine PySem.W.callWith_K0 I.kIn kC ?_
  obtain ⟨bm, N, nm, qn, bs, hdct, sn, sub, ab, col, dd, k0, k1, k2, k3, k5, mN, hC, hN, hni, T⟩ := exc_obj I.kIn q
  refine wpAny_call_exc_subT Fb T hC hN hni (fun h' e hm => ?_) (Nat.zero_le _)
  exact mk_of I hm r h (I.hok.gone hm.new)
theorem s_raise0 (hc : X.calm = true) (tk : Takes X W) (hx : XCls0 X.K X.mg c) (hg : Gl X c := by rfl) (hdb : (c == ("__debug__" : Str)) = false := by decide) :
    S_ X F W (.Raise (some (.Call (.Name c p0) [] [] pos)) none pos2) (sRaise0 c) := by
  obtain ⟨C, hm, q, kC, h1, h2⟩ := hx.ex
  refine PS.imp (ps_raise hc tk (pmk_own0 (p0 := p0) (pos := pos) PySem.F.excBase_Exception q hm kC (raises_own h1 h2) hg hdb)) fun D σ H q => ?_
  obtain ⟨R, S, ⟨Z, η, C0, a⟩, q⟩ := q
  obtain ⟨C5, a5⟩ := a.perm (S' := S) (σ' := σ) (R' := []) (E := R) a.sl a.ml (by simp)
  exact q σ H _ none ⟨_, _, C5, a5, ⟨C, hm, rfl⟩, rfl⟩
end

/-! ### a def from its body -/
def fnM (n N : Nat) (M : XS) : Mf := fun ds μ => if ds.length = n then match M ⟨ds.map (fun x => some (.d x)) ++ List.replicate (N - n) none, μ⟩ with
  | .nx S => .ok (.d .non) S.μ
  | .rt x S => .ok x S.μ
  | .ex c fl S => .ex c fl S.μ
  | _ => .no
  else .no
theorem fnM_ar {n N : Nat} {M : XS} : Ar (fnM n N M) n := fun xs u h => if_neg h
theorem zip_sroots : ∀ {ds : List D} {vs : List V} (k : Nat), vs.length = ds.length → sroots (ds.map (fun x => some (OD.d x)) ++ List.replicate k none) (vs.map some ++ List.replicate k none) = tz (ds.map .d) vs
  | [], [], k, _ => by
    show sroots (List.replicate k none) (List.replicate k none) = []
    induction k with
    | zero => rfl
    | succ k ih => exact ih
  | [], _ :: _, _, h => by simp at h
  | _ :: _, [], _, h => by simp at h
  | d :: ds, v :: vs, k, h => by
    have ih := zip_sroots (ds := ds) (vs := vs) k (by simpa using h)
    show (OD.d d, v) :: sroots (ds.map (fun x => some (OD.d x)) ++ List.replicate k none) (vs.map some ++ List.replicate k none) = (OD.d d, v) :: tz (ds.map .d) vs
    rw [ih]
theorem fo_of {P : Program} {w : World} {K : PySem.W.Frag} {mg : Str → Option Value} {base : Heap} {x qual : Str} {params : Arguments} {body : List Stmt} {scope : Scope} {f : Addr} {fd : FuncData} {N ps : List Str} {k : Nat} {M : XS}
    (Fd : FunD K x qual params body scope [] [] f fd) (Sc : FnScope N ps scope)
    (hb : ∀ (cdv : Value) (A : Around) (outer : List Env) (s : Shared) (H : Hp) (E : XK) (F : Frm), Room k (A.deeper (envOfC qual scope s.heap.objs.size f cdv)) → Takes (cxOf (L2.CX P w) P w K mg base N qual scope f cdv A outer s H E) (fun cls d _ H => E cls d H) →
      SS_ (cxOf (L2.CX P w) P w K mg base N qual scope f cdv A outer s H E) F (fun cls d _ H => E cls d H) body M) :
    FnOk P w K mg base (L2.CX P w) (k + 1) f fd ps (spF K mg ps.length (fnM ps.length N.length M)) := by
  have hpl : ps.length ≤ N.length := by have := congrArg List.length Sc.pre; rw [List.length_take] at this; omega
  refine Fd.ok Sc (fun vs H Q E h => ?_) fun cdv A outer s H vs Q E hr h => ?_
  · obtain ⟨_, _, _, _, ds, l1, l2, _⟩ := h
    exact l2.trans l1
  · obtain ⟨Z, η, W, μ, ds, l1, l2, ⟨Z1, η1, C, a⟩, q⟩ := h
    refine ⟨_, hb cdv A outer s H E ⟨H, Z, η, W⟩ hr (takes_of rfl rfl rfl rfl), [], ⟨ds.map (fun x => some (.d x)) ++ List.replicate (N.length - ps.length) none, μ⟩, ?_, ?_⟩
    · have est : L2.start N vs = vs.map some ++ List.replicate (N.length - ps.length) none := by unfold L2.start; rw [l2, l1]
      rw [est]
      refine ⟨Z1, η1, C, a.z0, a.e0, a.zh, a.fr, a.zn, a.cw, a.nd, ⟨by simp [l1, l2], fun i y e => ?_⟩, a.ml, ?_⟩
      · show ∃ v, (vs.map some ++ List.replicate (N.length - ps.length) none)[i]? = some (some v)
        have e' : (ds.map (fun x => some (OD.d x)) ++ List.replicate (N.length - ps.length) none)[i]? = some (some y) := e
        by_cases hi : i < ds.length
        · have hi2 : i < vs.length := by omega
          refine ⟨vs[i], ?_⟩
          rw [List.getElem?_append_left (by simpa using hi2), List.getElem?_map, List.getElem?_eq_getElem hi2]
          rfl
        · rw [List.getElem?_append_right (by simpa using hi), List.getElem?_replicate] at e'
          split at e' <;> cases e'
      · show RepR K mg Z1 η1 ([] ++ (sroots (ds.map (fun x => some (OD.d x)) ++ List.replicate (N.length - ps.length) none) (vs.map some ++ List.replicate (N.length - ps.length) none) ++ mroots μ η1)) C
        rw [zip_sroots _ l2]
        exact a.rep
    · unfold fnM at q
      rw [if_pos l1] at q
      have dropS : ∀ {R : Roots} {S : AS} {σ : L2.St} {H' : Hp} {Z' : Hp} {η' : List Addr} {C' : Cl}, AsnC K mg ⟨H, Z, η, W⟩ R S σ H' Z' η' C' → ∃ C2, AsnC K mg ⟨H, Z, η, W⟩ R ⟨[], S.μ⟩ [] H' Z' η' C2 := fun {R S σ H' Z' η' C'} b =>
        b.perm (S' := ⟨[], S.μ⟩) (σ' := []) (R' := R) (E := sroots S.v σ) ⟨rfl, fun i x e => by simp at e⟩ b.ml (by
          show (R ++ (sroots S.v σ ++ mroots S.μ η')).Perm (sroots S.v σ ++ (R ++ ([] ++ mroots S.μ η')))
          refine perm_count fun z => ?_
          simp only [List.count_append, List.nil_append]
          omega)
      cases em : M ⟨ds.map (fun x => some (.d x)) ++ List.replicate (N.length - ps.length) none, μ⟩ with
      | no => rw [em] at q; exact q
      | bk S => rw [em] at q; exact q.elim
      | ct S => rw [em] at q; exact q.elim
      | nx S =>
        rw [em] at q
        intro σ H' ⟨Z', η', C', b⟩
        obtain ⟨C2, b2⟩ := dropS b
        exact q .non H' ⟨Z', η', C2, b2.addD .non⟩
      | rt y S =>
        rw [em] at q
        intro v σ H' ⟨Z', η', C', b⟩
        obtain ⟨C2, b2⟩ := dropS b
        exact q v H' ⟨Z', η', C2, b2⟩
      | ex c fl S =>
        rw [em] at q
        intro σ H' cls d ⟨Z', η', C', b, hc, hd⟩
        obtain ⟨C2, b2⟩ := dropS b
        exact q H' cls d ⟨Z', η', C2, b2, hc, hd⟩
end Mi
end
section
set_option Elab.async false
set_option linter.all false
set_option maxRecDepth 100000
set_option maxHeartbeats 4000000
/-! Mi15: try with several except clauses, each with or without a name; what stands in their suites. -/
namespace PySem.W
open PySem PySem.Spec PySem.Calls PyProof.Rows
section
variable {prog : Program} {w : World} {A : Around} {E : Value → Shared → Prop} {s : Shared} {K : Frag} {x D : Addr} {ox : Obj} {od : Option Obj}
theorem mi_findObj {C : Addr} {name : Str} {a g : Value} (hc : (clsIn K C).isSome = true) (ha : findIn K (.ref C) name = some (some a)) (hg : specialIn K a "__get__" = some (some g)) (ht : takesIn K a = some true) : findObj K C od name = some (.bind g a) := by
  obtain ⟨cd, hc⟩ := Option.isSome_iff_exists.mp hc
  unfold findObj
  rw [hc, Option.bind_some, ha, Option.bind_some]
  simp [hg, ht]
theorem mi_classE {Q : Option Value → Shared → Prop} (hga : findIn K (.ref D) "__getattribute__" = some (some (.builtin "BaseException.__getattribute__"))) (hgt : findIn K (.ref D) "__getattr__" = some none) (hsub : subIn K (.ref D) (.type "BaseException") = some true)
    (hdct : hasDictIn K D = true) (ha : findIn K (.ref D) "__class__" = some (some (.builtin "object.__class__")))
    (hn : specialIn K (.builtin "object.__class__") "__get__" = some (some (.builtin "getset_descriptor.__get__"))) (htk : takesIn K (.builtin "object.__class__") = some true) (hm : mroIn K D (.type "object") = some true)
    (X : K.In s.heap) (I : InstAt s.heap x ox D od) (h : Q (some (.ref D)) { s with toks := s.toks + 1 }) : wpAny (model prog w) A (getAttr? (.ref x) "__class__") Q E s := by
  have hf : findObj K D od "__class__" = some (.bind (.builtin "getset_descriptor.__get__") (.builtin "object.__class__")) := mi_findObj (by obtain ⟨cd, hc, _⟩ := any_some hdct; rw [hc]; rfl) ha hn htk
  obtain ⟨hp, g, d, t, os⟩ := s
  have L0 := I.type (M := model prog w)
  have L1 := looks_findIn (M := model prog w) X hga
  have L2 := looks_findIn (M := model prog w) X hgt
  have L3 := looks_find (M := model prog w) X I hf
  have sub : Looks (model prog w) hp (isInstance (.ref x) (.type "BaseException")) true := L0.andThen (looks_subIn X hsub)
  have hx0 : (false && onTheHeap (Value.builtin "BaseException.__getattribute__")) = false := rfl
  have hx2 : (Value.builtin "BaseException.__getattribute__" == Value.builtin "object.__getattribute__") = false := by decide +kernel
  have hx1 : (onTheHeap (Value.ref D) && Value.builtin "BaseException.__getattribute__" == Value.builtin "object.__getattribute__") = false := by rw [hx2]; rfl
  unfold getAttr? getAttrBy? getAttrBy
  refine wpAny_bind (wpAny_mkText (wpAny_bind (wpAny_attempt (wpAny_holding (wpAny_bind (L0.at (wpAny_bind (L1.at ?_))))))))
  show wpAny _ _ (if (onTheHeap (Value.ref D) && Value.builtin "BaseException.__getattribute__" == Value.builtin "object.__getattribute__") = true then _ else _) _ _ _
  rw [hx1, if_neg Bool.false_ne_true]
  unfold getAttrByItsOwn hookBefore
  refine wpAny_bind ?_
  rw [if_pos (show onTheHeap (Value.ref D) = true from rfl)]
  refine L2.at ?_
  refine wpAny_bind (wpAny_attempt (wpAny_holding ?_))
  unfold callGetattribute
  rw [hx0, if_neg Bool.false_ne_true]
  unfold boundAndCalled
  rw [PySem.F.excAttr_ValueError.ga.bind (.ref x)]
  refine wpAny_bind (wpAny_pure ?_)
  show wpAny _ _ (call (.builtin "BaseException.__getattribute__") [.ref x, .str "__class__" t]) _ _ _
  refine wpAny_call (codeAny_call_builtin PySem.F.excAttr_ValueError.ga.plain PySem.F.entry_bexc_ga ?_)
  refine @check_slot (model prog w) _ _ ⟨hp, g, d, t + 1, os⟩ "BaseException.__getattribute__" "BaseException" "__getattribute__" (.ref x) [.str "__class__" t] [] _ (by decide +kernel) (by decide +kernel) sub (PySem.F.args_bexc_ga (.ref x) (.str "__class__" t)) ?_
  unfold Builtin.«object.__getattribute__»
  refine wpAny_bind (wpAny_of_eq (a := ((Value.ref x : Value), [Value.str "__class__" t])) (by first | rfl | (simp only [slotArgs]; rfl)) ?_)
  refine wpAny_bind (wpAny_pure (wpAny_bind (L0.at (wpAny_bind (L3.at ?_)))))
  show wpAny _ _ (holding [Value.builtin "object.__class__"] (call (.builtin "getset_descriptor.__get__") [.builtin "object.__class__", .ref x, .ref D]) >>= ret) _ _ _
  refine wpAny_bind (wpAny_holding (wpAny_call (class_get (s := ⟨hp, g, d, t + 1, os⟩) (ox := ox) (od := od) X I hm ?_)))
  refine wpAny_pure ?_
  show wpAny _ _ (handedOut (.ref D)) _ _ _
  rw [handedOut_of (v := .ref D) rfl]
  first
    | exact wpAny_pure (wpAny_pure h)
    | exact wpAny_pure h
    | exact wpAny_pure (wpAny_bind (wpAny_pure (wpAny_pure h)))
theorem mi_kitx (hga : findIn K (.ref D) "__getattribute__" = some (some (.builtin "BaseException.__getattribute__"))) (hgt : findIn K (.ref D) "__getattr__" = some none) (hsub : subIn K (.ref D) (.type "BaseException") = some true) (hdct : hasDictIn K D = true) (ha : findIn K (.ref D) "__class__" = some (some (.builtin "object.__class__")))
    (hn : specialIn K (.builtin "object.__class__") "__get__" = some (some (.builtin "getset_descriptor.__get__"))) (htk : takesIn K (.builtin "object.__class__") = some true) (hm : mroIn K D (.type "object") = some true) :
    KitX K (.ref x) (.ref D) (fun h => InstAt h x ox D od) where
  ty := fun _ _ _ I => I.type
  it := fun _ _ X _ => by
    obtain ⟨cdD, hcD, _⟩ := any_some hdct
    unfold clsIn at hcD
    split at hcD
    · rename_i c' d' cd' sl' ho
      intro A' Q' E' s' k q
      unfold isType loadHead
      exact wpAny_bind (wpAny_loadPart (k _ _ (X _ _ ho)) (wpAny_pure q))
    · cases hcD
  ne := fun h tp dd its n sl X htp => by
    obtain ⟨cdD, hcD, _⟩ := any_some hdct
    refine Bool.eq_false_iff.mpr fun q => ?_
    have e : D = tp := Value.ref.inj (beq_iff_eq.mp q)
    subst e
    unfold clsIn at hcD
    split at hcD
    · rename_i c' d' cd' sl' ho
      have z := (X _ _ ho).symm.trans htp
      cases z
    · cases hcD
  ca := fun X I k => mi_classE hga hgt hsub hdct ha hn htk hm X I k
end
end PySem.W
namespace Mi
open PySem PySem.Spec PyProof.Rows L2

/-! ### parts of a frame -/
section
variable {K : PySem.W.Frag} {mg : Str → Option Value} {F : Frm} {R R0 R1 : Roots} {S S' : AS} {σ σ' : L2.St} {H H' Z Z' : Hp} {η η' : List Addr} {C C' : Cl}
theorem AsnC.splitS (h : AsnC K mg F (R0 ++ R) S σ H Z η C) : ∃ W Cm Co, AsnC K mg ⟨H, Z, η, W⟩ R0 S σ H Z η Cm ∧ (∀ a, W a ↔ ∃ p ∈ Cm, p.1 = a) ∧ RepR K mg Z η R Co ∧ C.Perm (Co ++ Cm) := by
  have pr : ((R0 ++ R) ++ (sroots S.v σ ++ mroots S.μ η)).Perm (R ++ (R0 ++ (sroots S.v σ ++ mroots S.μ η))) := perm_count fun a => by simp only [List.count_append]; omega
  obtain ⟨C1, r, pc⟩ := h.rep.perm pr
  obtain ⟨Co, Cm, rfl, r1, r2⟩ := r.split
  have nd := (pc.map (·.1)).nodup_iff.mp h.nd
  rw [List.map_append] at nd
  refine ⟨fun a => ∃ p ∈ Cm, p.1 = a, Cm, Co, ⟨Same.refl _, List.prefix_refl _, h.zh, fun a o e _ => e, fun a o e => .inl e, fun p hp => ?_, (List.nodup_append.mp nd).2.1, h.sl, ?_, r2⟩, fun _ => Iff.rfl, r1, pc⟩
  · obtain ⟨a1, a2, a3⟩ := h.cw p (pc.mem_iff.mpr (List.mem_append_right _ hp))
    exact ⟨a1, a2, .inl ⟨p, hp, rfl⟩⟩
  · have z := h.ml
    cases q : S.μ with
    | none => exact rfl
    | some m => rw [q] at z; exact z
theorem AsnC.joinS {W : Addr → Prop} {Cm Co : Cl} (h : AsnC K mg F (R0 ++ R) S σ H Z η C) (hW : ∀ a, W a ↔ ∃ p ∈ Cm, p.1 = a) (ro : RepR K mg Z η R Co) (pc : C.Perm (Co ++ Cm))
    (g : AsnC K mg ⟨H, Z, η, W⟩ R1 S' σ' H' Z' η' C') (hμ : S'.μ.isSome = S.μ.isSome) : ∃ C2, AsnC K mg F (R1 ++ R) S' σ' H' Z' η' C2 := by
  have nd := (pc.map (·.1)).nodup_iff.mp h.nd
  rw [List.map_append] at nd
  obtain ⟨n1, n2, n3⟩ := List.nodup_append.mp nd
  have hcm : ∀ p ∈ Cm, p ∈ C := fun p hp => pc.mem_iff.mpr (List.mem_append_right _ hp)
  have hco : ∀ p ∈ Co, p ∈ C := fun p hp => pc.mem_iff.mpr (List.mem_append_left _ hp)
  have nW : ∀ a o, F.H0 a = some o → ¬ F.W a → ¬ W a := fun a o e1 e2 w => by
    obtain ⟨p, hp, rfl⟩ := (hW a).mp w
    rcases (h.cw p (hcm p hp)).2.2 with z | z
    · exact e2 z
    · rw [z] at e1; cases e1
  have back : ∀ a, W a ∨ H a = none → F.W a ∨ F.H0 a = none := fun a x => by
    by_cases w : F.W a
    · exact .inl w
    · refine .inr ?_
      cases q : F.H0 a with
      | none => rfl
      | some o =>
        rcases x with x | x
        · exact absurd x (nW a o q w)
        · rw [h.fr a o q w] at x; cases x
  have oW : ∀ p ∈ Co, ¬ W p.1 := fun p hp w => by
    obtain ⟨q, hq, e⟩ := (hW _).mp w
    exact n3 _ (List.mem_map.mpr ⟨p, hp, rfl⟩) _ (List.mem_map.mpr ⟨q, hq, rfl⟩) e.symm
  have gr := g.rep
  obtain ⟨D1, D2, e1, r1, r2⟩ := gr.split
  have rall : RepR K mg Z' η' ((R1 ++ R) ++ (sroots S'.v σ' ++ mroots S'.μ η')) (D1 ++ (Co ++ D2)) := by
    have z := RepR.app r1 (RepR.app (ro.mono g.z0 g.e0) r2)
    rw [List.append_assoc]
    exact z
  have pp : (D1 ++ (Co ++ D2)).Perm (C' ++ Co) := by
    rw [e1]
    refine perm_count fun a => ?_
    simp only [List.count_append]
    omega
  refine ⟨_, h.z0.trans g.z0, h.e0.trans g.e0, g.zh, fun a o e1 e2 => g.fr a o (h.fr a o e1 e2) (nW a o e1 e2), fun a o e => ?_, fun p hp => ?_, ?_, g.sl, ?_, rall⟩
  · rcases g.zn a o e with z | z | z
    · exact h.zn a o z
    · exact .inr (back a (.inl z))
    · exact .inr (back a (.inr z))
  · rcases List.mem_append.mp (pp.mem_iff.mp hp) with hp | hp
    · obtain ⟨a1, a2, a3⟩ := g.cw p hp
      exact ⟨a1, a2, back _ a3⟩
    · obtain ⟨a1, a2, a3⟩ := h.cw p (hco p hp)
      refine ⟨g.fr _ _ a1 (oW p hp), ?_, a3⟩
      cases q : Z' p.1 with
      | none => rfl
      | some o =>
        rcases g.zn _ _ q with z | z | z
        · rw [show Z p.1 = some o from z] at a2; cases a2
        · exact absurd z (oW p hp)
        · rw [show H p.1 = none from z] at a1; cases a1
  · refine (pp.map (·.1)).nodup_iff.mpr ?_
    rw [List.map_append]
    refine List.nodup_append.mpr ⟨g.nd, n1, fun a ha b hb e => ?_⟩
    obtain ⟨p, hp, rfl⟩ := List.mem_map.mp ha
    obtain ⟨q, hq, rfl⟩ := List.mem_map.mp hb
    obtain ⟨a1, _, _⟩ := h.cw q (hco q hq)
    rcases (g.cw p hp).2.2 with z | z
    · exact oW q hq (e ▸ z)
    · rw [← e, show H p.1 = none from z] at a1; cases a1
  · have z := g.ml
    cases q : S'.μ with
    | some m => rw [q] at z; exact z
    | none =>
      rw [q] at z hμ
      have z2 := h.ml
      cases q2 : S.μ with
      | some m => rw [q2] at hμ; simp at hμ
      | none =>
        rw [q2] at z2
        exact (show η' = η from z).trans z2
/-- the frame of a suite: the exception at a is the next handle -/
def setO (i : Option Nat) (n : Nat) (S : AS) (μ : List OD) : AS := ⟨i.elim S.v fun i => S.v.set i (some (.d (.obj n))), some μ⟩
theorem AsnC.toSuite {a : Addr} {i : Option Nat} {μ : List OD} (h : AsnC K mg F [] S σ H Z η C) (hμ : S.μ = some μ) :
    Asn K mg ⟨F.H0, Z, η ++ [a], F.W⟩ [] (setO i μ.length S (μ ++ [.d .exn])) (i.elim σ fun i => σ.set i (some (.ref a))) H := by
  have ml : μ.length = η.length := by have := h.ml; rw [hμ] at this; exact this
  have hη : (η ++ [a])[μ.length]? = some a := by rw [ml, List.getElem?_append_right (Nat.le_refl _), Nat.sub_self]; rfl
  have base : AsnC K mg ⟨F.H0, Z, η ++ [a], F.W⟩ [] ⟨S.v, some (μ ++ [.d .exn])⟩ σ H Z (η ++ [a]) C := by
    refine ⟨Same.refl _, List.prefix_refl _, h.zh, h.fr, fun b o e => .inl e, h.cw, h.nd, h.sl, ?_, ?_⟩
    · show (μ ++ [OD.d .exn]).length = (η ++ [a]).length
      simp [ml]
    · have r0 := h.rep.mono (Same.refl _) (List.prefix_append η [a])
      rw [hμ] at r0
      have e : mroots (some (μ ++ [OD.d .exn])) (η ++ [a]) = mroots (some μ) η ++ [(OD.d .exn, V.ref a)] := by
        show (μ ++ [OD.d .exn]).zip ((η ++ [a]).map V.ref) = μ.zip (η.map V.ref) ++ _
        rw [List.map_append, List.zip_append (by simp [ml])]
        rfl
      rw [e]
      have r1 : RepR K mg Z (η ++ [a]) [(OD.d .exn, V.ref a)] [] := RepR.cons (C1 := []) (C := []) (.d .exn) .nil
      have r2 := r0.app r1
      rw [List.append_nil] at r2
      have e2 : ([] ++ (sroots S.v σ ++ mroots (some μ) η) ++ [(OD.d .exn, V.ref a)] : Roots) = [] ++ (sroots S.v σ ++ (mroots (some μ) η ++ [(OD.d .exn, V.ref a)])) := by simp
      rw [e2] at r2
      exact r2
  cases i with
  | none => exact ⟨_, _, _, base⟩
  | some i =>
    by_cases hi : i < S.v.length
    · exact Asn.store (x := .d (.obj μ.length)) (v := .ref a) ⟨_, _, _, base.addD (.obj hη)⟩ hi
    · have e1 : S.v.set i (some (.d (.obj μ.length))) = S.v := List.set_eq_of_length_le (by omega)
      have e2 : σ.set i (some (V.ref a)) = σ := List.set_eq_of_length_le (by rw [← h.sl.1]; omega)
      show Asn K mg _ [] ⟨S.v.set i _, _⟩ (σ.set i _) _
      rw [e1, e2]
      exact ⟨_, _, _, base⟩
theorem AsnC.ofSuite {a : Addr} {σ0 : L2.St} {S0 : AS} {H0 Z0 : Hp} {η0 : List Addr} {C0 : Cl} {R0 : Roots} (h0 : AsnC K mg F R0 S0 σ0 H0 Z0 η0 C0) (h : AsnC K mg ⟨F.H0, Z0, η0 ++ [a], F.W⟩ R S σ H Z η C) (hμ : S.μ.isSome = true) : AsnC K mg F R S σ H Z η C := by
  refine ⟨h0.z0.trans h.z0, (h0.e0.trans (List.prefix_append _ _)).trans h.e0, h.zh, h.fr, fun b o e => ?_, h.cw, h.nd, h.sl, ?_, h.rep⟩
  · rcases h.zn b o e with z | z
    · exact h0.zn b o z
    · exact .inr z
  · have z := h.ml
    cases q : S.μ with
    | none => rw [q] at hμ; cases hμ
    | some m => rw [q] at z; exact z
end

/-! ### the mirror of a try -/
structure Hd where
  cs : List (Str × Bool)
  i : Option Nat
  M : Nat → Str → List (Str × D) → XS
def clrO (i : Option Nat) (S : AS) : AS := i.elim S fun i => { S with v := S.v.set i none }
def endH (i : Option Nat) : Out → Out
  | .nx S => .nx (clrO i S)
  | .rt x S => .rt x (clrO i S)
  | .bk S => .bk (clrO i S)
  | .ct S => .ct (clrO i S)
  | _ => .no
def runH : List Hd → Str → List (Str × D) → AS → Out
  | [], c, fl, S => .ex c fl S
  | h :: r, c, fl, S => match h.cs.lookup c with
    | some true => match S.μ with
      | some μ => endH h.i (h.M μ.length c fl (setO h.i μ.length S (μ ++ [.d .exn])))
      | none => .no
    | some false => runH r c fl S
    | none => .no
def muOut : Out → Out
  | .nx S => if S.μ.isSome then .nx S else .no
  | .rt x S => if S.μ.isSome then .rt x S else .no
  | .bk S => if S.μ.isSome then .bk S else .no
  | .ct S => if S.μ.isSome then .ct S else .no
  | .ex c fl S => if S.μ.isSome then .ex c fl S else .no
  | .no => .no
def sTry (m : XS) (hs : List Hd) : XS := fun S => if S.μ.isSome then muOut (match m S with
  | .ex c fl S1 => runH hs c fl S1
  | o => o) else .no

/-! ### except clauses -/
abbrev TSx := Addr → Value → Option Addr → TS
def wManyA (K : PySem.W.Frag) (Wout : WX) (D : Ends) : List (Value × Option Nat × TSx) → WX
  | [] => Wout
  | (c, o, ts) :: r => fun cls d σ H => ∃ b, PySem.W.exmOne K cls c = some b ∧ (b = true → ∀ a, H a = none → match o with
      | none => ts a cls d D σ H
      | some i => ts a cls d { nx := fun σ' H' => D.nx (σ'.set i none) H', rt := D.rt, bk := fun σ' H' => D.bk (σ'.set i none) H', ct := fun σ' H' => D.ct (σ'.set i none) H' } (σ.set i (some (.ref a))) H) ∧
    (b = false → wManyA K Wout D r cls d σ H)
inductive HdsB (X : Cx) : List ExceptHandler → List (Value × Option Nat × TSx) → Prop
  | nil : HdsB X [] []
  | no {x : Str} {c : Value} {ts : TSx} {b₀ : Stmt} {suite : List Stmt} {np pos' : Pos} {hds : List ExceptHandler} {l : List (Value × Option Nat × TSx)} (hc : Names X x c)
      (hsu : ∀ (a : Addr) (oe : Obj) (cls : Value) (d : Option Addr) (pn : List (Addr × Obj)), Zc cls d oe → (∃ vs, oe.data = .fields vs) → PSs (X.suite a ((a, oe) :: pn)) (b₀ :: suite) (ts a cls d)) (r : HdsB X hds l) :
      HdsB X (.ExceptHandler (some (.Name x np)) none (b₀ :: suite) pos' :: hds) ((c, none, ts) :: l)
  | as {x n : Str} {i : Nat} {c : Value} {ts : TSx} {b₀ : Stmt} {suite : List Stmt} {np pos' : Pos} {hds : List ExceptHandler} {l : List (Value × Option Nat × TSx)} (hi : X.N[i]? = some n) (hln : X.env.kindOf n = some .local) (hc : Names X x c)
      (hsu : ∀ (a : Addr) (oe : Obj) (cls : Value) (d : Option Addr) (pn : List (Addr × Obj)), Zc cls d oe → (∃ vs, oe.data = .fields vs) → PSs (X.suite a ((a, oe) :: pn)) (b₀ :: suite) (ts a cls d)) (r : HdsB X hds l) :
      HdsB X (.ExceptHandler (some (.Name x np)) (some n) (b₀ :: suite) pos' :: hds) ((c, some i, ts) :: l)
section
variable {X : Cx} {body : List Stmt} {h₀ : ExceptHandler} {hds : List ExceptHandler} {l : List (Value × Option Nat × TSx)} {pos : Pos} {tb : WX → TS} {Wout : WX}
theorem ps_try_manyA (hs : X.stack = X.env :: X.outer) (hf : X.env.frame = some X.env.locals) (hN : X.N.Nodup) (tk : Takes X Wout)
    (hb : ∀ (W : WX) (pn : List (Addr × Obj)) (xe : Value → Shared → Prop), Takes (X.tr pn xe) W → PassesOwn (model X.prog X.w) X.A X.env xe → PSs (X.tr pn xe) body (tb W))
    (hh : HdsB X (h₀ :: hds) l) : PS X (.Try body (h₀ :: hds) [] [] pos) (fun D σ H => tb (wManyA X.K Wout D l) D σ H) := by
  refine ⟨fun pins s σ H D I h => ?_⟩
  have ok := I.ok
  have hfr : X.A.frames = some (X.env :: X.outer) := by rw [ok.frames, hs]
  refine wpAny_Try_except ?_
  refine wpAny_mono ((hb (wManyA X.K Wout D l) (X.pn ++ pins) (fun e s₁ => wpAny (model X.prog X.w) X.A (noteFrame e X.env) (fun _ s₂ => wpAny (model X.prog X.w) X.A (setFlight e none) (fun _ s₃ =>
    wpAny (model X.prog X.w) X.A (handleBy e X.env (h₀ :: hds)) (SP X pins D) X.xe s₃) X.xe s₂) X.xe s₁) (fun u s' xx => ?_) PassesOwn.looking).run [] s σ H D (I.toTry _) h) (fun f s1 hsp => ?_) (fun e s1 he => he)
  · -- the catch
    obtain ⟨a, B, sI, pins', σ', H', cls, d, rfl, J', nb, up, sky, na, os, ag, w⟩ := xx
    have J : Inv X pins σ' H' sI := J'.ofTry ok
    have sky' : Sky B (X.env :: X.outer) a (Zc cls d) X.env.locals s'.heap := by rw [← hs]; exact sky
    show wpAny (model X.prog X.w) X.A (noteFrame (.ref a) X.env) _ _ _
    refine Sky.land Zc.steady hfr hf sky' fun h3 fl3 up3 => ?_
    have J3 : Inv X pins σ' H' { s' with heap := h3 } := J.landed nb fl3.1 (up.trans up3) os ag
    obtain ⟨oe3, vs3, he3, hz3, hd3⟩ := fl3.there
    have notFr : ∀ {h : Heap} {o : Obj} {vs : Array Value}, h.FunFrames B (X.env :: X.outer) → h.get? a = some o → o.data = .fields vs → a ∉ frs (X.env :: X.outer) := fun {h o vs} ff e dd hm => by
      obtain ⟨_, o', e', hnf⟩ := ff.mem hm
      rw [e] at e'; cases e'
      exact hnf _ dd
    have nfr := notFr fl3.2.2.1 he3 hd3
    have nL : a ≠ X.env.locals := fun z => nfr (List.mem_filterMap.mpr ⟨X.env, List.mem_cons_self, by rw [hf, z]⟩)
    have nF : a ∉ X.fs := fun hm => by
      obtain ⟨e, he, q⟩ := List.mem_filterMap.mp hm
      exact nfr (List.mem_filterMap.mpr ⟨e, List.mem_cons_of_mem _ he, q⟩)
    have S3 := J3.suite he3 hd3 na nL nF
    have LT : PySem.W.Looks (model X.prog X.w) h3 (typeOf (.ref a)) cls := fun A Q E s k q => wpAny_typeOf_ref (k _ _ he3) (by rw [hz3.1]; exact q)
    have test : ∀ {x : Str} {np : Pos} {c : Value} (hc : Names X x c) {Q : Value → Shared → Prop} {E : Value → Shared → Prop}, Q c { s' with heap := h3 } → wpAny (model X.prog X.w) (X.A.mark (some (.ref a))) (eval (.Name x np) X.env) Q E { s' with heap := h3 } := fun {x np c} hc {Q E} q => by
      obtain ⟨hg, hdbg, hm | ⟨hm, hv, hnn⟩⟩ := hc
      · exact ld_glob (X := X.suite a ((a, oe3) :: (X.pn ++ pins))) S3 hg hm q hdbg
      · exact ld_blt (X := X.suite a ((a, oe3) :: (X.pn ++ pins))) S3 hg hm hv q hnn hdbg
    have go : ∀ {hds' : List ExceptHandler} {l' : List (Value × Option Nat × TSx)}, HdsB X hds' l' → wManyA X.K Wout D l' cls d σ' H' →
        wpAny (model X.prog X.w) X.A (handleBy (.ref a) X.env hds') (SP X pins D) X.xe { s' with heap := h3 } := by
      intro hds' l' hk
      induction hk with
      | nil =>
        intro w
        refine wpAny_handleBy_nil ?_
        obtain ⟨k1, k2, k3, oe, vs, T, oT, ts', he, hz, hd, h1, hr⟩ := id fl3
        unfold PySem.passOn
        refine wpAny_bind (wpAny_field he hd h1 ?_)
        rw [if_neg (show ¬ ((Value.ref T == Value.none) = true) from by simp)]
        have fin : wpAny (model X.prog X.w) X.A (setFlight (.ref a) X.env.frame) (fun _ s4 => wpAny (model X.prog X.w) X.A (throw (.ref a) : Sem Flow) (SP X pins D) X.xe s4) X.xe { s' with heap := h3 } := by
          rw [hf]
          refine HandSPX.setFlight_upZ fl3 fun h4 hh4 up4 => wpAny_throw (tk _ _ ?_)
          exact ⟨a, B, sI, pins, σ', H', cls, d, rfl, J, nb, (up.trans up3).trans up4, .inr (.inr (by rw [hs]; exact hh4)), na, os, ag, w⟩
        first
          | exact wpAny_bind (wpAny_pure (wpAny_bind fin))
          | exact wpAny_bind fin
      | @no x c ts b₀ suite np pos' hds2 l2 hc hsu r ih =>
        intro w
        obtain ⟨b, hb1, hyes, hno⟩ := w
        refine wpAny_handleBy_cons (codeAny_handlers_test ?_) (by intro q; cases q)
        have LM := PySem.W.exm_one (M := model X.prog X.w) (J3.kIn) LT hb1
        refine test hc (LM.here ?_)
        cases b with
        | true =>
          refine codeAny_handlers_suite ?_
          refine HandSPX.lands_againZ fl3 fun h4 fl4 up4 => ?_
          have J4 : Inv X pins σ' H' { s' with heap := h4 } := J.landed nb fl4.1 ((up.trans up3).trans up4) os ag
          obtain ⟨oe4, vs4, he4, hz4, hd4⟩ := fl4.there
          have S4 := J4.suite he4 hd4 na nL nF
          refine wpAny_mono ((hsu a oe4 cls d (X.pn ++ pins) hz4 ⟨_, hd4⟩).run [] _ _ H' _ S4 (hyes rfl a na)) (fun f s6 hsp => ?_) (fun _ _ z => False.elim z)
          cases f with
          | next =>
            obtain ⟨σ6, H6, S6, q6⟩ := hsp
            exact ⟨_, _, S6.unsuite ok, q6⟩
          | brk =>
            obtain ⟨σ6, H6, S6, q6⟩ := hsp
            exact ⟨_, _, S6.unsuite ok, q6⟩
          | cont =>
            obtain ⟨σ6, H6, S6, q6⟩ := hsp
            exact ⟨_, _, S6.unsuite ok, q6⟩
          | ret u =>
            obtain ⟨v6, σ6, H6, S6, r6, q6⟩ := hsp
            exact ⟨_, _, _, S6.unsuite ok, r6, q6⟩
        | false =>
          show wpAny _ X.A (handleBy (.ref a) X.env hds2) _ _ _
          exact ih (hno rfl)
      | @as x n i c ts b₀ suite np pos' hds2 l2 hi hln hc hsu r ih =>
        intro w
        obtain ⟨b, hb1, hyes, hno⟩ := w
        refine wpAny_handleBy_cons (codeAny_handlers_test ?_) (by intro q; cases q)
        have LM := PySem.W.exm_one (M := model X.prog X.w) (J3.kIn) LT hb1
        refine test hc (LM.here ?_)
        cases b with
        | true =>
          refine codeAny_handlers_suite_as ?_
          refine HandSPX.lands_againZ fl3 fun h4 fl4 up4 => ?_
          have J4 : Inv X pins σ' H' { s' with heap := h4 } := J.landed nb fl4.1 ((up.trans up3).trans up4) os ag
          obtain ⟨oe4, vs4, he4, hz4, hd4⟩ := fl4.there
          have S4 := J4.suite he4 hd4 na nL nF
          refine store_ok (X := X.suite a ((a, oe4) :: (X.pn ++ pins))) (v := .ref a) S4 hN hi (.inl hln) rfl (fun s5 S5 => ?_) (.inr hln)
          refine wpAny_mono ((hsu a oe4 cls d (X.pn ++ pins) hz4 ⟨_, hd4⟩).run [] s5 _ H' _ S5 (hyes rfl a na)) (fun f s6 hsp => ?_) (fun _ _ z => False.elim z)
          have end_ : ∀ {σ6 : L2.St} {H6 : Hp} {Q : Shared → Prop}, Inv (X.suite a ((a, oe4) :: (X.pn ++ pins))) [] σ6 H6 s6 → (∀ s7, Inv X pins (σ6.set i none) H6 s7 → Q s7) →
              wpAny (model X.prog X.w) X.A (do bindName X.env n .none; unbindBehindTheSuite X.env n pos') (fun _ s7 => Q s7) X.xe s6 := fun {σ6 H6 Q} S6 hq => gone_ok (S6.unsuite ok) hN hi hln hq
          cases f with
          | next =>
            obtain ⟨σ6, H6, S6, q6⟩ := hsp
            exact end_ S6 fun s7 J7 => ⟨_, _, J7, q6⟩
          | brk =>
            obtain ⟨σ6, H6, S6, q6⟩ := hsp
            exact end_ S6 fun s7 J7 => ⟨_, _, J7, q6⟩
          | cont =>
            obtain ⟨σ6, H6, S6, q6⟩ := hsp
            exact end_ S6 fun s7 J7 => ⟨_, _, J7, q6⟩
          | ret u =>
            obtain ⟨v6, σ6, H6, S6, r6, q6⟩ := hsp
            exact end_ S6 fun s7 J7 => ⟨_, _, _, J7, r6, q6⟩
        | false =>
          show wpAny _ X.A (handleBy (.ref a) X.env hds2) _ _ _
          exact ih (hno rfl)
    exact go hh w
  · cases f with
    | next =>
      obtain ⟨σ', H', J', q⟩ := hsp
      exact wpAny_execs_nil ⟨σ', H', J'.ofTry ok, q⟩
    | brk =>
      obtain ⟨σ', H', J', q⟩ := hsp
      exact ⟨σ', H', J'.ofTry ok, q⟩
    | cont =>
      obtain ⟨σ', H', J', q⟩ := hsp
      exact ⟨σ', H', J'.ofTry ok, q⟩
    | ret u =>
      obtain ⟨v, σ', H', J', r, q⟩ := hsp
      exact ⟨v, σ', H', J'.ofTry ok, r, q⟩
end

/-! ### try .. except over mirrors -/
/-- what a suite knows of its exception -/
structure SF (K : PySem.W.Frag) (mg : Str → Option Value) (F : Frm) (n : Nat) (a : Addr) (c : Str) (fl : List (Str × D)) (cls : Value) (d : Option Addr) : Prop where
  hn : F.η0[n]? = some a
  hc : ∃ Ca, mg c = some (.ref Ca) ∧ cls = .ref Ca
  hd : match d with
    | none => fl = []
    | some d => ∃ fs, F.Z0 d = some (.xd fs) ∧ RepX K mg F.Z0 F.η0 fl fs
def tsOf (K : PySem.W.Frag) (mg : Str → Option Value) (M : Nat → Str → List (Str × D) → XS) : TSx := fun a cls d D σ H => ∃ F n c fl, SF K mg F n a c fl cls d ∧ RdS K mg F W0 (M n c fl) D σ H
/-- the clause's class, asked of the classes by name -/
def Tab (K : PySem.W.Frag) (mg : Str → Option Value) (cv : Value) (cs : List (Str × Bool)) : Prop := ∀ c b, cs.lookup c = some b → ∀ Ca, mg c = some (.ref Ca) → PySem.W.exmOne K (.ref Ca) cv = some b
inductive HdsA (X : Cx) : List ExceptHandler → List (Value × Option Nat × TSx) → List Hd → Prop
  | nil : HdsA X [] [] []
  | no {x : Str} {c : Value} {cs : List (Str × Bool)} {M : Nat → Str → List (Str × D) → XS} {b₀ : Stmt} {suite : List Stmt} {np pos' : Pos} {hds : List ExceptHandler} {l : List (Value × Option Nat × TSx)} {hs : List Hd} (hc : Names X x c) (tb : Tab X.K X.mg c cs)
      (hsu : ∀ (F : Frm) (n : Nat) (c : Str) (fl : List (Str × D)) (a : Addr) (oe : Obj) (cls : Value) (d : Option Addr) (pn : List (Addr × Obj)), SF X.K X.mg F n a c fl cls d → Zc cls d oe → (∃ vs, oe.data = .fields vs) → SS_ (X.suite a ((a, oe) :: pn)) F W0 (b₀ :: suite) (M n c fl)) (r : HdsA X hds l hs) :
      HdsA X (.ExceptHandler (some (.Name x np)) none (b₀ :: suite) pos' :: hds) ((c, none, tsOf X.K X.mg M) :: l) (⟨cs, none, M⟩ :: hs)
  | as {x n : Str} (i : Nat) {c : Value} {cs : List (Str × Bool)} {M : Nat → Str → List (Str × D) → XS} {b₀ : Stmt} {suite : List Stmt} {np pos' : Pos} {hds : List ExceptHandler} {l : List (Value × Option Nat × TSx)} {hs : List Hd} (hi : X.N[i]? = some n) (hln : X.env.kindOf n = some .local) (hc : Names X x c) (tb : Tab X.K X.mg c cs)
      (hsu : ∀ (F : Frm) (n : Nat) (c : Str) (fl : List (Str × D)) (a : Addr) (oe : Obj) (cls : Value) (d : Option Addr) (pn : List (Addr × Obj)), SF X.K X.mg F n a c fl cls d → Zc cls d oe → (∃ vs, oe.data = .fields vs) → SS_ (X.suite a ((a, oe) :: pn)) F W0 (b₀ :: suite) (M n c fl)) (r : HdsA X hds l hs) :
      HdsA X (.ExceptHandler (some (.Name x np)) (some n) (b₀ :: suite) pos' :: hds) ((c, some i, tsOf X.K X.mg M) :: l) (⟨cs, some i, M⟩ :: hs)
theorem HdsA.toB {X : Cx} {hds : List ExceptHandler} {l : List (Value × Option Nat × TSx)} {hs : List Hd} (h : HdsA X hds l hs) : HdsB X hds l := by
  have su : ∀ {M : Nat → Str → List (Str × D) → XS} {suite : List Stmt}, (∀ (F : Frm) (n : Nat) (c : Str) (fl : List (Str × D)) (a : Addr) (oe : Obj) (cls : Value) (d : Option Addr) (pn : List (Addr × Obj)), SF X.K X.mg F n a c fl cls d → Zc cls d oe → (∃ vs, oe.data = .fields vs) → SS_ (X.suite a ((a, oe) :: pn)) F W0 suite (M n c fl)) →
      ∀ (a : Addr) (oe : Obj) (cls : Value) (d : Option Addr) (pn : List (Addr × Obj)), Zc cls d oe → (∃ vs, oe.data = .fields vs) → PSs (X.suite a ((a, oe) :: pn)) suite (tsOf X.K X.mg M a cls d) := fun {M suite} hsu a oe cls d pn hz hf =>
    ⟨fun pins s σ H D I ⟨F, n, c, fl, sf, q⟩ => (hsu F n c fl a oe cls d pn sf hz hf).run pins s σ H D I q⟩
  induction h with
  | nil => exact .nil
  | no hc tb hsu r ih => exact .no hc (su hsu) ih
  | as i hi hln hc tb hsu r ih => exact .as hi hln hc (su hsu) ih
theorem muOut_cases {K : PySem.W.Frag} {mg : Str → Option Value} {F : Frm} {W : WX} {R : Roots} {D : Ends} {o : Out} (h : Post K mg F W R D (muOut o)) : Post K mg F W R D o ∧ match o with
    | .nx S => S.μ.isSome = true | .rt _ S => S.μ.isSome = true | .bk S => S.μ.isSome = true | .ct S => S.μ.isSome = true | .ex _ _ S => S.μ.isSome = true | .no => False := by
  unfold muOut at h
  cases o with
  | no => exact h.elim
  | nx S => by_cases q : S.μ.isSome = true <;> simp only [q] at h <;> first | exact ⟨h, q⟩ | exact h.elim
  | rt x S => by_cases q : S.μ.isSome = true <;> simp only [q] at h <;> first | exact ⟨h, q⟩ | exact h.elim
  | bk S => by_cases q : S.μ.isSome = true <;> simp only [q] at h <;> first | exact ⟨h, q⟩ | exact h.elim
  | ct S => by_cases q : S.μ.isSome = true <;> simp only [q] at h <;> first | exact ⟨h, q⟩ | exact h.elim
  | ex c fl S => by_cases q : S.μ.isSome = true <;> simp only [q] at h <;> first | exact ⟨h, q⟩ | exact h.elim
theorem clrO_asn {K : PySem.W.Frag} {mg : Str → Option Value} {F : Frm} {R : Roots} {S : AS} {σ : L2.St} {H : Hp} {i : Option Nat} (h : Asn K mg F R S σ H) : Asn K mg F R (clrO i S) (i.elim σ fun i => σ.set i none) H := by
  cases i with
  | none => exact h
  | some i =>
    have z := h.forget (i := i)
    obtain ⟨Z, η, C, z⟩ := z
    refine ⟨Z, η, C, z.z0, z.e0, z.zh, z.fr, z.zn, z.cw, z.nd, ⟨by have := z.sl.1; simpa [clrO] using this, fun j x e => ?_⟩, z.ml, ?_⟩
    · have e' : (S.v.set i none)[j]? = some (some x) := e
      have ne : i ≠ j := fun q => by
        subst q
        by_cases hi : i < S.v.length
        · rw [List.getElem?_set_self hi] at e'; cases e'
        · rw [List.getElem?_eq_none (by simp; omega)] at e'; cases e'
      obtain ⟨v, ev⟩ := z.sl.2 j x e
      exact ⟨v, by show (σ.set i none)[j]? = _; rw [List.getElem?_set_ne ne]; exact ev⟩
    · have := z.rep
      rw [← sroots_congr (s := ({ S with v := S.v.set i none } : AS).v) (σ := σ) (σ' := σ.set i none) (by simp) (fun j x e => ?_)] at this
      · exact this
      · have e' : (S.v.set i none)[j]? = some (some x) := e
        have ne : i ≠ j := fun q => by
          subst q
          by_cases hi : i < S.v.length
          · rw [List.getElem?_set_self hi] at e'; cases e'
          · rw [List.getElem?_eq_none (by simp; omega)] at e'; cases e'
        rw [List.getElem?_set_ne ne]
theorem clrO_mu {i : Option Nat} {S : AS} : (clrO i S).μ = S.μ := by cases i <;> rfl
theorem s_try {X : Cx} {F : Frm} {W : WX} {body : List Stmt} {h₀ : ExceptHandler} {hds : List ExceptHandler} {l : List (Value × Option Nat × TSx)} {hs : List Hd} {m : XS} {pos : Pos} (hst : X.stack = X.env :: X.outer) (hf : X.env.frame = some X.env.locals) (hN : X.N.Nodup) (tk : Takes X W)
    (hb : ∀ (F : Frm) (W : WX) (pn : List (Addr × Obj)) (xe : Value → Shared → Prop), Takes (X.tr pn xe) W → SS_ (X.tr pn xe) F W body m) (hh : HdsA X (h₀ :: hds) l hs) : S_ X F W (.Try body (h₀ :: hds) [] [] pos) (sTry m hs) := by
  refine PS.imp (ps_try_manyA (tb := fun W Dn σ H => ∃ F, RdS X.K X.mg F W m Dn σ H) hst hf hN tk (fun W pn xe tk' _ => ⟨fun pins s σ H Dn I ⟨F, q⟩ => (hb F W pn xe tk').run pins s σ H Dn I q⟩) hh.toB) fun Dn σ H h => ?_
  obtain ⟨R, S, ⟨Z, η, C, a⟩, q⟩ := h
  unfold sTry at q
  cases hμ : S.μ.isSome with
  | false => rw [hμ, if_neg Bool.false_ne_true] at q; exact q.elim
  | true =>
    rw [hμ, if_pos rfl] at q
    obtain ⟨W0', Cm, Co, g, hW, ro, pc⟩ := AsnC.splitS (R0 := []) a
    have join : ∀ {R1 : Roots} {S' : AS} {σ' : L2.St} {H' : Hp}, S'.μ.isSome = true → Asn X.K X.mg ⟨H, Z, η, W0'⟩ R1 S' σ' H' → Asn X.K X.mg F (R1 ++ R) S' σ' H' := fun {R1 S' σ' H'} z ⟨Z', η', C', b⟩ => by
      obtain ⟨C2, b2⟩ := AsnC.joinS (R0 := []) a hW ro pc b (z.trans hμ.symm)
      exact ⟨Z', η', C2, b2⟩
    refine ⟨⟨H, Z, η, W0'⟩, [], S, ⟨Z, η, Cm, g⟩, ?_⟩
    cases em : m S with
    | no => rw [em] at q; exact q
    | nx S1 =>
      rw [em] at q
      obtain ⟨q, z⟩ := muOut_cases q
      exact fun σ' H' b => q σ' H' (join z b)
    | bk S1 =>
      rw [em] at q
      obtain ⟨q, z⟩ := muOut_cases q
      exact fun σ' H' b => q σ' H' (join z b)
    | ct S1 =>
      rw [em] at q
      obtain ⟨q, z⟩ := muOut_cases q
      exact fun σ' H' b => q σ' H' (join z b)
    | rt x S1 =>
      rw [em] at q
      obtain ⟨q, z⟩ := muOut_cases q
      exact fun v σ' H' b => q v σ' H' (join (R1 := [(x, v)]) z b)
    | ex c fl S1 =>
      rw [em] at q
      simp only at q
      intro σ1 H1 cls d xa
      have go : ∀ {hds : List ExceptHandler} {l : List (Value × Option Nat × TSx)} {hs : List Hd}, HdsA X hds l hs → Post X.K X.mg F W R Dn (muOut (runH hs c fl S1)) → wManyA X.K W Dn l cls d σ1 H1 := by
        intro hds l hs hk
        have yes : ∀ {i : Option Nat} {M : Nat → Str → List (Str × D) → XS} {cs : List (Str × Bool)} {r : List Hd}, cs.lookup c = some true → Post X.K X.mg F W R Dn (muOut (runH (⟨cs, i, M⟩ :: r) c fl S1)) → ∀ a, H1 a = none →
            tsOf X.K X.mg M a cls d { nx := fun σ' H' => Dn.nx (i.elim σ' fun i => σ'.set i none) H', rt := Dn.rt, bk := fun σ' H' => Dn.bk (i.elim σ' fun i => σ'.set i none) H', ct := fun σ' H' => Dn.ct (i.elim σ' fun i => σ'.set i none) H' } (i.elim σ1 fun i => σ1.set i (some (.ref a))) H1 := fun {i M cs r} ec q a0 ha0 => by
          unfold runH at q
          simp only [ec] at q
          cases hμ1 : S1.μ with
          | none => simp only [hμ1] at q; exact q.elim
          | some μ =>
            simp only [hμ1] at q
            obtain ⟨Z1, η1, C1, b1, hcl, hdd⟩ := xa
            have b2 := b1.toSuite (a := a0) (i := i) hμ1
            have ml : μ.length = η1.length := by have := b1.ml; rw [hμ1] at this; exact this
            have hη : (η1 ++ [a0])[μ.length]? = some a0 := by rw [ml, List.getElem?_append_right (Nat.le_refl _), Nat.sub_self]; rfl
            have out : ∀ {R1 : Roots} {S' : AS} {σ' : L2.St} {H' : Hp}, S'.μ.isSome = true → Asn X.K X.mg ⟨H, Z1, η1 ++ [a0], W0'⟩ R1 S' σ' H' → Asn X.K X.mg F (R1 ++ R) (clrO i S') (i.elim σ' fun i => σ'.set i none) H' := fun {R1 S' σ' H'} z ⟨Z', η', C', b⟩ =>
              clrO_asn (join z ⟨Z', η', C', AsnC.ofSuite (F := ⟨H, Z, η, W0'⟩) b1 b z⟩)
            refine ⟨_, μ.length, c, fl, ⟨hη, hcl, ?_⟩, [], _, b2, ?_⟩
            · cases d with
              | none => exact hdd
              | some d =>
                obtain ⟨fs, e1, e2⟩ := hdd
                refine ⟨fs, e1, ?_⟩
                have mono : ∀ {fl : List (Str × D)} {fs : List (Str × V)}, RepX X.K X.mg Z1 η1 fl fs → RepX X.K X.mg Z1 (η1 ++ [a0]) fl fs := fun {fl fs} h => by
                  induction h with
                  | nil => exact .nil
                  | cons r _ ih => exact .cons (r.mono (Same.refl _) (List.prefix_append _ _)) ih
                exact mono e2
            · cases eo : M μ.length c fl (setO i μ.length S1 (μ ++ [.d .exn])) with
              | no => rw [eo] at q; exact q
              | ex c' fl' S' => rw [eo] at q; exact q.elim
              | nx S' =>
                rw [eo] at q
                obtain ⟨q, z⟩ := muOut_cases q
                replace z : S'.μ.isSome = true := by
                  have z' : (clrO i S').μ.isSome = true := z
                  rwa [clrO_mu] at z'
                exact fun σ' H' b => q _ H' (out z b)
              | bk S' =>
                rw [eo] at q
                obtain ⟨q, z⟩ := muOut_cases q
                replace z : S'.μ.isSome = true := by
                  have z' : (clrO i S').μ.isSome = true := z
                  rwa [clrO_mu] at z'
                exact fun σ' H' b => q _ H' (out z b)
              | ct S' =>
                rw [eo] at q
                obtain ⟨q, z⟩ := muOut_cases q
                replace z : S'.μ.isSome = true := by
                  have z' : (clrO i S').μ.isSome = true := z
                  rwa [clrO_mu] at z'
                exact fun σ' H' b => q _ H' (out z b)
              | rt x S' =>
                rw [eo] at q
                obtain ⟨q, z⟩ := muOut_cases q
                replace z : S'.μ.isSome = true := by
                  have z' : (clrO i S').μ.isSome = true := z
                  rwa [clrO_mu] at z'
                exact fun v σ' H' b => q v _ H' (out (R1 := [(x, v)]) z b)
        induction hk with
        | nil =>
          intro q
          obtain ⟨q, z⟩ := muOut_cases q
          obtain ⟨Z1, η1, C1, b1, hcl, hdd⟩ := xa
          obtain ⟨C2, b2⟩ := AsnC.joinS (R0 := []) a hW ro pc b1 (Eq.trans z hμ.symm)
          have b3 : AsnC X.K X.mg F ([] ++ R) S1 σ1 H1 Z1 η1 C2 := b2
          obtain ⟨C3, b4⟩ := b3.perm (S' := S1) (σ' := σ1) (R' := []) (E := R) b3.sl b3.ml (by simp)
          exact q σ1 H1 cls d ⟨Z1, η1, C3, b4, hcl, hdd⟩
        | @no x cv cs M b₀ suite np pos' hds2 l2 hs2 hc tb hsu r ih =>
          intro q
          obtain ⟨Ca, hm, ecls⟩ : ∃ Ca, X.mg c = some (.ref Ca) ∧ cls = .ref Ca := by obtain ⟨_, _, _, _, hcl, _⟩ := xa; exact hcl
          cases ec : cs.lookup c with
          | none => unfold runH at q; simp only [ec] at q; exact q.elim
          | some b =>
            refine ⟨b, by rw [ecls]; exact tb c b ec Ca hm, fun hb a0 ha0 => ?_, fun hb => ?_⟩
            · subst hb
              exact yes (i := none) ec q a0 ha0
            · subst hb
              unfold runH at q
              simp only [ec] at q
              exact ih q
        | @as x n i cv cs M b₀ suite np pos' hds2 l2 hs2 hi hln hc tb hsu r ih =>
          intro q
          obtain ⟨Ca, hm, ecls⟩ : ∃ Ca, X.mg c = some (.ref Ca) ∧ cls = .ref Ca := by obtain ⟨_, _, _, _, hcl, _⟩ := xa; exact hcl
          cases ec : cs.lookup c with
          | none => unfold runH at q; simp only [ec] at q; exact q.elim
          | some b =>
            refine ⟨b, by rw [ecls]; exact tb c b ec Ca hm, fun hb a0 ha0 => ?_, fun hb => ?_⟩
            · subst hb
              exact yes (i := some i) ec q a0 ha0
            · subst hb
              unfold runH at q
              simp only [ec] at q
              exact ih q
      exact go hh q

/-! ### the exception in its suite -/
/-- e.f, e the exception that the suite holds -/
def xExF (i n : Nat) (cs : List Str) (f c : Str) (fl : List (Str × D)) : XD := fun S => match S.v[i]? with
  | some (some (.d (.obj n'))) => if n' = n ∧ cs.contains c = true then match fl.lookup f with
    | some x => .ok x S
    | none => .no
    else .no
  | _ => .no
def HasX (K : PySem.W.Frag) (mg : Str → Option Value) (cs : List Str) (f : Str) : Prop := ∀ c ∈ cs, ∀ Ca, mg c = some (.ref Ca) → XfC K Ca ∧ PySem.W.findIn K (.ref Ca) f = some none
/-- isinstance(e, T) -/
def xExI (i n : Nat) (tb : List (Str × Bool)) (c : Str) : XD := fun S => match S.v[i]? with
  | some (some (.d (.obj n'))) => if n' = n then match tb.lookup c with
    | some b => .ok (.bl b) S
    | none => .no
    else .no
  | _ => .no
def TabI (K : PySem.W.Frag) (mg : Str → Option Value) (T : Str) (tb : List (Str × Bool)) : Prop := ∃ Ta, mg T = some (.ref Ta) ∧ ∀ c b, tb.lookup c = some b → ∀ Ca, mg c = some (.ref Ca) → ExcC K Ca ∧ PySem.W.kitOne K (.ref Ca) (.ref Ta) = some b
theorem RepX.look {K : PySem.W.Frag} {mg : Str → Option Value} {Z : Hp} {η : List Addr} {f : Str} {x : D} : ∀ {fl : List (Str × D)} {fs : List (Str × V)}, RepX K mg Z η fl fs → fl.lookup f = some x → ∃ v, fs.lookup f = some v ∧ Rep K mg Z η x v
  | _, _, .nil, e => by simp [List.lookup] at e
  | (k, y) :: fl, (_, w) :: fs, .cons r rr, e => by
    rw [List.lookup_cons] at e ⊢
    cases q : f == k with
    | true =>
      rw [q] at e
      simp only at e ⊢
      cases e
      exact ⟨w, rfl, r⟩
    | false =>
      rw [q] at e
      simp only at e ⊢
      exact RepX.look rr e
section
variable {X : Cx} {F : Frm} {W : WX} {n : Nat} {c : Str} {fl : List (Str × D)} {a : Addr} {oe : Obj} {cls : Value} {d : Option Addr} {pn : List (Addr × Obj)}
theorem e_exf {x f : Str} {p1 pos : Pos} {cs : List Str} (i : Nat) (sf : SF X.K X.mg F n a c fl cls d) (hz : Zc cls d oe) (hf : ∃ vs, oe.data = .fields vs) (hx : HasX X.K X.mg cs f) (hN : X.N[i]? = some x := by rfl) (hv : Vis X.env.scope x := by first | exact Or.inl rfl | exact Or.inr (Or.inl rfl) | exact Or.inr (Or.inr rfl)) (hd : (x == ("__debug__" : Str)) = false := by decide)
    (hcd : (x == ("__classdict__" : Str)) = false := by decide) (hb : attributeBase (.Name x p1) f X.env (eval (.Name x p1) X.env) = eval (.Name x p1) X.env := by rfl) : E_ (X.suite a ((a, oe) :: pn)) F W (.Attribute (.Name x p1) f pos) true (xExF i n cs f c fl) := by
  obtain ⟨Ca, hm, ecls⟩ := sf.hc
  by_cases hc : cs.contains c = true
  · obtain ⟨xf, hno⟩ := hx c (List.contains_iff_mem.mp hc) Ca hm
    have hev : PE (X.suite a ((a, oe) :: pn)) (.Name x p1) (tVar i) := pe_var hN hv hd hcd
    refine PE.imp (pe_xf (X := X) (C := Ca) xf hno hz hf hev hb) fun σ H Q h => ?_
    obtain ⟨R, S, A, q⟩ := h
    unfold xExF at q
    cases e : S.v[i]? with
    | none => simp only [e] at q
    | some o =>
      cases o with
      | none => simp only [e] at q
      | some o =>
        cases o with
        | d o =>
          cases o with
          | obj n' =>
            simp only [e] at q
            by_cases hn : n' = n
            · subst hn
              rw [if_pos ⟨rfl, hc⟩] at q
              cases el : fl.lookup f with
              | none => simp only [el] at q
              | some y =>
                simp only [el] at q
                obtain ⟨v, ev, A2⟩ := A.slot e
                obtain ⟨Z, η, C, A3⟩ := A2
                obtain ⟨r, A4⟩ := A3.takeD
                cases r with
                | obj hη =>
                  have h0 := pre_get A4.e0 sf.hn
                  rw [hη] at h0; cases h0
                  have hd' := sf.hd
                  cases d with
                  | none => rw [show fl = [] from hd'] at el; simp [List.lookup] at el
                  | some dd =>
                    obtain ⟨fs, e1, e2⟩ := hd'
                    obtain ⟨w, ew, rw'⟩ := RepX.look e2 el
                    refine ⟨_, ev, rfl, ecls, dd, fs, w, rfl, A4.zh _ _ (A4.z0 _ _ e1), ew, q w H (fun _ => Same.refl H) ⟨Z, η, C, A4.addD (rw'.mono A4.z0 A4.e0)⟩⟩
            · rw [if_neg (fun z => hn z.1)] at q; exact q.elim
          | _ => simp only [e] at q
        | _ => simp only [e] at q
  · refine ⟨fun pins s σ H Q I h => ?_⟩
    obtain ⟨R, S, A, q⟩ := h
    have z : xExF i n cs f c fl S = .no := by
      unfold xExF
      split
      · exact if_neg fun z => hc z.2
      · rfl
    rw [z] at q
    exact q.elim
def rIsEd (K : PySem.W.Frag) (D a : Addr) (d : Option Addr) : List V → Hp → VK → Prop := fun xs H Q => ∃ (c : V) (cv : Value) (b : Bool), xs = [.ref a, c] ∧ (∀ u, RelV c u → u = cv) ∧ PySem.W.kitOne K (.ref D) cv = some b ∧ (∀ dd, d = some dd → ∃ fs, H dd = some (.xd fs)) ∧ Q (.bl b) H
theorem call_isEd {D : Addr} (C : ExcC X.K D) (hz : Zc (.ref D) d oe) (hf : ∃ vs, oe.data = .fields vs) : CallR (X.suite a ((a, oe) :: pn)) (.builtin "isinstance") (rIsEd X.K D a d) := by
  intro pins s σ H xs us Q I r h
  obtain ⟨c, cv, b, rfl, hcv, e, hdd, q⟩ := h
  cases r with
  | cons rx rr =>
    cases rr with
    | cons rt rr =>
      cases rr
      cases rx
      have ec := hcv _ rt
      subst ec
      obtain ⟨hget, _⟩ := I.pin (a, oe) (List.mem_append.mpr (.inl List.mem_cons_self))
      obtain ⟨vs, hv⟩ := hf
      have J : ∃ od, PySem.W.InstAt s.heap a oe D od := by
        cases d with
        | none =>
          refine ⟨none, hget, hz.1, by unfold PySem.W.notCls; rw [hv] <;> rfl, by rw [hz.2]; trivial⟩
        | some dd =>
          obtain ⟨fs, ea⟩ := hdd dd rfl
          have hx : ObjOk X.prog X.w H s.heap dd (.xd fs) := I.hok dd _ ea
          obtain ⟨mA, hns, hr⟩ := hx
          obtain ⟨od, ho, hl⟩ := lookIn_ns hns
          exact ⟨some od, hget, hz.1, by unfold PySem.W.notCls; rw [hv] <;> rfl, by rw [hz.2]; exact ho⟩
      obtain ⟨od, J⟩ := J
      exact PySem.W.kia_one (PySem.W.mi_kitx C.hg C.hk C.hs C.hd C.ha C.hn C.ht C.hm) I.kIn J e (fun z => nomatch z) fun tk => ⟨.bl b, H, I.kept (t' := tk) fun _ _ z => z, rfl, q⟩
theorem e_exi {x T : Str} {p0 p1 p2 pos : Pos} {tb : List (Str × Bool)} (i : Nat) (sf : SF X.K X.mg F n a c fl cls d) (hz : Zc cls d oe) (hf : ∃ vs, oe.data = .fields vs) (ht : TabI X.K X.mg T tb) (hm : X.mg "isinstance" = none) (hN : X.N[i]? = some x := by rfl) (hg : Gl X "isinstance" := by rfl) (hgT : Gl X T := by rfl) (hv : Vis X.env.scope x := by first | exact Or.inl rfl | exact Or.inr (Or.inl rfl) | exact Or.inr (Or.inr rfl)) (hd : (x == ("__debug__" : Str)) = false := by decide)
    (hcd : (x == ("__classdict__" : Str)) = false := by decide) (hdT : (T == ("__debug__" : Str)) = false := by decide)
    (h1 : starEach [.Name x p1, .Name T p2] X.env = (false, eval (.Name x p1) X.env) :: starEach [.Name T p2] X.env := by rfl) (h2 : starEach [.Name T p2] X.env = (false, eval (.Name T p2) X.env) :: starEach [] X.env := by rfl)
    (hpl : (backTo pos (starEach [.Name T p2] X.env)).any (·.1) = false := by rfl) : E_ (X.suite a ((a, oe) :: pn)) F W (.Call (.Name "isinstance" p0) [.Name x p1, .Name T p2] [] pos) true (xExI i n tb c) := by
  obtain ⟨Ca, hmc, ecls⟩ := sf.hc
  obtain ⟨Ta, hmT, htb⟩ := ht
  cases et : tb.lookup c with
  | none =>
    refine ⟨fun pins s σ H Q I h => ?_⟩
    obtain ⟨R, S, A, q⟩ := h
    have z : xExI i n tb c S = .no := by
      unfold xExI
      split
      · rw [et]
        split <;> rfl
      · rfl
    rw [z] at q
    exact q.elim
  | some b =>
    obtain ⟨hC, hk⟩ := htb c b et Ca hmc
    subst ecls
    have hev : PE (X.suite a ((a, oe) :: pn)) (.Name x p1) (tVar i) := pe_var hN hv hd hcd
    have heT : PE (X.suite a ((a, oe) :: pn)) (.Name T p2) (tC (.ref Ta)) := pe_glob hgT hmT rfl hdT
    refine PE.imp (pe_callB (call_isEd hC hz hf) hg hm (by decide +kernel) (pa_cons hev (pa_cons heT pa_nil h2) h1) (by decide) (by decide) h1 hpl) fun σ H Q h => ?_
    obtain ⟨R, S, A, q⟩ := h
    unfold xExI at q
    cases e : S.v[i]? with
    | none => simp only [e] at q
    | some o =>
      cases o with
      | none => simp only [e] at q
      | some o =>
        cases o with
        | d o =>
          cases o with
          | obj n' =>
            simp only [e, et] at q
            by_cases hn : n' = n
            · subst hn
              rw [if_pos rfl] at q
              obtain ⟨v, ev, A2⟩ := A.slot e
              obtain ⟨Z, η, C, A3⟩ := A2
              obtain ⟨r, A4⟩ := A3.takeD
              cases r with
              | obj hη =>
                have h0 := pre_get A4.e0 sf.hn
                rw [hη] at h0; cases h0
                refine ⟨_, ev, .ref Ta, .ref Ta, b, rfl, fun u ru => ru, hk, fun dd edd => ?_, q _ H (fun _ => Same.refl H) ⟨Z, η, C, A4.addD .bl⟩⟩
                have hd' := sf.hd
                subst edd
                obtain ⟨fs, e1, _⟩ := hd'
                exact ⟨fs, A4.zh _ _ (A4.z0 _ _ e1)⟩
            · rw [if_neg hn] at q; exact q.elim
          | _ => simp only [e] at q
        | _ => simp only [e] at q
end
/-- isinstance(o, T), o an object of the text -/
def xIsO (tb : List (Str × Bool)) (A : XD) : XD := fun S => (A S).bind fun x S1 => match x with
  | .obj n => match nodeAt S1 n with
    | some (.ins c _) => match tb.lookup c with
      | some b => .ok (.bl b) S1
      | none => .no
    | _ => .no
  | _ => .no
structure InsC (K : PySem.W.Frag) (C : Addr) : Prop where
  cl : Cls K C
  ha : PySem.W.findIn K (.ref C) "__class__" = some (some (.builtin "object.__class__"))
  hn : PySem.W.specialIn K (.builtin "object.__class__") "__get__" = some (some (.builtin "getset_descriptor.__get__"))
  ht : PySem.W.takesIn K (.builtin "object.__class__") = some true
  hm : PySem.W.mroIn K C (.type "object") = some true
def TabO (K : PySem.W.Frag) (mg : Str → Option Value) (T : Str) (tb : List (Str × Bool)) : Prop := ∃ Ta, mg T = some (.ref Ta) ∧ ∀ c b, tb.lookup c = some b → ∀ Ca, mg c = some (.ref Ca) → InsC K Ca ∧ PySem.W.kitOne K (.ref Ca) (.ref Ta) = some b
section
variable {X : Cx} {F : Frm} {W : WX} {p : Bool} {e : Expr} {A : XD} {T : Str} {p0 q0 pos : Pos} {tb : List (Str × Bool)}
theorem e_isO (ha : E_ X F W e p A) (ht : TabO X.K X.mg T tb) (hm : X.mg "isinstance" = none) (hg2 : Gl X T := by rfl) (hg : Gl X "isinstance" := by rfl) (hdb : (T == ("__debug__" : Str)) = false := by decide)
    (h1 : starEach [e, .Name T q0] X.env = (false, eval e X.env) :: starEach [.Name T q0] X.env := by rfl) (h2 : starEach [.Name T q0] X.env = (false, eval (.Name T q0) X.env) :: starEach [] X.env := by rfl)
    (hpl : (backTo pos (starEach [.Name T q0] X.env)).any (·.1) = false := by rfl) : E_ X F W (.Call (.Name "isinstance" p0) [e, .Name T q0] [] pos) p (xIsO tb A) := by
  obtain ⟨Ta, hmT, htb⟩ := ht
  refine PE.imp (pe_callB call_isi hg hm (by decide +kernel) (pa_cons ha (pa_cons (pe_glob (v := .ref Ta) hg2 hmT rfl hdb) pa_nil h2) h1) (by decide) (by decide) h1 hpl) fun σ H Q h => ?_
  refine rd_elim h fun R S x S' a e q v H1 s1 a1 => ?_
  cases x with
  | obj n =>
    simp only at q
    cases en : nodeAt S' n with
    | none => simp only [en] at q
    | some nd =>
      cases nd with
      | ins c fl =>
        simp only [en] at q
        cases el : tb.lookup c with
        | none => simp only [el] at q
        | some b =>
          simp only [el] at q
          obtain ⟨Z, η, Cl', a2⟩ := a1
          have q' := fun a' => q (.bl b) H1 s1 a'
          obtain ⟨r, a3⟩ := a2.takeD
          cases r with
          | @obj _ ad hη =>
            obtain ⟨a', rest, C1, C2, hη', rn, _, pc, _⟩ := a2.node en
            rw [hη] at hη'; cases hη'
            cases rn with
            | @ins _ _ fs _ dx Ca C3 hmg rf =>
              obtain ⟨hC, hk⟩ := htb c b el Ca hmg
              have hH := (a2.cw _ (pc.mem_iff.mpr (List.mem_append_left _ List.mem_cons_self))).1
              exact ⟨.ref ad, .ref Ta, .ref Ca, .ref Ta, b, rfl, .own Ta, .base (.ins hH hC.cl hC.ha hC.hn hC.ht hC.hm), hk, q' ⟨Z, η, _, a3.addD .bl⟩⟩
      | _ => simp only [en] at q
  | _ => exact q.elim
end
end Mi
end
section
set_option Elab.async false
set_option linter.all false
set_option maxRecDepth 100000
set_option maxHeartbeats 2000000
/-! Mi16: own lists behind handles; own results of built-ins; comprehensions over own lists and empty dicts; what is never come to. -/
namespace Mi
open PySem PySem.Spec PyProof.Rows L2

/-! ### handles of own lists -/
def xLo (A : XD) : XL := fun S => (A S).bind fun x S1 => match x with
  | .obj n => .ok (.nd n) S1
  | _ => .no
/-- an own list becomes a node -/
def adopt (x : OD) (S : AS) : Rs D := match x, S.μ with
  | .own xs, some μ => .ok (.obj μ.length) ⟨S.v, some (μ ++ [.own xs])⟩
  | _, _ => .no
def xAd (A : XO) : XD := fun S => (A S).bind adopt
section
variable {K : PySem.W.Frag} {mg : Str → Option Value} {F : Frm} {R : Roots} {S S' : AS} {σ : L2.St} {H : Hp}
theorem Asn.adopt {x : OD} {y : D} {v : V} (h : Asn K mg F ((x, v) :: R) S σ H) (e : Mi.adopt x S = .ok y S') : Asn K mg F ((.d y, v) :: R) S' σ H := by
  unfold Mi.adopt at e
  cases x with
  | own xs =>
    cases hμ : S.μ with
    | none => simp only [hμ] at e; cases e
    | some μ =>
      simp only [hμ] at e
      cases e
      obtain ⟨Z, η, C, h⟩ := h
      have ml : μ.length = η.length := by have := h.ml; rw [hμ] at this; exact this
      obtain ⟨C1, C2, ec, rx, _⟩ := h.rep.uncons
      obtain ⟨a, vs, Cx, rfl, _, _⟩ := rx.own_inv
      have hη : (η ++ [a])[μ.length]? = some a := by rw [ml, List.getElem?_append_right (Nat.le_refl _), Nat.sub_self]; rfl
      have r0 := h.rep.mono (Same.refl _) (List.prefix_append η [a])
      rw [hμ] at r0
      have e1 : mroots (some (μ ++ [OD.own xs])) (η ++ [a]) = mroots (some μ) η ++ [(OD.own xs, V.ref a)] := by
        show (μ ++ [OD.own xs]).zip ((η ++ [a]).map V.ref) = μ.zip (η.map V.ref) ++ _
        rw [List.map_append, List.zip_append (by simp [ml])]
        rfl
      obtain ⟨C3, r3, pc⟩ := r0.perm (R' := R ++ (sroots S.v σ ++ mroots (some (μ ++ [OD.own xs])) (η ++ [a]))) (by
        rw [e1]
        refine perm_count fun q => ?_
        simp only [List.count_append, List.count_cons, List.cons_append, List.count_nil]
        omega)
      refine ⟨Z, η ++ [a], C3, AsnC.addD ⟨h.z0, h.e0.trans (List.prefix_append _ _), h.zh, h.fr, h.zn, fun p hp => h.cw p (pc.mem_iff.mpr hp), (pc.map (·.1)).nodup_iff.mp h.nd, h.sl, ?_, r3⟩ (.obj hη)⟩
      show (μ ++ [OD.own xs]).length = (η ++ [a]).length
      simp [ml]
  | _ => cases hμ : S.μ <;> simp only [hμ] at e <;> cases e
end
section
variable {X : Cx} {F : Frm} {W : WX} {p : Bool} {e : Expr} {A : XO} {B : XD}
theorem e_adopt (h : EO_ X F W e p A) : E_ X F W e p (xAd A) := PE.imp h fun σ H Q q => by
  obtain ⟨R, S, a, q⟩ := q
  refine ⟨R, S, a, ?_⟩
  unfold xAd at q
  cases e : A S with
  | no => simp only [e, Rs.bind_no] at q
  | ex c fl S' => simp only [e, Rs.bind_ex] at q; exact q
  | ok x S' =>
    simp only [e, Rs.bind_ok] at q
    intro v H' s b
    cases e2 : adopt x S' with
    | no => simp only [e2] at q
    | ex c fl S2 =>
      unfold adopt at e2
      split at e2 <;> cases e2
    | ok y S2 =>
      simp only [e2] at q
      exact q v H' s (b.adopt e2)
theorem l_obj (h : E_ X F W e p B) : L_ X F W e p (xLo B) := PE.imp h fun σ H Q q => by
  obtain ⟨R, S, a, q⟩ := q
  refine ⟨R, S, a, ?_⟩
  unfold xLo at q
  cases e : B S with
  | no => simp only [e, Rs.bind_no] at q
  | ex c fl S' => simp only [e, Rs.bind_ex] at q; exact q
  | ok x S' =>
    simp only [e, Rs.bind_ok] at q
    intro v H' s b
    cases x with
    | obj n =>
      simp only at q
      have b2 := b
      obtain ⟨Z, η, C, b⟩ := b
      obtain ⟨r, _⟩ := b.takeD
      cases r with
      | @obj _ a0 hη => exact q (.ref a0) H' [(.d (.obj n), .ref a0)] s b2 ⟨a0, rfl, rfl⟩
    | _ => exact q.elim
end

/-! ### own results -/
def xOwn (A : XD) : XO := fun S => (A S).bind fun x S1 => match x with
  | .lst xs => .ok (.own (xs.map .d)) S1
  | _ => .no
/-- [..] * n, own -/
def gMulL : D → D → Option (List D)
  | .lst xs, .int j => match gMul (.lst xs) (.int j) with
    | some (.lst zs) => some zs
    | _ => none
  | _, _ => none
def xMulO (A B : XD) : XO := fun S => (A S).bind fun x S1 => (B S1).bind fun y S2 => match gMulL x y with
  | some zs => .ok (.own (zs.map .d)) S2
  | none => .no
def gList1 : D → Option (List D)
  | .lst xs => some xs
  | .scr xs => some xs
  | .tup xs => some xs
  | _ => none
/-- list(e), own -/
def xListO (A : XD) : XO := fun S => (A S).bind fun x S1 => match gList1 x with
  | some zs => .ok (.own (zs.map .d)) S1
  | none => .no
def xListOV (P : XL) : XO := fun S => (P S).bind fun pl S1 => match ((getP S1 pl).bind viewD).bind gList1 with
  | some zs => .ok (.own (zs.map .d)) S1
  | none => .no
section
variable {X : Cx} {F : Frm} {W : WX} {p p1 p2 : Bool} {e a b : Expr} {A B : XD} {P : XL} {pos : Pos}
theorem listR {R : Roots} {S : AS} {σ : L2.St} {H Z : Hp} {η : List Addr} {C : Cl} {x : D} {zs : List D} {v : V} {Q : VK} (h : AsnC X.K X.mg F R S σ H Z η C) (hx : RepT X.K X.mg H Z η x v) (e : gList1 x = some zs)
    (k : ∀ u H', Same H H' → Asn X.K X.mg F ((.own (zs.map .d), u) :: R) S σ H' → Q u H') : ∃ pa vs, v = .ref pa ∧ (SqL X.K H pa vs ∨ SqT X.K H pa vs) ∧ ∀ pp, H pp = none → Q (.ref pp) (upd H pp (.lst vs)) := by
  cases x with
  | lst xs =>
    simp only [gList1, Option.some.injEq] at e; subst e
    obtain ⟨pa, vx, rfl, ha, r⟩ := hx.isLst h.zh
    exact ⟨pa, vx, rfl, .inl (.of ha), fun pp hp => k _ _ (same_upd hp) (h.newOwn r hp)⟩
  | scr xs =>
    simp only [gList1, Option.some.injEq] at e; subst e
    obtain ⟨pa, vx, rfl, ha, r⟩ := hx.isScr h.zh
    exact ⟨pa, vx, rfl, .inl ha, fun pp hp => k _ _ (same_upd hp) (h.newOwn r hp)⟩
  | tup xs =>
    simp only [gList1, Option.some.injEq] at e; subst e
    obtain ⟨pa, vx, rfl, ha, r, _⟩ := hx.isTup h.zh
    exact ⟨pa, vx, rfl, .inr ha, fun pp hp => k _ _ (same_upd hp) (h.newOwn r hp)⟩
  | _ => simp [gList1] at e
theorem eo_listV {x : Str} {p0 : Pos} (hm : X.mg x = none) (hv : bootBuiltins x = some (.type "list")) (ha : L_ X F W e p P) (hg : Gl X x := by rfl) (hn : x ≠ "__name__" := by decide) (hdb : (x == ("__debug__" : Str)) = false := by decide)
    (he : starEach [e] X.env = (false, eval e X.env) :: starEach [] X.env := by rfl) (hpl : (backTo pos (starEach [] X.env)).any (·.1) = false := by rfl) : EO_ X F W (.Call (.Name x p0) [e] [] pos) p (xListOV P) := by
  refine PE.imp (pe_callTy call_list_of hg hm hv (pa_cons ha pa_nil he) hn hdb he hpl) fun σ H Q h => ?_
  obtain ⟨R, S, a, q⟩ := h
  refine ⟨R, S, a, ?_⟩
  unfold xListOV at q
  cases e : P S with
  | no => simp only [e, Rs.bind_no] at q
  | ex c fl S' => simp only [e, Rs.bind_ex] at q; exact q
  | ok pl S1 =>
    simp only [e, Rs.bind_ok] at q
    intro v H1 T s1 a1 vp
    cases e2 : (getP S1 pl).bind viewD with
    | none => simp only [e2, Option.bind_none] at q
    | some x =>
      simp only [e2, Option.bind_some] at q
      cases e3 : gList1 x with
      | none => simp only [e3] at q
      | some zs =>
        simp only [e3] at q
        obtain ⟨o, e4, e5⟩ := bind_view e2
        obtain ⟨Z, η, C, a2⟩ := a1
        obtain ⟨pa, vs, rfl, hs, k⟩ := listR (Q := Q) a2 (a2.view vp e4 e5) e3 fun u H2 s2 a3 => q u H2 (fun hp => (s1 hp).trans s2) (Asn.dropN (R0 := T) (a3.tperm List.perm_middle.symm))
        exact ⟨pa, vs, rfl, hs, k⟩
theorem eo_list {x : Str} {p0 : Pos} (hm : X.mg x = none) (hv : bootBuiltins x = some (.type "list")) (ha : E_ X F W e p A) (hg : Gl X x := by rfl) (hn : x ≠ "__name__" := by decide) (hdb : (x == ("__debug__" : Str)) = false := by decide)
    (he : starEach [e] X.env = (false, eval e X.env) :: starEach [] X.env := by rfl) (hpl : (backTo pos (starEach [] X.env)).any (·.1) = false := by rfl) : EO_ X F W (.Call (.Name x p0) [e] [] pos) p (xListO A) := by
  refine PE.imp (pe_callTy call_list_of hg hm hv (pa_cons ha pa_nil he) hn hdb he hpl) fun σ H Q h => ?_
  obtain ⟨R, S, a, q⟩ := h
  refine ⟨R, S, a, ?_⟩
  unfold xListO at q
  cases e : A S with
  | no => simp only [e, Rs.bind_no] at q
  | ex c fl S' => simp only [e, Rs.bind_ex] at q; exact q
  | ok x S1 =>
    simp only [e, Rs.bind_ok] at q
    intro v H1 s1 a1
    cases e3 : gList1 x with
    | none => simp only [e3] at q
    | some zs =>
      simp only [e3] at q
      obtain ⟨Z, η, C, a2⟩ := a1
      obtain ⟨r, a3⟩ := a2.takeD
      obtain ⟨pa, vs, rfl, hs, k⟩ := listR (Q := Q) a3 (.of r) e3 fun u H2 s2 a3 => q u H2 (fun hp => (s1 hp).trans s2) a3
      exact ⟨pa, vs, rfl, hs, k⟩
theorem eo_mul (ha : E_ X F W a p1 A) (hb : E_ X F W b p2 B) : EO_ X F W (.BinOp a .Mult b pos) (p1 && p2) (xMulO A B) := by
  refine PE.imp (pe_op op_rep ha hb) fun σ H Q h => ?_
  obtain ⟨R, S, a, q⟩ := h
  refine ⟨R, S, a, ?_⟩
  unfold xMulO at q
  cases e : A S with
  | no => simp only [e, Rs.bind_no] at q
  | ex c fl S' => simp only [e, Rs.bind_ex] at q; exact q
  | ok x S1 =>
    simp only [e, Rs.bind_ok] at q
    intro v H1 s1 a1
    refine ⟨_, _, a1, ?_⟩
    cases e2 : B S1 with
    | no => simp only [e2, Rs.bind_no] at q
    | ex c fl S2 => simp only [e2, Rs.bind_ex] at q; exact q
    | ok y S2 =>
      simp only [e2, Rs.bind_ok] at q
      intro w H2 s2 a2
      cases e3 : gMulL x y with
      | none => simp only [e3] at q
      | some zs =>
        simp only [e3] at q
        obtain ⟨Z, η, C, b⟩ := a2
        obtain ⟨ry, b1⟩ := b.takeD
        obtain ⟨rx, b2⟩ := b1.takeD
        cases x with
        | lst xs =>
          cases y with
          | int j =>
            obtain rfl := RepT.isInt (H := H2) (.of ry)
            obtain ⟨pa, vx, rfl, ha, rxs⟩ := RepT.isLst (H := H2) b2.zh (.of rx)
            simp only [gMulL, gMul] at e3
            split at e3
            · rename_i zs' hz
              simp only [Option.some.injEq] at e3; subst e3
              split at hz
              · rename_i hl
                simp only [Option.some.injEq, D.lst.injEq] at hz; subst hz
                refine ⟨_, j, _, rfl, rfl, ha, hl.2.1, hl.2.2, by rw [← rxs.length]; exact hl.1, fun p hp => ?_⟩
                refine q _ _ (fun z => ?_) (b2.newOwn (reps_flat rxs _) hp)
                rw [Bool.and_eq_true] at z
                exact (s1 z.1).trans ((s2 z.2).trans (same_upd hp))
              · cases hz
            · cases e3
          | _ => simp [gMulL] at e3
        | _ => simp [gMulL] at e3
end

/-! ### what is never come to -/
section
variable {X : Cx} {F : Frm} {W : WX}
def xNo {α : Type} : AS → Rs α := fun _ => .no
theorem e_no {e : Expr} : E_ X F W e true xNo := ⟨fun pins s σ H Q I h => by
  obtain ⟨R, S, a, q⟩ := h
  exact q.elim⟩
theorem eo_no {e : Expr} : EO_ X F W e true xNo := ⟨fun pins s σ H Q I h => by
  obtain ⟨R, S, a, q⟩ := h
  exact q.elim⟩
theorem t_no {e : Expr} : ET_ X F W e true xNo := ⟨fun pins s σ H Q I h => by
  obtain ⟨R, S, a, q⟩ := h
  exact q.elim⟩
theorem w_no {e : Expr} : EW_ X F W e true xNo := ⟨fun wh pins s σ H Q I h => by
  obtain ⟨R, S, a, q⟩ := h
  exact q.elim⟩
def sNo : XS := fun _ => .no
theorem s_no {e : Stmt} : S_ X F W e sNo := ⟨fun pins s σ H D I h => by
  obtain ⟨R, S, a, q⟩ := h
  exact q.elim⟩
theorem ss_no {e : List Stmt} : SS_ X F W e sNo := ⟨fun pins s σ H D I h => by
  obtain ⟨R, S, a, q⟩ := h
  exact q.elim⟩
end

/-! ### a comprehension over an empty dict -/
def xComp0 (i : Nat) : XO := fun S => match S.v[i]? with
  | some (some (.d (.dct []))) => .ok (.own []) S
  | _ => .no
section
variable {X : Cx} {F : Frm} {W : WX} {elt tg : Expr} {ifs : List Expr} {scope : Scope} {x : Str} {xp pos : Pos}
theorem eo_comp0 (i : Nat) (own : List (Str × Nat)) (hc : X.calm = true) (hN : X.N.Nodup) (ok : BlkOk X.N X.env.scope scope own) (hi : X.N[i]? = some x := by rfl) (hv : Vis X.env.scope x := by first | exact Or.inl rfl | exact Or.inr (Or.inl rfl) | exact Or.inr (Or.inr rfl)) (hd : (x == ("__debug__" : Str)) = false := by decide)
    (hcd : (x == ("__classdict__" : Str)) = false := by decide) (hs : ∀ y, foldedSetIterable (.Name x xp) X.env y = pure y := by intro _; rfl) :
    EO_ X F W (.ListComp elt [⟨tg, .Name x xp, ifs, 0⟩] scope pos) true (xComp0 i) := by
  have base := pe_lock (pe_lc (g := fun _ _ _ _ => False) (tt := fun _ _ _ => False) (te := fun _ _ _ => False) (elt := elt) (ifs := ifs) (pos := pos) hc hN (pi_keys (tg := tg) (pe_var (pos := xp) hi hv hd hcd)) ok (fun _ _ _ _ _ => ⟨fun _ _ _ _ _ _ _ _ _ h => h.elim⟩) (fun _ _ _ _ _ => ⟨fun _ _ _ _ _ _ h => h.elim⟩) (fun _ _ _ _ _ => ⟨fun _ _ _ _ _ _ h => h.elim⟩) hs)
  refine PE.imp base fun σ H Q h => ?_
  obtain ⟨R, S, a, q⟩ := h
  unfold xComp0 at q
  cases e : S.v[i]? with
  | none => simp only [e] at q
  | some o =>
    cases o with
    | none => simp only [e] at q
    | some o =>
      cases o with
      | d y =>
        cases y with
        | dct kvs =>
          cases kvs with
          | nil =>
            simp only [e] at q
            obtain ⟨v, ev, a1⟩ := a.slot e
            obtain ⟨Z, η, C, a2⟩ := a1
            obtain ⟨r, a3⟩ := a2.takeD
            cases r with
            | @dct _ kws ad hz rk =>
              cases rk
              have hd0 := a3.zh _ _ hz
              refine ⟨ad, _, hd0, True.intro, fun od => ⟨_, ev, ad, od, rfl, .inl ⟨[], upd_same, fun Dn hD => ?_⟩⟩⟩
              have ne : Dn ≠ ad := fun z => by rw [z, upd_same] at hD; cases hD
              have hD0 : H Dn = none := by rwa [upd_ne ne] at hD
              refine ⟨fun k m H' => H' = upd (upd H ad (.frz od (.dK []))) Dn (.lst []) ∧ k = 0, ⟨0, rfl, rfl⟩, fun k m H' ⟨eH, ek⟩ => .inl ⟨?_, ?_⟩⟩
              · subst eH
                exact ⟨by rw [upd_ne (Ne.symm ne), upd_same], Nat.zero_le _⟩
              · subst eH
                refine ⟨by rw [upd_ne (Ne.symm ne), upd_same], ?_⟩
                have eq : upd (upd (upd H ad (.frz od (.dK []))) Dn (.lst [])) ad (.dK []) = upd H Dn (.lst []) := by
                  funext b
                  by_cases h1 : b = ad
                  · subst h1; rw [upd_same, upd_ne (Ne.symm ne)]; exact hd0.symm
                  · rw [upd_ne h1]
                    by_cases h2 : b = Dn
                    · subst h2; rw [upd_same, upd_same]
                    · rw [upd_ne h2, upd_ne h1, upd_ne h2]
                rw [eq]
                exact q _ _ (fun _ => same_upd hD0) (a3.newOwn (xs := []) .nil hD0)
          | cons _ _ => simp only [e] at q
        | _ => simp only [e] at q
      | _ => simp only [e] at q
end

/-! ### a comprehension over an own list that is looked at -/
structure SrcV (K : PySem.W.Frag) (mg : Str → Option Value) (F : Frm) (H0 : Hp) (J : It) (xs : List D) (R : Roots) : Prop where
  stop : ∀ (i : Nat) S σ H, Same H0 H → Asn K mg F R S σ H → xs.length ≤ i → J.stop i H
  go : ∀ (i : Nat) S σ H, Same H0 H → Asn K mg F R S σ H → i < xs.length → J.go i H
  yld : ∀ (i : Nat) x R' S σ H v H', Same H0 H → Asn K mg F (R' ++ R) S σ H → xs[i]? = some x → J.yld i H v H' → Same H H' ∧ Asn K mg F ((.d x, v) :: (R' ++ R)) S σ H'
def RdIV (K : PySem.W.Frag) (mg : Str → Option Value) (F : Frm) (W : WX) (p : Bool) (I : XI) : TI := fun σ H Q => ∃ R S, Asn K mg F R S σ H ∧ match I S with
  | .ok xs S' => ∀ J H' T, (p = true → Same H H') → Asn K mg F (T ++ R) S' σ H' → SrcV K mg F H' J xs T → Q J H'
  | .ex c fl S' => ∀ H' cls d, ExA K mg F S' σ H' c fl cls d → W cls d σ H'
  | .no => False
abbrev IV_ (X : Cx) (F : Frm) (W : WX) (tg it : Expr) (p : Bool) (I : XI) : Prop := PI X tg it (RdIV X.K X.mg F W p I)
theorem rdCompV {K : PySem.W.Frag} {mg : Str → Option Value} {F : Frm} {W : WX} {p1 : Bool} {vs : List Nat} {I : XI} {c : CT} {T : XT} {A : XD} {σ : L2.St} {H : Hp} {Q : VK} (hv : ∀ i ∈ c.sl, i ∈ vs)
    (h : RdO K mg F W (p1 && true && true) (xComp vs I c T A) σ H Q) : tLc (RdIV K mg F W p1 I) (ctG K c) (RdT K mg F W0 true T) (Rd K mg F W0 true A) vs σ H Q := by
  obtain ⟨R, S, a, q⟩ := h
  refine ⟨R, S, a, ?_⟩
  unfold xComp at q
  cases e : I S with
  | no => simp only [e, Rs.bind_no] at q
  | ex c fl S' => simp only [e, Rs.bind_ex] at q; exact q
  | ok xs S1 =>
    simp only [e, Rs.bind_ok] at q
    intro J H1 Tr s1 a1 src A0 hA0
    -- what is wanted at the end
    let PC : Rs (List D) → Prop := fun r => match r with
      | .ok ys S' => ∀ H', ((p1 && true && true) = true → Same H H') → Asn K mg F ((.own (ys.map .d), .ref A0) :: R) S' σ H' → Q (.ref A0) H'
      | _ => False
    have q0 : PC (xCompL vs c T A xs [] (clr vs S1)) := by
      show match xCompL vs c T A xs [] (clr vs S1) with
        | .ok ys S' => ∀ H', ((p1 && true && true) = true → Same H H') → Asn K mg F ((.own (ys.map .d), .ref A0) :: R) S' σ H' → Q (.ref A0) H'
        | _ => False
      cases e2 : xCompL vs c T A xs [] (clr vs S1) with
      | no => simp only [e2] at q
      | ex c fl S' => simp only [e2] at q
      | ok ys S2 => simp only [e2] at q; exact fun H' s a => q _ H' s a
    have sameA : ∀ {H2 : Hp} {o : HO}, ((true && true) = true → Same H1 H2) → ((true && true) = true → Same H1 (upd H2 A0 o)) := fun {H2 o} s z b u e => by
      rw [upd_ne (ne_of_none e hA0)]; exact s z b u e
    have fin : ∀ {H2 : Hp}, ((true && true) = true → Same H1 H2) → ((p1 && true && true) = true → Same H H2) := fun {H2} s z => by
      rw [Bool.and_assoc, Bool.and_eq_true] at z
      exact (s1 z.1).trans (s z.2)
    refine ⟨fun i k H => k = xs.length - i ∧ i ≤ xs.length ∧ ((true && true) = true → Same H1 H) ∧ ∃ S acc, Asn K mg F ((.own (acc.map .d), .ref A0) :: (Tr ++ R)) (clr vs S) σ H ∧ PC (xCompL vs c T A (xs.drop i) acc (clr vs S)),
      ⟨_, rfl, Nat.zero_le _, fun _ => same_upd hA0, S1, [], ?_, by rw [List.drop_zero]; exact q0⟩, ?_⟩
    · obtain ⟨Z, η, C, b⟩ := a1.clr vs
      exact b.newOwn .nil hA0
    rintro i k H2 ⟨rfl, hi, s2, S2, acc, a2, q2⟩
    have aT : ∀ {R' S σ H}, Asn K mg F (R' ++ (Tr ++ R)) S σ H → Asn K mg F ((R' ++ R) ++ Tr) S σ H := fun {R' S σ H} h => h.tperm (perm_count fun z => by
      simp only [List.count_append]; omega)
    have onlyT : ∀ {R' S σ H}, Asn K mg F (R' ++ Tr) S σ H → Asn K mg F Tr S σ H := fun {R' S σ H} h => Asn.dropN h
    have a3 := aT (R' := [(.own (acc.map .d), .ref A0)]) a2
    by_cases hlt : i < xs.length
    · refine .inr ⟨src.go i _ σ H2 (s2 rfl) (onlyT a3) hlt, ?_⟩
      have ed : xs.drop i = xs[i] :: xs.drop (i + 1) := List.drop_eq_getElem_cons hlt
      rw [ed] at q2
      refine ⟨fun H' => ((true && true) = true → Same H1 H') ∧ ∃ S acc, Asn K mg F ((.own (acc.map .d), .ref A0) :: (Tr ++ R)) (clr vs S) σ H' ∧ PC (xCompL vs c T A (xs.drop (i + 1)) acc (clr vs S)),
        fun H' ⟨s', S', acc', a', q'⟩ => ⟨xs.length - (i + 1), by omega, rfl, hlt, s', S', acc', a', q'⟩, fun v H3 y => ?_⟩
      obtain ⟨s3, a4⟩ := src.yld i xs[i] _ _ σ H2 v H3 (s2 rfl) a3 (by simp [hlt]) y
      have a5 : Asn K mg F ((.d xs[i], v) :: (([(.own (acc.map .d), .ref A0)] ++ R) ++ Tr)) (clr vs S2) (wipe σ vs) H3 := a4.rewipe (wipe_eq (by rw [wipe_length]) (fun j hj => wipe_out hj))
      simp only [xCompL] at q2
      cases e3 : xct c (.d xs[i]) (clr vs S2) with
      | no => simp only [e3] at q2; exact q2.elim
      | ex cc fl S' => simp only [e3] at q2; exact q2.elim
      | ok u S3 =>
        simp only [e3] at q2
        refine ct_ok c a5 e3 fun σ2 l2 o2 a6 => ?_
        have ew : wipe σ2 vs = wipe σ vs := by
          have z : wipe σ2 vs = wipe (wipe σ vs) vs := wipe_eq l2 fun j hj => o2 j fun z => hj (hv j z)
          rw [z]
          exact wipe_eq (by rw [wipe_length]) fun j hj => wipe_out hj
        refine ⟨ew, _, S3, a6, ?_⟩
        have out : ∀ {S' : AS} {acc' : List D} {H' : Hp}, Asn K mg F (([(.own (acc'.map .d), .ref A0)] ++ R) ++ Tr) S' σ2 H' → Asn K mg F ((.own (acc'.map .d), .ref A0) :: (Tr ++ R)) (clr vs S') σ H' := fun {S' acc' H'} h => by
          have z := (h.clr vs).rewipe ew.symm
          exact z.tperm (perm_count fun z => by simp only [List.count_append, List.count_cons, List.count_nil]; omega)
        cases e4 : T S3 with
        | no => simp only [e4] at q2; exact q2.elim
        | ex cc fl S' => simp only [e4] at q2; exact q2.elim
        | ok b S4 =>
          intro H4 s4 a7
          cases b with
          | false =>
            simp only [e4] at q2
            rw [if_neg Bool.false_ne_true]
            refine ⟨fun z => ?_, S4, acc, out a7, q2⟩
            have z2 := z
            rw [Bool.and_eq_true] at z2
            exact (s2 z).trans (s3.trans (s4 z2.1))
          | true =>
            simp only [e4] at q2
            rw [if_pos rfl]
            refine ⟨_, S4, a7, ?_⟩
            cases e5 : A S4 with
            | no => simp only [e5] at q2; exact q2.elim
            | ex cc fl S' => simp only [e5] at q2; exact q2.elim
            | ok y S5 =>
              simp only [e5] at q2
              intro w H5 s5 a8
              by_cases hl : acc.length < sizeLine
              · rw [if_pos hl] at q2
                obtain ⟨ws, h6, l6, a9⟩ := Asn.grow (R := R ++ Tr) a8
                refine ⟨ws, h6, by omega, fun z => ?_, S5, acc ++ [y], out a9, q2⟩
                refine sameA (fun z => ?_) z
                have z2 := z
                rw [Bool.and_eq_true] at z2
                exact (s2 z).trans (s3.trans ((s4 z2.1).trans (s5 z2.2)))
              · rw [if_neg hl] at q2; exact q2.elim
    · have hd : xs.drop i = [] := List.drop_eq_nil_of_le (by omega)
      rw [hd] at q2
      refine .inl ⟨src.stop i _ σ H2 (s2 rfl) (onlyT a3) (by omega), q2 H2 (fin s2) ?_⟩
      exact Asn.dropN (R0 := Tr) (a2.tperm List.perm_middle.symm)

/-- an own list, looked at -/
def xIV (P : XL) : XI := fun S => (P S).bind fun pl S1 => match (getP S1 pl).bind viewD with
  | some (.lst xs) => .ok xs S1
  | _ => .no
section
variable {X : Cx} {F : Frm} {W : WX} {p p1 : Bool} {elt tg iter e : Expr} {ifs : List Expr} {scope : Scope} {own : List (Str × Nat)} {pos : Pos} {I : XI} {c : CT} {T : XT} {A : XD} {P : XL}
theorem repT_list {K : PySem.W.Frag} {mg : Str → Option Value} {R : Roots} {S : AS} {σ : L2.St} {H Z : Hp} {η : List Addr} {C : Cl} {xs : List D} {v : V} (h : AsnC K mg F R S σ H Z η C) (hx : RepT K mg H Z η (.lst xs) v) : ∃ pa vs, v = .ref pa ∧ H pa = some (.lst vs) ∧ Reps K mg Z η xs vs := hx.isLst h.zh
theorem i_view (ha : L_ X F W e p P) : IV_ X F W tg e p (xIV P) := by
  refine PI.imp (pi_list (tg := tg) ha) fun σ H Q h => ?_
  obtain ⟨R, S, a, q⟩ := h
  refine ⟨R, S, a, ?_⟩
  unfold xIV at q
  cases e : P S with
  | no => simp only [e, Rs.bind_no] at q
  | ex c fl S' => simp only [e, Rs.bind_ex] at q; exact q
  | ok pl S1 =>
    simp only [e, Rs.bind_ok] at q
    intro v H1 T0 s1 a1 vp
    cases e2 : (getP S1 pl).bind viewD with
    | none => simp only [e2] at q
    | some x =>
      cases x with
      | lst xs =>
        simp only [e2] at q
        obtain ⟨o, e4, e5⟩ := bind_view e2
        have a1' := a1
        obtain ⟨Z, η, C, a2⟩ := a1
        obtain ⟨pa, vs, rfl, hh, r⟩ := repT_list a2 (a2.view vp e4 e5)
        -- the items as roots, by which they stay what they are
        have a5 : Asn X.K X.mg F ((tz (xs.map .d) vs) ++ R) S1 σ H1 := by
          have a3 := a2.addDs r
          obtain ⟨C3, a4⟩ := a3.perm (S' := S1) (σ' := σ) (R' := tz (xs.map .d) vs ++ R) (E := T0) a3.sl a3.ml (by
            refine perm_count fun q => ?_
            simp only [List.count_append]; omega)
          exact ⟨Z, η, C3, a4⟩
        have hl := r.length
        refine ⟨pa, rfl, ⟨_, .of hh⟩, q _ H1 (tz (xs.map .d) vs) s1 a5 ⟨fun i S σ H s _ hi => ⟨vs, .of (s _ _ hh), by rw [← hl]; exact hi⟩, fun i S σ H s _ hi => ⟨vs, vs[i]'(by omega), .of (s _ _ hh), by simp⟩, fun i x R' S σ H v H' s a e y => ?_⟩⟩
        obtain ⟨rfl, y⟩ := y
        have ev := y vs (.of (s _ _ hh))
        obtain ⟨Z', η', C', a⟩ := a
        obtain ⟨C6, a6⟩ := a.perm (S' := S) (σ' := σ) (R' := tz (xs.map .d) vs ++ R') (E := []) a.sl a.ml (by
          refine perm_count fun q => ?_
          simp only [List.count_append, List.nil_append]; omega)
        obtain ⟨r6, a7⟩ := a6.takeDs hl.symm
        obtain ⟨w, e2', rw'⟩ := r6.get e
        rw [ev] at e2'; cases e2'
        exact ⟨Same.refl _, Z', η', C', a.addD rw'⟩
      | _ => simp only [e2] at q
theorem eo_compV (own : List (Str × Nat)) (hc : X.calm = true) (hN : X.N.Nodup) (hi : IV_ X F W tg iter p1 I) (ok : BlkOk X.N X.env.scope scope own) (hv : ∀ i ∈ c.sl, i ∈ own.map (·.2))
    (hg : ∀ (s : Shared) (H : Hp) (C : Addr) (cl : List (Str × Addr)) (fp : List Addr), PG (X.blk s H scope (compEnvC scope cl C X.env) fp) tg (ctG X.K c)) (ht : ∀ (s : Shared) (H : Hp) (C : Addr) (cl : List (Str × Addr)) (fp : List Addr), ETs_ (X.blk s H scope (compEnvC scope cl C X.env) fp) F W0 ifs true T)
    (he : ∀ (s : Shared) (H : Hp) (C : Addr) (cl : List (Str × Addr)) (fp : List Addr), E_ (X.blk s H scope (compEnvC scope cl C X.env) fp) F W0 elt true A) (hs : ∀ x, foldedSetIterable iter X.env x = pure x := by intro _; rfl) :
    EO_ X F W (.ListComp elt [⟨tg, iter, ifs, 0⟩] scope pos) (p1 && true && true) (xComp (own.map (·.2)) I c T A) := PE.imp (pe_lc hc hN hi ok hg ht he hs) fun σ H Q h => rdCompV hv h
end
end Mi
end
section
set_option Elab.async false
set_option linter.all false
set_option maxRecDepth 100000
set_option maxHeartbeats 2000000
/-! Mi17: facts of a text by names; bindings; a law's end. -/
namespace Mi
open PySem PySem.Spec PyProof.Rows L2
open He (ga ma fAd eqO eqO_ok)

def oexB (K : PySem.W.Frag) (C : Addr) : Bool := (match K.lookup C with
  | some ⟨.type "type", _, .cls cd, sl⟩ => (match cd.mro, sl.toList with
    | .ref C' :: bm, [_, _, _, _, some (.builtin n), _] => C' == C && n == "Exception.__new__" && !cd.hasDel && cd.hasDict && PySem.MiX.refsE bm
    | _, _ => false)
  | _ => false) && (eqO (PySem.W.findIn K (.ref C) "__setattr__") (some (some (.builtin "object.__setattr__"))) && (decide (PySem.W.subIn K (.ref C) (.type "BaseException") = some true) && (decide (PySem.W.typeIn K (.ref C) = some (.type "type")) && PySem.W.keepIn K (.ref C))))
theorem and_ {a b : Bool} (h : (a && b) = true) : a = true ∧ b = true := Bool.and_eq_true_iff.mp h
theorem oexB_ok {K : PySem.W.Frag} {C : Addr} (h : oexB K C = true) : OexE K C := by
  obtain ⟨q, h⟩ := and_ h
  obtain ⟨h1, h⟩ := and_ h
  obtain ⟨h2, h⟩ := and_ h
  obtain ⟨h3, h4⟩ := and_ h
  refine ⟨?_, eqO_ok h1, of_decide_eq_true h2, of_decide_eq_true h3, h4⟩
  split at q
  · rename_i dd cd sl ho
    split at q
    · rename_i C' bm k0 k1 k2 k3 n k5 hm hs
      simp only [Bool.and_eq_true, beq_iff_eq, Bool.not_eq_true'] at q
      obtain ⟨⟨⟨⟨rfl, rfl⟩, hdel⟩, hdct⟩, ht⟩ := q
      obtain ⟨nm, bs, mro, ns, qn, hd, sn, sub, ab, col, del⟩ := cd
      dsimp only at hm hdel hdct
      subst hm hdel hdct
      have hsl : sl = #[k0, k1, k2, k3, some (.builtin "Exception.__new__"), k5] := by
        obtain ⟨l⟩ := sl
        simp only at hs
        rw [hs]
      subst hsl
      exact ⟨nm, qn, ns, bs, bm, sn, sub, ab, col, dd, k0, k1, k2, k3, k5, ho, ht⟩
    · cases q
  · cases q

/-! ### more facts by names -/
inductive Fb where
  | x1 (c f : Str)
  | x0 (c : Str)
  | xf (c f : Str)
  | ki (c T : Str) (b : Bool)
  | ec (c : Str)
  | ic (c : Str)
def isB (K : PySem.W.Frag) (C : Addr) : Bool := eqO (PySem.W.findIn K (.ref C) "__class__") (some (some (.builtin "object.__class__"))) && (eqO (PySem.W.specialIn K (.builtin "object.__class__") "__get__") (some (some (.builtin "getset_descriptor.__get__"))) &&
  (decide (PySem.W.takesIn K (.builtin "object.__class__") = some true) && decide (PySem.W.mroIn K C (.type "object") = some true)))
def Fb.ok (K : PySem.W.Frag) : Fb → Bool
  | .x1 c f => oexB K (ga K c) && (eqO (PySem.W.findIn K (.ref (ga K c)) "__init__") (some (some (.ref (ma K (ga K c) "__init__")))) && (decide (PySem.W.typeIn K (.ref (ma K (ga K c) "__init__")) = some (.type "function")) && eqO (PySem.W.findIn K (.ref (ga K c)) f) (some none)))
  | .x0 c => PySem.W.excIn K (ga K c) [.type "Exception", .type "BaseException", .type "object"] "Exception.__new__" && (PySem.W.keepIn K (.ref (ga K c)) && (decide (PySem.W.subIn K (.ref (ga K c)) (.type "BaseException") = some true) && decide (PySem.W.typeIn K (.ref (ga K c)) = some (.type "type"))))
  | .xf c f => xfB K (ga K c) && eqO (PySem.W.findIn K (.ref (ga K c)) f) (some none)
  | .ki c T b => decide (PySem.W.kitOne K (.ref (ga K c)) (.ref (ga K T)) = some b)
  | .ec c => xfB K (ga K c) && isB K (ga K c)
  | .ic c => isB K (ga K c)
/-- what the head tells -/
structure Env (fa : List He.Fa) (fn : List He.DefD) (fb : List Fb) (h : Heap) (K : PySem.W.Frag) (mg : Str → Option Value) : Prop where
  X : K.In h
  G : h.Ns mainGlobals mg
  c : He.SaysD fa fn K
  e : fb.all (fun f => f.ok K) = true
section
variable {fa : List He.Fa} {fn : List He.DefD} {fb : List Fb} {h : Heap} {K : PySem.W.Frag} {mg : Str → Option Value}
theorem Env.glo (v : Env fa fn fb h K mg) {x : Str} (i : Nat) (q : fa[i]? = some (.glo x) := by rfl) : mg x = some (.ref (ga K x)) := He.glo_ok v.X v.G (v.c.fact i q)
theorem Env.free (v : Env fa fn fb h K mg) {x : Str} (i : Nat) (q : fa[i]? = some (.free x) := by rfl) : mg x = none := He.free_ok v.X v.G (v.c.fact i q)
theorem Env.int (v : Env fa fn fb h K mg) {x : Str} {n : Int} (i : Nat) (q : fa[i]? = some (.int x n) := by rfl) : ∃ t, mg x = some (.int n t) := He.int_ok v.X v.G (v.c.fact i q)
theorem Env.cls (v : Env fa fn fb h K mg) {x : Str} (i : Nat) (q : fa[i]? = some (.cls x) := by rfl) : Cls K (ga K x) := He.cls_ok (v.c.fact i q)
theorem Env.noat (v : Env fa fn fb h K mg) {x f : Str} (i : Nat) (q : fa[i]? = some (.noat x f) := by rfl) : NoAttr K (ga K x) f := He.noat_ok (v.c.fact i q)
theorem Env.meth (v : Env fa fn fb h K mg) {x m : Str} (i : Nat) (q : fa[i]? = some (.meth x m) := by rfl) : Meth K (ga K x) m (ma K (ga K x) m) := He.meth_ok (v.c.fact i q)
theorem Env.mkr (v : Env fa fn fb h K mg) {x : Str} (i : Nat) (q : fa[i]? = some (.mkr x) := by rfl) : Mk K (ga K x) (ma K (ga K x) "__init__") := He.mkr_ok (v.c.fact i q)
theorem Env.exm (v : Env fa fn fb h K mg) {x y : Str} {b : Bool} (i : Nat) (q : fa[i]? = some (.exm x y b) := by rfl) : PySem.W.exmOne K (.ref (ga K x)) (.ref (ga K y)) = some b := He.exm_ok (v.c.fact i q)
theorem Env.fbk (v : Env fa fn fb h K mg) {f : Fb} (i : Nat) (q : fb[i]? = some f := by rfl) : f.ok K = true := List.all_eq_true.mp v.e f (List.mem_of_getElem? q)
theorem fb_x1 {c f : Str} (q : (Fb.x1 c f).ok K = true) (hm : mg c = some (.ref (ga K c))) (hfn : ∀ (P : Program) (w : World) (base : Heap), ∃ fd ps, FnOk P w K mg base (L2.CX P w) 1 (ma K (ga K c) "__init__") fd ps (spIni K f) ∧ Binds K fd ps []) : XCls K mg c f := by
  obtain ⟨h1, q⟩ := and_ q
  obtain ⟨h2, q⟩ := and_ q
  obtain ⟨h3, h4⟩ := and_ q
  exact ⟨_, _, hm, oexB_ok h1, eqO_ok h2, of_decide_eq_true h3, eqO_ok h4, hfn⟩
theorem fb_x0 {c : Str} (q : (Fb.x0 c).ok K = true) (hm : mg c = some (.ref (ga K c))) : XCls0 K mg c := by
  obtain ⟨h1, q⟩ := and_ q
  obtain ⟨h2, q⟩ := and_ q
  obtain ⟨h3, h4⟩ := and_ q
  exact ⟨_, hm, h1, h2, of_decide_eq_true h3, of_decide_eq_true h4⟩
theorem fb_xf {c f : Str} (q : (Fb.xf c f).ok K = true) : XfC K (ga K c) ∧ PySem.W.findIn K (.ref (ga K c)) f = some none := by
  obtain ⟨h1, h2⟩ := and_ q
  exact ⟨xfB_ok h1, eqO_ok h2⟩
theorem fb_ki {c T : Str} {b : Bool} (q : (Fb.ki c T b).ok K = true) : PySem.W.kitOne K (.ref (ga K c)) (.ref (ga K T)) = some b := of_decide_eq_true q
theorem fb_ec {c : Str} (q : (Fb.ec c).ok K = true) : ExcC K (ga K c) := by
  obtain ⟨h1, q⟩ := and_ q
  obtain ⟨h2, q⟩ := and_ q
  obtain ⟨h3, q⟩ := and_ q
  obtain ⟨h4, h5⟩ := and_ q
  have x := xfB_ok h1
  exact ⟨x.ga, x.gg, x.exC, x.hdC, eqO_ok h2, eqO_ok h3, of_decide_eq_true h4, of_decide_eq_true h5⟩
theorem fb_ic {c : Str} (hc : Cls K (ga K c)) (q : (Fb.ic c).ok K = true) : InsC K (ga K c) := by
  obtain ⟨h2, q⟩ := and_ q
  obtain ⟨h3, q⟩ := and_ q
  obtain ⟨h4, h5⟩ := and_ q
  exact ⟨hc, eqO_ok h2, eqO_ok h3, of_decide_eq_true h4, of_decide_eq_true h5⟩
/-! tables over class names -/
theorem lk_mem {β : Type} {c : Str} {b : β} : ∀ {l : List (Str × β)}, l.lookup c = some b → (c, b) ∈ l
  | (k, v) :: l, h => by
    rw [List.lookup_cons] at h
    cases q : c == k with
    | true =>
      rw [q] at h
      simp only at h
      cases h
      rw [eq_of_beq q]
      exact List.mem_cons_self
    | false =>
      rw [q] at h
      exact List.mem_cons_of_mem _ (lk_mem h)
theorem tab_of {cv : Value} {cs : List (Str × Bool)} (h : ∀ p ∈ cs, mg p.1 = some (.ref (ga K p.1)) ∧ PySem.W.exmOne K (.ref (ga K p.1)) cv = some p.2) : Tab K mg cv cs := fun c b e Ca hm => by
  obtain ⟨h1, h2⟩ := h _ (lk_mem e)
  rw [h1] at hm; cases hm
  exact h2
theorem tabI_of {T : Str} {cs : List (Str × Bool)} (hT : mg T = some (.ref (ga K T))) (h : ∀ p ∈ cs, mg p.1 = some (.ref (ga K p.1)) ∧ ExcC K (ga K p.1) ∧ PySem.W.kitOne K (.ref (ga K p.1)) (.ref (ga K T)) = some p.2) : TabI K mg T cs := ⟨_, hT, fun c b e Ca hm => by
  obtain ⟨h1, h2⟩ := h _ (lk_mem e)
  rw [h1] at hm; cases hm
  exact h2⟩
theorem tabO_of {T : Str} {cs : List (Str × Bool)} (hT : mg T = some (.ref (ga K T))) (h : ∀ p ∈ cs, mg p.1 = some (.ref (ga K p.1)) ∧ InsC K (ga K p.1) ∧ PySem.W.kitOne K (.ref (ga K p.1)) (.ref (ga K T)) = some p.2) : TabO K mg T cs := ⟨_, hT, fun c b e Ca hm => by
  obtain ⟨h1, h2⟩ := h _ (lk_mem e)
  rw [h1] at hm; cases hm
  exact h2⟩
theorem hasX_of {f : Str} {cs : List Str} (h : ∀ c ∈ cs, mg c = some (.ref (ga K c)) ∧ XfC K (ga K c) ∧ PySem.W.findIn K (.ref (ga K c)) f = some none) : HasX K mg cs f := fun c hc Ca hm => by
  obtain ⟨h1, h2⟩ := h c hc
  rw [h1] at hm; cases hm
  exact h2
theorem hasF_of {f : Str} {cs : List Str} (h : ∀ c ∈ cs, mg c = some (.ref (ga K c)) ∧ Cls K (ga K c) ∧ NoAttr K (ga K c) f) : HasF K mg cs f := fun c hc Ca hm => by
  obtain ⟨h1, h2⟩ := h c hc
  rw [h1] at hm; cases hm
  exact h2
theorem all_nil {α : Type} {P : α → Prop} : ∀ p ∈ ([] : List α), P p := fun p h => by cases h
theorem all_cons {α : Type} {P : α → Prop} {a : α} {l : List α} (h : P a) (r : ∀ p ∈ l, P p) : ∀ p ∈ a :: l, P p := fun p hp => by
  rcases List.mem_cons.mp hp with e | hp
  · rw [e]; exact h
  · exact r p hp
end

/-! ### the head's hook -/
abbrev AlM : Type := He.AlD × Bool
def obsM (n : Nat) (fa : List He.Fa) (fn : List He.DefD) (fb : List Fb) (g : Addr → Option Obj) : AlM := (He.obsD fa fn (He.frG g (He.asD g n)), fb.all fun f => f.ok (He.frG g (He.asD g n)))
def hookM (n : Nat) (fa : List He.Fa) (fn : List He.DefD) (fb : List Fb) : PySem.W.Hook where
  α := AlM
  obs := fun s => obsM n fa fn fb s.heap.get?
  val := fun _ => (He.valD fn, true)
  says := fun _ h => ∃ K : PySem.W.Frag, K.In h ∧ He.SaysD fa fn K ∧ fb.all (fun f => f.ok K) = true
  of := fun _ _ e => ⟨_, He.frG_in, congrArg (fun z : AlM => z.1) e, congrArg (fun z : AlM => z.2) e⟩
  keeps := fun _ _ _ ⟨K, hK, c⟩ k => ⟨K, PySem.W.Frag.In.keeps hK k, c⟩
theorem obsM_eq {n : Nat} {fa : List He.Fa} {fn : List He.DefD} {fb : List Fb} {g : Addr → Option Obj} {s : Shared} (h : ∀ a, g a = s.heap.get? a) : obsM n fa fn fb g = (hookM n fa fn fb).obs s := by
  have e : g = s.heap.get? := funext h
  rw [e] <;> rfl

/-! ### defs and calls -/
/-- a def of the text and what it does -/
def OkD (P : Program) (w : World) (K : PySem.W.Frag) (mg : Str → Option Value) (base : Heap) (d : He.DefD) (k : Nat) (ps : List Str) (m : Mf) : Prop :=
  ∃ fd, FunD K d.name d.qual d.params d.body d.scope [] [] (fAd K d.at_) fd ∧ FnOk P w K mg base (L2.CX P w) k (fAd K d.at_) fd ps (spF K mg ps.length m)
theorem bn_of {K : PySem.W.Frag} {x qual : Str} {params : Arguments} {body : List Stmt} {scope : Scope} {f : Addr} {fd : FuncData} {ps ks : List Str} {np : Nat} {ix : Option (List Nat)} (F : FunD K x qual params body scope [] [] f fd)
    (h : ∀ (kV doc pm : Value) (an : Option Addr) (cdv ct : Value) (us ws : List Value), us.length = np → ws.length = ks.length → bindArgs (PySem.W.fnOf x qual params body scope .none kV doc pm an cdv ct) ⟨us, ks.zip ws⟩ = pure (ps.zip (ro ix (us ++ ws)))) : Bn fd ps np ks ix := fun us ws l1 l2 => by
  obtain ⟨oc, od, dV, kV, doc, pm, an, cdv, ct, osl, rfl, lk, hcd, hD, hK⟩ := F.ex
  rcases hD with ⟨_, rfl⟩ | ⟨e, _⟩
  · exact h kV doc pm an cdv ct us ws l1 l2
  · exact absurd rfl e
theorem binds_of {K : PySem.W.Frag} {x qual : Str} {params : Arguments} {body : List Stmt} {scope : Scope} {f : Addr} {fd : FuncData} {ps : List Str} (F : FunD K x qual params body scope [] [] f fd)
    (h : ∀ (kV doc pm : Value) (an : Option Addr) (cdv ct : Value) (us : List Value), us.length = ps.length → bindArgs (PySem.W.fnOf x qual params body scope .none kV doc pm an cdv ct) ⟨us, []⟩ = pure (ps.zip us)) : Binds K fd ps [] := F.bindsN h
/-- nothing is let out -/
theorem fn_cx0 {P : Program} {w : World} {K : PySem.W.Frag} {mg : Str → Option Value} {base : Heap} {k : Nat} {f : Addr} {fd : FuncData} {ps : List Str} {sp : Sp} (F : FnOk P w K mg base (L2.CX P w) k f fd ps sp) : FnOk P w K mg base CX0 k f fd ps (fun vs H Q _ => sp vs H Q E0) :=
  ⟨fun vs H Q E h => F.len vs H Q E0 h, fun A outer s H args us vs Q E hr he hb hv hs => codeAny_mono (F.run A outer s H args us vs Q E0 hr he hb hv hs) fun r s' h => by
    cases r with
    | error e =>
      obtain ⟨_, _, _, _, _, _, _, _, _, _, _, _, z⟩ := (show L2.CX P w outer H s E0 e s' from h)
      exact z.elim
    | ok fl => cases fl <;> exact h⟩
theorem fn_no {P : Program} {w : World} {K : PySem.W.Frag} {mg : Str → Option Value} {base : Heap} {k : Nat} {f : Addr} {fd : FuncData} {ps : List Str} {n : Nat} (hn : n = ps.length) : FnOk P w K mg base (L2.CX P w) k f fd ps (spF K mg n fun _ _ => .no) :=
  ⟨fun vs H Q E ⟨_, _, _, _, ds, l1, l2, _, z⟩ => z.elim, fun A outer s H args us vs Q E _ _ _ _ ⟨_, _, _, _, ds, l1, l2, _, z⟩ => z.elim⟩
/-- the law's promise -/
theorem spF_law {K : PySem.W.Frag} {mg : Str → Option Value} {f : Mf} {H : Hp} {a : Addr} {ns : List Int} (hm : ∃ μ', f [.scr (ns.map .int)] (some []) = .ok (.d (.bl true)) μ') (hS : SqL K H a (ns.map V.int)) : spF K mg 1 f [.ref a] H (fun v _ => v = .bl true) E0 := by
  obtain ⟨μ', hm⟩ := hm
  have r : Reps K mg H [] (ns.map .int) (ns.map V.int) := by
    clear hm hS
    induction ns with
    | nil => exact .nil
    | cons n ns ih => exact .cons .int ih
  refine ⟨H, [], fun _ => False, some [], [.scr (ns.map .int)], rfl, rfl, ⟨H, [], [], Same.refl _, List.prefix_refl _, Same.refl _, fun a o e _ => e, fun a o e => .inl e, fun p hp => (by cases hp), List.nodup_nil, ⟨rfl, fun i x q => by simp at q⟩, rfl, ?_⟩, ?_⟩
  · exact RepR.cons (C1 := []) (C := []) (.d (.scr hS r)) .nil
  · rw [hm]
    intro v H' ⟨Z, η, C, b⟩
    obtain ⟨r, _⟩ := b.takeD
    cases r
    rfl

/-! ### -i -/
def gNeg : D → Option D
  | .int i => some (.int (-i))
  | _ => none
def xUn (g : D → Option D) (A : XD) : XD := fun S => (A S).bind fun x S1 => match g x with
  | some z => .ok z S1
  | none => .no
section
variable {X : Cx} {F : Frm} {W : WX} {p : Bool} {a : Expr} {A : XD} {pos : Pos}
theorem e_neg (ha : E_ X F W a p A) : E_ X F W (.UnaryOp .USub a pos) p (xUn gNeg A) := PE.imp (pe_un un_neg ha) fun σ H Q h => by
  refine rd_elim h fun R S x S' a e q v H1 s1 a1 => ?_
  cases x with
  | int i =>
    simp only [gNeg] at q
    obtain rfl := a1.isInt
    exact ⟨i, rfl, q _ H1 s1 (a1.drop.addS fun _ _ => .int)⟩
  | _ => simp only [gNeg] at q
end
end Mi
end
section
set_option Elab.async false
set_option linter.all false
set_option maxRecDepth 100000
set_option maxHeartbeats 2000000
/-! Mi18: list(range(n)). -/
namespace Mi
open PySem PySem.Spec PyProof.Rows L2
def rgD (n : Nat) : List D := (List.range n).map fun i => .int (0 + (i : Nat))
def xListR (A : XD) : XO := fun S => (A S).bind fun x S1 => match x with
  | .int j => if 0 ≤ j ∧ j ≤ 16777216 then .ok (.own ((rgD j.toNat).map .d)) S1 else .no
  | _ => .no
theorem reps_rg {K : PySem.W.Frag} {mg : Str → Option Value} {Z : Hp} {η : List Addr} (l : List Nat) : Reps K mg Z η (l.map fun i => D.int (0 + (i : Nat))) (l.map fun i => V.int (0 + (i : Nat))) := by
  induction l with
  | nil => exact .nil
  | cons a l ih => exact .cons .int ih
section
variable {X : Cx} {F : Frm} {W : WX} {p : Bool} {e : Expr} {A : XD} {p0 p1 pos pos1 : Pos}
theorem eo_listR (hc : X.calm = true) (hm : X.mg "list" = none) (hmr : X.mg "range" = none) (ha : E_ X F W e p A) (hg : Gl X "list" := by rfl) (hgr : Gl X "range" := by rfl) (na : starEach [.Call (.Name "range" p1) [e] [] pos1] X.env = (false, eval (.Call (.Name "range" p1) [e] [] pos1) X.env) :: starEach [] X.env := by rfl)
    (na2 : starEach [e] X.env = (false, eval e X.env) :: starEach [] X.env := by rfl) : EO_ X F W (.Call (.Name "list" p0) [.Call (.Name "range" p1) [e] [] pos1] [] pos) p (xListR A) := by
  refine PE.imp (pe_listRg hc hg hm (prg_1 hgr hmr ha na2) na) fun σ H Q h => ?_
  obtain ⟨R, S, a, q⟩ := h
  refine ⟨R, S, a, ?_⟩
  unfold xListR at q
  cases e : A S with
  | no => simp only [e, Rs.bind_no] at q
  | ex c fl S' => simp only [e, Rs.bind_ex] at q; exact q
  | ok x S1 =>
    simp only [e, Rs.bind_ok] at q
    intro v H1 s1 a1
    cases x with
    | int j =>
      simp only at q
      by_cases hj : 0 ≤ j ∧ j ≤ 16777216
      · rw [if_pos hj] at q
        obtain rfl := a1.isInt
        refine ⟨j, rfl, ⟨by omega, by omega, by omega, by omega, by omega⟩, fun l hl => ?_⟩
        obtain ⟨Z, η, C, a2⟩ := a1.drop
        have e2 : rgV 0 j = (List.range j.toNat).map fun i => V.int (0 + (i : Nat)) := by unfold rgV; rw [Int.sub_zero]
        rw [e2]
        exact q _ _ (fun z => (s1 z).trans (same_upd hl)) (a2.newOwn (reps_rg _) hl)
      · rw [if_neg hj] at q; exact q.elim
    | _ => exact q.elim
end
end Mi
end
section
set_option Elab.async false
set_option linter.all false
set_option maxRecDepth 100000
set_option maxHeartbeats 4000000
/-! printed by emit.py -/
namespace K75
open PySem PySem.Spec PyProof.Rows L2 Mi
open He (ga ma fAd)
/-! ### is_integer -/
abbrev N_is_integer : List Str := ["value"]
abbrev P_is_integer : List Str := ["value"]
def M_is_integer : XS := (sRet (xU (xAndV (xIs [.int] (xV 0)) (xNotV (xIs [.bool] (xV 0))))))
def f_is_integer : Mf := fnM P_is_integer.length N_is_integer.length M_is_integer
theorem ar_is_integer : Ar f_is_integer P_is_integer.length := fnM_ar
/-! ### is_between -/
abbrev N_is_between : List Str := ["value", "least", "greatest"]
abbrev P_is_between : List Str := ["value", "least", "greatest"]
def M_is_between : XS := (sRet (xU (xAndV (xF (xCall f_is_integer none (xCons (xV 0) xNil))) (xCh gLe gLe (xV 1) (xV 0) (xV 2)))))
def f_is_between : Mf := fnM P_is_between.length N_is_between.length M_is_between
theorem ar_is_between : Ar f_is_between P_is_between.length := fnM_ar
/-! ### is_list -/
abbrev N_is_list : List Str := ["value"]
abbrev P_is_list : List Str := ["value"]
def M_is_list : XS := (sRet (xU (xIs [.list, .tuple] (xV 0))))
def f_is_list : Mf := fnM P_is_list.length N_is_list.length M_is_list
theorem ar_is_list : Ar f_is_list P_is_list.length := fnM_ar
/-! ### is_page_text -/
abbrev N_is_page_text : List Str := ["value", "width", "sign"]
abbrev P_is_page_text : List Str := ["value", "width"]
def M_is_page_text : XS := (sRet (xU (xAndV (xIs [.str] (xV 0)) (xAndV (xB gLe (xG gLen (xCons (xV 0) xNil)) (xV 1)) (xG gAll (xCons (xF (xComp [2] (xI (xV 0)) (.nm 2) xYes (xCh gLe gLe (xC (.str " ")) (xV 2) (xC (.str "~"))))) xNil))))))
def f_is_page_text : Mf := fnM P_is_page_text.length N_is_page_text.length M_is_page_text
theorem ar_is_page_text : Ar f_is_page_text P_is_page_text.length := fnM_ar
/-! ### are_places -/
abbrev N_are_places : List Str := ["value", "many", "at", "place"]
abbrev P_are_places : List Str := ["value", "many"]
def M_are_places : XS := (sSeq (sIf (xOr (xNot (xT (xF (xCall f_is_list none (xCons (xV 0) xNil))))) (xNot (xT (xG gAll (xCons (xF (xComp [3] (xI (xV 0)) (.nm 3) xYes (xF (xCall f_is_between none (xCons (xV 3) (xCons (xC (.int 0)) (xCons (xB gSub (xV 1) (xC (.int 1))) xNil))))))) xNil))))) (sRet (xU (xC (.bl false)))) sNil)
 (sRet (xU (xG gAll (xCons (xF (xComp [2] (xR1 (xCons (xB gSub (xG gLen (xCons (xV 0) xNil)) (xC (.int 1))) xNil)) (.nm 2) xYes (xB gLt (xB gIdx (xV 0) (xV 2)) (xB gIdx (xV 0) (xB gAdd (xV 2) (xC (.int 1))))))) xNil)))))
def f_are_places : Mf := fnM P_are_places.length N_are_places.length M_are_places
theorem ar_are_places : Ar f_are_places P_are_places.length := fnM_ar
/-! ### Disk.__init__ -/
abbrev N_Disk___init__ : List Str := ["self", "pages", "width"]
abbrev P_Disk___init__ : List Str := ["self", "pages", "width"]
def M_Disk___init__ : XS := (sSeq (sIf (xNot (xT (xF (xCall f_is_between none (xCons (xV 1) (xCons (xC (.int 4)) (xCons (xC (.int 60)) xNil))))))) (sRaise "InvalidPages" "given" (xV 1)) sNil)
 (sSeq (sIf (xNot (xT (xF (xCall f_is_between none (xCons (xV 2) (xCons (xC (.int 40)) (xCons (xC (.int 400)) xNil))))))) (sRaise "InvalidWidth" "given" (xV 2)) sNil)
 (sSeq (sTup 2 (xoCons (xU (xV 1)) (xoCons (xU (xV 2)) xoNil)) (xgsCons (xgA ["Disk"] false "pages" (xV 0)) (xgsCons (xgA ["Disk"] false "width" (xV 0)) xgsNil)))
 (sSeq (sTup 2 (xoCons (xMulO (xLst (xCons (xC (.str "")) xNil)) (xV 1)) (xoCons (xMulO (xLst (xCons (xC (.str "")) xNil)) (xV 1)) xoNil)) (xgsCons (xgA ["Disk"] true "lasting" (xV 0)) (xgsCons (xgA ["Disk"] true "current" (xV 0)) xgsNil)))
 (sTup 2 (xoCons (xLstO xNil) (xoCons (xU (xC .non)) xoNil)) (xgsCons (xgA ["Disk"] true "written" (xV 0)) (xgsCons (xgA ["Disk"] false "left" (xV 0)) xgsNil)))))))
def f_Disk___init__ : Mf := fnM P_Disk___init__.length N_Disk___init__.length M_Disk___init__
theorem ar_Disk___init__ : Ar f_Disk___init__ P_Disk___init__.length := fnM_ar
/-! ### Disk.check_page -/
abbrev N_Disk_check_page : List Str := ["self", "page"]
abbrev P_Disk_check_page : List Str := ["self", "page"]
def M_Disk_check_page : XS := (sIf (xNot (xT (xF (xCall f_is_between none (xCons (xV 1) (xCons (xC (.int 0)) (xCons (xB gSub (xFld ["Disk"] "pages" (xV 0)) (xC (.int 1))) xNil))))))) (sRaise "InvalidPage" "given" (xV 1)) sNil)
def f_Disk_check_page : Mf := fnM P_Disk_check_page.length N_Disk_check_page.length M_Disk_check_page
theorem ar_Disk_check_page : Ar f_Disk_check_page P_Disk_check_page.length := fnM_ar
/-! ### Disk.spend -/
abbrev N_Disk_spend : List Str := ["self"]
abbrev P_Disk_spend : List Str := ["self"]
def M_Disk_spend : XS := (sIf (xT (xB gIsNot (xFld ["Disk"] "left" (xV 0)) (xC .non))) (sSeq (sIf (xT (xB gEq (xFld ["Disk"] "left" (xV 0)) (xC (.int 0)))) (sRaise0 "PowerCut") sNil)
 (sAsg (xU (xB gSub (xFld ["Disk"] "left" (xV 0)) (xC (.int 1)))) (xgA ["Disk"] false "left" (xV 0)))) sNil)
def f_Disk_spend : Mf := fnM P_Disk_spend.length N_Disk_spend.length M_Disk_spend
theorem ar_Disk_spend : Ar f_Disk_spend P_Disk_spend.length := fnM_ar
/-! ### Disk.text -/
abbrev N_Disk_text : List Str := ["self", "page"]
abbrev P_Disk_text : List Str := ["self", "page"]
def M_Disk_text : XS := (sSeq (sEx (xMeth "Disk" "check_page" f_Disk_check_page none (xV 0) (xCons (xV 1) xNil)))
 (sRet (xU (xB1 gIdx (xLf ["Disk"] "current" (xV 0)) (xV 1)))))
def f_Disk_text : Mf := fnM P_Disk_text.length N_Disk_text.length M_Disk_text
theorem ar_Disk_text : Ar f_Disk_text P_Disk_text.length := fnM_ar
/-! ### Disk.write -/
abbrev N_Disk_write : List Str := ["self", "page", "text"]
abbrev P_Disk_write : List Str := ["self", "page", "text"]
def M_Disk_write : XS := (sSeq (sEx (xMeth "Disk" "check_page" f_Disk_check_page none (xV 0) (xCons (xV 1) xNil)))
 (sSeq (sIf (xNot (xT (xF (xCall f_is_page_text none (xCons (xV 2) (xCons (xFld ["Disk"] "width" (xV 0)) xNil)))))) (sRaise "InvalidText" "given" (xV 2)) sNil)
 (sSeq (sEx (xMeth "Disk" "spend" f_Disk_spend none (xV 0) xNil))
 (sSeq (sAsg (xU (xV 2)) (xgI false (xLf ["Disk"] "current" (xV 0)) (xV 1)))
 (sEx (xU (xApp false (xLf ["Disk"] "written" (xV 0)) (xU (xTup (xCons (xV 1) (xCons (xV 2) xNil)))))))))))
def f_Disk_write : Mf := fnM P_Disk_write.length N_Disk_write.length M_Disk_write
theorem ar_Disk_write : Ar f_Disk_write P_Disk_write.length := fnM_ar
/-! ### Disk.settle -/
abbrev N_Disk_settle : List Str := ["self"]
abbrev P_Disk_settle : List Str := ["self"]
def M_Disk_settle : XS := (sSeq (sEx (xMeth "Disk" "spend" f_Disk_spend none (xV 0) xNil))
 (sTup 2 (xoCons (xListOV (xLf ["Disk"] "current" (xV 0))) (xoCons (xLstO xNil) xoNil)) (xgsCons (xgA ["Disk"] true "lasting" (xV 0)) (xgsCons (xgA ["Disk"] true "written" (xV 0)) xgsNil))))
def f_Disk_settle : Mf := fnM P_Disk_settle.length N_Disk_settle.length M_Disk_settle
theorem ar_Disk_settle : Ar f_Disk_settle P_Disk_settle.length := fnM_ar
/-! ### Disk.loose -/
abbrev N_Disk_loose : List Str := ["self", "page", "text"]
abbrev P_Disk_loose : List Str := ["self"]
def M_Disk_loose : XS := (sRet (xComp [1, 2] (xIV (xLf ["Disk"] "written" (xV 0))) (.tp (.cons (.nm 1) (.cons (.nm 2) .nil))) xYes (xV 1)))
def f_Disk_loose : Mf := fnM P_Disk_loose.length N_Disk_loose.length M_Disk_loose
theorem ar_Disk_loose : Ar f_Disk_loose P_Disk_loose.length := fnM_ar
/-! ### Disk.stop -/
abbrev N_Disk_stop : List Str := ["self", "many"]
abbrev P_Disk_stop : List Str := ["self", "many"]
def M_Disk_stop : XS := (sSeq (sIf (xAnd (xT (xB gIsNot (xV 1) (xC .non))) (xOr (xNot (xT (xF (xCall f_is_integer none (xCons (xV 1) xNil))))) (xT (xB gLt (xV 1) (xC (.int 0)))))) (sRaise "InvalidMany" "given" (xV 1)) sNil)
 (sAsg (xU (xV 1)) (xgA ["Disk"] false "left" (xV 0))))
def f_Disk_stop : Mf := fnM P_Disk_stop.length N_Disk_stop.length M_Disk_stop
theorem ar_Disk_stop : Ar f_Disk_stop P_Disk_stop.length := fnM_ar
/-! ### Disk.cut -/
abbrev N_Disk_cut : List Str := ["self", "done", "found", "place", "page", "text"]
abbrev P_Disk_cut : List Str := ["self", "done"]
def M_Disk_cut : XS := (sSeq (sIf (xNot (xT (xF (xCall f_are_places none (xCons (xV 1) (xCons (xGV gLen (xLf ["Disk"] "written" (xV 0))) xNil)))))) (sRaise "InvalidDone" "given" (xV 1)) sNil)
 (sSeq (sAsg (xU (xF (xMake "Disk" f_Disk___init__ none (xCons (xFld ["Disk"] "pages" (xV 0)) (xCons (xFld ["Disk"] "width" (xV 0)) xNil))))) (xgN false 2))
 (sSeq (sAsg (xListOV (xLf ["Disk"] "lasting" (xV 0))) (xgA ["Disk"] true "lasting" (xV 2)))
 (sSeq (sFor (xI (xV 1)) (xgN false 3) (sSeq (sAsg (xU (xB1 gIdx (xLf ["Disk"] "written" (xV 0)) (xV 3))) (xgT 2 (xgsCons (xgN false 4) (xgsCons (xgN false 5) xgsNil))))
 (sAsg (xU (xV 5)) (xgI false (xLf ["Disk"] "lasting" (xV 2)) (xV 4)))))
 (sSeq (sAsg (xListOV (xLf ["Disk"] "lasting" (xV 2))) (xgA ["Disk"] true "current" (xV 2)))
 (sRet (xU (xV 2))))))))
def f_Disk_cut : Mf := fnM P_Disk_cut.length N_Disk_cut.length M_Disk_cut
theorem ar_Disk_cut : Ar f_Disk_cut P_Disk_cut.length := fnM_ar
/-! ### _law_cell -/
abbrev N__law_cell : List Str := ["script", "k"]
abbrev P__law_cell : List Str := ["script", "k"]
def M__law_cell : XS := (sRet (xU (xIf (xT (xB gLt (xV 1) (xG gLen (xCons (xV 0) xNil)))) (xB gIdx (xV 0) (xV 1)) (xB gAdd (xB gMul (xC (.int 6089)) (xV 1)) (xB gMod (xG gSum (xCons (xSl (xV 0) xP0 (xP1 (xC (.int 1)))) xNil)) (xC (.int 1000033)))))))
def f__law_cell : Mf := fnM P__law_cell.length N__law_cell.length M__law_cell
theorem ar__law_cell : Ar f__law_cell P__law_cell.length := fnM_ar
/-! ### _law_box -/
abbrev N__law_box : List Str := ["great"]
abbrev P__law_box : List Str := ["great"]
def M__law_box : XS := (sRet (xLstO (xCons (xG gAbs (xCons (xV 0) xNil)) (xCons (xB gGe (xG gAbs (xCons (xV 0) xNil)) (xB gPow (xC (.int 10)) (xC (.int 18)))) (xCons (xB gMod (xG gInt (xCons (xG gAbs (xCons (xV 0) xNil)) xNil)) (xC (.int 2147483629))) (xCons (xC (.int 0)) xNil))))))
def f__law_box : Mf := fnM P__law_box.length N__law_box.length M__law_box
theorem ar__law_box : Ar f__law_box P__law_box.length := fnM_ar
/-! ### _law_take -/
abbrev N__law_take : List Str := ["box", "many", "mixed", "digit"]
abbrev P__law_take : List Str := ["box", "many"]
def M__law_take : XS := (sSeq (sIf (xAnd (xT (xB1 gIdx (xLo (xV 0)) (xC (.int 1)))) (xT (xB gGt (xB1 gIdx (xLo (xV 0)) (xC (.int 0))) (xC (.int 0))))) (sSeq (sAsg (xU (xB gMod (xG gInt (xCons (xB1 gIdx (xLo (xV 0)) (xC (.int 0))) xNil)) (xV 1))) (xgN false 3))
 (sSeq (sAsg (xU (xB gDiv (xB1 gIdx (xLo (xV 0)) (xC (.int 0))) (xV 1))) (xgI false (xLo (xV 0)) (xC (.int 0))))
 (sRet (xU (xV 3))))) sNil)
 (sSeq (sAsg (xU (xB gAdd (xB1 gIdx (xLo (xV 0)) (xC (.int 3))) (xC (.int 1)))) (xgI false (xLo (xV 0)) (xC (.int 3))))
 (sSeq (sAsg (xU (xB gMod (xG gInt (xCons (xB gPow (xB gAdd (xB gAdd (xB1 gIdx (xLo (xV 0)) (xC (.int 2))) (xB gMul (xC (.int 15485863)) (xB1 gIdx (xLo (xV 0)) (xC (.int 3))))) (xC (.int 179424673))) (xC (.int 5))) xNil)) (xC (.int 2147483647)))) (xgN false 2))
 (sRet (xU (xB gMod (xB gDiv (xB gMod (xG gInt (xCons (xB gPow (xB gAdd (xB gMul (xV 2) (xC (.int 48271))) (xB gMul (xC (.int 104729)) (xB1 gIdx (xLo (xV 0)) (xC (.int 3))))) (xC (.int 3))) xNil)) (xC (.int 2147483587))) (xC (.int 64))) (xV 1)))))))
def f__law_take : Mf := fnM P__law_take.length N__law_take.length M__law_take
theorem ar__law_take : Ar f__law_take P__law_take.length := fnM_ar
/-! ### _law_same -/
abbrev N__law_same : List Str := ["told", "due", "key", "k"]
abbrev P__law_same : List Str := ["told", "due"]
def M__law_same (same : Mf) : XS := (sSeq (sIf (xOr (xT (xB gIs (xV 1) (xC .non))) (xT (xIs [.bool] (xV 1)))) (sRet (xU (xIf (xT (xB gIs (xV 1) (xC .non))) (xB gIs (xV 0) (xC .non)) (xAndV (xIs [.bool] (xV 0)) (xB gEq (xB gIs (xV 0) (xC (.bl true))) (xB gIs (xV 1) (xC (.bl true)))))))) sNil)
 (sSeq (sIf (xT (xIs [.int] (xV 1))) (sRet (xU (xAndV (xIs [.int] (xV 0)) (xAndV (xNotV (xIs [.bool] (xV 0))) (xB gEq (xV 0) (xV 1)))))) sNil)
 (sSeq (sIf (xT (xIs [.str] (xV 1))) (sRet (xU (xAndV (xIs [.str] (xV 0)) (xB gEq (xV 0) (xV 1))))) sNil)
 (sSeq (sIf (xT (xIs [.dict] (xV 1))) (sSeq (sIf (xOr (xNot (xT (xIs [.dict] (xV 0)))) (xT (xB gNe (xG gLen (xCons (xV 0) xNil)) (xG gLen (xCons (xV 1) xNil))))) (sRet (xU (xC (.bl false)))) sNil)
 (sRet (xU (xB gEq (xF (xComp0 1)) (xLst xNil))))) sNil)
 (sSeq (sIf (xT (xIs [.list, .tuple] (xV 1))) (sSeq (sIf (xOr (xNot (xT (xIs [.list, .tuple] (xV 0)))) (xOr (xT (xB gNe (xIs [.list] (xV 0)) (xIs [.list] (xV 1)))) (xT (xB gNe (xG gLen (xCons (xV 0) xNil)) (xG gLen (xCons (xV 1) xNil)))))) (sRet (xU (xC (.bl false)))) sNil)
 (sRet (xU (xB gEq (xF (xComp [3] (xR1 (xCons (xG gLen (xCons (xV 1) xNil)) xNil)) (.nm 3) (xNot (xT (xF (xCall same none (xCons (xB gIdx (xV 0) (xV 3)) (xCons (xB gIdx (xV 1) (xV 3)) xNil)))))) (xV 3))) (xLst xNil))))) sNil)
 (sRet (xU (xAndV (xB gIsNot (xV 0) (xC .non)) (xNotV (xIs [.int, .str, .list, .tuple, .dict] (xV 0)))))))))))
def f__law_same : Nat → Mf
  | 0 => fun _ _ => .no
  | k + 1 => fnM P__law_same.length N__law_same.length (M__law_same (f__law_same k))
theorem ar__law_same : ∀ k, Ar (f__law_same k) P__law_same.length
  | 0 => fun _ _ _ => rfl
  | _ + 1 => fnM_ar
/-! ### _law_met -/
abbrev N__law_met : List Str := ["disk", "word", "given", "by_name", "e"]
abbrev P__law_met : List Str := ["disk", "word", "given", "by_name"]
def M__law_met : XS := (sTry (sSeq (sIf (xT (xB gEq (xV 1) (xC (.str "text")))) (sRet (xU (xLst (xCons (xC (.str "told")) (xCons (xIf (xT (xV 3)) (xF (xMeth "Disk" "text" f_Disk_text (some [0, 1]) (xV 0) (xKw 0 1 xNil (xCons (xB gIdx (xV 2) (xC (.int 0))) xNil)))) (xF (xMeth "Disk" "text" f_Disk_text none (xV 0) (xCons (xB gIdx (xV 2) (xC (.int 0))) xNil)))) xNil))))) sNil)
 (sSeq (sIf (xT (xB gEq (xV 1) (xC (.str "write")))) (sRet (xU (xLst (xCons (xC (.str "told")) (xCons (xIf (xT (xV 3)) (xF (xMeth "Disk" "write" f_Disk_write (some [0, 2, 1]) (xV 0) (xKw 0 2 xNil (xCons (xB gIdx (xV 2) (xC (.int 1))) (xCons (xB gIdx (xV 2) (xC (.int 0))) xNil))))) (xF (xMeth "Disk" "write" f_Disk_write none (xV 0) (xCons (xB gIdx (xV 2) (xC (.int 0))) (xCons (xB gIdx (xV 2) (xC (.int 1))) xNil))))) xNil))))) sNil)
 (sSeq (sIf (xT (xB gEq (xV 1) (xC (.str "stop")))) (sRet (xU (xLst (xCons (xC (.str "told")) (xCons (xIf (xT (xV 3)) (xF (xMeth "Disk" "stop" f_Disk_stop (some [0, 1]) (xV 0) (xKw 0 1 xNil (xCons (xB gIdx (xV 2) (xC (.int 0))) xNil)))) (xF (xMeth "Disk" "stop" f_Disk_stop none (xV 0) (xCons (xB gIdx (xV 2) (xC (.int 0))) xNil)))) xNil))))) sNil)
 (sSeq (sIf (xT (xB gEq (xV 1) (xC (.str "cut")))) (sRet (xU (xLst (xCons (xC (.str "told")) (xCons (xIf (xT (xV 3)) (xF (xMeth "Disk" "cut" f_Disk_cut (some [0, 1]) (xV 0) (xKw 0 1 xNil (xCons (xB gIdx (xV 2) (xC (.int 0))) xNil)))) (xF (xMeth "Disk" "cut" f_Disk_cut none (xV 0) (xCons (xB gIdx (xV 2) (xC (.int 0))) xNil)))) xNil))))) sNil)
 (sRet (xU (xLst (xCons (xC (.str "told")) (xCons (xF (xMeth "Disk" "settle" f_Disk_settle none (xV 0) xNil)) xNil))))))))) [⟨[("InvalidPage", true), ("InvalidText", false), ("InvalidMany", false), ("InvalidDone", false), ("PowerCut", false)], some 4, fun n c fl => (sRet (xU (xLst (xCons (xC (.str "page")) (xCons (xExF 4 n ["InvalidPage"] "given" c fl) (xCons (xExI 4 n [("InvalidPage", true)] c) xNil))))))⟩, ⟨[("InvalidPage", false), ("InvalidText", true), ("InvalidMany", false), ("InvalidDone", false), ("PowerCut", false)], some 4, fun n c fl => (sRet (xU (xLst (xCons (xC (.str "text")) (xCons (xExF 4 n ["InvalidText"] "given" c fl) (xCons (xExI 4 n [("InvalidText", true)] c) xNil))))))⟩, ⟨[("InvalidPage", false), ("InvalidText", false), ("InvalidMany", true), ("InvalidDone", false), ("PowerCut", false)], some 4, fun n c fl => (sRet (xU (xLst (xCons (xC (.str "many")) (xCons (xExF 4 n ["InvalidMany"] "given" c fl) (xCons (xExI 4 n [("InvalidMany", true)] c) xNil))))))⟩, ⟨[("InvalidPage", false), ("InvalidText", false), ("InvalidMany", false), ("InvalidDone", true), ("PowerCut", false)], some 4, fun n c fl => (sRet (xU (xLst (xCons (xC (.str "done")) (xCons (xExF 4 n ["InvalidDone"] "given" c fl) (xCons (xExI 4 n [("InvalidDone", true)] c) xNil))))))⟩, ⟨[("InvalidPage", false), ("InvalidText", false), ("InvalidMany", false), ("InvalidDone", false), ("PowerCut", true)], some 4, fun n c fl => (sRet (xU (xLst (xCons (xC (.str "cut")) (xCons (xExI 4 n [("PowerCut", true)] c) xNil)))))⟩])
def f__law_met : Mf := fnM P__law_met.length N__law_met.length M__law_met
theorem ar__law_met : Ar f__law_met P__law_met.length := fnM_ar
/-! ### _law_made -/
abbrev N__law_made : List Str := ["pages", "width", "by_name", "e"]
abbrev P__law_made : List Str := ["pages", "width", "by_name"]
def M__law_made : XS := (sTry (sRet (xU (xLst (xCons (xC (.str "told")) (xCons (xIf (xT (xV 2)) (xF (xMake "Disk" f_Disk___init__ (some [0, 2, 1]) (xKw 0 2 xNil (xCons (xV 1) (xCons (xV 0) xNil))))) (xF (xMake "Disk" f_Disk___init__ none (xCons (xV 0) (xCons (xV 1) xNil))))) xNil))))) [⟨[("InvalidPages", true), ("InvalidWidth", false)], some 3, fun n c fl => (sRet (xU (xLst (xCons (xC (.str "pages")) (xCons (xExF 3 n ["InvalidPages"] "given" c fl) (xCons (xExI 3 n [("InvalidPages", true)] c) xNil))))))⟩, ⟨[("InvalidPages", false), ("InvalidWidth", true)], some 3, fun n c fl => (sRet (xU (xLst (xCons (xC (.str "width")) (xCons (xExF 3 n ["InvalidWidth"] "given" c fl) (xCons (xExI 3 n [("InvalidWidth", true)] c) xNil))))))⟩])
def f__law_made : Mf := fnM P__law_made.length N__law_made.length M__law_made
theorem ar__law_made : Ar f__law_made P__law_made.length := fnM_ar
/-! ### _law_is_disk -/
abbrev N__law_is_disk : List Str := ["disk", "own", "page", "text"]
abbrev P__law_is_disk : List Str := ["disk", "own"]
def M__law_is_disk : XS := (sSeq (sIf (xNot (xT (xF (xCall (f__law_same 8) none (xCons (xLst (xCons (xFld ["Disk"] "pages" (xV 0)) (xCons (xFld ["Disk"] "width" (xV 0)) (xCons (xF (xMeth "Disk" "loose" f_Disk_loose none (xV 0) xNil)) xNil)))) (xCons (xLst (xCons (xB gIdx (xV 1) (xC (.int 0))) (xCons (xB gIdx (xV 1) (xC (.int 1))) (xCons (xF (xComp [2, 3] (xI (xB gIdx (xV 1) (xC (.int 4)))) (.tp (.cons (.nm 2) (.cons (.nm 3) .nil))) xYes (xV 2))) xNil)))) xNil)))))) (sRet (xU (xC (.bl false)))) sNil)
 (sSeq (sEx (xU (xApp false (xLo (xAd (xMeth "Disk" "loose" f_Disk_loose none (xV 0) xNil))) (xU (xC .non)))))
 (sRet (xU (xB gEq (xF (xComp [2] (xR1 (xCons (xB gIdx (xV 1) (xC (.int 0))) xNil)) (.nm 2) (xNot (xT (xF (xCall (f__law_same 8) none (xCons (xF (xMeth "Disk" "text" f_Disk_text none (xV 0) (xCons (xV 2) xNil))) (xCons (xB gIdx (xB gIdx (xV 1) (xC (.int 2))) (xV 2)) xNil)))))) (xV 2))) (xLst xNil))))))
def f__law_is_disk : Mf := fnM P__law_is_disk.length N__law_is_disk.length M__law_is_disk
theorem ar__law_is_disk : Ar f__law_is_disk P__law_is_disk.length := fnM_ar
/-! ### _law_put -/
abbrev N__law_put : List Str := ["texts", "page", "text"]
abbrev P__law_put : List Str := ["texts", "page", "text"]
def M__law_put : XS := (sRet (xU (xB gAdd (xB gAdd (xSl (xV 0) xP0 (xP1 (xV 1))) (xLst (xCons (xV 2) xNil))) (xSl (xV 0) (xP1 (xB gAdd (xV 1) (xC (.int 1)))) xP0))))
def f__law_put : Mf := fnM P__law_put.length N__law_put.length M__law_put
theorem ar__law_put : Ar f__law_put P__law_put.length := fnM_ar
/-! ### _law_text -/
abbrev N__law_text : List Str := ["box", "width", "signs", "many", "first"]
abbrev P__law_text : List Str := ["box", "width"]
def M__law_text : XS := (sSeq (sAsg (xU (xC (.str " ~aZ0!."))) (xgN false 2))
 (sSeq (sAsg (xU (xB gIdx (xLst (xCons (xC (.int 0)) (xCons (xC (.int 1)) (xCons (xV 1) (xCons (xF (xCall f__law_take none (xCons (xV 0) (xCons (xB gAdd (xV 1) (xC (.int 1))) xNil)))) (xCons (xF (xCall f__law_take none (xCons (xV 0) (xCons (xC (.int 4)) xNil)))) xNil)))))) (xF (xCall f__law_take none (xCons (xV 0) (xCons (xC (.int 5)) xNil)))))) (xgN false 3))
 (sSeq (sAsg (xU (xF (xCall f__law_take none (xCons (xV 0) (xCons (xC (.int 7)) xNil))))) (xgN false 4))
 (sRet (xU (xB gAdd (xB gMul (xB gAdd (xSl (xV 2) (xP1 (xV 4)) xP0) (xSl (xV 2) xP0 (xP1 (xV 4)))) (xB gDiv (xV 3) (xC (.int 7)))) (xSl (xV 2) xP0 (xP1 (xB gSub (xV 3) (xB gMul (xB gDiv (xV 3) (xC (.int 7))) (xC (.int 7))))))))))))
def f__law_text : Mf := fnM P__law_text.length N__law_text.length M__law_text
theorem ar__law_text : Ar f__law_text P__law_text.length := fnM_ar
/-! ### _law_no_text -/
abbrev N__law_no_text : List Str := ["box", "width", "odd"]
abbrev P__law_no_text : List Str := ["box", "width"]
def M__law_no_text : XS := (sSeq (sAsg (xU (xLst (xCons (xC .non) (xCons (xB gMul (xC (.str "x")) (xB gAdd (xV 1) (xC (.int 1)))) (xCons (xC (.int 5)) (xCons (xLst (xCons (xC (.str "x")) xNil)) (xCons (xTup (xCons (xC (.str "x")) xNil)) (xCons (xC (.str "a\nb")) (xCons (xC (.str "a\tb")) (xCons (xC (.dct [])) (xCons (xC (.bl true)) xNil))))))))))) (xgN false 2))
 (sRet (xU (xB gIdx (xV 2) (xF (xCall f__law_take none (xCons (xV 0) (xCons (xC (.int 9)) xNil))))))))
def f__law_no_text : Mf := fnM P__law_no_text.length N__law_no_text.length M__law_no_text
theorem ar__law_no_text : Ar f__law_no_text P__law_no_text.length := fnM_ar
/-! ### _law_no_page -/
abbrev N__law_no_page : List Str := ["box", "pages"]
abbrev P__law_no_page : List Str := ["box", "pages"]
def M__law_no_page : XS := (sRet (xU (xB gIdx (xLst (xCons (xC .non) (xCons (xUn gNeg (xC (.int 1))) (xCons (xV 1) (xCons (xC (.bl true)) (xCons (xC (.str "0")) (xCons (xTup (xCons (xC (.int 0)) xNil)) (xCons (xLst (xCons (xC (.int 0)) xNil)) (xCons (xC (.dct [])) (xCons (xB gPow (xC (.int 10)) (xC (.int 19))) xNil)))))))))) (xF (xCall f__law_take none (xCons (xV 0) (xCons (xC (.int 9)) xNil)))))))
def f__law_no_page : Mf := fnM P__law_no_page.length N__law_no_page.length M__law_no_page
theorem ar__law_no_page : Ar f__law_no_page P__law_no_page.length := fnM_ar
/-! ### _law_cut_right -/
abbrev N__law_cut_right : List Str := ["box", "disk", "own", "by_name", "many", "places", "told", "texts", "k", "fresh", "odd"]
abbrev P__law_cut_right : List Str := ["box", "disk", "own", "by_name"]
def M__law_cut_right : XS := (sSeq (sAsg (xU (xG gLen (xCons (xB gIdx (xV 2) (xC (.int 4))) xNil))) (xgN false 4))
 (sSeq (sAsg (xComp [8] (xR1 (xCons (xV 4) xNil)) (.nm 8) (xT (xB gEq (xF (xCall f__law_take none (xCons (xV 0) (xCons (xC (.int 2)) xNil)))) (xC (.int 0)))) (xV 8)) (xgN false 5))
 (sSeq (sAsg (xU (xB gIdx (xLst (xCons (xV 5) (xCons (xLst xNil) (xCons (xF (xListR (xV 4))) xNil)))) (xF (xCall f__law_take none (xCons (xV 0) (xCons (xC (.int 3)) xNil)))))) (xgN false 5))
 (sSeq (sAsg (xU (xF (xCall f__law_met none (xCons (xV 1) (xCons (xC (.str "cut")) (xCons (xLst (xCons (xIf (xT (xB gEq (xF (xCall f__law_take none (xCons (xV 0) (xCons (xC (.int 2)) xNil)))) (xC (.int 0)))) (xV 5) (xG gTuple (xCons (xV 5) xNil))) xNil)) (xCons (xV 3) xNil))))))) (xgN false 6))
 (sSeq (sIf (xOr (xT (xB gNe (xB gIdx (xV 6) (xC (.int 0))) (xC (.str "told")))) (xNot (xT (xIsO [("Disk", true)] (xB gIdx (xV 6) (xC (.int 1))))))) (sRet (xU (xC .non))) sNil)
 (sSeq (sAsg (xU (xB gIdx (xV 2) (xC (.int 3)))) (xgN false 7))
 (sSeq (sFor (xI (xV 5)) (xgN false 8) (sAsg (xU (xF (xCall f__law_put none (xCons (xV 7) (xCons (xB gIdx (xB gIdx (xB gIdx (xV 2) (xC (.int 4))) (xV 8)) (xC (.int 0))) (xCons (xB gIdx (xB gIdx (xB gIdx (xV 2) (xC (.int 4))) (xV 8)) (xC (.int 1))) xNil)))))) (xgN false 7)))
 (sSeq (sAsg (xU (xLst (xCons (xB gIdx (xV 2) (xC (.int 0))) (xCons (xB gIdx (xV 2) (xC (.int 1))) (xCons (xV 7) (xCons (xV 7) (xCons (xLst xNil) (xCons (xC .non) xNil)))))))) (xgN false 9))
 (sSeq (sIf (xOr (xNot (xT (xF (xCall f__law_is_disk none (xCons (xB gIdx (xV 6) (xC (.int 1))) (xCons (xV 9) xNil)))))) (xNot (xT (xF (xCall f__law_is_disk none (xCons (xV 1) (xCons (xV 2) xNil))))))) (sRet (xU (xC .non))) sNil)
 (sSeq (sAsg (xU (xB gIdx (xLst (xCons (xC .non) (xCons (xLst (xCons (xV 4) xNil)) (xCons (xLst (xCons (xUn gNeg (xC (.int 1))) xNil)) (xCons (xLst (xCons (xC (.int 0)) (xCons (xC (.int 0)) xNil))) (xCons (xLst (xCons (xC (.int 1)) (xCons (xC (.int 0)) xNil))) (xCons (xLst (xCons (xC (.bl true)) xNil)) (xCons (xLst (xCons (xC (.str "0")) xNil)) (xCons (xC (.int 5)) (xCons (xC (.dct [])) (xCons (xC (.str "0")) (xCons (xLst (xCons (xC .non) xNil)) xNil)))))))))))) (xF (xCall f__law_take none (xCons (xV 0) (xCons (xC (.int 11)) xNil)))))) (xgN false 10))
 (sSeq (sIf (xNot (xT (xF (xCall (f__law_same 8) none (xCons (xF (xCall f__law_met none (xCons (xV 1) (xCons (xC (.str "cut")) (xCons (xLst (xCons (xV 10) xNil)) (xCons (xV 3) xNil)))))) (xCons (xLst (xCons (xC (.str "done")) (xCons (xV 10) (xCons (xC (.bl true)) xNil)))) xNil)))))) (sRet (xU (xC .non))) sNil)
 (sRet (xU (xLst (xCons (xB gIdx (xV 6) (xC (.int 1))) (xCons (xV 9) xNil))))))))))))))))
def f__law_cut_right : Mf := fnM P__law_cut_right.length N__law_cut_right.length M__law_cut_right
theorem ar__law_cut_right : Ar f__law_cut_right P__law_cut_right.length := fnM_ar
/-! ### _law_step -/
abbrev N__law_step : List Str := ["box", "disk", "own", "by_name", "told", "way", "page", "text", "many", "odd", "none", "due"]
abbrev P__law_step : List Str := ["box", "disk", "own", "by_name"]
def M__law_step : XS := (sSeq (sPar false false 5 6 (xoCons (xU (xF (xCall f__law_take none (xCons (xV 0) (xCons (xC (.int 10)) xNil))))) (xoCons (xU (xF (xCall f__law_take none (xCons (xV 0) (xCons (xB gIdx (xV 2) (xC (.int 0))) xNil))))) xoNil)))
 (sSeq (sIf (xT (xB gLt (xV 5) (xC (.int 4)))) (sSeq (sAsg (xU (xF (xCall f__law_text none (xCons (xV 0) (xCons (xB gIdx (xV 2) (xC (.int 1))) xNil))))) (xgN false 7))
 (sSeq (sPar false false 4 11 (xoCons (xU (xF (xCall f__law_met none (xCons (xV 1) (xCons (xC (.str "write")) (xCons (xLst (xCons (xV 6) (xCons (xV 7) xNil))) (xCons (xV 3) xNil))))))) (xoCons (xU (xIf (xT (xB gNe (xB gIdx (xV 2) (xC (.int 5))) (xC (.int 0)))) (xLst (xCons (xC (.str "told")) (xCons (xC .non) xNil))) (xLst (xCons (xC (.str "cut")) (xCons (xC (.bl true)) xNil))))) xoNil)))
 (sSeq (sIf (xT (xB gNe (xB gIdx (xV 2) (xC (.int 5))) (xC (.int 0)))) (sAsg (xU (xLst (xCons (xB gIdx (xV 2) (xC (.int 0))) (xCons (xB gIdx (xV 2) (xC (.int 1))) (xCons (xF (xCall f__law_put none (xCons (xB gIdx (xV 2) (xC (.int 2))) (xCons (xV 6) (xCons (xV 7) xNil))))) (xCons (xB gIdx (xV 2) (xC (.int 3))) (xCons (xB gAdd (xB gIdx (xV 2) (xC (.int 4))) (xLst (xCons (xTup (xCons (xV 6) (xCons (xV 7) xNil))) xNil))) (xCons (xIf (xT (xB gIs (xB gIdx (xV 2) (xC (.int 5))) (xC .non))) (xC .non) (xB gSub (xB gIdx (xV 2) (xC (.int 5))) (xC (.int 1)))) xNil)))))))) (xgN false 2)) sNil)
 (sRet (xU (xIf (xT (xF (xCall (f__law_same 8) none (xCons (xV 4) (xCons (xV 11) xNil))))) (xV 2) (xC .non))))))) sNil)
 (sSeq (sIf (xT (xB gLt (xV 5) (xC (.int 6)))) (sSeq (sPar false false 4 11 (xoCons (xU (xF (xCall f__law_met none (xCons (xV 1) (xCons (xC (.str "settle")) (xCons (xLst xNil) (xCons (xV 3) xNil))))))) (xoCons (xU (xIf (xT (xB gNe (xB gIdx (xV 2) (xC (.int 5))) (xC (.int 0)))) (xLst (xCons (xC (.str "told")) (xCons (xC .non) xNil))) (xLst (xCons (xC (.str "cut")) (xCons (xC (.bl true)) xNil))))) xoNil)))
 (sSeq (sIf (xT (xB gNe (xB gIdx (xV 2) (xC (.int 5))) (xC (.int 0)))) (sAsg (xU (xLst (xCons (xB gIdx (xV 2) (xC (.int 0))) (xCons (xB gIdx (xV 2) (xC (.int 1))) (xCons (xB gIdx (xV 2) (xC (.int 2))) (xCons (xB gIdx (xV 2) (xC (.int 2))) (xCons (xLst xNil) (xCons (xIf (xT (xB gIs (xB gIdx (xV 2) (xC (.int 5))) (xC .non))) (xC .non) (xB gSub (xB gIdx (xV 2) (xC (.int 5))) (xC (.int 1)))) xNil)))))))) (xgN false 2)) sNil)
 (sRet (xU (xIf (xT (xF (xCall (f__law_same 8) none (xCons (xV 4) (xCons (xV 11) xNil))))) (xV 2) (xC .non)))))) sNil)
 (sSeq (sIf (xT (xB gEq (xV 5) (xC (.int 6)))) (sSeq (sAsg (xU (xB gIdx (xLst (xCons (xC .non) (xCons (xC (.int 0)) (xCons (xC (.int 1)) (xCons (xB gAdd (xC (.int 1)) (xF (xCall f__law_take none (xCons (xV 0) (xCons (xC (.int 5)) xNil))))) (xCons (xB gPow (xC (.int 10)) (xC (.int 19))) xNil)))))) (xF (xCall f__law_take none (xCons (xV 0) (xCons (xC (.int 5)) xNil)))))) (xgN false 8))
 (sRet (xU (xIf (xT (xF (xCall (f__law_same 8) none (xCons (xF (xCall f__law_met none (xCons (xV 1) (xCons (xC (.str "stop")) (xCons (xLst (xCons (xV 8) xNil)) (xCons (xV 3) xNil)))))) (xCons (xLst (xCons (xC (.str "told")) (xCons (xC .non) xNil))) xNil))))) (xB gAdd (xSl (xV 2) xP0 (xP1 (xC (.int 5)))) (xLst (xCons (xV 8) xNil))) (xC .non))))) sNil)
 (sSeq (sIf (xT (xB gEq (xV 5) (xC (.int 7)))) (sSeq (sAsg (xU (xB gIdx (xLst (xCons (xUn gNeg (xC (.int 1))) (xCons (xC (.bl true)) (xCons (xC (.str "1")) (xCons (xTup (xCons (xC (.int 1)) xNil)) (xCons (xLst (xCons (xC (.int 1)) xNil)) (xCons (xC (.dct [])) (xCons (xC (.bl false)) xNil)))))))) (xF (xCall f__law_take none (xCons (xV 0) (xCons (xC (.int 7)) xNil)))))) (xgN false 9))
 (sRet (xU (xIf (xT (xF (xCall (f__law_same 8) none (xCons (xF (xCall f__law_met none (xCons (xV 1) (xCons (xC (.str "stop")) (xCons (xLst (xCons (xV 9) xNil)) (xCons (xV 3) xNil)))))) (xCons (xLst (xCons (xC (.str "many")) (xCons (xV 9) (xCons (xC (.bl true)) xNil)))) xNil))))) (xV 2) (xC .non))))) sNil)
 (sSeq (sPar false false 10 7 (xoCons (xU (xF (xCall f__law_no_page none (xCons (xV 0) (xCons (xB gIdx (xV 2) (xC (.int 0))) xNil))))) (xoCons (xU (xF (xCall f__law_no_text none (xCons (xV 0) (xCons (xB gIdx (xV 2) (xC (.int 1))) xNil))))) xoNil)))
 (sSeq (sAsg (xU (xLst (xCons (xF (xCall f__law_met none (xCons (xV 1) (xCons (xC (.str "write")) (xCons (xLst (xCons (xV 10) (xCons (xV 7) xNil))) (xCons (xV 3) xNil)))))) (xCons (xF (xCall f__law_met none (xCons (xV 1) (xCons (xC (.str "write")) (xCons (xLst (xCons (xV 6) (xCons (xV 7) xNil))) (xCons (xNotV (xV 3)) xNil)))))) (xCons (xF (xCall f__law_met none (xCons (xV 1) (xCons (xC (.str "text")) (xCons (xLst (xCons (xV 10) xNil)) (xCons (xV 3) xNil)))))) xNil))))) (xgN false 4))
 (sRet (xU (xIf (xT (xF (xCall (f__law_same 8) none (xCons (xV 4) (xCons (xLst (xCons (xLst (xCons (xC (.str "page")) (xCons (xV 10) (xCons (xC (.bl true)) xNil)))) (xCons (xLst (xCons (xC (.str "text")) (xCons (xV 7) (xCons (xC (.bl true)) xNil)))) (xCons (xLst (xCons (xC (.str "page")) (xCons (xV 10) (xCons (xC (.bl true)) xNil)))) xNil)))) xNil))))) (xV 2) (xC .non)))))))))))
def f__law_step : Mf := fnM P__law_step.length N__law_step.length M__law_step
theorem ar__law_step : Ar f__law_step P__law_step.length := fnM_ar
/-! ### _law_life_right -/
abbrev N__law_life_right : List Str := ["box", "by_name", "made", "turn", "pages", "width", "disk", "own", "pair"]
abbrev P__law_life_right : List Str := ["box", "by_name"]
def M__law_life_right : XS := (sSeq (sPar false false 4 5 (xoCons (xU (xB gIdx (xLst (xCons (xC (.int 4)) (xCons (xC (.int 5)) (xCons (xB gAdd (xC (.int 4)) (xF (xCall f__law_take none (xCons (xV 0) (xCons (xC (.int 9)) xNil))))) (xCons (xC (.int 60)) xNil))))) (xB gIdx (xLst (xCons (xC (.int 0)) (xCons (xC (.int 1)) (xCons (xC (.int 2)) (xCons (xC (.int 2)) (xCons (xC (.int 2)) (xCons (xC (.int 2)) (xCons (xC (.int 2)) (xCons (xC (.int 3)) xNil))))))))) (xF (xCall f__law_take none (xCons (xV 0) (xCons (xC (.int 8)) xNil))))))) (xoCons (xU (xB gIdx (xLst (xCons (xC (.int 40)) (xCons (xC (.int 400)) (xCons (xB gAdd (xC (.int 40)) (xF (xCall f__law_take none (xCons (xV 0) (xCons (xC (.int 60)) xNil))))) xNil)))) (xF (xCall f__law_take none (xCons (xV 0) (xCons (xC (.int 3)) xNil)))))) xoNil)))
 (sSeq (sAsg (xU (xF (xCall f__law_made none (xCons (xV 4) (xCons (xV 5) (xCons (xV 1) xNil)))))) (xgN false 2))
 (sSeq (sIf (xT (xB gNe (xB gIdx (xV 2) (xC (.int 0))) (xC (.str "told")))) (sRet (xU (xC (.bl false)))) sNil)
 (sSeq (sPar false false 6 7 (xoCons (xU (xB gIdx (xV 2) (xC (.int 1)))) (xoCons (xU (xLst (xCons (xV 4) (xCons (xV 5) (xCons (xB gMul (xLst (xCons (xC (.str "")) xNil)) (xV 4)) (xCons (xB gMul (xLst (xCons (xC (.str "")) xNil)) (xV 4)) (xCons (xLst xNil) (xCons (xC .non) xNil)))))))) xoNil)))
 (sSeq (sFor (xR1 (xCons (xB gAdd (xC (.int 14)) (xF (xCall f__law_take none (xCons (xV 0) (xCons (xC (.int 10)) xNil))))) xNil)) (xgN false 3) (sSeq (sAsg (xU (xF (xCall f__law_step none (xCons (xV 0) (xCons (xV 6) (xCons (xV 7) (xCons (xV 1) xNil))))))) (xgN false 7))
 (sSeq (sIf (xOr (xT (xB gIs (xV 7) (xC .non))) (xNot (xT (xF (xCall f__law_is_disk none (xCons (xV 6) (xCons (xV 7) xNil))))))) (sRet (xU (xC (.bl false)))) sNil)
 (sSeq (sIf (xT (xB gEq (xF (xCall f__law_take none (xCons (xV 0) (xCons (xC (.int 5)) xNil)))) (xC (.int 0)))) (sSeq (sAsg (xU (xF (xCall f__law_cut_right none (xCons (xV 0) (xCons (xV 6) (xCons (xV 7) (xCons (xV 1) xNil))))))) (xgN false 8))
 (sSeq (sIf (xT (xB gIs (xV 8) (xC .non))) (sRet (xU (xC (.bl false)))) sNil)
 (sAsg (xU (xIf (xT (xB gEq (xF (xCall f__law_take none (xCons (xV 0) (xCons (xC (.int 2)) xNil)))) (xC (.int 0)))) (xV 8) (xLst (xCons (xV 6) (xCons (xV 7) xNil))))) (xgT 2 (xgsCons (xgN false 6) (xgsCons (xgN false 7) xgsNil)))))) sNil)
 (sAsg (xU (xNotV (xV 1))) (xgN false 1))))))
 (sRet (xU (xAndV (xF (xCall (f__law_same 8) none (xCons (xF (xCall f__law_met none (xCons (xV 6) (xCons (xC (.str "stop")) (xCons (xLst (xCons (xC .non) xNil)) (xCons (xV 1) xNil)))))) (xCons (xLst (xCons (xC (.str "told")) (xCons (xC .non) xNil))) xNil)))) (xAndV (xF (xCall (f__law_same 8) none (xCons (xF (xCall f__law_met none (xCons (xV 6) (xCons (xC (.str "settle")) (xCons (xLst xNil) (xCons (xV 1) xNil)))))) (xCons (xLst (xCons (xC (.str "told")) (xCons (xC .non) xNil))) xNil)))) (xF (xCall f__law_is_disk none (xCons (xV 6) (xCons (xB gAdd (xSl (xV 7) xP0 (xP1 (xC (.int 4)))) (xLst (xCons (xLst xNil) (xCons (xC .non) xNil)))) xNil)))))))))))))
def f__law_life_right : Mf := fnM P__law_life_right.length N__law_life_right.length M__law_life_right
theorem ar__law_life_right : Ar f__law_life_right P__law_life_right.length := fnM_ar
/-! ### law -/
abbrev N_law : List Str := ["script", "k", "box", "by_name", "odd", "thin", "told"]
abbrev P_law : List Str := ["script"]
def M_law : XS := (sSeq (sFor (xR1 (xCons (xC (.int 2)) xNil)) (xgN false 1) (sSeq (sAsg (xU (xAd (xCall f__law_box none (xCons (xF (xCall f__law_cell none (xCons (xV 0) (xCons (xV 1) xNil)))) xNil)))) (xgN false 2))
 (sSeq (sAsg (xU (xB gEq (xF (xCall f__law_take none (xCons (xV 2) (xCons (xC (.int 2)) xNil)))) (xC (.int 1)))) (xgN false 3))
 (sSeq (sIf (xOr (xNot (xT (xF (xCall f__law_life_right none (xCons (xV 2) (xCons (xV 3) xNil)))))) (xNot (xT (xF (xCall f__law_life_right none (xCons (xV 2) (xCons (xNotV (xV 3)) xNil))))))) (sRet (xU (xC (.bl false)))) sNil)
 (sSeq (sAsg (xU (xB gIdx (xLst (xCons (xC .non) (xCons (xC (.int 3)) (xCons (xC (.int 61)) (xCons (xC (.bl true)) (xCons (xC (.str "4")) (xCons (xTup (xCons (xC (.int 4)) xNil)) (xCons (xC (.dct [])) (xCons (xUn gNeg (xC (.int 1))) xNil))))))))) (xF (xCall f__law_take none (xCons (xV 2) (xCons (xC (.int 8)) xNil)))))) (xgN false 4))
 (sSeq (sAsg (xU (xB gIdx (xLst (xCons (xC .non) (xCons (xC (.int 39)) (xCons (xC (.int 401)) (xCons (xC (.bl true)) (xCons (xC (.str "40")) (xCons (xTup (xCons (xC (.int 40)) xNil)) (xCons (xC (.dct [])) (xCons (xC (.int 0)) xNil))))))))) (xF (xCall f__law_take none (xCons (xV 2) (xCons (xC (.int 8)) xNil)))))) (xgN false 5))
 (sSeq (sAsg (xU (xLst (xCons (xF (xCall f__law_made none (xCons (xV 4) (xCons (xV 5) (xCons (xV 3) xNil))))) (xCons (xF (xCall f__law_made none (xCons (xC (.int 4)) (xCons (xV 5) (xCons (xNotV (xV 3)) xNil))))) (xCons (xF (xCall f__law_made none (xCons (xC (.int 60)) (xCons (xV 5) (xCons (xV 3) xNil))))) xNil))))) (xgN false 6))
 (sIf (xNot (xT (xF (xCall (f__law_same 8) none (xCons (xV 6) (xCons (xLst (xCons (xLst (xCons (xC (.str "pages")) (xCons (xV 4) (xCons (xC (.bl true)) xNil)))) (xCons (xLst (xCons (xC (.str "width")) (xCons (xV 5) (xCons (xC (.bl true)) xNil)))) (xCons (xLst (xCons (xC (.str "width")) (xCons (xV 5) (xCons (xC (.bl true)) xNil)))) xNil)))) xNil)))))) (sRet (xU (xC (.bl false)))) sNil))))))))
 (sRet (xU (xC (.bl true)))))
def f_law : Mf := fnM P_law.length N_law.length M_law
theorem ar_law : Ar f_law P_law.length := fnM_ar
end K75
end
section
set_option Elab.async false
set_option linter.all false
set_option maxRecDepth 100000
set_option maxHeartbeats 4000000
/-! printed by emit.py -/
namespace K75
open PySem PySem.Spec PyProof.Rows L2 Mi
open He (ga ma fAd)
abbrev pr : Program := PySem.Challenge.pw_tropicbench_k75_disks_and_cuts
abbrev top (i : Nat) : Stmt := pr.main.body.getD i (.Pass ⟨0, 0, 0, 0⟩)
abbrev inner (st : Stmt) (j : Nat) : Stmt := match st with
  | .ClassDef _ _ _ b _ _ _ _ _ _ _ => b.getD j (.Pass ⟨0, 0, 0, 0⟩)
  | s => s
abbrev st_is_integer : Stmt := (top 11)
theorem sc_is_integer : FnScope N_is_integer P_is_integer (defScope st_is_integer) := ⟨rfl, rfl, rfl, by decide +kernel, rfl, by decide +kernel, by decide +kernel⟩
abbrev D_is_integer : He.DefD := ⟨("is_integer", none), "is_integer", "is_integer", defArgs st_is_integer, defBody st_is_integer, defScope st_is_integer, [], []⟩
abbrev st_is_between : Stmt := (top 12)
theorem sc_is_between : FnScope N_is_between P_is_between (defScope st_is_between) := ⟨rfl, rfl, rfl, by decide +kernel, rfl, by decide +kernel, by decide +kernel⟩
abbrev D_is_between : He.DefD := ⟨("is_between", none), "is_between", "is_between", defArgs st_is_between, defBody st_is_between, defScope st_is_between, [], []⟩
abbrev st_is_list : Stmt := (top 13)
theorem sc_is_list : FnScope N_is_list P_is_list (defScope st_is_list) := ⟨rfl, rfl, rfl, by decide +kernel, rfl, by decide +kernel, by decide +kernel⟩
abbrev D_is_list : He.DefD := ⟨("is_list", none), "is_list", "is_list", defArgs st_is_list, defBody st_is_list, defScope st_is_list, [], []⟩
abbrev st_is_page_text : Stmt := (top 19)
theorem sc_is_page_text : FnScope N_is_page_text P_is_page_text (defScope st_is_page_text) := ⟨rfl, rfl, rfl, by decide +kernel, rfl, by decide +kernel, by decide +kernel⟩
abbrev D_is_page_text : He.DefD := ⟨("is_page_text", none), "is_page_text", "is_page_text", defArgs st_is_page_text, defBody st_is_page_text, defScope st_is_page_text, [], []⟩
abbrev st_are_places : Stmt := (top 21)
theorem sc_are_places : FnScope N_are_places P_are_places (defScope st_are_places) := ⟨rfl, rfl, rfl, by decide +kernel, rfl, by decide +kernel, by decide +kernel⟩
abbrev D_are_places : He.DefD := ⟨("are_places", none), "are_places", "are_places", defArgs st_are_places, defBody st_are_places, defScope st_are_places, [], []⟩
abbrev st_Disk___init__ : Stmt := (inner (top 20) 0)
theorem sc_Disk___init__ : FnScope N_Disk___init__ P_Disk___init__ (defScope st_Disk___init__) := ⟨rfl, rfl, rfl, by decide +kernel, rfl, by decide +kernel, by decide +kernel⟩
abbrev D_Disk___init__ : He.DefD := ⟨("Disk", some "__init__"), "__init__", "Disk.__init__", defArgs st_Disk___init__, defBody st_Disk___init__, defScope st_Disk___init__, [], []⟩
abbrev st_Disk_check_page : Stmt := (inner (top 20) 1)
theorem sc_Disk_check_page : FnScope N_Disk_check_page P_Disk_check_page (defScope st_Disk_check_page) := ⟨rfl, rfl, rfl, by decide +kernel, rfl, by decide +kernel, by decide +kernel⟩
abbrev D_Disk_check_page : He.DefD := ⟨("Disk", some "check_page"), "check_page", "Disk.check_page", defArgs st_Disk_check_page, defBody st_Disk_check_page, defScope st_Disk_check_page, [], []⟩
abbrev st_Disk_spend : Stmt := (inner (top 20) 2)
theorem sc_Disk_spend : FnScope N_Disk_spend P_Disk_spend (defScope st_Disk_spend) := ⟨rfl, rfl, rfl, by decide +kernel, rfl, by decide +kernel, by decide +kernel⟩
abbrev D_Disk_spend : He.DefD := ⟨("Disk", some "spend"), "spend", "Disk.spend", defArgs st_Disk_spend, defBody st_Disk_spend, defScope st_Disk_spend, [], []⟩
abbrev st_Disk_text : Stmt := (inner (top 20) 3)
theorem sc_Disk_text : FnScope N_Disk_text P_Disk_text (defScope st_Disk_text) := ⟨rfl, rfl, rfl, by decide +kernel, rfl, by decide +kernel, by decide +kernel⟩
abbrev D_Disk_text : He.DefD := ⟨("Disk", some "text"), "text", "Disk.text", defArgs st_Disk_text, defBody st_Disk_text, defScope st_Disk_text, [], []⟩
abbrev st_Disk_write : Stmt := (inner (top 20) 4)
theorem sc_Disk_write : FnScope N_Disk_write P_Disk_write (defScope st_Disk_write) := ⟨rfl, rfl, rfl, by decide +kernel, rfl, by decide +kernel, by decide +kernel⟩
abbrev D_Disk_write : He.DefD := ⟨("Disk", some "write"), "write", "Disk.write", defArgs st_Disk_write, defBody st_Disk_write, defScope st_Disk_write, [], []⟩
abbrev st_Disk_settle : Stmt := (inner (top 20) 5)
theorem sc_Disk_settle : FnScope N_Disk_settle P_Disk_settle (defScope st_Disk_settle) := ⟨rfl, rfl, rfl, by decide +kernel, rfl, by decide +kernel, by decide +kernel⟩
abbrev D_Disk_settle : He.DefD := ⟨("Disk", some "settle"), "settle", "Disk.settle", defArgs st_Disk_settle, defBody st_Disk_settle, defScope st_Disk_settle, [], []⟩
abbrev st_Disk_loose : Stmt := (inner (top 20) 6)
theorem sc_Disk_loose : FnScope N_Disk_loose P_Disk_loose (defScope st_Disk_loose) := ⟨rfl, rfl, rfl, by decide +kernel, rfl, by decide +kernel, by decide +kernel⟩
abbrev D_Disk_loose : He.DefD := ⟨("Disk", some "loose"), "loose", "Disk.loose", defArgs st_Disk_loose, defBody st_Disk_loose, defScope st_Disk_loose, [], []⟩
abbrev st_Disk_stop : Stmt := (inner (top 20) 7)
theorem sc_Disk_stop : FnScope N_Disk_stop P_Disk_stop (defScope st_Disk_stop) := ⟨rfl, rfl, rfl, by decide +kernel, rfl, by decide +kernel, by decide +kernel⟩
abbrev D_Disk_stop : He.DefD := ⟨("Disk", some "stop"), "stop", "Disk.stop", defArgs st_Disk_stop, defBody st_Disk_stop, defScope st_Disk_stop, [], []⟩
abbrev st_Disk_cut : Stmt := (inner (top 20) 8)
theorem sc_Disk_cut : FnScope N_Disk_cut P_Disk_cut (defScope st_Disk_cut) := ⟨rfl, rfl, rfl, by decide +kernel, rfl, by decide +kernel, by decide +kernel⟩
abbrev D_Disk_cut : He.DefD := ⟨("Disk", some "cut"), "cut", "Disk.cut", defArgs st_Disk_cut, defBody st_Disk_cut, defScope st_Disk_cut, [], []⟩
abbrev st__law_cell : Stmt := (top 23)
theorem sc__law_cell : FnScope N__law_cell P__law_cell (defScope st__law_cell) := ⟨rfl, rfl, rfl, by decide +kernel, rfl, by decide +kernel, by decide +kernel⟩
abbrev D__law_cell : He.DefD := ⟨("_law_cell", none), "_law_cell", "_law_cell", defArgs st__law_cell, defBody st__law_cell, defScope st__law_cell, [], []⟩
abbrev st__law_box : Stmt := (top 24)
theorem sc__law_box : FnScope N__law_box P__law_box (defScope st__law_box) := ⟨rfl, rfl, rfl, by decide +kernel, rfl, by decide +kernel, by decide +kernel⟩
abbrev D__law_box : He.DefD := ⟨("_law_box", none), "_law_box", "_law_box", defArgs st__law_box, defBody st__law_box, defScope st__law_box, [], []⟩
abbrev st__law_take : Stmt := (top 25)
theorem sc__law_take : FnScope N__law_take P__law_take (defScope st__law_take) := ⟨rfl, rfl, rfl, by decide +kernel, rfl, by decide +kernel, by decide +kernel⟩
abbrev D__law_take : He.DefD := ⟨("_law_take", none), "_law_take", "_law_take", defArgs st__law_take, defBody st__law_take, defScope st__law_take, [], []⟩
abbrev st__law_same : Stmt := (top 26)
theorem sc__law_same : FnScope N__law_same P__law_same (defScope st__law_same) := ⟨rfl, rfl, rfl, by decide +kernel, rfl, by decide +kernel, by decide +kernel⟩
abbrev D__law_same : He.DefD := ⟨("_law_same", none), "_law_same", "_law_same", defArgs st__law_same, defBody st__law_same, defScope st__law_same, [], []⟩
abbrev st__law_met : Stmt := (top 27)
theorem sc__law_met : FnScope N__law_met P__law_met (defScope st__law_met) := ⟨rfl, rfl, rfl, by decide +kernel, rfl, by decide +kernel, by decide +kernel⟩
abbrev D__law_met : He.DefD := ⟨("_law_met", none), "_law_met", "_law_met", defArgs st__law_met, defBody st__law_met, defScope st__law_met, [], []⟩
abbrev st__law_made : Stmt := (top 28)
theorem sc__law_made : FnScope N__law_made P__law_made (defScope st__law_made) := ⟨rfl, rfl, rfl, by decide +kernel, rfl, by decide +kernel, by decide +kernel⟩
abbrev D__law_made : He.DefD := ⟨("_law_made", none), "_law_made", "_law_made", defArgs st__law_made, defBody st__law_made, defScope st__law_made, [], []⟩
abbrev st__law_is_disk : Stmt := (top 29)
theorem sc__law_is_disk : FnScope N__law_is_disk P__law_is_disk (defScope st__law_is_disk) := ⟨rfl, rfl, rfl, by decide +kernel, rfl, by decide +kernel, by decide +kernel⟩
abbrev D__law_is_disk : He.DefD := ⟨("_law_is_disk", none), "_law_is_disk", "_law_is_disk", defArgs st__law_is_disk, defBody st__law_is_disk, defScope st__law_is_disk, [], []⟩
abbrev st__law_put : Stmt := (top 30)
theorem sc__law_put : FnScope N__law_put P__law_put (defScope st__law_put) := ⟨rfl, rfl, rfl, by decide +kernel, rfl, by decide +kernel, by decide +kernel⟩
abbrev D__law_put : He.DefD := ⟨("_law_put", none), "_law_put", "_law_put", defArgs st__law_put, defBody st__law_put, defScope st__law_put, [], []⟩
abbrev st__law_text : Stmt := (top 31)
theorem sc__law_text : FnScope N__law_text P__law_text (defScope st__law_text) := ⟨rfl, rfl, rfl, by decide +kernel, rfl, by decide +kernel, by decide +kernel⟩
abbrev D__law_text : He.DefD := ⟨("_law_text", none), "_law_text", "_law_text", defArgs st__law_text, defBody st__law_text, defScope st__law_text, [], []⟩
abbrev st__law_no_text : Stmt := (top 32)
theorem sc__law_no_text : FnScope N__law_no_text P__law_no_text (defScope st__law_no_text) := ⟨rfl, rfl, rfl, by decide +kernel, rfl, by decide +kernel, by decide +kernel⟩
abbrev D__law_no_text : He.DefD := ⟨("_law_no_text", none), "_law_no_text", "_law_no_text", defArgs st__law_no_text, defBody st__law_no_text, defScope st__law_no_text, [], []⟩
abbrev st__law_no_page : Stmt := (top 33)
theorem sc__law_no_page : FnScope N__law_no_page P__law_no_page (defScope st__law_no_page) := ⟨rfl, rfl, rfl, by decide +kernel, rfl, by decide +kernel, by decide +kernel⟩
abbrev D__law_no_page : He.DefD := ⟨("_law_no_page", none), "_law_no_page", "_law_no_page", defArgs st__law_no_page, defBody st__law_no_page, defScope st__law_no_page, [], []⟩
abbrev st__law_cut_right : Stmt := (top 34)
theorem sc__law_cut_right : FnScope N__law_cut_right P__law_cut_right (defScope st__law_cut_right) := ⟨rfl, rfl, rfl, by decide +kernel, rfl, by decide +kernel, by decide +kernel⟩
abbrev D__law_cut_right : He.DefD := ⟨("_law_cut_right", none), "_law_cut_right", "_law_cut_right", defArgs st__law_cut_right, defBody st__law_cut_right, defScope st__law_cut_right, [], []⟩
abbrev st__law_step : Stmt := (top 35)
theorem sc__law_step : FnScope N__law_step P__law_step (defScope st__law_step) := ⟨rfl, rfl, rfl, by decide +kernel, rfl, by decide +kernel, by decide +kernel⟩
abbrev D__law_step : He.DefD := ⟨("_law_step", none), "_law_step", "_law_step", defArgs st__law_step, defBody st__law_step, defScope st__law_step, [], []⟩
abbrev st__law_life_right : Stmt := (top 36)
theorem sc__law_life_right : FnScope N__law_life_right P__law_life_right (defScope st__law_life_right) := ⟨rfl, rfl, rfl, by decide +kernel, rfl, by decide +kernel, by decide +kernel⟩
abbrev D__law_life_right : He.DefD := ⟨("_law_life_right", none), "_law_life_right", "_law_life_right", defArgs st__law_life_right, defBody st__law_life_right, defScope st__law_life_right, [], []⟩
abbrev st_law : Stmt := (top 37)
theorem sc_law : FnScope N_law P_law (defScope st_law) := ⟨rfl, rfl, rfl, by decide +kernel, rfl, by decide +kernel, by decide +kernel⟩
abbrev D_law : He.DefD := ⟨("law", none), "law", "law", defArgs st_law, defBody st_law, defScope st_law, [], []⟩
abbrev st_InvalidMany : Stmt := (inner (top 2) 0)
theorem sc_InvalidMany : FnScope ["self", "given"] ["self", "given"] (defScope st_InvalidMany) := ⟨rfl, rfl, rfl, by decide +kernel, rfl, by decide +kernel, by decide +kernel⟩
abbrev D_InvalidMany : He.DefD := ⟨("InvalidMany", some "__init__"), "__init__", "InvalidMany.__init__", defArgs st_InvalidMany, defBody st_InvalidMany, defScope st_InvalidMany, [], []⟩
abbrev st_InvalidText : Stmt := (inner (top 3) 0)
theorem sc_InvalidText : FnScope ["self", "given"] ["self", "given"] (defScope st_InvalidText) := ⟨rfl, rfl, rfl, by decide +kernel, rfl, by decide +kernel, by decide +kernel⟩
abbrev D_InvalidText : He.DefD := ⟨("InvalidText", some "__init__"), "__init__", "InvalidText.__init__", defArgs st_InvalidText, defBody st_InvalidText, defScope st_InvalidText, [], []⟩
abbrev st_InvalidDone : Stmt := (inner (top 5) 0)
theorem sc_InvalidDone : FnScope ["self", "given"] ["self", "given"] (defScope st_InvalidDone) := ⟨rfl, rfl, rfl, by decide +kernel, rfl, by decide +kernel, by decide +kernel⟩
abbrev D_InvalidDone : He.DefD := ⟨("InvalidDone", some "__init__"), "__init__", "InvalidDone.__init__", defArgs st_InvalidDone, defBody st_InvalidDone, defScope st_InvalidDone, [], []⟩
abbrev st_InvalidPage : Stmt := (inner (top 6) 0)
theorem sc_InvalidPage : FnScope ["self", "given"] ["self", "given"] (defScope st_InvalidPage) := ⟨rfl, rfl, rfl, by decide +kernel, rfl, by decide +kernel, by decide +kernel⟩
abbrev D_InvalidPage : He.DefD := ⟨("InvalidPage", some "__init__"), "__init__", "InvalidPage.__init__", defArgs st_InvalidPage, defBody st_InvalidPage, defScope st_InvalidPage, [], []⟩
abbrev st_InvalidPages : Stmt := (inner (top 7) 0)
theorem sc_InvalidPages : FnScope ["self", "given"] ["self", "given"] (defScope st_InvalidPages) := ⟨rfl, rfl, rfl, by decide +kernel, rfl, by decide +kernel, by decide +kernel⟩
abbrev D_InvalidPages : He.DefD := ⟨("InvalidPages", some "__init__"), "__init__", "InvalidPages.__init__", defArgs st_InvalidPages, defBody st_InvalidPages, defScope st_InvalidPages, [], []⟩
abbrev st_InvalidWidth : Stmt := (inner (top 8) 0)
theorem sc_InvalidWidth : FnScope ["self", "given"] ["self", "given"] (defScope st_InvalidWidth) := ⟨rfl, rfl, rfl, by decide +kernel, rfl, by decide +kernel, by decide +kernel⟩
abbrev D_InvalidWidth : He.DefD := ⟨("InvalidWidth", some "__init__"), "__init__", "InvalidWidth.__init__", defArgs st_InvalidWidth, defBody st_InvalidWidth, defScope st_InvalidWidth, [], []⟩
/-! ### facts -/
abbrev fa : List He.Fa := [.free "isinstance", .free "int", .free "bool", .glo "is_integer", .free "tuple", .free "list", .free "str", .free "len", .free "all", .glo "is_list", .glo "is_between", .free "range", .int "LEAST_PAGES" 4, .int "MOST_PAGES" 60, .int "LEAST_WIDTH" 40, .int "MOST_WIDTH" 400, .glo "Disk", .cls "Disk", .noat "Disk" "pages", .noat "Disk" "width", .noat "Disk" "lasting", .noat "Disk" "current", .noat "Disk" "written", .noat "Disk" "left", .meth "Disk" "check_page", .glo "is_page_text", .meth "Disk" "spend", .glo "are_places", .mkr "Disk", .free "sum", .free "abs", .free "dict", .glo "_law_same", .meth "Disk" "text", .meth "Disk" "write", .meth "Disk" "stop", .meth "Disk" "cut", .meth "Disk" "settle", .glo "PowerCut", .exm "PowerCut" "InvalidPage" false, .glo "InvalidDone", .exm "InvalidDone" "InvalidPage" false, .glo "InvalidMany", .exm "InvalidMany" "InvalidPage" false, .glo "InvalidText", .exm "InvalidText" "InvalidPage" false, .glo "InvalidPage", .exm "InvalidPage" "InvalidPage" true, .glo "TropicError", .exm "PowerCut" "InvalidText" false, .exm "InvalidDone" "InvalidText" false, .exm "InvalidMany" "InvalidText" false, .exm "InvalidText" "InvalidText" true, .exm "InvalidPage" "InvalidText" false, .exm "PowerCut" "InvalidMany" false, .exm "InvalidDone" "InvalidMany" false, .exm "InvalidMany" "InvalidMany" true, .exm "InvalidText" "InvalidMany" false, .exm "InvalidPage" "InvalidMany" false, .exm "PowerCut" "InvalidDone" false, .exm "InvalidDone" "InvalidDone" true, .exm "InvalidMany" "InvalidDone" false, .exm "InvalidText" "InvalidDone" false, .exm "InvalidPage" "InvalidDone" false, .exm "PowerCut" "PowerCut" true, .exm "InvalidDone" "PowerCut" false, .exm "InvalidMany" "PowerCut" false, .exm "InvalidText" "PowerCut" false, .exm "InvalidPage" "PowerCut" false, .glo "InvalidWidth", .exm "InvalidWidth" "InvalidPages" false, .glo "InvalidPages", .exm "InvalidPages" "InvalidPages" true, .exm "InvalidWidth" "InvalidWidth" true, .exm "InvalidPages" "InvalidWidth" false, .meth "Disk" "loose", .glo "_law_take", .glo "_law_met", .glo "_law_put", .glo "_law_is_disk", .glo "_law_text", .glo "_law_no_page", .glo "_law_no_text", .glo "_law_made", .glo "_law_step", .glo "_law_cut_right", .glo "_law_cell", .glo "_law_box", .glo "_law_life_right", .glo "law"]
abbrev fn : List He.DefD := [D_is_integer, D_is_between, D_is_list, D_is_page_text, D_are_places, D_Disk___init__, D_Disk_check_page, D_Disk_spend, D_Disk_text, D_Disk_write, D_Disk_settle, D_Disk_loose, D_Disk_stop, D_Disk_cut, D__law_cell, D__law_box, D__law_take, D__law_same, D__law_met, D__law_made, D__law_is_disk, D__law_put, D__law_text, D__law_no_text, D__law_no_page, D__law_cut_right, D__law_step, D__law_life_right, D_law, D_InvalidMany, D_InvalidText, D_InvalidDone, D_InvalidPage, D_InvalidPages, D_InvalidWidth]
abbrev fb : List Fb := [.xf "InvalidPage" "given", .ec "InvalidPage", .ki "InvalidPage" "TropicError" true, .xf "InvalidText" "given", .ec "InvalidText", .ki "InvalidText" "TropicError" true, .xf "InvalidMany" "given", .ec "InvalidMany", .ki "InvalidMany" "TropicError" true, .xf "InvalidDone" "given", .ec "InvalidDone", .ki "InvalidDone" "TropicError" true, .ec "PowerCut", .ki "PowerCut" "TropicError" true, .xf "InvalidPages" "given", .ec "InvalidPages", .ki "InvalidPages" "TropicError" true, .xf "InvalidWidth" "given", .ec "InvalidWidth", .ki "InvalidWidth" "TropicError" true, .ic "Disk", .ki "Disk" "Disk" true, .x1 "InvalidMany" "given", .x1 "InvalidText" "given", .x1 "InvalidDone" "given", .x1 "InvalidPage" "given", .x1 "InvalidPages" "given", .x1 "InvalidWidth" "given", .x0 "PowerCut"]
abbrev V1 (h : Heap) (K : PySem.W.Frag) (mg : Str → Option Value) : Prop := Env fa fn fb h K mg
section
variable {P : Program} {w : World} {K : PySem.W.Frag} {mg : Str → Option Value} {base h : Heap}
theorem xc_InvalidMany (v : V1 h K mg) : XCls K mg "InvalidMany" "given" := by
  obtain ⟨fd, dS⟩ := v.c.def_ 29 (d := D_InvalidMany) rfl
  exact fb_x1 (v.fbk 22) (v.glo 42) fun P w base => ⟨fd, _, ini_ok dS sc_InvalidMany, binds_of dS fun _ _ _ _ _ _ us hl => match us, hl with | [_, _], _ => rfl⟩
theorem xc_InvalidText (v : V1 h K mg) : XCls K mg "InvalidText" "given" := by
  obtain ⟨fd, dS⟩ := v.c.def_ 30 (d := D_InvalidText) rfl
  exact fb_x1 (v.fbk 23) (v.glo 44) fun P w base => ⟨fd, _, ini_ok dS sc_InvalidText, binds_of dS fun _ _ _ _ _ _ us hl => match us, hl with | [_, _], _ => rfl⟩
theorem xc_InvalidDone (v : V1 h K mg) : XCls K mg "InvalidDone" "given" := by
  obtain ⟨fd, dS⟩ := v.c.def_ 31 (d := D_InvalidDone) rfl
  exact fb_x1 (v.fbk 24) (v.glo 40) fun P w base => ⟨fd, _, ini_ok dS sc_InvalidDone, binds_of dS fun _ _ _ _ _ _ us hl => match us, hl with | [_, _], _ => rfl⟩
theorem xc_InvalidPage (v : V1 h K mg) : XCls K mg "InvalidPage" "given" := by
  obtain ⟨fd, dS⟩ := v.c.def_ 32 (d := D_InvalidPage) rfl
  exact fb_x1 (v.fbk 25) (v.glo 46) fun P w base => ⟨fd, _, ini_ok dS sc_InvalidPage, binds_of dS fun _ _ _ _ _ _ us hl => match us, hl with | [_, _], _ => rfl⟩
theorem xc_InvalidPages (v : V1 h K mg) : XCls K mg "InvalidPages" "given" := by
  obtain ⟨fd, dS⟩ := v.c.def_ 33 (d := D_InvalidPages) rfl
  exact fb_x1 (v.fbk 26) (v.glo 71) fun P w base => ⟨fd, _, ini_ok dS sc_InvalidPages, binds_of dS fun _ _ _ _ _ _ us hl => match us, hl with | [_, _], _ => rfl⟩
theorem xc_InvalidWidth (v : V1 h K mg) : XCls K mg "InvalidWidth" "given" := by
  obtain ⟨fd, dS⟩ := v.c.def_ 34 (d := D_InvalidWidth) rfl
  exact fb_x1 (v.fbk 27) (v.glo 69) fun P w base => ⟨fd, _, ini_ok dS sc_InvalidWidth, binds_of dS fun _ _ _ _ _ _ us hl => match us, hl with | [_, _], _ => rfl⟩
theorem xc_PowerCut (v : V1 h K mg) : XCls0 K mg "PowerCut" := fb_x0 (v.fbk 28) (v.glo 38)
theorem ok_is_integer (v : V1 h K mg) : OkD P w K mg base D_is_integer 1 P_is_integer f_is_integer := by
  obtain ⟨fd, dS⟩ := v.c.def_ 0 (d := D_is_integer) rfl
  have nd : List.Nodup N_is_integer := sc_is_integer.nd
  refine ⟨fd, dS, fo_of dS sc_is_integer fun cdv A outer s H E F hr tk => ?_⟩
  exact (s_one (s_ret (eo_of (e_and (e_is1 (n := .int) (hm := (v.free 0)) (e_var 0) (v.free 1) (by decide +kernel)) (e_one (e_not (e_is1 (n := .bool) (hm := (v.free 0)) (e_var 0) (v.free 2) (by decide +kernel))))))))
theorem ok_is_between (v : V1 h K mg) : OkD P w K mg base D_is_between 2 P_is_between f_is_between := by
  obtain ⟨fd, dS⟩ := v.c.def_ 1 (d := D_is_between) rfl
  have nd : List.Nodup N_is_between := sc_is_between.nd
  obtain ⟨_, d_is_integer, k_is_integer⟩ := ok_is_integer (P := P) (w := w) (base := base) v
  refine ⟨fd, dS, fo_of dS sc_is_between fun cdv A outer s H E F hr tk => ?_⟩
  exact (s_one (s_ret (eo_of (e_and (e_fz (eo_call k_is_integer ar_is_integer (hr.mono (by decide)) (v.glo 3) (bn_of d_is_integer fun _ _ _ _ _ _ us ws h1 h2 => match us, ws, h1, h2 with | [_], [], _, _ => rfl) tk (ca_p d_is_integer.kp (a_cons (e_var 0) a_nil)))) (e_one (e_chain og_le og_le (e_var 1) (e_var 0) (e_var 2)))))))
theorem ok_is_list (v : V1 h K mg) : OkD P w K mg base D_is_list 1 P_is_list f_is_list := by
  obtain ⟨fd, dS⟩ := v.c.def_ 2 (d := D_is_list) rfl
  have nd : List.Nodup N_is_list := sc_is_list.nd
  refine ⟨fd, dS, fo_of dS sc_is_list fun cdv A outer s H E F hr tk => ?_⟩
  exact (s_one (s_ret (eo_of (e_isT (hm := (v.free 0)) (e_var 0) (tys_cons (n := .list) (v.free 5) (by decide +kernel) (tys_cons (n := .tuple) (v.free 4) (by decide +kernel) tys_nil))))))
theorem ok_is_page_text (v : V1 h K mg) : OkD P w K mg base D_is_page_text 1 P_is_page_text f_is_page_text := by
  obtain ⟨fd, dS⟩ := v.c.def_ 3 (d := D_is_page_text) rfl
  have nd : List.Nodup N_is_page_text := sc_is_page_text.nd
  refine ⟨fd, dS, fo_of dS sc_is_page_text fun cdv A outer s H E F hr tk => ?_⟩
  exact (s_one (s_ret (eo_of (e_and (e_is1 (n := .str) (hm := (v.free 0)) (e_var 0) (v.free 6) (by decide +kernel)) (e_and (e_cmp og_le (e_bi cg_len (v.free 7) (by decide +kernel) (a_cons (e_var 0) a_nil)) (e_var 1)) (e_one (e_bi (cg_all rfl) (v.free 8) (by decide +kernel) (a_cons (e_fz (eo_comp [("sign", 2)] rfl nd (i_val (e_var 0)) (blkOk_by (N := N_is_page_text) (sc := defScope st_is_page_text) (by decide +kernel)) (by decide) (fun _ _ _ _ _ => (cg_nm 2 nd)) (fun _ _ _ _ _ => ts_nil) (fun _ _ _ _ _ => (e_chain og_le og_le e_str (e_var 2) e_str)))) a_nil))))))))
theorem ok_are_places (v : V1 h K mg) : OkD P w K mg base D_are_places 3 P_are_places f_are_places := by
  obtain ⟨fd, dS⟩ := v.c.def_ 4 (d := D_are_places) rfl
  have nd : List.Nodup N_are_places := sc_are_places.nd
  obtain ⟨_, d_is_between, k_is_between⟩ := ok_is_between (P := P) (w := w) (base := base) v
  obtain ⟨_, d_is_list, k_is_list⟩ := ok_is_list (P := P) (w := w) (base := base) v
  refine ⟨fd, dS, fo_of dS sc_are_places fun cdv A outer s H E F hr tk => ?_⟩
  exact (s_cons (s_if (t_bool (w_or (t_not (t_val (e_fz (eo_call k_is_list ar_is_list (hr.mono (by decide)) (v.glo 9) (bn_of d_is_list fun _ _ _ _ _ _ us ws h1 h2 => match us, ws, h1, h2 with | [_], [], _, _ => rfl) tk (ca_p d_is_list.kp (a_cons (e_var 0) a_nil)))))) (w_or1 (t_not (t_val (e_bi (cg_all rfl) (v.free 8) (by decide +kernel) (a_cons (e_fz (eo_comp [("place", 3)] rfl nd (i_val (e_var 0)) (blkOk_by (N := N_are_places) (sc := defScope st_are_places) (by decide +kernel)) (by decide) (fun _ _ _ _ _ => (cg_nm 3 nd)) (fun _ _ _ _ _ => ts_nil) (fun _ _ _ _ _ => (e_fz (eo_call k_is_between ar_is_between (hr.mono (by decide)) (v.glo 10) (bn_of d_is_between fun _ _ _ _ _ _ us ws h1 h2 => match us, ws, h1, h2 with | [_, _, _], [], _, _ => rfl) takes0 (ca_p d_is_between.kp (a_cons (e_var 3) (a_cons e_int (a_cons (e_bin og_sub (e_var 1) e_int) a_nil))))))))) a_nil)))))))
 (s_one (s_ret (eo_of e_bl)))
 s_nil)
 (s_one (s_ret (eo_of (e_bi (cg_all rfl) (v.free 8) (by decide +kernel) (a_cons (e_fz (eo_comp [("at", 2)] rfl nd (i_range1 (v.free 11) (a_cons (e_bin og_sub (e_bi cg_len (v.free 7) (by decide +kernel) (a_cons (e_var 0) a_nil)) e_int) a_nil)) (blkOk_by (N := N_are_places) (sc := defScope st_are_places) (by decide +kernel)) (by decide) (fun _ _ _ _ _ => (cg_nm 2 nd)) (fun _ _ _ _ _ => ts_nil) (fun _ _ _ _ _ => (e_cmp og_lt (e_idx (e_var 0) (e_var 2)) (e_idx (e_var 0) (e_bin og_add (e_var 2) e_int)))))) a_nil))))))
theorem ok_Disk___init__ (v : V1 h K mg) : OkD P w K mg base D_Disk___init__ 3 P_Disk___init__ f_Disk___init__ := by
  obtain ⟨fd, dS⟩ := v.c.def_ 5 (d := D_Disk___init__) rfl
  obtain ⟨_, hc_LEAST_PAGES⟩ := v.int (x := "LEAST_PAGES") (n := 4) 12
  obtain ⟨_, hc_MOST_PAGES⟩ := v.int (x := "MOST_PAGES") (n := 60) 13
  obtain ⟨_, hc_LEAST_WIDTH⟩ := v.int (x := "LEAST_WIDTH") (n := 40) 14
  obtain ⟨_, hc_MOST_WIDTH⟩ := v.int (x := "MOST_WIDTH") (n := 400) 15
  have nd : List.Nodup N_Disk___init__ := sc_Disk___init__.nd
  obtain ⟨_, d_is_between, k_is_between⟩ := ok_is_between (P := P) (w := w) (base := base) v
  refine ⟨fd, dS, fo_of dS sc_Disk___init__ fun cdv A outer s H E F hr tk => ?_⟩
  exact (s_cons (s_if (t_not (t_val (e_fz (eo_call k_is_between ar_is_between (hr.mono (by decide)) (v.glo 10) (bn_of d_is_between fun _ _ _ _ _ _ us ws h1 h2 => match us, ws, h1, h2 with | [_, _, _], [], _, _ => rfl) tk (ca_p d_is_between.kp (a_cons (e_var 1) (a_cons (e_gint hc_LEAST_PAGES) (a_cons (e_gint hc_MOST_PAGES) a_nil))))))))
 (s_one (s_raise rfl tk (xc_InvalidPages v) (hr.mono (by decide)) (e_var 1)))
 s_nil)
 (s_cons (s_if (t_not (t_val (e_fz (eo_call k_is_between ar_is_between (hr.mono (by decide)) (v.glo 10) (bn_of d_is_between fun _ _ _ _ _ _ us ws h1 h2 => match us, ws, h1, h2 with | [_, _, _], [], _, _ => rfl) tk (ca_p d_is_between.kp (a_cons (e_var 2) (a_cons (e_gint hc_LEAST_WIDTH) (a_cons (e_gint hc_MOST_WIDTH) a_nil))))))))
 (s_one (s_raise rfl tk (xc_InvalidWidth v) (hr.mono (by decide)) (e_var 2)))
 s_nil)
 (s_cons (s_tup rfl (by decide) (ao_cons (eo_of (e_var 1)) (ao_cons (eo_of (e_var 2)) ao_nil)) (gs_cons (g_attr false (hasF_of (all_cons ⟨(v.glo 16), v.cls 17, v.noat 18⟩ all_nil)) (e_var 0)) (gs_cons (g_attr false (hasF_of (all_cons ⟨(v.glo 16), v.cls 17, v.noat 19⟩ all_nil)) (e_var 0)) gs_nil)))
 (s_cons (s_tup rfl (by decide) (ao_cons (eo_mul (e_lst (a_cons e_str a_nil)) (e_var 1)) (ao_cons (eo_mul (e_lst (a_cons e_str a_nil)) (e_var 1)) ao_nil)) (gs_cons (g_attr true (hasF_of (all_cons ⟨(v.glo 16), v.cls 17, v.noat 20⟩ all_nil)) (e_var 0)) (gs_cons (g_attr true (hasF_of (all_cons ⟨(v.glo 16), v.cls 17, v.noat 21⟩ all_nil)) (e_var 0)) gs_nil)))
 (s_one (s_tup rfl (by decide) (ao_cons (eo_lst a_nil) (ao_cons (eo_of e_non) ao_nil)) (gs_cons (g_attr true (hasF_of (all_cons ⟨(v.glo 16), v.cls 17, v.noat 22⟩ all_nil)) (e_var 0)) (gs_cons (g_attr false (hasF_of (all_cons ⟨(v.glo 16), v.cls 17, v.noat 23⟩ all_nil)) (e_var 0)) gs_nil))))))))
theorem ok_Disk_check_page (v : V1 h K mg) : OkD P w K mg base D_Disk_check_page 3 P_Disk_check_page f_Disk_check_page := by
  obtain ⟨fd, dS⟩ := v.c.def_ 6 (d := D_Disk_check_page) rfl
  have nd : List.Nodup N_Disk_check_page := sc_Disk_check_page.nd
  obtain ⟨_, d_is_between, k_is_between⟩ := ok_is_between (P := P) (w := w) (base := base) v
  refine ⟨fd, dS, fo_of dS sc_Disk_check_page fun cdv A outer s H E F hr tk => ?_⟩
  exact (s_one (s_if (t_not (t_val (e_fz (eo_call k_is_between ar_is_between (hr.mono (by decide)) (v.glo 10) (bn_of d_is_between fun _ _ _ _ _ _ us ws h1 h2 => match us, ws, h1, h2 with | [_, _, _], [], _, _ => rfl) tk (ca_p d_is_between.kp (a_cons (e_var 1) (a_cons e_int (a_cons (e_bin og_sub (e_fld (hasF_of (all_cons ⟨(v.glo 16), v.cls 17, v.noat 18⟩ all_nil)) (e_var 0)) e_int) a_nil))))))))
 (s_one (s_raise rfl tk (xc_InvalidPage v) (hr.mono (by decide)) (e_var 1)))
 s_nil))
theorem ok_Disk_spend (v : V1 h K mg) : OkD P w K mg base D_Disk_spend 3 P_Disk_spend f_Disk_spend := by
  obtain ⟨fd, dS⟩ := v.c.def_ 7 (d := D_Disk_spend) rfl
  have nd : List.Nodup N_Disk_spend := sc_Disk_spend.nd
  refine ⟨fd, dS, fo_of dS sc_Disk_spend fun cdv A outer s H E F hr tk => ?_⟩
  exact (s_one (s_if (t_cmp og_isnot (e_fld (hasF_of (all_cons ⟨(v.glo 16), v.cls 17, v.noat 23⟩ all_nil)) (e_var 0)) e_non)
 (s_cons (s_if (t_cmp (og_eq hr.units) (e_fld (hasF_of (all_cons ⟨(v.glo 16), v.cls 17, v.noat 23⟩ all_nil)) (e_var 0)) e_int)
 (s_one (s_raise0 rfl tk (xc_PowerCut v)))
 s_nil)
 (s_one (s_asg (eo_of (e_bin og_sub (e_fld (hasF_of (all_cons ⟨(v.glo 16), v.cls 17, v.noat 23⟩ all_nil)) (e_var 0)) e_int)) (g_attr false (hasF_of (all_cons ⟨(v.glo 16), v.cls 17, v.noat 23⟩ all_nil)) (e_var 0)))))
 s_nil))
theorem ok_Disk_text (v : V1 h K mg) : OkD P w K mg base D_Disk_text 4 P_Disk_text f_Disk_text := by
  obtain ⟨fd, dS⟩ := v.c.def_ 8 (d := D_Disk_text) rfl
  have nd : List.Nodup N_Disk_text := sc_Disk_text.nd
  obtain ⟨_, d_Disk_check_page, k_Disk_check_page⟩ := ok_Disk_check_page (P := P) (w := w) (base := base) v
  refine ⟨fd, dS, fo_of dS sc_Disk_text fun cdv A outer s H E F hr tk => ?_⟩
  exact (s_cons (s_expr (eo_meth (e_var 0) (v.glo 16) (v.cls 17) (v.meth 24) k_Disk_check_page ar_Disk_check_page (hr.mono (by decide)) (bn_of d_Disk_check_page fun _ _ _ _ _ _ us ws h1 h2 => match us, ws, h1, h2 with | [_, _], [], _, _ => rfl) tk (fun _ => (ca_p d_Disk_check_page.kp (a_cons (e_var 1) a_nil)))))
 (s_one (s_ret (eo_of (e_idxV (l_fld (hasF_of (all_cons ⟨(v.glo 16), v.cls 17, v.noat 21⟩ all_nil)) (e_var 0)) (e_var 1))))))
theorem ok_Disk_write (v : V1 h K mg) : OkD P w K mg base D_Disk_write 4 P_Disk_write f_Disk_write := by
  obtain ⟨fd, dS⟩ := v.c.def_ 9 (d := D_Disk_write) rfl
  have nd : List.Nodup N_Disk_write := sc_Disk_write.nd
  obtain ⟨_, d_Disk_check_page, k_Disk_check_page⟩ := ok_Disk_check_page (P := P) (w := w) (base := base) v
  obtain ⟨_, d_Disk_spend, k_Disk_spend⟩ := ok_Disk_spend (P := P) (w := w) (base := base) v
  obtain ⟨_, d_is_page_text, k_is_page_text⟩ := ok_is_page_text (P := P) (w := w) (base := base) v
  refine ⟨fd, dS, fo_of dS sc_Disk_write fun cdv A outer s H E F hr tk => ?_⟩
  exact (s_cons (s_expr (eo_meth (e_var 0) (v.glo 16) (v.cls 17) (v.meth 24) k_Disk_check_page ar_Disk_check_page (hr.mono (by decide)) (bn_of d_Disk_check_page fun _ _ _ _ _ _ us ws h1 h2 => match us, ws, h1, h2 with | [_, _], [], _, _ => rfl) tk (fun _ => (ca_p d_Disk_check_page.kp (a_cons (e_var 1) a_nil)))))
 (s_cons (s_if (t_not (t_val (e_fz (eo_call k_is_page_text ar_is_page_text (hr.mono (by decide)) (v.glo 25) (bn_of d_is_page_text fun _ _ _ _ _ _ us ws h1 h2 => match us, ws, h1, h2 with | [_, _], [], _, _ => rfl) tk (ca_p d_is_page_text.kp (a_cons (e_var 2) (a_cons (e_fld (hasF_of (all_cons ⟨(v.glo 16), v.cls 17, v.noat 19⟩ all_nil)) (e_var 0)) a_nil)))))))
 (s_one (s_raise rfl tk (xc_InvalidText v) (hr.mono (by decide)) (e_var 2)))
 s_nil)
 (s_cons (s_expr (eo_meth (e_var 0) (v.glo 16) (v.cls 17) (v.meth 26) k_Disk_spend ar_Disk_spend (hr.mono (by decide)) (bn_of d_Disk_spend fun _ _ _ _ _ _ us ws h1 h2 => match us, ws, h1, h2 with | [_], [], _, _ => rfl) tk (fun _ => (ca_0 d_Disk_spend.kp))))
 (s_cons (s_asg (eo_of (e_var 2)) (g_idx false (l_fld (hasF_of (all_cons ⟨(v.glo 16), v.cls 17, v.noat 21⟩ all_nil)) (e_var 0)) (e_var 1)))
 (s_one (s_expr (eo_of (e_append false (l_fld (hasF_of (all_cons ⟨(v.glo 16), v.cls 17, v.noat 22⟩ all_nil)) (e_var 0)) (eo_of (e_tup (a_cons (e_var 1) (a_cons (e_var 2) a_nil))))))))))))
theorem ok_Disk_settle (v : V1 h K mg) : OkD P w K mg base D_Disk_settle 4 P_Disk_settle f_Disk_settle := by
  obtain ⟨fd, dS⟩ := v.c.def_ 10 (d := D_Disk_settle) rfl
  have nd : List.Nodup N_Disk_settle := sc_Disk_settle.nd
  obtain ⟨_, d_Disk_spend, k_Disk_spend⟩ := ok_Disk_spend (P := P) (w := w) (base := base) v
  refine ⟨fd, dS, fo_of dS sc_Disk_settle fun cdv A outer s H E F hr tk => ?_⟩
  exact (s_cons (s_expr (eo_meth (e_var 0) (v.glo 16) (v.cls 17) (v.meth 26) k_Disk_spend ar_Disk_spend (hr.mono (by decide)) (bn_of d_Disk_spend fun _ _ _ _ _ _ us ws h1 h2 => match us, ws, h1, h2 with | [_], [], _, _ => rfl) tk (fun _ => (ca_0 d_Disk_spend.kp))))
 (s_one (s_tup rfl (by decide) (ao_cons (eo_listV (v.free 5) (by decide +kernel) (l_fld (hasF_of (all_cons ⟨(v.glo 16), v.cls 17, v.noat 21⟩ all_nil)) (e_var 0))) (ao_cons (eo_lst a_nil) ao_nil)) (gs_cons (g_attr true (hasF_of (all_cons ⟨(v.glo 16), v.cls 17, v.noat 20⟩ all_nil)) (e_var 0)) (gs_cons (g_attr true (hasF_of (all_cons ⟨(v.glo 16), v.cls 17, v.noat 22⟩ all_nil)) (e_var 0)) gs_nil)))))
theorem ok_Disk_loose (v : V1 h K mg) : OkD P w K mg base D_Disk_loose 1 P_Disk_loose f_Disk_loose := by
  obtain ⟨fd, dS⟩ := v.c.def_ 11 (d := D_Disk_loose) rfl
  have nd : List.Nodup N_Disk_loose := sc_Disk_loose.nd
  refine ⟨fd, dS, fo_of dS sc_Disk_loose fun cdv A outer s H E F hr tk => ?_⟩
  exact (s_one (s_ret (eo_compV [("page", 1), ("text", 2)] rfl nd (i_view (l_fld (hasF_of (all_cons ⟨(v.glo 16), v.cls 17, v.noat 22⟩ all_nil)) (e_var 0))) (blkOk_by (N := N_Disk_loose) (sc := defScope st_Disk_loose) (by decide +kernel)) (by decide) (fun _ _ _ _ _ => (cg_tp rfl (cgs_cons (cg_nm 1 nd) (cgs_cons (cg_nm 2 nd) cgs_nil)))) (fun _ _ _ _ _ => ts_nil) (fun _ _ _ _ _ => (e_var 1)))))
theorem ok_Disk_stop (v : V1 h K mg) : OkD P w K mg base D_Disk_stop 3 P_Disk_stop f_Disk_stop := by
  obtain ⟨fd, dS⟩ := v.c.def_ 12 (d := D_Disk_stop) rfl
  have nd : List.Nodup N_Disk_stop := sc_Disk_stop.nd
  obtain ⟨_, d_is_integer, k_is_integer⟩ := ok_is_integer (P := P) (w := w) (base := base) v
  refine ⟨fd, dS, fo_of dS sc_Disk_stop fun cdv A outer s H E F hr tk => ?_⟩
  exact (s_cons (s_if (t_bool (w_and (t_cmp og_isnot (e_var 1) e_non) (w_and1 (t_bool (w_or (t_not (t_val (e_fz (eo_call k_is_integer ar_is_integer (hr.mono (by decide)) (v.glo 3) (bn_of d_is_integer fun _ _ _ _ _ _ us ws h1 h2 => match us, ws, h1, h2 with | [_], [], _, _ => rfl) tk (ca_p d_is_integer.kp (a_cons (e_var 1) a_nil)))))) (w_or1 (t_cmp og_lt (e_var 1) e_int)))))))
 (s_one (s_raise rfl tk (xc_InvalidMany v) (hr.mono (by decide)) (e_var 1)))
 s_nil)
 (s_one (s_asg (eo_of (e_var 1)) (g_attr false (hasF_of (all_cons ⟨(v.glo 16), v.cls 17, v.noat 23⟩ all_nil)) (e_var 0)))))
theorem ok_Disk_cut (v : V1 h K mg) : OkD P w K mg base D_Disk_cut 5 P_Disk_cut f_Disk_cut := by
  obtain ⟨fd, dS⟩ := v.c.def_ 13 (d := D_Disk_cut) rfl
  have nd : List.Nodup N_Disk_cut := sc_Disk_cut.nd
  obtain ⟨_, d_Disk___init__, k_Disk___init__⟩ := ok_Disk___init__ (P := P) (w := w) (base := base) v
  obtain ⟨_, d_are_places, k_are_places⟩ := ok_are_places (P := P) (w := w) (base := base) v
  refine ⟨fd, dS, fo_of dS sc_Disk_cut fun cdv A outer s H E F hr tk => ?_⟩
  exact (s_cons (s_if (t_not (t_val (e_fz (eo_call k_are_places ar_are_places (hr.mono (by decide)) (v.glo 27) (bn_of d_are_places fun _ _ _ _ _ _ us ws h1 h2 => match us, ws, h1, h2 with | [_, _], [], _, _ => rfl) tk (ca_p d_are_places.kp (a_cons (e_var 1) (a_cons (e_biV cg_len (v.free 7) (by decide +kernel) (l_fld (hasF_of (all_cons ⟨(v.glo 16), v.cls 17, v.noat 22⟩ all_nil)) (e_var 0))) a_nil)))))))
 (s_one (s_raise rfl tk (xc_InvalidDone v) (hr.mono (by decide)) (e_var 1)))
 s_nil)
 (s_cons (s_asg (eo_of (e_fz (eo_make (v.mkr 28) k_Disk___init__ ar_Disk___init__ (hr.mono (by decide)) (v.glo 16) (bn_of d_Disk___init__ fun _ _ _ _ _ _ us ws h1 h2 => match us, ws, h1, h2 with | [_, _, _], [], _, _ => rfl) tk (ca_p (v.mkr 28).kp (a_cons (e_fld (hasF_of (all_cons ⟨(v.glo 16), v.cls 17, v.noat 18⟩ all_nil)) (e_var 0)) (a_cons (e_fld (hasF_of (all_cons ⟨(v.glo 16), v.cls 17, v.noat 19⟩ all_nil)) (e_var 0)) a_nil)))))) (g_name false 2 nd))
 (s_cons (s_asg (eo_listV (v.free 5) (by decide +kernel) (l_fld (hasF_of (all_cons ⟨(v.glo 16), v.cls 17, v.noat 20⟩ all_nil)) (e_var 0))) (g_attr true (hasF_of (all_cons ⟨(v.glo 16), v.cls 17, v.noat 20⟩ all_nil)) (e_var 2)))
 (s_cons (s_for (passes_of rfl) rfl (i_val (e_var 1)) (g_name false 3 nd)
 (s_cons (s_asg (eo_of (e_idxV (l_fld (hasF_of (all_cons ⟨(v.glo 16), v.cls 17, v.noat 22⟩ all_nil)) (e_var 0)) (e_var 3))) (g_tup rfl (gs_cons (g_name false 4 nd) (gs_cons (g_name false 5 nd) gs_nil))))
 (s_one (s_asg (eo_of (e_var 5)) (g_idx false (l_fld (hasF_of (all_cons ⟨(v.glo 16), v.cls 17, v.noat 20⟩ all_nil)) (e_var 2)) (e_var 4))))))
 (s_cons (s_asg (eo_listV (v.free 5) (by decide +kernel) (l_fld (hasF_of (all_cons ⟨(v.glo 16), v.cls 17, v.noat 20⟩ all_nil)) (e_var 2))) (g_attr true (hasF_of (all_cons ⟨(v.glo 16), v.cls 17, v.noat 21⟩ all_nil)) (e_var 2)))
 (s_one (s_ret (eo_of (e_var 2)))))))))
theorem ok__law_cell (v : V1 h K mg) : OkD P w K mg base D__law_cell 1 P__law_cell f__law_cell := by
  obtain ⟨fd, dS⟩ := v.c.def_ 14 (d := D__law_cell) rfl
  have nd : List.Nodup N__law_cell := sc__law_cell.nd
  refine ⟨fd, dS, fo_of dS sc__law_cell fun cdv A outer s H E F hr tk => ?_⟩
  exact (s_one (s_ret (eo_of (e_if (t_cmp og_lt (e_var 1) (e_bi cg_len (v.free 7) (by decide +kernel) (a_cons (e_var 0) a_nil))) (e_idx (e_var 0) (e_var 1)) (e_bin og_add (e_bin og_mul e_int (e_var 1)) (e_bin og_mod (e_bi (cg_sum rfl) (v.free 29) (by decide +kernel) (a_cons (e_slice (e_var 0) p_none (p_some e_int)) a_nil)) e_int))))))
theorem ok__law_box (v : V1 h K mg) : OkD P w K mg base D__law_box 1 P__law_box f__law_box := by
  obtain ⟨fd, dS⟩ := v.c.def_ 15 (d := D__law_box) rfl
  have nd : List.Nodup N__law_box := sc__law_box.nd
  refine ⟨fd, dS, fo_of dS sc__law_box fun cdv A outer s H E F hr tk => ?_⟩
  exact (s_one (s_ret (eo_lst (a_cons (e_bi cg_abs (v.free 30) (by decide +kernel) (a_cons (e_var 0) a_nil)) (a_cons (e_cmp og_ge (e_bi cg_abs (v.free 30) (by decide +kernel) (a_cons (e_var 0) a_nil)) (e_bin og_pow e_int e_int)) (a_cons (e_bin og_mod (e_bt cg_int (v.free 1) (by decide +kernel) (a_cons (e_bi cg_abs (v.free 30) (by decide +kernel) (a_cons (e_var 0) a_nil)) a_nil)) e_int) (a_cons e_int a_nil)))))))
theorem ok__law_take (v : V1 h K mg) : OkD P w K mg base D__law_take 1 P__law_take f__law_take := by
  obtain ⟨fd, dS⟩ := v.c.def_ 16 (d := D__law_take) rfl
  have nd : List.Nodup N__law_take := sc__law_take.nd
  refine ⟨fd, dS, fo_of dS sc__law_take fun cdv A outer s H E F hr tk => ?_⟩
  exact (s_cons (s_if (t_bool (w_and (t_val (e_idxV (l_obj (e_var 0)) e_int)) (w_and1 (t_cmp og_gt (e_idxV (l_obj (e_var 0)) e_int) e_int))))
 (s_cons (s_asg (eo_of (e_bin og_mod (e_bt cg_int (v.free 1) (by decide +kernel) (a_cons (e_idxV (l_obj (e_var 0)) e_int) a_nil)) (e_var 1))) (g_name false 3 nd))
 (s_cons (s_asg (eo_of (e_bin og_div (e_idxV (l_obj (e_var 0)) e_int) (e_var 1))) (g_idx false (l_obj (e_var 0)) e_int))
 (s_one (s_ret (eo_of (e_var 3))))))
 s_nil)
 (s_cons (s_asg (eo_of (e_bin og_add (e_idxV (l_obj (e_var 0)) e_int) e_int)) (g_idx false (l_obj (e_var 0)) e_int))
 (s_cons (s_asg (eo_of (e_bin og_mod (e_bt cg_int (v.free 1) (by decide +kernel) (a_cons (e_bin og_pow (e_bin og_add (e_bin og_add (e_idxV (l_obj (e_var 0)) e_int) (e_bin og_mul e_int (e_idxV (l_obj (e_var 0)) e_int))) e_int) e_int) a_nil)) e_int)) (g_name false 2 nd))
 (s_one (s_ret (eo_of (e_bin og_mod (e_bin og_div (e_bin og_mod (e_bt cg_int (v.free 1) (by decide +kernel) (a_cons (e_bin og_pow (e_bin og_add (e_bin og_mul (e_var 2) e_int) (e_bin og_mul e_int (e_idxV (l_obj (e_var 0)) e_int))) e_int) a_nil)) e_int) e_int) (e_var 1))))))))
theorem ok__law_same (v : V1 h K mg) : ∀ n, OkD P w K mg base D__law_same (n + 1) P__law_same (f__law_same n)
  | 0 => by
    obtain ⟨fd, dS⟩ := v.c.def_ 17 (d := D__law_same) rfl
    exact ⟨fd, dS, fn_no rfl⟩
  | n + 1 => by
    have nd : List.Nodup N__law_same := sc__law_same.nd
    obtain ⟨_, dS, kS⟩ := ok__law_same v n
    have arS := ar__law_same n
    refine ⟨_, dS, fo_of dS sc__law_same fun cdv A outer s H E F hr tk => ?_⟩
    exact (s_cons (s_if (t_bool (w_or (t_cmp og_is (e_var 1) e_non) (w_or1 (t_val (e_is1 (n := .bool) (hm := (v.free 0)) (e_var 1) (v.free 2) (by decide +kernel))))))
   (s_one (s_ret (eo_of (e_if (t_cmp og_is (e_var 1) e_non) (e_cmp og_is (e_var 0) e_non) (e_and (e_is1 (n := .bool) (hm := (v.free 0)) (e_var 0) (v.free 2) (by decide +kernel)) (e_one (e_cmp (og_eq hr.units) (e_cmp og_is (e_var 0) e_bl) (e_cmp og_is (e_var 1) e_bl))))))))
   s_nil)
   (s_cons (s_if (t_val (e_is1 (n := .int) (hm := (v.free 0)) (e_var 1) (v.free 1) (by decide +kernel)))
   (s_one (s_ret (eo_of (e_and (e_is1 (n := .int) (hm := (v.free 0)) (e_var 0) (v.free 1) (by decide +kernel)) (e_and (e_not (e_is1 (n := .bool) (hm := (v.free 0)) (e_var 0) (v.free 2) (by decide +kernel))) (e_one (e_cmp (og_eq hr.units) (e_var 0) (e_var 1))))))))
   s_nil)
   (s_cons (s_if (t_val (e_is1 (n := .str) (hm := (v.free 0)) (e_var 1) (v.free 6) (by decide +kernel)))
   (s_one (s_ret (eo_of (e_and (e_is1 (n := .str) (hm := (v.free 0)) (e_var 0) (v.free 6) (by decide +kernel)) (e_one (e_cmp (og_eq hr.units) (e_var 0) (e_var 1)))))))
   s_nil)
   (s_cons (s_if (t_val (e_is1 (n := .dict) (hm := (v.free 0)) (e_var 1) (v.free 31) (by decide +kernel)))
   (s_cons (s_if (t_bool (w_or (t_not (t_val (e_is1 (n := .dict) (hm := (v.free 0)) (e_var 0) (v.free 31) (by decide +kernel)))) (w_or1 (t_cmp (og_ne hr.units) (e_bi cg_len (v.free 7) (by decide +kernel) (a_cons (e_var 0) a_nil)) (e_bi cg_len (v.free 7) (by decide +kernel) (a_cons (e_var 1) a_nil))))))
   (s_one (s_ret (eo_of e_bl)))
   s_nil)
   (s_one (s_ret (eo_of (e_cmp (og_eq hr.units) (e_fz (eo_comp0 1 [("key", 2)] rfl nd (blkOk_by (N := N__law_same) (sc := defScope st__law_same) (by decide +kernel)))) (e_lst a_nil))))))
   s_nil)
   (s_cons (s_if (t_val (e_isT (hm := (v.free 0)) (e_var 1) (tys_cons (n := .list) (v.free 5) (by decide +kernel) (tys_cons (n := .tuple) (v.free 4) (by decide +kernel) tys_nil))))
   (s_cons (s_if (t_bool (w_or (t_not (t_val (e_isT (hm := (v.free 0)) (e_var 0) (tys_cons (n := .list) (v.free 5) (by decide +kernel) (tys_cons (n := .tuple) (v.free 4) (by decide +kernel) tys_nil))))) (w_or (t_cmp (og_ne hr.units) (e_is1 (n := .list) (hm := (v.free 0)) (e_var 0) (v.free 5) (by decide +kernel)) (e_is1 (n := .list) (hm := (v.free 0)) (e_var 1) (v.free 5) (by decide +kernel))) (w_or1 (t_cmp (og_ne hr.units) (e_bi cg_len (v.free 7) (by decide +kernel) (a_cons (e_var 0) a_nil)) (e_bi cg_len (v.free 7) (by decide +kernel) (a_cons (e_var 1) a_nil)))))))
   (s_one (s_ret (eo_of e_bl)))
   s_nil)
   (s_one (s_ret (eo_of (e_cmp (og_eq hr.units) (e_fz (eo_comp [("k", 3)] rfl nd (i_range1 (v.free 11) (a_cons (e_bi cg_len (v.free 7) (by decide +kernel) (a_cons (e_var 1) a_nil)) a_nil)) (blkOk_by (N := N__law_same) (sc := defScope st__law_same) (by decide +kernel)) (by decide) (fun _ _ _ _ _ => (cg_nm 3 nd)) (fun _ _ _ _ _ => (ts_one (t_not (t_val (e_fz (eo_call kS arS hr (v.glo 32) (bn_of dS fun _ _ _ _ _ _ us ws h1 h2 => match us, ws, h1, h2 with | [_, _], [], _, _ => rfl) takes0 (ca_p dS.kp (a_cons (e_idx (e_var 0) (e_var 3)) (a_cons (e_idx (e_var 1) (e_var 3)) a_nil))))))))) (fun _ _ _ _ _ => (e_var 3)))) (e_lst a_nil))))))
   s_nil)
   (s_one (s_ret (eo_of (e_and (e_cmp og_isnot (e_var 0) e_non) (e_one (e_not (e_isT (hm := (v.free 0)) (e_var 0) (tys_cons (n := .int) (v.free 1) (by decide +kernel) (tys_cons (n := .str) (v.free 6) (by decide +kernel) (tys_cons (n := .list) (v.free 5) (by decide +kernel) (tys_cons (n := .tuple) (v.free 4) (by decide +kernel) (tys_cons (n := .dict) (v.free 31) (by decide +kernel) tys_nil)))))))))))))))))
theorem ok__law_met (v : V1 h K mg) : OkD P w K mg base D__law_met 6 P__law_met f__law_met := by
  obtain ⟨fd, dS⟩ := v.c.def_ 18 (d := D__law_met) rfl
  have nd : List.Nodup N__law_met := sc__law_met.nd
  obtain ⟨_, d_Disk_cut, k_Disk_cut⟩ := ok_Disk_cut (P := P) (w := w) (base := base) v
  obtain ⟨_, d_Disk_settle, k_Disk_settle⟩ := ok_Disk_settle (P := P) (w := w) (base := base) v
  obtain ⟨_, d_Disk_stop, k_Disk_stop⟩ := ok_Disk_stop (P := P) (w := w) (base := base) v
  obtain ⟨_, d_Disk_text, k_Disk_text⟩ := ok_Disk_text (P := P) (w := w) (base := base) v
  obtain ⟨_, d_Disk_write, k_Disk_write⟩ := ok_Disk_write (P := P) (w := w) (base := base) v
  refine ⟨fd, dS, fo_of dS sc__law_met fun cdv A outer s H E F hr tk => ?_⟩
  exact (s_one (s_try rfl rfl nd tk (fun F W pn xe tk' => (s_cons (s_if (t_cmp (og_eq hr.units) (e_var 1) e_str)
 (s_one (s_ret (eo_of (e_lst (a_cons e_str (a_cons (e_if (t_val (e_var 3)) (e_fz (eo_meth (e_var 0) (v.glo 16) (v.cls 17) (v.meth 33) k_Disk_text ar_Disk_text (hr.mono (by decide)) (bn_of d_Disk_text fun _ _ _ _ _ _ us ws h1 h2 => match us, ws, h1, h2 with | [_], [_], _, _ => rfl) tk' (fun _ => (ca_k (ks := ["page"]) d_Disk_text.kp (by decide) (k_cons (e_idx (e_var 2) e_int) k_nil))))) (e_fz (eo_meth (e_var 0) (v.glo 16) (v.cls 17) (v.meth 33) k_Disk_text ar_Disk_text (hr.mono (by decide)) (bn_of d_Disk_text fun _ _ _ _ _ _ us ws h1 h2 => match us, ws, h1, h2 with | [_, _], [], _, _ => rfl) tk' (fun _ => (ca_p d_Disk_text.kp (a_cons (e_idx (e_var 2) e_int) a_nil)))))) a_nil))))))
 s_nil)
 (s_cons (s_if (t_cmp (og_eq hr.units) (e_var 1) e_str)
 (s_one (s_ret (eo_of (e_lst (a_cons e_str (a_cons (e_if (t_val (e_var 3)) (e_fz (eo_meth (e_var 0) (v.glo 16) (v.cls 17) (v.meth 34) k_Disk_write ar_Disk_write (hr.mono (by decide)) (bn_of d_Disk_write fun _ _ _ _ _ _ us ws h1 h2 => match us, ws, h1, h2 with | [_], [_, _], _, _ => rfl) tk' (fun _ => (ca_k (ks := ["text", "page"]) d_Disk_write.kp (by decide) (k_cons (e_idx (e_var 2) e_int) (k_cons (e_idx (e_var 2) e_int) k_nil)))))) (e_fz (eo_meth (e_var 0) (v.glo 16) (v.cls 17) (v.meth 34) k_Disk_write ar_Disk_write (hr.mono (by decide)) (bn_of d_Disk_write fun _ _ _ _ _ _ us ws h1 h2 => match us, ws, h1, h2 with | [_, _, _], [], _, _ => rfl) tk' (fun _ => (ca_p d_Disk_write.kp (a_cons (e_idx (e_var 2) e_int) (a_cons (e_idx (e_var 2) e_int) a_nil))))))) a_nil))))))
 s_nil)
 (s_cons (s_if (t_cmp (og_eq hr.units) (e_var 1) e_str)
 (s_one (s_ret (eo_of (e_lst (a_cons e_str (a_cons (e_if (t_val (e_var 3)) (e_fz (eo_meth (e_var 0) (v.glo 16) (v.cls 17) (v.meth 35) k_Disk_stop ar_Disk_stop (hr.mono (by decide)) (bn_of d_Disk_stop fun _ _ _ _ _ _ us ws h1 h2 => match us, ws, h1, h2 with | [_], [_], _, _ => rfl) tk' (fun _ => (ca_k (ks := ["many"]) d_Disk_stop.kp (by decide) (k_cons (e_idx (e_var 2) e_int) k_nil))))) (e_fz (eo_meth (e_var 0) (v.glo 16) (v.cls 17) (v.meth 35) k_Disk_stop ar_Disk_stop (hr.mono (by decide)) (bn_of d_Disk_stop fun _ _ _ _ _ _ us ws h1 h2 => match us, ws, h1, h2 with | [_, _], [], _, _ => rfl) tk' (fun _ => (ca_p d_Disk_stop.kp (a_cons (e_idx (e_var 2) e_int) a_nil)))))) a_nil))))))
 s_nil)
 (s_cons (s_if (t_cmp (og_eq hr.units) (e_var 1) e_str)
 (s_one (s_ret (eo_of (e_lst (a_cons e_str (a_cons (e_if (t_val (e_var 3)) (e_fz (eo_meth (e_var 0) (v.glo 16) (v.cls 17) (v.meth 36) k_Disk_cut ar_Disk_cut (hr.mono (by decide)) (bn_of d_Disk_cut fun _ _ _ _ _ _ us ws h1 h2 => match us, ws, h1, h2 with | [_], [_], _, _ => rfl) tk' (fun _ => (ca_k (ks := ["done"]) d_Disk_cut.kp (by decide) (k_cons (e_idx (e_var 2) e_int) k_nil))))) (e_fz (eo_meth (e_var 0) (v.glo 16) (v.cls 17) (v.meth 36) k_Disk_cut ar_Disk_cut (hr.mono (by decide)) (bn_of d_Disk_cut fun _ _ _ _ _ _ us ws h1 h2 => match us, ws, h1, h2 with | [_, _], [], _, _ => rfl) tk' (fun _ => (ca_p d_Disk_cut.kp (a_cons (e_idx (e_var 2) e_int) a_nil)))))) a_nil))))))
 s_nil)
 (s_one (s_ret (eo_of (e_lst (a_cons e_str (a_cons (e_fz (eo_meth (e_var 0) (v.glo 16) (v.cls 17) (v.meth 37) k_Disk_settle ar_Disk_settle (hr.mono (by decide)) (bn_of d_Disk_settle fun _ _ _ _ _ _ us ws h1 h2 => match us, ws, h1, h2 with | [_], [], _, _ => rfl) tk' (fun _ => (ca_0 d_Disk_settle.kp)))) a_nil)))))))))))
 (HdsA.as 4 (cs := [("InvalidPage", true), ("InvalidText", false), ("InvalidMany", false), ("InvalidDone", false), ("PowerCut", false)]) rfl rfl ⟨rfl, by decide, .inl (v.glo 46)⟩ (tab_of (all_cons ⟨(v.glo 46), v.exm 47⟩ (all_cons ⟨(v.glo 44), v.exm 45⟩ (all_cons ⟨(v.glo 42), v.exm 43⟩ (all_cons ⟨(v.glo 40), v.exm 41⟩ (all_cons ⟨(v.glo 38), v.exm 39⟩ all_nil)))))) (fun F n c fl a oe cls d pn sf hz hf => (s_one (s_ret (eo_of (e_lst (a_cons e_str (a_cons (e_exf 4 sf hz hf (hasX_of (all_cons ⟨(v.glo 46), fb_xf (v.fbk 0)⟩ all_nil))) (a_cons (e_exi 4 sf hz hf (tabI_of (v.glo 48) (all_cons ⟨(v.glo 46), fb_ec (v.fbk 1), fb_ki (v.fbk 2)⟩ all_nil)) (v.free 0)) a_nil))))))))
 (HdsA.as 4 (cs := [("InvalidPage", false), ("InvalidText", true), ("InvalidMany", false), ("InvalidDone", false), ("PowerCut", false)]) rfl rfl ⟨rfl, by decide, .inl (v.glo 44)⟩ (tab_of (all_cons ⟨(v.glo 46), v.exm 53⟩ (all_cons ⟨(v.glo 44), v.exm 52⟩ (all_cons ⟨(v.glo 42), v.exm 51⟩ (all_cons ⟨(v.glo 40), v.exm 50⟩ (all_cons ⟨(v.glo 38), v.exm 49⟩ all_nil)))))) (fun F n c fl a oe cls d pn sf hz hf => (s_one (s_ret (eo_of (e_lst (a_cons e_str (a_cons (e_exf 4 sf hz hf (hasX_of (all_cons ⟨(v.glo 44), fb_xf (v.fbk 3)⟩ all_nil))) (a_cons (e_exi 4 sf hz hf (tabI_of (v.glo 48) (all_cons ⟨(v.glo 44), fb_ec (v.fbk 4), fb_ki (v.fbk 5)⟩ all_nil)) (v.free 0)) a_nil))))))))
 (HdsA.as 4 (cs := [("InvalidPage", false), ("InvalidText", false), ("InvalidMany", true), ("InvalidDone", false), ("PowerCut", false)]) rfl rfl ⟨rfl, by decide, .inl (v.glo 42)⟩ (tab_of (all_cons ⟨(v.glo 46), v.exm 58⟩ (all_cons ⟨(v.glo 44), v.exm 57⟩ (all_cons ⟨(v.glo 42), v.exm 56⟩ (all_cons ⟨(v.glo 40), v.exm 55⟩ (all_cons ⟨(v.glo 38), v.exm 54⟩ all_nil)))))) (fun F n c fl a oe cls d pn sf hz hf => (s_one (s_ret (eo_of (e_lst (a_cons e_str (a_cons (e_exf 4 sf hz hf (hasX_of (all_cons ⟨(v.glo 42), fb_xf (v.fbk 6)⟩ all_nil))) (a_cons (e_exi 4 sf hz hf (tabI_of (v.glo 48) (all_cons ⟨(v.glo 42), fb_ec (v.fbk 7), fb_ki (v.fbk 8)⟩ all_nil)) (v.free 0)) a_nil))))))))
 (HdsA.as 4 (cs := [("InvalidPage", false), ("InvalidText", false), ("InvalidMany", false), ("InvalidDone", true), ("PowerCut", false)]) rfl rfl ⟨rfl, by decide, .inl (v.glo 40)⟩ (tab_of (all_cons ⟨(v.glo 46), v.exm 63⟩ (all_cons ⟨(v.glo 44), v.exm 62⟩ (all_cons ⟨(v.glo 42), v.exm 61⟩ (all_cons ⟨(v.glo 40), v.exm 60⟩ (all_cons ⟨(v.glo 38), v.exm 59⟩ all_nil)))))) (fun F n c fl a oe cls d pn sf hz hf => (s_one (s_ret (eo_of (e_lst (a_cons e_str (a_cons (e_exf 4 sf hz hf (hasX_of (all_cons ⟨(v.glo 40), fb_xf (v.fbk 9)⟩ all_nil))) (a_cons (e_exi 4 sf hz hf (tabI_of (v.glo 48) (all_cons ⟨(v.glo 40), fb_ec (v.fbk 10), fb_ki (v.fbk 11)⟩ all_nil)) (v.free 0)) a_nil))))))))
 (HdsA.as 4 (cs := [("InvalidPage", false), ("InvalidText", false), ("InvalidMany", false), ("InvalidDone", false), ("PowerCut", true)]) rfl rfl ⟨rfl, by decide, .inl (v.glo 38)⟩ (tab_of (all_cons ⟨(v.glo 46), v.exm 68⟩ (all_cons ⟨(v.glo 44), v.exm 67⟩ (all_cons ⟨(v.glo 42), v.exm 66⟩ (all_cons ⟨(v.glo 40), v.exm 65⟩ (all_cons ⟨(v.glo 38), v.exm 64⟩ all_nil)))))) (fun F n c fl a oe cls d pn sf hz hf => (s_one (s_ret (eo_of (e_lst (a_cons e_str (a_cons (e_exi 4 sf hz hf (tabI_of (v.glo 48) (all_cons ⟨(v.glo 38), fb_ec (v.fbk 12), fb_ki (v.fbk 13)⟩ all_nil)) (v.free 0)) a_nil)))))))
 HdsA.nil)))))))
theorem ok__law_made (v : V1 h K mg) : OkD P w K mg base D__law_made 5 P__law_made f__law_made := by
  obtain ⟨fd, dS⟩ := v.c.def_ 19 (d := D__law_made) rfl
  have nd : List.Nodup N__law_made := sc__law_made.nd
  obtain ⟨_, d_Disk___init__, k_Disk___init__⟩ := ok_Disk___init__ (P := P) (w := w) (base := base) v
  refine ⟨fd, dS, fo_of dS sc__law_made fun cdv A outer s H E F hr tk => ?_⟩
  exact (s_one (s_try rfl rfl nd tk (fun F W pn xe tk' => (s_one (s_ret (eo_of (e_lst (a_cons e_str (a_cons (e_if (t_val (e_var 2)) (e_fz (eo_make (v.mkr 28) k_Disk___init__ ar_Disk___init__ (hr.mono (by decide)) (v.glo 16) (bn_of d_Disk___init__ fun _ _ _ _ _ _ us ws h1 h2 => match us, ws, h1, h2 with | [_], [_, _], _, _ => rfl) tk' (ca_k (ks := ["width", "pages"]) (v.mkr 28).kp (by decide) (k_cons (e_var 1) (k_cons (e_var 0) k_nil))))) (e_fz (eo_make (v.mkr 28) k_Disk___init__ ar_Disk___init__ (hr.mono (by decide)) (v.glo 16) (bn_of d_Disk___init__ fun _ _ _ _ _ _ us ws h1 h2 => match us, ws, h1, h2 with | [_, _, _], [], _, _ => rfl) tk' (ca_p (v.mkr 28).kp (a_cons (e_var 0) (a_cons (e_var 1) a_nil)))))) a_nil)))))))
 (HdsA.as 3 (cs := [("InvalidPages", true), ("InvalidWidth", false)]) rfl rfl ⟨rfl, by decide, .inl (v.glo 71)⟩ (tab_of (all_cons ⟨(v.glo 71), v.exm 72⟩ (all_cons ⟨(v.glo 69), v.exm 70⟩ all_nil))) (fun F n c fl a oe cls d pn sf hz hf => (s_one (s_ret (eo_of (e_lst (a_cons e_str (a_cons (e_exf 3 sf hz hf (hasX_of (all_cons ⟨(v.glo 71), fb_xf (v.fbk 14)⟩ all_nil))) (a_cons (e_exi 3 sf hz hf (tabI_of (v.glo 48) (all_cons ⟨(v.glo 71), fb_ec (v.fbk 15), fb_ki (v.fbk 16)⟩ all_nil)) (v.free 0)) a_nil))))))))
 (HdsA.as 3 (cs := [("InvalidPages", false), ("InvalidWidth", true)]) rfl rfl ⟨rfl, by decide, .inl (v.glo 69)⟩ (tab_of (all_cons ⟨(v.glo 71), v.exm 74⟩ (all_cons ⟨(v.glo 69), v.exm 73⟩ all_nil))) (fun F n c fl a oe cls d pn sf hz hf => (s_one (s_ret (eo_of (e_lst (a_cons e_str (a_cons (e_exf 3 sf hz hf (hasX_of (all_cons ⟨(v.glo 69), fb_xf (v.fbk 17)⟩ all_nil))) (a_cons (e_exi 3 sf hz hf (tabI_of (v.glo 48) (all_cons ⟨(v.glo 69), fb_ec (v.fbk 18), fb_ki (v.fbk 19)⟩ all_nil)) (v.free 0)) a_nil))))))))
 HdsA.nil))))
theorem ok__law_is_disk (v : V1 h K mg) : OkD P w K mg base D__law_is_disk 10 P__law_is_disk f__law_is_disk := by
  obtain ⟨fd, dS⟩ := v.c.def_ 20 (d := D__law_is_disk) rfl
  have nd : List.Nodup N__law_is_disk := sc__law_is_disk.nd
  obtain ⟨_, d_Disk_loose, k_Disk_loose⟩ := ok_Disk_loose (P := P) (w := w) (base := base) v
  obtain ⟨_, d_Disk_text, k_Disk_text⟩ := ok_Disk_text (P := P) (w := w) (base := base) v
  obtain ⟨_, d__law_same, k__law_same⟩ := ok__law_same (P := P) (w := w) (base := base) v 8
  refine ⟨fd, dS, fo_of dS sc__law_is_disk fun cdv A outer s H E F hr tk => ?_⟩
  exact (s_cons (s_if (t_not (t_val (e_fz (eo_call k__law_same (ar__law_same 8) (hr.mono (by decide)) (v.glo 32) (bn_of d__law_same fun _ _ _ _ _ _ us ws h1 h2 => match us, ws, h1, h2 with | [_, _], [], _, _ => rfl) tk (ca_p d__law_same.kp (a_cons (e_lst (a_cons (e_fld (hasF_of (all_cons ⟨(v.glo 16), v.cls 17, v.noat 18⟩ all_nil)) (e_var 0)) (a_cons (e_fld (hasF_of (all_cons ⟨(v.glo 16), v.cls 17, v.noat 19⟩ all_nil)) (e_var 0)) (a_cons (e_fz (eo_meth (e_var 0) (v.glo 16) (v.cls 17) (v.meth 75) k_Disk_loose ar_Disk_loose (hr.mono (by decide)) (bn_of d_Disk_loose fun _ _ _ _ _ _ us ws h1 h2 => match us, ws, h1, h2 with | [_], [], _, _ => rfl) tk (fun _ => (ca_0 d_Disk_loose.kp)))) a_nil)))) (a_cons (e_lst (a_cons (e_idx (e_var 1) e_int) (a_cons (e_idx (e_var 1) e_int) (a_cons (e_fz (eo_comp [("page", 2), ("text", 3)] rfl nd (i_val (e_idx (e_var 1) e_int)) (blkOk_by (N := N__law_is_disk) (sc := defScope st__law_is_disk) (by decide +kernel)) (by decide) (fun _ _ _ _ _ => (cg_tp rfl (cgs_cons (cg_nm 2 nd) (cgs_cons (cg_nm 3 nd) cgs_nil)))) (fun _ _ _ _ _ => ts_nil) (fun _ _ _ _ _ => (e_var 2)))) a_nil)))) a_nil)))))))
 (s_one (s_ret (eo_of e_bl)))
 s_nil)
 (s_cons (s_expr (eo_of (e_append false (l_obj (e_adopt (eo_meth (e_var 0) (v.glo 16) (v.cls 17) (v.meth 75) k_Disk_loose ar_Disk_loose (hr.mono (by decide)) (bn_of d_Disk_loose fun _ _ _ _ _ _ us ws h1 h2 => match us, ws, h1, h2 with | [_], [], _, _ => rfl) tk (fun _ => (ca_0 d_Disk_loose.kp))))) (eo_of e_non))))
 (s_one (s_ret (eo_of (e_cmp (og_eq hr.units) (e_fz (eo_comp [("page", 2)] rfl nd (i_range1 (v.free 11) (a_cons (e_idx (e_var 1) e_int) a_nil)) (blkOk_by (N := N__law_is_disk) (sc := defScope st__law_is_disk) (by decide +kernel)) (by decide) (fun _ _ _ _ _ => (cg_nm 2 nd)) (fun _ _ _ _ _ => (ts_one (t_not (t_val (e_fz (eo_call k__law_same (ar__law_same 8) (hr.mono (by decide)) (v.glo 32) (bn_of d__law_same fun _ _ _ _ _ _ us ws h1 h2 => match us, ws, h1, h2 with | [_, _], [], _, _ => rfl) takes0 (ca_p d__law_same.kp (a_cons (e_fz (eo_meth (e_var 0) (v.glo 16) (v.cls 17) (v.meth 33) k_Disk_text ar_Disk_text (hr.mono (by decide)) (bn_of d_Disk_text fun _ _ _ _ _ _ us ws h1 h2 => match us, ws, h1, h2 with | [_, _], [], _, _ => rfl) takes0 (fun _ => (ca_p d_Disk_text.kp (a_cons (e_var 2) a_nil))))) (a_cons (e_idx (e_idx (e_var 1) e_int) (e_var 2)) a_nil))))))))) (fun _ _ _ _ _ => (e_var 2)))) (e_lst a_nil)))))))
theorem ok__law_put (v : V1 h K mg) : OkD P w K mg base D__law_put 1 P__law_put f__law_put := by
  obtain ⟨fd, dS⟩ := v.c.def_ 21 (d := D__law_put) rfl
  have nd : List.Nodup N__law_put := sc__law_put.nd
  refine ⟨fd, dS, fo_of dS sc__law_put fun cdv A outer s H E F hr tk => ?_⟩
  exact (s_one (s_ret (eo_of (e_bin og_add (e_bin og_add (e_slice (e_var 0) p_none (p_some (e_var 1))) (e_lst (a_cons (e_var 2) a_nil))) (e_slice (e_var 0) (p_some (e_bin og_add (e_var 1) e_int)) p_none)))))
theorem ok__law_text (v : V1 h K mg) : OkD P w K mg base D__law_text 2 P__law_text f__law_text := by
  obtain ⟨fd, dS⟩ := v.c.def_ 22 (d := D__law_text) rfl
  have nd : List.Nodup N__law_text := sc__law_text.nd
  obtain ⟨_, d__law_take, k__law_take⟩ := ok__law_take (P := P) (w := w) (base := base) v
  refine ⟨fd, dS, fo_of dS sc__law_text fun cdv A outer s H E F hr tk => ?_⟩
  exact (s_cons (s_asg (eo_of e_str) (g_name false 2 nd))
 (s_cons (s_asg (eo_of (e_idx (e_lst (a_cons e_int (a_cons e_int (a_cons (e_var 1) (a_cons (e_fz (eo_call k__law_take ar__law_take (hr.mono (by decide)) (v.glo 76) (bn_of d__law_take fun _ _ _ _ _ _ us ws h1 h2 => match us, ws, h1, h2 with | [_, _], [], _, _ => rfl) tk (ca_p d__law_take.kp (a_cons (e_var 0) (a_cons (e_bin og_add (e_var 1) e_int) a_nil))))) (a_cons (e_fz (eo_call k__law_take ar__law_take (hr.mono (by decide)) (v.glo 76) (bn_of d__law_take fun _ _ _ _ _ _ us ws h1 h2 => match us, ws, h1, h2 with | [_, _], [], _, _ => rfl) tk (ca_p d__law_take.kp (a_cons (e_var 0) (a_cons e_int a_nil))))) a_nil)))))) (e_fz (eo_call k__law_take ar__law_take (hr.mono (by decide)) (v.glo 76) (bn_of d__law_take fun _ _ _ _ _ _ us ws h1 h2 => match us, ws, h1, h2 with | [_, _], [], _, _ => rfl) tk (ca_p d__law_take.kp (a_cons (e_var 0) (a_cons e_int a_nil))))))) (g_name false 3 nd))
 (s_cons (s_asg (eo_of (e_fz (eo_call k__law_take ar__law_take (hr.mono (by decide)) (v.glo 76) (bn_of d__law_take fun _ _ _ _ _ _ us ws h1 h2 => match us, ws, h1, h2 with | [_, _], [], _, _ => rfl) tk (ca_p d__law_take.kp (a_cons (e_var 0) (a_cons e_int a_nil)))))) (g_name false 4 nd))
 (s_one (s_ret (eo_of (e_bin og_add (e_bin og_mul (e_bin og_add (e_slice (e_var 2) (p_some (e_var 4)) p_none) (e_slice (e_var 2) p_none (p_some (e_var 4)))) (e_bin og_div (e_var 3) e_int)) (e_slice (e_var 2) p_none (p_some (e_bin og_sub (e_var 3) (e_bin og_mul (e_bin og_div (e_var 3) e_int) e_int)))))))))))
theorem ok__law_no_text (v : V1 h K mg) : OkD P w K mg base D__law_no_text 2 P__law_no_text f__law_no_text := by
  obtain ⟨fd, dS⟩ := v.c.def_ 23 (d := D__law_no_text) rfl
  have nd : List.Nodup N__law_no_text := sc__law_no_text.nd
  obtain ⟨_, d__law_take, k__law_take⟩ := ok__law_take (P := P) (w := w) (base := base) v
  refine ⟨fd, dS, fo_of dS sc__law_no_text fun cdv A outer s H E F hr tk => ?_⟩
  exact (s_cons (s_asg (eo_of (e_lst (a_cons e_non (a_cons (e_bin og_mul e_str (e_bin og_add (e_var 1) e_int)) (a_cons e_int (a_cons (e_lst (a_cons e_str a_nil)) (a_cons (e_tup (a_cons e_str a_nil)) (a_cons e_str (a_cons e_str (a_cons e_dict0 (a_cons e_bl a_nil))))))))))) (g_name false 2 nd))
 (s_one (s_ret (eo_of (e_idx (e_var 2) (e_fz (eo_call k__law_take ar__law_take (hr.mono (by decide)) (v.glo 76) (bn_of d__law_take fun _ _ _ _ _ _ us ws h1 h2 => match us, ws, h1, h2 with | [_, _], [], _, _ => rfl) tk (ca_p d__law_take.kp (a_cons (e_var 0) (a_cons e_int a_nil))))))))))
theorem ok__law_no_page (v : V1 h K mg) : OkD P w K mg base D__law_no_page 2 P__law_no_page f__law_no_page := by
  obtain ⟨fd, dS⟩ := v.c.def_ 24 (d := D__law_no_page) rfl
  have nd : List.Nodup N__law_no_page := sc__law_no_page.nd
  obtain ⟨_, d__law_take, k__law_take⟩ := ok__law_take (P := P) (w := w) (base := base) v
  refine ⟨fd, dS, fo_of dS sc__law_no_page fun cdv A outer s H E F hr tk => ?_⟩
  exact (s_one (s_ret (eo_of (e_idx (e_lst (a_cons e_non (a_cons (e_neg e_int) (a_cons (e_var 1) (a_cons e_bl (a_cons e_str (a_cons (e_tup (a_cons e_int a_nil)) (a_cons (e_lst (a_cons e_int a_nil)) (a_cons e_dict0 (a_cons (e_bin og_pow e_int e_int) a_nil)))))))))) (e_fz (eo_call k__law_take ar__law_take (hr.mono (by decide)) (v.glo 76) (bn_of d__law_take fun _ _ _ _ _ _ us ws h1 h2 => match us, ws, h1, h2 with | [_, _], [], _, _ => rfl) tk (ca_p d__law_take.kp (a_cons (e_var 0) (a_cons e_int a_nil)))))))))
theorem ok__law_cut_right (v : V1 h K mg) : OkD P w K mg base D__law_cut_right 11 P__law_cut_right f__law_cut_right := by
  obtain ⟨fd, dS⟩ := v.c.def_ 25 (d := D__law_cut_right) rfl
  have nd : List.Nodup N__law_cut_right := sc__law_cut_right.nd
  obtain ⟨_, d__law_is_disk, k__law_is_disk⟩ := ok__law_is_disk (P := P) (w := w) (base := base) v
  obtain ⟨_, d__law_met, k__law_met⟩ := ok__law_met (P := P) (w := w) (base := base) v
  obtain ⟨_, d__law_put, k__law_put⟩ := ok__law_put (P := P) (w := w) (base := base) v
  obtain ⟨_, d__law_same, k__law_same⟩ := ok__law_same (P := P) (w := w) (base := base) v 8
  obtain ⟨_, d__law_take, k__law_take⟩ := ok__law_take (P := P) (w := w) (base := base) v
  refine ⟨fd, dS, fo_of dS sc__law_cut_right fun cdv A outer s H E F hr tk => ?_⟩
  exact (s_cons (s_asg (eo_of (e_bi cg_len (v.free 7) (by decide +kernel) (a_cons (e_idx (e_var 2) e_int) a_nil))) (g_name false 4 nd))
 (s_cons (s_setLc [("k", 8)] false rfl nd (i_range1 (v.free 11) (a_cons (e_var 4) a_nil)) (blkOk_by (N := N__law_cut_right) (sc := defScope st__law_cut_right) (by decide +kernel)) (by decide) (fun _ _ _ _ _ => (cg_nm 8 nd)) (fun _ _ _ _ _ => (ts_one (t_cmp (og_eq hr.units) (e_fz (eo_call k__law_take ar__law_take (hr.mono (by decide)) (v.glo 76) (bn_of d__law_take fun _ _ _ _ _ _ us ws h1 h2 => match us, ws, h1, h2 with | [_, _], [], _, _ => rfl) takes0 (ca_p d__law_take.kp (a_cons (e_var 0) (a_cons e_int a_nil))))) e_int))) (fun _ _ _ _ _ => (e_var 8)) (sw_true rfl rfl rfl (by decide +kernel)))
 (s_cons (s_asg (eo_of (e_idx (e_lst (a_cons (e_var 5) (a_cons (e_lst a_nil) (a_cons (e_fz (eo_listR rfl (v.free 5) (v.free 11) (e_var 4))) a_nil)))) (e_fz (eo_call k__law_take ar__law_take (hr.mono (by decide)) (v.glo 76) (bn_of d__law_take fun _ _ _ _ _ _ us ws h1 h2 => match us, ws, h1, h2 with | [_, _], [], _, _ => rfl) tk (ca_p d__law_take.kp (a_cons (e_var 0) (a_cons e_int a_nil))))))) (g_name false 5 nd))
 (s_cons (s_asg (eo_of (e_fz (eo_call k__law_met ar__law_met (hr.mono (by decide)) (v.glo 77) (bn_of d__law_met fun _ _ _ _ _ _ us ws h1 h2 => match us, ws, h1, h2 with | [_, _, _, _], [], _, _ => rfl) tk (ca_p d__law_met.kp (a_cons (e_var 1) (a_cons e_str (a_cons (e_lst (a_cons (e_if (t_cmp (og_eq hr.units) (e_fz (eo_call k__law_take ar__law_take (hr.mono (by decide)) (v.glo 76) (bn_of d__law_take fun _ _ _ _ _ _ us ws h1 h2 => match us, ws, h1, h2 with | [_, _], [], _, _ => rfl) tk (ca_p d__law_take.kp (a_cons (e_var 0) (a_cons e_int a_nil))))) e_int) (e_var 5) (e_bt cg_tuple (v.free 4) (by decide +kernel) (a_cons (e_var 5) a_nil))) a_nil)) (a_cons (e_var 3) a_nil)))))))) (g_name false 6 nd))
 (s_cons (s_if (t_bool (w_or (t_cmp (og_ne hr.units) (e_idx (e_var 6) e_int) e_str) (w_or1 (t_not (t_val (e_isO (e_idx (e_var 6) e_int) (tabO_of (v.glo 16) (all_cons ⟨(v.glo 16), fb_ic (v.cls 17) (v.fbk 20), fb_ki (v.fbk 21)⟩ all_nil)) (v.free 0)))))))
 (s_one (s_ret (eo_of e_non)))
 s_nil)
 (s_cons (s_asg (eo_of (e_idx (e_var 2) e_int)) (g_name false 7 nd))
 (s_cons (s_for (passes_of rfl) rfl (i_val (e_var 5)) (g_name false 8 nd)
 (s_one (s_asg (eo_of (e_fz (eo_call k__law_put ar__law_put (hr.mono (by decide)) (v.glo 78) (bn_of d__law_put fun _ _ _ _ _ _ us ws h1 h2 => match us, ws, h1, h2 with | [_, _, _], [], _, _ => rfl) tk (ca_p d__law_put.kp (a_cons (e_var 7) (a_cons (e_idx (e_idx (e_idx (e_var 2) e_int) (e_var 8)) e_int) (a_cons (e_idx (e_idx (e_idx (e_var 2) e_int) (e_var 8)) e_int) a_nil))))))) (g_name false 7 nd))))
 (s_cons (s_asg (eo_of (e_lst (a_cons (e_idx (e_var 2) e_int) (a_cons (e_idx (e_var 2) e_int) (a_cons (e_var 7) (a_cons (e_var 7) (a_cons (e_lst a_nil) (a_cons e_non a_nil)))))))) (g_name false 9 nd))
 (s_cons (s_if (t_bool (w_or (t_not (t_val (e_fz (eo_call k__law_is_disk ar__law_is_disk (hr.mono (by decide)) (v.glo 79) (bn_of d__law_is_disk fun _ _ _ _ _ _ us ws h1 h2 => match us, ws, h1, h2 with | [_, _], [], _, _ => rfl) tk (ca_p d__law_is_disk.kp (a_cons (e_idx (e_var 6) e_int) (a_cons (e_var 9) a_nil))))))) (w_or1 (t_not (t_val (e_fz (eo_call k__law_is_disk ar__law_is_disk (hr.mono (by decide)) (v.glo 79) (bn_of d__law_is_disk fun _ _ _ _ _ _ us ws h1 h2 => match us, ws, h1, h2 with | [_, _], [], _, _ => rfl) tk (ca_p d__law_is_disk.kp (a_cons (e_var 1) (a_cons (e_var 2) a_nil))))))))))
 (s_one (s_ret (eo_of e_non)))
 s_nil)
 (s_cons (s_asg (eo_of (e_idx (e_lst (a_cons e_non (a_cons (e_lst (a_cons (e_var 4) a_nil)) (a_cons (e_lst (a_cons (e_neg e_int) a_nil)) (a_cons (e_lst (a_cons e_int (a_cons e_int a_nil))) (a_cons (e_lst (a_cons e_int (a_cons e_int a_nil))) (a_cons (e_lst (a_cons e_bl a_nil)) (a_cons (e_lst (a_cons e_str a_nil)) (a_cons e_int (a_cons e_dict0 (a_cons e_str (a_cons (e_lst (a_cons e_non a_nil)) a_nil)))))))))))) (e_fz (eo_call k__law_take ar__law_take (hr.mono (by decide)) (v.glo 76) (bn_of d__law_take fun _ _ _ _ _ _ us ws h1 h2 => match us, ws, h1, h2 with | [_, _], [], _, _ => rfl) tk (ca_p d__law_take.kp (a_cons (e_var 0) (a_cons e_int a_nil))))))) (g_name false 10 nd))
 (s_cons (s_if (t_not (t_val (e_fz (eo_call k__law_same (ar__law_same 8) (hr.mono (by decide)) (v.glo 32) (bn_of d__law_same fun _ _ _ _ _ _ us ws h1 h2 => match us, ws, h1, h2 with | [_, _], [], _, _ => rfl) tk (ca_p d__law_same.kp (a_cons (e_fz (eo_call k__law_met ar__law_met (hr.mono (by decide)) (v.glo 77) (bn_of d__law_met fun _ _ _ _ _ _ us ws h1 h2 => match us, ws, h1, h2 with | [_, _, _, _], [], _, _ => rfl) tk (ca_p d__law_met.kp (a_cons (e_var 1) (a_cons e_str (a_cons (e_lst (a_cons (e_var 10) a_nil)) (a_cons (e_var 3) a_nil))))))) (a_cons (e_lst (a_cons e_str (a_cons (e_var 10) (a_cons e_bl a_nil)))) a_nil)))))))
 (s_one (s_ret (eo_of e_non)))
 s_nil)
 (s_one (s_ret (eo_of (e_lst (a_cons (e_idx (e_var 6) e_int) (a_cons (e_var 9) a_nil)))))))))))))))))
theorem ok__law_step (v : V1 h K mg) : OkD P w K mg base D__law_step 10 P__law_step f__law_step := by
  obtain ⟨fd, dS⟩ := v.c.def_ 26 (d := D__law_step) rfl
  have nd : List.Nodup N__law_step := sc__law_step.nd
  obtain ⟨_, d__law_met, k__law_met⟩ := ok__law_met (P := P) (w := w) (base := base) v
  obtain ⟨_, d__law_no_page, k__law_no_page⟩ := ok__law_no_page (P := P) (w := w) (base := base) v
  obtain ⟨_, d__law_no_text, k__law_no_text⟩ := ok__law_no_text (P := P) (w := w) (base := base) v
  obtain ⟨_, d__law_put, k__law_put⟩ := ok__law_put (P := P) (w := w) (base := base) v
  obtain ⟨_, d__law_same, k__law_same⟩ := ok__law_same (P := P) (w := w) (base := base) v 8
  obtain ⟨_, d__law_take, k__law_take⟩ := ok__law_take (P := P) (w := w) (base := base) v
  obtain ⟨_, d__law_text, k__law_text⟩ := ok__law_text (P := P) (w := w) (base := base) v
  refine ⟨fd, dS, fo_of dS sc__law_step fun cdv A outer s H E F hr tk => ?_⟩
  exact (s_cons (s_par (i := 5) (j := 6) false false rfl nd (ao_cons (eo_of (e_fz (eo_call k__law_take ar__law_take (hr.mono (by decide)) (v.glo 76) (bn_of d__law_take fun _ _ _ _ _ _ us ws h1 h2 => match us, ws, h1, h2 with | [_, _], [], _, _ => rfl) tk (ca_p d__law_take.kp (a_cons (e_var 0) (a_cons e_int a_nil)))))) (ao_cons (eo_of (e_fz (eo_call k__law_take ar__law_take (hr.mono (by decide)) (v.glo 76) (bn_of d__law_take fun _ _ _ _ _ _ us ws h1 h2 => match us, ws, h1, h2 with | [_, _], [], _, _ => rfl) tk (ca_p d__law_take.kp (a_cons (e_var 0) (a_cons (e_idx (e_var 2) e_int) a_nil)))))) ao_nil)))
 (s_cons (s_if (t_cmp og_lt (e_var 5) e_int)
 (s_cons (s_asg (eo_of (e_fz (eo_call k__law_text ar__law_text (hr.mono (by decide)) (v.glo 80) (bn_of d__law_text fun _ _ _ _ _ _ us ws h1 h2 => match us, ws, h1, h2 with | [_, _], [], _, _ => rfl) tk (ca_p d__law_text.kp (a_cons (e_var 0) (a_cons (e_idx (e_var 2) e_int) a_nil)))))) (g_name false 7 nd))
 (s_cons (s_par (i := 4) (j := 11) false false rfl nd (ao_cons (eo_of (e_fz (eo_call k__law_met ar__law_met (hr.mono (by decide)) (v.glo 77) (bn_of d__law_met fun _ _ _ _ _ _ us ws h1 h2 => match us, ws, h1, h2 with | [_, _, _, _], [], _, _ => rfl) tk (ca_p d__law_met.kp (a_cons (e_var 1) (a_cons e_str (a_cons (e_lst (a_cons (e_var 6) (a_cons (e_var 7) a_nil))) (a_cons (e_var 3) a_nil)))))))) (ao_cons (eo_of (e_if (t_cmp (og_ne hr.units) (e_idx (e_var 2) e_int) e_int) (e_lst (a_cons e_str (a_cons e_non a_nil))) (e_lst (a_cons e_str (a_cons e_bl a_nil))))) ao_nil)))
 (s_cons (s_if (t_cmp (og_ne hr.units) (e_idx (e_var 2) e_int) e_int)
 (s_one (s_asg (eo_of (e_lst (a_cons (e_idx (e_var 2) e_int) (a_cons (e_idx (e_var 2) e_int) (a_cons (e_fz (eo_call k__law_put ar__law_put (hr.mono (by decide)) (v.glo 78) (bn_of d__law_put fun _ _ _ _ _ _ us ws h1 h2 => match us, ws, h1, h2 with | [_, _, _], [], _, _ => rfl) tk (ca_p d__law_put.kp (a_cons (e_idx (e_var 2) e_int) (a_cons (e_var 6) (a_cons (e_var 7) a_nil)))))) (a_cons (e_idx (e_var 2) e_int) (a_cons (e_bin og_add (e_idx (e_var 2) e_int) (e_lst (a_cons (e_tup (a_cons (e_var 6) (a_cons (e_var 7) a_nil))) a_nil))) (a_cons (e_if (t_cmp og_is (e_idx (e_var 2) e_int) e_non) e_non (e_bin og_sub (e_idx (e_var 2) e_int) e_int)) a_nil)))))))) (g_name false 2 nd)))
 s_nil)
 (s_one (s_ret (eo_of (e_if (t_val (e_fz (eo_call k__law_same (ar__law_same 8) (hr.mono (by decide)) (v.glo 32) (bn_of d__law_same fun _ _ _ _ _ _ us ws h1 h2 => match us, ws, h1, h2 with | [_, _], [], _, _ => rfl) tk (ca_p d__law_same.kp (a_cons (e_var 4) (a_cons (e_var 11) a_nil)))))) (e_var 2) e_non)))))))
 s_nil)
 (s_cons (s_if (t_cmp og_lt (e_var 5) e_int)
 (s_cons (s_par (i := 4) (j := 11) false false rfl nd (ao_cons (eo_of (e_fz (eo_call k__law_met ar__law_met (hr.mono (by decide)) (v.glo 77) (bn_of d__law_met fun _ _ _ _ _ _ us ws h1 h2 => match us, ws, h1, h2 with | [_, _, _, _], [], _, _ => rfl) tk (ca_p d__law_met.kp (a_cons (e_var 1) (a_cons e_str (a_cons (e_lst a_nil) (a_cons (e_var 3) a_nil)))))))) (ao_cons (eo_of (e_if (t_cmp (og_ne hr.units) (e_idx (e_var 2) e_int) e_int) (e_lst (a_cons e_str (a_cons e_non a_nil))) (e_lst (a_cons e_str (a_cons e_bl a_nil))))) ao_nil)))
 (s_cons (s_if (t_cmp (og_ne hr.units) (e_idx (e_var 2) e_int) e_int)
 (s_one (s_asg (eo_of (e_lst (a_cons (e_idx (e_var 2) e_int) (a_cons (e_idx (e_var 2) e_int) (a_cons (e_idx (e_var 2) e_int) (a_cons (e_idx (e_var 2) e_int) (a_cons (e_lst a_nil) (a_cons (e_if (t_cmp og_is (e_idx (e_var 2) e_int) e_non) e_non (e_bin og_sub (e_idx (e_var 2) e_int) e_int)) a_nil)))))))) (g_name false 2 nd)))
 s_nil)
 (s_one (s_ret (eo_of (e_if (t_val (e_fz (eo_call k__law_same (ar__law_same 8) (hr.mono (by decide)) (v.glo 32) (bn_of d__law_same fun _ _ _ _ _ _ us ws h1 h2 => match us, ws, h1, h2 with | [_, _], [], _, _ => rfl) tk (ca_p d__law_same.kp (a_cons (e_var 4) (a_cons (e_var 11) a_nil)))))) (e_var 2) e_non))))))
 s_nil)
 (s_cons (s_if (t_cmp (og_eq hr.units) (e_var 5) e_int)
 (s_cons (s_asg (eo_of (e_idx (e_lst (a_cons e_non (a_cons e_int (a_cons e_int (a_cons (e_bin og_add e_int (e_fz (eo_call k__law_take ar__law_take (hr.mono (by decide)) (v.glo 76) (bn_of d__law_take fun _ _ _ _ _ _ us ws h1 h2 => match us, ws, h1, h2 with | [_, _], [], _, _ => rfl) tk (ca_p d__law_take.kp (a_cons (e_var 0) (a_cons e_int a_nil)))))) (a_cons (e_bin og_pow e_int e_int) a_nil)))))) (e_fz (eo_call k__law_take ar__law_take (hr.mono (by decide)) (v.glo 76) (bn_of d__law_take fun _ _ _ _ _ _ us ws h1 h2 => match us, ws, h1, h2 with | [_, _], [], _, _ => rfl) tk (ca_p d__law_take.kp (a_cons (e_var 0) (a_cons e_int a_nil))))))) (g_name false 8 nd))
 (s_one (s_ret (eo_of (e_if (t_val (e_fz (eo_call k__law_same (ar__law_same 8) (hr.mono (by decide)) (v.glo 32) (bn_of d__law_same fun _ _ _ _ _ _ us ws h1 h2 => match us, ws, h1, h2 with | [_, _], [], _, _ => rfl) tk (ca_p d__law_same.kp (a_cons (e_fz (eo_call k__law_met ar__law_met (hr.mono (by decide)) (v.glo 77) (bn_of d__law_met fun _ _ _ _ _ _ us ws h1 h2 => match us, ws, h1, h2 with | [_, _, _, _], [], _, _ => rfl) tk (ca_p d__law_met.kp (a_cons (e_var 1) (a_cons e_str (a_cons (e_lst (a_cons (e_var 8) a_nil)) (a_cons (e_var 3) a_nil))))))) (a_cons (e_lst (a_cons e_str (a_cons e_non a_nil))) a_nil)))))) (e_bin og_add (e_slice (e_var 2) p_none (p_some e_int)) (e_lst (a_cons (e_var 8) a_nil))) e_non)))))
 s_nil)
 (s_cons (s_if (t_cmp (og_eq hr.units) (e_var 5) e_int)
 (s_cons (s_asg (eo_of (e_idx (e_lst (a_cons (e_neg e_int) (a_cons e_bl (a_cons e_str (a_cons (e_tup (a_cons e_int a_nil)) (a_cons (e_lst (a_cons e_int a_nil)) (a_cons e_dict0 (a_cons e_bl a_nil)))))))) (e_fz (eo_call k__law_take ar__law_take (hr.mono (by decide)) (v.glo 76) (bn_of d__law_take fun _ _ _ _ _ _ us ws h1 h2 => match us, ws, h1, h2 with | [_, _], [], _, _ => rfl) tk (ca_p d__law_take.kp (a_cons (e_var 0) (a_cons e_int a_nil))))))) (g_name false 9 nd))
 (s_one (s_ret (eo_of (e_if (t_val (e_fz (eo_call k__law_same (ar__law_same 8) (hr.mono (by decide)) (v.glo 32) (bn_of d__law_same fun _ _ _ _ _ _ us ws h1 h2 => match us, ws, h1, h2 with | [_, _], [], _, _ => rfl) tk (ca_p d__law_same.kp (a_cons (e_fz (eo_call k__law_met ar__law_met (hr.mono (by decide)) (v.glo 77) (bn_of d__law_met fun _ _ _ _ _ _ us ws h1 h2 => match us, ws, h1, h2 with | [_, _, _, _], [], _, _ => rfl) tk (ca_p d__law_met.kp (a_cons (e_var 1) (a_cons e_str (a_cons (e_lst (a_cons (e_var 9) a_nil)) (a_cons (e_var 3) a_nil))))))) (a_cons (e_lst (a_cons e_str (a_cons (e_var 9) (a_cons e_bl a_nil)))) a_nil)))))) (e_var 2) e_non)))))
 s_nil)
 (s_cons (s_par (i := 10) (j := 7) false false rfl nd (ao_cons (eo_of (e_fz (eo_call k__law_no_page ar__law_no_page (hr.mono (by decide)) (v.glo 81) (bn_of d__law_no_page fun _ _ _ _ _ _ us ws h1 h2 => match us, ws, h1, h2 with | [_, _], [], _, _ => rfl) tk (ca_p d__law_no_page.kp (a_cons (e_var 0) (a_cons (e_idx (e_var 2) e_int) a_nil)))))) (ao_cons (eo_of (e_fz (eo_call k__law_no_text ar__law_no_text (hr.mono (by decide)) (v.glo 82) (bn_of d__law_no_text fun _ _ _ _ _ _ us ws h1 h2 => match us, ws, h1, h2 with | [_, _], [], _, _ => rfl) tk (ca_p d__law_no_text.kp (a_cons (e_var 0) (a_cons (e_idx (e_var 2) e_int) a_nil)))))) ao_nil)))
 (s_cons (s_asg (eo_of (e_lst (a_cons (e_fz (eo_call k__law_met ar__law_met (hr.mono (by decide)) (v.glo 77) (bn_of d__law_met fun _ _ _ _ _ _ us ws h1 h2 => match us, ws, h1, h2 with | [_, _, _, _], [], _, _ => rfl) tk (ca_p d__law_met.kp (a_cons (e_var 1) (a_cons e_str (a_cons (e_lst (a_cons (e_var 10) (a_cons (e_var 7) a_nil))) (a_cons (e_var 3) a_nil))))))) (a_cons (e_fz (eo_call k__law_met ar__law_met (hr.mono (by decide)) (v.glo 77) (bn_of d__law_met fun _ _ _ _ _ _ us ws h1 h2 => match us, ws, h1, h2 with | [_, _, _, _], [], _, _ => rfl) tk (ca_p d__law_met.kp (a_cons (e_var 1) (a_cons e_str (a_cons (e_lst (a_cons (e_var 6) (a_cons (e_var 7) a_nil))) (a_cons (e_not (e_var 3)) a_nil))))))) (a_cons (e_fz (eo_call k__law_met ar__law_met (hr.mono (by decide)) (v.glo 77) (bn_of d__law_met fun _ _ _ _ _ _ us ws h1 h2 => match us, ws, h1, h2 with | [_, _, _, _], [], _, _ => rfl) tk (ca_p d__law_met.kp (a_cons (e_var 1) (a_cons e_str (a_cons (e_lst (a_cons (e_var 10) a_nil)) (a_cons (e_var 3) a_nil))))))) a_nil))))) (g_name false 4 nd))
 (s_one (s_ret (eo_of (e_if (t_val (e_fz (eo_call k__law_same (ar__law_same 8) (hr.mono (by decide)) (v.glo 32) (bn_of d__law_same fun _ _ _ _ _ _ us ws h1 h2 => match us, ws, h1, h2 with | [_, _], [], _, _ => rfl) tk (ca_p d__law_same.kp (a_cons (e_var 4) (a_cons (e_lst (a_cons (e_lst (a_cons e_str (a_cons (e_var 10) (a_cons e_bl a_nil)))) (a_cons (e_lst (a_cons e_str (a_cons (e_var 7) (a_cons e_bl a_nil)))) (a_cons (e_lst (a_cons e_str (a_cons (e_var 10) (a_cons e_bl a_nil)))) a_nil)))) a_nil)))))) (e_var 2) e_non)))))))))))
theorem ok__law_life_right (v : V1 h K mg) : OkD P w K mg base D__law_life_right 12 P__law_life_right f__law_life_right := by
  obtain ⟨fd, dS⟩ := v.c.def_ 27 (d := D__law_life_right) rfl
  have nd : List.Nodup N__law_life_right := sc__law_life_right.nd
  obtain ⟨_, d__law_cut_right, k__law_cut_right⟩ := ok__law_cut_right (P := P) (w := w) (base := base) v
  obtain ⟨_, d__law_is_disk, k__law_is_disk⟩ := ok__law_is_disk (P := P) (w := w) (base := base) v
  obtain ⟨_, d__law_made, k__law_made⟩ := ok__law_made (P := P) (w := w) (base := base) v
  obtain ⟨_, d__law_met, k__law_met⟩ := ok__law_met (P := P) (w := w) (base := base) v
  obtain ⟨_, d__law_same, k__law_same⟩ := ok__law_same (P := P) (w := w) (base := base) v 8
  obtain ⟨_, d__law_step, k__law_step⟩ := ok__law_step (P := P) (w := w) (base := base) v
  obtain ⟨_, d__law_take, k__law_take⟩ := ok__law_take (P := P) (w := w) (base := base) v
  refine ⟨fd, dS, fo_of dS sc__law_life_right fun cdv A outer s H E F hr tk => ?_⟩
  exact (s_cons (s_par (i := 4) (j := 5) false false rfl nd (ao_cons (eo_of (e_idx (e_lst (a_cons e_int (a_cons e_int (a_cons (e_bin og_add e_int (e_fz (eo_call k__law_take ar__law_take (hr.mono (by decide)) (v.glo 76) (bn_of d__law_take fun _ _ _ _ _ _ us ws h1 h2 => match us, ws, h1, h2 with | [_, _], [], _, _ => rfl) tk (ca_p d__law_take.kp (a_cons (e_var 0) (a_cons e_int a_nil)))))) (a_cons e_int a_nil))))) (e_idx (e_lst (a_cons e_int (a_cons e_int (a_cons e_int (a_cons e_int (a_cons e_int (a_cons e_int (a_cons e_int (a_cons e_int a_nil))))))))) (e_fz (eo_call k__law_take ar__law_take (hr.mono (by decide)) (v.glo 76) (bn_of d__law_take fun _ _ _ _ _ _ us ws h1 h2 => match us, ws, h1, h2 with | [_, _], [], _, _ => rfl) tk (ca_p d__law_take.kp (a_cons (e_var 0) (a_cons e_int a_nil)))))))) (ao_cons (eo_of (e_idx (e_lst (a_cons e_int (a_cons e_int (a_cons (e_bin og_add e_int (e_fz (eo_call k__law_take ar__law_take (hr.mono (by decide)) (v.glo 76) (bn_of d__law_take fun _ _ _ _ _ _ us ws h1 h2 => match us, ws, h1, h2 with | [_, _], [], _, _ => rfl) tk (ca_p d__law_take.kp (a_cons (e_var 0) (a_cons e_int a_nil)))))) a_nil)))) (e_fz (eo_call k__law_take ar__law_take (hr.mono (by decide)) (v.glo 76) (bn_of d__law_take fun _ _ _ _ _ _ us ws h1 h2 => match us, ws, h1, h2 with | [_, _], [], _, _ => rfl) tk (ca_p d__law_take.kp (a_cons (e_var 0) (a_cons e_int a_nil))))))) ao_nil)))
 (s_cons (s_asg (eo_of (e_fz (eo_call k__law_made ar__law_made (hr.mono (by decide)) (v.glo 83) (bn_of d__law_made fun _ _ _ _ _ _ us ws h1 h2 => match us, ws, h1, h2 with | [_, _, _], [], _, _ => rfl) tk (ca_p d__law_made.kp (a_cons (e_var 4) (a_cons (e_var 5) (a_cons (e_var 1) a_nil))))))) (g_name false 2 nd))
 (s_cons (s_if (t_cmp (og_ne hr.units) (e_idx (e_var 2) e_int) e_str)
 (s_one (s_ret (eo_of e_bl)))
 s_nil)
 (s_cons (s_par (i := 6) (j := 7) false false rfl nd (ao_cons (eo_of (e_idx (e_var 2) e_int)) (ao_cons (eo_of (e_lst (a_cons (e_var 4) (a_cons (e_var 5) (a_cons (e_bin og_mul (e_lst (a_cons e_str a_nil)) (e_var 4)) (a_cons (e_bin og_mul (e_lst (a_cons e_str a_nil)) (e_var 4)) (a_cons (e_lst a_nil) (a_cons e_non a_nil)))))))) ao_nil)))
 (s_cons (s_for (passes_of rfl) rfl (i_range1 (v.free 11) (a_cons (e_bin og_add e_int (e_fz (eo_call k__law_take ar__law_take (hr.mono (by decide)) (v.glo 76) (bn_of d__law_take fun _ _ _ _ _ _ us ws h1 h2 => match us, ws, h1, h2 with | [_, _], [], _, _ => rfl) tk (ca_p d__law_take.kp (a_cons (e_var 0) (a_cons e_int a_nil)))))) a_nil)) (g_name false 3 nd)
 (s_cons (s_asg (eo_of (e_fz (eo_call k__law_step ar__law_step (hr.mono (by decide)) (v.glo 84) (bn_of d__law_step fun _ _ _ _ _ _ us ws h1 h2 => match us, ws, h1, h2 with | [_, _, _, _], [], _, _ => rfl) tk (ca_p d__law_step.kp (a_cons (e_var 0) (a_cons (e_var 6) (a_cons (e_var 7) (a_cons (e_var 1) a_nil)))))))) (g_name false 7 nd))
 (s_cons (s_if (t_bool (w_or (t_cmp og_is (e_var 7) e_non) (w_or1 (t_not (t_val (e_fz (eo_call k__law_is_disk ar__law_is_disk (hr.mono (by decide)) (v.glo 79) (bn_of d__law_is_disk fun _ _ _ _ _ _ us ws h1 h2 => match us, ws, h1, h2 with | [_, _], [], _, _ => rfl) tk (ca_p d__law_is_disk.kp (a_cons (e_var 6) (a_cons (e_var 7) a_nil))))))))))
 (s_one (s_ret (eo_of e_bl)))
 s_nil)
 (s_cons (s_if (t_cmp (og_eq hr.units) (e_fz (eo_call k__law_take ar__law_take (hr.mono (by decide)) (v.glo 76) (bn_of d__law_take fun _ _ _ _ _ _ us ws h1 h2 => match us, ws, h1, h2 with | [_, _], [], _, _ => rfl) tk (ca_p d__law_take.kp (a_cons (e_var 0) (a_cons e_int a_nil))))) e_int)
 (s_cons (s_asg (eo_of (e_fz (eo_call k__law_cut_right ar__law_cut_right (hr.mono (by decide)) (v.glo 85) (bn_of d__law_cut_right fun _ _ _ _ _ _ us ws h1 h2 => match us, ws, h1, h2 with | [_, _, _, _], [], _, _ => rfl) tk (ca_p d__law_cut_right.kp (a_cons (e_var 0) (a_cons (e_var 6) (a_cons (e_var 7) (a_cons (e_var 1) a_nil)))))))) (g_name false 8 nd))
 (s_cons (s_if (t_cmp og_is (e_var 8) e_non)
 (s_one (s_ret (eo_of e_bl)))
 s_nil)
 (s_one (s_asg (eo_of (e_if (t_cmp (og_eq hr.units) (e_fz (eo_call k__law_take ar__law_take (hr.mono (by decide)) (v.glo 76) (bn_of d__law_take fun _ _ _ _ _ _ us ws h1 h2 => match us, ws, h1, h2 with | [_, _], [], _, _ => rfl) tk (ca_p d__law_take.kp (a_cons (e_var 0) (a_cons e_int a_nil))))) e_int) (e_var 8) (e_lst (a_cons (e_var 6) (a_cons (e_var 7) a_nil))))) (g_tup rfl (gs_cons (g_name false 6 nd) (gs_cons (g_name false 7 nd) gs_nil)))))))
 s_nil)
 (s_one (s_asg (eo_of (e_not (e_var 1))) (g_name false 1 nd)))))))
 (s_one (s_ret (eo_of (e_and (e_fz (eo_call k__law_same (ar__law_same 8) (hr.mono (by decide)) (v.glo 32) (bn_of d__law_same fun _ _ _ _ _ _ us ws h1 h2 => match us, ws, h1, h2 with | [_, _], [], _, _ => rfl) tk (ca_p d__law_same.kp (a_cons (e_fz (eo_call k__law_met ar__law_met (hr.mono (by decide)) (v.glo 77) (bn_of d__law_met fun _ _ _ _ _ _ us ws h1 h2 => match us, ws, h1, h2 with | [_, _, _, _], [], _, _ => rfl) tk (ca_p d__law_met.kp (a_cons (e_var 6) (a_cons e_str (a_cons (e_lst (a_cons e_non a_nil)) (a_cons (e_var 1) a_nil))))))) (a_cons (e_lst (a_cons e_str (a_cons e_non a_nil))) a_nil))))) (e_and (e_fz (eo_call k__law_same (ar__law_same 8) (hr.mono (by decide)) (v.glo 32) (bn_of d__law_same fun _ _ _ _ _ _ us ws h1 h2 => match us, ws, h1, h2 with | [_, _], [], _, _ => rfl) tk (ca_p d__law_same.kp (a_cons (e_fz (eo_call k__law_met ar__law_met (hr.mono (by decide)) (v.glo 77) (bn_of d__law_met fun _ _ _ _ _ _ us ws h1 h2 => match us, ws, h1, h2 with | [_, _, _, _], [], _, _ => rfl) tk (ca_p d__law_met.kp (a_cons (e_var 6) (a_cons e_str (a_cons (e_lst a_nil) (a_cons (e_var 1) a_nil))))))) (a_cons (e_lst (a_cons e_str (a_cons e_non a_nil))) a_nil))))) (e_one (e_fz (eo_call k__law_is_disk ar__law_is_disk (hr.mono (by decide)) (v.glo 79) (bn_of d__law_is_disk fun _ _ _ _ _ _ us ws h1 h2 => match us, ws, h1, h2 with | [_, _], [], _, _ => rfl) tk (ca_p d__law_is_disk.kp (a_cons (e_var 6) (a_cons (e_bin og_add (e_slice (e_var 7) p_none (p_some e_int)) (e_lst (a_cons (e_lst a_nil) (a_cons e_non a_nil)))) a_nil))))))))))))))))
theorem ok_law (v : V1 h K mg) : OkD P w K mg base D_law 13 P_law f_law := by
  obtain ⟨fd, dS⟩ := v.c.def_ 28 (d := D_law) rfl
  have nd : List.Nodup N_law := sc_law.nd
  obtain ⟨_, d__law_box, k__law_box⟩ := ok__law_box (P := P) (w := w) (base := base) v
  obtain ⟨_, d__law_cell, k__law_cell⟩ := ok__law_cell (P := P) (w := w) (base := base) v
  obtain ⟨_, d__law_life_right, k__law_life_right⟩ := ok__law_life_right (P := P) (w := w) (base := base) v
  obtain ⟨_, d__law_made, k__law_made⟩ := ok__law_made (P := P) (w := w) (base := base) v
  obtain ⟨_, d__law_same, k__law_same⟩ := ok__law_same (P := P) (w := w) (base := base) v 8
  obtain ⟨_, d__law_take, k__law_take⟩ := ok__law_take (P := P) (w := w) (base := base) v
  refine ⟨fd, dS, fo_of dS sc_law fun cdv A outer s H E F hr tk => ?_⟩
  exact (s_cons (s_for (passes_of rfl) rfl (i_range1 (v.free 11) (a_cons e_int a_nil)) (g_name false 1 nd)
 (s_cons (s_asg (eo_of (e_adopt (eo_call k__law_box ar__law_box (hr.mono (by decide)) (v.glo 87) (bn_of d__law_box fun _ _ _ _ _ _ us ws h1 h2 => match us, ws, h1, h2 with | [_], [], _, _ => rfl) tk (ca_p d__law_box.kp (a_cons (e_fz (eo_call k__law_cell ar__law_cell (hr.mono (by decide)) (v.glo 86) (bn_of d__law_cell fun _ _ _ _ _ _ us ws h1 h2 => match us, ws, h1, h2 with | [_, _], [], _, _ => rfl) tk (ca_p d__law_cell.kp (a_cons (e_var 0) (a_cons (e_var 1) a_nil))))) a_nil))))) (g_name false 2 nd))
 (s_cons (s_asg (eo_of (e_cmp (og_eq hr.units) (e_fz (eo_call k__law_take ar__law_take (hr.mono (by decide)) (v.glo 76) (bn_of d__law_take fun _ _ _ _ _ _ us ws h1 h2 => match us, ws, h1, h2 with | [_, _], [], _, _ => rfl) tk (ca_p d__law_take.kp (a_cons (e_var 2) (a_cons e_int a_nil))))) e_int)) (g_name false 3 nd))
 (s_cons (s_if (t_bool (w_or (t_not (t_val (e_fz (eo_call k__law_life_right ar__law_life_right (hr.mono (by decide)) (v.glo 88) (bn_of d__law_life_right fun _ _ _ _ _ _ us ws h1 h2 => match us, ws, h1, h2 with | [_, _], [], _, _ => rfl) tk (ca_p d__law_life_right.kp (a_cons (e_var 2) (a_cons (e_var 3) a_nil))))))) (w_or1 (t_not (t_val (e_fz (eo_call k__law_life_right ar__law_life_right (hr.mono (by decide)) (v.glo 88) (bn_of d__law_life_right fun _ _ _ _ _ _ us ws h1 h2 => match us, ws, h1, h2 with | [_, _], [], _, _ => rfl) tk (ca_p d__law_life_right.kp (a_cons (e_var 2) (a_cons (e_not (e_var 3)) a_nil))))))))))
 (s_one (s_ret (eo_of e_bl)))
 s_nil)
 (s_cons (s_asg (eo_of (e_idx (e_lst (a_cons e_non (a_cons e_int (a_cons e_int (a_cons e_bl (a_cons e_str (a_cons (e_tup (a_cons e_int a_nil)) (a_cons e_dict0 (a_cons (e_neg e_int) a_nil))))))))) (e_fz (eo_call k__law_take ar__law_take (hr.mono (by decide)) (v.glo 76) (bn_of d__law_take fun _ _ _ _ _ _ us ws h1 h2 => match us, ws, h1, h2 with | [_, _], [], _, _ => rfl) tk (ca_p d__law_take.kp (a_cons (e_var 2) (a_cons e_int a_nil))))))) (g_name false 4 nd))
 (s_cons (s_asg (eo_of (e_idx (e_lst (a_cons e_non (a_cons e_int (a_cons e_int (a_cons e_bl (a_cons e_str (a_cons (e_tup (a_cons e_int a_nil)) (a_cons e_dict0 (a_cons e_int a_nil))))))))) (e_fz (eo_call k__law_take ar__law_take (hr.mono (by decide)) (v.glo 76) (bn_of d__law_take fun _ _ _ _ _ _ us ws h1 h2 => match us, ws, h1, h2 with | [_, _], [], _, _ => rfl) tk (ca_p d__law_take.kp (a_cons (e_var 2) (a_cons e_int a_nil))))))) (g_name false 5 nd))
 (s_cons (s_asg (eo_of (e_lst (a_cons (e_fz (eo_call k__law_made ar__law_made (hr.mono (by decide)) (v.glo 83) (bn_of d__law_made fun _ _ _ _ _ _ us ws h1 h2 => match us, ws, h1, h2 with | [_, _, _], [], _, _ => rfl) tk (ca_p d__law_made.kp (a_cons (e_var 4) (a_cons (e_var 5) (a_cons (e_var 3) a_nil)))))) (a_cons (e_fz (eo_call k__law_made ar__law_made (hr.mono (by decide)) (v.glo 83) (bn_of d__law_made fun _ _ _ _ _ _ us ws h1 h2 => match us, ws, h1, h2 with | [_, _, _], [], _, _ => rfl) tk (ca_p d__law_made.kp (a_cons e_int (a_cons (e_var 5) (a_cons (e_not (e_var 3)) a_nil)))))) (a_cons (e_fz (eo_call k__law_made ar__law_made (hr.mono (by decide)) (v.glo 83) (bn_of d__law_made fun _ _ _ _ _ _ us ws h1 h2 => match us, ws, h1, h2 with | [_, _, _], [], _, _ => rfl) tk (ca_p d__law_made.kp (a_cons e_int (a_cons (e_var 5) (a_cons (e_var 3) a_nil)))))) a_nil))))) (g_name false 6 nd))
 (s_one (s_if (t_not (t_val (e_fz (eo_call k__law_same (ar__law_same 8) (hr.mono (by decide)) (v.glo 32) (bn_of d__law_same fun _ _ _ _ _ _ us ws h1 h2 => match us, ws, h1, h2 with | [_, _], [], _, _ => rfl) tk (ca_p d__law_same.kp (a_cons (e_var 6) (a_cons (e_lst (a_cons (e_lst (a_cons e_str (a_cons (e_var 4) (a_cons e_bl a_nil)))) (a_cons (e_lst (a_cons e_str (a_cons (e_var 5) (a_cons e_bl a_nil)))) (a_cons (e_lst (a_cons e_str (a_cons (e_var 5) (a_cons e_bl a_nil)))) a_nil)))) a_nil)))))))
 (s_one (s_ret (eo_of e_bl)))
 s_nil)))))))))
 (s_one (s_ret (eo_of e_bl))))
end
end K75
end
section
set_option Elab.async false
set_option linter.all false
set_option maxRecDepth 100000
set_option maxHeartbeats 0
namespace K75
open PySem PySem.Spec PyProof.Rows L2 Mi
abbrev R : PySem.W.OpenRow := PySem.W.OpenLaw.row PySem.Challenge.rw_tropicbench_k75_disks_and_cuts
abbrev hk : PySem.W.Hook := hookM 5 fa fn fb
def ob (s : PySem.W.SharedT) : AlM := obsM 5 fa fn fb (HandSHeadRun.getT s)
theorem ob_eq (s : PySem.W.SharedT) : ob s = hk.obs s.abs := obsM_eq (HandSHeadRun.getT_eq s)
abbrev loose : List Str := ([("__name__" : Str), ("TropicError" : Str), ("InvalidMany" : Str), ("InvalidText" : Str), ("InvalidDone" : Str), ("InvalidPage" : Str), ("InvalidPages" : Str), ("InvalidWidth" : Str), ("PowerCut" : Str), ("is_integer" : Str), ("is_between" : Str), ("is_list" : Str)] : List Str) ++ ([("LEAST_PAGES" : Str), ("MOST_PAGES" : Str), ("LEAST_WIDTH" : Str), ("MOST_WIDTH" : Str), ("is_page_text" : Str), ("Disk" : Str), ("are_places" : Str), ("_law_cell" : Str), ("_law_box" : Str), ("_law_take" : Str), ("_law_same" : Str), ("_law_met" : Str)] : List Str) ++ ([("_law_made" : Str), ("_law_is_disk" : Str), ("_law_put" : Str), ("_law_text" : Str), ("_law_no_text" : Str), ("_law_no_page" : Str), ("_law_cut_right" : Str), ("_law_step" : Str), ("_law_life_right" : Str)] : List Str)
theorem run (w : World) : HandSHeadRun.RunEq R (PySem.W.view R.prog [37]) hk ob 20000 loose w := by
  intro os
  kernel_rfl
end K75
end
section
set_option Elab.async false
set_option linter.all false
set_option maxRecDepth 100000
set_option maxHeartbeats 2000000
/-! the plain law, 1: small defs, the box -/
namespace K75
open PySem PySem.Spec PyProof.Rows L2 Mi
/-- values of the kinds that isinstance asks for -/
def pl (x : D) : Bool := x.tn.isSome
def isI : D → Bool
  | .int _ => true
  | _ => false
theorem run_is_integer {x : D} (h : pl x = true) (μ : Option (List OD)) : f_is_integer [x] μ = .ok (.d (.bl (isI x))) μ := by
  cases x <;> simp_all [f_is_integer, M_is_integer, pl, D.tn, Tn.is, isI, fnM, sNil, sSeq, sEx, sRet, sRetN, sIf, xgN, xgsNil, xgsCons, xgT, xgA, xgI, sAsg, xoNil, xoCons, sTup, sPar, sPar3, xApp, xI, xR1, xR2, sFor, xYes, xComp, xFst, xMeth, xMake, sRaise, sRaise0, clrO, endH, runH, muOut, sTry, xExF, xExI, xIsO, xLo, xAd, xMulO, xListO, xListOV, xComp0, xIV, xUn, xListR, xC, xV, xF, xU, xB, xT, xCh, xNil, xCons, xKw, xCall, xAnd, xOr, xNot, xAndV, xNotV, xIf, xLst, xTup, xLstO, xP0, xP1, xSl, xG, xIs, xFld, xLv, xLf, xLi, xGV, xB1, xB2, Rs.out, Rs.bind, ro, frz, OD.toD, setO, nodeAt, setNode, getP, setP, viewD, allOf, unD, adopt]
def btw (x : D) (a b : Int) : Bool := match x with
  | .int i => decide (a ≤ i) && decide (i ≤ b)
  | _ => false
theorem run_is_between {x : D} {a b : Int} (h : pl x = true) (μ : Option (List OD)) : f_is_between [x, .int a, .int b] μ = .ok (.d (.bl (btw x a b))) μ := by
  cases x <;> simp_all [f_is_between, M_is_between, run_is_integer, isI, btw, gCmpI, fnM, sNil, sSeq, sEx, sRet, sRetN, sIf, xgN, xgsNil, xgsCons, xgT, xgA, xgI, sAsg, xoNil, xoCons, sTup, sPar, sPar3, xApp, xI, xR1, xR2, sFor, xYes, xComp, xFst, xMeth, xMake, sRaise, sRaise0, clrO, endH, runH, muOut, sTry, xExF, xExI, xIsO, xLo, xAd, xMulO, xListO, xListOV, xComp0, xIV, xUn, xListR, xC, xV, xF, xU, xB, xT, xCh, xNil, xCons, xKw, xCall, xAnd, xOr, xNot, xAndV, xNotV, xIf, xLst, xTup, xLstO, xP0, xP1, xSl, xG, xIs, xFld, xLv, xLf, xLi, xGV, xB1, xB2, Rs.out, Rs.bind, ro, frz, OD.toD, setO, nodeAt, setNode, getP, setP, viewD, allOf, unD, adopt]
  rename_i i
  by_cases h1 : a ≤ i <;> simp [h1]
def isL : D → Bool
  | .lst _ => true
  | .tup _ => true
  | .scr _ => true
  | _ => false
theorem run_is_list {x : D} (h : pl x = true) (μ : Option (List OD)) : f_is_list [x] μ = .ok (.d (.bl (isL x))) μ := by
  cases x <;> simp_all [f_is_list, M_is_list, pl, D.tn, Tn.is, isL, fnM, sNil, sSeq, sEx, sRet, sRetN, sIf, xgN, xgsNil, xgsCons, xgT, xgA, xgI, sAsg, xoNil, xoCons, sTup, sPar, sPar3, xApp, xI, xR1, xR2, sFor, xYes, xComp, xFst, xMeth, xMake, sRaise, sRaise0, clrO, endH, runH, muOut, sTry, xExF, xExI, xIsO, xLo, xAd, xMulO, xListO, xListOV, xComp0, xIV, xUn, xListR, xC, xV, xF, xU, xB, xT, xCh, xNil, xCons, xKw, xCall, xAnd, xOr, xNot, xAndV, xNotV, xIf, xLst, xTup, xLstO, xP0, xP1, xSl, xG, xIs, xFld, xLv, xLf, xLi, xGV, xB1, xB2, Rs.out, Rs.bind, ro, frz, OD.toD, setO, nodeAt, setNode, getP, setP, viewD, allOf, unD, adopt]
/-! the box -/
def boxN (a : Int) (f : Bool) (m c : Int) : OD := .own [.d (.int a), .d (.bl f), .d (.int m), .d (.int c)]
def M0 : Int := 2147483629
def absI (g : Int) : Int := if g < 0 then -g else g
theorem run_box {g : Int} {μ : List OD} : f__law_box [.int g] (some μ) = .ok (boxN (absI g) (decide ((1000000000000000000 : Int) ≤ absI g)) (absI g % 2147483629) 0) (some μ) := by
  simp [f__law_box, M__law_box, boxN, gCmpI, gAbs, gInt, gMod, gPow, sizeLine, absI, fnM, sNil, sSeq, sEx, sRet, sRetN, sIf, xgN, xgsNil, xgsCons, xgT, xgA, xgI, sAsg, xoNil, xoCons, sTup, sPar, sPar3, xApp, xI, xR1, xR2, sFor, xYes, xComp, xFst, xMeth, xMake, sRaise, sRaise0, clrO, endH, runH, muOut, sTry, xExF, xExI, xIsO, xLo, xAd, xMulO, xListO, xListOV, xComp0, xIV, xUn, xListR, xC, xV, xF, xU, xB, xT, xCh, xNil, xCons, xKw, xCall, xAnd, xOr, xNot, xAndV, xNotV, xIf, xLst, xTup, xLstO, xP0, xP1, xSl, xG, xIs, xFld, xLv, xLf, xLi, xGV, xB1, xB2, Rs.out, Rs.bind, ro, frz, OD.toD, setO, nodeAt, setNode, getP, setP, viewD, allOf, unD, adopt]
  exact Bool.eq_iff_iff.mpr ⟨fun h => decide_eq_true (of_decide_eq_true h), fun h => decide_eq_true (of_decide_eq_true h)⟩
/-- the box at b: at most k takes so far -/
def B (μ : List OD) (b : Nat) (k : Nat) : Prop := ∃ a f m c, μ[b]? = some (boxN a f m c) ∧ 0 ≤ a ∧ 0 ≤ m ∧ m < M0 ∧ 0 ≤ c ∧ c ≤ k
theorem log2_small {x : Nat} (h : x < 2 ^ 64) : x.log2 < 64 := by
  by_cases z : x = 0
  · subst z; decide
  · exact (Nat.log2_lt z).mpr h
theorem run_take {μ : List OD} {b k n : Nat} (h : B μ b k) (hk : k < 1000000) (hn : 0 < n) (hn2 : n < 100000) : ∃ v a f m c, v < n ∧ f__law_take [.obj b, .int n] (some μ) = .ok (.d (.int (v : Nat))) (some (μ.set b (boxN a f m c))) ∧ B (μ.set b (boxN a f m c)) b (k + 1) := by
  obtain ⟨a, f, m, c, e, h1, h2, h3, h4, h5⟩ := h
  have hb : b < μ.length := (List.getElem?_eq_some_iff.mp e).1
  have hbe : ∀ x, (μ.set b x)[b]? = some x := fun x => List.getElem?_set_self hb
  unfold M0 at h3
  have hnI : (0 : Int) < n := by omega
  have hl : n.log2 < 9000 := Nat.lt_of_lt_of_le (log2_small (by omega)) (by decide)
  have mv : ∀ x : Int, ((x % n).toNat : Int) = x % n ∧ (x % n).toNat < n := fun x => by
    have := Int.emod_nonneg x (show (n : Int) ≠ 0 by omega)
    have := Int.emod_lt_of_pos x hnI
    omega
  by_cases hf : f = true ∧ 0 < a
  · obtain ⟨rfl, ha⟩ := hf
    refine ⟨(a % n).toNat, a / n, true, m, c, (mv a).2, ?_, ?_⟩
    · rw [(mv a).1]
      simp [f__law_take, M__law_take, e, hbe, hn, hl, boxN, gCmpI, gAbs, gInt, gMod, gPow, gIdx, gDiv, atI, ixN, ha, fnM, sNil, sSeq, sEx, sRet, sRetN, sIf, xgN, xgsNil, xgsCons, xgT, xgA, xgI, sAsg, xoNil, xoCons, sTup, sPar, sPar3, xApp, xI, xR1, xR2, sFor, xYes, xComp, xFst, xMeth, xMake, sRaise, sRaise0, clrO, endH, runH, muOut, sTry, xExF, xExI, xIsO, xLo, xAd, xMulO, xListO, xListOV, xComp0, xIV, xUn, xListR, xC, xV, xF, xU, xB, xT, xCh, xNil, xCons, xKw, xCall, xAnd, xOr, xNot, xAndV, xNotV, xIf, xLst, xTup, xLstO, xP0, xP1, xSl, xG, xIs, xFld, xLv, xLf, xLi, xGV, xB1, xB2, Rs.out, Rs.bind, ro, frz, OD.toD, setO, nodeAt, setNode, getP, setP, viewD, allOf, unD, adopt]
    · exact ⟨_, _, _, _, hbe _, Int.ediv_nonneg h1 (by omega), h2, h3, h4, by omega⟩
  · have hc1 : (m + 15485863 * (c + 1) + 179424673).natAbs < 18446744073709551616 := by omega
    have hc2 : Nat.log2 15485863 + (c + 1).natAbs.log2 < 1000000 := by
      have := log2_small (x := (c + 1).natAbs) (by omega)
      have : Nat.log2 15485863 < 64 := log2_small (by decide)
      omega
    have p1 : ∀ x : Int, 0 ≤ x % 2147483647 ∧ x % 2147483647 < 2147483647 := fun x => ⟨Int.emod_nonneg x (by decide), Int.emod_lt_of_pos x (by decide)⟩
    obtain ⟨q1, q2⟩ := p1 ((m + 15485863 * (c + 1) + 179424673) ^ 5)
    generalize hx : (m + 15485863 * (c + 1) + 179424673) ^ 5 % 2147483647 = x at q1 q2
    have hc3 : x.natAbs.log2 + Nat.log2 48271 < 1000000 := by
      have := log2_small (x := x.natAbs) (by omega)
      have : Nat.log2 48271 < 64 := log2_small (by decide)
      omega
    have hc4 : Nat.log2 104729 + (c + 1).natAbs.log2 < 1000000 := by
      have := log2_small (x := (c + 1).natAbs) (by omega)
      have : Nat.log2 104729 < 64 := log2_small (by decide)
      omega
    have hc5 : (x * 48271 + 104729 * (c + 1)).natAbs < 18446744073709551616 := by omega
    generalize hy : (x * 48271 + 104729 * (c + 1)) ^ 3 % 2147483587 / 64 = y
    refine ⟨(y % n).toNat, a, f, m, c + 1, (mv y).2, ?_, ?_⟩
    · rw [(mv y).1]
      have hl6 : Nat.log2 64 < 9000 := Nat.lt_of_lt_of_le (log2_small (by decide)) (by decide)
      by_cases hf2 : f = true
      · have ha : ¬ 0 < a := fun z => hf ⟨hf2, z⟩
        simp [f__law_take, M__law_take, e, hbe, hn, hl, boxN, gCmpI, gAbs, gInt, gMod, gPow, gIdx, gDiv, gMul, gAdd, atI, ixN, ha, hf2, hc1, hc2, hc3, hc4, hc5, hx, hy, hl6, fnM, sNil, sSeq, sEx, sRet, sRetN, sIf, xgN, xgsNil, xgsCons, xgT, xgA, xgI, sAsg, xoNil, xoCons, sTup, sPar, sPar3, xApp, xI, xR1, xR2, sFor, xYes, xComp, xFst, xMeth, xMake, sRaise, sRaise0, clrO, endH, runH, muOut, sTry, xExF, xExI, xIsO, xLo, xAd, xMulO, xListO, xListOV, xComp0, xIV, xUn, xListR, xC, xV, xF, xU, xB, xT, xCh, xNil, xCons, xKw, xCall, xAnd, xOr, xNot, xAndV, xNotV, xIf, xLst, xTup, xLstO, xP0, xP1, xSl, xG, xIs, xFld, xLv, xLf, xLi, xGV, xB1, xB2, Rs.out, Rs.bind, ro, frz, OD.toD, setO, nodeAt, setNode, getP, setP, viewD, allOf, unD, adopt]
      · simp [f__law_take, M__law_take, e, hbe, hn, hl, boxN, gCmpI, gAbs, gInt, gMod, gPow, gIdx, gDiv, gMul, gAdd, atI, ixN, hf2, hc1, hc2, hc3, hc4, hc5, hx, hy, hl6, fnM, sNil, sSeq, sEx, sRet, sRetN, sIf, xgN, xgsNil, xgsCons, xgT, xgA, xgI, sAsg, xoNil, xoCons, sTup, sPar, sPar3, xApp, xI, xR1, xR2, sFor, xYes, xComp, xFst, xMeth, xMake, sRaise, sRaise0, clrO, endH, runH, muOut, sTry, xExF, xExI, xIsO, xLo, xAd, xMulO, xListO, xListOV, xComp0, xIV, xUn, xListR, xC, xV, xF, xU, xB, xT, xCh, xNil, xCons, xKw, xCall, xAnd, xOr, xNot, xAndV, xNotV, xIf, xLst, xTup, xLstO, xP0, xP1, xSl, xG, xIs, xFld, xLv, xLf, xLi, xGV, xB1, xB2, Rs.out, Rs.bind, ro, frz, OD.toD, setO, nodeAt, setNode, getP, setP, viewD, allOf, unD, adopt]
    · exact ⟨_, _, _, _, hbe _, h1, h2, h3, by omega, by omega⟩
end K75
end
section
set_option Elab.async false
set_option linter.all false
set_option maxRecDepth 100000
set_option maxHeartbeats 2000000
/-! the plain law, 2: the disk's methods -/
namespace K75
open PySem PySem.Spec PyProof.Rows L2 Mi
structure Ow where
  pages : Nat
  width : Nat
  cur : List Str
  las : List Str
  wr : List (Nat × Str)
  lf : Option Nat
def lfD : Option Nat → D
  | none => .non
  | some k => .int k
def wrD (p : Nat × Str) : D := .tup [.int p.1, .str p.2]
def txs (l : List Str) : OD := .own (l.map fun s => .d (.str s))
def flds (o : Ow) : List (Str × OD) := [("pages", .d (.int o.pages)), ("width", .d (.int o.width)), ("lasting", txs o.las), ("current", txs o.cur), ("written", .own (o.wr.map fun p => .d (wrD p))), ("left", .d (lfD o.lf))]
def node (o : Ow) : OD := .ins "Disk" (flds o)
theorem lk_pages (o : Ow) : (flds o).lookup ("pages" : Str) = some (.d (.int o.pages)) := rfl
theorem lk_width (o : Ow) : (flds o).lookup ("width" : Str) = some (.d (.int o.width)) := rfl
theorem lk_las (o : Ow) : (flds o).lookup ("lasting" : Str) = some (txs o.las) := rfl
theorem lk_cur (o : Ow) : (flds o).lookup ("current" : Str) = some (txs o.cur) := rfl
theorem lk_wr (o : Ow) : (flds o).lookup ("written" : Str) = some (.own (o.wr.map fun p => .d (wrD p))) := rfl
theorem lk_lf (o : Ow) : (flds o).lookup ("left" : Str) = some (.d (lfD o.lf)) := rfl
theorem pf_lf (o : Ow) (k : Option Nat) : pf "left" (.d (lfD k)) (flds o) = flds { o with lf := k } := rfl
theorem pf_cur (o : Ow) (l : List Str) : pf "current" (txs l) (flds o) = flds { o with cur := l } := rfl
theorem pf_las (o : Ow) (l : List Str) : pf "lasting" (txs l) (flds o) = flds { o with las := l } := rfl
theorem pf_wr (o : Ow) (l : List (Nat × Str)) : pf "written" (.own (l.map fun p => .d (wrD p))) (flds o) = flds { o with wr := l } := rfl
theorem no_check (o : Ow) : (flds o).lookup ("check_page" : Str) = none := rfl
theorem no_spend (o : Ow) : (flds o).lookup ("spend" : Str) = none := rfl
theorem no_text (o : Ow) : (flds o).lookup ("text" : Str) = none := rfl
theorem no_write (o : Ow) : (flds o).lookup ("write" : Str) = none := rfl
theorem no_settle (o : Ow) : (flds o).lookup ("settle" : Str) = none := rfl
theorem no_loose (o : Ow) : (flds o).lookup ("loose" : Str) = none := rfl
theorem no_stop (o : Ow) : (flds o).lookup ("stop" : Str) = none := rfl
theorem no_cut (o : Ow) : (flds o).lookup ("cut" : Str) = none := rfl
theorem fl_len (o : Ow) : (flds o).length < 1000 := by show 6 < 1000; decide
theorem hDisk : (["Disk"] : List Str).contains "Disk" = true := by decide
theorem run_check {x : D} {o : Ow} {n : Nat} {μ : List OD} (h : pl x = true) (hn : μ[n]? = some (node o)) : f_Disk_check_page [.obj n, x] (some μ) = if btw x 0 (o.pages - 1) = true then .ok (.d .non) (some μ) else .ex "InvalidPage" [("given", x)] (some μ) := by
  have e := fun b => run_is_between (x := x) (a := 0) (b := b) h (some μ)
  by_cases hb : btw x 0 (o.pages - 1) = true
  · simp [f_Disk_check_page, M_Disk_check_page, e, hn, node, lk_pages, hDisk, Mi.gSub, hb, fnM, sNil, sSeq, sEx, sRet, sRetN, sIf, xgN, xgsNil, xgsCons, xgT, xgA, xgI, sAsg, xoNil, xoCons, sTup, sPar, sPar3, xApp, xI, xR1, xR2, sFor, xYes, xComp, xFst, xMeth, xMake, sRaise, sRaise0, clrO, endH, runH, muOut, sTry, xExF, xExI, xIsO, xLo, xAd, xMulO, xListO, xListOV, xComp0, xIV, xUn, xListR, xC, xV, xF, xU, xB, xT, xCh, xNil, xCons, xKw, xCall, xAnd, xOr, xNot, xAndV, xNotV, xIf, xLst, xTup, xLstO, xP0, xP1, xSl, xG, xIs, xFld, xLv, xLf, xLi, xGV, xB1, xB2, Rs.out, Rs.bind, ro, frz, OD.toD, setO, nodeAt, setNode, getP, setP, viewD, allOf, unD, adopt]
  · simp [f_Disk_check_page, M_Disk_check_page, e, hn, node, lk_pages, hDisk, Mi.gSub, hb, fnM, sNil, sSeq, sEx, sRet, sRetN, sIf, xgN, xgsNil, xgsCons, xgT, xgA, xgI, sAsg, xoNil, xoCons, sTup, sPar, sPar3, xApp, xI, xR1, xR2, sFor, xYes, xComp, xFst, xMeth, xMake, sRaise, sRaise0, clrO, endH, runH, muOut, sTry, xExF, xExI, xIsO, xLo, xAd, xMulO, xListO, xListOV, xComp0, xIV, xUn, xListR, xC, xV, xF, xU, xB, xT, xCh, xNil, xCons, xKw, xCall, xAnd, xOr, xNot, xAndV, xNotV, xIf, xLst, xTup, xLstO, xP0, xP1, xSl, xG, xIs, xFld, xLv, xLf, xLi, xGV, xB1, xB2, Rs.out, Rs.bind, ro, frz, OD.toD, setO, nodeAt, setNode, getP, setP, viewD, allOf, unD, adopt]
theorem gEq_int (i j : Int) : gEq (.int i) (.int j) = some (.bl (decide (i = j))) := by
  show Option.map D.bl (if SeqAt.shaped (.int i) = true ∧ SeqAt.shaped (.int j) = true then some (PyData.eqv (.int i) (.int j)) else none) = _
  rw [if_pos ⟨rfl, rfl⟩]
  show some (D.bl (i == j)) = _
  rw [show (i == j) = decide (i = j) from by by_cases h : i = j <;> simp [h]]
theorem gEq_str (i j : Str) : gEq (.str i) (.str j) = some (.bl (decide (i = j))) := rfl
theorem run_spend {o : Ow} {n : Nat} {μ : List OD} (hn : μ[n]? = some (node o)) : f_Disk_spend [.obj n] (some μ) = match o.lf with
    | none => .ok (.d .non) (some μ)
    | some 0 => .ex "PowerCut" [] (some μ)
    | some (k + 1) => .ok (.d .non) (some (μ.set n (node { o with lf := some k }))) := by
  have hl := lk_lf o
  cases ho : o.lf with
  | none =>
    rw [ho] at hl
    simp [f_Disk_spend, M_Disk_spend, hn, node, hl, lfD, hDisk, gIsNot, gIs, D.isNon, fnM, sNil, sSeq, sEx, sRet, sRetN, sIf, xgN, xgsNil, xgsCons, xgT, xgA, xgI, sAsg, xoNil, xoCons, sTup, sPar, sPar3, xApp, xI, xR1, xR2, sFor, xYes, xComp, xFst, xMeth, xMake, sRaise, sRaise0, clrO, endH, runH, muOut, sTry, xExF, xExI, xIsO, xLo, xAd, xMulO, xListO, xListOV, xComp0, xIV, xUn, xListR, xC, xV, xF, xU, xB, xT, xCh, xNil, xCons, xKw, xCall, xAnd, xOr, xNot, xAndV, xNotV, xIf, xLst, xTup, xLstO, xP0, xP1, xSl, xG, xIs, xFld, xLv, xLf, xLi, xGV, xB1, xB2, Rs.out, Rs.bind, ro, frz, OD.toD, setO, nodeAt, setNode, getP, setP, viewD, allOf, unD, adopt]
  | some k =>
    rw [ho] at hl
    cases k with
    | zero => simp [f_Disk_spend, M_Disk_spend, hn, node, hl, lfD, hDisk, gIsNot, gIs, gEq_int, D.isNon, fnM, sNil, sSeq, sEx, sRet, sRetN, sIf, xgN, xgsNil, xgsCons, xgT, xgA, xgI, sAsg, xoNil, xoCons, sTup, sPar, sPar3, xApp, xI, xR1, xR2, sFor, xYes, xComp, xFst, xMeth, xMake, sRaise, sRaise0, clrO, endH, runH, muOut, sTry, xExF, xExI, xIsO, xLo, xAd, xMulO, xListO, xListOV, xComp0, xIV, xUn, xListR, xC, xV, xF, xU, xB, xT, xCh, xNil, xCons, xKw, xCall, xAnd, xOr, xNot, xAndV, xNotV, xIf, xLst, xTup, xLstO, xP0, xP1, xSl, xG, xIs, xFld, xLv, xLf, xLi, xGV, xB1, xB2, Rs.out, Rs.bind, ro, frz, OD.toD, setO, nodeAt, setNode, getP, setP, viewD, allOf, unD, adopt]
    | succ k =>
      have := pf_lf o (some k)
      simp only [lfD] at this
      have e2 : ((k : Int) + 1 - 1) = k := by omega
      have e3 : ¬ ((k : Int) + 1 = 0) := by omega
      simp [f_Disk_spend, M_Disk_spend, hn, node, hl, lfD, hDisk, gIsNot, gIs, gEq_int, D.isNon, Mi.gSub, e2, e3, this, fl_len, fnM, sNil, sSeq, sEx, sRet, sRetN, sIf, xgN, xgsNil, xgsCons, xgT, xgA, xgI, sAsg, xoNil, xoCons, sTup, sPar, sPar3, xApp, xI, xR1, xR2, sFor, xYes, xComp, xFst, xMeth, xMake, sRaise, sRaise0, clrO, endH, runH, muOut, sTry, xExF, xExI, xIsO, xLo, xAd, xMulO, xListO, xListOV, xComp0, xIV, xUn, xListR, xC, xV, xF, xU, xB, xT, xCh, xNil, xCons, xKw, xCall, xAnd, xOr, xNot, xAndV, xNotV, xIf, xLst, xTup, xLstO, xP0, xP1, xSl, xG, xIs, xFld, xLv, xLf, xLi, xGV, xB1, xB2, Rs.out, Rs.bind, ro, frz, OD.toD, setO, nodeAt, setNode, getP, setP, viewD, allOf, unD, adopt]
theorem viewTx (l : List Str) : viewD (txs l) = some (.lst (l.map .str)) := by
  have := viewD_own (l.map D.str)
  simpa [txs, List.map_map, Function.comp_def] using this
theorem viewWr (l : List (Nat × Str)) : viewD (.own (l.map fun p => .d (wrD p))) = some (.lst (l.map wrD)) := by
  have := viewD_own (l.map wrD)
  simpa [List.map_map, Function.comp_def] using this
theorem btw_int {x : D} {a b : Int} (h : btw x a b = true) : ∃ i : Int, x = .int i ∧ a ≤ i ∧ i ≤ b := by
  cases x with
  | int i => simp [btw] at h; exact ⟨i, rfl, h.1, h.2⟩
  | _ => simp [btw] at h
theorem atI_nat {α : Type} {l : List α} {k : Nat} (h : k < l.length) : atI l (k : Int) = some l[k] := by
  have h2 : (k : Int) < l.length := by omega
  simp [atI, ixN, h2]
theorem run_text {p : Nat} {o : Ow} {n : Nat} {μ : List OD} (hn : μ[n]? = some (node o)) (hp : p < o.pages) (hc : o.cur.length = o.pages) : f_Disk_text [.obj n, .int p] (some μ) = .ok (.d (.str (o.cur[p]'(by omega)))) (some μ) := by
  have e := run_check (x := .int p) (o := o) rfl hn
  have hb : btw (.int p) 0 (o.pages - 1) = true := by simp [btw]; omega
  rw [if_pos hb] at e
  have hv := viewTx o.cur
  have ha : atI (o.cur.map D.str) (p : Int) = some (.str (o.cur[p]'(by omega))) := by
    rw [atI_nat (by simpa [hc] using hp)]
    simp
  simp [f_Disk_text, M_Disk_text, hn, node, e, no_check, lk_cur, hDisk, gIdx, fnM, sSeq, sEx, sRet, xMeth, xV, xCall, xFst, xCons, xNil, Rs.bind, Rs.out, ro, nodeAt, xU, xB1, xLf, getP, hv, ha]
theorem run_text_no {x : D} {o : Ow} {n : Nat} {μ : List OD} (h : pl x = true) (hn : μ[n]? = some (node o)) (hb : btw x 0 (o.pages - 1) = false) : f_Disk_text [.obj n, x] (some μ) = .ex "InvalidPage" [("given", x)] (some μ) := by
  have e := run_check (x := x) (o := o) h hn
  rw [if_neg (by simp [hb])] at e
  simp [f_Disk_text, M_Disk_text, hn, node, e, no_check, fnM, sSeq, sEx, xMeth, xV, xCall, xFst, xCons, xNil, Rs.bind, Rs.out, ro, nodeAt]
end K75
end
section
set_option Elab.async false
set_option linter.all false
set_option maxRecDepth 100000
set_option maxHeartbeats 2000000
/-! the plain law, 3: texts, write, settle, stop -/
namespace K75
open PySem PySem.Spec PyProof.Rows L2 Mi
theorem compL_map {vs : List Nat} {c : CT} {T : XT} {A : XD} {S : AS} (f : D → D) : ∀ {xs : List D} (acc : List D), (∀ x ∈ xs, ∃ S1 S2 S3, xct c (.d x) S = .ok () S1 ∧ T S1 = .ok true S2 ∧ A S2 = .ok (f x) S3 ∧ clr vs S3 = S) →
    acc.length + xs.length ≤ sizeLine → xCompL vs c T A xs acc S = .ok (acc ++ xs.map f) S
  | [], acc, _, _ => by simp [xCompL]
  | x :: xs, acc, h, hl => by
    obtain ⟨S1, S2, S3, e1, e2, e3, e4⟩ := h x List.mem_cons_self
    have ih := compL_map f (xs := xs) (acc ++ [f x]) (fun y hy => h y (List.mem_cons_of_mem _ hy)) (by simp at hl ⊢; omega)
    simp only [List.length_cons] at hl
    simp only [xCompL, e1, e2, e3, e4]
    rw [if_pos (by omega), ih]
    simp
def leB (i j : Str) : Bool := !decide (j.cps.toList < i.cps.toList)
def okS (s : Str) : Bool := leB " " s && leB s "~"
def chs (s : Str) : List Str := s.cps.toList.map fun c => ⟨#[c]⟩
def okT (s : Str) (w : Nat) : Bool := decide (s.length ≤ w) && (chs s).all okS
def okX (x : D) (w : Nat) : Bool := match x with
  | .str s => okT s w
  | _ => false
theorem allOf_bl (l : List Bool) : allOf D.bl? (l.map .bl) = some l := allOf_map (f := D.bl?) (g := D.bl) (fun _ => rfl) l
theorem run_is_page_text {x : D} {w : Nat} (h : pl x = true) (hw : w < sizeLine) (hz : ∀ s, x = .str s → s.length ≤ sizeLine) (μ : Option (List OD)) : f_is_page_text [x, .int w] μ = .ok (.d (.bl (okX x w))) μ := by
  cases x with
  | str s =>
    have hlen : (s.cps.toList.map fun c => D.str ⟨#[c]⟩).length = s.length := by simp [Str.length]
    have hz' := hz s rfl
    by_cases hs : s.length ≤ w
    · have hc : xCompL [2] (.nm 2) xYes (xCh gLe gLe (xC (.str " ")) (xV 2) (xC (.str "~"))) (s.cps.toList.map fun c => D.str ⟨#[c]⟩) [] ⟨[some (.d (.str s)), some (.d (.int w)), none], μ⟩ = .ok ([] ++ (s.cps.toList.map fun c => D.str ⟨#[c]⟩).map fun x => match x with | .str z => .bl (okS z) | _ => .non) ⟨[some (.d (.str s)), some (.d (.int w)), none], μ⟩ := by
        refine compL_map _ [] (fun x hx => ?_) (by rw [hlen]; simp; omega)
        obtain ⟨c, _, rfl⟩ := List.mem_map.mp hx
        refine ⟨⟨[some (.d (.str s)), some (.d (.int w)), some (.d (.str ⟨#[c]⟩))], μ⟩, ⟨[some (.d (.str s)), some (.d (.int w)), some (.d (.str ⟨#[c]⟩))], μ⟩, ⟨[some (.d (.str s)), some (.d (.int w)), some (.d (.str ⟨#[c]⟩))], μ⟩, by simp [xct, xgN, frz, OD.toD], rfl, ?_, by simp [clr]⟩
        simp only [xCh, xC, xV, Rs.bind_ok, gCmpI, okS, leB, List.getElem?_cons_succ, List.getElem?_cons_zero]
        by_cases h1 : (⟨#[c]⟩ : Str).cps.toList < ((" " : Str)).cps.toList <;> simp [h1]
      rw [List.nil_append, List.map_map] at hc
      have hc2 : xCompL [2] (.nm 2) xYes (xCh gLe gLe (xC (.str " ")) (xV 2) (xC (.str "~"))) (s.cps.toList.map fun c => D.str ⟨#[c]⟩) [] (clr [2] ⟨[some (.d (.str s)), some (.d (.int w)), none], μ⟩) = .ok (((chs s).map okS).map .bl) ⟨[some (.d (.str s)), some (.d (.int w)), none], μ⟩ := by
        show xCompL _ _ _ _ _ _ ⟨[some (.d (.str s)), some (.d (.int w)), none], μ⟩ = _
        rw [hc]
        simp [chs, Function.comp_def]
      have hI : (Int.ofNat s.length ≤ (w : Int)) := by simpa using hs
      have ha : gAll [D.lst (((chs s).map okS).map .bl)] = some (.bl ((chs s).all okS)) := by
        simp only [gAll, allOf_bl]
        simp [List.all_map, Function.comp_def]
      have hnl : ¬ ((w : Int) < s.length) := by omega
      have hx : xF (xComp [2] (xI (xV 0)) (.nm 2) xYes (xCh gLe gLe (xC (.str " ")) (xV 2) (xC (.str "~")))) ⟨[some (.d (.str s)), some (.d (.int w)), none], μ⟩ = .ok (.lst (((chs s).map okS).map .bl)) ⟨[some (.d (.str s)), some (.d (.int w)), none], μ⟩ := by
        simp only [xF, xComp, xI, xV, D.items, List.getElem?_cons_zero, Rs.bind_ok, hc2, toD_own]
      rw [List.map_map] at hx ha
      simp [f_is_page_text, M_is_page_text, fnM, sRet, xU, xAndV, xIs, xV, xB, xG, xCons, xNil, Rs.bind, Rs.out, D.tn, Tn.is, gLen, gCmpI, okX, okT, hs, hz', hx, ha]
    · have hnl : ¬ ((s.length : Int) ≤ w) := by omega
      simp [f_is_page_text, M_is_page_text, fnM, sRet, xU, xAndV, xIs, xV, xB, xG, xCons, xNil, Rs.bind, Rs.out, D.tn, Tn.is, gLen, gCmpI, okX, okT, hs, hz']
  | _ => simp_all [f_is_page_text, M_is_page_text, pl, D.tn, Tn.is, okX, fnM, sNil, sSeq, sEx, sRet, sRetN, sIf, xgN, xgsNil, xgsCons, xgT, xgA, xgI, sAsg, xoNil, xoCons, sTup, sPar, sPar3, xApp, xI, xR1, xR2, sFor, xYes, xComp, xFst, xMeth, xMake, sRaise, sRaise0, clrO, endH, runH, muOut, sTry, xExF, xExI, xIsO, xLo, xAd, xMulO, xListO, xListOV, xComp0, xIV, xUn, xListR, xC, xV, xF, xU, xB, xT, xCh, xNil, xCons, xKw, xCall, xAnd, xOr, xNot, xAndV, xNotV, xIf, xLst, xTup, xLstO, xP0, xP1, xSl, xG, xIs, xFld, xLv, xLf, xLi, xGV, xB1, xB2, Rs.out, Rs.bind, ro, frz, OD.toD, setO, nodeAt, setNode, getP, setP, viewD, allOf, unD, adopt]
end K75
end
section
set_option Elab.async false
set_option linter.all false
set_option maxRecDepth 100000
set_option maxHeartbeats 2000000
/-! the plain law, 4: write, settle, stop, loose -/
namespace K75
open PySem PySem.Spec PyProof.Rows L2 Mi
structure Ok (o : Ow) : Prop where
  p1 : 4 ≤ o.pages
  p2 : o.pages ≤ 60
  w1 : 40 ≤ o.width
  w2 : o.width ≤ 400
  c : o.cur.length = o.pages
  l : o.las.length = o.pages
  n : o.wr.length < 100000
  r : ∀ p ∈ o.wr, p.1 < o.pages
theorem set_txs (l : List Str) (p : Nat) (s : Str) : (l.map fun s => OD.d (.str s)).set p (.d (.str s)) = (l.set p s).map fun s => OD.d (.str s) := by
  rw [List.map_set]
/-- what spend leaves -/
def spent (o : Ow) : Ow := { o with lf := o.lf.map (· - 1) }
theorem run_spend' {o : Ow} {n : Nat} {μ : List OD} (hn : μ[n]? = some (node o)) (h0 : o.lf ≠ some 0) : f_Disk_spend [.obj n] (some μ) = .ok (.d .non) (some (μ.set n (node (spent o)))) := by
  rw [run_spend hn]
  cases ho : o.lf with
  | none =>
    have : spent o = o := by cases o; simp at ho; simp [spent, ho]
    simp only [this]
    rw [set_self hn]
  | some k =>
    cases k with
    | zero => exact absurd ho h0
    | succ k => simp [spent, ho]
/-! steps -/
theorem seq_nx {m n : XS} {S S' : AS} {R : Out} (h1 : m S = .nx S') (h2 : n S' = R) : sSeq m n S = R := by unfold sSeq; rw [h1]; exact h2
theorem seq_rt {m n : XS} {S S' : AS} {x : OD} (h1 : m S = .rt x S') : sSeq m n S = .rt x S' := by unfold sSeq; rw [h1]
theorem seq_ex {m n : XS} {S S' : AS} {c : Str} {fl : List (Str × D)} (h1 : m S = .ex c fl S') : sSeq m n S = .ex c fl S' := by unfold sSeq; rw [h1]
theorem if_t {T : XT} {a b : XS} {S S' : AS} {R : Out} (h1 : T S = .ok true S') (h2 : a S' = R) : sIf T a b S = R := by unfold sIf; rw [h1]; exact h2
theorem if_f {T : XT} {a b : XS} {S S' : AS} {R : Out} (h1 : T S = .ok false S') (h2 : b S' = R) : sIf T a b S = R := by unfold sIf; rw [h1]; exact h2
theorem fn_nx {n N : Nat} {M : XS} {ds : List D} {μ : Option (List OD)} {S : AS} (hl : ds.length = n) (h : M ⟨ds.map (fun x => some (.d x)) ++ List.replicate (N - n) none, μ⟩ = .nx S) : fnM n N M ds μ = .ok (.d .non) S.μ := by
  unfold fnM; rw [if_pos hl, h]
theorem fn_rt {n N : Nat} {M : XS} {ds : List D} {μ : Option (List OD)} {x : OD} {S : AS} (hl : ds.length = n) (h : M ⟨ds.map (fun x => some (.d x)) ++ List.replicate (N - n) none, μ⟩ = .rt x S) : fnM n N M ds μ = .ok x S.μ := by
  unfold fnM; rw [if_pos hl, h]
theorem fn_ex {n N : Nat} {M : XS} {ds : List D} {μ : Option (List OD)} {c : Str} {fl : List (Str × D)} {S : AS} (hl : ds.length = n) (h : M ⟨ds.map (fun x => some (.d x)) ++ List.replicate (N - n) none, μ⟩ = .ex c fl S) : fnM n N M ds μ = .ex c fl S.μ := by
  unfold fnM; rw [if_pos hl, h]
/-- a method's call -/
theorem meth_ok {c mn : Str} {m : Mf} {A0 : XD} {A : XA} {S S' : AS} {k : Nat} {fl : List (Str × OD)} {xs : List D} {r : OD} {μ' : List OD} (h0 : A0 S = .ok (.obj k) S) (hn : nodeAt S k = some (.ins c fl)) (hf : fl.lookup mn = none) (ha : A S = .ok xs S') (hm : m (.obj k :: xs) S'.μ = .ok r (some μ')) (hs : S'.μ.isSome = true) :
    xMeth c mn m none A0 A S = .ok r ⟨S'.v, some μ'⟩ := by
  unfold xMeth xCall xFst
  simp only [h0, Rs.bind_ok, hn, hf, Option.isNone_none, and_self, if_true, ha, ro, hm, hs, Option.isSome_some]
theorem meth_ex {c mn : Str} {m : Mf} {A0 : XD} {A : XA} {S S' S2 : AS} {k : Nat} {fl : List (Str × OD)} {xs : List D} {cc : Str} {efl : List (Str × D)} {μ' : List OD} (h0 : A0 S = .ok (.obj k) S) (hn : nodeAt S k = some (.ins c fl)) (hf : fl.lookup mn = none) (ha : A S = .ok xs S') (hm : m (.obj k :: xs) S'.μ = .ex cc efl (some μ')) (hs : S'.μ.isSome = true) (hS : S2 = ⟨S'.v, some μ'⟩) :
    xMeth c mn m none A0 A S = .ex cc efl S2 := by
  subst hS
  unfold xMeth xCall xFst
  simp only [h0, Rs.bind_ok, hn, hf, Option.isNone_none, and_self, if_true, ha, ro, hm, hs, Option.isSome_some]
theorem ex_nx {A : XO} {S S' : AS} {r : OD} (h : A S = .ok r S') : sEx A S = .nx S' := by unfold sEx; rw [h]; rfl
theorem ex_ex {A : XO} {S S' : AS} {c : Str} {fl : List (Str × D)} (h : A S = .ex c fl S') : sEx A S = .ex c fl S' := by unfold sEx; rw [h]; rfl
theorem run_write {p : Nat} {s : Str} {o : Ow} {n : Nat} {μ : List OD} (hn : μ[n]? = some (node o)) (ok : Ok o) (hp : p < o.pages) (hs : okT s o.width = true) (h0 : o.lf ≠ some 0) :
    f_Disk_write [.obj n, .int p, .str s] (some μ) = .ok (.d .non) (some (μ.set n (node { spent o with cur := o.cur.set p s, wr := o.wr ++ [(p, s)] }))) := by
  have hl : n < μ.length := (List.getElem?_eq_some_iff.mp hn).1
  have e := run_check (x := .int p) (o := o) rfl hn
  have hb : btw (.int p) 0 (o.pages - 1) = true := by simp [btw]; omega
  rw [if_pos hb] at e
  have hz : s.length ≤ sizeLine := by
    have : s.length ≤ o.width := by simp [okT] at hs; exact hs.1
    have := ok.w2
    rw [sizeLine_eq]; omega
  have e2 := run_is_page_text (x := .str s) (w := o.width) rfl (by have := ok.w2; rw [sizeLine_eq]; omega) (fun s' h => by cases h; exact hz) (some μ)
  simp only [okX, hs] at e2
  have e3 := run_spend' hn h0
  have hn2 : ∀ y, (μ.set n y)[n]? = some y := fun y => List.getElem?_set_self hl
  have hpc : p < o.cur.length := by rw [ok.c]; exact hp
  have hsz : o.wr.length < sizeLine := by have := ok.n; rw [sizeLine_eq]; omega
  refine fn_nx (S := ⟨[some (.d (.obj n)), some (.d (.int p)), some (.d (.str s))], some (μ.set n (node { spent o with cur := o.cur.set p s, wr := o.wr ++ [(p, s)] }))⟩) rfl ?_
  show M_Disk_write ⟨[some (.d (.obj n)), some (.d (.int p)), some (.d (.str s))], some μ⟩ = _
  unfold M_Disk_write
  refine seq_nx (ex_nx (meth_ok (k := n) (xs := [.int p]) rfl hn (no_check o) rfl e rfl)) ?_
  refine seq_nx (S' := ⟨[some (.d (.obj n)), some (.d (.int p)), some (.d (.str s))], some μ⟩) (if_f (S' := ⟨[some (.d (.obj n)), some (.d (.int p)), some (.d (.str s))], some μ⟩) ?_ rfl) ?_
  · have hf : xFld ["Disk"] "width" (xV 0) ⟨[some (.d (.obj n)), some (.d (.int p)), some (.d (.str s))], some μ⟩ = .ok (.int o.width) ⟨[some (.d (.obj n)), some (.d (.int p)), some (.d (.str s))], some μ⟩ := by
      simp only [xFld, xV, List.getElem?_cons_zero, Rs.bind_ok, nodeAt, hn, node, lk_width, hDisk, if_true]
    simp only [xNot, xT, xF, xCall, xCons, xNil, xV, hf, List.getElem?_cons_succ, List.getElem?_cons_zero, Rs.bind_ok, ro, e2, OD.toD, if_true, Bool.not_true]
  refine seq_nx (ex_nx (meth_ok (k := n) (xs := []) rfl hn (no_spend o) rfl e3 rfl)) ?_
  refine seq_nx (S' := ⟨[some (.d (.obj n)), some (.d (.int p)), some (.d (.str s))], some (μ.set n (node { spent o with cur := o.cur.set p s }))⟩) ?_ ?_
  · have hcur : (flds (spent o)).lookup ("current" : Str) = some (txs o.cur) := lk_cur (spent o)
    have hix : ixN (o.cur.map fun s => OD.d (.str s)).length (p : Int) = some p := by
      have : (p : Int) < (o.cur.map fun s => OD.d (.str s)).length := by rw [List.length_map]; omega
      simp only [ixN, this, if_true]
      simp
    have hpl : p < (o.cur.map fun s => OD.d (.str s)).length := by simpa using hpc
    have hpf := pf_cur (spent o) (o.cur.set p s)
    simp only [txs] at hpf
    simp only [sAsg, xU, xV, xgI, frz, xLf, xLo, OD.toD, Option.map_some, List.getElem?_cons_succ, List.getElem?_cons_zero, Rs.bind_ok, Rs.out_ok, nodeAt, hn2, node, hDisk, hcur, Option.isSome_some, and_self, if_true, getP, txs, hix, hpl, setP, setNode, List.set_set, set_txs, hpf, Bool.false_eq_true, if_false]
  · refine ex_nx (r := .d .non) ?_
    have hwr : (flds { spent o with cur := o.cur.set p s }).lookup ("written" : Str) = some (.own (o.wr.map fun p => .d (wrD p))) := lk_wr _
    have hpw := pf_wr { spent o with cur := o.cur.set p s } (o.wr ++ [(p, s)])
    simp only [List.map_append, List.map_cons, List.map_nil, wrD] at hpw
    have hwl : (o.wr.map fun p => OD.d (wrD p)).length < sizeLine := by simpa using hsz
    have h2 : ([D.int (p : Int), D.str s] : List D).length ≤ sizeLine := by rw [sizeLine_eq]; show 2 ≤ 16777216; decide
    simp only [xApp, xU, xTup, xCons, xNil, xV, xLf, frz, OD.toD, Option.map_some, List.getElem?_cons_succ, List.getElem?_cons_zero, Rs.bind_ok, nodeAt, hn2, node, hDisk, hwr, Option.isSome_some, and_self, if_true, getP, hwl, h2, setP, setNode, List.set_set, Bool.false_eq_true, if_false]
    simp only [wrD, hpw]
end K75
end
section
set_option Elab.async false
set_option linter.all false
set_option maxRecDepth 100000
set_option maxHeartbeats 2000000
/-! the plain law, 5: writes refused, settle, stop, loose -/
namespace K75
open PySem PySem.Spec PyProof.Rows L2 Mi
theorem run_write_page {x y : D} {o : Ow} {n : Nat} {μ : List OD} (h : pl x = true) (hn : μ[n]? = some (node o)) (hb : btw x 0 (o.pages - 1) = false) :
    f_Disk_write [.obj n, x, y] (some μ) = .ex "InvalidPage" [("given", x)] (some μ) := by
  have e := run_check (x := x) (o := o) h hn
  rw [if_neg (by simp [hb])] at e
  refine fn_ex (S := ⟨[some (.d (.obj n)), some (.d x), some (.d y)], some μ⟩) rfl ?_
  show M_Disk_write ⟨[some (.d (.obj n)), some (.d x), some (.d y)], some μ⟩ = _
  unfold M_Disk_write
  refine seq_ex ?_
  refine ex_ex ?_
  exact meth_ex (k := n) (xs := [x]) rfl hn (no_check o) rfl e rfl rfl
theorem wr_page {p : Nat} {o : Ow} {n : Nat} {μ : List OD} (hn : μ[n]? = some (node o)) (hp : p < o.pages) : f_Disk_check_page [.obj n, .int p] (some μ) = .ok (.d .non) (some μ) := by
  have e := run_check (x := .int p) (o := o) rfl hn
  have hb : btw (.int p) 0 (o.pages - 1) = true := by simp [btw]; omega
  rwa [if_pos hb] at e
theorem test_text {x y : D} {o : Ow} {n : Nat} {μ : List OD} {b : Bool} (hn : μ[n]? = some (node o)) (e2 : f_is_page_text [y, .int o.width] (some μ) = .ok (.d (.bl b)) (some μ)) :
    xNot (xT (xF (xCall f_is_page_text none (xCons (xV 2) (xCons (xFld ["Disk"] "width" (xV 0)) xNil))))) ⟨[some (.d (.obj n)), some (.d x), some (.d y)], some μ⟩ = .ok (!b) ⟨[some (.d (.obj n)), some (.d x), some (.d y)], some μ⟩ := by
  have hf : xFld ["Disk"] "width" (xV 0) ⟨[some (.d (.obj n)), some (.d x), some (.d y)], some μ⟩ = .ok (.int o.width) ⟨[some (.d (.obj n)), some (.d x), some (.d y)], some μ⟩ := by
    simp only [xFld, xV, List.getElem?_cons_zero, Rs.bind_ok, nodeAt, hn, node, lk_width, hDisk, if_true]
  simp only [xNot, xT, xF, xCall, xCons, xNil, xV, hf, List.getElem?_cons_succ, List.getElem?_cons_zero, Rs.bind_ok, ro, e2, OD.toD, if_true]
theorem run_write_text {p : Nat} {y : D} {o : Ow} {n : Nat} {μ : List OD} (h : pl y = true) (hz : ∀ s, y = .str s → s.length ≤ sizeLine) (hn : μ[n]? = some (node o)) (hp : p < o.pages) (hw : o.width ≤ 400) (hb : okX y o.width = false) :
    f_Disk_write [.obj n, .int p, y] (some μ) = .ex "InvalidText" [("given", y)] (some μ) := by
  have e2 := run_is_page_text (x := y) (w := o.width) h (by rw [sizeLine_eq]; omega) hz (some μ)
  rw [hb] at e2
  refine fn_ex (S := ⟨[some (.d (.obj n)), some (.d (.int p)), some (.d y)], some μ⟩) rfl ?_
  show M_Disk_write ⟨[some (.d (.obj n)), some (.d (.int p)), some (.d y)], some μ⟩ = _
  unfold M_Disk_write
  refine seq_nx (ex_nx (meth_ok (k := n) (xs := [.int p]) rfl hn (no_check o) rfl (wr_page hn hp) rfl)) ?_
  refine seq_ex (if_t (test_text hn e2) ?_)
  simp only [sRaise, xV, List.getElem?_cons_succ, List.getElem?_cons_zero, Rs.out_ok]
theorem run_write_cut {p : Nat} {s : Str} {o : Ow} {n : Nat} {μ : List OD} (hz : s.length ≤ sizeLine) (hn : μ[n]? = some (node o)) (hp : p < o.pages) (hw : o.width ≤ 400) (hb : okT s o.width = true) (h0 : o.lf = some 0) :
    f_Disk_write [.obj n, .int p, .str s] (some μ) = .ex "PowerCut" [] (some μ) := by
  have e2 := run_is_page_text (x := .str s) (w := o.width) rfl (by rw [sizeLine_eq]; omega) (fun s' h => by cases h; exact hz) (some μ)
  simp only [okX, hb] at e2
  have e3 := run_spend hn
  rw [h0] at e3
  refine fn_ex (S := ⟨[some (.d (.obj n)), some (.d (.int p)), some (.d (.str s))], some μ⟩) rfl ?_
  show M_Disk_write ⟨[some (.d (.obj n)), some (.d (.int p)), some (.d (.str s))], some μ⟩ = _
  unfold M_Disk_write
  refine seq_nx (ex_nx (meth_ok (k := n) (xs := [.int p]) rfl hn (no_check o) rfl (wr_page hn hp) rfl)) ?_
  refine seq_nx (if_f (test_text hn e2) rfl) ?_
  refine seq_ex ?_
  refine ex_ex ?_
  exact meth_ex (k := n) (xs := []) rfl hn (no_spend o) rfl e3 rfl rfl
theorem run_settle_cut {o : Ow} {n : Nat} {μ : List OD} (hn : μ[n]? = some (node o)) (h0 : o.lf = some 0) : f_Disk_settle [.obj n] (some μ) = .ex "PowerCut" [] (some μ) := by
  have e3 := run_spend hn
  rw [h0] at e3
  refine fn_ex (S := ⟨[some (.d (.obj n))], some μ⟩) rfl ?_
  show M_Disk_settle ⟨[some (.d (.obj n))], some μ⟩ = _
  unfold M_Disk_settle
  refine seq_ex ?_
  refine ex_ex ?_
  exact meth_ex (k := n) (xs := []) rfl hn (no_spend o) rfl e3 rfl rfl
theorem run_settle {o : Ow} {n : Nat} {μ : List OD} (hn : μ[n]? = some (node o)) (h0 : o.lf ≠ some 0) : f_Disk_settle [.obj n] (some μ) = .ok (.d .non) (some (μ.set n (node { spent o with las := o.cur, wr := [] }))) := by
  have hl : n < μ.length := (List.getElem?_eq_some_iff.mp hn).1
  have hn2 : ∀ y, (μ.set n y)[n]? = some y := fun y => List.getElem?_set_self hl
  have e3 := run_spend' hn h0
  refine fn_nx (S := ⟨[some (.d (.obj n))], some (μ.set n (node { spent o with las := o.cur, wr := [] }))⟩) rfl ?_
  show M_Disk_settle ⟨[some (.d (.obj n))], some μ⟩ = _
  unfold M_Disk_settle
  refine seq_nx (ex_nx (meth_ok (k := n) (xs := []) rfl hn (no_spend o) rfl e3 rfl)) ?_
  have hcur : (flds (spent o)).lookup ("current" : Str) = some (txs o.cur) := lk_cur (spent o)
  have hv : viewD (txs o.cur) = some (.lst (o.cur.map .str)) := viewTx o.cur
  have hm : ((o.cur.map D.str).map OD.d) = o.cur.map fun s => OD.d (.str s) := by rw [List.map_map]; rfl
  have hpl := pf_las (spent o) o.cur
  have hpw := pf_wr { spent o with las := o.cur } []
  simp only [txs] at hpl
  simp only [List.map_nil] at hpw
  have hlen := fl_len (spent o)
  have hlen2 := fl_len { spent o with las := o.cur }
  simp only [sTup, xoCons, xoNil, xListOV, xLf, xV, xLstO, xNil, List.getElem?_cons_zero, Rs.bind_ok, Rs.out_ok, nodeAt, hn2, node, hDisk, hcur, Option.isSome_some, and_self, if_true, getP, hv, Option.bind_some, gList1, hm, List.length_cons, List.length_nil, List.map_nil, Nat.zero_le,
    xgsCons, xgsNil, xgA, frz, setNode, Option.map_some, List.set_set, hpl, hpw, hlen, hlen2]
end K75
end
section
set_option Elab.async false
set_option linter.all false
set_option maxRecDepth 100000
set_option maxHeartbeats 2000000
/-! the plain law, 6: stop, loose, a new disk -/
namespace K75
open PySem PySem.Spec PyProof.Rows L2 Mi
/-- what stop takes -/
def stopX : D → Option (Option Nat)
  | .non => some none
  | .int k => if 0 ≤ k then some (some k.toNat) else none
  | _ => none
theorem run_stop_no {x : D} {o : Ow} {n : Nat} {μ : List OD} (h : pl x = true) (h1 : x.isNon = false) (h2 : isI x = false) (hn : μ[n]? = some (node o)) : f_Disk_stop [.obj n, x] (some μ) = .ex "InvalidMany" [("given", x)] (some μ) := by
  have e := run_is_integer (x := x) h (some μ)
  have hg : gIsNot x .non = some (.bl (!x.isNon)) := by cases x <;> rfl
  refine fn_ex (S := ⟨[some (.d (.obj n)), some (.d x)], some μ⟩) rfl ?_
  show M_Disk_stop ⟨[some (.d (.obj n)), some (.d x)], some μ⟩ = _
  unfold M_Disk_stop
  refine seq_ex (if_t (S' := ⟨[some (.d (.obj n)), some (.d x)], some μ⟩) ?_ ?_)
  · simp only [xAnd, xOr, xNot, xT, xF, xB, xV, xC, xCall, xCons, xNil, ro, e, h1, h2, OD.toD, hg, List.getElem?_cons_succ, List.getElem?_cons_zero, Rs.bind_ok, Bool.not_false, if_true]
  · simp only [sRaise, xV, List.getElem?_cons_succ, List.getElem?_cons_zero, Rs.out_ok]
theorem run_stop {x : D} {o : Ow} {n : Nat} {μ : List OD} (h : pl x = true) (hn : μ[n]? = some (node o)) : f_Disk_stop [.obj n, x] (some μ) = match stopX x with
    | some k => .ok (.d .non) (some (μ.set n (node { o with lf := k })))
    | none => .ex "InvalidMany" [("given", x)] (some μ) := by
  have e := run_is_integer (x := x) h (some μ)
  have hlen := fl_len o
  cases x with
  | non =>
    have hp := pf_lf o none
    simp only [lfD] at hp
    refine fn_nx (S := ⟨[some (.d (.obj n)), some (.d .non)], some (μ.set n (node { o with lf := none }))⟩) rfl ?_
    show M_Disk_stop ⟨[some (.d (.obj n)), some (.d .non)], some μ⟩ = _
    unfold M_Disk_stop
    refine seq_nx (S' := ⟨[some (.d (.obj n)), some (.d .non)], some μ⟩) (if_f (S' := ⟨[some (.d (.obj n)), some (.d .non)], some μ⟩) ?_ rfl) ?_
    · simp only [xAnd, xT, xB, xV, xC, gIsNot, D.isNon, List.getElem?_cons_succ, List.getElem?_cons_zero, Rs.bind_ok, Bool.not_true]
    · simp only [sAsg, xU, xV, xgA, frz, OD.toD, Option.map_some, List.getElem?_cons_succ, List.getElem?_cons_zero, Rs.bind_ok, Rs.out_ok, nodeAt, hn, node, hDisk, hp, hlen, setNode, if_true, and_self, Bool.false_eq_true, if_false]
  | int k =>
    simp only [isI] at e
    by_cases hk : 0 ≤ k
    · have hp := pf_lf o (some k.toNat)
      have ek : ((k.toNat : Nat) : Int) = k := by omega
      simp only [lfD, ek] at hp
      have es : stopX (.int k) = some (some k.toNat) := by simp [stopX, hk]
      rw [es]
      refine fn_nx (S := ⟨[some (.d (.obj n)), some (.d (.int k))], some (μ.set n (node { o with lf := some k.toNat }))⟩) rfl ?_
      show M_Disk_stop ⟨[some (.d (.obj n)), some (.d (.int k))], some μ⟩ = _
      unfold M_Disk_stop
      refine seq_nx (S' := ⟨[some (.d (.obj n)), some (.d (.int k))], some μ⟩) (if_f (S' := ⟨[some (.d (.obj n)), some (.d (.int k))], some μ⟩) ?_ rfl) ?_
      · have hk2 : ¬ (k < 0) := by omega
        simp only [xAnd, xOr, xNot, xT, xF, xB, xV, xC, xCall, xCons, xNil, ro, e, OD.toD, gIsNot, gCmpI, D.isNon, hk2, List.getElem?_cons_succ, List.getElem?_cons_zero, Rs.bind_ok, Bool.not_false, Bool.not_true, if_true, decide_false]
      · simp only [sAsg, xU, xV, xgA, frz, OD.toD, Option.map_some, List.getElem?_cons_succ, List.getElem?_cons_zero, Rs.bind_ok, Rs.out_ok, nodeAt, hn, node, hDisk, hp, hlen, setNode, if_true, and_self, Bool.false_eq_true, if_false]
    · have es : stopX (.int k) = none := by simp [stopX, hk]
      rw [es]
      refine fn_ex (S := ⟨[some (.d (.obj n)), some (.d (.int k))], some μ⟩) rfl ?_
      show M_Disk_stop ⟨[some (.d (.obj n)), some (.d (.int k))], some μ⟩ = _
      unfold M_Disk_stop
      have hk2 : k < 0 := by omega
      refine seq_ex (if_t (S' := ⟨[some (.d (.obj n)), some (.d (.int k))], some μ⟩) ?_ ?_)
      · simp only [xAnd, xOr, xNot, xT, xF, xB, xV, xC, xCall, xCons, xNil, ro, e, OD.toD, gIsNot, gCmpI, D.isNon, hk2, List.getElem?_cons_succ, List.getElem?_cons_zero, Rs.bind_ok, Bool.not_false, Bool.not_true, if_true, decide_true]
      · simp only [sRaise, xV, List.getElem?_cons_succ, List.getElem?_cons_zero, Rs.out_ok]
  | scr xs => exact run_stop_no h rfl rfl hn
  | lst xs => exact run_stop_no h rfl rfl hn
  | tup xs => exact run_stop_no h rfl rfl hn
  | bl b => exact run_stop_no h rfl rfl hn
  | str b => exact run_stop_no h rfl rfl hn
  | dct b => exact run_stop_no h rfl rfl hn
  | _ => simp [pl, D.tn] at h
theorem run_loose {o : Ow} {n : Nat} {μ : List OD} (hn : μ[n]? = some (node o)) (hw : o.wr.length < 100000) : f_Disk_loose [.obj n] (some μ) = .ok (.own ((o.wr.map fun p => D.int p.1).map .d)) (some μ) := by
  refine fn_rt (S := ⟨[some (.d (.obj n)), none, none], some μ⟩) rfl ?_
  show M_Disk_loose ⟨[some (.d (.obj n)), none, none], some μ⟩ = _
  unfold M_Disk_loose
  have hv := viewWr o.wr
  have hwr := lk_wr o
  have hc := compL_map (vs := [1, 2]) (c := .tp (.cons (.nm 1) (.cons (.nm 2) .nil))) (T := xYes) (A := xV 1) (S := ⟨[some (.d (.obj n)), none, none], some μ⟩) (fun x => match x with | .tup [a, _] => a | _ => .non) (xs := o.wr.map wrD) [] (fun x hx => by
    obtain ⟨p, _, rfl⟩ := List.mem_map.mp hx
    refine ⟨⟨[some (.d (.obj n)), some (.d (.int p.1)), some (.d (.str p.2))], some μ⟩, _, ⟨[some (.d (.obj n)), some (.d (.int p.1)), some (.d (.str p.2))], some μ⟩, ?_, rfl, rfl, by simp [clr]⟩
    simp [xct, xcts, xgT, xgsCons, xgsNil, xgN, frz, OD.toD, wrD, CTs.len]) (by simp; rw [sizeLine_eq]; omega)
  have hm : (o.wr.map wrD).map (fun x => match x with | .tup [a, _] => a | _ => .non) = o.wr.map fun p => D.int p.1 := by
    rw [List.map_map]; rfl
  rw [List.nil_append, hm] at hc
  have hcl : clr [1, 2] (⟨[some (.d (.obj n)), none, none], some μ⟩ : AS) = ⟨[some (.d (.obj n)), none, none], some μ⟩ := by simp [clr]
  simp only [sRet, xComp, xIV, xLf, xV, List.getElem?_cons_zero, Rs.bind_ok, Rs.out_ok, nodeAt, hn, node, hDisk, hwr, Option.isSome_some, and_self, if_true, getP, Option.bind_some, hv, hcl, hc]
end K75
end
section
set_option Elab.async false
set_option linter.all false
set_option maxRecDepth 100000
set_option maxHeartbeats 2000000
/-! the plain law, 7: a new disk, places -/
namespace K75
open PySem PySem.Spec PyProof.Rows L2 Mi
theorem mul1 {p : Nat} {s : Str} (hp : p ≤ 1000) : gMulL (.lst [.str s]) (.int p) = some (List.replicate p (.str s)) := by
  have h1 : (([D.str s] : List D).length * (p : Int).toNat ≤ sizeLine ∧ -(2 ^ 63) ≤ (p : Int) ∧ (p : Int) < 2 ^ 63) := by
    refine ⟨?_, by omega, by omega⟩
    rw [sizeLine_eq]; simp; omega
  have h2 : (List.replicate p [D.str s]).flatten = List.replicate p (.str s) := by
    induction p with
    | zero => rfl
    | succ p ih => rw [List.replicate_succ, List.flatten_cons, ih (by omega) (by
        refine ⟨?_, by omega, by omega⟩
        rw [sizeLine_eq]; simp; omega)]; rfl
  unfold gMulL gMul
  simp only [if_pos h1]
  simp only [Int.toNat_natCast, h2]
def fA (p : Nat) : List (Str × OD) := [("pages", .d (.int p))]
def fB (p w : Nat) : List (Str × OD) := [("pages", .d (.int p)), ("width", .d (.int w))]
def fC (p w : Nat) (y : OD) : List (Str × OD) := [("pages", .d (.int p)), ("width", .d (.int w)), ("lasting", y)]
def fD (p w : Nat) (y z : OD) : List (Str × OD) := [("pages", .d (.int p)), ("width", .d (.int w)), ("lasting", y), ("current", z)]
def fE (p w : Nat) (y z u : OD) : List (Str × OD) := [("pages", .d (.int p)), ("width", .d (.int w)), ("lasting", y), ("current", z), ("written", u)]
theorem lA (p : Nat) : (fA p).length < 1000 := by show 1 < 1000; decide
theorem lB (p w : Nat) : (fB p w).length < 1000 := by show 2 < 1000; decide
theorem lC (p w : Nat) (y : OD) : (fC p w y).length < 1000 := by show 3 < 1000; decide
theorem lD (p w : Nat) (y z : OD) : (fD p w y z).length < 1000 := by show 4 < 1000; decide
theorem lE (p w : Nat) (y z u : OD) : (fE p w y z u).length < 1000 := by show 5 < 1000; decide
theorem l0 : ([] : List (Str × OD)).length < 1000 := by decide
theorem qA (p : Nat) : pf "pages" (OD.d (.int p)) [] = fA p := rfl
theorem qB (p w : Nat) : pf "width" (OD.d (.int w)) (fA p) = fB p w := rfl
theorem qC (p w : Nat) (y : OD) : pf "lasting" y (fB p w) = fC p w y := rfl
theorem qD (p w : Nat) (y z : OD) : pf "current" z (fC p w y) = fD p w y z := rfl
theorem qE (p w : Nat) (y z u : OD) : pf "written" u (fD p w y z) = fE p w y z u := rfl
def fresh (p w : Nat) : Ow := ⟨p, w, List.replicate p "", List.replicate p "", [], none⟩
theorem qF (p w : Nat) : pf "left" (OD.d .non) (fE p w (.own ((List.replicate p (D.str "")).map .d)) (.own ((List.replicate p (D.str "")).map .d)) (.own [])) = flds (fresh p w) := by
  simp only [flds, fresh, txs, lfD, List.map_replicate, List.map_nil]
  rfl
theorem run_init {p w n : Nat} {μ : List OD} (hn : μ[n]? = some (.ins "Disk" [])) (hp : 4 ≤ p ∧ p ≤ 60) (hw : 40 ≤ w ∧ w ≤ 400) : f_Disk___init__ [.obj n, .int p, .int w] (some μ) = .ok (.d .non) (some (μ.set n (node (fresh p w)))) := by
  have hl : n < μ.length := (List.getElem?_eq_some_iff.mp hn).1
  have hn2 : ∀ y, (μ.set n y)[n]? = some y := fun y => List.getElem?_set_self hl
  have e1 := run_is_between (x := .int p) (a := 4) (b := 60) rfl (some μ)
  have e2 := run_is_between (x := .int w) (a := 40) (b := 400) rfl (some μ)
  have b1 : btw (.int p) 4 60 = true := by simp [btw]; omega
  have b2 : btw (.int w) 40 400 = true := by simp [btw]; omega
  rw [b1] at e1
  rw [b2] at e2
  refine fn_nx (S := ⟨[some (.d (.obj n)), some (.d (.int p)), some (.d (.int w))], some (μ.set n (node (fresh p w)))⟩) rfl ?_
  show M_Disk___init__ ⟨[some (.d (.obj n)), some (.d (.int p)), some (.d (.int w))], some μ⟩ = _
  unfold M_Disk___init__
  refine seq_nx (if_f (S' := ⟨[some (.d (.obj n)), some (.d (.int p)), some (.d (.int w))], some μ⟩) ?_ rfl) ?_
  · simp only [xNot, xT, xF, xCall, xCons, xNil, xC, xV, List.getElem?_cons_succ, List.getElem?_cons_zero, Rs.bind_ok, ro, e1, OD.toD, if_true, Bool.not_true]
  refine seq_nx (if_f (S' := ⟨[some (.d (.obj n)), some (.d (.int p)), some (.d (.int w))], some μ⟩) ?_ rfl) ?_
  · simp only [xNot, xT, xF, xCall, xCons, xNil, xC, xV, List.getElem?_cons_succ, List.getElem?_cons_zero, Rs.bind_ok, ro, e2, OD.toD, if_true, Bool.not_true]
  refine seq_nx (S' := ⟨[some (.d (.obj n)), some (.d (.int p)), some (.d (.int w))], some (μ.set n (.ins "Disk" (fB p w)))⟩) ?_ ?_
  · simp only [sTup, xoCons, xoNil, xU, xV, xgsCons, xgsNil, xgA, frz, OD.toD, Option.map_some, List.getElem?_cons_succ, List.getElem?_cons_zero, Rs.bind_ok, Rs.out_ok, nodeAt, hn, hn2, hDisk, setNode, if_true, and_self, Bool.false_eq_true, if_false, qA, qB, lA, l0, List.set_set]
    rfl
  refine seq_nx (S' := ⟨[some (.d (.obj n)), some (.d (.int p)), some (.d (.int w))], some (μ.set n (.ins "Disk" (fD p w (.own ((List.replicate p (.str "")).map .d)) (.own ((List.replicate p (.str "")).map .d)))))⟩) ?_ ?_
  · have hm := mul1 (p := p) (s := "") (by omega)
    have h1 : ([D.str ""] : List D).length ≤ sizeLine := by rw [sizeLine_eq]; show 1 ≤ 16777216; decide
    simp only [sTup, xoCons, xoNil, xMulO, xLst, xCons, xNil, xC, xV, xgsCons, xgsNil, xgA, frz, OD.toD, Option.map_some, List.getElem?_cons_succ, List.getElem?_cons_zero, Rs.bind_ok, Rs.out_ok, nodeAt, hn, hn2, hDisk, setNode, if_true, and_self, Bool.false_eq_true, if_false, h1, hm, qC, qD, lB, lC, List.set_set]
    rfl
  · simp only [sTup, xoCons, xoNil, xLstO, xNil, xU, xC, xV, xgsCons, xgsNil, xgA, frz, OD.toD, Option.map_some, List.getElem?_cons_zero, Rs.bind_ok, Rs.out_ok, nodeAt, hn, hn2, hDisk, setNode, if_true, and_self, Bool.false_eq_true, if_false, qE, qF, lD, lE, List.set_set, List.length_nil, Nat.zero_le, List.map_nil]
    rfl
theorem run_init_pages {x y : D} {n : Nat} {μ : List OD} (h : pl x = true) (hb : btw x 4 60 = false) : f_Disk___init__ [.obj n, x, y] (some μ) = .ex "InvalidPages" [("given", x)] (some μ) := by
  have e1 := run_is_between (x := x) (a := 4) (b := 60) h (some μ)
  rw [hb] at e1
  refine fn_ex (S := ⟨[some (.d (.obj n)), some (.d x), some (.d y)], some μ⟩) rfl ?_
  show M_Disk___init__ ⟨[some (.d (.obj n)), some (.d x), some (.d y)], some μ⟩ = _
  unfold M_Disk___init__
  refine seq_ex (if_t (S' := ⟨[some (.d (.obj n)), some (.d x), some (.d y)], some μ⟩) ?_ ?_)
  · simp only [xNot, xT, xF, xCall, xCons, xNil, xC, xV, List.getElem?_cons_succ, List.getElem?_cons_zero, Rs.bind_ok, ro, e1, OD.toD, if_true, Bool.not_false]
  · simp only [sRaise, xV, List.getElem?_cons_succ, List.getElem?_cons_zero, Rs.out_ok]
theorem run_init_width {x y : D} {n : Nat} {μ : List OD} (h : pl x = true) (hb : btw x 4 60 = true) (h2 : pl y = true) (hb2 : btw y 40 400 = false) : f_Disk___init__ [.obj n, x, y] (some μ) = .ex "InvalidWidth" [("given", y)] (some μ) := by
  have e1 := run_is_between (x := x) (a := 4) (b := 60) h (some μ)
  have e2 := run_is_between (x := y) (a := 40) (b := 400) h2 (some μ)
  rw [hb] at e1
  rw [hb2] at e2
  refine fn_ex (S := ⟨[some (.d (.obj n)), some (.d x), some (.d y)], some μ⟩) rfl ?_
  show M_Disk___init__ ⟨[some (.d (.obj n)), some (.d x), some (.d y)], some μ⟩ = _
  unfold M_Disk___init__
  refine seq_nx (if_f (S' := ⟨[some (.d (.obj n)), some (.d x), some (.d y)], some μ⟩) ?_ rfl) ?_
  · simp only [xNot, xT, xF, xCall, xCons, xNil, xC, xV, List.getElem?_cons_succ, List.getElem?_cons_zero, Rs.bind_ok, ro, e1, OD.toD, if_true, Bool.not_true]
  refine seq_ex (if_t (S' := ⟨[some (.d (.obj n)), some (.d x), some (.d y)], some μ⟩) ?_ ?_)
  · simp only [xNot, xT, xF, xCall, xCons, xNil, xC, xV, List.getElem?_cons_succ, List.getElem?_cons_zero, Rs.bind_ok, ro, e2, OD.toD, if_true, Bool.not_false]
  · simp only [sRaise, xV, List.getElem?_cons_succ, List.getElem?_cons_zero, Rs.out_ok]
end K75
end
section
set_option Elab.async false
set_option linter.all false
set_option maxRecDepth 100000
set_option maxHeartbeats 2000000
/-! the plain law, 8: places -/
namespace K75
open PySem PySem.Spec PyProof.Rows L2 Mi
theorem run_places_no {x : D} {m : Int} (h : pl x = true) (hb : isL x = false) (μ : Option (List OD)) : f_are_places [x, .int m] μ = .ok (.d (.bl false)) μ := by
  have e := run_is_list (x := x) h μ
  rw [hb] at e
  refine fn_rt (S := ⟨[some (.d x), some (.d (.int m)), none, none], μ⟩) rfl ?_
  show M_are_places ⟨[some (.d x), some (.d (.int m)), none, none], μ⟩ = _
  unfold M_are_places
  refine seq_rt (if_t (S' := ⟨[some (.d x), some (.d (.int m)), none, none], μ⟩) ?_ ?_)
  · simp only [xOr, xNot, xT, xF, xCall, xCons, xNil, xV, List.getElem?_cons_zero, Rs.bind_ok, ro, e, OD.toD, if_true, Bool.not_false]
  · simp only [sRet, xU, xC, Rs.bind_ok, Rs.out_ok]
/-- a list or tuple of these -/
def Seq (x : D) (xs : List D) : Prop := x = .lst xs ∨ x = .tup xs
theorem seq_pl {x : D} {xs : List D} (h : Seq x xs) : pl x = true ∧ isL x = true ∧ x.items = some xs := by
  rcases h with rfl | rfl <;> exact ⟨rfl, rfl, rfl⟩
theorem places_first {x : D} {xs : List D} {m : Int} (h : Seq x xs) (hp : ∀ e ∈ xs, pl e = true) (hl : xs.length ≤ 1000000) (μ : Option (List OD)) :
    xOr (xNot (xT (xF (xCall f_is_list none (xCons (xV 0) xNil))))) (xNot (xT (xG gAll (xCons (xF (xComp [3] (xI (xV 0)) (.nm 3) xYes (xF (xCall f_is_between none (xCons (xV 3) (xCons (xC (.int 0)) (xCons (xB Mi.gSub (xV 1) (xC (.int 1))) xNil))))))) xNil)))) ⟨[some (.d x), some (.d (.int m)), none, none], μ⟩ =
      .ok (!(xs.all fun e => btw e 0 (m - 1))) ⟨[some (.d x), some (.d (.int m)), none, none], μ⟩ := by
  obtain ⟨h1, h2, h3⟩ := seq_pl h
  have e := run_is_list (x := x) h1 μ
  rw [h2] at e
  have hc := compL_map (vs := [3]) (c := .nm 3) (T := xYes) (A := xF (xCall f_is_between none (xCons (xV 3) (xCons (xC (.int 0)) (xCons (xB Mi.gSub (xV 1) (xC (.int 1))) xNil))))) (S := ⟨[some (.d x), some (.d (.int m)), none, none], μ⟩) (fun e => .bl (btw e 0 (m - 1))) (xs := xs) [] (fun y hy => by
    have e2 := run_is_between (x := y) (a := 0) (b := m - 1) (hp y hy) μ
    refine ⟨⟨[some (.d x), some (.d (.int m)), none, some (.d y)], μ⟩, _, ⟨[some (.d x), some (.d (.int m)), none, some (.d y)], μ⟩, by simp [xct, xgN, frz, OD.toD], rfl, ?_, by simp [clr]⟩
    simp only [xF, xCall, xCons, xNil, xV, xC, xB, Mi.gSub, List.getElem?_cons_succ, List.getElem?_cons_zero, Rs.bind_ok, ro, e2, OD.toD, if_true]) (by simp; rw [sizeLine_eq]; omega)
  rw [List.nil_append] at hc
  have hcl : clr [3] (⟨[some (.d x), some (.d (.int m)), none, none], μ⟩ : AS) = ⟨[some (.d x), some (.d (.int m)), none, none], μ⟩ := by simp [clr]
  have hm : xs.map (fun e => D.bl (btw e 0 (m - 1))) = (xs.map fun e => btw e 0 (m - 1)).map .bl := by rw [List.map_map]; rfl
  have ha : gAll [D.lst ((xs.map fun e => btw e 0 (m - 1)).map .bl)] = some (.bl (xs.all fun e => btw e 0 (m - 1))) := by
    simp only [gAll, allOf_bl]
    simp [List.all_map, Function.comp_def]
  have hx : xF (xComp [3] (xI (xV 0)) (.nm 3) xYes (xF (xCall f_is_between none (xCons (xV 3) (xCons (xC (.int 0)) (xCons (xB Mi.gSub (xV 1) (xC (.int 1))) xNil)))))) ⟨[some (.d x), some (.d (.int m)), none, none], μ⟩ = .ok (.lst ((xs.map fun e => btw e 0 (m - 1)).map .bl)) ⟨[some (.d x), some (.d (.int m)), none, none], μ⟩ := by
    rw [← hm]
    rw [xF]
    simp only [xComp, xI, xV, h3, List.getElem?_cons_zero, Rs.bind_ok, hcl, hc, toD_own]
  have e' : xNot (xT (xF (xCall f_is_list none (xCons (xV 0) xNil)))) ⟨[some (.d x), some (.d (.int m)), none, none], μ⟩ = .ok false ⟨[some (.d x), some (.d (.int m)), none, none], μ⟩ := by
    simp only [xNot, xT, xF, xCall, xCons, xNil, xV, List.getElem?_cons_zero, Rs.bind_ok, ro, e, OD.toD, if_true, Bool.not_true]
  rw [xOr, e']
  simp only [Rs.bind_ok, xNot, xT, xG, xCons, xNil, hx, ha]
theorem run_places_bad {x : D} {xs : List D} {m : Int} (h : Seq x xs) (hp : ∀ e ∈ xs, pl e = true) (hl : xs.length ≤ 1000000) (hb : (xs.all fun e => btw e 0 (m - 1)) = false) (μ : Option (List OD)) : f_are_places [x, .int m] μ = .ok (.d (.bl false)) μ := by
  refine fn_rt (S := ⟨[some (.d x), some (.d (.int m)), none, none], μ⟩) rfl ?_
  show M_are_places ⟨[some (.d x), some (.d (.int m)), none, none], μ⟩ = _
  unfold M_are_places
  refine seq_rt (if_t (S' := ⟨[some (.d x), some (.d (.int m)), none, none], μ⟩) ?_ ?_)
  · rw [places_first h hp hl μ, hb]; rfl
  · simp only [sRet, xU, xC, Rs.bind_ok, Rs.out_ok]
def incr (ns : List Int) : Bool := (List.range (ns.length - 1)).all fun k => decide (ns.getD k 0 < ns.getD (k + 1) 0)
theorem idx_int {x : D} {ns : List Int} {k : Nat} (h : Seq x (ns.map .int)) (hk : k < ns.length) : gIdx x (.int k) = some (.int (ns.getD k 0)) := by
  have ha : atI (ns.map D.int) (k : Int) = some (.int (ns.getD k 0)) := by
    rw [atI_nat (by simpa using hk)]
    simp [List.getD_eq_getElem?_getD, hk]
  rcases h with rfl | rfl <;> exact ha
theorem run_places {x : D} {ns : List Int} {m : Int} (h : Seq x (ns.map .int)) (hl : ns.length ≤ 1000000) (hb : ∀ i ∈ ns, 0 ≤ i ∧ i < m) (μ : Option (List OD)) : f_are_places [x, .int m] μ = .ok (.d (.bl (incr ns))) μ := by
  obtain ⟨h1, h2, h3⟩ := seq_pl h
  have hp : ∀ e ∈ ns.map D.int, pl e = true := fun e he => by
    obtain ⟨i, _, rfl⟩ := List.mem_map.mp he; rfl
  have hall : ((ns.map D.int).all fun e => btw e 0 (m - 1)) = true := by
    rw [List.all_eq_true]
    intro e he
    obtain ⟨i, hi, rfl⟩ := List.mem_map.mp he
    have := hb i hi
    simp [btw]; omega
  refine fn_rt (S := ⟨[some (.d x), some (.d (.int m)), none, none], μ⟩) rfl ?_
  show M_are_places ⟨[some (.d x), some (.d (.int m)), none, none], μ⟩ = _
  unfold M_are_places
  refine seq_nx (if_f (S' := ⟨[some (.d x), some (.d (.int m)), none, none], μ⟩) ?_ rfl) ?_
  · rw [places_first h hp (by simpa using hl) μ, hall]; rfl
  have hlen : gLen [x] = some (.int ns.length) := by rcases h with rfl | rfl <;> simp [gLen]
  have hr : (List.range ((ns.length : Int) - 1).toNat) = List.range (ns.length - 1) := by
    congr 1; omega
  have hc := compL_map (vs := [2]) (c := .nm 2) (T := xYes) (A := xB gLt (xB gIdx (xV 0) (xV 2)) (xB gIdx (xV 0) (xB gAdd (xV 2) (xC (.int 1))))) (S := ⟨[some (.d x), some (.d (.int m)), none, none], μ⟩)
    (fun e => match e with | .int k => .bl (decide (ns.getD k.toNat 0 < ns.getD (k.toNat + 1) 0)) | _ => .non) (xs := (List.range (ns.length - 1)).map fun i => D.int (0 + (i : Nat))) [] (fun y hy => by
    obtain ⟨k, hk, rfl⟩ := List.mem_map.mp hy
    rw [List.mem_range] at hk
    have i1 : gIdx x (.int (0 + (k : Nat))) = some (.int (ns.getD k 0)) := by rw [Int.zero_add]; exact idx_int h (by omega)
    have i2 : gIdx x (.int (0 + (k : Nat) + 1)) = some (.int (ns.getD (k + 1) 0)) := by
      rw [Int.zero_add, show ((k : Int) + 1) = ((k + 1 : Nat) : Int) by omega]; exact idx_int h (by omega)
    refine ⟨⟨[some (.d x), some (.d (.int m)), some (.d (.int (0 + (k : Nat)))), none], μ⟩, _, ⟨[some (.d x), some (.d (.int m)), some (.d (.int (0 + (k : Nat)))), none], μ⟩, by simp [xct, xgN, frz, OD.toD], rfl, ?_, by simp [clr]⟩
    simp only [xV, xC, xB, gAdd, gCmpI, List.getElem?_cons_succ, List.getElem?_cons_zero, Rs.bind_ok, i1, i2]
    simp) (by simp; rw [sizeLine_eq]; omega)
  rw [List.nil_append] at hc
  have hcl : clr [2] (⟨[some (.d x), some (.d (.int m)), none, none], μ⟩ : AS) = ⟨[some (.d x), some (.d (.int m)), none, none], μ⟩ := by simp [clr]
  have hm : ((List.range (ns.length - 1)).map fun i => D.int (0 + (i : Nat))).map (fun e => match e with | .int k => D.bl (decide (ns.getD k.toNat 0 < ns.getD (k.toNat + 1) 0)) | _ => .non) = ((List.range (ns.length - 1)).map fun k => decide (ns.getD k 0 < ns.getD (k + 1) 0)).map .bl := by
    rw [List.map_map, List.map_map]
    refine List.map_congr_left fun k _ => ?_
    simp
  rw [hm] at hc
  have ha : gAll [D.lst (((List.range (ns.length - 1)).map fun k => decide (ns.getD k 0 < ns.getD (k + 1) 0)).map .bl)] = some (.bl (incr ns)) := by
    simp only [gAll, allOf_bl]
    simp [List.all_map, Function.comp_def, incr]
  have hj : -(2 ^ 62) ≤ ((ns.length : Int) - 1) ∧ ((ns.length : Int) - 1) < 2 ^ 62 := by omega
  have hx : xF (xComp [2] (xR1 (xCons (xB Mi.gSub (xG gLen (xCons (xV 0) xNil)) (xC (.int 1))) xNil)) (.nm 2) xYes (xB gLt (xB gIdx (xV 0) (xV 2)) (xB gIdx (xV 0) (xB gAdd (xV 2) (xC (.int 1)))))) ⟨[some (.d x), some (.d (.int m)), none, none], μ⟩ = .ok (.lst (((List.range (ns.length - 1)).map fun k => decide (ns.getD k 0 < ns.getD (k + 1) 0)).map .bl)) ⟨[some (.d x), some (.d (.int m)), none, none], μ⟩ := by
    rw [xF, xComp]
    have hI : xR1 (xCons (xB Mi.gSub (xG gLen (xCons (xV 0) xNil)) (xC (.int 1))) xNil) ⟨[some (.d x), some (.d (.int m)), none, none], μ⟩ = .ok ((List.range (ns.length - 1)).map fun i => D.int (0 + (i : Nat))) ⟨[some (.d x), some (.d (.int m)), none, none], μ⟩ := by
      simp only [xR1, xCons, xNil, xB, xG, xV, xC, List.getElem?_cons_zero, Rs.bind_ok, hlen, Mi.gSub]
      rw [if_pos hj, hr]
    simp only [hI, Rs.bind_ok, hcl, hc, toD_own]
  simp only [sRet, xU, xG, xCons, xNil, hx, Rs.bind_ok, ha, Rs.out_ok]
end K75
end
section
set_option Elab.async false
set_option linter.all false
set_option maxRecDepth 100000
set_option maxHeartbeats 2000000
/-! the plain law, 9: a value is the same as itself -/
namespace K75
open PySem PySem.Spec PyProof.Rows L2 Mi
theorem compL_none {vs : List Nat} {c : CT} {T : XT} {A : XD} {S : AS} : ∀ {xs : List D} (acc : List D), (∀ x ∈ xs, ∃ S1 S2, xct c (.d x) S = .ok () S1 ∧ T S1 = .ok false S2 ∧ clr vs S2 = S) → xCompL vs c T A xs acc S = .ok acc S
  | [], acc, _ => rfl
  | x :: xs, acc, h => by
    obtain ⟨S1, S2, e1, e2, e4⟩ := h x List.mem_cons_self
    have ih := compL_none (A := A) (xs := xs) acc (fun y hy => h y (List.mem_cons_of_mem _ hy))
    simp only [xCompL, e1, e2, e4, ih]
def okV : Nat → D → Bool
  | 0, _ => false
  | _ + 1, .non => true
  | _ + 1, .bl _ => true
  | _ + 1, .int _ => true
  | _ + 1, .str _ => true
  | _ + 1, .dct [] => true
  | n + 1, .lst xs => decide (xs.length ≤ 1000000) && xs.all (okV n)
  | n + 1, .tup xs => decide (xs.length ≤ 1000000) && xs.all (okV n)
  | _, _ => false
theorem gEq_nil : gEq (.lst []) (.lst []) = some (.bl true) := by rfl
theorem gEq_bl (a : Bool) : gEq (.bl a) (.bl a) = some (.bl true) := by cases a <;> rfl
theorem gNe_bl (a : Bool) : gNe (.bl a) (.bl a) = some (.bl false) := by cases a <;> rfl
theorem gNe_int (a : Int) : gNe (.int a) (.int a) = some (.bl false) := by
  show Option.map (fun b => D.bl (!b)) (if SeqAt.shaped (.int a) = true ∧ SeqAt.shaped (.int a) = true then some (PyData.eqv (.int a) (.int a)) else none) = _
  rw [if_pos ⟨rfl, rfl⟩]
  show some (D.bl (!(a == a))) = _
  simp
theorem xR1_z {A : XA} {S S' : AS} {z : Int} (h : A S = .ok [.int z] S') (hz : -(2 ^ 62) ≤ z ∧ z < 2 ^ 62) : xR1 A S = .ok ((List.range z.toNat).map fun i => D.int (0 + (i : Nat))) S' := by
  unfold xR1
  rw [h]
  simp only [Rs.bind_ok]
  rw [if_pos hz]
theorem nat62 {j : Nat} (hj : j ≤ 1000000000) : -(2 ^ 62) ≤ (j : Int) ∧ (j : Int) < 2 ^ 62 := ⟨by omega, by omega⟩
theorem xR1_len {A : XA} {S S' : AS} {j : Nat} (h : A S = .ok [.int j] S') (hj : j ≤ 1000000000) : xR1 A S = .ok ((List.range j).map fun i => D.int (0 + (i : Nat))) S' := xR1_z h (nat62 hj)
theorem run_same_seq {n : Nat} {v : D} {xs : List D} {μ : Option (List OD)} (h : Seq v xs) (hl : xs.length ≤ 1000000) (ih : ∀ x ∈ xs, f__law_same n [x, x] μ = .ok (.d (.bl true)) μ) : f__law_same (n + 1) [v, v] μ = .ok (.d (.bl true)) μ := by
  rw [f__law_same]
  generalize hf : f__law_same n = same at ih ⊢
  refine fn_rt (S := ⟨[some (.d v), some (.d v), none, none], μ⟩) rfl ?_
  show M__law_same same ⟨[some (.d v), some (.d v), none, none], μ⟩ = _
  unfold M__law_same
  have hlen : gLen [v] = some (.int xs.length) := by rcases h with rfl | rfl <;> rfl
  have htn : v.tn = some .list ∨ v.tn = some .tuple := by rcases h with rfl | rfl; exact .inl rfl; exact .inr rfl
  have hnn : gIs v .non = some (.bl false) := by rcases h with rfl | rfl <;> rfl
  have is1 : ∀ ns, xIs ns (xV 1) ⟨[some (.d v), some (.d v), none, none], μ⟩ = .ok (.bl (ns.any fun n => (v.tn.getD .non).is n)) ⟨[some (.d v), some (.d v), none, none], μ⟩ := fun ns => by
    rcases htn with e | e <;> simp [xIs, xV, e]
  have is0 : ∀ ns, xIs ns (xV 0) ⟨[some (.d v), some (.d v), none, none], μ⟩ = .ok (.bl (ns.any fun n => (v.tn.getD .non).is n)) ⟨[some (.d v), some (.d v), none, none], μ⟩ := fun ns => by
    rcases htn with e | e <;> simp [xIs, xV, e]
  have b1 : ([Tn.bool].any fun n => (v.tn.getD .non).is n) = false := by rcases htn with e | e <;> rw [e] <;> rfl
  have b2 : ([Tn.int].any fun n => (v.tn.getD .non).is n) = false := by rcases htn with e | e <;> rw [e] <;> rfl
  have b3 : ([Tn.str].any fun n => (v.tn.getD .non).is n) = false := by rcases htn with e | e <;> rw [e] <;> rfl
  have b4 : ([Tn.dict].any fun n => (v.tn.getD .non).is n) = false := by rcases htn with e | e <;> rw [e] <;> rfl
  have b5 : ([Tn.list, Tn.tuple].any fun n => (v.tn.getD .non).is n) = true := by rcases htn with e | e <;> rw [e] <;> rfl
  refine seq_nx (if_f (S' := ⟨[some (.d v), some (.d v), none, none], μ⟩) ?_ rfl) ?_
  · have c1 : xT (xB gIs (xV 1) (xC .non)) ⟨[some (.d v), some (.d v), none, none], μ⟩ = .ok false ⟨[some (.d v), some (.d v), none, none], μ⟩ := by
      simp only [xT, xB, xC, xV, List.getElem?_cons_succ, List.getElem?_cons_zero, Rs.bind_ok, hnn]
    have c2 : xT (xIs [.bool] (xV 1)) ⟨[some (.d v), some (.d v), none, none], μ⟩ = .ok false ⟨[some (.d v), some (.d v), none, none], μ⟩ := by rw [xT, is1, b1]; rfl
    rw [xOr, c1]
    simp only [Rs.bind_ok, c2]
  refine seq_nx (if_f (S' := ⟨[some (.d v), some (.d v), none, none], μ⟩) (by rw [xT, is1, b2]; rfl) rfl) ?_
  refine seq_nx (if_f (S' := ⟨[some (.d v), some (.d v), none, none], μ⟩) (by rw [xT, is1, b3]; rfl) rfl) ?_
  refine seq_nx (if_f (S' := ⟨[some (.d v), some (.d v), none, none], μ⟩) (by rw [xT, is1, b4]; rfl) rfl) ?_
  refine seq_rt (if_t (S' := ⟨[some (.d v), some (.d v), none, none], μ⟩) (by rw [xT, is1, b5]; rfl) ?_)
  refine seq_nx (if_f (S' := ⟨[some (.d v), some (.d v), none, none], μ⟩) ?_ rfl) ?_
  · rw [xOr, xNot, xT, is0, b5]
    simp only [Rs.bind_ok, Bool.not_true]
    rw [xOr, xT, xB, is0]
    simp only [Rs.bind_ok, is1, gNe_bl]
    simp only [xT, xB, xG, xCons, xNil, xV, List.getElem?_cons_succ, List.getElem?_cons_zero, Rs.bind_ok, hlen, gNe_int]
  have hc := compL_none (vs := [3]) (c := .nm 3) (A := xV 3) (T := xNot (xT (xF (xCall same none (xCons (xB gIdx (xV 0) (xV 3)) (xCons (xB gIdx (xV 1) (xV 3)) xNil)))))) (S := ⟨[some (.d v), some (.d v), none, none], μ⟩) (xs := (List.range xs.length).map fun i => D.int (0 + (i : Nat))) [] (fun y hy => by
    obtain ⟨k, hk, rfl⟩ := List.mem_map.mp hy
    rw [List.mem_range] at hk
    have i1 : gIdx v (.int (0 + (k : Nat))) = some xs[k] := by
      rw [Int.zero_add]
      have := atI_nat hk
      rcases h with rfl | rfl <;> exact this
    have e := ih xs[k] (List.getElem_mem hk)
    refine ⟨⟨[some (.d v), some (.d v), none, some (.d (.int (0 + (k : Nat))))], μ⟩, ⟨[some (.d v), some (.d v), none, some (.d (.int (0 + (k : Nat))))], μ⟩, by simp [xct, xgN, frz, OD.toD], ?_, by simp [clr]⟩
    simp only [xNot, xT, xF, xCall, xCons, xNil, xB, xV, List.getElem?_cons_succ, List.getElem?_cons_zero, Rs.bind_ok, i1, ro, e, OD.toD, if_true, Bool.not_true])
  have hcl : clr [3] (⟨[some (.d v), some (.d v), none, none], μ⟩ : AS) = ⟨[some (.d v), some (.d v), none, none], μ⟩ := by simp [clr]
  have hI : xR1 (xCons (xG gLen (xCons (xV 1) xNil)) xNil) ⟨[some (.d v), some (.d v), none, none], μ⟩ = .ok ((List.range xs.length).map fun i => D.int (0 + (i : Nat))) ⟨[some (.d v), some (.d v), none, none], μ⟩ := by
    exact xR1_len (by simp only [xCons, xNil, xG, xV, List.getElem?_cons_succ, List.getElem?_cons_zero, Rs.bind_ok, hlen]) (by omega)
  have hx : xF (xComp [3] (xR1 (xCons (xG gLen (xCons (xV 1) xNil)) xNil)) (.nm 3) (xNot (xT (xF (xCall same none (xCons (xB gIdx (xV 0) (xV 3)) (xCons (xB gIdx (xV 1) (xV 3)) xNil)))))) (xV 3)) ⟨[some (.d v), some (.d v), none, none], μ⟩ = .ok (.lst []) ⟨[some (.d v), some (.d v), none, none], μ⟩ := by
    rw [xF, xComp]
    simp only [hI, Rs.bind_ok, hcl, hc, toD_own]
  have h0 : ([] : List D).length ≤ sizeLine := by simp only [List.length_nil, Nat.zero_le]
  simp only [sRet, xU, xB, hx, xLst, xNil, Rs.bind_ok, h0, if_true, gEq_nil, Rs.out_ok]
theorem run_same : ∀ {n : Nat} {v : D} (μ : Option (List OD)), okV n v = true → f__law_same n [v, v] μ = .ok (.d (.bl true)) μ
  | 0, v, μ, h => by simp [okV] at h
  | n + 1, v, μ, h => by
    cases v with
    | lst xs =>
      simp only [okV, Bool.and_eq_true, decide_eq_true_eq, List.all_eq_true] at h
      exact run_same_seq (.inl rfl) h.1 fun x hx => run_same μ (h.2 x hx)
    | tup xs =>
      simp only [okV, Bool.and_eq_true, decide_eq_true_eq, List.all_eq_true] at h
      exact run_same_seq (.inr rfl) h.1 fun x hx => run_same μ (h.2 x hx)
    | non => rfl
    | bl b => cases b <;> rfl
    | int i => simp [f__law_same, M__law_same, D.tn, Tn.is, gIs, D.isNon, gEq_int, fnM, sNil, sSeq, sEx, sRet, sRetN, sIf, xgN, xgsNil, xgsCons, xgT, xgA, xgI, sAsg, xoNil, xoCons, sTup, sPar, sPar3, xApp, xI, xR1, xR2, sFor, xYes, xComp, xFst, xMeth, xMake, sRaise, sRaise0, clrO, endH, runH, muOut, sTry, xExF, xExI, xIsO, xLo, xAd, xMulO, xListO, xListOV, xComp0, xIV, xUn, xListR, xC, xV, xF, xU, xB, xT, xCh, xNil, xCons, xKw, xCall, xAnd, xOr, xNot, xAndV, xNotV, xIf, xLst, xTup, xLstO, xP0, xP1, xSl, xG, xIs, xFld, xLv, xLf, xLi, xGV, xB1, xB2, Rs.out, Rs.bind, ro, frz, OD.toD, setO, nodeAt, setNode, getP, setP, viewD, allOf, unD, adopt]
    | str s => simp [f__law_same, M__law_same, D.tn, Tn.is, gIs, D.isNon, gEq_str, fnM, sNil, sSeq, sEx, sRet, sRetN, sIf, xgN, xgsNil, xgsCons, xgT, xgA, xgI, sAsg, xoNil, xoCons, sTup, sPar, sPar3, xApp, xI, xR1, xR2, sFor, xYes, xComp, xFst, xMeth, xMake, sRaise, sRaise0, clrO, endH, runH, muOut, sTry, xExF, xExI, xIsO, xLo, xAd, xMulO, xListO, xListOV, xComp0, xIV, xUn, xListR, xC, xV, xF, xU, xB, xT, xCh, xNil, xCons, xKw, xCall, xAnd, xOr, xNot, xAndV, xNotV, xIf, xLst, xTup, xLstO, xP0, xP1, xSl, xG, xIs, xFld, xLv, xLf, xLi, xGV, xB1, xB2, Rs.out, Rs.bind, ro, frz, OD.toD, setO, nodeAt, setNode, getP, setP, viewD, allOf, unD, adopt]
    | dct kvs =>
      cases kvs with
      | nil => rfl
      | cons _ _ => simp [okV] at h
    | _ => simp [okV] at h
end K75
end
section
set_option Elab.async false
set_option linter.all false
set_option maxRecDepth 100000
set_option maxHeartbeats 2000000
/-! the plain law, 10: a disk cut -/
namespace K75
open PySem PySem.Spec PyProof.Rows L2 Mi
theorem make_ok {c : Str} {m : Mf} {ix : Option (List Nat)} {A : XA} {S S' : AS} {xs : List D} {μ μ' : List OD} (ha : A S = .ok xs S') (hμ : S'.μ = some μ) (hm : m (ro ix (.obj μ.length :: xs)) (some (μ ++ [.ins c []])) = .ok (.d .non) (some μ')) :
    xMake c m ix A S = .ok (.d (.obj μ.length)) ⟨S'.v, some μ'⟩ := by
  unfold xMake
  simp only [ha, Rs.bind_ok, hμ, hm]
theorem set_last {α : Type} (l : List α) (a b : α) : (l ++ [a]).set l.length b = l ++ [b] := by simp
theorem get_last {α : Type} (l : List α) (a : α) : (l ++ [a])[l.length]? = some a := by simp
theorem get_old {α : Type} {l : List α} {n : Nat} {x : α} (h : l[n]? = some x) (a : α) : (l ++ [a])[n]? = some x := by
  rw [List.getElem?_append_left (List.getElem?_eq_some_iff.mp h).1]; exact h
/-- the lasting texts behind some loose writes -/
def done (wr : List (Nat × Str)) : List Str → List Int → List Str
  | L, [] => L
  | L, i :: r => done wr (match wr[i.toNat]? with | some (p, t) => L.set p t | none => L) r
theorem done_len {wr : List (Nat × Str)} : ∀ {L : List Str} {ns : List Int}, (done wr L ns).length = L.length
  | _, [] => rfl
  | L, i :: r => by
    unfold done
    rw [done_len]
    split <;> simp
abbrev cutBody : XS := (sSeq (sAsg (xU (xB1 gIdx (xLf ["Disk"] "written" (xV 0)) (xV 3))) (xgT 2 (xgsCons (xgN false 4) (xgsCons (xgN false 5) xgsNil)))) (sAsg (xU (xV 5)) (xgI false (xLf ["Disk"] "lasting" (xV 2)) (xV 4))))
theorem cut_turn {o f : Ow} {n : Nat} {i : Int} {μ : List OD} {x : D} {b c : Option OD} (hn : μ[n]? = some (node o)) (hi : 0 ≤ i ∧ i < o.wr.length) (hr : ∀ p ∈ o.wr, p.1 < f.las.length) :
    ∃ b' c', cutBody ⟨[some (.d (.obj n)), some (.d x), some (.d (.obj μ.length)), some (.d (.int i)), b, c], some (μ ++ [node f])⟩ = .nx ⟨[some (.d (.obj n)), some (.d x), some (.d (.obj μ.length)), some (.d (.int i)), b', c'], some (μ ++ [node { f with las := done o.wr f.las [i] }])⟩ := by
  obtain ⟨k, rfl⟩ : ∃ k : Nat, i = k := ⟨i.toNat, by omega⟩
  have hk : k < o.wr.length := by omega
  obtain ⟨p, t, hw⟩ : ∃ p t, o.wr[k] = (p, t) := ⟨_, _, rfl⟩
  have hw' : o.wr[k]? = some (p, t) := by rw [List.getElem?_eq_getElem hk, hw]
  have hp : p < f.las.length := hr (p, t) (by rw [← hw]; exact List.getElem_mem hk)
  refine ⟨some (.d (.int p)), some (.d (.str t)), ?_⟩
  have hn2 : (μ ++ [OD.ins "Disk" (flds f)])[n]? = some (OD.ins "Disk" (flds o)) := get_old hn _
  have hv := viewWr o.wr
  have hg : gIdx (.lst (o.wr.map wrD)) (.int k) = some (.tup [.int p, .str t]) := by
    show atI (o.wr.map wrD) (k : Int) = _
    rw [atI_nat (by simpa using hk)]
    simp [hw, wrD]
  refine seq_nx (S' := ⟨[some (.d (.obj n)), some (.d x), some (.d (.obj μ.length)), some (.d (.int k)), some (.d (.int p)), some (.d (.str t))], some (μ ++ [node f])⟩) ?_ ?_
  · have h6 : ∀ a : Option OD, 4 < ([some (.d (.obj n)), some (.d x), some (.d (.obj μ.length)), some (.d (.int k)), a, c] : List (Option OD)).length := fun a => by show 4 < 6; decide
    have h7 : ∀ a : Option OD, 5 < ([some (.d (.obj n)), some (.d x), some (.d (.obj μ.length)), some (.d (.int k)), a, c] : List (Option OD)).length := fun a => by show 5 < 6; decide
    have hwr := lk_wr o
    simp only [sAsg, xU, xB1, xLf, xV, xgT, xgsCons, xgsNil, xgN, frz, OD.toD, Option.map_some, List.getElem?_cons_succ, List.getElem?_cons_zero, Rs.bind_ok, Rs.out_ok, nodeAt, hn2, node, hDisk, hwr, Option.isSome_some, and_self, if_true, getP, Option.bind_some, hv, hg, List.length_cons, List.length_nil, List.map_cons, List.map_nil, Bool.false_eq_true, if_false]
    rfl
  · have hlas := lk_las f
    have hix : ixN (f.las.map fun s => OD.d (.str s)).length (p : Int) = some p := by
      have : (p : Int) < (f.las.map fun s => OD.d (.str s)).length := by rw [List.length_map]; omega
      simp only [ixN, this, if_true]
      simp
    have hpl : p < (f.las.map fun s => OD.d (.str s)).length := by simpa using hp
    have hpf := pf_las f (f.las.set p t)
    simp only [txs] at hpf hlas
    have hd : done o.wr f.las [(k : Int)] = f.las.set p t := by simp [done, hw']
    have gl := get_last μ (OD.ins "Disk" (flds f))
    rw [hd]
    simp only [sAsg, xU, xV, xgI, frz, xLf, OD.toD, Option.map_some, List.getElem?_cons_succ, List.getElem?_cons_zero, Rs.bind_ok, Rs.out_ok, nodeAt, gl, node, hDisk, hlas, Option.isSome_some, and_self, if_true, getP, hix, hpl, setP, setNode, set_last, set_txs, hpf, Bool.false_eq_true, if_false]
theorem cut_loop {o : Ow} {n : Nat} {μ : List OD} {x : D} (hn : μ[n]? = some (node o)) : ∀ {ns : List Int} {f : Ow} {a b c : Option OD}, (∀ i ∈ ns, 0 ≤ i ∧ i < o.wr.length) → (∀ p ∈ o.wr, p.1 < f.las.length) →
    ∃ a' b' c', sForL (xgN false 3) cutBody (ns.map .int) ⟨[some (.d (.obj n)), some (.d x), some (.d (.obj μ.length)), a, b, c], some (μ ++ [node f])⟩ = .nx ⟨[some (.d (.obj n)), some (.d x), some (.d (.obj μ.length)), a', b', c'], some (μ ++ [node { f with las := done o.wr f.las ns }])⟩
  | [], f, a, b, c, _, _ => ⟨a, b, c, rfl⟩
  | i :: ns, f, a, b, c, h1, h2 => by
    obtain ⟨b1, c1, e1⟩ := cut_turn (x := x) (b := b) (c := c) hn (h1 i List.mem_cons_self) h2
    obtain ⟨a', b', c', e2⟩ := cut_loop (x := x) (ns := ns) (f := { f with las := done o.wr f.las [i] }) (a := some (.d (.int i))) (b := b1) (c := c1) hn (fun j hj => h1 j (List.mem_cons_of_mem _ hj)) (fun p hp => by rw [done_len]; exact h2 p hp)
    refine ⟨a', b', c', ?_⟩
    have hg : xgN false 3 (.d (.int i)) ⟨[some (.d (.obj n)), some (.d x), some (.d (.obj μ.length)), a, b, c], some (μ ++ [node f])⟩ = .ok () ⟨[some (.d (.obj n)), some (.d x), some (.d (.obj μ.length)), some (.d (.int i)), b, c], some (μ ++ [node f])⟩ := rfl
    rw [List.map_cons, sForL]
    simp only [hg, Rs.out_ok, e1, e2]
    rfl
end K75
end
section
set_option Elab.async false
set_option linter.all false
set_option maxRecDepth 100000
set_option maxHeartbeats 2000000
/-! the plain law, 11: cut -/
namespace K75
open PySem PySem.Spec PyProof.Rows L2 Mi
theorem cut_test {x : D} {o : Ow} {n : Nat} {μ : List OD} {b : Bool} (hn : μ[n]? = some (node o)) (e : f_are_places [x, .int o.wr.length] (some μ) = .ok (.d (.bl b)) (some μ)) :
    xNot (xT (xF (xCall f_are_places none (xCons (xV 1) (xCons (xGV gLen (xLf ["Disk"] "written" (xV 0))) xNil))))) ⟨[some (.d (.obj n)), some (.d x), none, none, none, none], some μ⟩ = .ok (!b) ⟨[some (.d (.obj n)), some (.d x), none, none, none, none], some μ⟩ := by
  have hv := viewWr o.wr
  have hl : gLen [D.lst (o.wr.map wrD)] = some (.int o.wr.length) := by simp [gLen]
  have hwr := lk_wr o
  have hf : xGV gLen (xLf ["Disk"] "written" (xV 0)) ⟨[some (.d (.obj n)), some (.d x), none, none, none, none], some μ⟩ = .ok (.int o.wr.length) ⟨[some (.d (.obj n)), some (.d x), none, none, none, none], some μ⟩ := by
    simp only [xGV, xLf, xV, List.getElem?_cons_zero, Rs.bind_ok, nodeAt, hn, node, hDisk, hwr, Option.isSome_some, and_self, if_true, getP, Option.bind_some, hv, hl]
  simp only [xNot, xT, xF, xCall, xCons, xNil, xV, hf, List.getElem?_cons_succ, List.getElem?_cons_zero, Rs.bind_ok, ro, e, OD.toD, if_true]
theorem run_cut_no {x : D} {o : Ow} {n : Nat} {μ : List OD} (hn : μ[n]? = some (node o)) (e : f_are_places [x, .int o.wr.length] (some μ) = .ok (.d (.bl false)) (some μ)) : f_Disk_cut [.obj n, x] (some μ) = .ex "InvalidDone" [("given", x)] (some μ) := by
  refine fn_ex (S := ⟨[some (.d (.obj n)), some (.d x), none, none, none, none], some μ⟩) rfl ?_
  show M_Disk_cut ⟨[some (.d (.obj n)), some (.d x), none, none, none, none], some μ⟩ = _
  unfold M_Disk_cut
  refine seq_ex (if_t (cut_test hn e) ?_)
  simp only [sRaise, xV, List.getElem?_cons_succ, List.getElem?_cons_zero, Rs.out_ok]
def cutO (o : Ow) (ns : List Int) : Ow := ⟨o.pages, o.width, done o.wr o.las ns, done o.wr o.las ns, [], none⟩
theorem run_cut {x : D} {ns : List Int} {o : Ow} {n : Nat} {μ : List OD} (hn : μ[n]? = some (node o)) (ok : Ok o) (hs : Seq x (ns.map .int)) (hl : ns.length ≤ 1000000) (hb : ∀ i ∈ ns, 0 ≤ i ∧ i < o.wr.length) (hi : incr ns = true) :
    f_Disk_cut [.obj n, x] (some μ) = .ok (.d (.obj μ.length)) (some (μ ++ [node (cutO o ns)])) := by
  have e := run_places (m := o.wr.length) hs hl hb (some μ)
  rw [hi] at e
  obtain ⟨_, _, hit⟩ := seq_pl hs
  let f1 : Ow := fresh o.pages o.width
  let f2 : Ow := { f1 with las := o.las }
  obtain ⟨a', b', c', eL⟩ := cut_loop (x := x) (ns := ns) (f := f2) (a := none) (b := none) (c := none) hn hb (fun p hp => by show p.1 < o.las.length; rw [ok.l]; exact ok.r p hp)
  refine fn_rt (S := ⟨[some (.d (.obj n)), some (.d x), some (.d (.obj μ.length)), a', b', c'], some (μ ++ [node (cutO o ns)])⟩) rfl ?_
  show M_Disk_cut ⟨[some (.d (.obj n)), some (.d x), none, none, none, none], some μ⟩ = _
  unfold M_Disk_cut
  refine seq_nx (if_f (cut_test hn e) rfl) ?_
  refine seq_nx (S' := ⟨[some (.d (.obj n)), some (.d x), some (.d (.obj μ.length)), none, none, none], some (μ ++ [node f1])⟩) ?_ ?_
  · have hm := run_init (p := o.pages) (w := o.width) (n := μ.length) (μ := μ ++ [.ins "Disk" []]) (get_last _ _) ⟨ok.p1, ok.p2⟩ ⟨ok.w1, ok.w2⟩
    rw [set_last] at hm
    have hp : xFld ["Disk"] "pages" (xV 0) ⟨[some (.d (.obj n)), some (.d x), none, none, none, none], some μ⟩ = .ok (.int o.pages) ⟨[some (.d (.obj n)), some (.d x), none, none, none, none], some μ⟩ := by
      simp only [xFld, xV, List.getElem?_cons_zero, Rs.bind_ok, nodeAt, hn, node, lk_pages, hDisk, if_true]
    have hw : xFld ["Disk"] "width" (xV 0) ⟨[some (.d (.obj n)), some (.d x), none, none, none, none], some μ⟩ = .ok (.int o.width) ⟨[some (.d (.obj n)), some (.d x), none, none, none, none], some μ⟩ := by
      simp only [xFld, xV, List.getElem?_cons_zero, Rs.bind_ok, nodeAt, hn, node, lk_width, hDisk, if_true]
    have hk := make_ok (c := "Disk") (m := f_Disk___init__) (ix := none) (A := xCons (xFld ["Disk"] "pages" (xV 0)) (xCons (xFld ["Disk"] "width" (xV 0)) xNil)) (S := ⟨[some (.d (.obj n)), some (.d x), none, none, none, none], some μ⟩) (S' := ⟨[some (.d (.obj n)), some (.d x), none, none, none, none], some μ⟩) (xs := [.int o.pages, .int o.width]) (by simp only [xCons, xNil, hp, hw, Rs.bind_ok]) rfl hm
    simp only [sAsg, xU, xF, hk, Rs.bind_ok, OD.toD, Rs.out_ok]
    rfl
  refine seq_nx (S' := ⟨[some (.d (.obj n)), some (.d x), some (.d (.obj μ.length)), none, none, none], some (μ ++ [node f2])⟩) ?_ ?_
  · have hn2 : (μ ++ [OD.ins "Disk" (flds f1)])[n]? = some (OD.ins "Disk" (flds o)) := get_old hn _
    have gl := get_last μ (OD.ins "Disk" (flds f1))
    have hlas := lk_las o
    have hv := viewTx o.las
    have hm : ((o.las.map D.str).map OD.d) = o.las.map fun s => OD.d (.str s) := by rw [List.map_map]; rfl
    have hpf : pf "lasting" (.own (o.las.map fun s => OD.d (.str s))) (flds f1) = flds f2 := pf_las f1 o.las
    have hlen := fl_len f1
    simp only [sAsg, xListOV, xLf, xV, List.getElem?_cons_succ, List.getElem?_cons_zero, Rs.bind_ok, Rs.out_ok, nodeAt, node, hn2, gl, hDisk, hlas, Option.isSome_some, and_self, if_true, getP, Option.bind_some, hv, gList1, hm, xgA, frz, setNode, Option.map_some, set_last, hpf, hlen]
  refine seq_nx (S' := ⟨[some (.d (.obj n)), some (.d x), some (.d (.obj μ.length)), a', b', c'], some (μ ++ [node { f2 with las := done o.wr f2.las ns }])⟩) ?_ ?_
  · have hx : xI (xV 1) ⟨[some (.d (.obj n)), some (.d x), some (.d (.obj μ.length)), none, none, none], some (μ ++ [node f2])⟩ = .ok (ns.map .int) ⟨[some (.d (.obj n)), some (.d x), some (.d (.obj μ.length)), none, none, none], some (μ ++ [node f2])⟩ := by
      simp only [xI, xV, List.getElem?_cons_succ, List.getElem?_cons_zero, Rs.bind_ok, hit]
    unfold sFor
    rw [hx]
    exact eL
  refine seq_nx (S' := ⟨[some (.d (.obj n)), some (.d x), some (.d (.obj μ.length)), a', b', c'], some (μ ++ [node (cutO o ns)])⟩) ?_ ?_
  · let f3 : Ow := { f2 with las := done o.wr o.las ns }
    show sAsg _ _ ⟨_, some (μ ++ [node f3])⟩ = _
    have gl := get_last μ (OD.ins "Disk" (flds f3))
    have hlas := lk_las f3
    have hv := viewTx f3.las
    have hm : ((f3.las.map D.str).map OD.d) = f3.las.map fun s => OD.d (.str s) := by rw [List.map_map]; rfl
    have hpf : pf "current" (.own (f3.las.map fun s => OD.d (.str s))) (flds f3) = flds (cutO o ns) := pf_cur f3 f3.las
    have hlen := fl_len f3
    simp only [sAsg, xListOV, xLf, xV, List.getElem?_cons_succ, List.getElem?_cons_zero, Rs.bind_ok, Rs.out_ok, nodeAt, node, gl, hDisk, hlas, Option.isSome_some, and_self, if_true, getP, Option.bind_some, hv, gList1, hm, xgA, frz, setNode, Option.map_some, set_last, hpf, hlen]
  · simp only [sRet, xU, xV, List.getElem?_cons_succ, List.getElem?_cons_zero, Rs.bind_ok, Rs.out_ok]
end K75
end
section
set_option Elab.async false
set_option linter.all false
set_option maxRecDepth 100000
set_option maxHeartbeats 2000000
/-! the plain law, 12: what is met -/
namespace K75
open PySem PySem.Spec PyProof.Rows L2 Mi
def HS : List Hd := [⟨[("InvalidPage", true), ("InvalidText", false), ("InvalidMany", false), ("InvalidDone", false), ("PowerCut", false)], some 4, fun n c fl => (sRet (xU (xLst (xCons (xC (.str "page")) (xCons (xExF 4 n ["InvalidPage"] "given" c fl) (xCons (xExI 4 n [("InvalidPage", true)] c) xNil))))))⟩, ⟨[("InvalidPage", false), ("InvalidText", true), ("InvalidMany", false), ("InvalidDone", false), ("PowerCut", false)], some 4, fun n c fl => (sRet (xU (xLst (xCons (xC (.str "text")) (xCons (xExF 4 n ["InvalidText"] "given" c fl) (xCons (xExI 4 n [("InvalidText", true)] c) xNil))))))⟩, ⟨[("InvalidPage", false), ("InvalidText", false), ("InvalidMany", true), ("InvalidDone", false), ("PowerCut", false)], some 4, fun n c fl => (sRet (xU (xLst (xCons (xC (.str "many")) (xCons (xExF 4 n ["InvalidMany"] "given" c fl) (xCons (xExI 4 n [("InvalidMany", true)] c) xNil))))))⟩, ⟨[("InvalidPage", false), ("InvalidText", false), ("InvalidMany", false), ("InvalidDone", true), ("PowerCut", false)], some 4, fun n c fl => (sRet (xU (xLst (xCons (xC (.str "done")) (xCons (xExF 4 n ["InvalidDone"] "given" c fl) (xCons (xExI 4 n [("InvalidDone", true)] c) xNil))))))⟩, ⟨[("InvalidPage", false), ("InvalidText", false), ("InvalidMany", false), ("InvalidDone", false), ("PowerCut", true)], some 4, fun n c fl => (sRet (xU (xLst (xCons (xC (.str "cut")) (xCons (xExI 4 n [("PowerCut", true)] c) xNil)))))⟩]
def BODY : XS := (sSeq (sIf (xT (xB gEq (xV 1) (xC (.str "text")))) (sRet (xU (xLst (xCons (xC (.str "told")) (xCons (xIf (xT (xV 3)) (xF (xMeth "Disk" "text" f_Disk_text (some [0, 1]) (xV 0) (xKw 0 1 xNil (xCons (xB gIdx (xV 2) (xC (.int 0))) xNil)))) (xF (xMeth "Disk" "text" f_Disk_text none (xV 0) (xCons (xB gIdx (xV 2) (xC (.int 0))) xNil)))) xNil))))) sNil)
 (sSeq (sIf (xT (xB gEq (xV 1) (xC (.str "write")))) (sRet (xU (xLst (xCons (xC (.str "told")) (xCons (xIf (xT (xV 3)) (xF (xMeth "Disk" "write" f_Disk_write (some [0, 2, 1]) (xV 0) (xKw 0 2 xNil (xCons (xB gIdx (xV 2) (xC (.int 1))) (xCons (xB gIdx (xV 2) (xC (.int 0))) xNil))))) (xF (xMeth "Disk" "write" f_Disk_write none (xV 0) (xCons (xB gIdx (xV 2) (xC (.int 0))) (xCons (xB gIdx (xV 2) (xC (.int 1))) xNil))))) xNil))))) sNil)
 (sSeq (sIf (xT (xB gEq (xV 1) (xC (.str "stop")))) (sRet (xU (xLst (xCons (xC (.str "told")) (xCons (xIf (xT (xV 3)) (xF (xMeth "Disk" "stop" f_Disk_stop (some [0, 1]) (xV 0) (xKw 0 1 xNil (xCons (xB gIdx (xV 2) (xC (.int 0))) xNil)))) (xF (xMeth "Disk" "stop" f_Disk_stop none (xV 0) (xCons (xB gIdx (xV 2) (xC (.int 0))) xNil)))) xNil))))) sNil)
 (sSeq (sIf (xT (xB gEq (xV 1) (xC (.str "cut")))) (sRet (xU (xLst (xCons (xC (.str "told")) (xCons (xIf (xT (xV 3)) (xF (xMeth "Disk" "cut" f_Disk_cut (some [0, 1]) (xV 0) (xKw 0 1 xNil (xCons (xB gIdx (xV 2) (xC (.int 0))) xNil)))) (xF (xMeth "Disk" "cut" f_Disk_cut none (xV 0) (xCons (xB gIdx (xV 2) (xC (.int 0))) xNil)))) xNil))))) sNil)
 (sRet (xU (xLst (xCons (xC (.str "told")) (xCons (xF (xMeth "Disk" "settle" f_Disk_settle none (xV 0) xNil)) xNil)))))))))
theorem met_eq : M__law_met = sTry BODY HS := rfl
theorem h_InvalidPage {a b c d : Option OD} {x : D} {μ : List OD} : runH HS "InvalidPage" [("given", x)] ⟨[a, b, c, d, none], some μ⟩ = .rt (.d (.lst [.str "page", x, .bl true])) ⟨[a, b, c, d, none], some (μ ++ [.d .exn])⟩ := by
  have k0 : List.lookup ("InvalidPage" : Str) [(("InvalidPage" : Str), true), (("InvalidText" : Str), false), (("InvalidMany" : Str), false), (("InvalidDone" : Str), false), (("PowerCut" : Str), false)] = some true := rfl
  have g1 : List.lookup ("given" : Str) [(("given" : Str), x)] = some x := rfl
  have g2 : (["InvalidPage"] : List Str).contains "InvalidPage" = true := by decide
  have g3 : List.lookup ("InvalidPage" : Str) [(("InvalidPage" : Str), true)] = some true := rfl
  have g4 : ([.str "page", x, .bl true] : List D).length ≤ sizeLine := by rw [sizeLine_eq]; show 3 ≤ 16777216; decide
  simp only [HS, runH, k0, endH, clrO, setO, Option.elim, xExF, xExI, sRet, xU, xLst, xCons, xNil, xC, List.set_cons_succ, List.set_cons_zero, List.getElem?_cons_succ, List.getElem?_cons_zero, and_self, if_true, g1, g2, g3, g4, Rs.bind_ok, Rs.out_ok]
theorem h_InvalidText {a b c d : Option OD} {x : D} {μ : List OD} : runH HS "InvalidText" [("given", x)] ⟨[a, b, c, d, none], some μ⟩ = .rt (.d (.lst [.str "text", x, .bl true])) ⟨[a, b, c, d, none], some (μ ++ [.d .exn])⟩ := by
  have k0 : List.lookup ("InvalidText" : Str) [(("InvalidPage" : Str), true), (("InvalidText" : Str), false), (("InvalidMany" : Str), false), (("InvalidDone" : Str), false), (("PowerCut" : Str), false)] = some false := rfl
  have k1 : List.lookup ("InvalidText" : Str) [(("InvalidPage" : Str), false), (("InvalidText" : Str), true), (("InvalidMany" : Str), false), (("InvalidDone" : Str), false), (("PowerCut" : Str), false)] = some true := rfl
  have g1 : List.lookup ("given" : Str) [(("given" : Str), x)] = some x := rfl
  have g2 : (["InvalidText"] : List Str).contains "InvalidText" = true := by decide
  have g3 : List.lookup ("InvalidText" : Str) [(("InvalidText" : Str), true)] = some true := rfl
  have g4 : ([.str "text", x, .bl true] : List D).length ≤ sizeLine := by rw [sizeLine_eq]; show 3 ≤ 16777216; decide
  simp only [HS, runH, k0, k1, endH, clrO, setO, Option.elim, xExF, xExI, sRet, xU, xLst, xCons, xNil, xC, List.set_cons_succ, List.set_cons_zero, List.getElem?_cons_succ, List.getElem?_cons_zero, and_self, if_true, g1, g2, g3, g4, Rs.bind_ok, Rs.out_ok]
theorem h_InvalidMany {a b c d : Option OD} {x : D} {μ : List OD} : runH HS "InvalidMany" [("given", x)] ⟨[a, b, c, d, none], some μ⟩ = .rt (.d (.lst [.str "many", x, .bl true])) ⟨[a, b, c, d, none], some (μ ++ [.d .exn])⟩ := by
  have k0 : List.lookup ("InvalidMany" : Str) [(("InvalidPage" : Str), true), (("InvalidText" : Str), false), (("InvalidMany" : Str), false), (("InvalidDone" : Str), false), (("PowerCut" : Str), false)] = some false := rfl
  have k1 : List.lookup ("InvalidMany" : Str) [(("InvalidPage" : Str), false), (("InvalidText" : Str), true), (("InvalidMany" : Str), false), (("InvalidDone" : Str), false), (("PowerCut" : Str), false)] = some false := rfl
  have k2 : List.lookup ("InvalidMany" : Str) [(("InvalidPage" : Str), false), (("InvalidText" : Str), false), (("InvalidMany" : Str), true), (("InvalidDone" : Str), false), (("PowerCut" : Str), false)] = some true := rfl
  have g1 : List.lookup ("given" : Str) [(("given" : Str), x)] = some x := rfl
  have g2 : (["InvalidMany"] : List Str).contains "InvalidMany" = true := by decide
  have g3 : List.lookup ("InvalidMany" : Str) [(("InvalidMany" : Str), true)] = some true := rfl
  have g4 : ([.str "many", x, .bl true] : List D).length ≤ sizeLine := by rw [sizeLine_eq]; show 3 ≤ 16777216; decide
  simp only [HS, runH, k0, k1, k2, endH, clrO, setO, Option.elim, xExF, xExI, sRet, xU, xLst, xCons, xNil, xC, List.set_cons_succ, List.set_cons_zero, List.getElem?_cons_succ, List.getElem?_cons_zero, and_self, if_true, g1, g2, g3, g4, Rs.bind_ok, Rs.out_ok]
theorem h_InvalidDone {a b c d : Option OD} {x : D} {μ : List OD} : runH HS "InvalidDone" [("given", x)] ⟨[a, b, c, d, none], some μ⟩ = .rt (.d (.lst [.str "done", x, .bl true])) ⟨[a, b, c, d, none], some (μ ++ [.d .exn])⟩ := by
  have k0 : List.lookup ("InvalidDone" : Str) [(("InvalidPage" : Str), true), (("InvalidText" : Str), false), (("InvalidMany" : Str), false), (("InvalidDone" : Str), false), (("PowerCut" : Str), false)] = some false := rfl
  have k1 : List.lookup ("InvalidDone" : Str) [(("InvalidPage" : Str), false), (("InvalidText" : Str), true), (("InvalidMany" : Str), false), (("InvalidDone" : Str), false), (("PowerCut" : Str), false)] = some false := rfl
  have k2 : List.lookup ("InvalidDone" : Str) [(("InvalidPage" : Str), false), (("InvalidText" : Str), false), (("InvalidMany" : Str), true), (("InvalidDone" : Str), false), (("PowerCut" : Str), false)] = some false := rfl
  have k3 : List.lookup ("InvalidDone" : Str) [(("InvalidPage" : Str), false), (("InvalidText" : Str), false), (("InvalidMany" : Str), false), (("InvalidDone" : Str), true), (("PowerCut" : Str), false)] = some true := rfl
  have g1 : List.lookup ("given" : Str) [(("given" : Str), x)] = some x := rfl
  have g2 : (["InvalidDone"] : List Str).contains "InvalidDone" = true := by decide
  have g3 : List.lookup ("InvalidDone" : Str) [(("InvalidDone" : Str), true)] = some true := rfl
  have g4 : ([.str "done", x, .bl true] : List D).length ≤ sizeLine := by rw [sizeLine_eq]; show 3 ≤ 16777216; decide
  simp only [HS, runH, k0, k1, k2, k3, endH, clrO, setO, Option.elim, xExF, xExI, sRet, xU, xLst, xCons, xNil, xC, List.set_cons_succ, List.set_cons_zero, List.getElem?_cons_succ, List.getElem?_cons_zero, and_self, if_true, g1, g2, g3, g4, Rs.bind_ok, Rs.out_ok]
theorem h_PowerCut {a b c d : Option OD} {μ : List OD} : runH HS "PowerCut" [] ⟨[a, b, c, d, none], some μ⟩ = .rt (.d (.lst [.str "cut", .bl true])) ⟨[a, b, c, d, none], some (μ ++ [.d .exn])⟩ := by
  have k0 : List.lookup ("PowerCut" : Str) [(("InvalidPage" : Str), true), (("InvalidText" : Str), false), (("InvalidMany" : Str), false), (("InvalidDone" : Str), false), (("PowerCut" : Str), false)] = some false := rfl
  have k1 : List.lookup ("PowerCut" : Str) [(("InvalidPage" : Str), false), (("InvalidText" : Str), true), (("InvalidMany" : Str), false), (("InvalidDone" : Str), false), (("PowerCut" : Str), false)] = some false := rfl
  have k2 : List.lookup ("PowerCut" : Str) [(("InvalidPage" : Str), false), (("InvalidText" : Str), false), (("InvalidMany" : Str), true), (("InvalidDone" : Str), false), (("PowerCut" : Str), false)] = some false := rfl
  have k3 : List.lookup ("PowerCut" : Str) [(("InvalidPage" : Str), false), (("InvalidText" : Str), false), (("InvalidMany" : Str), false), (("InvalidDone" : Str), true), (("PowerCut" : Str), false)] = some false := rfl
  have k4 : List.lookup ("PowerCut" : Str) [(("InvalidPage" : Str), false), (("InvalidText" : Str), false), (("InvalidMany" : Str), false), (("InvalidDone" : Str), false), (("PowerCut" : Str), true)] = some true := rfl
  have g1 : List.lookup ("given" : Str) ([] : List (Str × D)) = none := rfl
  have g2 : (["PowerCut"] : List Str).contains "PowerCut" = true := by decide
  have g3 : List.lookup ("PowerCut" : Str) [(("PowerCut" : Str), true)] = some true := rfl
  have g4 : ([.str "cut", .bl true] : List D).length ≤ sizeLine := by rw [sizeLine_eq]; show 2 ≤ 16777216; decide
  simp only [HS, runH, k0, k1, k2, k3, k4, endH, clrO, setO, Option.elim, xExF, xExI, sRet, xU, xLst, xCons, xNil, xC, List.set_cons_succ, List.set_cons_zero, List.getElem?_cons_succ, List.getElem?_cons_zero, and_self, if_true, g1, g2, g3, g4, Rs.bind_ok, Rs.out_ok]
/-- a try that ends -/
theorem try_rt {m : XS} {hs : List Hd} {S S' : AS} {x : OD} (h0 : S.μ.isSome = true) (h : m S = .rt x S') (h1 : S'.μ.isSome = true) : sTry m hs S = .rt x S' := by
  unfold sTry
  rw [if_pos h0, h]
  simp only [muOut, h1, if_true]
theorem try_ex {m : XS} {hs : List Hd} {S S' S2 : AS} {c : Str} {fl : List (Str × D)} {x : OD} (h0 : S.μ.isSome = true) (h : m S = .ex c fl S') (h2 : runH hs c fl S' = .rt x S2) (h1 : S2.μ.isSome = true) : sTry m hs S = .rt x S2 := by
  unfold sTry
  rw [if_pos h0, h]
  simp only [h2, muOut, h1, if_true]
end K75
end
section
set_option Elab.async false
set_option linter.all false
set_option maxRecDepth 100000
set_option maxHeartbeats 2000000
/-! the plain law, 13: what is met, word by word -/
namespace K75
open PySem PySem.Spec PyProof.Rows L2 Mi
theorem methI_ok {c mn : Str} {m : Mf} {ix : Option (List Nat)} {A0 : XD} {A : XA} {S S' : AS} {k : Nat} {fl : List (Str × OD)} {xs ys : List D} {r : D} {μ' : List OD} (h0 : A0 S = .ok (.obj k) S) (hn : nodeAt S k = some (.ins c fl)) (hf : fl.lookup mn = none) (ha : A S = .ok xs S') (hy : ro ix (.obj k :: xs) = ys) (hm : m ys S'.μ = .ok (.d r) (some μ')) (hs : S'.μ.isSome = true) :
    xF (xMeth c mn m ix A0 A) S = .ok r ⟨S'.v, some μ'⟩ := by
  unfold xF xMeth xCall xFst
  simp only [h0, Rs.bind_ok, hn, hf, Option.isNone_none, and_self, if_true, ha, hy, hm, hs, Option.isSome_some, OD.toD]
theorem methI_ex {c mn : Str} {m : Mf} {ix : Option (List Nat)} {A0 : XD} {A : XA} {S S' : AS} {k : Nat} {fl : List (Str × OD)} {xs ys : List D} {cc : Str} {efl : List (Str × D)} {μ' : List OD} (h0 : A0 S = .ok (.obj k) S) (hn : nodeAt S k = some (.ins c fl)) (hf : fl.lookup mn = none) (ha : A S = .ok xs S') (hy : ro ix (.obj k :: xs) = ys) (hm : m ys S'.μ = .ex cc efl (some μ')) (hs : S'.μ.isSome = true) :
    xF (xMeth c mn m ix A0 A) S = .ex cc efl ⟨S'.v, some μ'⟩ := by
  unfold xF xMeth xCall xFst
  simp only [h0, Rs.bind_ok, hn, hf, Option.isNone_none, and_self, if_true, ha, hy, hm, hs, Option.isSome_some, Rs.bind_ex]
theorem told_ok {A : XD} {S S' : AS} {r : D} (h : A S = .ok r S') : sRet (xU (xLst (xCons (xC (.str "told")) (xCons A xNil)))) S = .rt (.d (.lst [.str "told", r])) S' := by
  have g : ([D.str "told", r] : List D).length ≤ sizeLine := by rw [sizeLine_eq]; show 2 ≤ 16777216; decide
  simp only [sRet, xU, xLst, xCons, xNil, xC, h, Rs.bind_ok, g, if_true, Rs.out_ok]
theorem told_ex {A : XD} {S S' : AS} {c : Str} {fl : List (Str × D)} (h : A S = .ex c fl S') : sRet (xU (xLst (xCons (xC (.str "told")) (xCons A xNil)))) S = .ex c fl S' := by
  simp only [sRet, xU, xLst, xCons, xNil, xC, h, Rs.bind_ok, Rs.bind_ex, Rs.out_ex]
abbrev S0 (n : Nat) (w : Str) (g : List D) (b : Bool) (μ : List OD) : AS := ⟨[some (.d (.obj n)), some (.d (.str w)), some (.d (.lst g)), some (.d (.bl b)), none], some μ⟩
theorem tst {n : Nat} {w u : Str} {g : List D} {b : Bool} {μ : List OD} : xT (xB gEq (xV 1) (xC (.str u))) (S0 n w g b μ) = .ok (decide (w = u)) (S0 n w g b μ) := by
  simp only [xT, xB, xV, xC, List.getElem?_cons_succ, List.getElem?_cons_zero, Rs.bind_ok, gEq_str]
theorem tst_y {n : Nat} {w : Str} {g : List D} {b : Bool} {μ : List OD} : xT (xB gEq (xV 1) (xC (.str w))) (S0 n w g b μ) = .ok true (S0 n w g b μ) := by rw [tst]; simp
theorem tst_n {n : Nat} {w u : Str} {g : List D} {b : Bool} {μ : List OD} (h : w ≠ u) : xT (xB gEq (xV 1) (xC (.str u))) (S0 n w g b μ) = .ok false (S0 n w g b μ) := by rw [tst]; simp [h]
theorem if_by {A B : XD} {n : Nat} {w : Str} {g : List D} {b : Bool} {μ : List OD} {R : Rs D} (h1 : A (S0 n w g b μ) = R) (h2 : B (S0 n w g b μ) = R) : xIf (xT (xV 3)) A B (S0 n w g b μ) = R := by
  cases b <;> simp only [xIf, xT, xV, List.getElem?_cons_succ, List.getElem?_cons_zero, Rs.bind_ok, h1, h2]
theorem giv0 {n : Nat} {w : Str} {g : List D} {b : Bool} {μ : List OD} {x : D} (h : g[0]? = some x) : xB gIdx (xV 2) (xC (.int 0)) (S0 n w g b μ) = .ok x (S0 n w g b μ) := by
  have e : gIdx (.lst g) (.int 0) = some x := by
    show atI g 0 = _
    have hl : 0 < g.length := (List.getElem?_eq_some_iff.mp h).1
    have := atI_nat hl
    rw [show ((0 : Nat) : Int) = 0 from rfl] at this
    rw [this, ← List.getElem?_eq_getElem hl, h]
  simp only [xB, xV, xC, List.getElem?_cons_succ, List.getElem?_cons_zero, Rs.bind_ok, e]
theorem giv1 {n : Nat} {w : Str} {g : List D} {b : Bool} {μ : List OD} {x : D} (h : g[1]? = some x) : xB gIdx (xV 2) (xC (.int 1)) (S0 n w g b μ) = .ok x (S0 n w g b μ) := by
  have e : gIdx (.lst g) (.int 1) = some x := by
    show atI g 1 = _
    have hl : 1 < g.length := (List.getElem?_eq_some_iff.mp h).1
    have := atI_nat hl
    rw [show ((1 : Nat) : Int) = 1 from rfl] at this
    rw [this, ← List.getElem?_eq_getElem hl, h]
  simp only [xB, xV, xC, List.getElem?_cons_succ, List.getElem?_cons_zero, Rs.bind_ok, e]
theorem kw1 {A : XD} {S : AS} {x : D} (h : A S = .ok x S) : xKw 0 1 xNil (xCons A xNil) S = .ok [x] S := by
  simp [xKw, xCons, xNil, h]
theorem kw2 {A B : XD} {S : AS} {x y : D} (h : A S = .ok x S) (h2 : B S = .ok y S) : xKw 0 2 xNil (xCons A (xCons B xNil)) S = .ok [x, y] S := by
  simp [xKw, xCons, xNil, h, h2]
theorem pos1 {A : XD} {S : AS} {x : D} (h : A S = .ok x S) : xCons A xNil S = .ok [x] S := by
  simp only [xCons, xNil, h, Rs.bind_ok]
theorem pos2 {A B : XD} {S : AS} {x y : D} (h : A S = .ok x S) (h2 : B S = .ok y S) : xCons A (xCons B xNil) S = .ok [x, y] S := by
  simp only [xCons, xNil, h, h2, Rs.bind_ok]
section
variable {n : Nat} {o : Ow} {μ μ' : List OD} {x y r : D} {b : Bool} {c : Str} {fl : List (Str × D)}
theorem body_text (hn : μ[n]? = some (node o)) (h : f_Disk_text [.obj n, x] (some μ) = .ok (.d r) (some μ')) : BODY (S0 n "text" [x] b μ) = .rt (.d (.lst [.str "told", r])) (S0 n "text" [x] b μ') := by
  unfold BODY
  exact seq_rt (if_t tst_y (told_ok (if_by (methI_ok (S' := S0 n "text" [x] b μ) rfl hn (no_text o) (kw1 (giv0 rfl)) rfl h rfl) (methI_ok (S' := S0 n "text" [x] b μ) rfl hn (no_text o) (pos1 (giv0 rfl)) rfl h rfl))))
theorem body_text_ex (hn : μ[n]? = some (node o)) (h : f_Disk_text [.obj n, x] (some μ) = .ex c fl (some μ')) : BODY (S0 n "text" [x] b μ) = .ex c fl (S0 n "text" [x] b μ') := by
  unfold BODY
  exact seq_ex (if_t tst_y (told_ex (if_by (methI_ex (S' := S0 n "text" [x] b μ) rfl hn (no_text o) (kw1 (giv0 rfl)) rfl h rfl) (methI_ex (S' := S0 n "text" [x] b μ) rfl hn (no_text o) (pos1 (giv0 rfl)) rfl h rfl))))
end
end K75
end
section
set_option Elab.async false
set_option linter.all false
set_option maxRecDepth 100000
set_option maxHeartbeats 2000000
/-! the plain law, 14: what is met: write, stop, cut, settle; met -/
namespace K75
open PySem PySem.Spec PyProof.Rows L2 Mi
theorem nx_f {T : XT} {a m : XS} {S : AS} {R : Out} (h : T S = .ok false S) (h2 : m S = R) : sSeq (sIf T a sNil) m S = R := seq_nx (if_f h rfl) h2
section
variable {n : Nat} {o : Ow} {μ μ' : List OD} {x y r : D} {b : Bool} {c : Str} {fl : List (Str × D)}
theorem body_write (hn : μ[n]? = some (node o)) (h : f_Disk_write [.obj n, x, y] (some μ) = .ok (.d r) (some μ')) : BODY (S0 n "write" [x, y] b μ) = .rt (.d (.lst [.str "told", r])) (S0 n "write" [x, y] b μ') := by
  unfold BODY
  exact nx_f (tst_n (by decide)) (seq_rt (if_t tst_y (told_ok (if_by (methI_ok (S' := S0 n "write" [x, y] b μ) rfl hn (no_write o) (kw2 (giv1 rfl) (giv0 rfl)) rfl h rfl) (methI_ok (S' := S0 n "write" [x, y] b μ) rfl hn (no_write o) (pos2 (giv0 rfl) (giv1 rfl)) rfl h rfl)))))
theorem body_write_ex (hn : μ[n]? = some (node o)) (h : f_Disk_write [.obj n, x, y] (some μ) = .ex c fl (some μ')) : BODY (S0 n "write" [x, y] b μ) = .ex c fl (S0 n "write" [x, y] b μ') := by
  unfold BODY
  exact nx_f (tst_n (by decide)) (seq_ex (if_t tst_y (told_ex (if_by (methI_ex (S' := S0 n "write" [x, y] b μ) rfl hn (no_write o) (kw2 (giv1 rfl) (giv0 rfl)) rfl h rfl) (methI_ex (S' := S0 n "write" [x, y] b μ) rfl hn (no_write o) (pos2 (giv0 rfl) (giv1 rfl)) rfl h rfl)))))
theorem body_stop (hn : μ[n]? = some (node o)) (h : f_Disk_stop [.obj n, x] (some μ) = .ok (.d r) (some μ')) : BODY (S0 n "stop" [x] b μ) = .rt (.d (.lst [.str "told", r])) (S0 n "stop" [x] b μ') := by
  unfold BODY
  exact nx_f (tst_n (by decide)) (nx_f (tst_n (by decide)) (seq_rt (if_t tst_y (told_ok (if_by (methI_ok (S' := S0 n "stop" [x] b μ) rfl hn (no_stop o) (kw1 (giv0 rfl)) rfl h rfl) (methI_ok (S' := S0 n "stop" [x] b μ) rfl hn (no_stop o) (pos1 (giv0 rfl)) rfl h rfl))))))
theorem body_stop_ex (hn : μ[n]? = some (node o)) (h : f_Disk_stop [.obj n, x] (some μ) = .ex c fl (some μ')) : BODY (S0 n "stop" [x] b μ) = .ex c fl (S0 n "stop" [x] b μ') := by
  unfold BODY
  exact nx_f (tst_n (by decide)) (nx_f (tst_n (by decide)) (seq_ex (if_t tst_y (told_ex (if_by (methI_ex (S' := S0 n "stop" [x] b μ) rfl hn (no_stop o) (kw1 (giv0 rfl)) rfl h rfl) (methI_ex (S' := S0 n "stop" [x] b μ) rfl hn (no_stop o) (pos1 (giv0 rfl)) rfl h rfl))))))
theorem body_cut (hn : μ[n]? = some (node o)) (h : f_Disk_cut [.obj n, x] (some μ) = .ok (.d r) (some μ')) : BODY (S0 n "cut" [x] b μ) = .rt (.d (.lst [.str "told", r])) (S0 n "cut" [x] b μ') := by
  unfold BODY
  exact nx_f (tst_n (by decide)) (nx_f (tst_n (by decide)) (nx_f (tst_n (by decide)) (seq_rt (if_t tst_y (told_ok (if_by (methI_ok (S' := S0 n "cut" [x] b μ) rfl hn (no_cut o) (kw1 (giv0 rfl)) rfl h rfl) (methI_ok (S' := S0 n "cut" [x] b μ) rfl hn (no_cut o) (pos1 (giv0 rfl)) rfl h rfl)))))))
theorem body_cut_ex (hn : μ[n]? = some (node o)) (h : f_Disk_cut [.obj n, x] (some μ) = .ex c fl (some μ')) : BODY (S0 n "cut" [x] b μ) = .ex c fl (S0 n "cut" [x] b μ') := by
  unfold BODY
  exact nx_f (tst_n (by decide)) (nx_f (tst_n (by decide)) (nx_f (tst_n (by decide)) (seq_ex (if_t tst_y (told_ex (if_by (methI_ex (S' := S0 n "cut" [x] b μ) rfl hn (no_cut o) (kw1 (giv0 rfl)) rfl h rfl) (methI_ex (S' := S0 n "cut" [x] b μ) rfl hn (no_cut o) (pos1 (giv0 rfl)) rfl h rfl)))))))
theorem body_settle (hn : μ[n]? = some (node o)) (h : f_Disk_settle [.obj n] (some μ) = .ok (.d r) (some μ')) : BODY (S0 n "settle" [] b μ) = .rt (.d (.lst [.str "told", r])) (S0 n "settle" [] b μ') := by
  unfold BODY
  exact nx_f (tst_n (by decide)) (nx_f (tst_n (by decide)) (nx_f (tst_n (by decide)) (nx_f (tst_n (by decide)) (told_ok (methI_ok (S' := S0 n "settle" [] b μ) rfl hn (no_settle o) rfl rfl h rfl)))))
theorem body_settle_ex (hn : μ[n]? = some (node o)) (h : f_Disk_settle [.obj n] (some μ) = .ex c fl (some μ')) : BODY (S0 n "settle" [] b μ) = .ex c fl (S0 n "settle" [] b μ') := by
  unfold BODY
  exact nx_f (tst_n (by decide)) (nx_f (tst_n (by decide)) (nx_f (tst_n (by decide)) (nx_f (tst_n (by decide)) (told_ex (methI_ex (S' := S0 n "settle" [] b μ) rfl hn (no_settle o) rfl rfl h rfl)))))
theorem met_rt {w : Str} {g : List D} {r : D} (h : BODY (S0 n w g b μ) = .rt (.d r) (S0 n w g b μ')) : f__law_met [.obj n, .str w, .lst g, .bl b] (some μ) = .ok (.d r) (some μ') := by
  refine fn_rt (S := S0 n w g b μ') rfl ?_
  show M__law_met (S0 n w g b μ) = _
  rw [met_eq]
  exact try_rt rfl h rfl
theorem met_ex {w : Str} {g : List D} {r : D} (h : BODY (S0 n w g b μ) = .ex c fl (S0 n w g b μ')) (h2 : runH HS c fl (S0 n w g b μ') = .rt (.d r) (S0 n w g b (μ' ++ [.d .exn]))) : f__law_met [.obj n, .str w, .lst g, .bl b] (some μ) = .ok (.d r) (some (μ' ++ [.d .exn])) := by
  refine fn_rt (S := S0 n w g b (μ' ++ [.d .exn])) rfl ?_
  show M__law_met (S0 n w g b μ) = _
  rw [met_eq]
  exact try_ex rfl h h2 rfl
end
end K75
end
section
set_option Elab.async false
set_option linter.all false
set_option maxRecDepth 100000
set_option maxHeartbeats 2000000
/-! the plain law, 15: texts put -/
namespace K75
open PySem PySem.Spec PyProof.Rows L2 Mi
theorem sIx_le {n d p : Nat} (h : p ≤ n) : HT.sIx n d (some (p : Int)) = p := by
  rw [HT.sIx_nat]; omega
theorem cut_hi {xs : List D} {p : Nat} (h : p ≤ xs.length) : Mi.cutD xs none (some (p : Int)) = xs.take p := by
  unfold Mi.cutD
  rw [sIx_le h]
  simp [HT.sIx]
theorem cut_lo {xs : List D} {p : Nat} (h : p ≤ xs.length) : Mi.cutD xs (some (p : Int)) none = xs.drop p := by
  unfold Mi.cutD
  rw [sIx_le h]
  simp only [HT.sIx]
  exact List.take_of_length_le (by simp)
def txD (l : List Str) : D := .lst (l.map .str)
theorem gAdd_int (i j : Int) : gAdd (.int i) (.int j) = some (.int (i + j)) := rfl
theorem run_put {l : List Str} {p : Nat} {t : Str} {μ : Option (List OD)} (hp : p < l.length) (hl : l.length ≤ 1000) : f__law_put [txD l, .int p, .str t] μ = .ok (.d (txD (l.set p t))) μ := by
  refine fn_rt (S := ⟨[some (.d (txD l)), some (.d (.int p)), some (.d (.str t))], μ⟩) rfl ?_
  show M__law_put ⟨[some (.d (txD l)), some (.d (.int p)), some (.d (.str t))], μ⟩ = _
  unfold M__law_put
  have c1 := cut_hi (xs := l.map D.str) (p := p) (by simp; omega)
  have c2 := cut_lo (xs := l.map D.str) (p := p + 1) (by simp; omega)
  have e1 : ((p : Int) + 1) = ((p + 1 : Nat) : Int) := by omega
  have g1 : gSl (txD l) none (some (p : Int)) = some (.lst ((l.map D.str).take p)) := by show some (D.lst (Mi.cutD _ _ _)) = _; rw [c1]
  have g2 : gSl (txD l) (some ((p : Int) + 1)) none = some (.lst ((l.map D.str).drop (p + 1))) := by show some (D.lst (Mi.cutD _ _ _)) = _; rw [e1, c2]
  have h1 : ([D.str t] : List D).length ≤ sizeLine := by rw [sizeLine_eq]; show 1 ≤ 16777216; decide
  have a1 : gAdd (.lst ((l.map D.str).take p)) (.lst [.str t]) = some (.lst ((l.map D.str).take p ++ [.str t])) := by
    show (if _ then _ else _) = _
    rw [if_pos (by rw [sizeLine_eq]; simp; omega)]
  have a2 : gAdd (.lst ((l.map D.str).take p ++ [.str t])) (.lst ((l.map D.str).drop (p + 1))) = some (.lst ((l.map D.str).take p ++ [.str t] ++ (l.map D.str).drop (p + 1))) := by
    show (if _ then _ else _) = _
    rw [if_pos (by rw [sizeLine_eq]; simp; omega)]
  have e2 : (l.map D.str).take p ++ [.str t] ++ (l.map D.str).drop (p + 1) = (l.set p t).map .str := by
    rw [List.map_set, List.set_eq_take_append_cons_drop, if_pos (by simpa using hp)]
    simp
  rw [e2] at a2
  simp only [sRet, xU, xB, xSl, xP0, xP1, xV, xC, xLst, xCons, xNil, List.getElem?_cons_succ, List.getElem?_cons_zero, Rs.bind_ok, Rs.out_ok, g1, g2, gAdd_int, h1, if_true, a1, a2]
  rfl
end K75
end
section
set_option Elab.async false
set_option linter.all false
set_option maxRecDepth 100000
set_option maxHeartbeats 2000000
/-! the plain law, 16: disks made -/
namespace K75
open PySem PySem.Spec PyProof.Rows L2 Mi
def HM : List Hd := [⟨[("InvalidPages", true), ("InvalidWidth", false)], some 3, fun n c fl => (sRet (xU (xLst (xCons (xC (.str "pages")) (xCons (xExF 3 n ["InvalidPages"] "given" c fl) (xCons (xExI 3 n [("InvalidPages", true)] c) xNil))))))⟩, ⟨[("InvalidPages", false), ("InvalidWidth", true)], some 3, fun n c fl => (sRet (xU (xLst (xCons (xC (.str "width")) (xCons (xExF 3 n ["InvalidWidth"] "given" c fl) (xCons (xExI 3 n [("InvalidWidth", true)] c) xNil))))))⟩]
def BM : XS := (sRet (xU (xLst (xCons (xC (.str "told")) (xCons (xIf (xT (xV 2)) (xF (xMake "Disk" f_Disk___init__ (some [0, 2, 1]) (xKw 0 2 xNil (xCons (xV 1) (xCons (xV 0) xNil))))) (xF (xMake "Disk" f_Disk___init__ none (xCons (xV 0) (xCons (xV 1) xNil))))) xNil)))))
theorem made_eq : M__law_made = sTry BM HM := rfl
theorem h_InvalidPages {a b c : Option OD} {x : D} {μ : List OD} : runH HM "InvalidPages" [("given", x)] ⟨[a, b, c, none], some μ⟩ = .rt (.d (.lst [.str "pages", x, .bl true])) ⟨[a, b, c, none], some (μ ++ [.d .exn])⟩ := by
  have k0 : List.lookup ("InvalidPages" : Str) [(("InvalidPages" : Str), true), (("InvalidWidth" : Str), false)] = some true := rfl
  have g1 : List.lookup ("given" : Str) [(("given" : Str), x)] = some x := rfl
  have g2 : (["InvalidPages"] : List Str).contains "InvalidPages" = true := by decide
  have g3 : List.lookup ("InvalidPages" : Str) [(("InvalidPages" : Str), true)] = some true := rfl
  have g4 : ([.str "pages", x, .bl true] : List D).length ≤ sizeLine := by rw [sizeLine_eq]; show 3 ≤ 16777216; decide
  simp only [HM, runH, k0, endH, clrO, setO, Option.elim, xExF, xExI, sRet, xU, xLst, xCons, xNil, xC, List.set_cons_succ, List.set_cons_zero, List.getElem?_cons_succ, List.getElem?_cons_zero, and_self, if_true, g1, g2, g3, g4, Rs.bind_ok, Rs.out_ok]
theorem h_InvalidWidth {a b c : Option OD} {x : D} {μ : List OD} : runH HM "InvalidWidth" [("given", x)] ⟨[a, b, c, none], some μ⟩ = .rt (.d (.lst [.str "width", x, .bl true])) ⟨[a, b, c, none], some (μ ++ [.d .exn])⟩ := by
  have k0 : List.lookup ("InvalidWidth" : Str) [(("InvalidPages" : Str), true), (("InvalidWidth" : Str), false)] = some false := rfl
  have k1 : List.lookup ("InvalidWidth" : Str) [(("InvalidPages" : Str), false), (("InvalidWidth" : Str), true)] = some true := rfl
  have g1 : List.lookup ("given" : Str) [(("given" : Str), x)] = some x := rfl
  have g2 : (["InvalidWidth"] : List Str).contains "InvalidWidth" = true := by decide
  have g3 : List.lookup ("InvalidWidth" : Str) [(("InvalidWidth" : Str), true)] = some true := rfl
  have g4 : ([.str "width", x, .bl true] : List D).length ≤ sizeLine := by rw [sizeLine_eq]; show 3 ≤ 16777216; decide
  simp only [HM, runH, k0, k1, endH, clrO, setO, Option.elim, xExF, xExI, sRet, xU, xLst, xCons, xNil, xC, List.set_cons_succ, List.set_cons_zero, List.getElem?_cons_succ, List.getElem?_cons_zero, and_self, if_true, g1, g2, g3, g4, Rs.bind_ok, Rs.out_ok]
theorem mk_ok {c : Str} {m : Mf} {ix : Option (List Nat)} {A : XA} {S S' : AS} {xs ys : List D} {μ μ' : List OD} (ha : A S = .ok xs S') (hμ : S'.μ = some μ) (hy : ro ix (.obj μ.length :: xs) = ys) (hm : m ys (some (μ ++ [.ins c []])) = .ok (.d .non) (some μ')) :
    xF (xMake c m ix A) S = .ok (.obj μ.length) ⟨S'.v, some μ'⟩ := by
  unfold xF xMake
  simp only [ha, Rs.bind_ok, hμ, hy, hm, OD.toD]
theorem mk_ex {c : Str} {m : Mf} {ix : Option (List Nat)} {A : XA} {S S' : AS} {xs ys : List D} {μ μ' : List OD} {cc : Str} {fl : List (Str × D)} (ha : A S = .ok xs S') (hμ : S'.μ = some μ) (hy : ro ix (.obj μ.length :: xs) = ys) (hm : m ys (some (μ ++ [.ins c []])) = .ex cc fl (some μ')) :
    xF (xMake c m ix A) S = .ex cc fl ⟨S'.v, some μ'⟩ := by
  unfold xF xMake
  simp only [ha, Rs.bind_ok, hμ, hy, hm, Rs.bind_ex]
abbrev S1 (x y : D) (b : Bool) (μ : List OD) : AS := ⟨[some (.d x), some (.d y), some (.d (.bl b)), none], some μ⟩
theorem if_by2 {A B : XD} {x y : D} {b : Bool} {μ : List OD} {R : Rs D} (h1 : A (S1 x y b μ) = R) (h2 : B (S1 x y b μ) = R) : xIf (xT (xV 2)) A B (S1 x y b μ) = R := by
  cases b <;> simp only [xIf, xT, xV, List.getElem?_cons_succ, List.getElem?_cons_zero, Rs.bind_ok, h1, h2]
section
variable {μ μ' : List OD} {x y : D} {b : Bool} {c : Str} {fl : List (Str × D)}
theorem run_made (h : f_Disk___init__ [.obj μ.length, x, y] (some (μ ++ [.ins "Disk" []])) = .ok (.d .non) (some μ')) : f__law_made [x, y, .bl b] (some μ) = .ok (.d (.lst [.str "told", .obj μ.length])) (some μ') := by
  refine fn_rt (S := S1 x y b μ') rfl ?_
  show M__law_made (S1 x y b μ) = _
  rw [made_eq]
  refine try_rt rfl ?_ rfl
  unfold BM
  exact told_ok (if_by2 (mk_ok (S' := S1 x y b μ) (kw2 rfl rfl) rfl rfl h) (mk_ok (S' := S1 x y b μ) (pos2 rfl rfl) rfl rfl h))
theorem run_made_ex {r : D} (h : f_Disk___init__ [.obj μ.length, x, y] (some (μ ++ [.ins "Disk" []])) = .ex c fl (some μ')) (h2 : runH HM c fl (S1 x y b μ') = .rt (.d r) (S1 x y b (μ' ++ [.d .exn]))) : f__law_made [x, y, .bl b] (some μ) = .ok (.d r) (some (μ' ++ [.d .exn])) := by
  refine fn_rt (S := S1 x y b (μ' ++ [.d .exn])) rfl ?_
  show M__law_made (S1 x y b μ) = _
  rw [made_eq]
  refine try_ex rfl ?_ h2 rfl
  unfold BM
  exact told_ex (if_by2 (mk_ex (S' := S1 x y b μ) (kw2 rfl rfl) rfl rfl h) (mk_ex (S' := S1 x y b μ) (pos2 rfl rfl) rfl rfl h))
end
end K75
end
section
set_option Elab.async false
set_option linter.all false
set_option maxRecDepth 100000
set_option maxHeartbeats 2000000
/-! the plain law, 17: is_disk -/
namespace K75
open PySem PySem.Spec PyProof.Rows L2 Mi
def wrL (o : Ow) : D := .lst (o.wr.map wrD)
def ownD (o : Ow) : D := .lst [.int o.pages, .int o.width, txD o.cur, txD o.las, wrL o, lfD o.lf]
abbrev S2 (n : Nat) (o : Ow) (r : List Str) (μ : List OD) : AS := ⟨[some (.d (.obj n)), some (.d (ownD { o with las := r })), none, none], some μ⟩
section
variable {n : Nat} {o : Ow} {r : List Str} {μ : List OD}
theorem own0 : gIdx (ownD o) (.int 0) = some (.int o.pages) := rfl
theorem own1 : gIdx (ownD o) (.int 1) = some (.int o.width) := rfl
theorem own2 : gIdx (ownD o) (.int 2) = some (txD o.cur) := rfl
theorem own3 : gIdx (ownD o) (.int 3) = some (txD o.las) := rfl
theorem own4 : gIdx (ownD o) (.int 4) = some (wrL o) := rfl
theorem own5 : gIdx (ownD o) (.int 5) = some (lfD o.lf) := rfl
def pgs (o : Ow) : D := .lst (o.wr.map fun p => .int p.1)
theorem loose_v (hn : μ[n]? = some (node o)) (ok : Ok o) : xF (xMeth "Disk" "loose" f_Disk_loose none (xV 0) xNil) (S2 n o r μ) = .ok (pgs o) (S2 n o r μ) := by
  have h := run_loose hn ok.n
  have e := meth_ok (S := S2 n o r μ) (S' := S2 n o r μ) (A0 := xV 0) (A := xNil) (xs := []) (k := n) rfl hn (no_loose o) rfl h rfl
  rw [xF, e]
  simp only [Rs.bind_ok, toD_own]
  rfl
theorem own_pgs (ok : Ok o) : xF (xComp [2, 3] (xI (xB gIdx (xV 1) (xC (.int 4)))) (.tp (.cons (.nm 2) (.cons (.nm 3) .nil))) xYes (xV 2)) (S2 n o r μ) = .ok (pgs o) (S2 n o r μ) := by
  have hc := compL_map (vs := [2, 3]) (c := .tp (.cons (.nm 2) (.cons (.nm 3) .nil))) (T := xYes) (A := xV 2) (S := S2 n o r μ) (fun x => match x with | .tup [a, _] => a | _ => .non) (xs := o.wr.map wrD) [] (fun x hx => by
    obtain ⟨p, _, rfl⟩ := List.mem_map.mp hx
    refine ⟨⟨[some (.d (.obj n)), some (.d (ownD { o with las := r })), some (.d (.int p.1)), some (.d (.str p.2))], some μ⟩, _, ⟨[some (.d (.obj n)), some (.d (ownD { o with las := r })), some (.d (.int p.1)), some (.d (.str p.2))], some μ⟩, ?_, rfl, rfl, by simp [clr]⟩
    simp [xct, xcts, xgT, xgsCons, xgsNil, xgN, frz, OD.toD, wrD, CTs.len]) (by have := ok.n; simp; rw [sizeLine_eq]; omega)
  have hm : (o.wr.map wrD).map (fun x => match x with | .tup [a, _] => a | _ => .non) = o.wr.map fun p => D.int p.1 := by
    rw [List.map_map]; rfl
  rw [List.nil_append, hm] at hc
  have hcl : clr [2, 3] (S2 n o r μ) = S2 n o r μ := by simp [clr]
  have hI : xI (xB gIdx (xV 1) (xC (.int 4))) (S2 n o r μ) = .ok (o.wr.map wrD) (S2 n o r μ) := by
    simp only [xI, xB, xV, xC, List.getElem?_cons_succ, List.getElem?_cons_zero, Rs.bind_ok, own4, wrL, D.items]
  rw [xF, xComp, hI]
  simp only [Rs.bind_ok, hcl, hc, toD_own]
  rfl
def v3 (o : Ow) : D := .lst [.int o.pages, .int o.width, pgs o]
theorem ok_v3 (ok : Ok o) : okV 8 (v3 o) = true := by
  have := ok.n
  simp only [v3, pgs, okV, List.length_cons, List.length_nil, List.all_cons, List.all_nil, List.length_map, Bool.and_true, Bool.true_and, Bool.and_eq_true, decide_eq_true_eq, List.all_eq_true, List.mem_map, forall_exists_index, and_imp]
  refine ⟨by omega, by omega, fun x p _ e => by rw [← e]; rfl⟩
theorem isd_first (hn : μ[n]? = some (node o)) (ok : Ok o) : xNot (xT (xF (xCall (f__law_same 8) none (xCons (xLst (xCons (xFld ["Disk"] "pages" (xV 0)) (xCons (xFld ["Disk"] "width" (xV 0)) (xCons (xF (xMeth "Disk" "loose" f_Disk_loose none (xV 0) xNil)) xNil)))) (xCons (xLst (xCons (xB gIdx (xV 1) (xC (.int 0))) (xCons (xB gIdx (xV 1) (xC (.int 1))) (xCons (xF (xComp [2, 3] (xI (xB gIdx (xV 1) (xC (.int 4)))) (.tp (.cons (.nm 2) (.cons (.nm 3) .nil))) xYes (xV 2))) xNil)))) xNil))))) (S2 n o r μ) = .ok false (S2 n o r μ) := by
  have hp : xFld ["Disk"] "pages" (xV 0) (S2 n o r μ) = .ok (.int o.pages) (S2 n o r μ) := by
    simp only [xFld, xV, List.getElem?_cons_zero, Rs.bind_ok, nodeAt, hn, node, lk_pages, hDisk, if_true]
  have hw : xFld ["Disk"] "width" (xV 0) (S2 n o r μ) = .ok (.int o.width) (S2 n o r μ) := by
    simp only [xFld, xV, List.getElem?_cons_zero, Rs.bind_ok, nodeAt, hn, node, lk_width, hDisk, if_true]
  have i0 : xB gIdx (xV 1) (xC (.int 0)) (S2 n o r μ) = .ok (.int o.pages) (S2 n o r μ) := by
    simp only [xB, xV, xC, List.getElem?_cons_succ, List.getElem?_cons_zero, Rs.bind_ok, own0]
  have i1 : xB gIdx (xV 1) (xC (.int 1)) (S2 n o r μ) = .ok (.int o.width) (S2 n o r μ) := by
    simp only [xB, xV, xC, List.getElem?_cons_succ, List.getElem?_cons_zero, Rs.bind_ok, own1]
  have l1 := loose_v (r := r) hn ok
  have l2 := own_pgs (n := n) (μ := μ) (r := r) ok
  have g : ([D.int o.pages, .int o.width, pgs o] : List D).length ≤ sizeLine := by rw [sizeLine_eq]; show 3 ≤ 16777216; decide
  have e : f__law_same 8 [.lst [.int o.pages, .int o.width, pgs o], .lst [.int o.pages, .int o.width, pgs o]] (some μ) = .ok (.d (.bl true)) (some μ) := run_same (some μ) (ok_v3 ok)
  simp only [xNot, xT]
  rw [xF, xCall]
  simp only [xCons, xNil, xLst, hp, hw, i0, i1, l1, l2, Rs.bind_ok, g, if_true, ro, e, OD.toD, Bool.not_true]
end
end K75
end
section
set_option Elab.async false
set_option linter.all false
set_option maxRecDepth 100000
set_option maxHeartbeats 2000000
/-! the plain law, 18: is_disk answers True -/
namespace K75
open PySem PySem.Spec PyProof.Rows L2 Mi
section
variable {n : Nat} {o : Ow} {r : List Str} {μ : List OD}
/-- what is_disk leaves behind: the told list, changed -/
def junk (o : Ow) : OD := .own ((o.wr.map fun p => OD.d (.int p.1)) ++ [.d .non])
theorem isd_app (hn : μ[n]? = some (node o)) (ok : Ok o) : sEx (xU (xApp false (xLo (xAd (xMeth "Disk" "loose" f_Disk_loose none (xV 0) xNil))) (xU (xC .non)))) (S2 n o r μ) = .nx (S2 n o r (μ ++ [junk o])) := by
  have h := run_loose hn ok.n
  have e := meth_ok (S := S2 n o r μ) (S' := S2 n o r μ) (A0 := xV 0) (A := xNil) (xs := []) (k := n) rfl hn (no_loose o) rfl h rfl
  have hm : (o.wr.map fun p => D.int p.1).map OD.d = o.wr.map fun p => OD.d (.int p.1) := by rw [List.map_map]; rfl
  rw [hm] at e
  have hl : (o.wr.map fun p => OD.d (.int p.1)).length < sizeLine := by have := ok.n; simp; rw [sizeLine_eq]; omega
  have gl := get_last μ (OD.own (o.wr.map fun p => OD.d (.int p.1)))
  have hp : xLo (xAd (xMeth "Disk" "loose" f_Disk_loose none (xV 0) xNil)) (S2 n o r μ) = .ok (.nd μ.length) ⟨[some (.d (.obj n)), some (.d (ownD { o with las := r })), none, none], some (μ ++ [.own (o.wr.map fun p => OD.d (.int p.1))])⟩ := by
    rw [xLo, xAd, e]
    simp only [Rs.bind_ok, adopt]
  refine ex_nx (r := .d .non) ?_
  rw [xU, xApp, hp]
  simp only [Rs.bind_ok, getP, nodeAt, gl, xU, xC, frz, OD.toD, Option.map_some, hl, if_true, setP, setNode, set_last, Bool.false_eq_true, if_false]
  rfl
theorem isd_last (hn : μ[n]? = some (node o)) (ok : Ok o) : sRet (xU (xB gEq (xF (xComp [2] (xR1 (xCons (xB gIdx (xV 1) (xC (.int 0))) xNil)) (.nm 2) (xNot (xT (xF (xCall (f__law_same 8) none (xCons (xF (xMeth "Disk" "text" f_Disk_text none (xV 0) (xCons (xV 2) xNil))) (xCons (xB gIdx (xB gIdx (xV 1) (xC (.int 2))) (xV 2)) xNil)))))) (xV 2))) (xLst xNil))) (S2 n o r μ) = .rt (.d (.bl true)) (S2 n o r μ) := by
  have i0 : xB gIdx (xV 1) (xC (.int 0)) (S2 n o r μ) = .ok (.int o.pages) (S2 n o r μ) := by
    simp only [xB, xV, xC, List.getElem?_cons_succ, List.getElem?_cons_zero, Rs.bind_ok, own0]
  have hc := compL_none (vs := [2]) (c := .nm 2) (A := xV 2) (T := xNot (xT (xF (xCall (f__law_same 8) none (xCons (xF (xMeth "Disk" "text" f_Disk_text none (xV 0) (xCons (xV 2) xNil))) (xCons (xB gIdx (xB gIdx (xV 1) (xC (.int 2))) (xV 2)) xNil)))))) (S := S2 n o r μ) (xs := (List.range o.pages).map fun i => D.int (0 + (i : Nat))) [] (fun y hy => by
    obtain ⟨k, hk, rfl⟩ := List.mem_map.mp hy
    rw [List.mem_range] at hk
    rw [Int.zero_add]
    have hkc : k < o.cur.length := by rw [ok.c]; exact hk
    let S3 : AS := ⟨[some (.d (.obj n)), some (.d (ownD { o with las := r })), some (.d (.int k)), none], some μ⟩
    have ht := run_text hn hk ok.c
    have e1 : xF (xMeth "Disk" "text" f_Disk_text none (xV 0) (xCons (xV 2) xNil)) S3 = .ok (.str o.cur[k]) S3 := methI_ok (S' := S3) (xs := [.int k]) rfl hn (no_text o) rfl rfl ht rfl
    have i2 : gIdx (txD o.cur) (.int k) = some (.str o.cur[k]) := by
      show atI (o.cur.map D.str) (k : Int) = _
      rw [atI_nat (by simpa using hkc)]
      simp
    have e2 : xB gIdx (xB gIdx (xV 1) (xC (.int 2))) (xV 2) S3 = .ok (.str o.cur[k]) S3 := by
      simp only [S3, xB, xV, xC, List.getElem?_cons_succ, List.getElem?_cons_zero, Rs.bind_ok, own2, i2]
    have es : f__law_same 8 [.str o.cur[k], .str o.cur[k]] (some μ) = .ok (.d (.bl true)) (some μ) := run_same (some μ) rfl
    refine ⟨S3, S3, by simp [S3, xct, xgN, frz, OD.toD], ?_, by simp [S3, clr]⟩
    simp only [xNot, xT]
    rw [xF, xCall]
    simp only [xCons, xNil, e1, e2, Rs.bind_ok, ro]
    rw [show S3.μ = some μ from rfl, es]
    simp only [if_true, OD.toD, Rs.bind_ok, Bool.not_true]
    rfl)
  have hcl : clr [2] (S2 n o r μ) = S2 n o r μ := by simp [clr]
  have hI : xR1 (xCons (xB gIdx (xV 1) (xC (.int 0))) xNil) (S2 n o r μ) = .ok ((List.range o.pages).map fun i => D.int (0 + (i : Nat))) (S2 n o r μ) := by
    refine xR1_len ?_ (by have := ok.p2; omega)
    simp only [xCons, xNil, i0, Rs.bind_ok]
  have hx : xF (xComp [2] (xR1 (xCons (xB gIdx (xV 1) (xC (.int 0))) xNil)) (.nm 2) (xNot (xT (xF (xCall (f__law_same 8) none (xCons (xF (xMeth "Disk" "text" f_Disk_text none (xV 0) (xCons (xV 2) xNil))) (xCons (xB gIdx (xB gIdx (xV 1) (xC (.int 2))) (xV 2)) xNil)))))) (xV 2)) (S2 n o r μ) = .ok (.lst []) (S2 n o r μ) := by
    rw [xF, xComp, hI]
    simp only [Rs.bind_ok, hcl, hc, toD_own]
  have h0 : ([] : List D).length ≤ sizeLine := by simp only [List.length_nil, Nat.zero_le]
  rw [sRet, xU, xB, hx]
  simp only [xLst, xNil, Rs.bind_ok, h0, if_true, gEq_nil, Rs.out_ok]
theorem run_is_disk_r (hn : μ[n]? = some (node o)) (ok : Ok o) : f__law_is_disk [.obj n, ownD { o with las := r }] (some μ) = .ok (.d (.bl true)) (some (μ ++ [junk o])) := by
  refine fn_rt (S := S2 n o r (μ ++ [junk o])) rfl ?_
  show M__law_is_disk (S2 n o r μ) = _
  unfold M__law_is_disk
  refine seq_nx (if_f (isd_first hn ok) rfl) ?_
  exact seq_nx (isd_app hn ok) (isd_last (get_old hn _) ok)
theorem run_is_disk (hn : μ[n]? = some (node o)) (ok : Ok o) : f__law_is_disk [.obj n, ownD o] (some μ) = .ok (.d (.bl true)) (some (μ ++ [junk o])) := run_is_disk_r (r := o.las) hn ok
end
end K75
end
section
set_option Elab.async false
set_option linter.all false
set_option maxRecDepth 100000
set_option maxHeartbeats 2000000
/-! the plain law, 19: draws -/
namespace K75
open PySem PySem.Spec PyProof.Rows L2 Mi
/-- a box behind one more take -/
def Bx (μ μ' : List OD) (b k : Nat) : Prop := ∃ x, μ' = μ.set b x ∧ B μ' b k
theorem take_x {μ : List OD} {b k n : Nat} {S : AS} {A A2 : XD} (hS : S.μ = some μ) (ha : A S = .ok (.obj b) S) (ha2 : A2 S = .ok (.int n) S) (h : B μ b k) (hk : k < 1000000) (hn : 0 < n) (hn2 : n < 100000) :
    ∃ v μ', v < n ∧ xF (xCall f__law_take none (xCons A (xCons A2 xNil))) S = .ok (.int (v : Nat)) ⟨S.v, some μ'⟩ ∧ Bx μ μ' b (k + 1) := by
  obtain ⟨v, a, f, m, c, hv, e, hB⟩ := run_take h hk hn hn2
  refine ⟨v, _, hv, ?_, _, rfl, hB⟩
  rw [xF, xCall]
  simp only [xCons, xNil, ha, ha2, Rs.bind_ok, ro, hS, e, Option.isSome_some, if_true, OD.toD]
theorem idx_lst {l : List D} {v : Nat} (h : v < l.length) : gIdx (.lst l) (.int (v : Nat)) = some l[v] := atI_nat h
def noPages (p : Nat) : List D := [.non, .int (-1), .int p, .bl true, .str "0", .tup [.int 0], .lst [.int 0], .dct [], .int (10 ^ 19)]
theorem run_no_page {μ : List OD} {b k p : Nat} (h : B μ b k) (hk : k < 1000000) : ∃ x μ', x ∈ noPages p ∧ f__law_no_page [.obj b, .int p] (some μ) = .ok (.d x) (some μ') ∧ Bx μ μ' b (k + 1) := by
  obtain ⟨v, μ', hv, e, hB⟩ := take_x (S := ⟨[some (.d (.obj b)), some (.d (.int p))], some μ⟩) (A := xV 0) (A2 := xC (.int (9 : Nat))) (n := 9) rfl rfl rfl h hk (by decide) (by decide)
  have hv' : v < (noPages p).length := hv
  refine ⟨(noPages p)[v], μ', List.getElem_mem hv', ?_, hB⟩
  refine fn_rt (S := ⟨[some (.d (.obj b)), some (.d (.int p))], some μ'⟩) rfl ?_
  show M__law_no_page ⟨[some (.d (.obj b)), some (.d (.int p))], some μ⟩ = _
  unfold M__law_no_page
  have g : (noPages p).length ≤ sizeLine := by rw [sizeLine_eq]; show 9 ≤ 16777216; decide
  have g1 : ([D.int 0] : List D).length ≤ sizeLine := by rw [sizeLine_eq]; show 1 ≤ 16777216; decide
  have gp : gPow (.int 10) (.int 19) = some (.int (10 ^ 19)) := by simp [gPow]
  have hl : xLst (xCons (xC .non) (xCons (xUn gNeg (xC (.int 1))) (xCons (xV 1) (xCons (xC (.bl true)) (xCons (xC (.str "0")) (xCons (xTup (xCons (xC (.int 0)) xNil)) (xCons (xLst (xCons (xC (.int 0)) xNil)) (xCons (xC (.dct [])) (xCons (xB gPow (xC (.int 10)) (xC (.int 19))) xNil))))))))) ⟨[some (.d (.obj b)), some (.d (.int p))], some μ⟩ = .ok (.lst (noPages p)) ⟨[some (.d (.obj b)), some (.d (.int p))], some μ⟩ := by
    unfold noPages at g
    simp only [xLst, xCons, xNil, xC, xUn, gNeg, xV, xTup, xB, gp, g1, g, if_true, List.getElem?_cons_succ, List.getElem?_cons_zero, Rs.bind_ok, noPages]
  have hi := idx_lst hv'
  have e9 : xF (xCall f__law_take none (xCons (xV 0) (xCons (xC (.int 9)) xNil))) ⟨[some (.d (.obj b)), some (.d (.int p))], some μ⟩ = .ok (.int (v : Nat)) ⟨[some (.d (.obj b)), some (.d (.int p))], some μ'⟩ := e
  rw [sRet, xU, xB, hl]
  simp only [Rs.bind_ok, e9, hi, Rs.out_ok]
theorem noPages_ok {p : Nat} {x : D} (hp : 4 ≤ p ∧ p ≤ 60) (h : x ∈ noPages p) : pl x = true ∧ btw x 0 (p - 1) = false ∧ okV 8 x = true := by
  simp only [noPages, List.mem_cons, List.not_mem_nil, or_false] at h
  rcases h with rfl | rfl | rfl | rfl | rfl | rfl | rfl | rfl | rfl
  all_goals refine ⟨rfl, ?_, rfl⟩
  all_goals first | rfl | (simp [btw]; done) | (simp [btw]; omega)
end K75
end
section
set_option Elab.async false
set_option linter.all false
set_option maxRecDepth 100000
set_option maxHeartbeats 2000000
/-! the plain law, 20: texts multiplied -/
namespace K75
open PySem PySem.Spec PyProof.Rows L2 Mi
theorem fold_cps (x : Array Nat) : ∀ (m : Nat) (acc : Array Nat), ((List.replicate m x).foldl (· ++ ·) acc).toList = acc.toList ++ (List.replicate m x.toList).flatten
  | 0, acc => by simp
  | m + 1, acc => by
    rw [List.replicate_succ, List.foldl_cons, fold_cps x m, List.replicate_succ, List.flatten_cons]
    simp
theorem mul_cps (x : Str) (m : Nat) : (Txt.mul x (m : Int)).cps.toList = (List.replicate m x.cps.toList).flatten := by
  unfold Txt.mul
  by_cases h0 : (m : Int) < 1
  · have : m = 0 := by omega
    subst this
    simp [Str.empty]
  · rw [if_neg h0]
    split
    · rename_i h
      rw [Bool.or_eq_true, beq_iff_eq, beq_iff_eq] at h
      rcases h with h | h
      · have : m = 1 := by omega
        subst this
        simp
      · have hx : x.cps.toList = [] := by
          have : x.cps.size = 0 := h
          simpa using this
        rw [hx]
        simp
    · show ((List.replicate (m : Int).toNat x.cps).foldl (· ++ ·) #[]).toList = _
      rw [fold_cps]
      simp
theorem mul_len (x : Str) (m : Nat) : (Txt.mul x (m : Int)).length = m * x.length := by
  have h := congrArg List.length (mul_cps x m)
  simp only [List.length_flatten, List.map_replicate, List.sum_replicate_nat] at h
  simpa [Str.length] using h
end K75
end
section
set_option Elab.async false
set_option linter.all false
set_option maxRecDepth 100000
set_option maxHeartbeats 2000000
/-! the plain law, 21: no texts -/
namespace K75
open PySem PySem.Spec PyProof.Rows L2 Mi
def longX (w : Nat) : Str := Txt.mul "x" ((w + 1 : Nat) : Int)
theorem longX_len (w : Nat) : (longX w).length = w + 1 := by
  unfold longX
  rw [mul_len]
  show (w + 1) * 1 = _
  omega
def noTexts (w : Nat) : List D := [.non, .str (longX w), .int 5, .lst [.str "x"], .tup [.str "x"], .str "a\nb", .str "a\tb", .dct [], .bl true]
theorem run_no_text {μ : List OD} {b k w : Nat} (h : B μ b k) (hk : k < 1000000) (hw : w ≤ 400) : ∃ x μ', x ∈ noTexts w ∧ f__law_no_text [.obj b, .int w] (some μ) = .ok (.d x) (some μ') ∧ Bx μ μ' b (k + 1) := by
  obtain ⟨v, μ', hv, e, hB⟩ := take_x (S := ⟨[some (.d (.obj b)), some (.d (.int w)), some (.d (.lst (noTexts w)))], some μ⟩) (A := xV 0) (A2 := xC (.int (9 : Nat))) (n := 9) rfl rfl rfl h hk (by decide) (by decide)
  have hv' : v < (noTexts w).length := hv
  refine ⟨(noTexts w)[v], μ', List.getElem_mem hv', ?_, hB⟩
  refine fn_rt (S := ⟨[some (.d (.obj b)), some (.d (.int w)), some (.d (.lst (noTexts w)))], some μ'⟩) rfl ?_
  show M__law_no_text ⟨[some (.d (.obj b)), some (.d (.int w)), none], some μ⟩ = _
  unfold M__law_no_text
  have g : (noTexts w).length ≤ sizeLine := by rw [sizeLine_eq]; show 9 ≤ 16777216; decide
  have g1 : ([D.str "x"] : List D).length ≤ sizeLine := by rw [sizeLine_eq]; show 1 ≤ 16777216; decide
  have gp : gMul (.str "x") (.int ((w : Int) + 1)) = some (.str (longX w)) := by
    have e1 : ((w : Int) + 1) = ((w + 1 : Nat) : Int) := by omega
    rw [e1]
    show (if _ then _ else _) = _
    rw [if_pos]
    · rfl
    · refine ⟨?_, by omega, by omega, by decide, by omega⟩
      rw [sizeLine_eq, Int.toNat_natCast]
      show 1 * (w + 1) ≤ _
      omega
  have hi := idx_lst hv'
  have e9 : xF (xCall f__law_take none (xCons (xV 0) (xCons (xC (.int 9)) xNil))) ⟨[some (.d (.obj b)), some (.d (.int w)), some (.d (.lst (noTexts w)))], some μ⟩ = .ok (.int (v : Nat)) ⟨[some (.d (.obj b)), some (.d (.int w)), some (.d (.lst (noTexts w)))], some μ'⟩ := e
  refine seq_nx (S' := ⟨[some (.d (.obj b)), some (.d (.int w)), some (.d (.lst (noTexts w)))], some μ⟩) ?_ ?_
  · unfold noTexts at g ⊢
    simp only [sAsg, xU, xLst, xCons, xNil, xC, xV, xTup, xB, gp, gAdd_int, g1, g, if_true, List.getElem?_cons_succ, List.getElem?_cons_zero, Rs.bind_ok, Rs.out_ok, xgN, frz, OD.toD, Option.map_some, Bool.false_eq_true, if_false]
    rfl
  · have e2 : xV 2 ⟨[some (.d (.obj b)), some (.d (.int w)), some (.d (.lst (noTexts w)))], some μ⟩ = .ok (.lst (noTexts w)) ⟨[some (.d (.obj b)), some (.d (.int w)), some (.d (.lst (noTexts w)))], some μ⟩ := rfl
    rw [sRet, xU, xB, e2]
    simp only [Rs.bind_ok, e9, hi, Rs.out_ok]
theorem noTexts_ok {w : Nat} {x : D} (hw : w ≤ 400) (h : x ∈ noTexts w) : pl x = true ∧ okX x w = false ∧ okV 8 x = true ∧ ∀ s, x = .str s → s.length ≤ sizeLine := by
  have n1 : ((chs "a\nb").all okS) = false := by decide
  have n2 : ((chs "a\tb").all okS) = false := by decide
  have n3 := longX_len w
  simp only [noTexts, List.mem_cons, List.not_mem_nil, or_false] at h
  rcases h with rfl | rfl | rfl | rfl | rfl | rfl | rfl | rfl | rfl
  · exact ⟨rfl, rfl, rfl, fun s h => by cases h⟩
  · refine ⟨rfl, ?_, rfl, fun s h => by cases h; rw [n3, sizeLine_eq]; omega⟩
    simp only [okX, okT, n3]
    rw [decide_eq_false (by omega)]; rfl
  · exact ⟨rfl, rfl, rfl, fun s h => by cases h⟩
  · exact ⟨rfl, rfl, rfl, fun s h => by cases h⟩
  · exact ⟨rfl, rfl, rfl, fun s h => by cases h⟩
  · refine ⟨rfl, ?_, rfl, fun s h => by cases h; rw [sizeLine_eq]; decide⟩
    simp only [okX, okT, n1, Bool.and_false]
  · refine ⟨rfl, ?_, rfl, fun s h => by cases h; rw [sizeLine_eq]; decide⟩
    simp only [okX, okT, n2, Bool.and_false]
  · exact ⟨rfl, rfl, rfl, fun s h => by cases h⟩
  · exact ⟨rfl, rfl, rfl, fun s h => by cases h⟩
end K75
end
section
set_option Elab.async false
set_option linter.all false
set_option maxRecDepth 100000
set_option maxHeartbeats 2000000
/-! the plain law, 22: texts made -/
namespace K75
open PySem PySem.Spec PyProof.Rows L2 Mi
theorem Bx.trans {μ μ1 μ2 : List OD} {b k j : Nat} (h1 : Bx μ μ1 b k) (h2 : Bx μ1 μ2 b j) : Bx μ μ2 b j := by
  obtain ⟨x, rfl, _⟩ := h1
  obtain ⟨y, e, hB⟩ := h2
  exact ⟨y, by rw [e, List.set_set], hB⟩
def sg : Str := " ~aZ0!."
def inSg (s : Str) : Prop := ∀ c ∈ s.cps.toList, c ∈ sg.cps.toList
theorem inSg_ok {s : Str} {w : Nat} (h : inSg s) (hl : s.length ≤ w) : okT s w = true := by
  have hd : ∀ c ∈ sg.cps.toList, okS ⟨#[c]⟩ = true := by decide
  simp only [okT, Bool.and_eq_true, decide_eq_true_eq, List.all_eq_true, chs, List.mem_map]
  refine ⟨hl, fun x ⟨c, hc, e⟩ => ?_⟩
  rw [← e]
  exact hd c (h c hc)
theorem inSg_app {a b : Str} (h1 : inSg a) (h2 : inSg b) : inSg (a ++ b) := fun c hc => by
  have : (a ++ b).cps.toList = a.cps.toList ++ b.cps.toList := by
    show (a.cps ++ b.cps).toList = _
    simp
  rw [this] at hc
  rcases List.mem_append.mp hc with h | h
  · exact h1 c h
  · exact h2 c h
theorem inSg_cut {a : Str} {lo hi : Option Int} (h : inSg a) : inSg (L2.cutS a lo hi) := fun c hc => by
  have hc' : c ∈ (a.cps.toList.drop (HT.sIx a.length 0 lo)).take (HT.sIx a.length a.length hi - HT.sIx a.length 0 lo) := by
    simpa [L2.cutS] using hc
  exact h c (List.mem_of_mem_drop (List.mem_of_mem_take hc'))
theorem inSg_mul {a : Str} {m : Nat} (h : inSg a) : inSg (Txt.mul a (m : Int)) := fun c hc => by
  rw [mul_cps] at hc
  obtain ⟨l, hl, hc2⟩ := List.mem_flatten.mp hc
  rw [(List.mem_replicate.mp hl).2] at hc2
  exact h c hc2
theorem app_len (a b : Str) : (a ++ b).length = a.length + b.length := by
  show (a.cps ++ b.cps).size = _
  simp [Str.length]
theorem cut_len_hi {a : Str} {p : Nat} (h : p ≤ a.length) : (L2.cutS a none (some (p : Int))).length = p := by
  have hs : a.cps.toList.length = a.length := by simp [Str.length]
  show ((a.cps.toList.drop (HT.sIx a.length 0 none)).take (HT.sIx a.length a.length (some (p : Int)) - HT.sIx a.length 0 none)).toArray.size = p
  rw [sIx_le h]
  simp only [HT.sIx, List.drop_zero, Nat.sub_zero, List.size_toArray, List.length_take, hs]
  omega
theorem cut_len_lo {a : Str} {p : Nat} (h : p ≤ a.length) : (L2.cutS a (some (p : Int)) none).length = a.length - p := by
  have hs : a.cps.toList.length = a.length := by simp [Str.length]
  show ((a.cps.toList.drop (HT.sIx a.length 0 (some (p : Int)))).take (HT.sIx a.length a.length none - HT.sIx a.length 0 (some (p : Int)))).toArray.size = _
  rw [sIx_le h]
  simp only [HT.sIx, List.size_toArray, List.length_take, List.length_drop, hs]
  omega
theorem sg_len : sg.length = 7 := by decide
end K75
end
section
set_option Elab.async false
set_option linter.all false
set_option maxRecDepth 100000
set_option maxHeartbeats 2000000
/-! the plain law, 23: a text made -/
namespace K75
open PySem PySem.Spec PyProof.Rows L2 Mi
theorem many_of {w v1 v2 v3 : Nat} (hw : 40 ≤ w) (h1 : v1 < w + 1) (h2 : v2 < 4) (h3 : v3 < 5) : ∃ m : Nat, m ≤ w ∧ ([D.int 0, .int 1, .int w, .int v1, .int v2] : List D)[v3]? = some (.int m) := by
  match v3, h3 with
  | 0, _ => exact ⟨0, by omega, rfl⟩
  | 1, _ => exact ⟨1, by omega, rfl⟩
  | 2, _ => exact ⟨w, by omega, rfl⟩
  | 3, _ => exact ⟨v1, by omega, rfl⟩
  | 4, _ => exact ⟨v2, by omega, rfl⟩
/-- the text that is put together -/
def mkT (m f : Nat) : Str := Txt.mul (L2.cutS sg (some (f : Int)) none ++ L2.cutS sg none (some (f : Int))) ((m / 7 : Nat) : Int) ++ L2.cutS sg none (some ((m - m / 7 * 7 : Nat) : Int))
theorem mkT_ok {m f w : Nat} (hf : f < 7) (hm : m ≤ w) : okT (mkT m f) w = true := by
  have hs : inSg sg := fun c h => h
  refine inSg_ok (inSg_app (inSg_mul (inSg_app (inSg_cut hs) (inSg_cut hs))) (inSg_cut hs)) ?_
  unfold mkT
  rw [app_len, mul_len, app_len, cut_len_lo (by rw [sg_len]; omega), cut_len_hi (by rw [sg_len]; omega), cut_len_hi (by rw [sg_len]; omega), sg_len]
  have : 7 - f + f = 7 := by omega
  rw [this]
  omega
theorem many_step {μ : List OD} {b k w : Nat} {v : List (Option OD)} (h : B μ b k) (hk : k < 900000) (hw : 40 ≤ w ∧ w ≤ 400) (h0 : v[0]? = some (some (.d (.obj b)))) (h1 : v[1]? = some (some (.d (.int w)))) :
    ∃ m μ', m ≤ w ∧ xB gIdx (xLst (xCons (xC (.int 0)) (xCons (xC (.int 1)) (xCons (xV 1) (xCons (xF (xCall f__law_take none (xCons (xV 0) (xCons (xB gAdd (xV 1) (xC (.int 1))) xNil)))) (xCons (xF (xCall f__law_take none (xCons (xV 0) (xCons (xC (.int 4)) xNil)))) xNil)))))) (xF (xCall f__law_take none (xCons (xV 0) (xCons (xC (.int 5)) xNil)))) ⟨v, some μ⟩ = .ok (.int (m : Nat)) ⟨v, some μ'⟩ ∧ Bx μ μ' b (k + 3) := by
  have x0 : ∀ μ, xV 0 (⟨v, some μ⟩ : AS) = .ok (.obj b) ⟨v, some μ⟩ := fun μ => by simp only [xV, h0]
  have x1 : ∀ μ, xV 1 (⟨v, some μ⟩ : AS) = .ok (.int w) ⟨v, some μ⟩ := fun μ => by simp only [xV, h1]
  have xa : xB gAdd (xV 1) (xC (.int 1)) (⟨v, some μ⟩ : AS) = .ok (.int ((w + 1 : Nat) : Int)) ⟨v, some μ⟩ := by
    simp only [xB, x1, xC, Rs.bind_ok, gAdd_int]
    rfl
  obtain ⟨v1, μ1, l1, e1, B1⟩ := take_x (S := ⟨v, some μ⟩) (A := xV 0) (A2 := xB gAdd (xV 1) (xC (.int 1))) rfl (x0 μ) xa h (by omega) (by omega) (by omega)
  obtain ⟨_, _, b1⟩ := id B1
  obtain ⟨v2, μ2, l2, e2, B2⟩ := take_x (S := ⟨v, some μ1⟩) (A := xV 0) (A2 := xC (.int (4 : Nat))) rfl (x0 μ1) rfl b1 (by omega) (by decide) (by decide)
  obtain ⟨_, _, b2⟩ := id B2
  obtain ⟨v3, μ3, l3, e3, B3⟩ := take_x (S := ⟨v, some μ2⟩) (A := xV 0) (A2 := xC (.int (5 : Nat))) rfl (x0 μ2) rfl b2 (by omega) (by decide) (by decide)
  obtain ⟨m, hm, em⟩ := many_of hw.1 l1 l2 l3
  refine ⟨m, μ3, hm, ?_, (B1.trans B2).trans B3⟩
  have g : ([D.int 0, .int 1, .int w, .int v1, .int v2] : List D).length ≤ sizeLine := by rw [sizeLine_eq]; show 5 ≤ 16777216; decide
  have e2' : xF (xCall f__law_take none (xCons (xV 0) (xCons (xC (.int 4)) xNil))) ⟨v, some μ1⟩ = .ok (.int (v2 : Nat)) ⟨v, some μ2⟩ := e2
  have e3' : xF (xCall f__law_take none (xCons (xV 0) (xCons (xC (.int 5)) xNil))) ⟨v, some μ2⟩ = .ok (.int (v3 : Nat)) ⟨v, some μ3⟩ := e3
  have hl : xLst (xCons (xC (.int 0)) (xCons (xC (.int 1)) (xCons (xV 1) (xCons (xF (xCall f__law_take none (xCons (xV 0) (xCons (xB gAdd (xV 1) (xC (.int 1))) xNil)))) (xCons (xF (xCall f__law_take none (xCons (xV 0) (xCons (xC (.int 4)) xNil)))) xNil))))) ⟨v, some μ⟩ = .ok (.lst [.int 0, .int 1, .int w, .int v1, .int v2]) ⟨v, some μ2⟩ := by
    rw [xLst]
    have a5 : xCons (xF (xCall f__law_take none (xCons (xV 0) (xCons (xC (.int 4)) xNil)))) xNil ⟨v, some μ1⟩ = .ok [.int (v2 : Nat)] ⟨v, some μ2⟩ := by rw [xCons, e2']; rfl
    have a4 : xCons (xF (xCall f__law_take none (xCons (xV 0) (xCons (xB gAdd (xV 1) (xC (.int 1))) xNil)))) (xCons (xF (xCall f__law_take none (xCons (xV 0) (xCons (xC (.int 4)) xNil)))) xNil) ⟨v, some μ⟩ = .ok [.int (v1 : Nat), .int (v2 : Nat)] ⟨v, some μ2⟩ := by
      rw [xCons, e1]
      simp only [Rs.bind_ok, a5]
    have a3 : xCons (xV 1) (xCons (xF (xCall f__law_take none (xCons (xV 0) (xCons (xB gAdd (xV 1) (xC (.int 1))) xNil)))) (xCons (xF (xCall f__law_take none (xCons (xV 0) (xCons (xC (.int 4)) xNil)))) xNil)) ⟨v, some μ⟩ = .ok [.int w, .int (v1 : Nat), .int (v2 : Nat)] ⟨v, some μ2⟩ := by
      rw [xCons, x1]
      simp only [Rs.bind_ok, a4]
    have a1 : ∀ (i j : Int) (A : XA) (xs : List D), A ⟨v, some μ⟩ = .ok xs ⟨v, some μ2⟩ → xCons (xC (.int i)) (xCons (xC (.int j)) A) ⟨v, some μ⟩ = .ok (.int i :: .int j :: xs) ⟨v, some μ2⟩ := fun i j A xs h => by simp only [xCons, xC, Rs.bind_ok, h]
    rw [a1 0 1 _ _ a3]
    simp only [Rs.bind_ok, g, if_true]
  have hlen : v3 < ([D.int 0, .int 1, .int w, .int v1, .int v2] : List D).length := l3
  have hi := idx_lst hlen
  rw [← List.getElem?_eq_getElem hlen, em] at hi
  rw [xB, hl]
  simp only [Rs.bind_ok, e3', hi]
end K75
end
section
set_option Elab.async false
set_option linter.all false
set_option maxRecDepth 100000
set_option maxHeartbeats 2000000
/-! the plain law, 24: a text made, the def -/
namespace K75
open PySem PySem.Spec PyProof.Rows L2 Mi
theorem run_text_made {μ : List OD} {b k w : Nat} (h : B μ b k) (hk : k < 900000) (hw : 40 ≤ w ∧ w ≤ 400) : ∃ s μ', f__law_text [.obj b, .int w] (some μ) = .ok (.d (.str s)) (some μ') ∧ okT s w = true ∧ Bx μ μ' b (k + 4) := by
  obtain ⟨m, μ1, hm, em, B1⟩ := many_step (v := [some (.d (.obj b)), some (.d (.int w)), some (.d (.str sg)), none, none]) h hk hw rfl rfl
  obtain ⟨_, _, b1⟩ := id B1
  obtain ⟨f, μ2, hf, ef, B2⟩ := take_x (S := ⟨[some (.d (.obj b)), some (.d (.int w)), some (.d (.str sg)), some (.d (.int m)), none], some μ1⟩) (A := xV 0) (A2 := xC (.int (7 : Nat))) rfl rfl rfl b1 (by omega) (by decide) (by decide)
  have ef' : xF (xCall f__law_take none (xCons (xV 0) (xCons (xC (.int 7)) xNil))) ⟨[some (.d (.obj b)), some (.d (.int w)), some (.d (.str sg)), some (.d (.int m)), none], some μ1⟩ = .ok (.int (f : Nat)) ⟨[some (.d (.obj b)), some (.d (.int w)), some (.d (.str sg)), some (.d (.int m)), none], some μ2⟩ := ef
  refine ⟨mkT m f, μ2, ?_, mkT_ok hf hm, B1.trans B2⟩
  refine fn_rt (S := ⟨[some (.d (.obj b)), some (.d (.int w)), some (.d (.str sg)), some (.d (.int m)), some (.d (.int f))], some μ2⟩) rfl ?_
  show M__law_text ⟨[some (.d (.obj b)), some (.d (.int w)), none, none, none], some μ⟩ = _
  unfold M__law_text
  refine seq_nx (S' := ⟨[some (.d (.obj b)), some (.d (.int w)), some (.d (.str sg)), none, none], some μ⟩) rfl ?_
  refine seq_nx (S' := ⟨[some (.d (.obj b)), some (.d (.int w)), some (.d (.str sg)), some (.d (.int m)), none], some μ1⟩) ?_ ?_
  · rw [sAsg, xU, em]
    rfl
  refine seq_nx (S' := ⟨[some (.d (.obj b)), some (.d (.int w)), some (.d (.str sg)), some (.d (.int m)), some (.d (.int f))], some μ2⟩) ?_ ?_
  · rw [sAsg, xU, ef']
    rfl
  have hz : sg.length ≤ sizeLine := by rw [sg_len, sizeLine_eq]; decide
  have g1 : ∀ lo hi, gSl (.str sg) lo hi = some (.str (L2.cutS sg lo hi)) := fun lo hi => by
    simp only [gSl, hz, if_true]
  have n1 : ((m : Int) / 7) = ((m / 7 : Nat) : Int) := by omega
  have gd : gDiv (.int m) (.int 7) = some (.int ((m / 7 : Nat) : Int)) := by
    unfold gDiv
    simp only []
    rw [if_pos ⟨by decide, by decide⟩, n1]
  have gm : gMul (.int ((m / 7 : Nat) : Int)) (.int 7) = some (.int ((m / 7 * 7 : Nat) : Int)) := by
    show (if _ then _ else _) = _
    rw [if_pos]
    · congr 2
    · have := log2_small (x := m / 7) (by omega)
      have e7 : (7 : Int).natAbs.log2 = 2 := by decide
      rw [e7, Int.natAbs_natCast]
      omega
  have gs : Mi.gSub (.int m) (.int ((m / 7 * 7 : Nat) : Int)) = some (.int ((m - m / 7 * 7 : Nat) : Int)) := by
    show some (D.int _) = _
    congr 2
    omega
  have l1 := cut_len_lo (a := sg) (p := f) (by rw [sg_len]; omega)
  have l2 := cut_len_hi (a := sg) (p := f) (by rw [sg_len]; omega)
  have l3 := cut_len_hi (a := sg) (p := m - m / 7 * 7) (by rw [sg_len]; omega)
  rw [sg_len] at l1
  have a1 : gAdd (.str (L2.cutS sg (some (f : Int)) none)) (.str (L2.cutS sg none (some (f : Int)))) = some (.str (L2.cutS sg (some (f : Int)) none ++ L2.cutS sg none (some (f : Int)))) := by
    show (if _ then _ else _) = _
    rw [if_pos (by rw [l1, l2, sizeLine_eq]; omega)]
  have l4 : (L2.cutS sg (some (f : Int)) none ++ L2.cutS sg none (some (f : Int))).length = 7 := by rw [app_len, l1, l2]; omega
  have a2 : gMul (.str (L2.cutS sg (some (f : Int)) none ++ L2.cutS sg none (some (f : Int)))) (.int ((m / 7 : Nat) : Int)) = some (.str (Txt.mul (L2.cutS sg (some (f : Int)) none ++ L2.cutS sg none (some (f : Int))) ((m / 7 : Nat) : Int))) := by
    show (if _ then _ else _) = _
    rw [if_pos]
    rw [l4, sizeLine_eq, Int.toNat_natCast]
    refine ⟨by omega, by omega, by omega, by decide, by omega⟩
  have a3 : gAdd (.str (Txt.mul (L2.cutS sg (some (f : Int)) none ++ L2.cutS sg none (some (f : Int))) ((m / 7 : Nat) : Int))) (.str (L2.cutS sg none (some ((m - m / 7 * 7 : Nat) : Int)))) = some (.str (mkT m f)) := by
    show (if _ then _ else _) = _
    rw [if_pos (by rw [mul_len, l4, l3, sizeLine_eq]; omega)]
    rfl
  simp only [sRet, xU, xB, xSl, xP0, xP1, xV, xC, List.getElem?_cons_succ, List.getElem?_cons_zero, Rs.bind_ok, Rs.out_ok, g1, gd, gm, gs, a1, a2, a3]
end K75
end
section
set_option Elab.async false
set_option linter.all false
set_option maxRecDepth 100000
set_option maxHeartbeats 2000000
/-! the plain law, 25: a cell of the script -/
namespace K75
open PySem PySem.Spec PyProof.Rows L2 Mi
theorem cut_ints (ns : List Int) (lo hi : Option Int) : ∃ ms : List Int, Mi.cutD (ns.map D.int) lo hi = ms.map .int := by
  unfold Mi.cutD
  exact ⟨(ns.drop (HT.sIx (ns.map D.int).length 0 lo)).take (HT.sIx (ns.map D.int).length (ns.map D.int).length hi - HT.sIx (ns.map D.int).length 0 lo), by rw [List.map_take, List.map_drop]⟩
theorem run_cell {ns : List Int} {k : Nat} (hk : k < 2) (μ : Option (List OD)) : ∃ z, f__law_cell [.scr (ns.map .int), .int k] μ = .ok (.d (.int z)) μ := by
  have hlen : gLen [D.scr (ns.map .int)] = some (.int ns.length) := by simp [gLen]
  by_cases h : k < ns.length
  · have hI : ((k : Int) < ns.length) := by omega
    have hi : gIdx (.scr (ns.map .int)) (.int k) = some (.int ns[k]) := by
      show atI (ns.map D.int) (k : Int) = _
      rw [atI_nat (by simpa using h)]
      simp
    refine ⟨ns[k], fn_rt (S := ⟨[some (.d (.scr (ns.map .int))), some (.d (.int k))], μ⟩) rfl ?_⟩
    show M__law_cell ⟨[some (.d (.scr (ns.map .int))), some (.d (.int k))], μ⟩ = _
    unfold M__law_cell
    simp only [sRet, xU, xIf, xT, xB, xG, xCons, xNil, xV, List.getElem?_cons_succ, List.getElem?_cons_zero, Rs.bind_ok, Rs.out_ok, hlen, gCmpI, hI, decide_true, hi]
  · have hI : ¬ ((k : Int) < ns.length) := by omega
    obtain ⟨ms, em⟩ := cut_ints ns none (some 1)
    have hs : gSl (.scr (ns.map .int)) none (some 1) = some (.lst (ms.map .int)) := by show some (D.lst (Mi.cutD _ _ _)) = _; rw [em]
    have ha : allOf D.int? (ms.map D.int) = some ms := allOf_map (f := D.int?) (g := D.int) (fun _ => rfl) ms
    obtain ⟨sm, hsum⟩ : ∃ sm, gSum [.lst (ms.map .int)] = some (.int sm) := by
      simp only [gSum, ha]
      exact ⟨_, rfl⟩
    have hm : gMul (.int 6089) (.int k) = some (.int (6089 * k)) := by
      show (if _ then _ else _) = _
      rw [if_pos]
      have := log2_small (x := k) (by omega)
      have : (6089 : Int).natAbs.log2 < 64 := log2_small (by decide)
      rw [Int.natAbs_natCast]
      omega
    have hmod : gMod (.int sm) (.int 1000033) = some (.int (sm % 1000033)) := rfl
    refine ⟨6089 * k + sm % 1000033, fn_rt (S := ⟨[some (.d (.scr (ns.map .int))), some (.d (.int k))], μ⟩) rfl ?_⟩
    show M__law_cell ⟨[some (.d (.scr (ns.map .int))), some (.d (.int k))], μ⟩ = _
    unfold M__law_cell
    simp only [sRet, xU, xIf, xT, xB, xG, xSl, xP0, xP1, xCons, xNil, xC, xV, List.getElem?_cons_succ, List.getElem?_cons_zero, Rs.bind_ok, Rs.out_ok, hlen, gCmpI, hI, decide_false, hs, hsum, hm, hmod, gAdd_int]
end K75
end
section
set_option Elab.async false
set_option linter.all false
set_option maxRecDepth 100000
set_option maxHeartbeats 2000000
/-! the plain law, 26: a run's state; values of expressions one by one -/
namespace K75
open PySem PySem.Spec PyProof.Rows L2 Mi
theorem B.mono {μ : List OD} {b k j : Nat} (h : B μ b k) (hj : k ≤ j) : B μ b j := by
  obtain ⟨a, f, m, c, e, h1, h2, h3, h4, h5⟩ := h
  exact ⟨a, f, m, c, e, h1, h2, h3, h4, by omega⟩
theorem B.app {μ : List OD} {b k : Nat} (h : B μ b k) (x : OD) : B (μ ++ [x]) b k := by
  obtain ⟨a, f, m, c, e, h⟩ := h
  exact ⟨a, f, m, c, get_old e x, h⟩
theorem B.put {μ : List OD} {b k n : Nat} (h : B μ b k) (hne : b ≠ n) (x : OD) : B (μ.set n x) b k := by
  obtain ⟨a, f, m, c, e, h⟩ := h
  exact ⟨a, f, m, c, by rw [List.getElem?_set_ne (fun z => hne z.symm)]; exact e, h⟩
/-- box and disk -/
structure St (μ : List OD) (b k n : Nat) (o : Ow) (t : Nat) : Prop where
  box : B μ b k
  nd : μ[n]? = some (node o)
  ok : Ok o
  wl : o.wr.length ≤ t
section
variable {μ μ' : List OD} {b k j n t : Nat} {o o' : Ow}
theorem St.ne (h : St μ b k n o t) : b ≠ n := fun e => by
  obtain ⟨a, f, m, c, e1, _⟩ := h.box
  have := h.nd
  rw [← e, e1] at this
  cases this
theorem nd_bx {x : OD} (hb : B μ b k) (h : μ[n]? = some (node o)) : (μ.set b x)[n]? = some (node o) := by
  have hne : b ≠ n := fun e => by
    obtain ⟨a, f, m, c, e1, _⟩ := hb
    rw [← e, e1] at h
    cases h
  rw [List.getElem?_set_ne hne]; exact h
theorem St.bx (h : St μ b k n o t) (hb : Bx μ μ' b j) : St μ' b j n o t := by
  obtain ⟨x, rfl, B'⟩ := hb
  exact ⟨B', nd_bx h.box h.nd, h.ok, h.wl⟩
theorem St.app (h : St μ b k n o t) (x : OD) : St (μ ++ [x]) b k n o t := ⟨h.box.app x, get_old h.nd x, h.ok, h.wl⟩
theorem St.put (h : St μ b k n o t) {s : Nat} (ok : Ok o') (hw : o'.wr.length ≤ s) : St (μ.set n (node o')) b k n o' s :=
  ⟨h.box.put h.ne _, List.getElem?_set_self (List.getElem?_eq_some_iff.mp h.nd).1, ok, hw⟩
theorem St.mono (h : St μ b k n o t) {s : Nat} (hk : k ≤ j) (hs : t ≤ s) : St μ b j n o s := ⟨h.box.mono hk, h.nd, h.ok, Nat.le_trans h.wl hs⟩
end
/-! values -/
section
variable {S S1 S2 S3 : AS} {A C : XD} {As : XA} {x y z : D} {xs : List D} {g : D → D → Option D}
theorem v_ok {i : Nat} (h : S.v[i]? = some (some (.d x))) : xV i S = .ok x S := by unfold xV; rw [h]
theorem b_ok (h1 : A S = .ok x S1) (h2 : C S1 = .ok y S2) (h3 : g x y = some z) : xB g A C S = .ok z S2 := by
  unfold xB; simp only [h1, h2, Rs.bind_ok, h3]
theorem cs_ok (h1 : A S = .ok x S1) (h2 : As S1 = .ok xs S2) : xCons A As S = .ok (x :: xs) S2 := by
  unfold xCons; simp only [h1, h2, Rs.bind_ok]
theorem nl_ok : xNil S = .ok [] S := rfl
theorem ls_ok (h : As S = .ok xs S1) (hl : xs.length ≤ 1000000) : xLst As S = .ok (.lst xs) S1 := by
  unfold xLst; simp only [h, Rs.bind_ok]; rw [if_pos (by rw [sizeLine_eq]; omega)]
theorem tu_ok (h : As S = .ok xs S1) (hl : xs.length ≤ 1000000) : xTup As S = .ok (.tup xs) S1 := by
  unfold xTup; simp only [h, Rs.bind_ok]; rw [if_pos (by rw [sizeLine_eq]; omega)]
theorem t_ok {b : Bool} (h : A S = .ok (.bl b) S1) : xT A S = .ok b S1 := by
  unfold xT; simp only [h, Rs.bind_ok]
theorem n_ok {T : XT} {b : Bool} (h : T S = .ok b S1) : xNot T S = .ok (!b) S1 := by
  unfold xNot; simp only [h, Rs.bind_ok]
theorem or_f {T U : XT} {b : Bool} (h : T S = .ok false S1) (h2 : U S1 = .ok b S2) : xOr T U S = .ok b S2 := by
  unfold xOr; simp only [h, Rs.bind_ok, h2]
theorem if_tv {T : XT} {r : Rs D} (h : T S = .ok true S1) (h2 : A S1 = r) : xIf T A C S = r := by
  unfold xIf; simp only [h, Rs.bind_ok, h2]
theorem if_fv {T : XT} {r : Rs D} (h : T S = .ok false S1) (h2 : C S1 = r) : xIf T A C S = r := by
  unfold xIf; simp only [h, Rs.bind_ok, h2]
theorem cl_ok {m : Mf} {μ' : List OD} (h : As S = .ok xs S1) (h2 : m xs S1.μ = .ok (.d x) (some μ')) (h3 : S1.μ.isSome = true) (h4 : S2 = ⟨S1.v, some μ'⟩) : xF (xCall m none As) S = .ok x S2 := by
  subst h4
  unfold xF xCall
  simp only [h, Rs.bind_ok, ro, h2, h3, Option.isSome_some, if_true, OD.toD]
/-- `name = e` -/
theorem as_ok {i : Nat} (h : A S = .ok x S1) (hi : i < S1.v.length) (hS : S2 = ⟨S1.v.set i (some (.d x)), S1.μ⟩) : sAsg (xU A) (xgN false i) S = .nx S2 := by
  subst hS
  unfold sAsg xU xgN frz
  simp only [h, Rs.bind_ok, Rs.out_ok, OD.toD, Option.map_some, Bool.false_eq_true, if_false, hi, if_true]
/-- `a, b = e, f` -/
theorem pr_ok {i j : Nat} (h : A S = .ok x S1) (h' : C S1 = .ok y S2) (hi : i < S2.v.length) (hj : j < S2.v.length) (hS : S3 = ⟨(S2.v.set i (some (.d x))).set j (some (.d y)), S2.μ⟩) : sPar false false i j (xoCons (xU A) (xoCons (xU C) xoNil)) S = .nx S3 := by
  subst hS
  have hj' : j < (S2.v.set i (some (.d x))).length := by rw [List.length_set]; exact hj
  unfold sPar
  simp only [xoCons, xoNil, xU, h, h', Rs.bind_ok, Rs.out_ok, xgN, frz, OD.toD, Option.map_some, Bool.false_eq_true, if_false, hi, hj', if_true]
theorem rt_ok (h : A S = .ok x S1) : sRet (xU A) S = .rt (.d x) S1 := by
  unfold sRet xU; simp only [h, Rs.bind_ok, Rs.out_ok]
end
end K75
end
section
set_option Elab.async false
set_option linter.all false
set_option maxRecDepth 100000
set_option maxHeartbeats 2000000
/-! the plain law, 27: places drawn, places wrong -/
namespace K75
open PySem PySem.Spec PyProof.Rows L2 Mi
theorem g_ok {S S1 : AS} {As : XA} {xs : List D} {z : D} {g : List D → Option D} (h : As S = .ok xs S1) (h2 : g xs = some z) : xG g As S = .ok z S1 := by
  unfold xG; simp only [h, Rs.bind_ok, h2]
/-- one draw out of a display: `[..][take(box, n)]` -/
theorem dr_ok {S S1 S2 : AS} {A C : XD} {l : List D} {v : Nat} (h : A S = .ok (.lst l) S1) (h2 : C S1 = .ok (.int (v : Nat)) S2) (hv : v < l.length) : xB gIdx A C S = .ok l[v] S2 := b_ok h h2 (idx_lst hv)
abbrev tk (i : Nat) (m : Int) : XD := xF (xCall f__law_take none (xCons (xV i) (xCons (xC (.int m)) xNil)))
theorem tk_ok {v : List (Option OD)} {μ : List OD} {i b k : Nat} (m : Nat) (h0 : v[i]? = some (some (.d (.obj b)))) (h : B μ b k) (hk : k < 1000000) (hm : 0 < m) (hm2 : m < 100000) :
    ∃ d μ', d < m ∧ tk i (m : Nat) ⟨v, some μ⟩ = .ok (.int (d : Nat)) ⟨v, some μ'⟩ ∧ Bx μ μ' b (k + 1) :=
  take_x (S := ⟨v, some μ⟩) rfl (v_ok h0) rfl h hk hm hm2
theorem Bx.self {μ : List OD} {b k : Nat} (h : B μ b k) : Bx μ μ b k := by
  obtain ⟨a, f, m, c, e, h'⟩ := id h
  exact ⟨_, (set_self e).symm, h⟩
theorem comp_pick {v : List (Option OD)} {b : Nat} (h0 : v[0]? = some (some (.d (.obj b)))) (h8 : v[8]? = some none) : ∀ {xs : List Nat} {μ : List OD} {k : Nat} (acc : List D), B μ b k → k + xs.length < 900000 → acc.length + xs.length ≤ 900000 →
    ∃ (ys : List Nat) (μ' : List OD), ys.Sublist xs ∧ xCompL [8] (.nm 8) (xT (xB gEq (tk 0 2) (xC (.int 0)))) (xV 8) (xs.map fun i => D.int (0 + (i : Nat))) acc ⟨v, some μ⟩ = .ok (acc ++ ys.map fun i => D.int (0 + (i : Nat))) ⟨v, some μ'⟩ ∧ Bx μ μ' b (k + xs.length)
  | [], μ, k, acc, hB, _, _ => ⟨[], μ, List.Sublist.refl _, by simp [xCompL], Bx.self hB⟩
  | x :: xs, μ, k, acc, hB, hk, hl => by
    simp only [List.length_cons] at hk hl
    have hl8 : 8 < v.length := (List.getElem?_eq_some_iff.mp h8).1
    obtain ⟨d, μ1, hd, e, B1⟩ := tk_ok (v := v.set 8 (some (.d (.int (0 + (x : Nat)))))) (i := 0) 2 (by rw [List.getElem?_set_ne (by decide)]; exact h0) hB (by omega) (by decide) (by decide)
    obtain ⟨_, _, b1⟩ := id B1
    have e1 : xct (.nm 8) (.d (.int (0 + (x : Nat)))) ⟨v, some μ⟩ = .ok () ⟨v.set 8 (some (.d (.int (0 + (x : Nat))))), some μ⟩ := by
      simp only [xct, xgN, frz, OD.toD, Option.map_some, Bool.false_eq_true, if_false, hl8, if_true]
    have e2 : xT (xB gEq (tk 0 2) (xC (.int 0))) ⟨v.set 8 (some (.d (.int (0 + (x : Nat))))), some μ⟩ = .ok (decide ((d : Int) = 0)) ⟨v.set 8 (some (.d (.int (0 + (x : Nat))))), some μ1⟩ := t_ok (b_ok e rfl (gEq_int _ _))
    have ec : clr [8] ⟨v.set 8 (some (.d (.int (0 + (x : Nat))))), some μ1⟩ = ⟨v, some μ1⟩ := by
      simp only [clr, List.set_set, set_self h8]
    have e3 : xV 8 (⟨v.set 8 (some (.d (.int (0 + (x : Nat))))), some μ1⟩ : AS) = .ok (.int (0 + (x : Nat))) ⟨v.set 8 (some (.d (.int (0 + (x : Nat))))), some μ1⟩ := v_ok (List.getElem?_set_self hl8)
    rw [List.map_cons, xCompL]
    simp only [e1, e2]
    by_cases hz : (d : Int) = 0
    · obtain ⟨ys, μ2, hs, ih, B2⟩ := comp_pick h0 h8 (xs := xs) (acc ++ [.int (0 + (x : Nat))]) b1 (by omega) (by simp; omega)
      refine ⟨x :: ys, μ2, hs.cons₂ x, ?_, by rw [List.length_cons, show k + (xs.length + 1) = k + 1 + xs.length by omega]; exact B1.trans B2⟩
      simp only [decide_eq_true hz, e3, ec]
      rw [if_pos (by rw [sizeLine_eq]; omega), ih]
      simp
    · obtain ⟨ys, μ2, hs, ih, B2⟩ := comp_pick h0 h8 (xs := xs) acc b1 (by omega) (by omega)
      refine ⟨ys, μ2, hs.cons x, ?_, by rw [List.length_cons, show k + (xs.length + 1) = k + 1 + xs.length by omega]; exact B1.trans B2⟩
      simp only [decide_eq_false hz, ec, ih]
theorem incr_of {ys : List Nat} (h : ys.Pairwise (· < ·)) : incr (ys.map fun i => (0 + (i : Nat) : Int)) = true := by
  unfold incr
  rw [List.all_eq_true]
  intro k hk
  rw [List.mem_range, List.length_map] at hk
  have h2 := (List.pairwise_iff_getElem.mp h) k (k + 1) (by omega) (by omega) (by omega)
  have a1 : (ys.map fun i => (0 + (i : Nat) : Int)).getD k 0 = ys[k]'(by omega) := by
    rw [List.getD_eq_getElem?_getD, List.getElem?_eq_getElem (by rw [List.length_map]; omega)]; simp
  have a2 : (ys.map fun i => (0 + (i : Nat) : Int)).getD (k + 1) 0 = ys[k + 1]'(by omega) := by
    rw [List.getD_eq_getElem?_getD, List.getElem?_eq_getElem (by rw [List.length_map]; omega)]; simp
  rw [a1, a2]
  simp only [decide_eq_true_eq]
  omega
def oddC (m : Nat) : List D := [.non, .lst [.int m], .lst [.int (-1)], .lst [.int 0, .int 0], .lst [.int 1, .int 0], .lst [.bl true], .lst [.str "0"], .int 5, .dct [], .str "0", .lst [.non]]
theorem oddC_no {m : Nat} {x : D} (h : x ∈ oddC m) (μ : Option (List OD)) : f_are_places [x, .int m] μ = .ok (.d (.bl false)) μ := by
  have bad : ∀ {y : D}, pl y = true → btw y 0 (m - 1) = false → f_are_places [.lst [y], .int m] μ = .ok (.d (.bl false)) μ := fun {y} h1 h2 => run_places_bad (.inl rfl) (fun e he => by rw [List.mem_singleton.mp he]; exact h1) (by simp) (by simp [h2]) μ
  have two : ∀ (i j : Nat), j ≤ i → f_are_places [.lst [.int i, .int j], .int m] μ = .ok (.d (.bl false)) μ := fun i j hij => by
    by_cases hi : i < m
    · have := run_places (x := .lst [.int i, .int j]) (ns := [(i : Int), (j : Int)]) (m := m) (.inl rfl) (by simp) (fun z hz => by
        simp only [List.mem_cons, List.not_mem_nil, or_false] at hz
        rcases hz with rfl | rfl <;> omega) μ
      rw [this]
      have : incr [(i : Int), (j : Int)] = false := by
        have : ¬ ((i : Int) < j) := by omega
        simp [incr, List.range_succ, this]
      rw [this]
    · refine run_places_bad (.inl rfl) (fun e he => ?_) (by simp) ?_ μ
      · simp only [List.mem_cons, List.not_mem_nil, or_false] at he
        rcases he with rfl | rfl <;> rfl
      · have : ¬ ((i : Int) ≤ (m : Int) - 1) := by omega
        simp [btw, this]
  simp only [oddC, List.mem_cons, List.not_mem_nil, or_false] at h
  rcases h with rfl | rfl | rfl | rfl | rfl | rfl | rfl | rfl | rfl | rfl | rfl
  · exact run_places_no rfl rfl μ
  · exact bad rfl (by simp [btw]; omega)
  · exact bad rfl (by simp [btw])
  · exact two 0 0 (by decide)
  · exact two 1 0 (by decide)
  · exact bad rfl rfl
  · exact bad rfl rfl
  · exact run_places_no rfl rfl μ
  · exact run_places_no rfl rfl μ
  · exact run_places_no rfl rfl μ
  · exact bad rfl rfl
theorem oddC_ok {m : Nat} {x : D} (h : x ∈ oddC m) : okV 8 (.lst [.str "done", x, .bl true]) = true := by
  simp only [oddC, List.mem_cons, List.not_mem_nil, or_false] at h
  rcases h with rfl | rfl | rfl | rfl | rfl | rfl | rfl | rfl | rfl | rfl | rfl <;> rfl
end K75
end
section
set_option Elab.async false
set_option linter.all false
set_option maxRecDepth 100000
set_option maxHeartbeats 2000000
/-! the plain law, 28: a cut is right -/
namespace K75
open PySem PySem.Spec PyProof.Rows L2 Mi
theorem pick3 {m d : Nat} {ys : List Nat} (h : ys.Sublist (List.range m)) (hd : d < 3) (hm : m ≤ 100) : ∃ ns : List Int, ([.lst (ys.map fun i => D.int (0 + (i : Nat))), .lst [], .lst (rgD m)] : List D)[d]? = some (.lst (ns.map .int)) ∧ (∀ i ∈ ns, 0 ≤ i ∧ i < m) ∧ incr ns = true ∧ ns.length ≤ 100 := by
  have sub : ∀ zs : List Nat, zs.Sublist (List.range m) → (∀ i ∈ (zs.map fun i => (0 + (i : Nat) : Int)), 0 ≤ i ∧ i < m) ∧ incr (zs.map fun i => (0 + (i : Nat) : Int)) = true ∧ (zs.map fun i => (0 + (i : Nat) : Int)).length ≤ 100 := fun zs hz => by
    refine ⟨fun i hi => ?_, incr_of (List.Pairwise.sublist hz List.pairwise_lt_range), ?_⟩
    · obtain ⟨j, hj, rfl⟩ := List.mem_map.mp hi
      have := List.mem_range.mp (hz.subset hj)
      omega
    · have := hz.length_le
      rw [List.length_range] at this
      rw [List.length_map]; omega
  have mm : ∀ zs : List Nat, zs.map (fun i => D.int (0 + (i : Nat))) = (zs.map fun i => (0 + (i : Nat) : Int)).map .int := fun zs => by rw [List.map_map]; rfl
  rw [rgD, mm, mm]
  match d, hd with
  | 0, _ => exact ⟨_, rfl, sub ys h⟩
  | 1, _ => exact ⟨[], rfl, by simp, rfl, by simp⟩
  | 2, _ => exact ⟨_, rfl, sub _ (List.Sublist.refl _)⟩
theorem for_nx {G : XG} {m : XS} {x : D} {xs : List D} {S S1 S2 : AS} {R : Out} (hg : G (.d x) S = .ok () S1) (hm : m S1 = .nx S2) (h : sForL G m xs S2 = R) : sForL G m (x :: xs) S = R := by
  unfold sForL
  simp only [hg, Rs.out_ok, hm, h]
theorem cut_ok {o : Ow} (ok : Ok o) (ns : List Int) : Ok (cutO o ns) :=
  ⟨ok.p1, ok.p2, ok.w1, ok.w2, by show (done o.wr o.las ns).length = _; rw [done_len]; exact ok.l, by show (done o.wr o.las ns).length = _; rw [done_len]; exact ok.l, by show 0 < 100000; decide, fun p hp => by cases hp⟩
section
variable {n b : Nat} {o : Ow} {μ : List OD} {bn : Bool}
theorem own4i {k p : Nat} {t : Str} (hw : o.wr[k]? = some (p, t)) : gIdx (wrL o) (.int (k : Nat)) = some (.tup [.int p, .str t]) := by
  have hk := (List.getElem?_eq_some_iff.mp hw).1
  show atI (o.wr.map wrD) (k : Int) = _
  rw [atI_nat (by simpa using hk)]
  simp [(List.getElem?_eq_some_iff.mp hw).2, wrD]
theorem put_loop (ok : Ok o) {a0 a1 a3 a4 a5 a6 a9 a10 : Option OD} : ∀ {ns : List Int} {L : List Str} {c : Option OD}, (∀ i ∈ ns, 0 ≤ i ∧ i < o.wr.length) → L.length = o.pages →
    ∃ c', sForL (xgN false 8) (sAsg (xU (xF (xCall f__law_put none (xCons (xV 7) (xCons (xB gIdx (xB gIdx (xB gIdx (xV 2) (xC (.int 4))) (xV 8)) (xC (.int 0))) (xCons (xB gIdx (xB gIdx (xB gIdx (xV 2) (xC (.int 4))) (xV 8)) (xC (.int 1))) xNil)))))) (xgN false 7)) (ns.map .int) ⟨[a0, a1, some (.d (ownD o)), a3, a4, a5, a6, some (.d (txD L)), c, a9, a10], some μ⟩ =
      .nx ⟨[a0, a1, some (.d (ownD o)), a3, a4, a5, a6, some (.d (txD (done o.wr L ns))), c', a9, a10], some μ⟩
  | [], L, c, _, _ => ⟨c, rfl⟩
  | i :: ns, L, c, h1, hL => by
    obtain ⟨k, rfl⟩ : ∃ k : Nat, i = k := ⟨i.toNat, by have := h1 i List.mem_cons_self; omega⟩
    have hk : k < o.wr.length := by have := h1 k List.mem_cons_self; omega
    obtain ⟨p, t, hw⟩ : ∃ p t, o.wr[k]? = some (p, t) := ⟨_, _, List.getElem?_eq_getElem hk⟩
    have hp : p < o.pages := ok.r (p, t) (List.mem_of_getElem? hw)
    have hq : done o.wr L ((k : Nat) :: ns) = done o.wr (L.set p t) ns := by
      rw [done, Int.toNat_natCast, hw]
    obtain ⟨c', ih⟩ := put_loop ok (ns := ns) (L := L.set p t) (c := some (.d (.int k))) (fun j hj => h1 j (List.mem_cons_of_mem _ hj)) (by rw [List.length_set]; exact hL)
    refine ⟨c', ?_⟩
    have hg : xgN false 8 (.d (.int k)) (⟨[a0, a1, some (.d (ownD o)), a3, a4, a5, a6, some (.d (txD L)), c, a9, a10], some μ⟩ : AS) = .ok () ⟨[a0, a1, some (.d (ownD o)), a3, a4, a5, a6, some (.d (txD L)), some (.d (.int k)), a9, a10], some μ⟩ := rfl
    have e4 : xB gIdx (xB gIdx (xV 2) (xC (.int 4))) (xV 8) (⟨[a0, a1, some (.d (ownD o)), a3, a4, a5, a6, some (.d (txD L)), some (.d (.int k)), a9, a10], some μ⟩ : AS) = .ok (.tup [.int p, .str t]) ⟨[a0, a1, some (.d (ownD o)), a3, a4, a5, a6, some (.d (txD L)), some (.d (.int k)), a9, a10], some μ⟩ :=
      b_ok (b_ok (v_ok rfl) rfl own4) (v_ok rfl) (own4i hw)
    have hput := run_put (l := L) (p := p) (t := t) (μ := some μ) (by omega) (by have := ok.p2; omega)
    rw [List.map_cons]
    refine for_nx hg (as_ok (cl_ok (S2 := ⟨[a0, a1, some (.d (ownD o)), a3, a4, a5, a6, some (.d (txD L)), some (.d (.int k)), a9, a10], some μ⟩) (cs_ok (v_ok rfl) (cs_ok (b_ok e4 rfl rfl) (cs_ok (b_ok e4 rfl rfl) nl_ok))) hput rfl rfl) (by show 7 < 11; decide) (S2 := ⟨[a0, a1, some (.d (ownD o)), a3, a4, a5, a6, some (.d (txD (L.set p t))), some (.d (.int k)), a9, a10], some μ⟩) rfl) ?_
    rw [ih, hq]
end
end K75
end
section
set_option Elab.async false
set_option linter.all false
set_option maxRecDepth 100000
set_option maxHeartbeats 2000000
/-! the plain law, 29: a cut is right, the def -/
namespace K75
open PySem PySem.Spec PyProof.Rows L2 Mi
theorem isO_ok {S S1 : AS} {A : XD} {m : Nat} {o : Ow} (h : A S = .ok (.obj m) S1) (hn : nodeAt S1 m = some (node o)) : xIsO [("Disk", true)] A S = .ok (.bl true) S1 := by
  unfold xIsO
  simp only [h, Rs.bind_ok, hn, node]
  rfl
theorem lr_ok {S S1 : AS} {A : XD} {m : Nat} (h : A S = .ok (.int (m : Nat)) S1) (hm : m ≤ 1000) : xF (xListR A) S = .ok (.lst (rgD m)) S1 := by
  have : (0 : Int) ≤ (m : Int) ∧ (m : Int) ≤ 16777216 := by omega
  rw [xF, xListR, h]
  simp only [Rs.bind_ok]
  rw [if_pos this, Int.toNat_natCast]
  simp only [Rs.bind_ok, toD_own]
theorem lenD (xs : List D) : gLen [.lst xs] = some (.int xs.length) := by simp [gLen]
theorem wrL_len (o : Ow) : gLen [wrL o] = some (.int o.wr.length) := by simp [gLen, wrL]
theorem dr_get {S S1 S2 : AS} {A C : XD} {l : List D} {v : Nat} {x : D} (h : A S = .ok (.lst l) S1) (h2 : C S1 = .ok (.int (v : Nat)) S2) (hx : l[v]? = some x) : xB gIdx A C S = .ok x S2 := by
  have hl := (List.getElem?_eq_some_iff.mp hx).1
  have := dr_ok h h2 hl
  rwa [(List.getElem?_eq_some_iff.mp hx).2] at this
theorem ex_rt {M : XS} {S0 S' : AS} {x : OD} {μ' : Option (List OD)} (h : M S0 = .rt x S') (hμ : S'.μ = μ') : ∃ S', M S0 = .rt x S' ∧ S'.μ = μ' := ⟨S', h, hμ⟩
theorem n_t {S S1 : AS} {T : XT} (h : T S = .ok true S1) : xNot T S = .ok false S1 := n_ok h
theorem n_f {S S1 : AS} {T : XT} (h : T S = .ok false S1) : xNot T S = .ok true S1 := n_ok h
theorem run_cut_right {μ : List OD} {b k n t : Nat} {o : Ow} {bn : Bool} (h : St μ b k n o t) (hk : k < 100000) (ht : t ≤ 50) :
    ∃ o' m μ', f__law_cut_right [.obj b, .obj n, ownD o, .bl bn] (some μ) = .ok (.d (.lst [.obj m, ownD o'])) (some μ') ∧ St μ' b (k + 60) n o t ∧ St μ' b (k + 60) m o' t := by
  have hw : o.wr.length ≤ 50 := Nat.le_trans h.wl ht
  have ok := h.ok
  -- places
  obtain ⟨ys, μ1, hs, e1, B1⟩ := comp_pick (v := [some (.d (.obj b)), some (.d (.obj n)), some (.d (ownD o)), some (.d (.bl bn)), some (.d (.int o.wr.length)), none, none, none, none, none, none]) (b := b) rfl rfl (xs := List.range o.wr.length) [] h.box (by rw [List.length_range]; omega) (by rw [List.length_range]; simp; omega)
  rw [List.length_range] at B1
  rw [List.nil_append] at e1
  have h1 := h.bx B1
  obtain ⟨d2, μ2, hd2, e2, B2⟩ := tk_ok (v := [some (.d (.obj b)), some (.d (.obj n)), some (.d (ownD o)), some (.d (.bl bn)), some (.d (.int o.wr.length)), some (.d (.lst (ys.map fun i => D.int (0 + (i : Nat))))), none, none, none, none, none]) (i := 0) 3 rfl h1.box (by omega) (by decide) (by decide)
  have h2 := h1.bx B2
  obtain ⟨ns, hp, hb, hi, hl⟩ := pick3 hs hd2 (by omega)
  obtain ⟨d3, μ3, hd3, e3, B3⟩ := tk_ok (v := [some (.d (.obj b)), some (.d (.obj n)), some (.d (ownD o)), some (.d (.bl bn)), some (.d (.int o.wr.length)), some (.d (.lst (ns.map .int))), none, none, none, none, none]) (i := 0) 2 rfl h2.box (by omega) (by decide) (by decide)
  have h3 := h2.bx B3
  -- the cut
  obtain ⟨x, hx, ex⟩ : ∃ x : D, Seq x (ns.map .int) ∧ xIf (xT (xB gEq (tk 0 2) (xC (.int 0)))) (xV 5) (xG gTuple (xCons (xV 5) xNil)) ⟨[some (.d (.obj b)), some (.d (.obj n)), some (.d (ownD o)), some (.d (.bl bn)), some (.d (.int o.wr.length)), some (.d (.lst (ns.map .int))), none, none, none, none, none], some μ2⟩ = .ok x ⟨[some (.d (.obj b)), some (.d (.obj n)), some (.d (ownD o)), some (.d (.bl bn)), some (.d (.int o.wr.length)), some (.d (.lst (ns.map .int))), none, none, none, none, none], some μ3⟩ := by
    have et := t_ok (b_ok e3 (A := tk 0 2) (C := xC (.int 0)) rfl (gEq_int _ _))
    by_cases hz : ((d3 : Nat) : Int) = 0
    · rw [decide_eq_true hz] at et
      exact ⟨_, .inl rfl, if_tv et (v_ok rfl)⟩
    · rw [decide_eq_false hz] at et
      exact ⟨_, .inr rfl, if_fv et (g_ok (cs_ok (v_ok rfl) nl_ok) rfl)⟩
  have ec := run_cut h3.nd ok hx (by omega) hb hi
  have eo' : ownD (cutO o ns) = .lst [.int o.pages, .int o.width, txD (done o.wr o.las ns), txD (done o.wr o.las ns), .lst [], .non] := rfl
  generalize ho' : cutO o ns = o' at ec eo'
  generalize hm' : μ3.length = m at ec
  have ok' : Ok o' := ho' ▸ cut_ok ok ns
  have wr' : o'.wr.length = 0 := by rw [← ho']; rfl
  have em := met_rt (b := bn) (body_cut h3.nd ec)
  have h4 : St (μ3 ++ [node o']) b (k + o.wr.length + 1 + 1) n o t := h3.app _
  have hm4 : (μ3 ++ [node o'])[m]? = some (node o') := hm' ▸ get_last _ _
  -- is_disk twice
  have i1 := run_is_disk hm4 ok'
  have i2 := run_is_disk (get_old h4.nd (junk o')) ok
  have h6 := (h4.app (junk o')).app (junk o)
  have hm6 : ((μ3 ++ [node o']) ++ [junk o'] ++ [junk o])[m]? = some (node o') := get_old (get_old hm4 _) _
  obtain ⟨c8, el⟩ := put_loop (μ := ((μ3 ++ [node o']))) ok (a0 := some (.d (.obj b))) (a1 := some (.d (.obj n))) (a3 := some (.d (.bl bn))) (a4 := some (.d (.int o.wr.length))) (a5 := some (.d (.lst (ns.map .int)))) (a6 := some (.d (.lst [.str "told", .obj m]))) (a9 := none) (a10 := none) (ns := ns) (L := o.las) (c := none) hb ok.l
  obtain ⟨d7, μ7, hd7, e7, B7⟩ := tk_ok (v := [some (.d (.obj b)), some (.d (.obj n)), some (.d (ownD o)), some (.d (.bl bn)), some (.d (.int o.wr.length)), some (.d (.lst (ns.map .int))), some (.d (.lst [.str "told", .obj m])), some (.d (txD (done o.wr o.las ns))), c8, some (.d (ownD o')), none]) (i := 0) 11 rfl h6.box (by omega) (by decide) (by decide)
  have h7 := h6.bx B7
  have hm7 : μ7[m]? = some (node o') := by
    obtain ⟨z, rfl, _⟩ := B7
    exact nd_bx h6.box hm6
  have hd7' : d7 < (oddC o.wr.length).length := hd7
  have hmem : (oddC o.wr.length)[d7] ∈ oddC o.wr.length := List.getElem_mem hd7'
  generalize hodd : (oddC o.wr.length)[d7] = odd at hmem
  have eo := met_ex (b := bn) (body_cut_ex h7.nd (run_cut_no h7.nd (oddC_no hmem (some μ7)))) h_InvalidDone
  have es := run_same (some (μ7 ++ [.d .exn])) (oddC_ok hmem)
  have key : ∃ S', M__law_cut_right ⟨[some (.d (.obj b)), some (.d (.obj n)), some (.d (ownD o)), some (.d (.bl bn)), none, none, none, none, none, none, none], some μ⟩ = .rt (.d (.lst [.obj m, ownD o'])) S' ∧ S'.μ = some (μ7 ++ [.d .exn]) := by
    apply ex_rt
    · skip
      unfold M__law_cut_right
      refine seq_nx (as_ok (g_ok (cs_ok (b_ok (v_ok rfl) rfl own4) nl_ok) (wrL_len o)) (by show 4 < 11; decide) rfl) ?_
      refine seq_nx (S' := ⟨[some (.d (.obj b)), some (.d (.obj n)), some (.d (ownD o)), some (.d (.bl bn)), some (.d (.int o.wr.length)), some (.d (.lst (ys.map fun i => D.int (0 + (i : Nat))))), none, none, none, none, none], some μ1⟩) ?_ ?_
      · have hr : xR1 (xCons (xV 4) xNil) ⟨[some (.d (.obj b)), some (.d (.obj n)), some (.d (ownD o)), some (.d (.bl bn)), some (.d (.int o.wr.length)), none, none, none, none, none, none], some μ⟩ = .ok ((List.range o.wr.length).map fun i => D.int (0 + (i : Nat))) ⟨[some (.d (.obj b)), some (.d (.obj n)), some (.d (ownD o)), some (.d (.bl bn)), some (.d (.int o.wr.length)), none, none, none, none, none, none], some μ⟩ :=
          xR1_len (cs_ok (v_ok rfl) nl_ok) (by omega)
        have hcl : clr [8] (⟨[some (.d (.obj b)), some (.d (.obj n)), some (.d (ownD o)), some (.d (.bl bn)), some (.d (.int o.wr.length)), none, none, none, none, none, none], some μ⟩ : AS) = ⟨[some (.d (.obj b)), some (.d (.obj n)), some (.d (ownD o)), some (.d (.bl bn)), some (.d (.int o.wr.length)), none, none, none, none, none, none], some μ⟩ := rfl
        show sAsg _ _ ⟨[some (.d (.obj b)), some (.d (.obj n)), some (.d (ownD o)), some (.d (.bl bn)), some (.d (.int o.wr.length)), none, none, none, none, none, none], some μ⟩ = _
        have hx : xComp [8] (xR1 (xCons (xV 4) xNil)) (.nm 8) (xT (xB gEq (tk 0 2) (xC (.int 0)))) (xV 8) ⟨[some (.d (.obj b)), some (.d (.obj n)), some (.d (ownD o)), some (.d (.bl bn)), some (.d (.int o.wr.length)), none, none, none, none, none, none], some μ⟩ = .ok (.own ((ys.map fun i => D.int (0 + (i : Nat))).map .d)) ⟨[some (.d (.obj b)), some (.d (.obj n)), some (.d (ownD o)), some (.d (.bl bn)), some (.d (.int o.wr.length)), none, none, none, none, none, none], some μ1⟩ := by
          rw [xComp, hr]
          simp only [Rs.bind_ok, hcl, e1]
        rw [sAsg, hx]
        simp only [Rs.out_ok, xgN, frz, toD_own, Option.map_some, Bool.false_eq_true, if_false]
        rfl
      refine seq_nx (as_ok (x := .lst (ns.map .int)) (S1 := ⟨[some (.d (.obj b)), some (.d (.obj n)), some (.d (ownD o)), some (.d (.bl bn)), some (.d (.int o.wr.length)), some (.d (.lst (ys.map fun i => D.int (0 + (i : Nat))))), none, none, none, none, none], some μ2⟩) ?_ (by show 5 < 11; decide) rfl) ?_
      · exact dr_get (ls_ok (cs_ok (v_ok rfl) (cs_ok (ls_ok nl_ok (by simp)) (cs_ok (lr_ok (v_ok rfl) (by omega)) nl_ok))) (by simp)) e2 hp
      refine seq_nx (as_ok (cl_ok (cs_ok (v_ok rfl) (cs_ok (x := .str "cut") rfl (cs_ok (ls_ok (cs_ok ex nl_ok) (by simp)) (cs_ok (v_ok rfl) nl_ok)))) em rfl rfl) (by show 6 < 11; decide) rfl) ?_
      refine seq_nx (if_f (or_f (t_ok (b_ok (b_ok (v_ok rfl) rfl rfl) rfl rfl)) (n_t (t_ok (isO_ok (S1 := ⟨_, some (μ3 ++ [node o'])⟩) (b_ok (v_ok rfl) rfl rfl) hm4)))) rfl) ?_
      refine seq_nx (as_ok (b_ok (v_ok rfl) rfl own3) (by show 7 < 11; decide) rfl) ?_
      refine seq_nx (S' := ⟨[some (.d (.obj b)), some (.d (.obj n)), some (.d (ownD o)), some (.d (.bl bn)), some (.d (.int o.wr.length)), some (.d (.lst (ns.map .int))), some (.d (.lst [.str "told", .obj m])), some (.d (txD (done o.wr o.las ns))), c8, none, none], some (μ3 ++ [node o'])⟩) ?_ ?_
      · have hI : xI (xV 5) (⟨[some (.d (.obj b)), some (.d (.obj n)), some (.d (ownD o)), some (.d (.bl bn)), some (.d (.int o.wr.length)), some (.d (.lst (ns.map .int))), some (.d (.lst [.str "told", .obj m])), some (.d (txD o.las)), none, none, none], some (μ3 ++ [node o'])⟩ : AS) = .ok (ns.map .int) ⟨[some (.d (.obj b)), some (.d (.obj n)), some (.d (ownD o)), some (.d (.bl bn)), some (.d (.int o.wr.length)), some (.d (.lst (ns.map .int))), some (.d (.lst [.str "told", .obj m])), some (.d (txD o.las)), none, none, none], some (μ3 ++ [node o'])⟩ := rfl
        show sFor _ _ _ (⟨[some (.d (.obj b)), some (.d (.obj n)), some (.d (ownD o)), some (.d (.bl bn)), some (.d (.int o.wr.length)), some (.d (.lst (ns.map .int))), some (.d (.lst [.str "told", .obj m])), some (.d (txD o.las)), none, none, none], some (μ3 ++ [node o'])⟩ : AS) = _
        rw [sFor, hI]
        exact el
      refine seq_nx (as_ok (x := ownD o') (eo' ▸ ls_ok (cs_ok (b_ok (v_ok rfl) rfl own0) (cs_ok (b_ok (v_ok rfl) rfl own1) (cs_ok (v_ok rfl) (cs_ok (v_ok rfl) (cs_ok (ls_ok nl_ok (by simp)) (cs_ok rfl nl_ok)))))) (by simp)) (by show 9 < 11; decide) rfl) ?_
      refine seq_nx (if_f (or_f (n_t (t_ok (cl_ok (cs_ok (b_ok (v_ok rfl) rfl rfl) (cs_ok (v_ok rfl) nl_ok)) i1 rfl rfl))) (n_t (t_ok (cl_ok (cs_ok (v_ok rfl) (cs_ok (v_ok rfl) nl_ok)) i2 rfl rfl)))) rfl) ?_
      refine seq_nx (as_ok (x := odd) (S1 := ⟨[some (.d (.obj b)), some (.d (.obj n)), some (.d (ownD o)), some (.d (.bl bn)), some (.d (.int o.wr.length)), some (.d (.lst (ns.map .int))), some (.d (.lst [.str "told", .obj m])), some (.d (txD (done o.wr o.las ns))), c8, some (.d (ownD o')), none], some μ7⟩) ?_ (by show 10 < 11; decide) rfl) ?_
      rotate_left
      · have h10 : (10 : Nat) < 11 := by decide
        refine seq_nx (if_f (n_t (t_ok (cl_ok (cs_ok (cl_ok (cs_ok (v_ok rfl) (cs_ok (x := .str "cut") rfl (cs_ok (ls_ok (cs_ok (v_ok rfl) nl_ok) (by simp)) (cs_ok (v_ok rfl) nl_ok)))) eo rfl rfl) (cs_ok (ls_ok (cs_ok (x := .str "done") rfl (cs_ok (v_ok rfl) (cs_ok (x := .bl true) rfl nl_ok))) (by simp)) nl_ok)) es rfl rfl))) rfl) ?_
        exact rt_ok (ls_ok (cs_ok (b_ok (v_ok rfl) rfl rfl) (cs_ok (v_ok rfl) nl_ok)) (by simp))
      · rw [← hodd]
        refine dr_ok (l := oddC o.wr.length) (ls_ok ?_ (by show 11 ≤ 1000000; decide)) e7 hd7'
        exact cs_ok rfl (cs_ok (ls_ok (cs_ok (v_ok rfl) nl_ok) (by simp)) (cs_ok (ls_ok (cs_ok rfl nl_ok) (by simp)) (cs_ok (ls_ok (cs_ok rfl (cs_ok rfl nl_ok)) (by simp)) (cs_ok (ls_ok (cs_ok rfl (cs_ok rfl nl_ok)) (by simp)) (cs_ok (ls_ok (cs_ok rfl nl_ok) (by simp)) (cs_ok (ls_ok (cs_ok rfl nl_ok) (by simp)) (cs_ok rfl (cs_ok rfl (cs_ok rfl (cs_ok (ls_ok (cs_ok rfl nl_ok) (by simp)) nl_ok))))))))))
    rfl
  refine ⟨o', m, μ7 ++ [.d .exn], ?_, (h7.app _).mono (by omega) (by omega), ⟨(h7.app _).box.mono (by omega), get_old hm7 _, ok', by rw [wr']; omega⟩⟩
  obtain ⟨S', key, hS⟩ := key
  rw [← hS]
  exact fn_rt (S := S') rfl key
end K75
end
section
set_option Elab.async false
set_option linter.all false
set_option maxRecDepth 100000
set_option maxHeartbeats 2000000
/-! the plain law, 30: a step, its ways; a write -/
namespace K75
open PySem PySem.Spec PyProof.Rows L2 Mi
def KWRITE : XS := (sSeq (sAsg (xU (xF (xCall f__law_text none (xCons (xV 0) (xCons (xB gIdx (xV 2) (xC (.int 1))) xNil))))) (xgN false 7)) (sSeq (sPar false false 4 11 (xoCons (xU (xF (xCall f__law_met none (xCons (xV 1) (xCons (xC (.str "write")) (xCons (xLst (xCons (xV 6) (xCons (xV 7) xNil))) (xCons (xV 3) xNil))))))) (xoCons (xU (xIf (xT (xB gNe (xB gIdx (xV 2) (xC (.int 5))) (xC (.int 0)))) (xLst (xCons (xC (.str "told")) (xCons (xC .non) xNil))) (xLst (xCons (xC (.str "cut")) (xCons (xC (.bl true)) xNil))))) xoNil))) (sSeq (sIf (xT (xB gNe (xB gIdx (xV 2) (xC (.int 5))) (xC (.int 0)))) (sAsg (xU (xLst (xCons (xB gIdx (xV 2) (xC (.int 0))) (xCons (xB gIdx (xV 2) (xC (.int 1))) (xCons (xF (xCall f__law_put none (xCons (xB gIdx (xV 2) (xC (.int 2))) (xCons (xV 6) (xCons (xV 7) xNil))))) (xCons (xB gIdx (xV 2) (xC (.int 3))) (xCons (xB gAdd (xB gIdx (xV 2) (xC (.int 4))) (xLst (xCons (xTup (xCons (xV 6) (xCons (xV 7) xNil))) xNil))) (xCons (xIf (xT (xB gIs (xB gIdx (xV 2) (xC (.int 5))) (xC .non))) (xC .non) (xB Mi.gSub (xB gIdx (xV 2) (xC (.int 5))) (xC (.int 1)))) xNil)))))))) (xgN false 2)) sNil) (sRet (xU (xIf (xT (xF (xCall (f__law_same 8) none (xCons (xV 4) (xCons (xV 11) xNil))))) (xV 2) (xC .non)))))))
def KSETTLE : XS := (sSeq (sPar false false 4 11 (xoCons (xU (xF (xCall f__law_met none (xCons (xV 1) (xCons (xC (.str "settle")) (xCons (xLst xNil) (xCons (xV 3) xNil))))))) (xoCons (xU (xIf (xT (xB gNe (xB gIdx (xV 2) (xC (.int 5))) (xC (.int 0)))) (xLst (xCons (xC (.str "told")) (xCons (xC .non) xNil))) (xLst (xCons (xC (.str "cut")) (xCons (xC (.bl true)) xNil))))) xoNil))) (sSeq (sIf (xT (xB gNe (xB gIdx (xV 2) (xC (.int 5))) (xC (.int 0)))) (sAsg (xU (xLst (xCons (xB gIdx (xV 2) (xC (.int 0))) (xCons (xB gIdx (xV 2) (xC (.int 1))) (xCons (xB gIdx (xV 2) (xC (.int 2))) (xCons (xB gIdx (xV 2) (xC (.int 2))) (xCons (xLst xNil) (xCons (xIf (xT (xB gIs (xB gIdx (xV 2) (xC (.int 5))) (xC .non))) (xC .non) (xB Mi.gSub (xB gIdx (xV 2) (xC (.int 5))) (xC (.int 1)))) xNil)))))))) (xgN false 2)) sNil) (sRet (xU (xIf (xT (xF (xCall (f__law_same 8) none (xCons (xV 4) (xCons (xV 11) xNil))))) (xV 2) (xC .non))))))
def KSTOP : XS := (sSeq (sAsg (xU (xB gIdx (xLst (xCons (xC .non) (xCons (xC (.int 0)) (xCons (xC (.int 1)) (xCons (xB gAdd (xC (.int 1)) (xF (xCall f__law_take none (xCons (xV 0) (xCons (xC (.int 5)) xNil))))) (xCons (xB gPow (xC (.int 10)) (xC (.int 19))) xNil)))))) (xF (xCall f__law_take none (xCons (xV 0) (xCons (xC (.int 5)) xNil)))))) (xgN false 8)) (sRet (xU (xIf (xT (xF (xCall (f__law_same 8) none (xCons (xF (xCall f__law_met none (xCons (xV 1) (xCons (xC (.str "stop")) (xCons (xLst (xCons (xV 8) xNil)) (xCons (xV 3) xNil)))))) (xCons (xLst (xCons (xC (.str "told")) (xCons (xC .non) xNil))) xNil))))) (xB gAdd (xSl (xV 2) xP0 (xP1 (xC (.int 5)))) (xLst (xCons (xV 8) xNil))) (xC .non)))))
def KODD : XS := (sSeq (sAsg (xU (xB gIdx (xLst (xCons (xUn gNeg (xC (.int 1))) (xCons (xC (.bl true)) (xCons (xC (.str "1")) (xCons (xTup (xCons (xC (.int 1)) xNil)) (xCons (xLst (xCons (xC (.int 1)) xNil)) (xCons (xC (.dct [])) (xCons (xC (.bl false)) xNil)))))))) (xF (xCall f__law_take none (xCons (xV 0) (xCons (xC (.int 7)) xNil)))))) (xgN false 9)) (sRet (xU (xIf (xT (xF (xCall (f__law_same 8) none (xCons (xF (xCall f__law_met none (xCons (xV 1) (xCons (xC (.str "stop")) (xCons (xLst (xCons (xV 9) xNil)) (xCons (xV 3) xNil)))))) (xCons (xLst (xCons (xC (.str "many")) (xCons (xV 9) (xCons (xC (.bl true)) xNil)))) xNil))))) (xV 2) (xC .non)))))
def KNONE : XS := (sSeq (sPar false false 10 7 (xoCons (xU (xF (xCall f__law_no_page none (xCons (xV 0) (xCons (xB gIdx (xV 2) (xC (.int 0))) xNil))))) (xoCons (xU (xF (xCall f__law_no_text none (xCons (xV 0) (xCons (xB gIdx (xV 2) (xC (.int 1))) xNil))))) xoNil))) (sSeq (sAsg (xU (xLst (xCons (xF (xCall f__law_met none (xCons (xV 1) (xCons (xC (.str "write")) (xCons (xLst (xCons (xV 10) (xCons (xV 7) xNil))) (xCons (xV 3) xNil)))))) (xCons (xF (xCall f__law_met none (xCons (xV 1) (xCons (xC (.str "write")) (xCons (xLst (xCons (xV 6) (xCons (xV 7) xNil))) (xCons (xNotV (xV 3)) xNil)))))) (xCons (xF (xCall f__law_met none (xCons (xV 1) (xCons (xC (.str "text")) (xCons (xLst (xCons (xV 10) xNil)) (xCons (xV 3) xNil)))))) xNil))))) (xgN false 4)) (sRet (xU (xIf (xT (xF (xCall (f__law_same 8) none (xCons (xV 4) (xCons (xLst (xCons (xLst (xCons (xC (.str "page")) (xCons (xV 10) (xCons (xC (.bl true)) xNil)))) (xCons (xLst (xCons (xC (.str "text")) (xCons (xV 7) (xCons (xC (.bl true)) xNil)))) (xCons (xLst (xCons (xC (.str "page")) (xCons (xV 10) (xCons (xC (.bl true)) xNil)))) xNil)))) xNil))))) (xV 2) (xC .non))))))
theorem step_eq : M__law_step = sSeq (sPar false false 5 6 (xoCons (xU (xF (xCall f__law_take none (xCons (xV 0) (xCons (xC (.int 10)) xNil))))) (xoCons (xU (xF (xCall f__law_take none (xCons (xV 0) (xCons (xB gIdx (xV 2) (xC (.int 0))) xNil))))) xoNil))) (sSeq (sIf (xT (xB gLt (xV 5) (xC (.int 4)))) KWRITE sNil) (sSeq (sIf (xT (xB gLt (xV 5) (xC (.int 6)))) KSETTLE sNil) (sSeq (sIf (xT (xB gEq (xV 5) (xC (.int 6)))) KSTOP sNil) (sSeq (sIf (xT (xB gEq (xV 5) (xC (.int 7)))) KODD sNil) KNONE)))) := rfl
section
variable {S : AS} {o : Ow}
theorem gNe_ints (a b : Int) : gNe (.int a) (.int b) = some (.bl (!decide (a = b))) := by
  show Option.map (fun b => D.bl (!b)) (if SeqAt.shaped (.int a) = true ∧ SeqAt.shaped (.int b) = true then some (PyData.eqv (.int a) (.int b)) else none) = _
  rw [if_pos ⟨rfl, rfl⟩]
  show some (D.bl (!(a == b))) = _
  by_cases h : a = b <;> simp [h]
theorem gNe_lf (k : Option Nat) : gNe (lfD k) (.int 0) = some (.bl (!decide (k = some 0))) := by
  cases k with
  | none => rfl
  | some k =>
    rw [lfD, gNe_ints]
    cases k with
    | zero => rfl
    | succ k =>
      have : ¬ (((k + 1 : Nat) : Int) = 0) := by omega
      rw [decide_eq_false this, decide_eq_false (by simp)]
theorem ne5 (h : S.v[2]? = some (some (.d (ownD o)))) : xT (xB gNe (xB gIdx (xV 2) (xC (.int 5))) (xC (.int 0))) S = .ok (!decide (o.lf = some 0)) S := t_ok (b_ok (b_ok (v_ok h) rfl own5) rfl (gNe_lf _))
theorem ne5_t (h : S.v[2]? = some (some (.d (ownD o)))) (h0 : o.lf ≠ some 0) : xT (xB gNe (xB gIdx (xV 2) (xC (.int 5))) (xC (.int 0))) S = .ok true S := by rw [ne5 h, decide_eq_false h0]; rfl
theorem ne5_f (h : S.v[2]? = some (some (.d (ownD o)))) (h0 : o.lf = some 0) : xT (xB gNe (xB gIdx (xV 2) (xC (.int 5))) (xC (.int 0))) S = .ok false S := by rw [ne5 h, decide_eq_true h0]; rfl
theorem dec5 (h : S.v[2]? = some (some (.d (ownD o)))) (h0 : o.lf ≠ some 0) : xIf (xT (xB gIs (xB gIdx (xV 2) (xC (.int 5))) (xC .non))) (xC .non) (xB Mi.gSub (xB gIdx (xV 2) (xC (.int 5))) (xC (.int 1))) S = .ok (lfD (spent o).lf) S := by
  have e5 : xB gIdx (xV 2) (xC (.int 5)) S = .ok (lfD o.lf) S := b_ok (v_ok h) rfl own5
  cases hl : o.lf with
  | none =>
    rw [hl] at e5
    have : (spent o).lf = none := by simp [spent, hl]
    rw [this]
    exact if_tv (t_ok (b_ok e5 rfl rfl)) rfl
  | some k =>
    rw [hl] at e5 h0
    have : (spent o).lf = some (k - 1) := by simp [spent, hl]
    rw [this]
    refine if_fv (t_ok (b_ok e5 rfl rfl)) (b_ok e5 rfl ?_)
    show some (D.int _) = some (D.int _)
    have : k ≠ 0 := fun z => h0 (by rw [z])
    congr 2
    omega
end
theorem ok_wr {o : Ow} (ok : Ok o) {p : Nat} {s : Str} (hp : p < o.pages) (hw : o.wr.length ≤ 50) : Ok { spent o with cur := o.cur.set p s, wr := o.wr ++ [(p, s)] } :=
  ⟨ok.p1, ok.p2, ok.w1, ok.w2, by show (o.cur.set p s).length = _; rw [List.length_set]; exact ok.c, ok.l, by show (o.wr ++ [(p, s)]).length < _; simp; omega, fun q hq => by
    rcases List.mem_append.mp hq with hq | hq
    · exact ok.r q hq
    · rw [List.mem_singleton.mp hq]; exact hp⟩
theorem ok_se {o : Ow} (ok : Ok o) : Ok { spent o with las := o.cur, wr := [] } :=
  ⟨ok.p1, ok.p2, ok.w1, ok.w2, ok.c, ok.c, by show 0 < 100000; decide, fun q hq => by cases hq⟩
theorem ok_lf {o : Ow} (ok : Ok o) (k : Option Nat) : Ok { o with lf := k } := ⟨ok.p1, ok.p2, ok.w1, ok.w2, ok.c, ok.l, ok.n, ok.r⟩
theorem same_told (μ : Option (List OD)) : f__law_same 8 [.lst [.str "told", .non], .lst [.str "told", .non]] μ = .ok (.d (.bl true)) μ := run_same μ rfl
theorem same_cut (μ : Option (List OD)) : f__law_same 8 [.lst [.str "cut", .bl true], .lst [.str "cut", .bl true]] μ = .ok (.d (.bl true)) μ := run_same μ rfl
theorem fin_rt {M : XS} {S0 S' : AS} {o' : Ow} {b k n t : Nat} {μ' : List OD} (h : M S0 = .rt (.d (ownD o')) S') (hμ : S'.μ = some μ') (hs : St μ' b k n o' t) : ∃ o' S', M S0 = .rt (.d (ownD o')) S' ∧ ∃ μ', S'.μ = some μ' ∧ St μ' b k n o' t := ⟨o', S', h, μ', hμ, hs⟩
abbrev S5 (b n : Nat) (o : Ow) (bn : Bool) (w p : Nat) (μ : List OD) : AS := ⟨[some (.d (.obj b)), some (.d (.obj n)), some (.d (ownD o)), some (.d (.bl bn)), none, some (.d (.int w)), some (.d (.int p)), none, none, none, none, none], some μ⟩
section
variable {μ : List OD} {b k n t w p : Nat} {o : Ow} {bn : Bool}
theorem st_write (h : St μ b k n o t) (hk : k < 200000) (ht : t ≤ 50) (hp : p < o.pages) : ∃ o' S', KWRITE (S5 b n o bn w p μ) = .rt (.d (ownD o')) S' ∧ ∃ μ', S'.μ = some μ' ∧ St μ' b (k + 4) n o' (t + 1) := by
  have ok := h.ok
  obtain ⟨s, μ1, e1, hs, B1⟩ := run_text_made h.box (by omega) ⟨ok.w1, ok.w2⟩
  have h1 := h.bx B1
  have hz : s.length ≤ sizeLine := by
    have : s.length ≤ o.width := by simp [okT] at hs; exact hs.1
    have := ok.w2
    rw [sizeLine_eq]; omega
  by_cases h0 : o.lf = some 0
  · have em := met_ex (b := bn) (body_write_ex h1.nd (run_write_cut hz h1.nd hp ok.w2 hs h0)) h_PowerCut
    apply fin_rt (o' := o) (hs := ((h1.app (.d .exn)).mono (by omega) (by omega)))
    unfold KWRITE
    refine seq_nx (as_ok (cl_ok (cs_ok (v_ok rfl) (cs_ok (b_ok (v_ok rfl) rfl own1) nl_ok)) e1 rfl rfl) (by show 7 < 12; decide) rfl) ?_
    refine seq_nx (pr_ok (cl_ok (cs_ok (v_ok rfl) (cs_ok (x := .str "write") rfl (cs_ok (ls_ok (cs_ok (v_ok rfl) (cs_ok (v_ok rfl) nl_ok)) (by simp)) (cs_ok (v_ok rfl) nl_ok)))) em rfl rfl) (if_fv (ne5_f rfl h0) (ls_ok (cs_ok (x := .str "cut") rfl (cs_ok (x := .bl true) rfl nl_ok)) (by simp))) (by show 4 < 12; decide) (by show 11 < 12; decide) rfl) ?_
    refine seq_nx (if_f (ne5_f rfl h0) rfl) ?_
    exact rt_ok (if_tv (t_ok (cl_ok (cs_ok (v_ok rfl) (cs_ok (v_ok rfl) nl_ok)) (same_cut _) rfl rfl)) (v_ok rfl))
    rfl
  · have em := met_rt (b := bn) (body_write h1.nd (run_write h1.nd ok hp hs h0))
    have hput := run_put (l := o.cur) (p := p) (t := s) (μ := some (μ1.set n (node { spent o with cur := o.cur.set p s, wr := o.wr ++ [(p, s)] }))) (by rw [ok.c]; exact hp) (by rw [ok.c]; have := ok.p2; omega)
    have hadd : gAdd (wrL o) (.lst [.tup [.int p, .str s]]) = some (wrL { spent o with cur := o.cur.set p s, wr := o.wr ++ [(p, s)] }) := by
      show (if _ then _ else _) = _
      have := h.wl
      rw [if_pos (by rw [sizeLine_eq]; simp; omega)]
      simp [wrL, wrD]
    apply fin_rt (o' := { spent o with cur := o.cur.set p s, wr := o.wr ++ [(p, s)] }) (hs := ((h1.put (s := t + 1) (ok_wr ok hp (Nat.le_trans h.wl ht)) (by show (o.wr ++ [(p, s)]).length ≤ _; have := h.wl; simp; omega)).mono (by omega) (by omega)))
    unfold KWRITE
    refine seq_nx (as_ok (cl_ok (cs_ok (v_ok rfl) (cs_ok (b_ok (v_ok rfl) rfl own1) nl_ok)) e1 rfl rfl) (by show 7 < 12; decide) rfl) ?_
    refine seq_nx (pr_ok (cl_ok (cs_ok (v_ok rfl) (cs_ok (x := .str "write") rfl (cs_ok (ls_ok (cs_ok (v_ok rfl) (cs_ok (v_ok rfl) nl_ok)) (by simp)) (cs_ok (v_ok rfl) nl_ok)))) em rfl rfl) (if_tv (ne5_t rfl h0) (ls_ok (cs_ok (x := .str "told") rfl (cs_ok (x := .non) rfl nl_ok)) (by simp))) (by show 4 < 12; decide) (by show 11 < 12; decide) rfl) ?_
    refine seq_nx (if_t (ne5_t rfl h0) (as_ok (x := ownD { spent o with cur := o.cur.set p s, wr := o.wr ++ [(p, s)] }) (ls_ok (cs_ok (b_ok (v_ok rfl) rfl own0) (cs_ok (b_ok (v_ok rfl) rfl own1) (cs_ok (cl_ok (cs_ok (b_ok (v_ok rfl) rfl own2) (cs_ok (v_ok rfl) (cs_ok (v_ok rfl) nl_ok))) hput rfl rfl) (cs_ok (b_ok (v_ok rfl) rfl own3) (cs_ok (b_ok (b_ok (v_ok rfl) rfl own4) (ls_ok (cs_ok (tu_ok (cs_ok (v_ok rfl) (cs_ok (v_ok rfl) nl_ok)) (by simp)) nl_ok) (by simp)) hadd) (cs_ok (dec5 rfl h0) nl_ok)))))) (by simp)) (by show 2 < 12; decide) rfl)) ?_
    exact rt_ok (if_tv (t_ok (cl_ok (cs_ok (v_ok rfl) (cs_ok (v_ok rfl) nl_ok)) (same_told _) rfl rfl)) (v_ok rfl))
    rfl
end
end K75
end
section
set_option Elab.async false
set_option linter.all false
set_option maxRecDepth 100000
set_option maxHeartbeats 2000000
/-! the plain law, 31: the other ways of a step -/
namespace K75
open PySem PySem.Spec PyProof.Rows L2 Mi
theorem sl_hi {S S1 : AS} {A : XD} {x z : D} {i : Int} (h : A S = .ok x S1) (g : gSl x none (some i) = some z) : xSl A xP0 (xP1 (xC (.int i))) S = .ok z S1 := by
  unfold xSl xP0 xP1 xC
  simp only [h, Rs.bind_ok, g]
theorem nv_ok {S S1 : AS} {A : XD} {c : Bool} (h : A S = .ok (.bl c) S1) : xNotV A S = .ok (.bl (!c)) S1 := by
  unfold xNotV; simp only [h, Rs.bind_ok]
theorem gAdd_lst {xs ys : List D} (h : xs.length + ys.length ≤ sizeLine) : gAdd (.lst xs) (.lst ys) = some (.lst (xs ++ ys)) := if_pos h
def stops (d : Nat) : List D := [.non, .int 0, .int 1, .int (1 + (d : Nat)), .int (10 ^ 19)]
theorem stops_ok {d : Nat} {x : D} (h : x ∈ stops d) : ∃ k, stopX x = some k ∧ lfD k = x ∧ pl x = true := by
  simp only [stops, List.mem_cons, List.not_mem_nil, or_false] at h
  rcases h with rfl | rfl | rfl | rfl | rfl
  · exact ⟨none, rfl, rfl, rfl⟩
  · exact ⟨some 0, rfl, rfl, rfl⟩
  · exact ⟨some 1, rfl, rfl, rfl⟩
  · refine ⟨some (1 + d), ?_, ?_, rfl⟩
    · have : (0 : Int) ≤ 1 + (d : Nat) := by omega
      have e : ((1 + (d : Nat) : Int)).toNat = 1 + d := by omega
      simp only [stopX, if_pos this, e]
    · show D.int _ = D.int _
      congr 1
  · exact ⟨some (10 ^ 19), by decide, by rfl, rfl⟩
def oddS : List D := [.int (-1), .bl true, .str "1", .tup [.int 1], .lst [.int 1], .dct [], .bl false]
theorem oddS_ok {x : D} (h : x ∈ oddS) : stopX x = none ∧ pl x = true ∧ okV 8 (.lst [.str "many", x, .bl true]) = true := by
  simp only [oddS, List.mem_cons, List.not_mem_nil, or_false] at h
  rcases h with rfl | rfl | rfl | rfl | rfl | rfl | rfl <;> exact ⟨rfl, rfl, rfl⟩
section
variable {μ : List OD} {b k n t w p : Nat} {o : Ow} {bn : Bool}
theorem st_settle (h : St μ b k n o t) : ∃ o' S', KSETTLE (S5 b n o bn w p μ) = .rt (.d (ownD o')) S' ∧ ∃ μ', S'.μ = some μ' ∧ St μ' b (k + 4) n o' (t + 1) := by
  have ok := h.ok
  by_cases h0 : o.lf = some 0
  · have em := met_ex (b := bn) (body_settle_ex h.nd (run_settle_cut h.nd h0)) h_PowerCut
    apply fin_rt (o' := o) (hs := ((h.app (.d .exn)).mono (by omega) (by omega)))
    unfold KSETTLE
    refine seq_nx (pr_ok (cl_ok (cs_ok (v_ok rfl) (cs_ok (x := .str "settle") rfl (cs_ok (ls_ok nl_ok (by simp)) (cs_ok (v_ok rfl) nl_ok)))) em rfl rfl) (if_fv (ne5_f rfl h0) (ls_ok (cs_ok (x := .str "cut") rfl (cs_ok (x := .bl true) rfl nl_ok)) (by simp))) (by show 4 < 12; decide) (by show 11 < 12; decide) rfl) ?_
    refine seq_nx (if_f (ne5_f rfl h0) rfl) ?_
    exact rt_ok (if_tv (t_ok (cl_ok (cs_ok (v_ok rfl) (cs_ok (v_ok rfl) nl_ok)) (same_cut _) rfl rfl)) (v_ok rfl))
    rfl
  · have em := met_rt (b := bn) (body_settle h.nd (run_settle h.nd h0))
    apply fin_rt (o' := { spent o with las := o.cur, wr := [] }) (hs := ((h.put (s := t + 1) (ok_se ok) (by show 0 ≤ t + 1; omega)).mono (by omega) (by omega)))
    unfold KSETTLE
    refine seq_nx (pr_ok (cl_ok (cs_ok (v_ok rfl) (cs_ok (x := .str "settle") rfl (cs_ok (ls_ok nl_ok (by simp)) (cs_ok (v_ok rfl) nl_ok)))) em rfl rfl) (if_tv (ne5_t rfl h0) (ls_ok (cs_ok (x := .str "told") rfl (cs_ok (x := .non) rfl nl_ok)) (by simp))) (by show 4 < 12; decide) (by show 11 < 12; decide) rfl) ?_
    refine seq_nx (if_t (ne5_t rfl h0) (as_ok (x := ownD { spent o with las := o.cur, wr := [] }) (ls_ok (cs_ok (b_ok (v_ok rfl) rfl own0) (cs_ok (b_ok (v_ok rfl) rfl own1) (cs_ok (b_ok (v_ok rfl) rfl own2) (cs_ok (b_ok (v_ok rfl) rfl own2) (cs_ok (ls_ok nl_ok (by simp)) (cs_ok (dec5 rfl h0) nl_ok)))))) (by simp)) (by show 2 < 12; decide) rfl)) ?_
    exact rt_ok (if_tv (t_ok (cl_ok (cs_ok (v_ok rfl) (cs_ok (v_ok rfl) nl_ok)) (same_told _) rfl rfl)) (v_ok rfl))
    rfl
theorem st_stop (h : St μ b k n o t) (hk : k < 200000) : ∃ o' S', KSTOP (S5 b n o bn w p μ) = .rt (.d (ownD o')) S' ∧ ∃ μ', S'.μ = some μ' ∧ St μ' b (k + 4) n o' (t + 1) := by
  have ok := h.ok
  obtain ⟨d1, μ1, hd1, e1, B1⟩ := tk_ok (v := (S5 b n o bn w p μ).v) (i := 0) 5 rfl h.box (by omega) (by decide) (by decide)
  have h1 := h.bx B1
  obtain ⟨d2, μ2, hd2, e2, B2⟩ := tk_ok (v := (S5 b n o bn w p μ).v) (i := 0) 5 rfl h1.box (by omega) (by decide) (by decide)
  have h2 := h1.bx B2
  have hd2' : d2 < (stops d1).length := hd2
  have hmem : (stops d1)[d2] ∈ stops d1 := List.getElem_mem hd2'
  generalize hx : (stops d1)[d2] = x at hmem
  obtain ⟨s, hs1, hs2, hs3⟩ := stops_ok hmem
  have er := run_stop (x := x) hs3 h2.nd
  rw [hs1] at er
  have em := met_rt (b := bn) (body_stop h2.nd er)
  have hsl : gSl (ownD o) none (some 5) = some (.lst [.int o.pages, .int o.width, txD o.cur, txD o.las, wrL o]) := by
    have := cut_hi (xs := [D.int o.pages, .int o.width, txD o.cur, txD o.las, wrL o, lfD o.lf]) (p := 5) (by show 5 ≤ 6; decide)
    show some (D.lst (Mi.cutD _ none (some ((5 : Nat) : Int)))) = _
    rw [this]
    rfl
  have hadd : gAdd (.lst [.int o.pages, .int o.width, txD o.cur, txD o.las, wrL o]) (.lst [x]) = some (ownD { o with lf := s }) := by
    rw [gAdd_lst (by rw [sizeLine_eq]; show 6 ≤ 16777216; decide), ← hs2]
    rfl
  have gp : gPow (.int 10) (.int 19) = some (.int (10 ^ 19)) := by simp [gPow]
  apply fin_rt (o' := { o with lf := s }) (hs := ((h2.put (s := t + 1) (ok_lf ok s) (by have := h.wl; show o.wr.length ≤ t + 1; omega)).mono (by omega) (by omega)))
  unfold KSTOP
  refine seq_nx (as_ok (x := x) (S1 := ⟨(S5 b n o bn w p μ).v, some μ2⟩) ?_ (by show 8 < 12; decide) rfl) ?_
  · rw [← hx]
    exact dr_ok (l := stops d1) (ls_ok (cs_ok rfl (cs_ok rfl (cs_ok rfl (cs_ok (b_ok rfl e1 (gAdd_int _ _)) (cs_ok (b_ok rfl rfl gp) nl_ok))))) (by show 5 ≤ 1000000; decide)) e2 hd2'
  exact rt_ok (if_tv (t_ok (cl_ok (cs_ok (cl_ok (cs_ok (v_ok rfl) (cs_ok (x := .str "stop") rfl (cs_ok (ls_ok (cs_ok (v_ok rfl) nl_ok) (by simp)) (cs_ok (v_ok rfl) nl_ok)))) em rfl rfl) (cs_ok (ls_ok (cs_ok (x := .str "told") rfl (cs_ok (x := .non) rfl nl_ok)) (by simp)) nl_ok)) (same_told _) rfl rfl)) (b_ok (sl_hi (v_ok rfl) hsl) (ls_ok (cs_ok (v_ok rfl) nl_ok) (by simp)) hadd))
  rfl
theorem st_odd (h : St μ b k n o t) (hk : k < 200000) : ∃ o' S', KODD (S5 b n o bn w p μ) = .rt (.d (ownD o')) S' ∧ ∃ μ', S'.μ = some μ' ∧ St μ' b (k + 4) n o' (t + 1) := by
  have ok := h.ok
  obtain ⟨d2, μ2, hd2, e2, B2⟩ := tk_ok (v := (S5 b n o bn w p μ).v) (i := 0) 7 rfl h.box (by omega) (by decide) (by decide)
  have h2 := h.bx B2
  have hd2' : d2 < oddS.length := hd2
  have hmem : oddS[d2] ∈ oddS := List.getElem_mem hd2'
  generalize hx : oddS[d2] = x at hmem
  obtain ⟨hs1, hs3, hs4⟩ := oddS_ok hmem
  have er := run_stop (x := x) hs3 h2.nd
  rw [hs1] at er
  have em := met_ex (b := bn) (body_stop_ex h2.nd er) h_InvalidMany
  have es := run_same (some (μ2 ++ [.d .exn])) hs4
  apply fin_rt (o' := o) (hs := ((h2.app (.d .exn)).mono (by omega) (by omega)))
  unfold KODD
  refine seq_nx (as_ok (x := x) (S1 := ⟨(S5 b n o bn w p μ).v, some μ2⟩) ?_ (by show 9 < 12; decide) rfl) ?_
  · rw [← hx]
    exact dr_ok (l := oddS) (ls_ok (cs_ok rfl (cs_ok rfl (cs_ok rfl (cs_ok (tu_ok (cs_ok rfl nl_ok) (by simp)) (cs_ok (ls_ok (cs_ok rfl nl_ok) (by simp)) (cs_ok rfl (cs_ok rfl nl_ok))))))) (by show 7 ≤ 1000000; decide)) e2 hd2'
  exact rt_ok (if_tv (t_ok (cl_ok (cs_ok (cl_ok (cs_ok (v_ok rfl) (cs_ok (x := .str "stop") rfl (cs_ok (ls_ok (cs_ok (v_ok rfl) nl_ok) (by simp)) (cs_ok (v_ok rfl) nl_ok)))) em rfl rfl) (cs_ok (ls_ok (cs_ok (x := .str "many") rfl (cs_ok (v_ok rfl) (cs_ok (x := .bl true) rfl nl_ok))) (by simp)) nl_ok)) es rfl rfl)) (v_ok rfl))
  rfl
end
end K75
end
section
set_option Elab.async false
set_option linter.all false
set_option maxRecDepth 100000
set_option maxHeartbeats 2000000
/-! the plain law, 32: the last way of a step; a step -/
namespace K75
open PySem PySem.Spec PyProof.Rows L2 Mi
theorem okV_8 {x : D} (h : x ∈ noPages p ∨ x ∈ noTexts p) (s : Str) : okV 7 (.lst [.str s, x, .bl true]) = true := by
  rcases h with h | h
  · simp only [noPages, List.mem_cons, List.not_mem_nil, or_false] at h
    rcases h with rfl | rfl | rfl | rfl | rfl | rfl | rfl | rfl | rfl <;> rfl
  · simp only [noTexts, List.mem_cons, List.not_mem_nil, or_false] at h
    rcases h with rfl | rfl | rfl | rfl | rfl | rfl | rfl | rfl | rfl <;> rfl
theorem okV_cons {n : Nat} {xs : List D} (hl : xs.length ≤ 1000000) (h : ∀ x ∈ xs, okV n x = true) : okV (n + 1) (.lst xs) = true := by
  simp only [okV, Bool.and_eq_true, decide_eq_true_eq, List.all_eq_true]
  exact ⟨hl, h⟩
section
variable {μ : List OD} {b k n t w p : Nat} {o : Ow} {bn : Bool}
theorem st_none (h : St μ b k n o t) (hk : k < 200000) (hp : p < o.pages) : ∃ o' S', KNONE (S5 b n o bn w p μ) = .rt (.d (ownD o')) S' ∧ ∃ μ', S'.μ = some μ' ∧ St μ' b (k + 4) n o' (t + 1) := by
  have ok := h.ok
  obtain ⟨x, μ1, hx, e1, B1⟩ := run_no_page (p := o.pages) h.box (by omega)
  have h1 := h.bx B1
  obtain ⟨y, μ2, hy, e2, B2⟩ := run_no_text (w := o.width) h1.box (by omega) ok.w2
  have h2 := h1.bx B2
  obtain ⟨x1, x2, x3⟩ := noPages_ok ⟨ok.p1, ok.p2⟩ hx
  obtain ⟨y1, y2, y3, y4⟩ := noTexts_ok ok.w2 hy
  have m1 := met_ex (b := bn) (body_write_ex h2.nd (run_write_page (y := y) x1 h2.nd x2)) h_InvalidPage
  have h3 := h2.app (.d .exn)
  have m2 := met_ex (b := !bn) (body_write_ex h3.nd (run_write_text y1 y4 h3.nd hp ok.w2 y2)) h_InvalidText
  have h4 := h3.app (.d .exn)
  have m3 := met_ex (b := bn) (body_text_ex h4.nd (run_text_no x1 h4.nd x2)) h_InvalidPage
  have h5 := h4.app (.d .exn)
  have es := run_same (n := 8) (v := .lst [.lst [.str "page", x, .bl true], .lst [.str "text", y, .bl true], .lst [.str "page", x, .bl true]]) (some (μ2 ++ [.d .exn] ++ [.d .exn] ++ [.d .exn])) (okV_cons (by show 3 ≤ 1000000; decide) (fun z hz => by
    simp only [List.mem_cons, List.not_mem_nil, or_false] at hz
    rcases hz with rfl | rfl | rfl
    · exact okV_8 (.inl hx) _
    · exact okV_8 (.inr hy) _
    · exact okV_8 (.inl hx) _))
  apply fin_rt (o' := o) (hs := (h5.mono (by omega) (by omega)))
  unfold KNONE
  refine seq_nx (pr_ok (cl_ok (cs_ok (v_ok rfl) (cs_ok (b_ok (v_ok rfl) rfl own0) nl_ok)) e1 rfl rfl) (cl_ok (cs_ok (v_ok rfl) (cs_ok (b_ok (v_ok rfl) rfl own1) nl_ok)) e2 rfl rfl) (by show 10 < 12; decide) (by show 7 < 12; decide) rfl) ?_
  refine seq_nx (as_ok (ls_ok (cs_ok (cl_ok (cs_ok (v_ok rfl) (cs_ok (x := .str "write") rfl (cs_ok (ls_ok (cs_ok (v_ok rfl) (cs_ok (v_ok rfl) nl_ok)) (by simp)) (cs_ok (v_ok rfl) nl_ok)))) m1 rfl rfl) (cs_ok (cl_ok (cs_ok (v_ok rfl) (cs_ok (x := .str "write") rfl (cs_ok (ls_ok (cs_ok (v_ok rfl) (cs_ok (v_ok rfl) nl_ok)) (by simp)) (cs_ok (nv_ok (v_ok rfl)) nl_ok)))) m2 rfl rfl) (cs_ok (cl_ok (cs_ok (v_ok rfl) (cs_ok (x := .str "text") rfl (cs_ok (ls_ok (cs_ok (v_ok rfl) nl_ok) (by simp)) (cs_ok (v_ok rfl) nl_ok)))) m3 rfl rfl) nl_ok))) (by simp)) (by show 4 < 12; decide) rfl) ?_
  exact rt_ok (if_tv (t_ok (cl_ok (cs_ok (v_ok rfl) (cs_ok (ls_ok (cs_ok (ls_ok (cs_ok (x := .str "page") rfl (cs_ok (v_ok rfl) (cs_ok (x := .bl true) rfl nl_ok))) (by simp)) (cs_ok (ls_ok (cs_ok (x := .str "text") rfl (cs_ok (v_ok rfl) (cs_ok (x := .bl true) rfl nl_ok))) (by simp)) (cs_ok (ls_ok (cs_ok (x := .str "page") rfl (cs_ok (v_ok rfl) (cs_ok (x := .bl true) rfl nl_ok))) (by simp)) nl_ok))) (by simp)) nl_ok)) es rfl rfl)) (v_ok rfl))
  rfl
theorem lt_t {S : AS} {i : Nat} {d : Nat} {m : Int} (h : S.v[i]? = some (some (.d (.int (d : Nat))))) (hd : (d : Int) < m) : xT (xB gLt (xV i) (xC (.int m))) S = .ok true S := t_ok (b_ok (v_ok h) rfl (by show some (D.bl (decide _)) = _; rw [decide_eq_true hd]))
theorem lt_f {S : AS} {i : Nat} {d : Nat} {m : Int} (h : S.v[i]? = some (some (.d (.int (d : Nat))))) (hd : ¬ (d : Int) < m) : xT (xB gLt (xV i) (xC (.int m))) S = .ok false S := t_ok (b_ok (v_ok h) rfl (by show some (D.bl (decide _)) = _; rw [decide_eq_false hd]))
theorem eq_t {S : AS} {i : Nat} {d : Nat} {m : Int} (h : S.v[i]? = some (some (.d (.int (d : Nat))))) (hd : (d : Int) = m) : xT (xB gEq (xV i) (xC (.int m))) S = .ok true S := t_ok (b_ok (v_ok h) rfl (by rw [gEq_int, decide_eq_true hd]))
theorem eq_f {S : AS} {i : Nat} {d : Nat} {m : Int} (h : S.v[i]? = some (some (.d (.int (d : Nat))))) (hd : ¬ (d : Int) = m) : xT (xB gEq (xV i) (xC (.int m))) S = .ok false S := t_ok (b_ok (v_ok h) rfl (by rw [gEq_int, decide_eq_false hd]))
theorem rt_seq {T : XT} {m r : XS} {S S' : AS} {x : OD} (h : T S = .ok true S) (h2 : m S = .rt x S') : sSeq (sIf T m sNil) r S = .rt x S' := seq_rt (if_t h h2)
theorem run_step (h : St μ b k n o t) (hk : k < 100000) (ht : t ≤ 50) : ∃ o' μ', f__law_step [.obj b, .obj n, ownD o, .bl bn] (some μ) = .ok (.d (ownD o')) (some μ') ∧ St μ' b (k + 6) n o' (t + 1) := by
  have ok := h.ok
  obtain ⟨w, μ1, hw, e1, B1⟩ := tk_ok (v := [some (.d (.obj b)), some (.d (.obj n)), some (.d (ownD o)), some (.d (.bl bn)), none, none, none, none, none, none, none, none]) (i := 0) 10 rfl h.box (by omega) (by decide) (by decide)
  have h1 := h.bx B1
  obtain ⟨p, μ2, hp, e2, B2⟩ := take_x (S := ⟨[some (.d (.obj b)), some (.d (.obj n)), some (.d (ownD o)), some (.d (.bl bn)), none, none, none, none, none, none, none, none], some μ1⟩) (A := xV 0) (A2 := xB gIdx (xV 2) (xC (.int 0))) (n := o.pages) rfl (v_ok rfl) (b_ok (v_ok rfl) rfl own0) h1.box (by omega) (by have := ok.p1; omega) (by have := ok.p2; omega)
  have h2 := h1.bx B2
  have key : ∃ o' S', M__law_step ⟨[some (.d (.obj b)), some (.d (.obj n)), some (.d (ownD o)), some (.d (.bl bn)), none, none, none, none, none, none, none, none], some μ⟩ = .rt (.d (ownD o')) S' ∧ ∃ μ', S'.μ = some μ' ∧ St μ' b (k + 1 + 1 + 4) n o' (t + 1) := by
    have go : ∀ {m : XS} {o' : Ow} {S' : AS}, M__law_step = sSeq (sPar false false 5 6 (xoCons (xU (tk 0 10)) (xoCons (xU (xF (xCall f__law_take none (xCons (xV 0) (xCons (xB gIdx (xV 2) (xC (.int 0))) xNil))))) xoNil))) m → m (S5 b n o bn w p μ2) = .rt (.d (ownD o')) S' → M__law_step ⟨[some (.d (.obj b)), some (.d (.obj n)), some (.d (ownD o)), some (.d (.bl bn)), none, none, none, none, none, none, none, none], some μ⟩ = .rt (.d (ownD o')) S' := fun {m o' S'} hm h => by
      rw [hm]
      exact seq_nx (pr_ok e1 e2 (by show 5 < 12; decide) (by show 6 < 12; decide) rfl) h
    by_cases c1 : (w : Int) < 4
    · obtain ⟨o', S', e, r⟩ := st_write (bn := bn) (w := w) h2 (by omega) ht hp
      exact ⟨o', S', go step_eq (rt_seq (lt_t rfl c1) e), r⟩
    by_cases c2 : (w : Int) < 6
    · obtain ⟨o', S', e, r⟩ := st_settle (bn := bn) (w := w) (p := p) h2
      exact ⟨o', S', go step_eq (nx_f (lt_f rfl c1) (rt_seq (lt_t rfl c2) e)), r⟩
    by_cases c3 : (w : Int) = 6
    · obtain ⟨o', S', e, r⟩ := st_stop (bn := bn) (w := w) (p := p) h2 (by omega)
      exact ⟨o', S', go step_eq (nx_f (lt_f rfl c1) (nx_f (lt_f rfl c2) (rt_seq (eq_t rfl c3) e))), r⟩
    by_cases c4 : (w : Int) = 7
    · obtain ⟨o', S', e, r⟩ := st_odd (bn := bn) (w := w) (p := p) h2 (by omega)
      exact ⟨o', S', go step_eq (nx_f (lt_f rfl c1) (nx_f (lt_f rfl c2) (nx_f (eq_f rfl c3) (rt_seq (eq_t rfl c4) e)))), r⟩
    · obtain ⟨o', S', e, r⟩ := st_none (bn := bn) (w := w) (p := p) h2 (by omega) hp
      exact ⟨o', S', go step_eq (nx_f (lt_f rfl c1) (nx_f (lt_f rfl c2) (nx_f (eq_f rfl c3) (nx_f (eq_f rfl c4) e)))), r⟩
  obtain ⟨o', S', e, μ', hμ, hS⟩ := key
  refine ⟨o', μ', ?_, hS⟩
  rw [← hμ]
  exact fn_rt (S := S') rfl e
end
end K75
end
section
set_option Elab.async false
set_option linter.all false
set_option maxRecDepth 100000
set_option maxHeartbeats 2000000
/-! the plain law, 33: a turn of a life -/
namespace K75
open PySem PySem.Spec PyProof.Rows L2 Mi
abbrev S9 (b : Nat) (bn : Bool) (a2 a3 a4 a5 : Option OD) (n : Nat) (o : Ow) (a8 : Option OD) (μ : List OD) : AS := ⟨[some (.d (.obj b)), some (.d (.bl bn)), a2, a3, a4, a5, some (.d (.obj n)), some (.d (ownD o)), a8], some μ⟩
def TURN : XS := (sSeq (sAsg (xU (xF (xCall f__law_step none (xCons (xV 0) (xCons (xV 6) (xCons (xV 7) (xCons (xV 1) xNil))))))) (xgN false 7))
 (sSeq (sIf (xOr (xT (xB gIs (xV 7) (xC .non))) (xNot (xT (xF (xCall f__law_is_disk none (xCons (xV 6) (xCons (xV 7) xNil))))))) (sRet (xU (xC (.bl false)))) sNil)
 (sSeq (sIf (xT (xB gEq (xF (xCall f__law_take none (xCons (xV 0) (xCons (xC (.int 5)) xNil)))) (xC (.int 0)))) (sSeq (sAsg (xU (xF (xCall f__law_cut_right none (xCons (xV 0) (xCons (xV 6) (xCons (xV 7) (xCons (xV 1) xNil))))))) (xgN false 8))
 (sSeq (sIf (xT (xB gIs (xV 8) (xC .non))) (sRet (xU (xC (.bl false)))) sNil)
 (sAsg (xU (xIf (xT (xB gEq (xF (xCall f__law_take none (xCons (xV 0) (xCons (xC (.int 2)) xNil)))) (xC (.int 0)))) (xV 8) (xLst (xCons (xV 6) (xCons (xV 7) xNil))))) (xgT 2 (xgsCons (xgN false 6) (xgsCons (xgN false 7) xgsNil)))))) sNil)
 (sAsg (xU (xNotV (xV 1))) (xgN false 1)))))
theorem asg_ok {A : XD} {G : XG} {S S1 S2 : AS} {x : D} (h : A S = .ok x S1) (h2 : G (.d x) S1 = .ok () S2) : sAsg (xU A) G S = .nx S2 := by
  unfold sAsg xU
  simp only [h, Rs.bind_ok, Rs.out_ok, h2]
theorem nx_seq {m r : XS} {S S2 : AS} (h : ∃ S1, m S = .nx S1 ∧ r S1 = .nx S2) : sSeq m r S = .nx S2 := by
  obtain ⟨S1, h1, h2⟩ := h
  exact seq_nx h1 h2
section
variable {b n k t : Nat} {bn : Bool} {o : Ow} {μ : List OD} {a2 a3 a4 a5 a8 : Option OD}
/-- behind the step: perhaps a cut -/
theorem turn_cut (h : St μ b k n o t) (hk : k < 90000) (ht : t ≤ 50) : ∃ n' o' a8' μ', sIf (xT (xB gEq (tk 0 5) (xC (.int 0)))) (sSeq (sAsg (xU (xF (xCall f__law_cut_right none (xCons (xV 0) (xCons (xV 6) (xCons (xV 7) (xCons (xV 1) xNil))))))) (xgN false 8))
 (sSeq (sIf (xT (xB gIs (xV 8) (xC .non))) (sRet (xU (xC (.bl false)))) sNil)
 (sAsg (xU (xIf (xT (xB gEq (xF (xCall f__law_take none (xCons (xV 0) (xCons (xC (.int 2)) xNil)))) (xC (.int 0)))) (xV 8) (xLst (xCons (xV 6) (xCons (xV 7) xNil))))) (xgT 2 (xgsCons (xgN false 6) (xgsCons (xgN false 7) xgsNil)))))) sNil (S9 b bn a2 a3 a4 a5 n o a8 μ) = .nx (S9 b bn a2 a3 a4 a5 n' o' a8' μ') ∧ St μ' b (k + 62) n' o' t := by
  obtain ⟨d1, μ1, hd1, e1, B1⟩ := tk_ok (v := (S9 b bn a2 a3 a4 a5 n o a8 μ).v) (i := 0) 5 rfl h.box (by omega) (by decide) (by decide)
  have h1 := h.bx B1
  have et := t_ok (b_ok e1 (A := tk 0 5) (C := xC (.int 0)) rfl (gEq_int _ _))
  by_cases hz : ((d1 : Nat) : Int) = 0
  · rw [decide_eq_true hz] at et
    obtain ⟨o2, m, μ2, e2, h2, h3⟩ := run_cut_right (bn := bn) h1 (by omega) ht
    obtain ⟨d3, μ3, hd3, e3, B3⟩ := tk_ok (v := (S9 b bn a2 a3 a4 a5 n o (some (.d (.lst [.obj m, ownD o2]))) μ).v) (i := 0) 2 rfl h2.box (by omega) (by decide) (by decide)
    have h4 := h2.bx B3
    have h5 := h3.bx B3
    have et2 := t_ok (b_ok e3 (A := tk 0 2) (C := xC (.int 0)) rfl (gEq_int _ _))
    have tgt : ∀ (q : Nat) (r : Ow) (s : AS), s = S9 b bn a2 a3 a4 a5 n o (some (.d (.lst [.obj m, ownD o2]))) μ3 → xgT 2 (xgsCons (xgN false 6) (xgsCons (xgN false 7) xgsNil)) (.d (.lst [.obj q, ownD r])) s = .ok () (S9 b bn a2 a3 a4 a5 q r (some (.d (.lst [.obj m, ownD o2]))) μ3) := fun q r s hs => by subst hs; rfl
    by_cases hz2 : ((d3 : Nat) : Int) = 0
    · rw [decide_eq_true hz2] at et2
      refine ⟨m, o2, some (.d (.lst [.obj m, ownD o2])), μ3, if_t et (seq_nx (as_ok (cl_ok (cs_ok (v_ok rfl) (cs_ok (v_ok rfl) (cs_ok (v_ok rfl) (cs_ok (v_ok rfl) nl_ok)))) e2 rfl rfl) (by show 8 < 9; decide) rfl) (seq_nx (if_f (t_ok (b_ok (v_ok rfl) rfl rfl)) rfl) ?_)), h5.mono (by omega) (by omega)⟩
      exact asg_ok (if_tv et2 (v_ok rfl)) (tgt m o2 _ rfl)
    · rw [decide_eq_false hz2] at et2
      refine ⟨n, o, some (.d (.lst [.obj m, ownD o2])), μ3, if_t et (seq_nx (as_ok (cl_ok (cs_ok (v_ok rfl) (cs_ok (v_ok rfl) (cs_ok (v_ok rfl) (cs_ok (v_ok rfl) nl_ok)))) e2 rfl rfl) (by show 8 < 9; decide) rfl) (seq_nx (if_f (t_ok (b_ok (v_ok rfl) rfl rfl)) rfl) ?_)), h4.mono (by omega) (by omega)⟩
      exact asg_ok (if_fv et2 (ls_ok (cs_ok (v_ok rfl) (cs_ok (v_ok rfl) nl_ok)) (by simp))) (tgt n o _ rfl)
  · rw [decide_eq_false hz] at et
    exact ⟨n, o, a8, μ1, if_f et rfl, h1.mono (by omega) (by omega)⟩
theorem turn_ok (h : St μ b k n o t) (hk : k < 80000) (ht : t < 50) : ∃ n' o' a8' μ', TURN (S9 b bn a2 a3 a4 a5 n o a8 μ) = .nx (S9 b (!bn) a2 a3 a4 a5 n' o' a8' μ') ∧ St μ' b (k + 68) n' o' (t + 1) := by
  obtain ⟨o1, μ1, e1, h1⟩ := run_step (bn := bn) h (by omega) (by omega)
  have e2 := run_is_disk h1.nd h1.ok
  have h2 := h1.app (junk o1)
  obtain ⟨n', o', a8', μ', e3, h3⟩ := turn_cut (bn := bn) (a2 := a2) (a3 := a3) (a4 := a4) (a5 := a5) (a8 := a8) h2 (by omega) (by omega)
  refine ⟨n', o', a8', μ', ?_, h3⟩
  unfold TURN
  refine seq_nx (S' := S9 b bn a2 a3 a4 a5 n o1 a8 μ1) (as_ok (cl_ok (cs_ok (v_ok rfl) (cs_ok (v_ok rfl) (cs_ok (v_ok rfl) (cs_ok (v_ok rfl) nl_ok)))) e1 rfl rfl) (by show 7 < 9; decide) rfl) ?_
  refine seq_nx (S' := S9 b bn a2 a3 a4 a5 n o1 a8 (μ1 ++ [junk o1])) (if_f (or_f (t_ok (b_ok (v_ok rfl) rfl rfl)) (n_t (t_ok (cl_ok (cs_ok (v_ok rfl) (cs_ok (v_ok rfl) nl_ok)) e2 rfl rfl)))) rfl) ?_
  refine seq_nx e3 ?_
  exact as_ok (nv_ok (v_ok rfl)) (by show 1 < 9; decide) rfl
theorem turns_ok : ∀ {xs : List D} {k t n : Nat} {o : Ow} {bn : Bool} {a3 a8 : Option OD} {μ : List OD}, St μ b k n o t → k + 68 * xs.length < 80000 → t + xs.length ≤ 50 → (∀ x ∈ xs, ∃ i, x = .int i) →
    ∃ bn' a3' n' o' a8' μ', sForL (xgN false 3) TURN xs (S9 b bn a2 a3 a4 a5 n o a8 μ) = .nx (S9 b bn' a2 a3' a4 a5 n' o' a8' μ') ∧ St μ' b (k + 68 * xs.length) n' o' (t + xs.length)
  | [], k, t, n, o, bn, a3, a8, μ, h, _, _, _ => ⟨bn, a3, n, o, a8, μ, rfl, h⟩
  | x :: xs, k, t, n, o, bn, a3, a8, μ, h, hk, ht, hx => by
    simp only [List.length_cons] at hk ht
    obtain ⟨i, rfl⟩ := hx x List.mem_cons_self
    obtain ⟨n1, o1, a81, μ1, e1, h1⟩ := turn_ok (bn := bn) (a2 := a2) (a3 := some (.d (.int i))) (a4 := a4) (a5 := a5) (a8 := a8) h (by omega) (by omega)
    obtain ⟨bn', a3', n', o', a8', μ', e2, h2⟩ := turns_ok (xs := xs) (bn := !bn) (a3 := some (.d (.int i))) (a8 := a81) h1 (by omega) (by omega) (fun y hy => hx y (List.mem_cons_of_mem _ hy))
    refine ⟨bn', a3', n', o', a8', μ', for_nx (S1 := S9 b bn a2 (some (.d (.int i))) a4 a5 n o a8 μ) rfl e1 e2, h2.mono (by rw [List.length_cons]; omega) (by rw [List.length_cons]; omega)⟩
end
end K75
end
section
set_option Elab.async false
set_option linter.all false
set_option maxRecDepth 100000
set_option maxHeartbeats 2000000
/-! the plain law, 34: a life -/
namespace K75
open PySem PySem.Spec PyProof.Rows L2 Mi
theorem pick_p {d1 d2 : Nat} (h1 : d1 < 9) (h2 : d2 < 8) : ∃ j p : Nat, ([.int 0, .int 1, .int 2, .int 2, .int 2, .int 2, .int 2, .int 3] : List D)[d2]? = some (.int (j : Nat)) ∧ ([.int 4, .int 5, .int (4 + (d1 : Nat)), .int 60] : List D)[j]? = some (.int (p : Nat)) ∧ 4 ≤ p ∧ p ≤ 60 := by
  have e : (4 + (d1 : Nat) : Int) = ((4 + d1 : Nat) : Int) := by omega
  rw [e]
  match d2, h2 with
  | 0, _ => exact ⟨0, 4, rfl, rfl, by omega, by omega⟩
  | 1, _ => exact ⟨1, 5, rfl, rfl, by omega, by omega⟩
  | 2, _ => exact ⟨2, 4 + d1, rfl, rfl, by omega, by omega⟩
  | 3, _ => exact ⟨2, 4 + d1, rfl, rfl, by omega, by omega⟩
  | 4, _ => exact ⟨2, 4 + d1, rfl, rfl, by omega, by omega⟩
  | 5, _ => exact ⟨2, 4 + d1, rfl, rfl, by omega, by omega⟩
  | 6, _ => exact ⟨2, 4 + d1, rfl, rfl, by omega, by omega⟩
  | 7, _ => exact ⟨3, 60, rfl, rfl, by omega, by omega⟩
theorem pick_w {d1 d2 : Nat} (h1 : d1 < 60) (h2 : d2 < 3) : ∃ p : Nat, ([.int 40, .int 400, .int (40 + (d1 : Nat))] : List D)[d2]? = some (.int (p : Nat)) ∧ 40 ≤ p ∧ p ≤ 400 := by
  have e : (40 + (d1 : Nat) : Int) = ((40 + d1 : Nat) : Int) := by omega
  rw [e]
  match d2, h2 with
  | 0, _ => exact ⟨40, rfl, by omega, by omega⟩
  | 1, _ => exact ⟨400, rfl, by omega, by omega⟩
  | 2, _ => exact ⟨40 + d1, rfl, by omega, by omega⟩
theorem ok_fresh {p w : Nat} (hp : 4 ≤ p ∧ p ≤ 60) (hw : 40 ≤ w ∧ w ≤ 400) : Ok (fresh p w) :=
  ⟨hp.1, hp.2, hw.1, hw.2, List.length_replicate, List.length_replicate, by show 0 < 100000; decide, fun q hq => by cases hq⟩
theorem andv_t {S S1 S2 : AS} {A C : XD} {x : D} (h : A S = .ok (.bl true) S1) (h2 : C S1 = .ok x S2) : xAndV A C S = .ok x S2 := by
  unfold xAndV; simp only [h, Rs.bind_ok, h2]
theorem mulS {p : Nat} (hp : p ≤ 1000) : gMul (.lst [.str ""]) (.int p) = some (txD (List.replicate p "")) := by
  have h1 : (([D.str ""] : List D).length * (p : Int).toNat ≤ sizeLine ∧ -(2 ^ 63) ≤ (p : Int) ∧ (p : Int) < 2 ^ 63) := by
    refine ⟨?_, by omega, by omega⟩
    rw [sizeLine_eq]; simp; omega
  show (if _ then _ else _) = _
  rw [if_pos h1]
  congr 2
  rw [Int.toNat_natCast, List.map_replicate]
  clear h1 hp
  induction p with
  | zero => rfl
  | succ p ih => rw [List.replicate_succ, List.flatten_cons, ih, List.replicate_succ]; rfl
section
variable {b k n t : Nat} {bn : Bool} {o : Ow} {μ : List OD}
theorem life_end (h : St μ b k n o t) {a2 a3 a4 a5 a8 : Option OD} : ∃ S', (sRet (xU (xAndV (xF (xCall (f__law_same 8) none (xCons (xF (xCall f__law_met none (xCons (xV 6) (xCons (xC (.str "stop")) (xCons (xLst (xCons (xC .non) xNil)) (xCons (xV 1) xNil)))))) (xCons (xLst (xCons (xC (.str "told")) (xCons (xC .non) xNil))) xNil)))) (xAndV (xF (xCall (f__law_same 8) none (xCons (xF (xCall f__law_met none (xCons (xV 6) (xCons (xC (.str "settle")) (xCons (xLst xNil) (xCons (xV 1) xNil)))))) (xCons (xLst (xCons (xC (.str "told")) (xCons (xC .non) xNil))) xNil)))) (xF (xCall f__law_is_disk none (xCons (xV 6) (xCons (xB gAdd (xSl (xV 7) xP0 (xP1 (xC (.int 4)))) (xLst (xCons (xLst xNil) (xCons (xC .non) xNil)))) xNil)))))))) (S9 b bn a2 a3 a4 a5 n o a8 μ) = .rt (.d (.bl true)) S' ∧ ∃ μ', S'.μ = some μ' ∧ B μ' b k := by
  have ok := h.ok
  have er := run_stop (x := .non) rfl h.nd
  have em := met_rt (b := bn) (body_stop h.nd er)
  have h1 := h.put (s := t) (ok_lf ok none) h.wl
  have er2 := run_settle h1.nd (by show none ≠ some 0; exact nofun)
  have em2 := met_rt (b := bn) (body_settle h1.nd er2)
  have h2 := h1.put (s := t) (ok_se h1.ok) (by show 0 ≤ t; omega)
  have ei := run_is_disk_r (r := o.las) h2.nd h2.ok
  have hsl : gSl (ownD o) none (some 4) = some (.lst [.int o.pages, .int o.width, txD o.cur, txD o.las]) := by
    have := cut_hi (xs := [D.int o.pages, .int o.width, txD o.cur, txD o.las, wrL o, lfD o.lf]) (p := 4) (by show 4 ≤ 6; decide)
    show some (D.lst (Mi.cutD _ none (some ((4 : Nat) : Int)))) = _
    rw [this]
    rfl
  have hadd : gAdd (.lst [.int o.pages, .int o.width, txD o.cur, txD o.las]) (.lst [.lst [], .non]) = some (.lst [.int o.pages, .int o.width, txD o.cur, txD o.las, .lst [], .non]) := by
    rw [gAdd_lst (by rw [sizeLine_eq]; show 6 ≤ 16777216; decide)]
    rfl
  apply Exists.intro
  apply And.intro
  · exact rt_ok (andv_t (cl_ok (cs_ok (cl_ok (cs_ok (v_ok rfl) (cs_ok (x := .str "stop") rfl (cs_ok (ls_ok (cs_ok (x := .non) rfl nl_ok) (by simp)) (cs_ok (v_ok rfl) nl_ok)))) em rfl rfl) (cs_ok (ls_ok (cs_ok (x := .str "told") rfl (cs_ok (x := .non) rfl nl_ok)) (by simp)) nl_ok)) (same_told _) rfl rfl)
      (andv_t (cl_ok (cs_ok (cl_ok (cs_ok (v_ok rfl) (cs_ok (x := .str "settle") rfl (cs_ok (ls_ok nl_ok (by simp)) (cs_ok (v_ok rfl) nl_ok)))) em2 rfl rfl) (cs_ok (ls_ok (cs_ok (x := .str "told") rfl (cs_ok (x := .non) rfl nl_ok)) (by simp)) nl_ok)) (same_told _) rfl rfl)
        (cl_ok (cs_ok (v_ok rfl) (cs_ok (b_ok (sl_hi (v_ok rfl) hsl) (ls_ok (cs_ok (ls_ok nl_ok (by simp)) (cs_ok (x := .non) rfl nl_ok)) (by simp)) hadd) nl_ok)) ei rfl rfl)))
  · exact ⟨_, rfl, h2.box.app _⟩
theorem run_life (h : B μ b k) (hk : k < 50000) : ∃ μ', f__law_life_right [.obj b, .bl bn] (some μ) = .ok (.d (.bl true)) (some μ') ∧ B μ' b (k + 5000) := by
  obtain ⟨d1, μ1, hd1, e1, B1⟩ := tk_ok (v := [some (.d (.obj b)), some (.d (.bl bn)), none, none, none, none, none, none, none]) (i := 0) 9 rfl h (by omega) (by decide) (by decide)
  obtain ⟨_, _, b1⟩ := id B1
  obtain ⟨d2, μ2, hd2, e2, B2⟩ := tk_ok (v := [some (.d (.obj b)), some (.d (.bl bn)), none, none, none, none, none, none, none]) (i := 0) 8 rfl b1 (by omega) (by decide) (by decide)
  obtain ⟨_, _, b2⟩ := id B2
  obtain ⟨j, p, hj, hp, hpp⟩ := pick_p hd1 hd2
  obtain ⟨d3, μ3, hd3, e3, B3⟩ := tk_ok (v := [some (.d (.obj b)), some (.d (.bl bn)), none, none, none, none, none, none, none]) (i := 0) 60 rfl b2 (by omega) (by decide) (by decide)
  obtain ⟨_, _, b3⟩ := id B3
  obtain ⟨d4, μ4, hd4, e4, B4⟩ := tk_ok (v := [some (.d (.obj b)), some (.d (.bl bn)), none, none, none, none, none, none, none]) (i := 0) 3 rfl b3 (by omega) (by decide) (by decide)
  obtain ⟨_, _, b4⟩ := id B4
  obtain ⟨w, hw, hww⟩ := pick_w hd3 hd4
  have ei := run_init (p := p) (w := w) (n := μ4.length) (μ := μ4 ++ [.ins "Disk" []]) (get_last _ _) hpp hww
  rw [set_last] at ei
  have em := run_made (b := bn) ei
  have h5 : St (μ4 ++ [node (fresh p w)]) b (k + 1 + 1 + 1 + 1) μ4.length (fresh p w) 0 := ⟨b4.app _, get_last _ _, ok_fresh hpp hww, by show 0 ≤ 0; omega⟩
  obtain ⟨d6, μ6, hd6, e6, B6⟩ := tk_ok (v := (S9 b bn (some (.d (.lst [.str "told", .obj μ4.length]))) none (some (.d (.int p))) (some (.d (.int w))) μ4.length (fresh p w) none μ4).v) (i := 0) 10 rfl h5.box (by omega) (by decide) (by decide)
  have h6 := h5.bx B6
  have hlen : ((List.range (14 + d6)).map fun i => D.int (0 + (i : Nat))).length = 14 + d6 := by rw [List.length_map, List.length_range]
  obtain ⟨bn', a3, n', o', a8, μ7, e7, h7⟩ := turns_ok (bn := bn) (a2 := some (.d (.lst [.str "told", .obj μ4.length]))) (a3 := none) (a4 := some (.d (.int p))) (a5 := some (.d (.int w))) (a8 := none) (xs := (List.range (14 + d6)).map fun i => D.int (0 + (i : Nat))) h6 (by rw [hlen]; omega) (by rw [hlen]; omega) (fun x hx => by
    obtain ⟨i, _, rfl⟩ := List.mem_map.mp hx
    exact ⟨_, rfl⟩)
  rw [hlen] at h7
  obtain ⟨S', e8, μ8, hμ8, b8⟩ := life_end (bn := bn') (a2 := some (.d (.lst [.str "told", .obj μ4.length]))) (a3 := a3) (a4 := some (.d (.int p))) (a5 := some (.d (.int w))) (a8 := a8) h7
  refine ⟨μ8, ?_, b8.mono (by omega)⟩
  rw [← hμ8]
  refine fn_rt (S := S') rfl ?_
  show M__law_life_right ⟨[some (.d (.obj b)), some (.d (.bl bn)), none, none, none, none, none, none, none], some μ⟩ = _
  unfold M__law_life_right
  refine seq_nx (S' := ⟨[some (.d (.obj b)), some (.d (.bl bn)), none, none, some (.d (.int p)), some (.d (.int w)), none, none, none], some μ4⟩) (pr_ok
    (dr_get (ls_ok (cs_ok rfl (cs_ok rfl (cs_ok (b_ok rfl e1 (gAdd_int _ _)) (cs_ok rfl nl_ok)))) (by simp)) (dr_get (ls_ok (cs_ok rfl (cs_ok rfl (cs_ok rfl (cs_ok rfl (cs_ok rfl (cs_ok rfl (cs_ok rfl (cs_ok rfl nl_ok)))))))) (by simp)) e2 hj) hp)
    (dr_get (ls_ok (cs_ok rfl (cs_ok rfl (cs_ok (b_ok rfl e3 (gAdd_int _ _)) nl_ok))) (by simp)) e4 hw) (by show 4 < 9; decide) (by show 5 < 9; decide) rfl) ?_
  refine seq_nx (S' := ⟨[some (.d (.obj b)), some (.d (.bl bn)), some (.d (.lst [.str "told", .obj μ4.length])), none, some (.d (.int p)), some (.d (.int w)), none, none, none], some (μ4 ++ [node (fresh p w)])⟩) (as_ok (cl_ok (cs_ok (v_ok rfl) (cs_ok (v_ok rfl) (cs_ok (v_ok rfl) nl_ok))) em rfl rfl) (by show 2 < 9; decide) rfl) ?_
  refine seq_nx (if_f (t_ok (b_ok (b_ok (v_ok rfl) rfl rfl) rfl rfl)) rfl) ?_
  refine seq_nx (S' := S9 b bn (some (.d (.lst [.str "told", .obj μ4.length]))) none (some (.d (.int p))) (some (.d (.int w))) μ4.length (fresh p w) none (μ4 ++ [node (fresh p w)])) (pr_ok (b_ok (v_ok rfl) rfl rfl) (ls_ok (cs_ok (v_ok rfl) (cs_ok (v_ok rfl) (cs_ok (b_ok (ls_ok (cs_ok rfl nl_ok) (by simp)) (v_ok rfl) (mulS (by omega))) (cs_ok (b_ok (ls_ok (cs_ok rfl nl_ok) (by simp)) (v_ok rfl) (mulS (by omega))) (cs_ok (ls_ok nl_ok (by simp)) (cs_ok rfl nl_ok)))))) (by simp)) (by show 6 < 9; decide) (by show 7 < 9; decide) rfl) ?_
  refine seq_nx ?_ e8
  have hI : xR1 (xCons (xB gAdd (xC (.int 14)) (tk 0 10)) xNil) (S9 b bn (some (.d (.lst [.str "told", .obj μ4.length]))) none (some (.d (.int p))) (some (.d (.int w))) μ4.length (fresh p w) none (μ4 ++ [node (fresh p w)])) = .ok ((List.range (14 + d6)).map fun i => D.int (0 + (i : Nat))) (S9 b bn (some (.d (.lst [.str "told", .obj μ4.length]))) none (some (.d (.int p))) (some (.d (.int w))) μ4.length (fresh p w) none μ6) :=
    xR1_len (cs_ok (b_ok rfl e6 (gAdd_int _ _)) nl_ok) (by omega)
  rw [sFor, hI]
  exact e7
end
end K75
end
section
set_option Elab.async false
set_option linter.all false
set_option maxRecDepth 100000
set_option maxHeartbeats 2000000
/-! the plain law, 35: the law -/
namespace K75
open PySem PySem.Spec PyProof.Rows L2 Mi
def CELL : XS := (sSeq (sAsg (xU (xAd (xCall f__law_box none (xCons (xF (xCall f__law_cell none (xCons (xV 0) (xCons (xV 1) xNil)))) xNil)))) (xgN false 2)) (sSeq (sAsg (xU (xB gEq (xF (xCall f__law_take none (xCons (xV 2) (xCons (xC (.int 2)) xNil)))) (xC (.int 1)))) (xgN false 3)) (sSeq (sIf (xOr (xNot (xT (xF (xCall f__law_life_right none (xCons (xV 2) (xCons (xV 3) xNil)))))) (xNot (xT (xF (xCall f__law_life_right none (xCons (xV 2) (xCons (xNotV (xV 3)) xNil))))))) (sRet (xU (xC (.bl false)))) sNil) (sSeq (sAsg (xU (xB gIdx (xLst (xCons (xC .non) (xCons (xC (.int 3)) (xCons (xC (.int 61)) (xCons (xC (.bl true)) (xCons (xC (.str "4")) (xCons (xTup (xCons (xC (.int 4)) xNil)) (xCons (xC (.dct [])) (xCons (xUn gNeg (xC (.int 1))) xNil))))))))) (xF (xCall f__law_take none (xCons (xV 2) (xCons (xC (.int 8)) xNil)))))) (xgN false 4)) (sSeq (sAsg (xU (xB gIdx (xLst (xCons (xC .non) (xCons (xC (.int 39)) (xCons (xC (.int 401)) (xCons (xC (.bl true)) (xCons (xC (.str "40")) (xCons (xTup (xCons (xC (.int 40)) xNil)) (xCons (xC (.dct [])) (xCons (xC (.int 0)) xNil))))))))) (xF (xCall f__law_take none (xCons (xV 2) (xCons (xC (.int 8)) xNil)))))) (xgN false 5)) (sSeq (sAsg (xU (xLst (xCons (xF (xCall f__law_made none (xCons (xV 4) (xCons (xV 5) (xCons (xV 3) xNil))))) (xCons (xF (xCall f__law_made none (xCons (xC (.int 4)) (xCons (xV 5) (xCons (xNotV (xV 3)) xNil))))) (xCons (xF (xCall f__law_made none (xCons (xC (.int 60)) (xCons (xV 5) (xCons (xV 3) xNil))))) xNil))))) (xgN false 6)) (sIf (xNot (xT (xF (xCall (f__law_same 8) none (xCons (xV 6) (xCons (xLst (xCons (xLst (xCons (xC (.str "pages")) (xCons (xV 4) (xCons (xC (.bl true)) xNil)))) (xCons (xLst (xCons (xC (.str "width")) (xCons (xV 5) (xCons (xC (.bl true)) xNil)))) (xCons (xLst (xCons (xC (.str "width")) (xCons (xV 5) (xCons (xC (.bl true)) xNil)))) xNil)))) xNil)))))) (sRet (xU (xC (.bl false)))) sNil)))))))
theorem law_eq : M_law = sSeq (sFor (xR1 (xCons (xC (.int 2)) xNil)) (xgN false 1) CELL) (sRet (xU (xC (.bl true)))) := rfl
def oddP : List D := [.non, .int 3, .int 61, .bl true, .str "4", .tup [.int 4], .dct [], .int (-1)]
def oddW : List D := [.non, .int 39, .int 401, .bl true, .str "40", .tup [.int 40], .dct [], .int 0]
theorem oddP_ok {x : D} (h : x ∈ oddP) : pl x = true ∧ btw x 4 60 = false ∧ okV 7 (.lst [.str "pages", x, .bl true]) = true := by
  simp only [oddP, List.mem_cons, List.not_mem_nil, or_false] at h
  rcases h with rfl | rfl | rfl | rfl | rfl | rfl | rfl | rfl <;> exact ⟨rfl, rfl, rfl⟩
theorem oddW_ok {x : D} (h : x ∈ oddW) : pl x = true ∧ btw x 40 400 = false ∧ okV 7 (.lst [.str "width", x, .bl true]) = true := by
  simp only [oddW, List.mem_cons, List.not_mem_nil, or_false] at h
  rcases h with rfl | rfl | rfl | rfl | rfl | rfl | rfl | rfl <;> exact ⟨rfl, rfl, rfl⟩
theorem absI_nn (g : Int) : 0 ≤ absI g := by
  unfold absI
  split <;> omega
section
variable {ns : List Int} {μ : List OD}
abbrev S7 (ns : List Int) (k : Int) (a2 a3 a4 a5 a6 : Option OD) (μ : List OD) : AS := ⟨[some (.d (.scr (ns.map .int))), some (.d (.int k)), a2, a3, a4, a5, a6], some μ⟩
theorem box_step {k : Nat} (hk : k < 2) {a2 a3 a4 a5 a6 : Option OD} : ∃ x, sAsg (xU (xAd (xCall f__law_box none (xCons (xF (xCall f__law_cell none (xCons (xV 0) (xCons (xV 1) xNil)))) xNil)))) (xgN false 2) (S7 ns k a2 a3 a4 a5 a6 μ) = .nx (S7 ns k (some (.d (.obj μ.length))) a3 a4 a5 a6 (μ ++ [x])) ∧ B (μ ++ [x]) μ.length 0 := by
  obtain ⟨g, eg⟩ := run_cell (ns := ns) hk (some μ)
  have eb := run_box (g := g) (μ := μ)
  refine ⟨boxN (absI g) (decide ((1000000000000000000 : Int) ≤ absI g)) (absI g % 2147483629) 0, ?_, ?_⟩
  · have ec : xCall f__law_box none (xCons (xF (xCall f__law_cell none (xCons (xV 0) (xCons (xV 1) xNil)))) xNil) (S7 ns k a2 a3 a4 a5 a6 μ) = .ok (boxN (absI g) (decide ((1000000000000000000 : Int) ≤ absI g)) (absI g % 2147483629) 0) (S7 ns k a2 a3 a4 a5 a6 μ) := by
      have e1 : xCons (xF (xCall f__law_cell none (xCons (xV 0) (xCons (xV 1) xNil)))) xNil (S7 ns k a2 a3 a4 a5 a6 μ) = .ok [.int g] (S7 ns k a2 a3 a4 a5 a6 μ) := cs_ok (cl_ok (cs_ok (v_ok rfl) (cs_ok (v_ok rfl) nl_ok)) eg rfl rfl) nl_ok
      rw [xCall, e1]
      simp only [Rs.bind_ok, ro, eb, Option.isSome_some, if_true]
    have ea : xAd (xCall f__law_box none (xCons (xF (xCall f__law_cell none (xCons (xV 0) (xCons (xV 1) xNil)))) xNil)) (S7 ns k a2 a3 a4 a5 a6 μ) = .ok (.obj μ.length) (S7 ns k a2 a3 a4 a5 a6 (μ ++ [boxN (absI g) (decide ((1000000000000000000 : Int) ≤ absI g)) (absI g % 2147483629) 0])) := by
      rw [xAd, ec]
      rfl
    exact as_ok ea (by show 2 < 7; decide) rfl
  · exact ⟨_, _, _, _, get_last _ _, absI_nn g, Int.emod_nonneg _ (by decide), Int.emod_lt_of_pos _ (by decide), by omega, by omega⟩
theorem cell_ok {k : Nat} (hk : k < 2) {a2 a3 a4 a5 a6 : Option OD} : ∃ a2' a3' a4' a5' a6' μ', CELL (S7 ns k a2 a3 a4 a5 a6 μ) = .nx (S7 ns k a2' a3' a4' a5' a6' μ') := by
  obtain ⟨x, e0, b0⟩ := box_step (ns := ns) (μ := μ) hk (a2 := a2) (a3 := a3) (a4 := a4) (a5 := a5) (a6 := a6)
  obtain ⟨d1, μ1, hd1, e1, B1⟩ := tk_ok (v := (S7 ns k (some (.d (.obj μ.length))) a3 a4 a5 a6 μ).v) (i := 2) 2 rfl b0 (by omega) (by decide) (by decide)
  obtain ⟨_, _, b1⟩ := id B1
  obtain ⟨μ2, e2, b2⟩ := run_life (bn := decide ((d1 : Int) = 1)) b1 (by omega)
  obtain ⟨μ3, e3, b3⟩ := run_life (bn := !decide ((d1 : Int) = 1)) b2 (by omega)
  obtain ⟨d4, μ4, hd4, e4, B4⟩ := tk_ok (v := (S7 ns k (some (.d (.obj μ.length))) (some (.d (.bl (decide ((d1 : Int) = 1))))) a4 a5 a6 μ).v) (i := 2) 8 rfl b3 (by omega) (by decide) (by decide)
  obtain ⟨_, _, b4⟩ := id B4
  have hd4' : d4 < oddP.length := hd4
  have hm4 : oddP[d4] ∈ oddP := List.getElem_mem hd4'
  have hg4 : oddP[d4]? = some oddP[d4] := List.getElem?_eq_getElem hd4'
  generalize oddP[d4] = p at hm4 hg4
  obtain ⟨d5, μ5, hd5, e5, B5⟩ := tk_ok (v := (S7 ns k (some (.d (.obj μ.length))) (some (.d (.bl (decide ((d1 : Int) = 1))))) (some (.d p)) a5 a6 μ).v) (i := 2) 8 rfl b4 (by omega) (by decide) (by decide)
  have hd5' : d5 < oddW.length := hd5
  have hm5 : oddW[d5] ∈ oddW := List.getElem_mem hd5'
  have hg5 : oddW[d5]? = some oddW[d5] := List.getElem?_eq_getElem hd5'
  generalize oddW[d5] = w at hm5 hg5
  obtain ⟨p1, p2, p3⟩ := oddP_ok hm4
  obtain ⟨w1, w2, w3⟩ := oddW_ok hm5
  have m1 := run_made_ex (μ := μ5) (b := decide ((d1 : Int) = 1)) (run_init_pages (y := w) p1 p2) h_InvalidPages
  have m2 := run_made_ex (μ := μ5 ++ [.ins "Disk" []] ++ [.d .exn]) (b := !decide ((d1 : Int) = 1)) (run_init_width (x := .int 4) rfl rfl w1 w2) h_InvalidWidth
  have m3 := run_made_ex (μ := μ5 ++ [.ins "Disk" []] ++ [.d .exn] ++ [.ins "Disk" []] ++ [.d .exn]) (b := decide ((d1 : Int) = 1)) (run_init_width (x := .int 60) rfl rfl w1 w2) h_InvalidWidth
  have es := fun μ => run_same (n := 8) (v := .lst [.lst [.str "pages", p, .bl true], .lst [.str "width", w, .bl true], .lst [.str "width", w, .bl true]]) μ (okV_cons (by show 3 ≤ 1000000; decide) (fun z hz => by
    simp only [List.mem_cons, List.not_mem_nil, or_false] at hz
    rcases hz with rfl | rfl | rfl
    · exact p3
    · exact w3
    · exact w3))
  refine ⟨some (.d (.obj μ.length)), some (.d (.bl (decide ((d1 : Int) = 1)))), some (.d p), some (.d w), some (.d (.lst [.lst [.str "pages", p, .bl true], .lst [.str "width", w, .bl true], .lst [.str "width", w, .bl true]])), μ5 ++ [.ins "Disk" []] ++ [.d .exn] ++ [.ins "Disk" []] ++ [.d .exn] ++ [.ins "Disk" []] ++ [.d .exn], ?_⟩
  unfold CELL
  refine seq_nx e0 ?_
  refine seq_nx (S' := S7 ns k (some (.d (.obj μ.length))) (some (.d (.bl (decide ((d1 : Int) = 1))))) a4 a5 a6 μ1) (as_ok (b_ok e1 rfl (gEq_int _ _)) (by show 3 < 7; decide) rfl) ?_
  refine seq_nx (S' := S7 ns k (some (.d (.obj μ.length))) (some (.d (.bl (decide ((d1 : Int) = 1))))) a4 a5 a6 μ3) (if_f (or_f (n_t (t_ok (cl_ok (cs_ok (v_ok rfl) (cs_ok (v_ok rfl) nl_ok)) e2 rfl rfl))) (n_t (t_ok (cl_ok (cs_ok (v_ok rfl) (cs_ok (nv_ok (v_ok rfl)) nl_ok)) e3 rfl rfl)))) rfl) ?_
  refine seq_nx (S' := S7 ns k (some (.d (.obj μ.length))) (some (.d (.bl (decide ((d1 : Int) = 1))))) (some (.d p)) a5 a6 μ4) (as_ok (dr_get (l := oddP) (ls_ok (cs_ok rfl (cs_ok rfl (cs_ok rfl (cs_ok rfl (cs_ok rfl (cs_ok (tu_ok (cs_ok rfl nl_ok) (by simp)) (cs_ok rfl (cs_ok rfl nl_ok)))))))) (by show 8 ≤ 1000000; decide)) e4 hg4) (by show 4 < 7; decide) rfl) ?_
  refine seq_nx (S' := S7 ns k (some (.d (.obj μ.length))) (some (.d (.bl (decide ((d1 : Int) = 1))))) (some (.d p)) (some (.d w)) a6 μ5) (as_ok (dr_get (l := oddW) (ls_ok (cs_ok rfl (cs_ok rfl (cs_ok rfl (cs_ok rfl (cs_ok rfl (cs_ok (tu_ok (cs_ok rfl nl_ok) (by simp)) (cs_ok rfl (cs_ok rfl nl_ok)))))))) (by show 8 ≤ 1000000; decide)) e5 hg5) (by show 5 < 7; decide) rfl) ?_
  refine seq_nx (as_ok (ls_ok (cs_ok (cl_ok (cs_ok (v_ok rfl) (cs_ok (v_ok rfl) (cs_ok (v_ok rfl) nl_ok))) m1 rfl rfl) (cs_ok (cl_ok (cs_ok (x := .int 4) rfl (cs_ok (v_ok rfl) (cs_ok (nv_ok (v_ok rfl)) nl_ok))) m2 rfl rfl) (cs_ok (cl_ok (cs_ok (x := .int 60) rfl (cs_ok (v_ok rfl) (cs_ok (v_ok rfl) nl_ok))) m3 rfl rfl) nl_ok))) (by simp)) (by show 6 < 7; decide) rfl) ?_
  exact if_f (n_t (t_ok (cl_ok (cs_ok (v_ok rfl) (cs_ok (ls_ok (cs_ok (ls_ok (cs_ok (x := .str "pages") rfl (cs_ok (v_ok rfl) (cs_ok (x := .bl true) rfl nl_ok))) (by simp)) (cs_ok (ls_ok (cs_ok (x := .str "width") rfl (cs_ok (v_ok rfl) (cs_ok (x := .bl true) rfl nl_ok))) (by simp)) (cs_ok (ls_ok (cs_ok (x := .str "width") rfl (cs_ok (v_ok rfl) (cs_ok (x := .bl true) rfl nl_ok))) (by simp)) nl_ok))) (by simp)) nl_ok)) (es _) rfl rfl))) rfl
theorem plain (ns : List Int) (_ : ns.length ≤ 63) : ∃ μ', f_law [.scr (ns.map .int)] (some []) = .ok (.d (.bl true)) μ' := by
  obtain ⟨a2, a3, a4, a5, a6, μ1, e1⟩ := cell_ok (ns := ns) (μ := []) (k := 0) (by decide) (a2 := none) (a3 := none) (a4 := none) (a5 := none) (a6 := none)
  obtain ⟨c2, c3, c4, c5, c6, μ2, e2⟩ := cell_ok (ns := ns) (μ := μ1) (k := 1) (by decide) (a2 := a2) (a3 := a3) (a4 := a4) (a5 := a5) (a6 := a6)
  refine ⟨some μ2, fn_rt (S := S7 ns 1 c2 c3 c4 c5 c6 μ2) rfl ?_⟩
  show M_law ⟨[some (.d (.scr (ns.map .int))), none, none, none, none, none, none], some []⟩ = _
  rw [law_eq]
  refine seq_nx (S' := S7 ns 1 c2 c3 c4 c5 c6 μ2) ?_ (rt_ok rfl)
  have hI : xR1 (xCons (xC (.int 2)) xNil) (⟨[some (.d (.scr (ns.map .int))), none, none, none, none, none, none], some []⟩ : AS) = .ok [.int 0, .int 1] ⟨[some (.d (.scr (ns.map .int))), none, none, none, none, none, none], some []⟩ := xR1_len (j := 2) rfl (by decide)
  rw [sFor, hI]
  have g0 : xgN false 1 (.d (.int 0)) (⟨[some (.d (.scr (ns.map .int))), none, none, none, none, none, none], some []⟩ : AS) = .ok () (S7 ns (0 : Nat) none none none none none []) := rfl
  have g1 : xgN false 1 (.d (.int 1)) (S7 ns (0 : Nat) a2 a3 a4 a5 a6 μ1) = .ok () (S7 ns (1 : Nat) a2 a3 a4 a5 a6 μ1) := rfl
  exact for_nx g0 e1 (for_nx g1 e2 rfl)
end
end K75
end
section
set_option Elab.async false
set_option linter.all false
set_option maxRecDepth 100000
set_option maxHeartbeats 0
/-! the end: from the plain law to the statement -/
namespace K75
open PySem PySem.Spec PyProof.Rows L2 Mi
theorem facts (plain : ∀ ns : List Int, ns.length ≤ 63 → ∃ μ', f_law [.scr (ns.map .int)] (some []) = .ok (.d (.bl true)) μ') {P : Program} {w : World} {K : PySem.W.Frag} {h : Heap} {mg : Str → Option Value} {f : Addr} (v : V1 h K mg) (hfa : mg ("law" : Str) = some (.ref f)) :
    ∃ fd : FuncData, (∀ (s : Shared) (u : Value), BindsTo s fd ⟨[u], []⟩ [("script", u)]) ∧ ∀ base : Heap, K.In base → base.Ns mainGlobals mg → FnOk P w K mg base CX0 13 f fd ["script"] (fun vs H Q _ => spF K mg 1 f_law vs H Q E0) := by
  have hg : mg ("law" : Str) = some (.ref (He.ga K "law")) := v.glo 89
  have e := hfa.symm.trans hg
  cases e
  obtain ⟨fd, F, _⟩ := ok_law (P := P) (w := w) (base := h) v
  have b := FunD.bindsA (ps := ["script"]) F fun _ _ _ _ _ _ us hl => match us, hl with | [_], _ => rfl
  refine ⟨fd, fun s u => b s [u] rfl, fun base _ _ => ?_⟩
  obtain ⟨fd2, F2, k2⟩ := ok_law (P := P) (w := w) (base := base) v
  have e2 : fd2 = fd := by
    obtain ⟨_, _, _, _, _, _, _, _, _, _, e1, l1, _⟩ := F.ex
    obtain ⟨_, _, _, _, _, _, _, _, _, _, e3, l3, _⟩ := F2.ex
    rw [l1] at l3
    injection l3 with l3
    injection l3 with _ _ l3 _
    injection l3 with l3
    exact l3.symm
  subst e2
  exact fn_cx0 k2
end K75
end
section
set_option Elab.async false
set_option linter.all false
set_option maxRecDepth 100000
set_option maxHeartbeats 0
open PySem PySem.W PySem.Calls PyProof.Rows
theorem k75_end (plain : ∀ ns : List Int, ns.length ≤ 63 → ∃ μ', K75.f_law [.scr (ns.map .int)] (some []) = .ok (.d (.bl true)) μ') : PySem.Challenge.rw_tropicbench_k75_disks_and_cuts.Holds := by
  w_on; o_law
  refine HandSHeadRun.head_any (r := OpenLaw.row PySem.Challenge.rw_tropicbench_k75_disks_and_cuts) (q := view (OpenLaw.row PySem.Challenge.rw_tropicbench_k75_disks_and_cuts).prog [37]) (H := K75.hk) (ob := K75.ob) (M := 20000) (loose := K75.loose) (d := HandSHeadRun.topDef (OpenLaw.row PySem.Challenge.rw_tropicbench_k75_disks_and_cuts).prog 37) (kwd := []) K75.ob_eq
    (by kernel_rfl) (fun s => by kernel_rfl) K75.run (by kernel_rfl) (by kernel_rfl) (by kernel_rfl) (by rfl) (by first | assumption | decide +kernel) (by decide +kernel) ⟨rfl, rfl, rfl, rfl, rfl, by decide +kernel⟩ ?hw ?hc
  case hw => w_witness2
  case hc =>
    refine L2.walk_ofE (l := PySem.Challenge.rw_tropicbench_k75_disks_and_cuts) (n := 63) (k := 13) (x := "script") (CX := L2.CX0) rfl (by decide) (by kernel_rfl) ⟨rfl, by decide, by decide⟩ ?F (fun _ _ _ _ z => z)
    intro w mg fa h Y G hmg0
    obtain ⟨K, KX, c, e⟩ := Y
    have hmg : mg ("law" : PySem.Str) = some (.ref fa) := by
      have e : (HandSHeadRun.topDef (OpenLaw.row PySem.Challenge.rw_tropicbench_k75_disks_and_cuts).prog 37).name = ("law" : PySem.Str) := by kernel_rfl
      rw [← e]
      exact hmg0
    obtain ⟨fd, hb, hF⟩ := K75.facts plain (P := (PySem.Challenge.rw_tropicbench_k75_disks_and_cuts).prog) (w := w) ⟨KX, G, c, e⟩ hmg
    exact ⟨K, fd, fun vs H Q _ => Mi.spF K mg 1 K75.f_law vs H Q L2.E0, KX, hb, fun H a ns hl _ hS => Mi.spF_law (plain ns hl) hS, hF⟩
end
section
theorem PySem.Challenge.cw_tropicbench_k75_disks_and_cuts_holds : PySem.Challenge.rw_tropicbench_k75_disks_and_cuts.Holds :=
  k75_end K75.plain
end
