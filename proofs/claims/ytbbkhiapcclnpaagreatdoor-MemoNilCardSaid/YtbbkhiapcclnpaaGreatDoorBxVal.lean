/- The operations that touch no memory, on abstract values, and that the model's operations answer as they do. -/
import Derived.Test.YtbbkhiapcclnpaaGreatDoorBxRel
import Derived.WalkKit
set_option linter.unusedVariables false
set_option linter.unusedSimpArgs false
set_option linter.unusedSectionVars false
namespace Go.Proofs.Bx
open Go

/-! Lists, by bare recursors. -/

noncomputable def lapp {α : Type} (l m : List α) : List α := List.rec (motive := fun _ => List α) m (fun a _ ih => a :: ih) l
theorem lapp_eq {α : Type} (l m : List α) : lapp l m = l ++ m := by
  induction l with
  | nil => rfl
  | cons a l ih => show a :: lapp l m = _; rw [ih]; rfl

noncomputable def ldrop {α : Type} (l : List α) : Nat → List α :=
  List.rec (motive := fun _ => Nat → List α) (fun _ => []) (fun a r ih n => Nat.rec (a :: r) (fun m _ => ih m) n) l
theorem ldrop_eq {α : Type} (l : List α) : ∀ n, ldrop l n = l.drop n := by
  induction l with
  | nil => intro n; simp [ldrop]
  | cons a l ih =>
    intro n
    cases n with
    | zero => rfl
    | succ n => show ldrop l n = _; rw [ih]; rfl

/-- The first n, if there are as many. -/
noncomputable def ltake {α : Type} (l : List α) : Nat → Option (List α) :=
  List.rec (motive := fun _ => Nat → Option (List α)) (fun n => Nat.rec (some []) (fun _ _ => none) n)
    (fun a _ ih n => Nat.rec (some []) (fun m _ => Option.rec none (fun r => some (a :: r)) (ih m)) n) l
theorem ltake_eq {α : Type} (l : List α) : ∀ n r, ltake l n = some r → r = l.take n ∧ r.length = n := by
  induction l with
  | nil =>
    intro n r h
    cases n with
    | zero => cases h; exact ⟨rfl, rfl⟩
    | succ n => cases h
  | cons a l ih =>
    intro n r h
    cases n with
    | zero => cases h; exact ⟨rfl, rfl⟩
    | succ n =>
      have h' : (Option.rec none (fun r => some (a :: r)) (ltake l n) : Option (List α)) = some r := h
      cases hx : ltake l n with
      | none => rw [hx] at h'; cases h'
      | some q =>
        rw [hx] at h'
        cases h'
        obtain ⟨h1, h2⟩ := ih n q hx
        exact ⟨by rw [h1]; rfl, by simp [h2]⟩

noncomputable def llen {α : Type} (l : List α) : Nat := List.rec (motive := fun _ => Nat) 0 (fun _ _ ih => Nat.succ ih) l
theorem llen_eq {α : Type} (l : List α) : llen l = l.length := by
  induction l with
  | nil => rfl
  | cons a l ih => show llen l + 1 = _; rw [ih]; rfl

/-- All by a function, if it answers at each. -/
noncomputable def lmapO {α β : Type} (f : α → Option β) (l : List α) : Option (List β) :=
  List.rec (motive := fun _ => Option (List β)) (some []) (fun a _ ih => Option.rec none (fun b => Option.rec none (fun r => some (b :: r)) ih) (f a)) l
theorem lmapO_nil {α β : Type} (f : α → Option β) : lmapO f [] = some [] := rfl
theorem lmapO_cons {α β : Type} {f : α → Option β} {a : α} {l : List α} {r : List β} (h : lmapO f (a :: l) = some r) :
    ∃ b q, f a = some b ∧ lmapO f l = some q ∧ r = b :: q := by
  have h' : (Option.rec none (fun b => Option.rec none (fun r => some (b :: r)) (lmapO f l)) (f a) : Option (List β)) = some r := h
  cases hb : f a with
  | none => rw [hb] at h'; cases h'
  | some b =>
    rw [hb] at h'
    cases hq : lmapO f l with
    | none => rw [hq] at h'; cases h'
    | some q => rw [hq] at h'; cases h'; exact ⟨b, q, rfl, rfl, rfl⟩
theorem lmapO_len {α β : Type} {f : α → Option β} : ∀ {l : List α} {r : List β}, lmapO f l = some r → r.length = l.length
  | [], r, h => by cases h; rfl
  | a :: l, r, h => by
    obtain ⟨b, q, _, hq, rfl⟩ := lmapO_cons h
    simp [lmapO_len hq]
theorem lmapO_get {α β : Type} {f : α → Option β} : ∀ {l : List α} {r : List β}, lmapO f l = some r → ∀ (i : Nat) (a : α), l[i]? = some a → ∃ b, f a = some b ∧ r[i]? = some b
  | [], r, _, i, a, e => by simp at e
  | x :: l, r, h, i, a, e => by
    obtain ⟨b, q, hb, hq, rfl⟩ := lmapO_cons h
    cases i with
    | zero => simp at e; subst e; exact ⟨b, hb, by simp⟩
    | succ i => exact (lmapO_get hq i a (by simpa using e)).imp fun c hc => ⟨hc.1, by simpa using hc.2⟩

/-! Constants. -/

/-- A constant without an address, of one cell. -/
def cvAtom : Value → Option AV
  | .bool b => some (.bool b)
  | .int k n => some (.int k n)
  | .string s => some (.str s)
  | .pointer none => some (.ptr none)
  | .slice none 0 0 => some (.slice none 0 (.exact 0))
  | .map none => some (.map none)
  | .nilFunc => some .nilFunc
  | .nilIface => some .nilIface
  | _ => none

theorem cvAtom_vr (ρ : BMap) {v : Value} {a : AV} (h : cvAtom v = some a) : VR ρ a v := by
  unfold cvAtom at h
  split at h <;> first | (cases h; constructor) | cases h

noncomputable def cv (v : Value) : Option AV :=
  match v with
  | .agg cs => Option.rec none (fun l => some (.agg l)) (lmapO cvAtom cs.toList)
  | .tuple cs => Option.rec none (fun l => some (.tuple l)) (lmapO cvAtom cs.toList)
  | v => cvAtom v

theorem lmapO_cvAtom (ρ : BMap) {cs : Array Value} {l : List AV} (h : lmapO cvAtom cs.toList = some l) : VRs ρ l cs := by
  refine ⟨by rw [lmapO_len h]; simp, fun i v v' e e' => ?_⟩
  obtain ⟨b, hb, hr⟩ := lmapO_get h i v' (by simpa using e')
  rw [e] at hr
  cases hr
  exact cvAtom_vr ρ hb

theorem cv_vr (ρ : BMap) {v : Value} {a : AV} (h : cv v = some a) : VR ρ a v := by
  unfold cv at h
  split at h
  · rename_i cs
    cases hl : lmapO cvAtom cs.toList with
    | none => rw [hl] at h; cases h
    | some l => rw [hl] at h; cases h; exact .agg (lmapO_cvAtom ρ hl).1 (lmapO_cvAtom ρ hl).2
  · rename_i cs
    cases hl : lmapO cvAtom cs.toList with
    | none => rw [hl] at h; cases h
    | some l => rw [hl] at h; cases h; exact .tuple (lmapO_cvAtom ρ hl).1 (lmapO_cvAtom ρ hl).2
  · exact cvAtom_vr ρ h

/-! Cells. -/

/-- Of one cell, and known. -/
def AV.atom : AV → Bool
  | .undef => false
  | .agg _ => false
  | .tuple _ => false
  | _ => true

theorem VR.oneCell {ρ : BMap} {a : AV} {v : Value} (h : VR ρ a v) (ha : a.atom = true) : v.oneCell' = true := by
  cases h <;> first | rfl | (cases ha)

/-- The cells of a value that is known. -/
noncomputable def AV.cells (v : AV) : Option (List AV) :=
  match v with
  | .agg cs => some cs
  | v => cond v.atom (some [v]) none

theorem AV.cells_vr {ρ : BMap} {a : AV} {v : Value} {l : List AV} (h : VR ρ a v) (hc : a.cells = some l) : VRs ρ l v.cells := by
  cases h with
  | agg h1 g1 => cases hc; exact ⟨h1, g1⟩
  | undef v => cases hc
  | tuple h1 g1 => cases hc
  | _ =>
    cases hc
    refine ⟨rfl, fun i x x' e e' => ?_⟩
    have hi : i = 0 := by
      have := (List.getElem?_eq_some_iff.1 e).1
      simp at this; exact this
    subst hi
    simp [Value.cells] at e e'
    subst e; subst e'
    first | constructor <;> assumption | constructor

noncomputable def allAtoms (l : List AV) : Bool := List.rec (motive := fun _ => Bool) true (fun a _ ih => cond a.atom ih false) l
theorem allAtoms_mem : ∀ {l : List AV}, allAtoms l = true → ∀ a ∈ l, a.atom = true
  | [], _, a, h => by simp at h
  | x :: l, h, a, hm => by
    have h' : cond x.atom (allAtoms l) false = true := h
    cases hx : x.atom with
    | false => rw [hx] at h'; cases h'
    | true =>
      rw [hx] at h'
      rcases List.mem_cons.1 hm with rfl | hm
      · exact hx
      · exact allAtoms_mem h' a hm

theorem VRs.oneCell {ρ : BMap} {l : List AV} {a : Array Value} (h : VRs ρ l a) (ha : allAtoms l = true) : ∀ v ∈ a.toList, v.oneCell' = true := by
  intro v hv
  obtain ⟨i, hi⟩ := List.mem_iff_getElem?.1 hv
  have hi' : a[i]? = some v := by simpa using hi
  have hlt : i < l.length := by rw [h.1]; exact (Array.getElem?_eq_some_iff.1 hi').1
  have := h.2 i l[i] v (by simp [hlt]) hi'
  exact this.oneCell (allAtoms_mem ha _ (by simp))

end Go.Proofs.Bx
