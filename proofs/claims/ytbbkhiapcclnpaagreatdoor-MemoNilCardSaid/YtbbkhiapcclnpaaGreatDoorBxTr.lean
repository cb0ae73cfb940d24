/- A finite map from numbers, as a tree whose paths are a number's halves, made by bare recursors so that the kernel runs it quickly; with the one law of reading behind writing. -/
import Derived.Orders
set_option linter.unusedVariables false
set_option linter.unusedSimpArgs false
set_option linter.unusedSectionVars false
namespace Go.Proofs.Bx

/-- The i-th of a list. -/
noncomputable def nth {α : Type} (l : List α) : Nat → Option α :=
  List.rec (motive := fun _ => Nat → Option α) (fun _ => none) (fun a _ ih i => Nat.rec (some a) (fun j _ => ih j) i) l

theorem nth_eq {α : Type} (l : List α) : ∀ i, nth l i = l[i]? := by
  induction l with
  | nil => intro i; simp [nth]
  | cons a l ih =>
    intro i
    cases i with
    | zero => rfl
    | succ i => show nth l i = _; rw [ih]; simp

theorem beq_no {i j : Nat} (h : i ≠ j) : Nat.beq i j = false := by
  cases hb : Nat.beq i j with
  | false => rfl
  | true => exact absurd (Nat.eq_of_beq_eq_true hb) h

theorem beq_yes {i j : Nat} (h : i = j) : Nat.beq i j = true := by
  subst h; exact Nat.beq_refl i

/-- The way to a number. -/
inductive Path where
  | here
  | odd (p : Path)
  | even (p : Path)

noncomputable def Path.num (p : Path) : Nat := Path.rec (motive := fun _ => Nat) 0 (fun _ n => 2 * n + 1) (fun _ n => 2 * n + 2) p

noncomputable def pathGo (f : Nat) : Nat → Path :=
  Nat.rec (motive := fun _ => Nat → Path) (fun _ => .here)
    (fun _ ih i => Bool.rec (Bool.rec (.even (ih (Nat.shiftRight (Nat.sub i 1) 1))) (.odd (ih (Nat.shiftRight i 1))) (Nat.beq (Nat.land i 1) 1)) .here (Nat.beq i 0)) f

noncomputable def path (i : Nat) : Path := pathGo i i

theorem land_one (i : Nat) : Nat.land i 1 = i % 2 := by
  show i &&& 1 = _
  exact Nat.and_one_is_mod i

theorem shr_one (i : Nat) : Nat.shiftRight i 1 = i / 2 := by
  show i >>> 1 = _
  simp [Nat.shiftRight_succ]

theorem pathGo_num : ∀ (f i : Nat), i ≤ f → (pathGo f i).num = i := by
  intro f
  induction f with
  | zero => intro i h; have : i = 0 := by omega
            subst this; rfl
  | succ f ih =>
    intro i h
    have e : pathGo (f + 1) i = Bool.rec (Bool.rec (.even (pathGo f (Nat.shiftRight (Nat.sub i 1) 1))) (.odd (pathGo f (Nat.shiftRight i 1))) (Nat.beq (Nat.land i 1) 1)) .here (Nat.beq i 0) := rfl
    rw [e, land_one, shr_one, shr_one]
    by_cases h0 : i = 0
    · subst h0; rfl
    · rw [beq_no h0]
      by_cases h2 : i % 2 = 1
      · rw [beq_yes h2]
        show 2 * (pathGo f (i / 2)).num + 1 = i
        rw [ih _ (by omega)]; omega
      · rw [beq_no h2]
        show 2 * (pathGo f ((i - 1) / 2)).num + 2 = i
        rw [ih _ (by omega)]; omega

theorem path_inj {i j : Nat} (h : path i = path j) : i = j := by
  have hi := pathGo_num i i (Nat.le_refl _)
  have hj := pathGo_num j j (Nat.le_refl _)
  unfold path at h
  rw [← hi, h, hj]

inductive Tr (α : Type) where
  | nil
  | node (l : Tr α) (v : Option α) (r : Tr α)

namespace Tr
variable {α : Type}

noncomputable def getP (t : Tr α) : Path → Option α :=
  Tr.rec (motive := fun _ => Path → Option α) (fun _ => none) (fun _ v _ gl gr p => Path.rec (motive := fun _ => Option α) v (fun q _ => gl q) (fun q _ => gr q) p) t

noncomputable def singP (x : α) (p : Path) : Tr α :=
  Path.rec (motive := fun _ => Tr α) (.node .nil (some x) .nil) (fun _ s => .node s none .nil) (fun _ s => .node .nil none s) p

noncomputable def setP (t : Tr α) (x : α) : Path → Tr α :=
  Tr.rec (motive := fun _ => Path → Tr α) (fun p => singP x p)
    (fun l v r sl sr p => Path.rec (motive := fun _ => Tr α) (.node l (some x) r) (fun q _ => .node (sl q) v r) (fun q _ => .node l v (sr q)) p) t

noncomputable def get (t : Tr α) (i : Nat) : Option α := getP t (path i)

noncomputable def set (t : Tr α) (x : α) (i : Nat) : Tr α := setP t x (path i)

theorem getP_sing {x y : α} : ∀ {p q : Path}, getP (singP x p) q = some y → q = p ∧ y = x := by
  intro p
  induction p with
  | here =>
    intro q h
    cases q with
    | here => cases h; exact ⟨rfl, rfl⟩
    | odd q => cases h
    | even q => cases h
  | odd p ih =>
    intro q h
    cases q with
    | here => cases h
    | odd q =>
      obtain ⟨a, b⟩ := ih (show getP (singP x p) q = some y from h)
      exact ⟨by rw [a], b⟩
    | even q => cases h
  | even p ih =>
    intro q h
    cases q with
    | here => cases h
    | odd q => cases h
    | even q =>
      obtain ⟨a, b⟩ := ih (show getP (singP x p) q = some y from h)
      exact ⟨by rw [a], b⟩

theorem getP_setP {x y : α} : ∀ {t : Tr α} {p q : Path}, getP (setP t x p) q = some y → (q = p ∧ y = x) ∨ (q ≠ p ∧ getP t q = some y) := by
  intro t
  induction t with
  | nil => intro p q h; exact .inl (getP_sing h)
  | node l v r ihl ihr =>
    intro p q h
    cases p with
    | here =>
      cases q with
      | here => cases h; exact .inl ⟨rfl, rfl⟩
      | odd q => exact .inr ⟨by simp, h⟩
      | even q => exact .inr ⟨by simp, h⟩
    | odd p =>
      cases q with
      | here => exact .inr ⟨by simp, h⟩
      | odd q =>
        rcases ihl (show getP (setP l x p) q = some y from h) with ⟨a, b⟩ | ⟨a, b⟩
        · exact .inl ⟨by rw [a], b⟩
        · exact .inr ⟨by simpa using a, b⟩
      | even q => exact .inr ⟨by simp, h⟩
    | even p =>
      cases q with
      | here => exact .inr ⟨by simp, h⟩
      | odd q => exact .inr ⟨by simp, h⟩
      | even q =>
        rcases ihr (show getP (setP r x p) q = some y from h) with ⟨a, b⟩ | ⟨a, b⟩
        · exact .inl ⟨by rw [a], b⟩
        · exact .inr ⟨by simpa using a, b⟩

/-- What is read behind a write: what was written, or what was there. -/
theorem get_set {t : Tr α} {x y : α} {i j : Nat} (h : get (set t x i) j = some y) : (j = i ∧ y = x) ∨ (j ≠ i ∧ get t j = some y) := by
  rcases getP_setP h with ⟨a, b⟩ | ⟨a, b⟩
  · exact .inl ⟨path_inj a, b⟩
  · exact .inr ⟨fun e => a (by rw [e]), b⟩

end Tr
end Go.Proofs.Bx
