/- A run in a small memory serves in every memory in which the small one lies: patterns, how they are met, and what a call then answers. -/
import Derived.Test.YtbbkhiapcclnpaaGreatDoorBxWalk
set_option linter.unusedVariables false
set_option linter.unusedSimpArgs false
set_option linter.unusedSectionVars false
namespace Go.Proofs.Bx
open Go

/-! More of the finite maps. -/

namespace Tr
variable {α : Type}

theorem getP_sing_same (x : α) : ∀ p : Path, getP (singP x p) p = some x
  | .here => rfl
  | .odd p => getP_sing_same x p
  | .even p => getP_sing_same x p

theorem getP_sing_other (x : α) : ∀ {p q : Path}, q ≠ p → getP (singP x p) q = none
  | .here, .here, h => absurd rfl h
  | .here, .odd _, _ => rfl
  | .here, .even _, _ => rfl
  | .odd _, .here, _ => rfl
  | .odd p, .odd q, h => getP_sing_other x (p := p) (q := q) (fun e => h (by rw [e]))
  | .odd _, .even _, _ => rfl
  | .even _, .here, _ => rfl
  | .even _, .odd _, _ => rfl
  | .even p, .even q, h => getP_sing_other x (p := p) (q := q) (fun e => h (by rw [e]))

theorem getP_setP_same (x : α) : ∀ (t : Tr α) (p : Path), getP (setP t x p) p = some x
  | .nil, p => getP_sing_same x p
  | .node _ _ _, .here => rfl
  | .node l _ _, .odd p => getP_setP_same x l p
  | .node _ _ r, .even p => getP_setP_same x r p

theorem getP_setP_other (x : α) : ∀ (t : Tr α) {p q : Path}, q ≠ p → getP (setP t x p) q = getP t q
  | .nil, _, _, h => getP_sing_other x h
  | .node _ _ _, .here, .here, h => absurd rfl h
  | .node _ _ _, .here, .odd _, _ => rfl
  | .node _ _ _, .here, .even _, _ => rfl
  | .node _ _ _, .odd _, .here, _ => rfl
  | .node l _ _, .odd p, .odd q, h => getP_setP_other x l (p := p) (q := q) (fun e => h (by rw [e]))
  | .node _ _ _, .odd _, .even _, _ => rfl
  | .node _ _ _, .even _, .here, _ => rfl
  | .node _ _ _, .even _, .odd _, _ => rfl
  | .node _ _ r, .even p, .even q, h => getP_setP_other x r (p := p) (q := q) (fun e => h (by rw [e]))

theorem path_ne {i j : Nat} (h : i ≠ j) : path i ≠ path j := fun e => h (path_inj e)

theorem get_set_same (t : Tr α) (x : α) (i : Nat) : get (set t x i) i = some x := getP_setP_same x t (path i)
theorem get_set_other (t : Tr α) (x : α) {i j : Nat} (h : j ≠ i) : get (set t x i) j = get t j := getP_setP_other x t (path_ne h)

end Tr

/-! Texts. -/

noncomputable def bytesSame (l : List UInt8) : List UInt8 → Bool :=
  List.rec (motive := fun _ => List UInt8 → Bool) (fun m => match m with
    | [] => true
    | _ => false) (fun a _ ih m => match m with
    | [] => false
    | b :: m => Bool.rec false (ih m) (Nat.beq a.toNat b.toNat)) l

theorem bytesSame_eq : ∀ {l m : List UInt8}, bytesSame l m = true → l = m
  | [], m, h => by
    cases m with
    | nil => rfl
    | cons _ _ => cases h
  | a :: l, m, h => by
    cases m with
    | nil => cases h
    | cons b m =>
      have h' : (Bool.rec false (bytesSame l m) (Nat.beq a.toNat b.toNat) : Bool) = true := h
      cases hb : Nat.beq a.toNat b.toNat with
      | false => rw [hb] at h'; cases h'
      | true =>
        rw [hb] at h'
        rw [UInt8.toNat_inj.1 (Nat.eq_of_beq_eq_true hb), bytesSame_eq h']

noncomputable def strSame (s t : ByteArray) : Bool := bytesSame s.data.toList t.data.toList

theorem strSame_eq {s t : ByteArray} (h : strSame s t = true) : s = t := by
  have h1 := bytesSame_eq h
  obtain ⟨⟨a⟩⟩ := s
  obtain ⟨⟨b⟩⟩ := t
  cases h1; rfl

/-! Which values meet a pattern. -/

section meet
variable {σ : Type} (bnd : Nat → Nat → σ → Option σ)

noncomputable def capMeets (p c : Cap) : Bool :=
  match p, c with
  | .exact n, .exact m => Nat.beq n m
  | .atLeast n b k, .atLeast m b' k' => Nat.ble n m && (Nat.beq b b' && Nat.beq k k')
  | _, _ => false

noncomputable def placeMeets (p a : Option (Nat × Nat)) (x : σ) : Option σ :=
  match p, a with
  | none, none => some x
  | some (b, o), some (b', o') => cond (Nat.beq o o') (bnd b b' x) none
  | _, _ => none

noncomputable def fnMeets (p a : Fn) : Bool :=
  match p, a with
  | .func f, .func g => Nat.beq f g
  | _, _ => false

noncomputable def meetV (p : AV) : AV → σ → Option σ :=
  AV.rec (motive_1 := fun _ => AV → σ → Option σ) (motive_2 := fun _ => List AV → σ → Option σ)
    (fun _ x => some x)
    (fun b v x => match v with
      | .bool c => cond (b == c) (some x) none
      | _ => none)
    (fun k n v x => match v with
      | .int j m => cond (kindEq k j) (cond (n == m) (some x) none) none
      | _ => none)
    (fun s v x => match v with
      | .str t => cond (strSame s t) (some x) none
      | _ => none)
    (fun a v x => match v with
      | .ptr c => placeMeets bnd a c x
      | _ => none)
    (fun a n c v x => match v with
      | .slice a' m c' => cond (Nat.beq n m) (cond (capMeets c c') (placeMeets bnd a a' x) none) none
      | _ => none)
    (fun r v x => match v with
      | .map r' => match r, r' with
        | none, none => some x
        | some i, some j => bnd i j x
        | _, _ => none
      | _ => none)
    (fun fn _ _ ih1 ih2 v x => match v with
      | .func fn' fi ca => cond (fnMeets fn fn') (ob (ih1 fi x) fun x => ih2 ca x) none
      | _ => none)
    (fun v x => match v with
      | .nilFunc => some x
      | _ => none)
    (fun t _ ih v x => match v with
      | .iface u w => cond (Nat.beq t u) (ih w x) none
      | _ => none)
    (fun v x => match v with
      | .nilIface => some x
      | _ => none)
    (fun i v x => match v with
      | .yld j => bnd i j x
      | _ => none)
    (fun _ ih v x => match v with
      | .agg l => ih l x
      | _ => none)
    (fun _ ih v x => match v with
      | .tuple l => ih l x
      | _ => none)
    (fun l x => match l with
      | [] => some x
      | _ => none)
    (fun _ _ ih1 ih2 l x => match l with
      | [] => none
      | v :: l => ob (ih1 v x) fun x => ih2 l x) p

noncomputable def meetL (p : List AV) : List AV → σ → Option σ :=
  List.rec (motive := fun _ => List AV → σ → Option σ)
    (fun l x => match l with
      | [] => some x
      | _ => none)
    (fun a _ ih l x => match l with
      | [] => none
      | v :: l => ob (meetV bnd a v x) fun x => ih l x) p

/-- The same, of a list that may be longer. -/
noncomputable def meetP (p : List AV) : List AV → σ → Option σ :=
  List.rec (motive := fun _ => List AV → σ → Option σ)
    (fun _ x => some x)
    (fun a _ ih l x => match l with
      | [] => none
      | v :: l => ob (meetV bnd a v x) fun x => ih l x) p

noncomputable def meetE (p : List (AV × AV × Nat)) : List (AV × AV × Nat) → σ → Option σ :=
  List.rec (motive := fun _ => List (AV × AV × Nat) → σ → Option σ)
    (fun l x => match l with
      | [] => some x
      | _ => none)
    (fun a _ ih l x => match l with
      | [] => none
      | v :: l => ob (meetV bnd a.1 v.1 x) fun x => ob (meetV bnd a.2.1 v.2.1 x) fun x => cond (Nat.beq a.2.2 v.2.2) (ih l x) none) p

/-- What a pattern asks of the kind of a block's elements. -/
noncomputable def tyOk (a b : Option TypeId) : Bool :=
  match a, b with
  | none, _ => true
  | some a, some b => Nat.beq a b
  | some _, none => false

theorem tyOk_some {a b : Option TypeId} (h : tyOk a b = true) {t : TypeId} (e : a = some t) : b = some t := by
  subst e
  cases b with
  | none => cases h
  | some b => exact congrArg some (Nat.eq_of_beq_eq_true h).symm

noncomputable def meetB (p b : Blk) (x : σ) : Option σ :=
  match p, b with
  | .cells cs rw ty, .cells cs' rw' ty' => cond (cond rw rw' true) (cond (tyOk ty ty') (meetP bnd cs cs' x) none) none
  | .map es ck, .map es' ck' => cond (Nat.beq ck ck') (meetE bnd es es' x) none
  | _, _ => none

/-- What a binding owes: it says which, and takes nothing back. -/
structure Binds (I : σ → Nat → Option Nat) (Pr : σ → Prop) : Prop where
  at' : ∀ {i j x y}, bnd i j x = some y → I y i = some j
  mono : ∀ {i j x y}, bnd i j x = some y → ∀ k l, I x k = some l → I y k = some l
  keep : ∀ {i j x y}, bnd i j x = some y → Pr x → Pr y

def After (I : σ → Nat → Option Nat) (Pr : σ → Prop) (x y : σ) : Prop := (∀ k l, I x k = some l → I y k = some l) ∧ (Pr x → Pr y)

/-- A map of blocks behind another one. -/
def via (R : Nat → Option Nat) (ρ : BMap) : BMap := fun i => (R i).bind ρ

variable {bnd} {I : σ → Nat → Option Nat} {Pr : σ → Prop}

theorem After.refl (x : σ) : After I Pr x x := ⟨fun _ _ h => h, fun h => h⟩
theorem After.trans {x y z : σ} (h : After I Pr x y) (k : After I Pr y z) : After I Pr x z := ⟨fun i l e => k.1 i l (h.1 i l e), fun e => k.2 (h.2 e)⟩
theorem After.sub {x y : σ} (h : After I Pr x y) (ρ : BMap) : Sub (via (I x) ρ) (via (I y) ρ) := fun i r e => by
  unfold via at e ⊢
  cases hx : I x i with
  | none => rw [hx] at e; cases e
  | some l => rw [hx] at e; rw [h.1 i l hx]; exact e

theorem capMeets_ok {p c : Cap} (h : capMeets p c = true) {o z n : Nat} (hc : c.ok o z n) : p.ok o z n := by
  unfold capMeets at h
  split at h
  · have := Nat.eq_of_beq_eq_true h; subst this; exact hc
  · simp only [Bool.and_eq_true] at h
    obtain ⟨h1, h2, h3⟩ := h
    have h1 := Nat.le_of_ble_eq_true h1
    have h2 := Nat.eq_of_beq_eq_true h2
    have h3 := Nat.eq_of_beq_eq_true h3
    subst h2; subst h3
    exact ⟨Nat.le_trans h1 hc.1, hc.2⟩
  · cases h

theorem via_at {R : Nat → Option Nat} {ρ : BMap} {i j : Nat} {q : Nat × Nat} (h : R i = some j) (hj : ρ j = some q) : via R ρ i = some q := by
  unfold via; rw [h]; exact hj

variable (hb : Binds bnd I Pr)
include hb

theorem placeMeets_after {p a : Option (Nat × Nat)} {x y : σ} (h : placeMeets bnd p a x = some y) : After I Pr x y := by
  unfold placeMeets at h
  split at h
  · cases h; exact .refl _
  · replace h := cond_some h; exact ⟨hb.mono h.2, hb.keep h.2⟩
  · cases h

/-- What meets a pattern reads as it. -/
theorem meetV_ok (p : AV) : ∀ {v : AV} {x y : σ}, meetV bnd p v x = some y → After I Pr x y ∧ ∀ {ρ : BMap} {v' : Value}, VR ρ v v' → VR (via (I y) ρ) p v' := by
  refine AV.rec (motive_1 := fun p => ∀ {v : AV} {x y : σ}, meetV bnd p v x = some y → After I Pr x y ∧ ∀ {ρ : BMap} {v' : Value}, VR ρ v v' → VR (via (I y) ρ) p v')
    (motive_2 := fun l => ∀ {m : List AV} {x y : σ}, meetV bnd (.agg l) (.agg m) x = some y → After I Pr x y ∧ ∀ {ρ : BMap} {a : Array Value}, VRs ρ m a → VRs (via (I y) ρ) l a)
    ?_ ?_ ?_ ?_ ?_ ?_ ?_ ?_ ?_ ?_ ?_ ?_ ?_ ?_ ?_ ?_ p
  · intro v x y h
    cases (show some x = some y from h)
    exact ⟨.refl _, fun _ => .undef _⟩
  · intro b v x y h
    cases v <;> try (cases (show none = some y from h); done)
    replace h := cond_some h
    obtain ⟨h1, h2⟩ := h
    cases h2
    have := eq_of_beq h1
    subst this
    exact ⟨.refl _, fun hv => by cases hv; exact .bool _⟩
  · intro k n v x y h
    cases v <;> try (cases (show none = some y from h); done)
    replace h := cond_some h
    obtain ⟨h1, h⟩ := h
    replace h := cond_some h
    obtain ⟨h2, h3⟩ := h
    cases h3
    have h1 := of_decide_eq_true h1
    have h2 := eq_of_beq h2
    subst h1; subst h2
    exact ⟨.refl _, fun hv => by cases hv; exact .int _ _⟩
  · intro s v x y h
    cases v <;> try (cases (show none = some y from h); done)
    replace h := cond_some h
    obtain ⟨h1, h2⟩ := h
    cases h2
    have := strSame_eq h1
    subst this
    exact ⟨.refl _, fun hv => by cases hv; exact .str _⟩
  · intro a v x y h
    cases v <;> try (cases (show none = some y from h); done)
    rename_i c
    have h : placeMeets bnd a c x = some y := h
    refine ⟨placeMeets_after hb h, fun hv => ?_⟩
    unfold placeMeets at h
    split at h
    · cases hv; exact .ptrNil
    · replace h := cond_some h; obtain ⟨h1, h2⟩ := h
      have h1 := Nat.eq_of_beq_eq_true h1
      subst h1
      cases hv with
      | ptr hr => exact .ptr (via_at (hb.at' h2) hr)
    · cases h
  · intro a n c v x y h
    cases v <;> try (cases (show none = some y from h); done)
    rename_i a' m c'
    replace h := cond_some h; obtain ⟨h1, h⟩ := h
    replace h := cond_some h; obtain ⟨h2, h⟩ := h
    have h1 := Nat.eq_of_beq_eq_true h1
    subst h1
    refine ⟨placeMeets_after hb h, fun hv => ?_⟩
    unfold placeMeets at h
    split at h
    · cases hv with
      | sliceNil =>
        have := capMeets_ok h2 (o := 0) (z := 0) (n := 0) rfl
        cases c with
        | exact m => cases (show 0 = m from this); exact .sliceNil
        | atLeast m b k => cases h2
    · replace h := cond_some h; obtain ⟨h3, h4⟩ := h
      have h3 := Nat.eq_of_beq_eq_true h3
      subst h3
      cases hv with
      | slice hr hc hl => exact .slice (via_at (hb.at' h4) hr) (capMeets_ok h2 hc) hl
    · cases h
  · intro r v x y h
    cases v <;> try (cases (show none = some y from h); done)
    rename_i r'
    cases r with
    | none =>
      cases r' with
      | none => cases (show some x = some y from h); exact ⟨.refl _, fun hv => by cases hv; exact .mapNil⟩
      | some j => cases (show none = some y from h)
    | some i =>
      cases r' with
      | none => cases (show none = some y from h)
      | some j =>
        have h : bnd i j x = some y := h
        exact ⟨⟨hb.mono h, hb.keep h⟩, fun hv => by cases hv with | map hr => exact .map (via_at (hb.at' h) hr)⟩
  · intro fn fi ca ih1 ih2 v x y h
    cases v <;> try (cases (show none = some y from h); done)
    rename_i fn' fi' ca'
    replace h := cond_some h; obtain ⟨h1, h⟩ := h
    replace h := ob_some h; obtain ⟨z, h2, h3⟩ := h
    obtain ⟨a1, b1⟩ := ih1 h2
    obtain ⟨a2, b2⟩ := ih2 h3
    have hfn : fn = fn' := by
      unfold fnMeets at h1
      split at h1
      · rw [Nat.eq_of_beq_eq_true h1]
      · cases h1
    subst hfn
    refine ⟨a1.trans a2, fun hv => ?_⟩
    cases hv with
    | func g1 g2 k1 k2 =>
      have q1 := (b1 (ρ := _) ⟨g1, k1⟩).mono (a2.sub _)
      have q2 := b2 (ρ := _) ⟨g2, k2⟩
      exact .func q1.1 q2.1 q1.2 q2.2
  · intro v x y h
    cases v <;> try (cases (show none = some y from h); done)
    cases (show some x = some y from h)
    exact ⟨.refl _, fun hv => by cases hv; exact .nilFunc⟩
  · intro t w ih v x y h
    cases v <;> try (cases (show none = some y from h); done)
    replace h := cond_some h; obtain ⟨h1, h⟩ := h
    have h1 := Nat.eq_of_beq_eq_true h1
    subst h1
    obtain ⟨a1, b1⟩ := ih h
    exact ⟨a1, fun hv => by cases hv with | iface hw => exact .iface (b1 hw)⟩
  · intro v x y h
    cases v <;> try (cases (show none = some y from h); done)
    cases (show some x = some y from h)
    exact ⟨.refl _, fun hv => by cases hv; exact .nilIface⟩
  · intro i v x y h
    cases v <;> try (cases (show none = some y from h); done)
    rename_i j
    have h : bnd i j x = some y := h
    exact ⟨⟨hb.mono h, hb.keep h⟩, fun hv => by cases hv with | yld hr => exact .yld (via_at (hb.at' h) hr)⟩
  · intro l ih v x y h
    cases v <;> try (cases (show none = some y from h); done)
    obtain ⟨a1, b1⟩ := ih h
    refine ⟨a1, fun hv => ?_⟩
    cases hv with
    | agg g1 k1 => have := b1 (ρ := _) ⟨g1, k1⟩; exact .agg this.1 this.2
  · intro l ih v x y h
    cases v <;> try (cases (show none = some y from h); done)
    obtain ⟨a1, b1⟩ := ih h
    refine ⟨a1, fun hv => ?_⟩
    cases hv with
    | tuple g1 k1 => have := b1 (ρ := _) ⟨g1, k1⟩; exact .tuple this.1 this.2
  · intro m x y h
    cases m with
    | nil => cases (show some x = some y from h); exact ⟨.refl _, fun hv => ⟨hv.1, fun i v v' e => by simp at e⟩⟩
    | cons _ _ => cases (show none = some y from h)
  · intro a l ih1 ih2 m x y h
    cases m with
    | nil => cases (show none = some y from h)
    | cons v m =>
      replace h := ob_some (show ob (meetV bnd a v x) (fun x => meetV bnd (.agg l) (.agg m) x) = some y from h); obtain ⟨z, h1, h2⟩ := h
      obtain ⟨a1, b1⟩ := ih1 h1
      obtain ⟨a2, b2⟩ := ih2 h2
      refine ⟨a1.trans a2, fun hv => ?_⟩
      obtain ⟨u, us, rfl, hu, hus⟩ := hv.cons_inv
      have q1 := (b1 hu).mono (a2.sub _)
      have q2 := b2 hus
      refine ⟨by have := q2.1; simp [this]; omega, fun i w w' e e' => ?_⟩
      cases i with
      | zero => simp at e; rw [Array.getElem?_append_left (by simp)] at e'; simp at e'; subst e; subst e'; exact q1
      | succ i => rw [Array.getElem?_append_right (by simp)] at e'; exact q2.2 i w w' (by simpa using e) (by simpa using e')

theorem meetL_ok : ∀ {p l : List AV} {x y : σ}, meetL bnd p l x = some y → After I Pr x y ∧ ∀ {ρ : BMap} {a : Array Value}, VRs ρ l a → VRs (via (I y) ρ) p a := by
  intro p
  induction p with
  | nil =>
    intro m x y h
    cases m with
    | nil => cases (show some x = some y from h); exact ⟨.refl _, fun hv => ⟨hv.1, fun i v v' e => by simp at e⟩⟩
    | cons _ _ => cases (show none = some y from h)
  | cons a l ih2 =>
    intro m x y h
    cases m with
    | nil => cases (show none = some y from h)
    | cons v m =>
      replace h := ob_some (show ob (meetV bnd a v x) (fun x => meetL bnd l m x) = some y from h); obtain ⟨z, h1, h2⟩ := h
      obtain ⟨a1, b1⟩ := meetV_ok hb a h1
      obtain ⟨a2, b2⟩ := ih2 h2
      refine ⟨a1.trans a2, fun hv => ?_⟩
      obtain ⟨u, us, rfl, hu, hus⟩ := hv.cons_inv
      have q1 := (b1 hu).mono (a2.sub _)
      have q2 := b2 hus
      refine ⟨by have := q2.1; simp [this]; omega, fun i w w' e e' => ?_⟩
      cases i with
      | zero => simp at e; rw [Array.getElem?_append_left (by simp)] at e'; simp at e'; subst e; subst e'; exact q1
      | succ i => rw [Array.getElem?_append_right (by simp)] at e'; exact q2.2 i w w' (by simpa using e) (by simpa using e')

theorem meetP_ok : ∀ {p l : List AV} {x y : σ}, meetP bnd p l x = some y → After I Pr x y ∧ p.length ≤ l.length ∧
    ∀ (i : Nat) (q : AV), p[i]? = some q → ∃ v, l[i]? = some v ∧ ∀ {ρ : BMap} {v' : Value}, VR ρ v v' → VR (via (I y) ρ) q v' := by
  intro p
  induction p with
  | nil =>
    intro m x y h
    cases (show some x = some y from h)
    exact ⟨.refl _, Nat.zero_le _, fun i q e => by simp at e⟩
  | cons a l ih2 =>
    intro m x y h
    cases m with
    | nil => cases (show none = some y from h)
    | cons v m =>
      replace h := ob_some (show ob (meetV bnd a v x) (fun x => meetP bnd l m x) = some y from h); obtain ⟨z, h1, h2⟩ := h
      obtain ⟨a1, b1⟩ := meetV_ok hb a h1
      obtain ⟨a2, l2, b2⟩ := ih2 h2
      refine ⟨a1.trans a2, by simpa using l2, fun i q e => ?_⟩
      cases i with
      | zero => simp at e; subst e; exact ⟨v, by simp, fun hv => (b1 hv).mono (a2.sub _)⟩
      | succ i =>
        obtain ⟨u, hu, hq⟩ := b2 i q (by simpa using e)
        exact ⟨u, by simpa using hu, hq⟩

theorem meetE_ok : ∀ {p l : List (AV × AV × Nat)} {x y : σ}, meetE bnd p l x = some y → After I Pr x y ∧ p.length = l.length ∧
    ∀ (i : Nat) (q : AV × AV × Nat), p[i]? = some q → ∃ v, l[i]? = some v ∧ ∀ {ρ : BMap} {e : MapEntry}, ER ρ v e → ER (via (I y) ρ) q e := by
  intro p
  induction p with
  | nil =>
    intro m x y h
    cases m with
    | nil => cases (show some x = some y from h); exact ⟨.refl _, rfl, fun i q e => by simp at e⟩
    | cons _ _ => cases (show none = some y from h)
  | cons a l ih2 =>
    intro m x y h
    cases m with
    | nil => cases (show none = some y from h)
    | cons v m =>
      replace h := ob_some (show ob (meetV bnd a.1 v.1 x) (fun x => ob (meetV bnd a.2.1 v.2.1 x) fun x => cond (Nat.beq a.2.2 v.2.2) (meetE bnd l m x) none) = some y from h); obtain ⟨z, h1, h⟩ := h
      replace h := ob_some h; obtain ⟨z2, h2, h⟩ := h
      replace h := cond_some h; obtain ⟨h3, h4⟩ := h
      obtain ⟨a1, b1⟩ := meetV_ok hb _ h1
      obtain ⟨a2, b2⟩ := meetV_ok hb _ h2
      obtain ⟨a3, l3, b3⟩ := ih2 h4
      have h3 := Nat.eq_of_beq_eq_true h3
      refine ⟨(a1.trans a2).trans a3, by simpa using l3, fun i q e => ?_⟩
      cases i with
      | zero =>
        simp at e; subst e
        exact ⟨v, by simp, fun hv => ⟨(b1 hv.1).mono ((a2.trans a3).sub _), (b2 hv.2.1).mono (a3.sub _), hv.2.2.trans h3.symm⟩⟩
      | succ i =>
        obtain ⟨u, hu, hq⟩ := b3 i q (by simpa using e)
        exact ⟨u, by simpa using hu, hq⟩

theorem meetB_ok {p b : Blk} {x y : σ} (h : meetB bnd p b x = some y) : After I Pr x y ∧ (p.rw = true → b.rw = true) ∧ b ≠ .dead ∧
    ∀ {ρ : BMap} {z : Nat} {o : Obj}, BR ρ z b o → BR (via (I y) ρ) z p o := by
  unfold meetB at h
  split at h
  · rename_i cs rw ty cs' rw' ty'
    replace h := cond_some h; obtain ⟨h1, h2⟩ := h
    replace h2 := cond_some h2; obtain ⟨hty, h2⟩ := h2
    obtain ⟨a1, l1, b1⟩ := meetP_ok hb h2
    refine ⟨a1, fun e => ?_, by simp, fun {ρ z o} hv => ?_⟩
    · have e : rw = true := e
      subst e; exact h1
    · cases o <;> simp only [BR] at hv ⊢
      refine ⟨hv.1, Nat.le_trans l1 hv.2.1, fun i v v' e e' => ?_, fun e => ?_, fun t e => hv.2.2.2.2 t (tyOk_some hty e)⟩
      · obtain ⟨u, hu, hq⟩ := b1 i v e
        exact hq (hv.2.2.1 i u v' hu e')
      · subst e; exact hv.2.2.2.1 h1
  · rename_i es ck es' ck'
    replace h := cond_some h; obtain ⟨h1, h2⟩ := h
    obtain ⟨a1, l1, b1⟩ := meetE_ok hb h2
    have h1 := Nat.eq_of_beq_eq_true h1
    subst h1
    refine ⟨a1, fun _ => rfl, by simp, fun {ρ z o} hv => ?_⟩
    cases o <;> simp only [BR] at hv ⊢
    refine ⟨l1.trans hv.1, fun i v v' e e' => ?_, hv.2.2⟩
    obtain ⟨u, hu, hq⟩ := b1 i v e
    exact hq (hv.2.1 i u v' hu e')
  · cases h

end meet

end Go.Proofs.Bx
