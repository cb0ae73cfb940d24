/- Slicing, building, len, cap, min, max on abstract values. -/
import Derived.Test.YtbbkhiapcclnpaaGreatDoorBxPure
set_option linter.unusedVariables false
set_option linter.unusedSimpArgs false
set_option linter.unusedSectionVars false
namespace Go.Proofs.Bx
open Go
variable (P : Program)

/-- A bound that is given, at most y. -/
noncomputable def boundA (x : AV) (y : Nat) : Option Nat := ob x.nat fun n => cond (Nat.ble n y) (some n) none

theorem boundA_run {P : Program} {ρ : BMap} {x : AV} {x' : Value} {y n : Nat} (h : boundA x y = some n) (hx : VR ρ x x') (w : World) (y' : Nat) (hy : y ≤ y') (code : BoundsCode) :
    (Instr.sliceBound x' y' code).run P w = .ok n w ∧ n ≤ y := by
  replace h := ob_some h; obtain ⟨m, hm, h⟩ := h
  replace h := cond_some h; obtain ⟨hle, h⟩ := h
  cases h
  obtain ⟨k, rfl⟩ := x.nat_vr hm hx
  have hle' : n ≤ y := Nat.le_of_ble_eq_true hle
  refine ⟨?_, hle'⟩
  rw [run_sliceBound (P := P) w k (n : Int) y' code (by omega) (by omega)]
  simp

/-- What is left of a capacity behind l, and whether the place moves. -/
noncomputable def cutA (b o : Nat) (sz l h : Nat) (mc : Cap) : Option AV :=
  cond (Nat.beq l 0) (some (.slice (some (b, o)) h mc))
    (match mc with
     | .exact m => cond (Nat.beq m l) (some (.slice (some (b, o)) (Nat.sub h l) (.exact 0))) (some (.slice (some (b, Nat.add o (Nat.mul l sz))) (Nat.sub h l) (.exact (Nat.sub m l))))
     | .atLeast m bt k => cond (Nat.blt l m) (cond (Nat.beq k sz) (some (.slice (some (b, Nat.add o (Nat.mul l sz))) (Nat.sub h l) (.atLeast (Nat.sub m l) bt k))) none) none)

theorem cutA_vr {ρ : BMap} {b o r z sz l h m : Nat} {mc : Cap} {v : AV} (hv : cutA b o sz l h mc = some v) (hb : ρ b = some (r, z)) (hm : mc.ok o z m) (hlh : l ≤ h) (hhm : h ≤ m) :
    VR ρ v (.slice (some (if m = l then (⟨r, o, none⟩ : Addr) else (⟨r, o, none⟩ : Addr).add (l * sz))) (h - l) (m - l)) := by
  unfold cutA at hv
  by_cases hl : l = 0
  · subst hl
    cases hv
    have e : (if m = 0 then (⟨r, o, none⟩ : Addr) else (⟨r, o, none⟩ : Addr).add (0 * sz)) = ⟨r, o, none⟩ := by split <;> simp [Addr.add]
    rw [e]
    exact .slice hb hm hhm
  · rw [beq_no hl] at hv
    cases mc with
    | exact n =>
      cases hm
      by_cases hml : m = l
      · subst hml
        rw [if_pos rfl]
        have hv' : cond (Nat.beq m m) (some (AV.slice (some (b, o)) (Nat.sub h m) (.exact 0))) _ = some v := hv
        rw [beq_yes rfl] at hv'
        cases hv'
        exact .slice hb (by show m - m = 0; omega) (by show h - m ≤ m - m; omega)
      · rw [if_neg hml, add_addr]
        have hv' : cond (Nat.beq m l) _ (some (AV.slice (some (b, Nat.add o (Nat.mul l sz))) (Nat.sub h l) (.exact (Nat.sub m l)))) = some v := hv
        rw [beq_no hml] at hv'
        cases hv'
        exact .slice hb rfl (by show h - l ≤ m - l; omega)
    | atLeast n bt k =>
      replace hv := cond_some (show cond (Nat.blt l n) _ none = _ from hv)
      obtain ⟨hlt, hv⟩ := hv
      replace hv := cond_some hv
      obtain ⟨hk, hv⟩ := hv
      cases hv
      have hk := Nat.eq_of_beq_eq_true hk
      subst hk
      have := blt_lt hlt
      obtain ⟨h1, h3⟩ := hm
      rw [if_neg (by omega), add_addr]
      refine .slice hb ⟨by show n - l ≤ m - l; omega, ?_⟩ (by show h - l ≤ m - l; omega)
      have e : l * k + (m - l) * k = m * k := by rw [← Nat.add_mul]; congr 1; omega
      show o + l * k + (m - l) * k ≤ z
      omega

/-- The three bounds over a length and a capacity. -/
noncomputable def boundsA (len : Nat) (cap : Cap) (lo hi mx : Option AV) : Option (Nat × Nat × Cap) :=
  ob (match mx with
    | none => some cap
    | some v => ob (boundA v cap.low) fun m => some (.exact m)) fun mc =>
  ob (match hi with
    | none => (match mx with
      | none => some len
      | some _ => none)
    | some v => boundA v mc.low) fun h =>
  ob (match lo with
    | none => some 0
    | some v => boundA v h) fun l => some (l, h, mc)

/-- An operand that may be missing. -/
def OR (ρ : BMap) : Option AV → Option Value → Prop
  | none, none => True
  | some a, some v => VR ρ a v
  | _, _ => False

theorem boundsA_run {P : Program} {ρ : BMap} {o z len c : Nat} {cap : Cap} {lo hi mx : Option AV} {lo' hi' mx' : Option Value} {l h : Nat} {mc : Cap} (hv : boundsA len cap lo hi mx = some (l, h, mc))
    (hlo : OR ρ lo lo') (hhi : OR ρ hi hi') (hmx : OR ρ mx mx') (hc : cap.ok o z c) (hl : len ≤ c) (isS : Bool) (w : World) :
    ∃ m, (Instr.sliceBounds isS len c lo' hi' mx').run P w = .ok (l, h, m) w ∧ mc.ok o z m ∧ l ≤ h ∧ h ≤ m ∧ m ≤ c := by
  replace hv := ob_some hv; obtain ⟨mc', hmc, hv⟩ := hv
  replace hv := ob_some hv; obtain ⟨h', hh, hv⟩ := hv
  replace hv := ob_some hv; obtain ⟨l', hll, hv⟩ := hv
  cases hv
  have L : (lo = none ∧ lo' = none ∧ l = 0) ∨ ∃ a v, lo = some a ∧ lo' = some v ∧ ∀ code, (Instr.sliceBound v h code).run P w = .ok l w ∧ l ≤ h := by
    cases lo with
    | none =>
      cases lo' with
      | some v => exact hlo.elim
      | none => cases hll; exact .inl ⟨rfl, rfl, rfl⟩
    | some a =>
      cases lo' with
      | none => exact hlo.elim
      | some v => exact .inr ⟨a, v, rfl, rfl, fun code => boundA_run (P := P) hll hlo w h (Nat.le_refl _) code⟩
  have hlh : l ≤ h := by
    rcases L with ⟨_, _, e⟩ | ⟨a, v, _, _, g⟩
    · omega
    · exact (g .sliceB).2
  cases mx with
  | none =>
    cases mx' with
    | some v => exact hmx.elim
    | none =>
      cases hmc
      cases hi with
      | none =>
        cases hi' with
        | some v => exact hhi.elim
        | none =>
          cases hh
          refine ⟨c, ?_, hc, hlh, hl, Nat.le_refl _⟩
          rcases L with ⟨rfl, rfl, rfl⟩ | ⟨a, v, rfl, rfl, g⟩
          · simp [Instr.sliceBounds]
          · simp [Instr.sliceBounds, (g _).1]
      | some a =>
        cases hi' with
        | none => exact hhi.elim
        | some v =>
          have G := fun code => boundA_run (P := P) hh hhi w c (Cap.ok_low hc) code
          refine ⟨c, ?_, hc, hlh, Nat.le_trans (G .sliceB).2 (Cap.ok_low hc), Nat.le_refl _⟩
          rcases L with ⟨rfl, rfl, rfl⟩ | ⟨a, v, rfl, rfl, g⟩
          · simp [Instr.sliceBounds, (G _).1]
          · simp [Instr.sliceBounds, (G _).1, (g _).1]
  | some b =>
    cases mx' with
    | none => exact hmx.elim
    | some u =>
      replace hmc := ob_some (show ob (boundA b cap.low) _ = _ from hmc)
      obtain ⟨m, hm, hmc⟩ := hmc
      cases hmc
      have M := fun code => boundA_run (P := P) hm hmx w c (Cap.ok_low hc) code
      cases hi with
      | none => cases hh
      | some a =>
        cases hi' with
        | none => exact hhi.elim
        | some v =>
          have G := fun code => boundA_run (P := P) hh hhi w m (Nat.le_refl _) code
          refine ⟨m, ?_, rfl, hlh, (G .sliceB).2, Nat.le_trans (M .sliceB).2 (Cap.ok_low hc)⟩
          rcases L with ⟨rfl, rfl, rfl⟩ | ⟨a, v, rfl, rfl, g⟩
          · simp [Instr.sliceBounds, (G _).1, (M _).1]
          · simp [Instr.sliceBounds, (G _).1, (g _).1, (M _).1]

noncomputable def sliceA (t : TypeId) (x : AV) (lo hi mx : Option AV) : Option AV :=
  match P.underlying t, x with
  | some (.slice elem), .slice (some (b, o)) len cap => ob (size? P elem) fun sz => ob (boundsA len cap lo hi mx) fun r => cutA b o sz r.1 r.2.1 r.2.2
  | some (.slice elem), .slice none _ _ => ob (size? P elem) fun _ => ob (boundsA 0 (.exact 0) lo hi mx) fun r => cond (Nat.beq r.2.1 0) (some (.slice none 0 (.exact 0))) none
  | some (.array n elem), .ptr (some (b, o)) => ob (size? P elem) fun sz => ob (boundsA n (.exact n) lo hi mx) fun r => cutA b o sz r.1 r.2.1 r.2.2
  | some .string, .str s => match mx with
    | none => ob (boundsA s.size (.exact s.size) lo hi none) fun r => some (.str (s.extract r.1 r.2.1))
    | some _ => none
  | _, _ => none

theorem sliceA_run {P : Program} {ρ : BMap} {t : TypeId} {x v : AV} {x' : Value} {lo hi mx : Option AV} {lo' hi' mx' : Option Value} (h : sliceA P t x lo hi mx = some v)
    (hx : VR ρ x x') (hlo : OR ρ lo lo') (hhi : OR ρ hi hi') (hmx : OR ρ mx mx') (w : World) : ∃ v', (Instr.sliceAt t x' lo' hi' mx').run P w = .ok v' w ∧ VR ρ v v' := by
  unfold sliceA at h
  split at h
  · rename_i elem b o len cap hu
    replace h := ob_some h; obtain ⟨sz, hs, h⟩ := h
    replace h := ob_some h; obtain ⟨⟨l, hh, mc⟩, hb, h⟩ := h
    cases hx with
    | slice hr hc hl =>
      obtain ⟨m, h1, h2, h3, h4, h5⟩ := boundsA_run (P := P) hb hlo hhi hmx hc hl true w
      refine ⟨_, ?_, cutA_vr h hr h2 h3 h4⟩
      simp only [Instr.sliceAt, Instr.slice, Sem.run_bind, run_underlying hu, Result.andThen_ok, h1, size?_run hs, Sem.run_pure]
      split <;> rfl
  · rename_i elem len cap hu
    replace h := ob_some h; obtain ⟨sz, hs, h⟩ := h
    replace h := ob_some h; obtain ⟨⟨l, hh, mc⟩, hb, h⟩ := h
    replace h := cond_some h; obtain ⟨h0, h⟩ := h
    cases h
    cases hx with
    | sliceNil =>
      obtain ⟨m, h1, h2, h3, h4, h5⟩ := boundsA_run (P := P) (o := 0) (z := 0) (c := 0) hb hlo hhi hmx rfl (Nat.le_refl _) true w
      have e : hh = 0 := Nat.eq_of_beq_eq_true h0
      subst e
      have e : l = 0 := by omega
      subst e
      refine ⟨.slice none 0 0, ?_, .sliceNil⟩
      have hm : m = 0 := by omega
      subst hm
      simp [Instr.sliceAt, Instr.slice, run_underlying hu, h1, size?_run hs]
  · rename_i n elem b o hu
    replace h := ob_some h; obtain ⟨sz, hs, h⟩ := h
    replace h := ob_some h; obtain ⟨⟨l, hh, mc⟩, hb, h⟩ := h
    cases hx with
    | ptr hr =>
      obtain ⟨m, h1, h2, h3, h4, h5⟩ := boundsA_run (P := P) (o := o) (z := _) (c := n) hb hlo hhi hmx rfl (Nat.le_refl _) false w
      refine ⟨_, ?_, cutA_vr h hr h2 h3 h4⟩
      simp only [Instr.sliceAt, Instr.sureAddr, Sem.run_bind, run_underlying hu, Result.andThen_ok, h1, size?_run hs, Sem.run_pure]
  · rename_i s hu
    split at h
    · replace h := ob_some h; obtain ⟨⟨l, hh, mc⟩, hb, h⟩ := h
      cases h
      cases hx
      cases mx' with
      | some u => exact hmx.elim
      | none =>
        obtain ⟨m, h1, h2, h3, h4, h5⟩ := boundsA_run (P := P) (o := 0) (z := 0) (mx := none) (mx' := none) (c := s.size) hb hlo hhi trivial rfl (Nat.le_refl _) false w
        refine ⟨_, ?_, .str _⟩
        simp [Instr.sliceAt, Instr.slice, run_underlying hu, h1]
    · cases h
  · cases h

/-! Building. -/

/-- The cells of a list with others from a place on. -/
noncomputable def lput (l : List AV) (off : Nat) (new : List AV) : Option (List AV) :=
  ob (ltake l off) fun pre => ob (ltake (ldrop l off) (llen new)) fun _ => some (lapp pre (lapp new (ldrop l (Nat.add off (llen new)))))

/-- What stands behind a run of writes. -/
theorem foldl_put (new : List Value) : ∀ (k off : Nat) (cells : Array Value) (j : Nat),
    ((new.zipIdx k).foldl (fun cs (p : Value × Nat) => cs.setIfInBounds (off + p.2) p.1) cells)[j]? =
      if off + k ≤ j ∧ j < off + k + new.length ∧ j < cells.size then new[j - (off + k)]? else cells[j]? := by
  induction new with
  | nil => intro k off cells j; simp; omega
  | cons x new ih =>
    intro k off cells j
    simp only [List.zipIdx_cons, List.foldl_cons, ih, Array.size_setIfInBounds, List.length_cons]
    by_cases h1 : j = off + k
    · subst h1
      rw [if_neg (by omega)]
      by_cases h2 : off + k < cells.size
      · rw [if_pos (by omega)]
        simp [h2]
      · rw [if_neg (by omega)]
        rw [Array.getElem?_eq_none (by simp; omega), Array.getElem?_eq_none (by omega)]
    · by_cases h2 : off + k ≤ j ∧ j < off + k + (new.length + 1) ∧ j < cells.size
      · rw [if_pos (by omega), if_pos h2, show j - (off + k) = j - (off + (k + 1)) + 1 by omega]
        simp
      · rw [if_neg (by omega), if_neg h2, Array.getElem?_setIfInBounds_ne (by omega)]

theorem foldl_put_size (new : List Value) : ∀ (k off : Nat) (cells : Array Value),
    ((new.zipIdx k).foldl (fun cs (p : Value × Nat) => cs.setIfInBounds (off + p.2) p.1) cells).size = cells.size := by
  induction new with
  | nil => intro k off cells; rfl
  | cons x new ih => intro k off cells; simp only [List.zipIdx_cons, List.foldl_cons, ih, Array.size_setIfInBounds]

theorem lput_vr {ρ : BMap} {l new r : List AV} {off : Nat} {a b : Array Value} (h : lput l off new = some r) (hl : VRs ρ l a) (hn : VRs ρ new b) :
    off + b.size ≤ a.size ∧ VRs ρ r (b.zipIdx.foldl (fun cs (p : Value × Nat) => cs.setIfInBounds (off + p.2) p.1) a) := by
  replace h := ob_some h; obtain ⟨pre, hp, h⟩ := h
  replace h := ob_some h; obtain ⟨q, hq, h⟩ := h
  cases h
  obtain ⟨p1, p2⟩ := ltake_eq _ _ _ hp
  rw [ldrop_eq] at hq
  obtain ⟨q1, q2⟩ := ltake_eq _ _ _ hq
  rw [llen_eq] at q1 q2
  have q3 := congrArg List.length q1
  rw [q2, List.length_take, List.length_drop] at q3
  have p3 := congrArg List.length p1
  rw [p2, List.length_take] at p3
  have hlen := hl.1
  have hnl := hn.1
  have hfit : off + b.size ≤ a.size := by
    by_cases hb : b.size = 0
    · omega
    · omega
  refine ⟨hfit, ?_⟩
  have hfold : b.zipIdx.foldl (fun cs (p : Value × Nat) => cs.setIfInBounds (off + p.2) p.1) a = (b.toList.zipIdx 0).foldl (fun cs (p : Value × Nat) => cs.setIfInBounds (off + p.2) p.1) a := by
    rw [← Array.foldl_toList]
    simp
  rw [hfold]
  simp only [lapp_eq, ldrop_eq, llen_eq]
  refine ⟨?_, fun i v v' e e' => ?_⟩
  · rw [foldl_put_size]
    simp only [List.length_append, List.length_drop, p2]
    show off + (new.length + (l.length - (off + new.length))) = a.size
    omega
  · rw [foldl_put] at e'
    simp only [Nat.add_zero, Array.length_toList] at e'
    by_cases h1 : i < off
    · rw [if_neg (by omega)] at e'
      rw [List.getElem?_append_left (by omega), p1, List.getElem?_take, if_pos h1] at e
      exact hl.2 _ _ _ e e'
    · rw [List.getElem?_append_right (by omega), p2] at e
      by_cases h2 : i < off + b.size
      · rw [if_pos (by omega)] at e'
        rw [List.getElem?_append_left (by omega)] at e
        exact hn.2 _ _ _ e (by simpa using e')
      · rw [if_neg (by omega)] at e'
        rw [List.getElem?_append_right (by omega), List.getElem?_drop] at e
        refine hl.2 i v v' ?_ e'
        rw [← e]
        congr 1
        show i = off + new.length + (i - off - new.length)
        omega

/-- Parts laid at places. -/
noncomputable def fillA (place : Nat → Option (Nat × Nat)) (parts : List (Nat × AV)) : List AV → Option (List AV) :=
  List.rec (motive := fun _ => List AV → Option (List AV)) (fun cells => some cells)
    (fun p _ ih cells => ob (place p.1) fun pl => ob p.2.cells fun new => cond (Nat.beq (llen new) pl.2) (ob (lput cells pl.1 new) ih) none) parts

theorem fillA_run {ρ : BMap} {place : Nat → Option (Nat × Nat)} : ∀ {parts : List (Nat × AV)} {parts' : List (Nat × Value)} {cells r : List AV} {cells' : Array Value},
    fillA place parts cells = some r → parts.length = parts'.length → (∀ (i : Nat) (p : Nat × AV) (q : Nat × Value), parts[i]? = some p → parts'[i]? = some q → p.1 = q.1 ∧ VR ρ p.2 q.2) → VRs ρ cells cells' →
    ∃ r', Instr.fill place cells' parts' = some r' ∧ VRs ρ r r' := by
  intro parts
  induction parts with
  | nil =>
    intro parts' cells r cells' h hl _ hc
    cases parts' with
    | nil => cases h; exact ⟨cells', rfl, hc⟩
    | cons q parts' => simp at hl
  | cons p parts ih =>
    intro parts' cells r cells' h hl hp hc
    cases parts' with
    | nil => simp at hl
    | cons q parts' =>
      obtain ⟨qi, qv⟩ := q
      obtain ⟨e1, e2⟩ := hp 0 p (qi, qv) (by simp) (by simp)
      dsimp only at e1 e2
      replace h := ob_some (show ob (place p.1) _ = _ from h); obtain ⟨pl, hpl, h⟩ := h
      replace h := ob_some h; obtain ⟨new, hnew, h⟩ := h
      replace h := cond_some h; obtain ⟨hsz, h⟩ := h
      replace h := ob_some h; obtain ⟨cells2, hput, h⟩ := h
      have hn := AV.cells_vr e2 hnew
      have hsz' := Nat.eq_of_beq_eq_true hsz
      rw [llen_eq, hn.1] at hsz'
      obtain ⟨hfit, hc2⟩ := lput_vr hput hc hn
      obtain ⟨r', hr, hv⟩ := ih (parts' := parts') h (by simpa using hl) (fun i p q a b => hp (i + 1) p q (by simpa using a) (by simpa using b)) hc2
      refine ⟨r', ?_, hv⟩
      rw [e1] at hpl
      obtain ⟨off, size⟩ := pl
      simp only at hsz' hfit hr
      simp only [Instr.fill, hpl]
      rw [if_neg (by simp; omega)]
      exact hr

noncomputable def placesA (fields : List Field) : Option (List (Nat × Nat)) := lmapO (fun f => ob (size? P f.type) fun n => some (f.offset, n)) fields

theorem placesA_run {P : Program} {fields : Array Field} {l : List (Nat × Nat)} (h : placesA P fields.toList = some l) (w : World) :
    (fields.mapM fun f => do pure (f.offset, ← sizeOf f.type) : Sem (Array (Nat × Nat))).run P w = .ok l.toArray w := by
  have key : ∀ (fs : List Field) (l : List (Nat × Nat)), placesA P fs = some l →
      (fs.mapM fun f => do pure (f.offset, ← sizeOf f.type) : Sem (List (Nat × Nat))).run P w = .ok l w := by
    intro fs
    induction fs with
    | nil => intro l h; cases h; rfl
    | cons f fs ih =>
      intro l h
      obtain ⟨b, q, hb, hq, rfl⟩ := lmapO_cons h
      replace hb := ob_some hb; obtain ⟨n, hn, hb⟩ := hb
      cases hb
      simp only [List.mapM_cons, Sem.run_bind, size?_run hn, Result.andThen_ok, Sem.run_pure, ih q hq]
  rw [Array.mapM_eq_mapM_toList]
  simp only [Sem.run_map, key _ _ h, Result.andThen_ok]

noncomputable def buildA (t : TypeId) (parts : List (Nat × AV)) : Option AV :=
  ob (zeroA P t) fun z => ob z.cells fun zero =>
  match P.underlying t with
  | some (.struct fields) => ob (placesA P fields.toList) fun pl => ob (fillA (nth pl) parts zero) fun r => some (.agg r)
  | some (.array _ elem) => ob (size? P elem) fun n => ob (fillA (fun i => some (Nat.mul i n, n)) parts zero) fun r => some (.agg r)
  | _ => none

/-- Parts of a value, as they are. -/
def PR (ρ : BMap) (parts : List (Nat × AV)) (parts' : Array (Nat × Value)) : Prop :=
  parts.length = parts'.toList.length ∧ ∀ (i : Nat) (p : Nat × AV) (q : Nat × Value), parts[i]? = some p → parts'.toList[i]? = some q → p.1 = q.1 ∧ VR ρ p.2 q.2

theorem buildA_run {P : Program} {ρ : BMap} {t : TypeId} {parts : List (Nat × AV)} {parts' : Array (Nat × Value)} {v : AV} (h : buildA P t parts = some v) (hp : PR ρ parts parts') (w : World) :
    ∃ v', (Instr.build t parts').run P w = .ok v' w ∧ VR ρ v v' := by
  replace h := ob_some h; obtain ⟨z, hz, h⟩ := h
  replace h := ob_some h; obtain ⟨zero, hzc, h⟩ := h
  obtain ⟨z', hzr, hzv⟩ := zeroA_run hz ρ w
  have hc := AV.cells_vr hzv hzc
  split at h
  · rename_i fields hu
    replace h := ob_some h; obtain ⟨pl, hpl, h⟩ := h
    replace h := ob_some h; obtain ⟨r, hr, h⟩ := h
    cases h
    obtain ⟨r', hf, hv⟩ := fillA_run hr hp.1 hp.2 hc
    have hf' : Instr.fill (fun i => pl.toArray[i]?) z'.cells parts'.toList = some r' := by
      rw [← hf]; congr 1; funext i; simp [nth_eq]
    refine ⟨.agg r', ?_, .agg hv.1 hv.2⟩
    simp only [Instr.build, Sem.run_bind, hzr, Result.andThen_ok, run_underlying hu, placesA_run hpl, hf', Sem.run_pure]
  · rename_i n elem hu
    replace h := ob_some h; obtain ⟨sz, hs, h⟩ := h
    replace h := ob_some h; obtain ⟨r, hr, h⟩ := h
    cases h
    obtain ⟨r', hf, hv⟩ := fillA_run hr hp.1 hp.2 hc
    have hf' : Instr.fill (fun i => some (i * sz, sz)) z'.cells parts'.toList = some r' := hf
    refine ⟨.agg r', ?_, .agg hv.1 hv.2⟩
    simp only [Instr.build, Sem.run_bind, hzr, Result.andThen_ok, run_underlying hu, size?_run hs, hf', Sem.run_pure]
  · cases h

/-- A list of so many values, one after another, over and over. -/
noncomputable def lrep (z : List AV) (n : Nat) : List AV := Nat.rec (motive := fun _ => List AV) [] (fun _ ih => lapp z ih) n

theorem lrep_len (z : List AV) : ∀ n, (lrep z n).length = n * z.length
  | 0 => by show ([] : List AV).length = _; simp
  | n + 1 => by show (lapp z (lrep z n)).length = _; rw [lapp_eq, List.length_append, lrep_len z n, Nat.succ_mul]; omega

theorem lrep_get (z : List AV) : ∀ (n i : Nat) (v : AV), (lrep z n)[i]? = some v → z[i % z.length]? = some v
  | 0, i, v, h => by have h' : ([] : List AV)[i]? = some v := h; simp at h'
  | n + 1, i, v, h => by
    have h' : (lapp z (lrep z n))[i]? = some v := h
    rw [lapp_eq, List.getElem?_append] at h'
    split at h'
    · rename_i hi; rw [Nat.mod_eq_of_lt hi]; exact h'
    · rename_i hi
      have := lrep_get z n _ v h'
      rw [Nat.mod_eq_sub_mod (by omega)]
      exact this

theorem zeros_vr {ρ : BMap} {z : List AV} {a : Array Value} (h : VRs ρ z a) (n : Nat) : VRs ρ (lrep z n) ((Array.range (n * a.size)).map (a[· % a.size]!)) := by
  refine ⟨by rw [lrep_len, h.1]; simp, fun i v v' e e' => ?_⟩
  have h1 := lrep_get z n i v e
  rw [h.1] at h1
  have hlt : i % a.size < a.size := by rw [← h.1]; rw [← h.1] at h1; exact (List.getElem?_eq_some_iff.1 h1).1
  refine h.2 _ _ _ h1 ?_
  simp only [Array.getElem?_map, Array.getElem?_range] at e'
  split at e'
  · simp only [Option.map_some, Option.some.injEq] at e'
    rw [← e']
    simp [hlt]
  · simp at e'

/-- The cells of a new row of len elements. -/
noncomputable def rowA (elem : TypeId) (len : Nat) (parts : List (Nat × AV)) : Option (List AV) :=
  ob (size? P elem) fun n => cond (Nat.ble (Nat.mul len n) 16777216)
    (ob (cond (Nat.beq (Nat.mul len n) 0) (some []) (ob (zeroA P elem) fun z => ob z.cells fun zero => cond (Nat.beq (llen zero) n) (some (lrep zero len)) none)) fun zs =>
      fillA (fun i => some (Nat.mul i n, n)) parts zs) none

end Go.Proofs.Bx
