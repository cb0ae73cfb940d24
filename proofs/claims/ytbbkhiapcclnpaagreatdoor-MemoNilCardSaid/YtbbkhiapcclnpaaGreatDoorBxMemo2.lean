/- What was run in a small memory, told of every memory in which it lies. -/
import Derived.Test.YtbbkhiapcclnpaaGreatDoorBxMemo
set_option linter.unusedVariables false
set_option linter.unusedSimpArgs false
set_option linter.unusedSectionVars false
namespace Go.Proofs.Bx
open Go Go.RowKit

/-! A renaming of blocks, one to one, of numbers below n. -/

structure Rn where
  f : Tr Nat
  g : Tr Nat

noncomputable def Rn.at (r : Rn) (i : Nat) : Option Nat := r.f.get i

noncomputable def bndR (n i j : Nat) (r : Rn) : Option Rn :=
  cond (Nat.blt i n)
    (match r.f.get i with
     | some k => cond (Nat.beq k j) (some r) none
     | none => match r.g.get j with
       | some _ => none
       | none => some ⟨r.f.set j i, r.g.set i j⟩) none

def Rn.Good (n : Nat) (r : Rn) : Prop := ∀ i j, r.at i = some j → i < n ∧ r.g.get j = some i

theorem bndR_binds (n : Nat) : Binds (bndR n) Rn.at (Rn.Good n) := by
  have key : ∀ {i j : Nat} {x y : Rn}, bndR n i j x = some y → i < n ∧ ((x = y ∧ x.f.get i = some j) ∨ (x.f.get i = none ∧ x.g.get j = none ∧ y = ⟨x.f.set j i, x.g.set i j⟩)) := by
    intro i j x y h
    replace h := cond_some h; obtain ⟨h1, h⟩ := h
    refine ⟨blt_lt h1, ?_⟩
    split at h
    · rename_i k hk
      replace h := cond_some h; obtain ⟨h2, h3⟩ := h
      cases h3
      rw [Nat.eq_of_beq_eq_true h2] at hk
      exact .inl ⟨rfl, hk⟩
    · rename_i hk
      split at h
      · cases h
      · rename_i hg
        cases h
        exact .inr ⟨hk, hg, rfl⟩
  refine ⟨fun h => ?_, fun h k l e => ?_, fun h hp k l e => ?_⟩
  · obtain ⟨_, ⟨rfl, h2⟩ | ⟨_, _, rfl⟩⟩ := key h
    · exact h2
    · exact Tr.get_set_same _ _ _
  · rename_i i j x y
    obtain ⟨_, ⟨rfl, h2⟩ | ⟨h2, _, rfl⟩⟩ := key h
    · exact e
    · have hne : k ≠ i := by
        intro e'; subst e'
        have e2 : x.f.get k = some l := e
        rw [h2] at e2; cases e2
      show (x.f.set j i).get k = some l
      rw [Tr.get_set_other _ _ hne]
      exact e
  · rename_i i j x y
    obtain ⟨hi, ⟨rfl, h2⟩ | ⟨h2, h3, rfl⟩⟩ := key h
    · exact hp k l e
    · have e : (x.f.set j i).get k = some l := e
      show k < n ∧ (x.g.set i j).get l = some k
      rcases Tr.get_set e with ⟨rfl, rfl⟩ | ⟨hne, e⟩
      · exact ⟨hi, Tr.get_set_same _ _ _⟩
      · obtain ⟨g1, g2⟩ := hp k l e
        refine ⟨g1, ?_⟩
        have : l ≠ j := by intro e'; subst e'; rw [h3] at g2; cases g2
        rw [Tr.get_set_other _ _ this]
        exact g2

noncomputable def bndI (i j : Nat) (x : Unit) : Option Unit := cond (Nat.beq i j) (some x) none
theorem bndI_binds : Binds bndI (fun _ i => some i) (fun _ => True) := by
  refine ⟨fun h => ?_, fun _ k l e => e, fun _ _ => trivial⟩
  rw [Nat.eq_of_beq_eq_true (cond_some h).1]
theorem via_id (ρ : BMap) : via (fun i => some i) ρ = ρ := rfl

/-! A small memory. -/

abbrev Bs := List (Option Blk)

noncomputable def trOf (bs : Bs) : Nat → Tr Blk → Tr Blk :=
  List.rec (motive := fun _ => Nat → Tr Blk → Tr Blk) (fun _ t => t) (fun b _ ih i t => ih (Nat.succ i) (Option.rec t (fun p => t.set p i) b)) bs

noncomputable def smallS (bs : Bs) : St := ⟨trOf bs 0 .nil, llen bs⟩

theorem trOf_get : ∀ {bs : Bs} {i : Nat} {t : Tr Blk} {j : Nat} {p : Blk}, (trOf bs i t).get j = some p → (i ≤ j ∧ bs[j - i]? = some (some p)) ∨ t.get j = some p
  | [], i, t, j, p, h => .inr h
  | b :: bs, i, t, j, p, h => by
    have h' : (trOf bs (i + 1) (Option.rec t (fun p => t.set p i) b)).get j = some p := h
    rcases trOf_get h' with ⟨h1, h2⟩ | h1
    · refine .inl ⟨by omega, ?_⟩
      rw [show j - i = j - (i + 1) + 1 by omega]
      simpa using h2
    · cases b with
      | none => exact .inr h1
      | some q =>
        have h1 : (t.set q i).get j = some p := h1
        rcases Tr.get_set h1 with ⟨rfl, rfl⟩ | ⟨_, h2⟩
        · exact .inl ⟨Nat.le_refl _, by simp⟩
        · exact .inr h2

theorem smallS_get {bs : Bs} {i : Nat} {p : Blk} (h : (smallS bs).get i = some p) : bs[i]? = some (some p) := by
  rcases trOf_get (show (trOf bs 0 .nil).get i = some p from h) with ⟨_, h2⟩ | h2
  · simpa using h2
  · cases h2

noncomputable def meetM (n : Nat) (s : St) (bs : Bs) : Nat → Rn → Option Rn :=
  List.rec (motive := fun _ => Nat → Rn → Option Rn) (fun _ r => some r)
    (fun b _ ih i r => match b with
      | none => ih (Nat.succ i) r
      | some p => ob (r.f.get i) fun j => ob (s.get j) fun c => ob (meetB (bndR n) p c r) fun r => ih (Nat.succ i) r) bs

theorem meetM_ok {n : Nat} {s : St} : ∀ {bs : Bs} {i : Nat} {r r' : Rn}, meetM n s bs i r = some r' → After Rn.at (Rn.Good n) r r' ∧
    ∀ (k : Nat) (p : Blk), bs[k]? = some (some p) → ∃ j c, r'.at (i + k) = some j ∧ s.get j = some c ∧ (p.rw = true → c.rw = true) ∧ c ≠ .dead ∧ ∀ {ρ : BMap} {z : Nat} {o : Obj}, BR ρ z c o → BR (via r'.at ρ) z p o := by
  intro bs
  induction bs with
  | nil => intro i r r' h; cases (show some r = some r' from h); exact ⟨.refl _, fun k p e => by simp at e⟩
  | cons b bs ih =>
    intro i r r' h
    cases b with
    | none =>
      obtain ⟨a1, b1⟩ := ih (show meetM n s bs (i + 1) r = some r' from h)
      refine ⟨a1, fun k p e => ?_⟩
      cases k with
      | zero => simp at e
      | succ k =>
        have := b1 k p (by simpa using e)
        rw [show i + 1 + k = i + (k + 1) by omega] at this
        exact this
    | some q =>
      replace h := ob_some (show ob (r.f.get i) (fun j => ob (s.get j) fun c => ob (meetB (bndR n) q c r) fun r => meetM n s bs (i + 1) r) = some r' from h); obtain ⟨j, hj, h⟩ := h
      replace h := ob_some h; obtain ⟨c, hc, h⟩ := h
      replace h := ob_some h; obtain ⟨r1, h1, h⟩ := h
      obtain ⟨a0, c1, c2, c3⟩ := meetB_ok (bndR_binds n) h1
      obtain ⟨a1, b1⟩ := ih h
      refine ⟨a0.trans a1, fun k p e => ?_⟩
      cases k with
      | zero =>
        simp at e; subst e
        exact ⟨j, c, (a0.trans a1).1 i j hj, hc, c1, c2, fun hv => (c3 hv).mono (a1.sub _)⟩
      | succ k =>
        have := b1 k p (by simpa using e)
        rw [show i + 1 + k = i + (k + 1) by omega] at this
        exact this

/-! Renaming what came. -/

noncomputable def placeTo (R : Nat → Option Nat) (a : Option (Nat × Nat)) : Option (Option (Nat × Nat)) :=
  match a with
  | none => some none
  | some (b, o) => ob (R b) fun k => some (some (k, o))

noncomputable def toV (R : Nat → Option Nat) (p : AV) : Option AV :=
  AV.rec (motive_1 := fun _ => Option AV) (motive_2 := fun _ => Option (List AV))
    (some .undef) (fun b => some (.bool b)) (fun k n => some (.int k n)) (fun s => some (.str s))
    (fun a => ob (placeTo R a) fun a => some (.ptr a))
    (fun a n c => ob (placeTo R a) fun a => some (.slice a n c))
    (fun r => match r with
      | none => some (.map none)
      | some i => ob (R i) fun k => some (.map (some k)))
    (fun fn _ _ ih1 ih2 => ob ih1 fun a => ob ih2 fun b => some (.func fn a b))
    (some .nilFunc)
    (fun t _ ih => ob ih fun v => some (.iface t v))
    (some .nilIface)
    (fun i => ob (R i) fun k => some (.yld k))
    (fun _ ih => ob ih fun l => some (.agg l))
    (fun _ ih => ob ih fun l => some (.tuple l))
    (some [])
    (fun _ _ ih1 ih2 => ob ih1 fun v => ob ih2 fun l => some (v :: l)) p

noncomputable def toL (R : Nat → Option Nat) (l : List AV) : Option (List AV) := lmapO (toV R) l

noncomputable def toE (R : Nat → Option Nat) (e : AV × AV × Nat) : Option (AV × AV × Nat) := ob (toV R e.1) fun k => ob (toV R e.2.1) fun v => some (k, v, e.2.2)

noncomputable def toB (R : Nat → Option Nat) (b : Blk) : Option Blk :=
  match b with
  | .cells cs rw ty => ob (toL R cs) fun cs => some (.cells cs rw ty)
  | .map es ck => ob (lmapO (toE R) es) fun es => some (.map es ck)
  | _ => none

section to
variable {R : Nat → Option Nat} {ρ ρ' : BMap} (hR : ∀ i k q, R i = some k → ρ i = some q → ρ' k = some q)
include hR

theorem toV_ok (p : AV) : ∀ {u : AV} {v' : Value}, toV R p = some u → VR ρ p v' → VR ρ' u v' := by
  refine AV.rec (motive_1 := fun p => ∀ {u : AV} {v' : Value}, toV R p = some u → VR ρ p v' → VR ρ' u v')
    (motive_2 := fun l => ∀ {u : AV} {a : Array Value}, toV R (.agg l) = some u → VRs ρ l a → ∃ m, u = .agg m ∧ VRs ρ' m a)
    ?_ ?_ ?_ ?_ ?_ ?_ ?_ ?_ ?_ ?_ ?_ ?_ ?_ ?_ ?_ ?_ p
  · intro u v' h _; cases (show some _ = some u from h); exact .undef _
  · intro b u v' h hv; cases (show some _ = some u from h); cases hv; exact .bool _
  · intro k n u v' h hv; cases (show some _ = some u from h); cases hv; exact .int _ _
  · intro s u v' h hv; cases (show some _ = some u from h); cases hv; exact .str _
  · intro a u v' h hv
    replace h := ob_some h; obtain ⟨a', h1, h2⟩ := h
    cases h2
    cases hv with
    | ptrNil => cases h1; exact .ptrNil
    | ptr hr =>
      replace h1 := ob_some h1; obtain ⟨k, hk, h1⟩ := h1
      cases h1
      exact .ptr (hR _ _ _ hk hr)
  · intro a n c u v' h hv
    replace h := ob_some h; obtain ⟨a', h1, h2⟩ := h
    cases h2
    cases hv with
    | sliceNil => cases h1; exact .sliceNil
    | slice hr hc hl =>
      replace h1 := ob_some h1; obtain ⟨k, hk, h1⟩ := h1
      cases h1
      exact .slice (hR _ _ _ hk hr) hc hl
  · intro r u v' h hv
    cases hv with
    | mapNil => cases (show some _ = some u from h); exact .mapNil
    | map hr =>
      replace h := ob_some (show ob (R _) _ = some u from h); obtain ⟨k, hk, h⟩ := h
      cases h
      exact .map (hR _ _ _ hk hr)
  · intro fn fi ca ih1 ih2 u v' h hv
    replace h := ob_some h; obtain ⟨a, h1, h⟩ := h
    replace h := ob_some h; obtain ⟨b, h2, h3⟩ := h
    cases h3
    cases hv with
    | func g1 g2 k1 k2 =>
      obtain ⟨m1, e1, q1⟩ := ih1 (u := .agg a) (show ob _ (fun l => some (AV.agg l)) = _ by rw [h1]) ⟨g1, k1⟩
      obtain ⟨m2, e2, q2⟩ := ih2 (u := .agg b) (show ob _ (fun l => some (AV.agg l)) = _ by rw [h2]) ⟨g2, k2⟩
      cases e1; cases e2
      exact .func q1.1 q2.1 q1.2 q2.2
  · intro u v' h hv; cases (show some _ = some u from h); cases hv; exact .nilFunc
  · intro t v ih u v' h hv
    replace h := ob_some h; obtain ⟨a, h1, h2⟩ := h
    cases h2
    cases hv with
    | iface hw => exact .iface (ih h1 hw)
  · intro u v' h hv; cases (show some _ = some u from h); cases hv; exact .nilIface
  · intro i u v' h hv
    replace h := ob_some h; obtain ⟨k, hk, h2⟩ := h
    cases h2
    cases hv with
    | yld hr => exact .yld (hR _ _ _ hk hr)
  · intro l ih u v' h hv
    cases hv with
    | agg g1 k1 =>
      obtain ⟨m, rfl, q⟩ := ih h ⟨g1, k1⟩
      exact .agg q.1 q.2
  · intro l ih u v' h hv
    replace h := ob_some h; obtain ⟨a, h1, h2⟩ := h
    cases h2
    cases hv with
    | tuple g1 k1 =>
      obtain ⟨m, e, q⟩ := ih (u := .agg a) (show ob _ (fun l => some (AV.agg l)) = _ by rw [h1]) ⟨g1, k1⟩
      cases e
      exact .tuple q.1 q.2
  · intro u a h hv
    cases (show some _ = some u from h)
    exact ⟨[], rfl, hv.1, fun i v v' e => by simp at e⟩
  · intro v l ih1 ih2 u a h hv
    replace h := ob_some h; obtain ⟨m, h1, h2⟩ := h
    cases h2
    replace h1 := ob_some h1; obtain ⟨x, hx, h1⟩ := h1
    replace h1 := ob_some h1; obtain ⟨m', hm, h1⟩ := h1
    cases h1
    obtain ⟨y, ys, rfl, hy, hys⟩ := hv.cons_inv
    have q1 := ih1 hx hy
    obtain ⟨m2, e2, q2⟩ := ih2 (u := .agg m') (show ob _ (fun l => some (AV.agg l)) = _ by rw [hm]) hys
    cases e2
    refine ⟨_, rfl, by have := q2.1; simp [this]; omega, fun i w w' e e' => ?_⟩
    cases i with
    | zero => simp at e; rw [Array.getElem?_append_left (by simp)] at e'; simp at e'; subst e; subst e'; exact q1
    | succ i => rw [Array.getElem?_append_right (by simp)] at e'; exact q2.2 i w w' (by simpa using e) (by simpa using e')

theorem toB_ok {b c : Blk} {z : Nat} {o : Obj} (h : toB R b = some c) (hb : BR ρ z b o) : BR ρ' z c o ∧ c.rw = b.rw ∧ c ≠ .dead := by
  unfold toB at h
  split at h
  · rename_i cs rw ty
    replace h := ob_some h; obtain ⟨cs', h1, h2⟩ := h
    cases h2
    refine ⟨?_, rfl, by simp⟩
    cases o <;> simp only [BR] at hb ⊢
    refine ⟨hb.1, by rw [lmapO_len h1]; exact hb.2.1, fun i v v' e e' => ?_, hb.2.2.2⟩
    have hi : i < cs.length := by rw [← lmapO_len h1]; exact (List.getElem?_eq_some_iff.1 e).1
    obtain ⟨u, hu, hq⟩ := lmapO_get h1 i cs[i] (by simp)
    rw [e] at hq; cases hq
    exact toV_ok hR _ hu (hb.2.2.1 i _ v' (by simp) e')
  · rename_i es ck
    replace h := ob_some h; obtain ⟨es', h1, h2⟩ := h
    cases h2
    refine ⟨?_, rfl, by simp⟩
    cases o <;> simp only [BR] at hb ⊢
    refine ⟨by rw [lmapO_len h1]; exact hb.1, fun i v v' e e' => ?_, hb.2.2⟩
    have hi : i < es.length := by rw [← lmapO_len h1]; exact (List.getElem?_eq_some_iff.1 e).1
    obtain ⟨u, hu, hq⟩ := lmapO_get h1 i es[i] (by simp)
    rw [e] at hq; cases hq
    replace hu := ob_some hu; obtain ⟨k, hk, hu⟩ := hu
    replace hu := ob_some hu; obtain ⟨x, hx, hu⟩ := hu
    cases hu
    obtain ⟨g1, g2, g3⟩ := hb.2.1 i es[i] v' (by simp) e'
    exact ⟨toV_ok hR _ hk g1, toV_ok hR _ hx g2, g3⟩
  · cases h

end to

abbrev Outs := List (Nat × Blk)

noncomputable def putO (R : Nat → Option Nat) (l : Outs) : Tr Blk → Option (Tr Blk) :=
  List.rec (motive := fun _ => Tr Blk → Option (Tr Blk)) (fun t => some t) (fun x _ ih t => ob (R x.1) fun k => ob (toB R x.2) fun c => ih (t.set c k)) l

theorem putO_get {R : Nat → Option Nat} : ∀ {l : Outs} {t t' : Tr Blk}, putO R l t = some t' → ∀ {k : Nat} {c : Blk}, t'.get k = some c →
    (∃ i b, (i, b) ∈ l ∧ R i = some k ∧ toB R b = some c) ∨ (t.get k = some c ∧ ∀ i b, (i, b) ∈ l → R i ≠ some k)
  | [], t, t', h, k, c, e => by cases (show some t = some t' from h); exact .inr ⟨e, fun i b hm => by simp at hm⟩
  | x :: l, t, t', h, k, c, e => by
    replace h := ob_some (show ob (R x.1) (fun k => ob (toB R x.2) fun c => putO R l (t.set c k)) = some t' from h); obtain ⟨k1, h1, h⟩ := h
    replace h := ob_some h; obtain ⟨c1, h2, h⟩ := h
    rcases putO_get h e with ⟨i, b, hm, g1, g2⟩ | ⟨g1, g2⟩
    · exact .inl ⟨i, b, List.mem_cons_of_mem _ hm, g1, g2⟩
    · rcases Tr.get_set g1 with ⟨rfl, rfl⟩ | ⟨hne, g1⟩
      · exact .inl ⟨x.1, x.2, by simp, h1, h2⟩
      · refine .inr ⟨g1, fun i b hm => ?_⟩
        rcases List.mem_cons.1 hm with rfl | hm
        · rw [h1]; intro e'; cases e'; exact hne rfl
        · exact g2 i b hm

/-! What is remembered of a run. -/

structure Memo where
  f : FuncId
  args : List AV
  bs : Bs
  res : AV
  outs : Outs
  next : Nat

/-- From the small memory's numbers to those of the memory at hand. -/
noncomputable def toR (n : Nat) (s : St) (r : Rn) (i : Nat) : Option Nat := cond (Nat.blt i n) (r.f.get i) (some (Nat.add s.next (Nat.sub i n)))

noncomputable def Memo.run (d : Memo) (args : List AV) (s : St) : Option (AV × St) :=
  ob (meetL (bndR (llen d.bs)) d.args args ⟨.nil, .nil⟩) fun r => ob (meetM (llen d.bs) s d.bs 0 r) fun r =>
    ob (toV (toR (llen d.bs) s r) d.res) fun v => ob (putO (toR (llen d.bs) s r) d.outs s.heap) fun t => some (v, ⟨t, Nat.add s.next (Nat.sub d.next (llen d.bs))⟩)

noncomputable def isSomeU (x : Option Unit) : Bool := Option.rec false (fun _ => true) x

noncomputable def hasOut (l : Outs) (i : Nat) : Bool := List.rec (motive := fun _ => Bool) false (fun x _ ih => Bool.rec ih true (Nat.beq x.1 i)) l

noncomputable def rwOut (l : Outs) (bs : Bs) : Nat → Bool :=
  List.rec (motive := fun _ => Nat → Bool) (fun _ => true) (fun b _ ih i => cond (Option.rec true (fun p => cond (Blk.rw p) (hasOut l i) true) b) (ih (Nat.succ i)) false) bs

noncomputable def outsOk (s : St) (l : Outs) : Bool :=
  List.rec (motive := fun _ => Bool) true (fun x _ ih => cond (Blk.rw x.2) (cond (Option.rec false (fun c => isSomeU (meetB bndI x.2 c ())) (s.get x.1)) ih false) false) l

noncomputable def Memo.ok (K : CallK) (d : Memo) : Bool :=
  Option.rec false (fun x => cond (isSomeU (meetV bndI d.res x.1 ())) (cond (Nat.ble x.2.next d.next) (cond (rwOut d.outs d.bs 0) (outsOk x.2 d.outs) false) false) false) (K (.fn d.f) d.args (smallS d.bs))

theorem isSomeU_ok {x : Option Unit} (h : isSomeU x = true) : x = some () := by
  cases x with
  | none => cases h
  | some u => rfl

theorem cond_true {c d : Bool} (h : cond c d false = true) : c = true ∧ d = true := by
  cases c with
  | false => cases h
  | true => exact ⟨rfl, h⟩

theorem hasOut_ok : ∀ {l : Outs} {i : Nat}, hasOut l i = true → ∃ b, (i, b) ∈ l
  | [], i, h => by cases h
  | x :: l, i, h => by
    have h' : (Bool.rec (hasOut l i) true (Nat.beq x.1 i) : Bool) = true := h
    cases hb : Nat.beq x.1 i with
    | true => have := Nat.eq_of_beq_eq_true hb; subst this; exact ⟨x.2, by simp⟩
    | false =>
      rw [hb] at h'
      obtain ⟨b, hm⟩ := hasOut_ok h'
      exact ⟨b, List.mem_cons_of_mem _ hm⟩

theorem rwOut_ok {l : Outs} : ∀ {bs : Bs} {i : Nat}, rwOut l bs i = true → ∀ {k : Nat} {p : Blk}, bs[k]? = some (some p) → p.rw = true → ∃ b, (i + k, b) ∈ l
  | [], i, h, k, p, e, _ => by simp at e
  | b :: bs, i, h, k, p, e, hp => by
    obtain ⟨h1, h2⟩ := cond_true (show cond (Option.rec true (fun p => cond (Blk.rw p) (hasOut l i) true) b) (rwOut l bs (i + 1)) false = true from h)
    cases k with
    | zero =>
      simp at e; subst e
      have h1 : cond (Blk.rw p) (hasOut l i) true = true := h1
      rw [hp] at h1
      exact hasOut_ok h1
    | succ k =>
      obtain ⟨c, hc⟩ := rwOut_ok h2 (k := k) (by simpa using e) hp
      exact ⟨c, by rw [show i + (k + 1) = i + 1 + k by omega]; exact hc⟩

theorem outsOk_ok {s : St} : ∀ {l : Outs}, outsOk s l = true → ∀ {i : Nat} {b : Blk}, (i, b) ∈ l → b.rw = true ∧ ∃ c, s.get i = some c ∧ meetB bndI b c () = some ()
  | [], h, i, b, hm => by simp at hm
  | x :: l, h, i, b, hm => by
    obtain ⟨h1, h2⟩ := cond_true (show cond (Blk.rw x.2) (cond (Option.rec false (fun c => isSomeU (meetB bndI x.2 c ())) (s.get x.1)) (outsOk s l) false) false = true from h)
    obtain ⟨h2, h3⟩ := cond_true h2
    rcases List.mem_cons.1 hm with rfl | hm
    · refine ⟨h1, ?_⟩
      cases hs : s.get i with
      | none =>
        have h2 : (Option.rec false (fun c => isSomeU (meetB bndI b c ())) (s.get i) : Bool) = true := h2
        rw [hs] at h2; cases h2
      | some c =>
        have h2 : (Option.rec false (fun c => isSomeU (meetB bndI b c ())) (s.get i) : Bool) = true := h2
        rw [hs] at h2
        exact ⟨c, rfl, isSomeU_ok h2⟩
    · exact outsOk_ok h3 hm

noncomputable def isFn (f : FuncId) (t : Tgt) : Bool := Tgt.rec (fun h => Nat.beq h f) (fun _ => false) t

theorem isFn_ok {f : FuncId} {t : Tgt} (h : isFn f t = true) : t = .fn f := by
  cases t with
  | fn g => rw [Nat.eq_of_beq_eq_true (show Nat.beq g f = true from h)]
  | yld i => cases h

noncomputable def onlyF (f : FuncId) (g : List AV → St → Option (AV × St)) : CallK := fun h args s => cond (isFn f h) (g args s) none

theorem Mine.live {ρ : BMap} {s : St} {r : Nat} (h : Mine ρ s r) : Live ρ s r := by
  obtain ⟨i, b, z, h1, h2, h3⟩ := h
  exact ⟨i, b, z, h1, (by intro e; subst e; cases h2), h3⟩

theorem memo_ext {d : Memo} {s s0' : St} {ρ ρ0 ρ1 : BMap} {w w' : World} {r : Rn} {t : Tr Blk} (hr : HR ρ s w) (hg : r.Good (llen d.bs))
    (hm : ∀ (k : Nat) (p : Blk), d.bs[k]? = some (some p) → ∃ j c, r.at k = some j ∧ s.get j = some c ∧ (p.rw = true → c.rw = true) ∧ c ≠ .dead)
    (h0 : ρ0 = via r.at ρ) (hx : Ext ρ0 (smallS d.bs) w ρ1 s0' w') (hn : s0'.next ≤ d.next) (hrw : rwOut d.outs d.bs 0 = true) (ho : outsOk s0' d.outs = true)
    (ht : putO (toR (llen d.bs) s r) d.outs s.heap = some t) :
    ∃ ρ', Ext ρ s w ρ' ⟨t, Nat.add s.next (Nat.sub d.next (llen d.bs))⟩ w' ∧ ∀ i k q, toR (llen d.bs) s r i = some k → ρ1 i = some q → ρ' k = some q := by
  subst h0
  have n0 : (smallS d.bs).next = llen d.bs := rfl
  have hle : llen d.bs ≤ s0'.next := by have := hx.next; rwa [n0] at this
  obtain ⟨n, hN⟩ : ∃ n, llen d.bs = n := ⟨_, rfl⟩
  rw [hN] at ht hg hle ⊢
  obtain ⟨ρ', hρ'⟩ : ∃ ρ' : BMap, ρ' = fun k => if k < s.next then ρ k else ρ1 (n + (k - s.next)) := ⟨_, rfl⟩
  have lo : ∀ {k}, k < s.next → ρ' k = ρ k := fun {k} h => by rw [hρ']; simp [h]
  have hi : ∀ {k}, s.next ≤ k → ρ' k = ρ1 (n + (k - s.next)) := fun {k} h => by rw [hρ']; simp [show ¬ k < s.next by omega]
  have inS : ∀ {k q}, ρ k = some q → k < s.next := fun {k q} h => by
    rcases Nat.lt_or_ge k s.next with h1 | h1
    · exact h1
    · rw [hr.fresh k h1] at h; cases h
  have sub : Sub ρ ρ' := fun k q h => by rw [lo (inS h)]; exact h
  have toρ : ∀ i k q, toR n s r i = some k → ρ1 i = some q → ρ' k = some q := by
    intro i k q h1 h2
    unfold toR at h1
    by_cases hlt : i < n
    · have e : Nat.blt i n = true := by rw [Nat.blt_eq]; exact hlt
      rw [e] at h1
      have h1 : r.at i = some k := h1
      have e1 := hx.old i (by rw [n0, hN]; exact hlt)
      rw [h2] at e1
      have e2 : ρ k = some q := by
        have : via r.at ρ i = ρ k := by unfold via; rw [h1]; rfl
        rw [← this]; exact e1.symm
      exact sub k q e2
    · have e : Nat.blt i n = false := by
        cases hb : Nat.blt i n with
        | false => rfl
        | true => rw [Nat.blt_eq] at hb; exact absurd hb hlt
      rw [e] at h1
      cases h1
      have e3 : Nat.add s.next (Nat.sub i n) = s.next + (i - n) := rfl
      rw [e3, hi (by omega), show n + (s.next + (i - n) - s.next) = i by omega]
      exact h2
  -- what lies in the small memory lies in the great one
  have small : ∀ {i b q}, (smallS d.bs).get i = some b → via r.at ρ i = some q → ∃ j c, r.at i = some j ∧ s.get j = some c ∧ (b.rw = true → c.rw = true) ∧ c ≠ .dead ∧ ρ j = some q := by
    intro i b q h1 h2
    obtain ⟨j, c, g1, g2, g3, g4⟩ := hm i b (smallS_get h1)
    refine ⟨j, c, g1, g2, g3, g4, ?_⟩
    have : via r.at ρ i = ρ j := by unfold via; rw [g1]; rfl
    rw [← this]; exact h2
  have mine0 : ∀ {q}, Mine (via r.at ρ) (smallS d.bs) q → ∃ i j c z, r.at i = some j ∧ s.get j = some c ∧ c.rw = true ∧ ρ j = some (q, z) ∧ ∃ b, (i, b) ∈ d.outs := by
    rintro q ⟨i, b, z, h1, h2, h3⟩
    obtain ⟨j, c, g1, g2, g3, g4, g5⟩ := small h1 h3
    obtain ⟨b', hb'⟩ := rwOut_ok hrw (smallS_get h1) h2
    exact ⟨i, j, c, z, g1, g2, g3 h2, g5, b', by simpa using hb'⟩
  have mineS : ∀ {q}, Mine (via r.at ρ) (smallS d.bs) q → Mine ρ s q := fun h => by
    obtain ⟨i, j, c, z, _, h2, h3, h4, _⟩ := mine0 h
    exact ⟨j, c, z, h2, h3, h4⟩
  have liveS : ∀ {q}, Live (via r.at ρ) (smallS d.bs) q → Live ρ s q := by
    rintro q ⟨i, b, z, h1, h2, h3⟩
    obtain ⟨j, c, g1, g2, g3, g4, g5⟩ := small h1 h3
    exact ⟨j, c, z, g2, g4, g5⟩
  -- an old block that is no target is no one's whose number the small memory may write
  have clash : ∀ {q k c y}, s.get k = some c → c ≠ .dead → ρ k = some (q, y) → (∀ i b, (i, b) ∈ d.outs → toR n s r i ≠ some k) → ¬ Mine (via r.at ρ) (smallS d.bs) q := by
    intro q k c y h1 h2 h3 h4 hM
    obtain ⟨i, j, c', z, g1, g2, g3, g4, b, g5⟩ := mine0 hM
    have e := hr.inj j k c' c q z y g2 h1 g3 h2 g4 h3
    subst e
    refine h4 i b g5 ?_
    unfold toR
    have : Nat.blt i n = true := by rw [Nat.blt_eq]; exact (hg i j g1).1
    rw [this]
    exact g1
  have outB : ∀ {i b}, (i, b) ∈ d.outs → b.rw = true ∧ ∃ c, s0'.get i = some c ∧ c.rw = true ∧ c ≠ .dead ∧ ∀ {z : Nat} {o : Obj}, BR ρ1 z c o → BR ρ1 z b o := by
    intro i b hmem
    obtain ⟨h1, c, h2, h3⟩ := outsOk_ok ho hmem
    obtain ⟨_, g1, g2, g3⟩ := meetB_ok bndI_binds h3
    exact ⟨h1, c, h2, g1 h1, g2, fun hv => g3 hv⟩
  -- the blocks behind
  have get' : ∀ {k c}, (⟨t, Nat.add s.next (Nat.sub d.next n)⟩ : St).get k = some c → (∃ i b, (i, b) ∈ d.outs ∧ toR n s r i = some k ∧ toB (toR n s r) b = some c) ∨ (s.get k = some c ∧ ∀ i b, (i, b) ∈ d.outs → toR n s r i ≠ some k) :=
    fun h => putO_get ht h
  have outAt : ∀ {i b k c}, (i, b) ∈ d.outs → toR n s r i = some k → toB (toR n s r) b = some c → ∃ q z o, ρ1 i = some (q, z) ∧ ρ' k = some (q, z) ∧ w'.heap[q]? = some o ∧ BR ρ' z c o ∧ c.rw = true ∧ c ≠ .dead := by
    intro i b k c h1 h2 h3
    obtain ⟨g1, c', g2, g3, g4, g5⟩ := outB h1
    obtain ⟨q, z, o, f1, f2, f3⟩ := hx.hr.blk i c' g2 g4
    obtain ⟨e1, e2, e3⟩ := toB_ok toρ h3 (g5 f3)
    exact ⟨q, z, o, f1, toρ _ _ _ h2 f1, f2, e1, by rw [e2]; exact g1, e3⟩
  refine ⟨ρ', ⟨sub, ⟨fun k hk => ?_, fun k c h1 h2 => ?_, fun k l c e q z y h1 h2 h3 h4 h5 h6 => ?_, fun k q z h => ?_⟩, hx.size, fun q h1 h2 => ?_, fun q h1 h2 => ?_, fun q h1 h2 => ?_, ?_, fun k hk => lo hk, hx.os, hx.tape, hx.output⟩, toρ⟩
  · have hk : s.next + (d.next - n) ≤ k := hk
    rw [hi (by omega)]
    exact hx.hr.fresh _ (by omega)
  · rcases get' h1 with ⟨i, b, g1, g2, g3⟩ | ⟨g1, g2⟩
    · obtain ⟨q, z, o, _, f2, f3, f4, _, _⟩ := outAt g1 g2 g3
      exact ⟨q, z, o, f2, f3, f4⟩
    · obtain ⟨q, z, o, f1, f2, f3⟩ := hr.blk k c g1 h2
      refine ⟨q, z, o, sub _ _ f1, ?_, f3.mono sub⟩
      rw [hx.keeps q (hr.below k q z f1) (clash g1 h2 f1 g2)]
      exact f2
  · have mineAt : ∀ {i b k c q z}, (i, b) ∈ d.outs → toR n s r i = some k → toB (toR n s r) b = some c → ρ' k = some (q, z) → Mine ρ1 s0' q ∧ ∃ z', ρ1 i = some (q, z') := by
      intro i b k c q z m1 m2 m3 m4
      obtain ⟨q', z', o, f1, f2, _⟩ := outAt m1 m2 m3
      rw [f2] at m4; cases m4
      obtain ⟨_, c', g2, g3, _⟩ := outB m1
      exact ⟨⟨i, c', _, g2, g3, f1⟩, _, f1⟩
    rcases get' h1 with ⟨i, b, g1, g2, g3⟩ | ⟨g1, g2⟩
    · obtain ⟨M1, z1, f1⟩ := mineAt g1 g2 g3 h5
      rcases get' h2 with ⟨i', b', g1', g2', g3'⟩ | ⟨g1', g2'⟩
      · obtain ⟨M2, z2, f2⟩ := mineAt g1' g2' g3' h6
        obtain ⟨_, c1, k1, k2, _⟩ := outB g1
        obtain ⟨_, c2, k3, _, k4, _⟩ := outB g1'
        have e := hx.hr.inj i i' c1 c2 q z1 z2 k1 k3 k2 k4 f1 f2
        subst e
        rw [g2] at g2'; cases g2'; rfl
      · obtain ⟨q0, z0, _, f0, _, _⟩ := hr.blk l e g1' h4
        have f0' := sub _ _ f0
        rw [h6] at f0'; cases f0'
        exact absurd (hx.mine q (hr.below l q _ f0) M1) (clash g1' h4 f0 g2')
    · have hc : c ≠ .dead := by intro e'; subst e'; cases h3
      obtain ⟨q0, z0, _, f0, _, _⟩ := hr.blk k c g1 hc
      have f0' := sub _ _ f0
      rw [h5] at f0'; cases f0'
      rcases get' h2 with ⟨i', b', g1', g2', g3'⟩ | ⟨g1', g2'⟩
      · obtain ⟨M2, z2, f2⟩ := mineAt g1' g2' g3' h6
        exact absurd (hx.mine q (hr.below k q _ f0) M2) (clash g1 hc f0 g2)
      · obtain ⟨q1, z1, _, f1, _, _⟩ := hr.blk l e g1' h4
        have f1' := sub _ _ f1
        rw [h6] at f1'; cases f1'
        exact hr.inj k l c e q _ _ g1 g1' h3 h4 f0 f1
  · rcases Nat.lt_or_ge k s.next with hlt | hge
    · rw [lo hlt] at h
      exact Nat.lt_of_lt_of_le (hr.below k q z h) hx.size
    · rw [hi hge] at h
      exact hx.hr.below _ q z h
  · exact hx.keeps q h1 fun hM => h2 (mineS hM)
  · obtain ⟨k, c, z, g1, g2, g3⟩ := h2
    rcases get' g1 with ⟨i, b, e1, e2, e3⟩ | ⟨e1, e2⟩
    · obtain ⟨q', z', o, f1, f2, _⟩ := outAt e1 e2 e3
      rw [f2] at g3; cases g3
      obtain ⟨_, c', k2, k3, _⟩ := outB e1
      exact mineS (hx.mine q h1 ⟨i, c', _, k2, k3, f1⟩)
    · have hc : c ≠ .dead := by intro e'; subst e'; cases g2
      obtain ⟨q0, z0, _, f0, _, _⟩ := hr.blk k c e1 hc
      have f0' := sub _ _ f0
      rw [g3] at f0'; cases f0'
      exact ⟨k, c, _, e1, g2, f0⟩
  · obtain ⟨k, c, z, g1, g2, g3⟩ := h2
    rcases get' g1 with ⟨i, b, e1, e2, e3⟩ | ⟨e1, e2⟩
    · obtain ⟨q', z', o, f1, f2, _⟩ := outAt e1 e2 e3
      rw [f2] at g3; cases g3
      obtain ⟨_, c', k2, _, k4, _⟩ := outB e1
      exact liveS (hx.live q h1 ⟨i, c', _, k2, k4, f1⟩)
    · obtain ⟨q0, z0, _, f0, _, _⟩ := hr.blk k c e1 g2
      have f0' := sub _ _ f0
      rw [g3] at f0'; cases f0'
      exact ⟨k, c, _, e1, g2, f0⟩
  · show s.next ≤ s.next + (d.next - n)
    omega

/-- What is remembered holds. -/
theorem memo_sound {P : Program} {K : CallK} (hK : CallSound P K) {d : Memo} (hok : d.ok K = true) : CallSound P (onlyF d.f d.run) := by
  obtain ⟨v0, s0', hrun, h1, h2, h3, h4⟩ : ∃ v0 s0', K (.fn d.f) d.args (smallS d.bs) = some (v0, s0') ∧ meetV bndI d.res v0 () = some () ∧ s0'.next ≤ d.next ∧ rwOut d.outs d.bs 0 = true ∧ outsOk s0' d.outs = true := by
    unfold Memo.ok at hok
    cases hk : K (.fn d.f) d.args (smallS d.bs) with
    | none => rw [hk] at hok; cases hok
    | some x =>
      rw [hk] at hok
      obtain ⟨a1, hok⟩ := cond_true hok
      obtain ⟨a2, hok⟩ := cond_true hok
      obtain ⟨a3, a4⟩ := cond_true hok
      exact ⟨x.1, x.2, rfl, isSomeU_ok a1, Nat.le_of_ble_eq_true a2, a3, a4⟩
  have open_ : ∀ {g : Tgt} {args : List AV} {s s' : St} {v : AV}, onlyF d.f d.run g args s = some (v, s') → g = .fn d.f ∧ d.run args s = some (v, s') := by
    intro g args s s' v h
    obtain ⟨e, h⟩ := cond_some h
    exact ⟨isFn_ok e, h⟩
  refine ⟨fun {g args s s' v ρ w args'} h hr ha => ?_, fun {g args s s' v w args'} h => ?_, fun {i args s s' v ρ w args' l z} h _ _ _ _ _ => by cases (open_ h).1⟩
  · obtain ⟨hg, h3⟩ := open_ h
    cases hg
    clear h
    replace h3 := ob_some h3; obtain ⟨r1, m1, h⟩ := h3
    replace h := ob_some h; obtain ⟨r, m2, h⟩ := h
    replace h := ob_some h; obtain ⟨v1, m3, h⟩ := h
    replace h := ob_some h; obtain ⟨t, m4, h⟩ := h
    cases h
    obtain ⟨a1, b1⟩ := meetL_ok (bndR_binds _) m1
    obtain ⟨a2, b2⟩ := meetM_ok m2
    have hgood : r.Good (llen d.bs) := a2.2 (a1.2 (fun i j e => by cases e))
    have hm : ∀ (k : Nat) (p : Blk), d.bs[k]? = some (some p) → ∃ j c, r.at k = some j ∧ s.get j = some c ∧ (p.rw = true → c.rw = true) ∧ c ≠ .dead ∧ ∀ {ρ : BMap} {z : Nat} {o : Obj}, BR ρ z c o → BR (via r.at ρ) z p o := by
      intro k p e
      have := b2 k p e
      rwa [Nat.zero_add] at this
    have hr0 : HR (via r.at ρ) (smallS d.bs) w := by
      have at_ : ∀ {i q}, via r.at ρ i = some q → ∃ j, r.at i = some j ∧ ρ j = some q := fun {i q} e => by
        unfold via at e
        cases hj : r.at i with
        | none => rw [hj] at e; cases e
        | some j => rw [hj] at e; exact ⟨j, rfl, e⟩
      refine ⟨fun i hi => ?_, fun i b e hd => ?_, fun i j b c q z y e1 e2 hw hd r1 r2 => ?_, fun i q z e => ?_⟩
      · cases hv : via r.at ρ i with
        | none => rfl
        | some q =>
          obtain ⟨j, hj, _⟩ := at_ hv
          have := (hgood i j hj).1
          have hi : llen d.bs ≤ i := hi
          omega
      · obtain ⟨j, c, g1, g2, g3, g4, g5⟩ := hm i b (smallS_get e)
        obtain ⟨q, z, o, f1, f2, f3⟩ := hr.blk j c g2 g4
        exact ⟨q, z, o, via_at g1 f1, f2, g5 f3⟩
      · obtain ⟨j1, c1, g1, g2, g3, g4, _⟩ := hm i b (smallS_get e1)
        obtain ⟨j2, c2, k1, k2, k3, k4, _⟩ := hm j c (smallS_get e2)
        obtain ⟨l1, f1, f2⟩ := at_ r1
        obtain ⟨l2, f3, f4⟩ := at_ r2
        rw [g1] at f1; cases f1
        rw [k1] at f3; cases f3
        have e := hr.inj _ _ c1 c2 q z y g2 k2 (g3 hw) k4 f2 f4
        subst e
        have e1 := (hgood i _ g1).2
        rw [(hgood j _ k1).2] at e1
        cases e1; rfl
      · obtain ⟨j, _, f⟩ := at_ e
        exact hr.below j q z f
    refine (hK.calls hrun hr0 ((b1 ha).mono (a2.sub _))).mono fun e w' he => ?_
    cases e with
    | panicked c => exact he.elim
    | outgrown => exact he.elim
    | returned v' =>
      obtain ⟨ρ1, hx, hv⟩ := he
      obtain ⟨ρ', hx', hto⟩ := memo_ext hr hgood (fun k p e => by obtain ⟨j, c, q1, q2, q3, q4, _⟩ := hm k p e; exact ⟨j, c, q1, q2, q3, q4⟩) rfl hx h2 h3 h4 m4
      have hv0 : VR ρ1 d.res v' := (meetV_ok bndI_binds d.res h1).2 hv
      exact ⟨ρ', hx', toV_ok hto _ m3 hv0⟩
  · obtain ⟨hg, h3⟩ := open_ h
    cases hg
    exact hK.enter hrun

/-! Walkers that try what they remember first. -/

noncomputable def orK (a b : CallK) : CallK := fun f args s => Option.rec (b f args s) (fun r => some r) (a f args s)

theorem orK_sound {P : Program} {a b : CallK} (ha : CallSound P a) (hb : CallSound P b) : CallSound P (orK a b) := by
  have open_ : ∀ {g : Tgt} {args : List AV} {s s' : St} {v : AV}, orK a b g args s = some (v, s') → a g args s = some (v, s') ∨ b g args s = some (v, s') := by
    intro g args s s' v h
    have h' : (Option.rec (b g args s) (fun r => some r) (a g args s) : Option (AV × St)) = some (v, s') := h
    cases hx : a g args s with
    | none => rw [hx] at h'; exact .inr h'
    | some r => rw [hx] at h'; exact .inl h'
  refine ⟨fun h hr hv => ?_, fun h => ?_, fun h hr hv hi r n => ?_⟩
  · rcases open_ h with h | h
    · exact ha.calls h hr hv
    · exact hb.calls h hr hv
  · rcases open_ h with h | h
    · exact ha.enter h
    · exact hb.enter h
  · rcases open_ h with h | h
    · exact ha.yields h hr hv hi r n
    · exact hb.yields h hr hv hi r n

noncomputable def noK : CallK := fun _ _ _ => none
theorem noK_sound (P : Program) : CallSound P noK := ⟨fun h => (by cases h), fun h => (by cases h), fun h => (by cases h)⟩

noncomputable def callM (P : Program) (mm : CallK) (thr fuel : Nat) (n : Nat) : CallK :=
  Nat.rec (motive := fun _ => CallK) noK (fun _ ih => orK mm (goF P thr fuel ih)) n

/-- The walker that remembers. -/
theorem callM_sound {P : Program} (hm : P.follows .mixedOrders = true) {mm : CallK} (hmm : CallSound P mm) (thr fuel : Nat) : ∀ n, CallSound P (callM P mm thr fuel n) := by
  intro n
  induction n with
  | zero => exact noK_sound P
  | succ n ih => exact orK_sound hmm (goF_sound hm thr fuel ih)

/-- The first one that answers. -/
noncomputable def tryM (l : List Memo) (args : List AV) (s : St) : Option (AV × St) :=
  List.rec (motive := fun _ => Option (AV × St)) none (fun d _ ih => Option.rec ih (fun r => some r) (d.run args s)) l

/-- What is remembered, function by function. -/
abbrev Book := List (FuncId × List Memo)

noncomputable def bookF (b : Book) (f : FuncId) (args : List AV) (s : St) : Option (AV × St) :=
  List.rec (motive := fun _ => Option (AV × St)) none (fun x _ ih => Bool.rec ih (tryM x.2 args s) (Nat.beq x.1 f)) b

noncomputable def bookY (_ : Nat) (_ : List AV) (_ : St) : Option (AV × St) := none

noncomputable def bookK (b : Book) : CallK := fun t args s => Tgt.rec (motive := fun _ => List AV → St → Option (AV × St)) (bookF b) bookY t args s

noncomputable def okAll (K : CallK) (f : FuncId) (l : List Memo) : Bool := List.rec (motive := fun _ => Bool) true (fun d _ ih => cond (Nat.beq d.f f) (cond (d.ok K) ih false) false) l
def Book.Ok (K : CallK) (b : Book) : Prop := ∀ x ∈ b, okAll K x.1 x.2 = true

theorem okAll_append {K : CallK} {f : FuncId} {m : List Memo} (hm : okAll K f m = true) : ∀ {l : List Memo}, okAll K f l = true → okAll K f (l ++ m) = true
  | [], _ => hm
  | x :: l, h => by
    obtain ⟨h1, h2⟩ := cond_true (show cond (Nat.beq x.f f) (cond (x.ok K) (okAll K f l) false) false = true from h)
    obtain ⟨h2, h3⟩ := cond_true h2
    show cond (Nat.beq x.f f) (cond (x.ok K) (okAll K f (l ++ m)) false) false = true
    rw [h1, h2, okAll_append hm h3]; rfl

theorem okAll_mem {K : CallK} {f : FuncId} : ∀ {l : List Memo}, okAll K f l = true → ∀ d ∈ l, d.f = f ∧ d.ok K = true
  | [], _, d, hd => by simp at hd
  | x :: l, h, d, hd => by
    obtain ⟨h1, h2⟩ := cond_true (show cond (Nat.beq x.f f) (cond (x.ok K) (okAll K f l) false) false = true from h)
    obtain ⟨h2, h3⟩ := cond_true h2
    rcases List.mem_cons.1 hd with rfl | hd
    · exact ⟨Nat.eq_of_beq_eq_true h1, h2⟩
    · exact okAll_mem h3 d hd

theorem tryM_some : ∀ {l : List Memo} {args : List AV} {s : St} {r : AV × St}, tryM l args s = some r → ∃ d ∈ l, d.run args s = some r
  | [], _, _, _, h => by cases h
  | x :: l, args, s, r, h => by
    have h' : (Option.rec (tryM l args s) (fun r => some r) (x.run args s) : Option (AV × St)) = some r := h
    cases hx : x.run args s with
    | none =>
      rw [hx] at h'
      obtain ⟨d, hd, e⟩ := tryM_some h'
      exact ⟨d, List.mem_cons_of_mem _ hd, e⟩
    | some q =>
      rw [hx] at h'
      exact ⟨x, by simp, by rw [hx]; exact h'⟩

theorem bookF_some {K : CallK} : ∀ {b : Book} {f : FuncId} {args : List AV} {s : St} {r : AV × St}, b.Ok K → bookF b f args s = some r → ∃ d : Memo, d.f = f ∧ d.ok K = true ∧ d.run args s = some r
  | [], _, _, _, _, _, h => by cases h
  | x :: b, f, args, s, r, hok, h => by
    have h1 := hok x (by simp)
    have h2 : Book.Ok K b := fun y hy => hok y (List.mem_cons_of_mem _ hy)
    have h' : (Bool.rec (bookF b f args s) (tryM x.2 args s) (Nat.beq x.1 f) : Option (AV × St)) = some r := h
    cases hb : Nat.beq x.1 f with
    | false => rw [hb] at h'; exact bookF_some h2 h'
    | true =>
      rw [hb] at h'
      obtain ⟨d, hd, e⟩ := tryM_some h'
      obtain ⟨g1, g2⟩ := okAll_mem h1 d hd
      exact ⟨d, g1.trans (Nat.eq_of_beq_eq_true hb), g2, e⟩

theorem bookK_sound {P : Program} {K : CallK} (hK : CallSound P K) {b : Book} (hok : b.Ok K) : CallSound P (bookK b) := by
  have open_ : ∀ {t : Tgt} {args : List AV} {s s' : St} {v : AV}, bookK b t args s = some (v, s') → ∃ d : Memo, t = .fn d.f ∧ d.ok K = true ∧ onlyF d.f d.run t args s = some (v, s') := by
    intro t args s s' v h
    cases t with
    | yld i => cases h
    | fn f =>
      obtain ⟨d, h1, h2, h3⟩ := bookF_some hok (show bookF b f args s = some (v, s') from h)
      subst h1
      refine ⟨d, rfl, h2, ?_⟩
      show cond (Nat.beq d.f d.f) (d.run args s) none = _
      rw [Nat.beq_refl]; exact h3
  refine ⟨fun h hr ha => ?_, fun h => ?_, fun h hr ha hi r n => ?_⟩
  · obtain ⟨d, _, h2, h3⟩ := open_ h
    exact (memo_sound hK h2).calls h3 hr ha
  · obtain ⟨d, _, h2, h3⟩ := open_ h
    exact (memo_sound hK h2).enter h3
  · obtain ⟨d, _, h2, h3⟩ := open_ h
    exact (memo_sound hK h2).yields h3 hr ha hi r n

/-- A call without arguments, from nothing: true. -/
noncomputable def isTrue (x : Option (AV × St)) : Bool :=
  match x with
  | some (.bool true, _) => true
  | _ => false

theorem true_any {P : Program} {K : CallK} (hK : CallSound P K) {f : FuncId} (h : isTrue (K (.fn f) [] ⟨.nil, 0⟩) = true) (w : World) :
    Calls P f #[] w fun e w' => e = .returned (.bool true) ∧ Below w.heap.size w w' := by
  unfold isTrue at h
  split at h
  · rename_i s hs
    have hr : HR (fun _ => none) ⟨.nil, 0⟩ w := ⟨fun _ _ => rfl, fun i b e _ => (by cases e), fun i j b c r z y e => (by cases e), fun i r z e => (by cases e)⟩
    refine (hK.calls hs hr (VRs.nil _)).mono fun e w' he => ?_
    cases e with
    | panicked c => exact he.elim
    | outgrown => exact he.elim
    | returned v' =>
      obtain ⟨ρ', hx, hv⟩ := he
      cases hv
      refine ⟨rfl, ?_⟩
      refine ⟨hx.os, hx.tape, hx.output, hx.size, fun k hk => hx.keeps k hk ?_⟩
      rintro ⟨i, b, z, e, _⟩
      cases e
  · cases h

/-! A call whose arguments bear no address: it answers so in every memory. -/

noncomputable def resIs (x : Option (AV × St)) (v : AV) : Bool := Option.rec false (fun r => isSomeU (meetV bndI v r.1 ())) x

theorem empty_hr (w : World) : HR (fun _ => none) ⟨.nil, 0⟩ w := ⟨fun _ _ => rfl, fun i b e _ => (by cases e), fun i j b c r z y e => (by cases e), fun i r z e => (by cases e)⟩

/-- Values without an address. -/
def atomVal : AV → Option Value
  | .bool b => some (.bool b)
  | .int k n => some (.int k n)
  | .str s => some (.string s)
  | .ptr none => some (.pointer none)
  | .slice none 0 (.exact 0) => some (.slice none 0 0)
  | .map none => some (.map none)
  | .nilFunc => some .nilFunc
  | .nilIface => some .nilIface
  | _ => none

theorem atomVal_ok {ρ : BMap} {v : AV} {u v' : Value} (h : atomVal v = some u) (hv : VR ρ v v') : v' = u := by
  cases hv <;> simp_all [atomVal]

theorem atomVals_ok {ρ : BMap} : ∀ {l : List AV} {us : List Value} {a : Array Value}, lmapO atomVal l = some us → VRs ρ l a → a = us.toArray
  | [], us, a, h, hv => by
    cases h
    exact Array.eq_empty_of_size_eq_zero hv.1.symm
  | x :: l, us, a, h, hv => by
    obtain ⟨b, q, hb, hq, rfl⟩ := lmapO_cons h
    obtain ⟨y, ys, rfl, hy, hys⟩ := hv.cons_inv
    rw [atomVal_ok hb hy, atomVals_ok hq hys]
    simp

theorem call_any {P : Program} {K : CallK} (hK : CallSound P K) {f : FuncId} {args : List AV} {v : AV} (h : resIs (K (.fn f) args ⟨.nil, 0⟩) v = true) {args' : Array Value} (ha : VRs (fun _ => none) args args') (w : World) :
    Calls P f args' w fun e w' => (∃ v' ρ', e = .returned v' ∧ VR ρ' v v') ∧ Below w.heap.size w w' := by
  cases hx : K (.fn f) args ⟨.nil, 0⟩ with
  | none => rw [hx] at h; cases h
  | some r =>
    rw [hx] at h
    have h := isSomeU_ok (show isSomeU (meetV bndI v r.1 ()) = true from h)
    refine (hK.calls (s' := r.2) (v := r.1) hx (empty_hr w) ha).mono fun e w' he => ?_
    cases e with
    | panicked c => exact he.elim
    | outgrown => exact he.elim
    | returned v' =>
      obtain ⟨ρ', hx', hv⟩ := he
      refine ⟨⟨v', ρ', rfl, (meetV_ok bndI_binds v h).2 hv⟩, hx'.os, hx'.tape, hx'.output, hx'.size, fun k hk => hx'.keeps k hk ?_⟩
      rintro ⟨i, b, z, e, _⟩
      cases e

/-- An aggregate of which nothing is asked. -/
theorem undefs_vr (ρ : BMap) (a : Array Value) (n : Nat) (h : a.size = n) : VR ρ (.agg (List.replicate n .undef)) (.agg a) :=
  .agg (by simp [h]) fun i v v' e _ => by
    have := List.getElem?_eq_some_iff.1 e
    obtain ⟨hi, rfl⟩ := this
    simp only [List.getElem_replicate]
    exact .undef _

end Go.Proofs.Bx
