/- Whatever order is drawn, a region ends as its plan. -/
import Derived.Test.YtbbkhiapcclnpaaGreatDoorBxTrace
set_option linter.unusedVariables false
set_option linter.unusedSimpArgs false
set_option linter.unusedSectionVars false
namespace Go.Proofs.Bx
open Go

variable {D : List Deferred} {P : Program} {callK : CallK} {ops : Array Oper} {base : Nat}

/-! The order of a plan. -/

theorem linear_spec {L : List Oper} : ∀ {l done : List Nat}, linear L l done = true →
    l.Nodup ∧ (∀ i ∈ l, i ∉ done) ∧ ∀ pre i post, l = pre ++ i :: post → ∀ d ∈ depsOf (opAt L i), d ∈ done ∨ d ∈ pre
  | [], done, _ => ⟨List.nodup_nil, by simp, fun pre i post e => by simp at e⟩
  | x :: l, done, h => by
    have h' : cond (lall (fun d => mem done d) (depsOf (opAt L x))) (cond (mem done x) false (linear L l (x :: done))) false = true := h
    have c1 : lall (fun d => mem done d) (depsOf (opAt L x)) = true := by
      cases hc : lall (fun d => mem done d) (depsOf (opAt L x)) with
      | true => rfl
      | false => rw [hc] at h'; cases h'
    rw [c1] at h'
    have h2 : cond (mem done x) false (linear L l (x :: done)) = true := h'
    have c2 : mem done x = false := by
      cases hc : mem done x with
      | false => rfl
      | true => rw [hc] at h2; cases h2
    rw [c2] at h2
    have hx : x ∉ done := fun e => by rw [mem_iff.2 e] at c2; cases c2
    obtain ⟨i1, i2, i3⟩ := linear_spec (show linear L l (x :: done) = true from h2)
    refine ⟨List.nodup_cons.2 ⟨fun e => i2 x e (by simp), i1⟩, fun i hi => ?_, fun pre i post e d hd => ?_⟩
    · rcases List.mem_cons.1 hi with rfl | hi
      · exact hx
      · exact fun e => i2 i hi (by simp [e])
    · cases pre with
      | nil =>
        simp at e
        obtain ⟨rfl, rfl⟩ := e
        exact .inl (mem_iff.1 (lall_iff.1 c1 d hd))
      | cons y pre =>
        simp at e
        obtain ⟨rfl, rfl⟩ := e
        rcases i3 pre i post rfl d hd with h | h
        · rcases List.mem_cons.1 h with rfl | h
          · exact .inr (by simp)
          · exact .inl h
        · exact .inr (by simp [h])

theorem opAt_eq {L : List Oper} {i : Nat} {o : Oper} (h : L[i]? = some o) : opAt L i = o := by unfold opAt; rw [nth_eq, h]

/-- What stands before one comes before it. -/
theorem before_of_prec {L : List Oper} {l : List Nat} (h : linear L l [] = true) {j i : Nat} (hp : Prec L j i) : ∀ pre post, l = pre ++ i :: post → j ∈ pre := by
  obtain ⟨_, _, hd⟩ := linear_spec h
  induction hp with
  | one ho hj =>
    intro pre post e
    have := hd pre _ post e _ (by rw [opAt_eq ho]; exact hj)
    simpa using this
  | @more k i o ho hk _ ih =>
    intro pre post e
    have hkp := hd pre _ post e _ (by rw [opAt_eq ho]; exact hk)
    simp at hkp
    obtain ⟨a, b, hab⟩ := List.append_of_mem hkp
    have := ih a (b ++ i :: post) (by rw [e, hab]; simp)
    rw [hab]; simp [this]

theorem slots_spec {L : List Oper} {B : List Nat} {n : Nat} (h : slotsOk L B n = true) {i j : Nat} (hi : i < n) (hj : j < n) (hne : i ≠ j) :
    (∀ d, (opAt L i).dst = some d → (opAt L j).dst ≠ some d) ∧ ∀ t, t ∈ looksOf L (opAt L i) → (opAt L j).dst = some t → prec B i j = true ∨ prec B j i = true := by
  have h1 := lall_iff.1 h i (by rw [upto_eq]; simpa using hi)
  have h2 := lall_iff.1 h1 j (by rw [upto_eq]; simpa using hj)
  rw [beq_no hne] at h2
  have h3 : cond (match (opAt L i).dst with
        | some d => dstIs (opAt L j) d
        | none => false) false
      (lall (fun t => cond (dstIs (opAt L j) t) (prec B i j || prec B j i) true) (looksOf L (opAt L i))) = true := h2
  refine ⟨fun d hd he => ?_, fun t ht he => ?_⟩
  · rw [hd] at h3
    have : dstIs (opAt L j) d = true := by unfold dstIs; rw [he]; exact beq_yes rfl
    dsimp only at h3
    rw [this] at h3
    cases h3
  · have h4 : lall (fun t => cond (dstIs (opAt L j) t) (prec B i j || prec B j i) true) (looksOf L (opAt L i)) = true := by
      cases hc : (match (opAt L i).dst with
        | some d => dstIs (opAt L j) d
        | none => false) with
      | true => rw [hc] at h3; cases h3
      | false => rw [hc] at h3; exact h3
    have h5 := lall_iff.1 h4 t ht
    have : dstIs (opAt L j) t = true := by unfold dstIs; rw [he]; exact beq_yes rfl
    rw [this] at h5
    have h6 : (prec B i j || prec B j i) = true := h5
    simpa using h6

/-- Every level below the last one has its effect. -/
theorem Chain.levels {l : List TE} {F F2 : Fr} {s s2 : St} {hs hs2 : List St} {es es2 : List Nat} (h : Chain P callK ops base l F s hs es F2 s2 hs2 es2) :
    ∀ j, es.length ≤ j → j < es2.length → ∃ q ∈ l, q.eff = true ∧ q.es.length = j := by
  induction h with
  | nil => intro j h1 h2; omega
  | cons h c ih =>
    rename_i t l F s hs es
    intro j h1 h2
    cases he : t.eff with
    | false =>
      obtain ⟨_, g2, _⟩ := h.quiet he
      rw [g2] at ih
      obtain ⟨q, q1, q2⟩ := ih j h1 h2
      exact ⟨q, by simp [q1], q2⟩
    | true =>
      obtain ⟨_, g2, _⟩ := h.effect he
      rw [g2] at ih
      by_cases hj : j = t.es.length
      · exact ⟨t, by simp, he, hj.symm⟩
      · obtain ⟨q, q1, q2⟩ := ih j (by simp; omega) h2
        exact ⟨q, by simp [q1], q2⟩

/-- A part of a chain. -/
theorem Chain.at {l : List TE} {F F2 : Fr} {s s2 : St} {hs hs2 : List St} {es es2 : List Nat} (h : Chain P callK ops base l F s hs es F2 s2 hs2 es2) {t : TE} (ht : t ∈ l) :
    t.ok P callK ops base ∧ t.hs <:+ hs2 ∧ t.es <:+ es2 ∧ t.hs' <:+ hs2 ∧ t.es' <:+ es2 ∧ t.hs.length + es.length = hs.length + t.es.length := by
  obtain ⟨pre, post, rfl⟩ := List.append_of_mem ht
  obtain ⟨h1, h2, h3⟩ := h.split
  have s3 := h3.suffix
  have hl := h1.length
  refine ⟨h2, ?_, ?_, s3.1, s3.2, hl⟩
  · cases he : t.eff with
    | false => have := (h2.quiet he).1; rw [this] at s3; exact s3.1
    | true => have := (h2.effect he).1; rw [this] at s3; exact (List.suffix_cons _ _).trans s3.1
  · cases he : t.eff with
    | false => have := (h2.quiet he).2.1; rw [this] at s3; exact s3.2
    | true => have := (h2.effect he).2.1; rw [this] at s3; exact (List.suffix_cons _ _).trans s3.2

theorem suffix_eq {α : Type} {a b c : List α} (h1 : a <:+ c) (h2 : b <:+ c) (hl : a.length = b.length) : a = b := by
  have h := List.suffix_of_suffix_length_le h1 h2 (by omega)
  exact h.eq_of_length hl

theorem suffix_get {α : Type} {a r c : List α} {h : α} (h1 : a <:+ c) (h2 : (h :: r) <:+ c) {L : Nat} (ha : a.length = L + 1) (hk : r.length ≤ L) : a[L - r.length]? = some h := by
  obtain ⟨y, hy⟩ := List.suffix_of_suffix_length_le h2 h1 (by simp; omega)
  have hl := congrArg List.length hy
  simp at hl
  rw [← hy, List.getElem?_append_right (by omega)]
  rw [show L - r.length - y.length = 0 by omega]
  rfl

/-! The state between two operations of a schedule. -/

structure Inv (D : List Deferred) (ops : Array Oper) (tes : List TE) (base : Nat) (F0 : Fr) (s1 : St) (w0 : World) (ρ0 : BMap) (hs2 : List St) (ρ : BMap) (k : Nat) (h : St) (listed : Array Bool) (a : Act) (w : World) : Prop where
  ext : Ext ρ0 s1 w0 ρ h w
  top : ∃ r, (h :: r) <:+ hs2 ∧ r.length = k
  defers : a.defers = D
  size : a.tmps.size = F0.size
  temps : ∀ x u, ((∃ q ∈ tes, Listed listed q.i ∧ (opAt ops.toList q.i).dst = some x ∧ u = q.v ∧ x < F0.size) ∨ ((∀ q ∈ tes, Listed listed q.i → (opAt ops.toList q.i).dst ≠ some x) ∧ F0.get x = some u)) →
    VR ρ u (a.tmps.getD x undef)
  effs : ∀ q ∈ tes, q.eff = true → (Listed listed q.i ↔ q.es.length < k)
  early : ∀ q ∈ tes, Listed listed q.i → k ≤ q.es.length → ∀ b, q.blk = some b → ∃ r z o, ρ (base + q.i) = some (r, z) ∧ w0.heap.size ≤ r ∧ w.heap[r]? = some o ∧ BR ρ z b o ∧ ¬ Live ρ h r
  apart : ∀ q ∈ tes, ∀ q' ∈ tes, Listed listed q.i → Listed listed q'.i → k ≤ q.es.length → k ≤ q'.es.length → q.blk ≠ none → q'.blk ≠ none → ∀ r z z', ρ (base + q.i) = some (r, z) → ρ (base + q'.i) = some (r, z') → q.i = q'.i
  fresh : ∀ q ∈ tes, ¬ Listed listed q.i → ρ (base + q.i) = none
  room : base + ops.toList.length ≤ h.next

/-- The blocks that were made ahead of an effect are taken in. -/
theorem Inv.adopt {tes : List TE} {F0 : Fr} {s1 : St} {w0 : World} {ρ0 : BMap} {hs2 : List St} {ρ : BMap} {k : Nat} {h : St} {listed : Array Bool} {a : Act} {w : World} (I : Inv D ops tes base F0 s1 w0 ρ0 hs2 ρ k h listed a w)
    {cur : St} (hn : cur.next = h.next)
    (hcur : ∀ id b, cur.get id = some b → (∃ q ∈ tes, q.blk = some b ∧ id = base + q.i ∧ k ≤ q.es.length ∧ Listed listed q.i) ∨ h.get id = some b) : Ext ρ0 s1 w0 ρ cur w := by
  have H := I.ext.hr
  have key : ∀ id b, cur.get id = some b → b ≠ .dead → ∃ r z o, ρ id = some (r, z) ∧ w.heap[r]? = some o ∧ BR ρ z b o := by
    intro id b e hd
    rcases hcur id b e with ⟨q, q1, q2, rfl, q3, q4⟩ | e
    · obtain ⟨r, z, o, g1, g2, g3, g4, g5⟩ := I.early q q1 q4 q3 b q2
      exact ⟨r, z, o, g1, g3, g4⟩
    · exact H.blk id b e hd
  have hr : HR ρ cur w := by
    refine ⟨fun i hi => H.fresh i (by omega), key, fun i j b c r z y e1 e2 hw hd r1 r2 => ?_, H.below⟩
    have hbd : b ≠ .dead := by intro e; subst e; cases hw
    rcases hcur i b e1 with ⟨q, q1, q2, rfl, q3, q4⟩ | f1
    · obtain ⟨r', z', o', g1, g2, g3, g4, g5⟩ := I.early q q1 q4 q3 b q2
      rw [r1] at g1; cases g1
      rcases hcur j c e2 with ⟨q', p1, p2, rfl, p3, p4⟩ | f2
      · rw [I.apart q q1 q' p1 q4 p4 q3 p3 (by simp [q2]) (by simp [p2]) _ _ _ r1 r2]
      · exact absurd ⟨j, c, _, f2, hd, r2⟩ g5
    · rcases hcur j c e2 with ⟨q', p1, p2, rfl, p3, p4⟩ | f2
      · obtain ⟨r', z', o', g1, g2, g3, g4, g5⟩ := I.early q' p1 p4 p3 c p2
        rw [r2] at g1; cases g1
        exact absurd ⟨i, b, _, f1, hbd, r1⟩ g5
      · exact H.inj i j b c r z y f1 f2 hw hd r1 r2
  refine ⟨I.ext.sub, hr, I.ext.size, I.ext.keeps, fun r hlt hm => ?_, fun r hlt hm => ?_, by rw [hn]; exact I.ext.next, I.ext.old, I.ext.os, I.ext.tape, I.ext.output⟩
  · obtain ⟨i, b, z, e, hw, hρ⟩ := hm
    rcases hcur i b e with ⟨q, q1, q2, rfl, q3, q4⟩ | f
    · obtain ⟨r', z', o', g1, g2, g3, g4, g5⟩ := I.early q q1 q4 q3 b q2
      rw [hρ] at g1; cases g1; omega
    · exact I.ext.mine r hlt ⟨i, b, z, f, hw, hρ⟩
  · obtain ⟨i, b, z, e, hw, hρ⟩ := hm
    rcases hcur i b e with ⟨q, q1, q2, rfl, q3, q4⟩ | f
    · obtain ⟨r', z', o', g1, g2, g3, g4, g5⟩ := I.early q q1 q4 q3 b q2
      rw [hρ] at g1; cases g1; omega
    · exact I.ext.live r hlt ⟨i, b, z, f, hw, hρ⟩

end Go.Proofs.Bx
