/- Every order that may be drawn ends as the plan. -/
import Derived.Test.YtbbkhiapcclnpaaGreatDoorBxAny
set_option linter.unusedVariables false
set_option linter.unusedSimpArgs false
set_option linter.unusedSectionVars false
namespace Go.Proofs.Bx
open Go

variable {D : List Deferred} {P : Program} {callK : CallK} {ops : Array Oper} {base : Nat}

/-- What a plan that stands its checks, and was run, gives. -/
structure Ran (P : Program) (callK : CallK) (ops : Array Oper) (base : Nat) (F0 : Fr) (s1 : St) (F2 : Fr) (s2 : St) (tes : List TE) (hs2 : List St) (es2 : List Nat) : Prop where
  chain : Chain P callK ops base tes F0 s1 [s1] [] F2 s2 hs2 es2
  ok : StepsOk (masks ops.toList []) [] tes
  lin : linear ops.toList (tes.map (·.i)) [] = true
  all : ∀ i, i < ops.toList.length → ∃ t ∈ tes, t.i = i
  lt : ∀ t ∈ tes, t.i < ops.toList.length
  slots : slotsOk ops.toList (masks ops.toList []) ops.toList.length = true
  wf : F0.wf
  room : s1.next = base + ops.toList.length

section
variable {F0 F2 : Fr} {s1 s2 : St} {tes : List TE} {hs2 : List St} {es2 : List Nat} (R : Ran P callK ops base F0 s1 F2 s2 tes hs2 es2)
include R

theorem Ran.same {t u : TE} (ht : t ∈ tes) (hu : u ∈ tes) (h : t.i = u.i) : t = u := by
  have hn := (linear_spec R.lin).1
  exact inj_of_nodup hn ht hu h
where
  inj_of_nodup {t u : TE} : ∀ {l : List TE}, (l.map (·.i)).Nodup → t ∈ l → u ∈ l → t.i = u.i → t = u
    | [], _, h, _, _ => by simp at h
    | x :: l, hn, ht, hu, e => by
      rw [List.map_cons, List.nodup_cons] at hn
      obtain ⟨n1, n2⟩ := hn
      rcases List.mem_cons.1 ht with e1 | h1
      · rcases List.mem_cons.1 hu with e2 | h2
        · rw [e1, e2]
        · exact absurd (List.mem_map.2 ⟨u, h2, by rw [← e, e1]⟩) n1
      · rcases List.mem_cons.1 hu with e2 | h2
        · exact absurd (List.mem_map.2 ⟨t, h1, by rw [e, e2]⟩) n1
        · exact inj_of_nodup n2 h1 h2 e

/-- What surely stands before one, the plan has before it. -/
theorem Ran.before {pre post : List TE} {t q : TE} (e : tes = pre ++ t :: post) (hq : q ∈ tes) (hp : prec (masks ops.toList []) q.i t.i = true) : q ∈ pre := by
  have h := before_of_prec R.lin (prec_sound hp) (pre.map (·.i)) (post.map (·.i)) (by rw [e]; simp)
  obtain ⟨q', h1, h2⟩ := List.mem_map.1 h
  have : q' = q := R.same (by rw [e]; simp [h1]) hq h2
  rwa [← this]

theorem Ran.notin {pre post : List TE} {t : TE} (e : tes = pre ++ t :: post) : t ∉ pre ∧ t ∉ post := by
  have hn := (linear_spec R.lin).1
  rw [e, List.map_append, List.map_cons, List.nodup_append] at hn
  refine ⟨fun h => ?_, fun h => ?_⟩
  · exact hn.2.2 _ (List.mem_map.2 ⟨t, h, rfl⟩) t.i (by simp) rfl
  · have := hn.2.1
    rw [List.nodup_cons] at this
    exact this.1 (List.mem_map.2 ⟨t, h, rfl⟩)

omit R in
/-- One that is ready has behind it all that surely stands before it. -/
theorem behind {listed : Array Bool} (hc : Closed ops.toList listed) {i j : Nat} (hr : i ∈ Region.ready .any ops listed) (hp : prec (masks ops.toList []) j i = true) : Listed listed j := by
  obtain ⟨o, ho, _, hd⟩ := ready_spec hc.size hr
  have ho' : ops.toList[i]? = some o := by simpa using ho
  cases prec_sound hp with
  | one h hj => rw [ho'] at h; cases h; exact hd _ hj
  | more h hk p => rw [ho'] at h; cases h; exact hc.prec p (hd _ hk)

/-- What one that is ready looks at holds what it held in the plan. -/
theorem Ran.looks {w0 w : World} {ρ0 ρ : BMap} {s : St} {k : Nat} {h : St} {listed : Array Bool} {a : Act} (I : Inv D ops tes base F0 s w0 ρ0 hs2 ρ k h listed a w) (hc : Closed ops.toList listed)
    {t : TE} (ht : t ∈ tes) (hr : t.i ∈ Region.ready .any ops listed) {x : Nat} (hx : x ∈ looksOf ops.toList (opAt ops.toList t.i)) {u : AV} (hu : t.F.get x = some u) :
    VR ρ u (a.tmps.getD x undef) ∧ x < a.tmps.size := by
  obtain ⟨pre, post, e⟩ := List.append_of_mem ht
  obtain ⟨_, _, hnl, _⟩ := ready_spec hc.size hr
  have C := R.chain
  rw [e] at C
  obtain ⟨c1, _, _⟩ := C.split
  obtain ⟨hsz, hwf, hfr⟩ := c1.frame R.wf
  have hlt : x < a.tmps.size := by rw [I.size, ← hsz]; exact hwf x u hu
  refine ⟨?_, hlt⟩
  rcases hfr x u hu with ⟨q, q1, q2, q3, q4⟩ | ⟨q1, q2⟩
  · have hq : q ∈ tes := by rw [e]; simp [q1]
    have hne : t.i ≠ q.i := fun e' => by
      have := R.same ht hq e'
      subst this
      exact (R.notin e).1 q1
    refine I.temps x u (.inl ⟨q, hq, ?_, q2, q3, q4⟩)
    rcases (slots_spec R.slots (R.lt t ht) (R.lt q hq) hne).2 x hx q2 with hp | hp
    · -- it would stand before
      obtain ⟨p1, p2, e2⟩ := List.append_of_mem q1
      have e3 : tes = p1 ++ q :: (p2 ++ t :: post) := by rw [e, e2]; simp
      have := R.before e3 ht hp
      exact absurd (by rw [e2]; simp [this]) (R.notin e).1
    · exact behind hc hr hp
  · refine I.temps x u (.inr ⟨fun q hq hl hd => ?_, q2⟩)
    by_cases hqp : q ∈ pre
    · exact q1 q hqp hd
    · have hne : t.i ≠ q.i := fun e' => by rw [e'] at hnl; exact hnl hl
      rcases (slots_spec R.slots (R.lt t ht) (R.lt q hq) hne).2 x hx hd with hp | hp
      · exact hnl (hc.prec (prec_sound hp) hl)
      · exact hqp (R.before e hq hp)

omit R in
theorem only_run {ρ : BMap} {F : Fr} {a : Act} {l : List Nat} (h : ∀ x ∈ l, ∀ u, F.get x = some u → VR ρ u (a.tmps.getD x undef)) : EvR ρ (only l F.ev) a := by
  intro x v e
  cases x with
  | tmp t =>
    have e' : cond (mem l t) (F.get t) none = some v := e
    cases hm : mem l t with
    | false => rw [hm] at e'; cases e'
    | true =>
      rw [hm] at e'
      exact h t (mem_iff.1 hm) v e'
  | const c => exact cv_vr ρ e
  | func f => cases e; exact .func rfl rfl (fun i v v' e => by simp at e) (fun i v v' e => by simp at e)
  | global g => cases e

omit R in
theorem want_run {ρ : BMap} {F : Fr} {a : Act} {o : Oper} {b : Bool} (h : wantA ops F o.guard = some b) (hl : ∀ x ∈ looksOf ops.toList o, ∀ u, F.get x = some u → VR ρ u (a.tmps.getD x undef) ∧ x < a.tmps.size) :
    Region.wanted o (yielded ops a.tmps) = b := by
  unfold wantA at h
  unfold Region.wanted
  split at h
  · rename_i hg; cases h; rw [hg]
  · rename_i j want hg
    rw [hg]
    replace h := ob_some h; obtain ⟨oj, hj, h⟩ := h
    replace h := ob_some h; obtain ⟨d, hd, h⟩ := h
    replace h := ob_some h; obtain ⟨v, hv, h⟩ := h
    rw [nth_eq] at hj
    have hj' : ops[j]? = some oj := by simpa using hj
    obtain ⟨hvr, hlt⟩ := hl d (looks_guard hg hj hd) v hv
    split at h
    · rename_i b'
      cases h
      have e : a.tmps[d]? = some (.bool b') := by
        have : a.tmps.getD d undef = .bool b' := by
          generalize a.tmps.getD d undef = q at hvr
          cases hvr; rfl
        simp only [Array.getD_eq_getD_getElem?] at this
        rw [Array.getElem?_eq_getElem hlt] at this ⊢
        simpa using this
      simp only [yielded, hj', Option.bind_some, hd, e]
      cases b' <;> cases want <;> rfl
    · cases h
      have e : a.tmps[d]? = some (.tuple #[]) := by
        have : a.tmps.getD d undef = .tuple #[] := by
          generalize a.tmps.getD d undef = q at hvr
          cases hvr with
          | tuple h1 _ => rw [Array.eq_empty_of_size_eq_zero h1.symm]
        simp only [Array.getD_eq_getD_getElem?] at this
        rw [Array.getElem?_eq_getElem hlt] at this ⊢
        simpa using this
      simp only [yielded, hj', Option.bind_some, hd, e]
      cases want <;> rfl
    · cases h

/-- The slots behind one more. -/
theorem Ran.put {w0 w : World} {ρ0 ρ ρ' : BMap} {s : St} {k : Nat} {h : St} {listed : Array Bool} {a : Act} (I : Inv D ops tes base F0 s w0 ρ0 hs2 ρ k h listed a w) (hs : Sub ρ ρ')
    {t : TE} (ht : t ∈ tes) (hi : t.i < listed.size) {v' : Value} (hv : VR ρ' t.v v') :
    (a.put (opAt ops.toList t.i).dst v').defers = D ∧ (a.put (opAt ops.toList t.i).dst v').tmps.size = F0.size ∧
    ∀ x u, ((∃ q ∈ tes, Listed (listed.setIfInBounds t.i true) q.i ∧ (opAt ops.toList q.i).dst = some x ∧ u = q.v ∧ x < F0.size) ∨ ((∀ q ∈ tes, Listed (listed.setIfInBounds t.i true) q.i → (opAt ops.toList q.i).dst ≠ some x) ∧ F0.get x = some u)) →
      VR ρ' u ((a.put (opAt ops.toList t.i).dst v').tmps.getD x undef) := by
  have old : ∀ {x u}, (opAt ops.toList t.i).dst ≠ some x → VR ρ u (a.tmps.getD x undef) → VR ρ' u ((a.put (opAt ops.toList t.i).dst v').tmps.getD x undef) := by
    intro x u hd hvr
    cases hdst : (opAt ops.toList t.i).dst with
    | none => exact hvr.mono hs
    | some d =>
      have hne : d ≠ x := fun e => hd (by rw [hdst, e])
      have e2 : (a.tmps.setIfInBounds d v').getD x undef = a.tmps.getD x undef := by
        simp only [Array.getD_eq_getD_getElem?]
        rw [Array.getElem?_setIfInBounds_ne hne]
      show VR ρ' u ((a.tmps.setIfInBounds d v').getD x undef)
      rw [e2]; exact hvr.mono hs
  refine ⟨?_, ?_, fun x u hx => ?_⟩
  · cases (opAt ops.toList t.i).dst <;> exact I.defers
  · cases (opAt ops.toList t.i).dst with
    | none => exact I.size
    | some d => simpa [Act.put] using I.size
  · rcases hx with ⟨q, q1, q2, q3, q4, q5⟩ | ⟨q1, q2⟩
    · rw [listed_set hi] at q2
      by_cases hqt : q.i = t.i
      · have := R.same q1 ht hqt
        subst this
        rw [q3, q4]
        have hlt : x < a.tmps.size := by rw [I.size]; exact q5
        show VR ρ' q.v ((a.tmps.setIfInBounds x v').getD x undef)
        simpa [hlt] using hv
      · rcases q2 with e | q2
        · exact absurd e hqt
        · exact old ((slots_spec R.slots (R.lt q q1) (R.lt t ht) hqt).1 x q3) (I.temps x u (.inl ⟨q, q1, q2, q3, q4, q5⟩))
    · refine old (q1 t ht ((listed_set hi).2 (.inl rfl))) (I.temps x u (.inr ⟨fun q hq hl => q1 q hq ((listed_set hi).2 (.inr hl)), q2⟩))

end

end Go.Proofs.Bx
