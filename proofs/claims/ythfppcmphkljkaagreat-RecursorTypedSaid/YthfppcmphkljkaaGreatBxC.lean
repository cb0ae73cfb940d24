/- A verified executor of the model, third part: the walk of a call, and what was run in a small memory, told of every memory in which it lies. -/
import Derived.Test.YthfppcmphkljkaaGreatBxB
import Derived.Scope
import Derived.RangeFuncOwn
set_option linter.unusedVariables false
set_option linter.unusedSimpArgs false
set_option linter.unusedSectionVars false

namespace Go.Proofs.Bx
open Go
variable [Sym]

variable {D : List Deferred} {P : Program} {callK : CallK} {ops : Array Oper} {base : Nat}
variable {X : Option (Nat × Nat)} {F0 F2 : Fr} {s1 s2 : St} {tes : List TE} {hs2 : List St} {es2 : List Nat}

theorem Ran.atEffect (_R : Ran X P callK ops base F0 s1 F2 s2 tes hs2 es2) {w0 w : World} {ρ0 ρ : BMap} {s : St} {k : Nat} {h : St} {listed : Array Bool} {a : Act} (I : Inv D ops tes base F0 s w0 ρ0 hs2 ρ k h listed a w)
    {pre : List TE} {F : Fr} {cur : St} {hs : List St} {es : List Nat} (C : Chain P callK ops base pre F0 s1 [s1] [] F cur hs es) (hpre : ∀ q ∈ pre, q ∈ tes) (hsuf : hs <:+ hs2) (hk : es.length = k) (hl : ∀ q ∈ pre, q.eff = false → q.es.length = k → Listed listed q.i) :
    cur.next = h.next ∧ ∀ id b, cur.get id = some b → (∃ q ∈ tes, q.blk = some b ∧ id = base + q.i ∧ q.es.length = k ∧ Listed listed q.i) ∨ h.get id = some b := by
  obtain ⟨r, t1, t2⟩ := I.top
  have hlen := C.length
  simp at hlen
  have hhs : hs = h :: r := suffix_eq hsuf t1 (by simp; omega)
  obtain ⟨m1, m2⟩ := C.memory (by simp)
  have h0 : es.length = 0 → h = s1 := by
    intro e0
    obtain ⟨y, hy⟩ := C.suffix.1
    rw [hhs] at hy
    have hl := congrArg List.length hy
    simp at hl
    have : y = [] := by apply List.eq_nil_of_length_eq_zero; omega
    subst this
    simp at hy
    exact hy.1.symm
  refine ⟨?_, fun id b e => ?_⟩
  · rcases m2 with ⟨e1, e2⟩ | ⟨h', r', e1, e2⟩
    · rw [e2, h0 (by simpa using e1)]
    · rw [hhs] at e1; cases e1; exact e2
  · rcases m1 id b e with ⟨q, q1, q2, q3, q4, q5⟩ | ⟨e1, e2⟩ | ⟨h', r', e1, e2⟩
    · exact .inl ⟨q, hpre q q1, q3, q4, by omega, hl q q1 q2 (by omega)⟩
    · right; rw [h0 (by simpa using e1)]; exact e2
    · rw [hhs] at e1; cases e1; exact .inr e2

theorem Ran.effLevel (R : Ran X P callK ops base F0 s1 F2 s2 tes hs2 es2) {w0 w : World} {ρ0 ρ : BMap} {s : St} {k : Nat} {h : St} {listed : Array Bool} {a : Act} (I : Inv D ops tes base F0 s w0 ρ0 hs2 ρ k h listed a w) (hc : Closed ops.toList listed)
    {t : TE} (ht : t ∈ tes) (hr : t.i ∈ Region.ready .any ops listed) (he : t.eff = true) (hX : ∀ e r, t.es = e :: r → prec (masks ops.toList []) e t.i = true ∨ Listed listed e) : t.es.length = k := by
  obtain ⟨_, _, hnl, _⟩ := ready_spec hc.size hr
  obtain ⟨_, _, a2, _, _, _⟩ := R.chain.at ht
  have h1 : ¬ t.es.length < k := fun hlt => hnl ((I.effs t ht he).2 hlt)
  cases hes : t.es with
  | nil => rw [hes] at h1; simp at h1 ⊢; exact h1.symm
  | cons e r =>
    have hl : Listed listed e := by
      rcases hX e r hes with hp | hl
      · exact behind hc hr hp
      · exact hl
    obtain ⟨u, u1, u2, u3⟩ := R.chain.levels r.length (by simp) (by have := a2.length_le; rw [hes] at this; simp at this; omega)
    obtain ⟨b0, _, b2, b3, b4, _⟩ := R.chain.at u1
    have hu := (b0.effect u2).2.1
    have : u.es' = t.es := suffix_eq b4 a2 (by rw [hu, hes]; simp [u3])
    rw [hu, hes] at this
    simp at this
    rw [← this.1] at hl
    have := (I.effs u u1 u2).1 hl
    rw [hes] at h1
    simp at h1 ⊢
    omega

omit [Sym] in
theorem Ran.levelOne (R : Ran X P callK ops base F0 s1 F2 s2 tes hs2 es2) {t q : TE} (ht : t ∈ tes) (hq : q ∈ tes) (het : t.eff = true) (heq : q.eff = true) (hl : q.es.length = t.es.length) : q = t := by
  obtain ⟨pre, post, e⟩ := List.append_of_mem ht
  have C := R.chain
  rw [e] at C
  obtain ⟨c1, hok, c2⟩ := C.split
  rw [e] at hq
  rcases List.mem_append.1 hq with hq | hq
  · obtain ⟨b0, _, _, _, b4, _⟩ := c1.at hq
    have := b4.length_le
    rw [(b0.effect heq).2.1] at this
    simp at this; omega
  · rcases List.mem_cons.1 hq with hq | hq
    · exact hq
    · obtain ⟨p1, p2, e2⟩ := List.append_of_mem hq
      rw [e2] at c2
      have hs := c2.split.1.suffix.2.length_le
      rw [(hok.effect het).2.1] at hs
      simp at hs; omega

theorem Ran.done (R : Ran X P callK ops base F0 s1 F2 s2 tes hs2 es2) {w0 w w' : World} {ρ0 ρ ρ' : BMap} {s : St} {k : Nat} {h : St} {listed : Array Bool} {a : Act} (I : Inv D ops tes base F0 s w0 ρ0 hs2 ρ k h listed a w)
    {t : TE} (ht : t ∈ tes) (hi : t.i < listed.size) (he : t.eff = true) (hlev : t.es.length = k) (hnext : t.cur.next = h.next)
    (hcur : ∀ id b, t.cur.get id = some b → (∃ q ∈ tes, q.blk = some b ∧ id = base + q.i ∧ q.es.length = k ∧ Listed listed q.i) ∨ h.get id = some b)
    (hx : Ext ρ0 s w0 ρ t.cur w) (hy : Ext ρ t.cur w ρ' t.cur' w') {v' : Value} (hv : VR ρ' t.v v') :
    Inv D ops tes base F0 s w0 ρ0 hs2 ρ' (k + 1) t.cur' (listed.setIfInBounds t.i true) (a.put (opAt ops.toList t.i).dst v') w' := by
  obtain ⟨p1, p2, p3⟩ := R.put I hy.sub ht hi hv
  obtain ⟨b0, _, _, b3, _, b5⟩ := R.chain.at ht
  obtain ⟨e1, e2, e3, _⟩ := b0.effect he
  have other : ∀ {q}, q ∈ tes → q ≠ t → (Listed (listed.setIfInBounds t.i true) q.i ↔ Listed listed q.i) := fun hq hne => listed_other hi fun e => hne (R.same hq ht e)
  have old : ∀ {q}, q ∈ tes → ρ' (base + q.i) = ρ (base + q.i) := fun hq => hy.old _ (by have := R.lt _ hq; have := I.room; omega)
  have notLive : ∀ {q}, q ∈ tes → Listed listed q.i → k + 1 ≤ q.es.length → q.blk ≠ none → ∀ {r z}, ρ (base + q.i) = some (r, z) → ¬ Live ρ h r → ¬ Live ρ t.cur r := by
    intro q hq hl hk hqb r z hρ hnl hm
    obtain ⟨j, b', y, e, hd, hρj⟩ := hm
    rcases hcur j b' e with ⟨q', g1, g2, rfl, g3, g4⟩ | e
    · have hqq := I.apart q hq q' g1 hl g4 (by omega) (by omega) hqb (by rw [g2]; simp) r z y hρ hρj
      have := R.same hq g1 hqq
      subst this; omega
    · exact hnl ⟨j, b', y, e, hd, hρj⟩
  refine ⟨hx.trans hy, ⟨t.hs, by rw [← e1]; exact b3, by simp at b5; omega⟩, p1, p2, p3, fun q hq hqe => ?_, fun q hq hl hk b hqb => ?_, fun q hq q' hq' hl hl' hk hk' hqb hqb' r y y' f f' => ?_, fun q hq hq2 => ?_, ?_⟩
  · by_cases hqt : q = t
    · subst hqt
      exact ⟨fun _ => by omega, fun _ => (listed_set hi).2 (.inl rfl)⟩
    · rw [other hq hqt, I.effs q hq hqe]
      have : q.es.length ≠ k := fun e => hqt (R.levelOne ht hq he hqe (by omega))
      omega
  · have hqt : q ≠ t := by intro e; subst e; omega
    rw [other hq hqt] at hl
    obtain ⟨r, y, o, g1, g2, g3, g4, g5⟩ := I.early q hq hl (by omega) b hqb
    have hnl := notLive hq hl hk (by rw [hqb]; simp) g1 g5
    have hlt := I.ext.hr.below _ _ _ g1
    refine ⟨r, y, o, by rw [old hq]; exact g1, g2, ?_, g4.mono hy.sub, fun hm => hnl (hy.live r hlt hm)⟩
    rw [hy.keeps r hlt fun hm => hnl ?_]
    · exact g3
    · obtain ⟨j, b', z', e, hw, hρ⟩ := hm
      exact ⟨j, b', z', e, (by intro e'; subst e'; cases hw), hρ⟩
  · have hqt : q ≠ t := by intro e; subst e; omega
    have hqt' : q' ≠ t := by intro e; subst e; omega
    rw [old hq] at f
    rw [old hq'] at f'
    rw [other hq hqt] at hl
    rw [other hq' hqt'] at hl'
    exact I.apart q hq q' hq' hl hl' (by omega) (by omega) hqb hqb' r y y' f f'
  · have hqt : q ≠ t := by intro e; subst e; exact hq2 ((listed_set hi).2 (.inl rfl))
    rw [old hq]
    rw [other hq hqt] at hq2
    exact I.fresh q hq hq2
  · have := hy.next
    have := I.room
    omega

theorem Ran.atEff (R : Ran X P callK ops base F0 s1 F2 s2 tes hs2 es2) {w0 w : World} {ρ0 ρ : BMap} {s : St} {k : Nat} {h : St} {listed : Array Bool} {a : Act} (I : Inv D ops tes base F0 s w0 ρ0 hs2 ρ k h listed a w) (hc : Closed ops.toList listed)
    {t : TE} (ht : t ∈ tes) (hr : t.i ∈ Region.ready .any ops listed) (he : t.eff = true) (hlev : t.es.length = k) :
    t.cur.next = h.next ∧ (∀ id b, t.cur.get id = some b → (∃ q ∈ tes, q.blk = some b ∧ id = base + q.i ∧ q.es.length = k ∧ Listed listed q.i) ∨ h.get id = some b) ∧ Ext ρ0 s w0 ρ t.cur w := by
  obtain ⟨pre, post, e⟩ := List.append_of_mem ht
  have C := R.chain
  rw [e] at C
  obtain ⟨c1, _, c2⟩ := C.split
  have hsuf : t.hs <:+ hs2 := (R.chain.at ht).2.1
  obtain ⟨hnext, hcur⟩ := R.atEffect I c1 (fun q hq => by rw [e]; simp [hq]) hsuf hlev fun q hq hqe hql => by
    have hp := R.ok.ahead q (by rw [e]; simp [hq]) t ht hqe he (by omega)
    exact behind hc hr hp
  exact ⟨hnext, hcur, I.adopt hnext fun id b eb => (hcur id b eb).imp (fun ⟨q, g1, g2, g3, g4, g5⟩ => ⟨q, g1, g2, g3, by omega, g5⟩) fun e => e⟩

theorem Ran.effectStep (hcall : CallSound P callK) (R : Ran X P callK ops base F0 s1 F2 s2 tes hs2 es2) {w0 w : World} {ρ0 ρ : BMap} {s : St} {k : Nat} {h : St} {listed : Array Bool} {a : Act} (I : Inv D ops tes base F0 s w0 ρ0 hs2 ρ k h listed a w) (hc : Closed ops.toList listed)
    {t : TE} (ht : t ∈ tes) (hr : t.i ∈ Region.ready .any ops listed) (he : t.eff = true) (hX : ∀ e r, t.es = e :: r → prec (masks ops.toList []) e t.i = true ∨ Listed listed e) {Q : Exit → Act → World → Prop} {K : Act → World → Prop} {r : Option Nat} {n : Nat}
    (hk : ∀ ρ' a' w', Inv D ops tes base F0 s w0 ρ0 hs2 ρ' (k + 1) t.cur' (listed.setIfInBounds t.i true) a' w' → K a' w') : wpOpIn (Fc r) n P ops Q t.i K a w := by
  obtain ⟨o, ho, hnl, _⟩ := ready_spec hc.size hr
  have hi : t.i < listed.size := by rw [hc.size]; exact R.lt t ht
  have hoo : opAt ops.toList t.i = o := opAt_eq (by simpa using ho)
  obtain ⟨hok, _⟩ := R.chain.at ht
  obtain ⟨_, _, _, hq⟩ := hok.effect he
  have looks := fun x hx u hu => R.looks I hc ht hr (x := x) hx (u := u) hu
  have hev : EvR ρ (only (looksOf ops.toList o) t.F.ev) a := only_run fun x hx u hu => (looks x (by rw [hoo]; exact hx) u hu).1
  rw [hoo] at looks
  have hlev := R.effLevel I hc ht hr he hX
  obtain ⟨hnext, hcur, hx⟩ := R.atEff I hc ht hr he hlev
  unfold TE.effect at hq
  rw [hoo] at hq
  unfold wpOpIn
  rw [ho]
  dsimp only
  rcases hq with ⟨hw, hv, hcu⟩ | ⟨hw, hdo⟩
  · rw [if_neg (by rw [want_run hw looks]; simp)]
    refine ⟨fun _ _ => trivial, hk ρ _ w ?_⟩
    have := R.done I ht hi he hlev hnext hcur hx (ρ' := ρ) (w' := w) (by rw [hcu]; exact .refl hx.hr) (v' := undef) (by rw [hv]; exact .skip _)
    rwa [hoo] at this
  · rw [if_pos (want_run hw looks)]
    rw [← doV_only (ops := ops.toList)] at hdo
    refine doV_run hcall hdo hev hx.hr fun ρ' v' w' h1 h2 => ?_
    have := R.done I ht hi he hlev hnext hcur hx h1 h2
    rw [hoo] at this
    exact hk _ _ _ this

theorem Ran.finish (R : Ran X P callK ops base F0 s1 F2 s2 tes hs2 es2) {w0 w : World} {ρ0 ρ : BMap} {s : St} {k : Nat} {h : St} {listed : Array Bool} {a : Act} (I : Inv D ops tes base F0 s w0 ρ0 hs2 ρ k h listed a w)
    (hall : ∀ t ∈ tes, Listed listed t.i) : Ext ρ0 s w0 ρ s2 w ∧ FrR D ρ F2 a := by
  have hlen := R.chain.length
  simp at hlen
  obtain ⟨r, t1, t2⟩ := I.top
  have htop := t1.length_le
  simp at htop
  have hk : es2.length = k := by
    rcases Nat.lt_or_ge k es2.length with hlt | hge
    · obtain ⟨q, q1, q2, q3⟩ := R.chain.levels k (by simp) hlt
      have := (I.effs q q1 q2).1 (hall q q1)
      omega
    · omega
  obtain ⟨hnext, hcur⟩ := R.atEffect I R.chain (fun q hq => hq) (List.suffix_refl _) hk fun q hq _ _ => hall q hq
  refine ⟨I.adopt hnext fun id b eb => (hcur id b eb).imp (fun ⟨q, g1, g2, g3, g4, g5⟩ => ⟨q, g1, g2, g3, by omega, g5⟩) fun e => e, ?_⟩
  obtain ⟨hsz, hwf, hfr⟩ := R.chain.frame R.wf
  refine ⟨I.defers, I.size.trans hsz.symm, fun x u e => ?_, hwf⟩
  rcases hfr x u e with ⟨q, q1, q2, q3, q4⟩ | ⟨q1, q2⟩
  · exact I.temps x u (.inl ⟨q, q1, hall q q1, q2, q3, q4⟩)
  · exact I.temps x u (.inr ⟨fun q hq _ => q1 q hq, q2⟩)

theorem Ran.allListed (R : Ran X P callK ops base F0 s1 F2 s2 tes hs2 es2) {listed : Array Bool} (hc : Closed ops.toList listed) (h : Region.ready .any ops listed = []) : ∀ t ∈ tes, Listed listed t.i := by
  have key : ∀ (n : Nat) (pre post : List TE) (t : TE), pre.length = n → tes = pre ++ t :: post → Listed listed t.i := by
    intro n
    induction n using Nat.strongRecOn with
    | _ n ih =>
      intro pre post t hn e
      have ht : t ∈ tes := by rw [e]; simp
      have hb : ∀ d ∈ depsOf (opAt ops.toList t.i), Listed listed d := by
        intro d hd
        rcases (linear_spec R.lin).2.2 (pre.map (·.i)) t.i (post.map (·.i)) (by rw [e]; simp) d hd with h0 | h0
        · simp at h0
        · obtain ⟨q, q1, q2⟩ := List.mem_map.1 h0
          obtain ⟨p1, p2, e2⟩ := List.append_of_mem q1
          rw [← q2]
          exact ih p1.length (by rw [← hn, e2]; simp) p1 (p2 ++ t :: post) q rfl (by rw [e, e2]; simp)
      by_cases hl : Listed listed t.i
      · exact hl
      · have hlt := R.lt t ht
        have ho : ops[t.i]? = some ops.toList[t.i] := by simp at hlt ⊢
        have hoo : opAt ops.toList t.i = ops.toList[t.i] := opAt_eq (by simp)
        rw [hoo] at hb
        have := ready_of hc.size ho hl hb
        rw [h] at this
        simp at this
  intro t ht
  obtain ⟨pre, post, e⟩ := List.append_of_mem ht
  exact key _ pre post t rfl e


theorem storeA_set {s s' : St} {t : TypeId} {b o : Nat} {v : AV} (h : storeA P s t (.ptr (some (b, o))) v = some s') :
    ∃ blk blk', s.get b = some blk ∧ s' = s.set b blk' ∧ ∀ g : St, g.get b = some blk → storeA P g t (.ptr (some (b, o))) v = some (g.set b blk') := by
  have h : (ob v.cells fun new => ob (size? P t) fun n => cond (Nat.beq (llen new) n) (cond (allAtoms new) (putA s b o new) none) none) = some s' := h
  replace h := ob_some h; obtain ⟨new, h1, h⟩ := h
  replace h := ob_some h; obtain ⟨n, h2, h⟩ := h
  replace h := cond_some h; obtain ⟨h3, h⟩ := h
  replace h := cond_some h; obtain ⟨h4, h⟩ := h
  have hput := h
  unfold putA at h
  split at h
  · rename_i cs rw' ty hs
    replace h := cond_some h; obtain ⟨h5, h⟩ := h
    replace h := ob_some h; obtain ⟨cs', h6, h⟩ := h
    cases h
    refine ⟨_, .cells cs' true ty, hs, rfl, fun g hg => ?_⟩
    show (ob v.cells fun new => ob (size? P t) fun n => cond (Nat.beq (llen new) n) (cond (allAtoms new) (putA g b o new) none) none) = _
    have hp : putA g b o new = some (g.set b (.cells cs' true ty)) := by
      unfold putA
      rw [hg]
      show cond rw' (ob (lput cs o new) fun cs' => some (g.set b (.cells cs' true ty))) none = _
      rw [h5, h6]; rfl
    rw [h1, h2]
    show cond (Nat.beq (llen new) n) (cond (allAtoms new) (putA g b o new) none) none = _
    rw [h3, h4, hp]; rfl
  · cases h

theorem doV_store {o : Oper} {t : TypeId} {a v : Operand} (ho : o.op = .store t a v) (ev : Ev) (s : St) :
    doV P callK ev o s = ob (ev a) fun p => ob (ev v) fun u => ob (storeA P s t p u) fun s' => some (.undef, s') := by
  unfold doV kindOf
  rw [ho]
  show (ob (ob (ev a) fun a => ob (ev v) fun v => ob (storeA P s t a v) fun s => some ((none : Option AV), s)) fun r => some (r.1.getD .undef, r.2)) = _
  cases ev a with
  | none => rfl
  | some p =>
    show (ob (ob (ev v) fun v => ob (storeA P s t p v) fun s => some ((none : Option AV), s)) fun r => some (r.1.getD .undef, r.2)) = ob (ev v) _
    cases ev v with
    | none => rfl
    | some u =>
      show (ob (ob (storeA P s t p u) fun s => some ((none : Option AV), s)) fun r => some (r.1.getD .undef, r.2)) = ob (storeA P s t p u) _
      cases storeA P s t p u with
      | none => rfl
      | some s' => rfl

omit [Sym] in
theorem plainStore_spec {o : Oper} (h : plainStore o = true) : ∃ t a v, o.op = .store t a v ∧ o.guard = none ∧ o.dst = none := by
  unfold plainStore at h
  split at h
  · rename_i t a v h1 h2 h3
    exact ⟨t, a, v, h1, h2, h3⟩
  · cases h

theorem noMake_kind {o : Oper} (h : noMake o = true) {ev : Ev} {n : New} : kindOf P ev o ≠ .make (some n) := by
  unfold noMake at h
  intro hk
  unfold kindOf at hk
  split at h <;> rename_i ho <;> first | (cases h; done) | skip
  all_goals first
    | (rw [ho] at hk; cases hk; done)
    | skip
  rename_i c
  split at h
  · rename_i hcal
    rw [ho] at hk
    dsimp only at hk
    rw [hcal] at hk
    dsimp only at hk
    unfold builtinOf at hk
    split at hk <;> first | (cases hk; done) | simp_all
  · cases h

theorem Ext.sameGet {ρ ρ' : BMap} {s s' t' : St} {w w' : World} (h : Ext ρ s w ρ' s' w') (hg : ∀ i, t'.get i = s'.get i) (hn : t'.next = s'.next) : Ext ρ s w ρ' t' w' :=
  ⟨h.sub, ⟨fun i hi => h.hr.fresh i (by rw [← hn]; exact hi), fun i b e => h.hr.blk i b (by rw [← hg]; exact e), fun i j b c r z y e1 e2 => h.hr.inj i j b c r z y (by rw [← hg]; exact e1) (by rw [← hg]; exact e2), h.hr.below⟩,
    h.size, h.keeps, fun r hr ⟨i, b, z, e, k⟩ => h.mine r hr ⟨i, b, z, by rw [← hg]; exact e, k⟩, fun r hr ⟨i, b, z, e, k⟩ => h.live r hr ⟨i, b, z, by rw [← hg]; exact e, k⟩, by rw [hn]; exact h.next, h.old, h.os, h.tape, h.output⟩

theorem Chain.idle {l : List TE} {F F' : Fr} {s s' : St} {hs hs' : List St} {es es' : List Nat} (h : Chain P callK ops base l F s hs es F' s' hs' es') (hq : ∀ q ∈ l, q.eff = false ∧ noMake (opAt ops.toList q.i) = true) :
    s' = s ∧ hs' = hs ∧ es' = es := by
  induction h with
  | nil => exact ⟨rfl, rfl, rfl⟩
  | cons h c ih =>
    rename_i t l F s hs es
    obtain ⟨q1, q2⟩ := hq t (by simp)
    obtain ⟨g1, g2, g3⟩ := h.quiet q1
    obtain ⟨i1, i2, i3⟩ := ih fun q hq' => hq q (by simp [hq'])
    refine ⟨?_, i2.trans g1, i3.trans g2⟩
    rw [i1]
    rcases g3 with ⟨_, _, hc, _⟩ | ⟨_, _, hc, _⟩ | ⟨_, _, hc, _⟩ | ⟨_, n, hk, _⟩
    · exact hc
    · exact hc
    · exact hc
    · exact absurd hk (noMake_kind q2)

structure Pair (ops : Array Oper) (F2 : Fr) (x y : Nat) : Prop where
  xs : plainStore (opAt ops.toList x) = true
  ys : plainStore (opAt ops.toList y) = true
  all : ∀ i, i < ops.toList.length → i = x ∨ i = y ∨ prec (masks ops.toList []) i x = true
  quiet : ∀ i, i < ops.toList.length → i = x ∨ i = y ∨ prec (masks ops.toList []) i y = true ∨ noMake (opAt ops.toList i) = true
  looks : ∀ j, j < ops.toList.length → ∀ t ∈ looksOf ops.toList (opAt ops.toList y), (opAt ops.toList j).dst = some t → prec (masks ops.toList []) j y = true
  aims : aimsApart F2 (opAt ops.toList x) (opAt ops.toList y) = true

theorem pairOk_spec {L : List Oper} {B : List Nat} {n x y : Nat} (h : pairOk L B n x y = true) : plainStore (opAt L x) = true ∧ plainStore (opAt L y) = true ∧
    (∀ i, i < n → i = x ∨ i = y ∨ prec B i x = true) ∧ (∀ i, i < n → i = x ∨ i = y ∨ prec B i y = true ∨ noMake (opAt L i) = true) ∧
    ∀ j, j < n → ∀ t ∈ looksOf L (opAt L y), (opAt L j).dst = some t → prec B j y = true := by
  have two : ∀ {a b : Bool}, cond a b false = true → a = true ∧ b = true := by
    intro a b h
    cases a with
    | true => exact ⟨rfl, h⟩
    | false => cases h
  unfold pairOk at h
  obtain ⟨h1, h⟩ := two h
  obtain ⟨h2, h⟩ := two h
  obtain ⟨h3, h⟩ := two h
  obtain ⟨h4, h5⟩ := two h
  refine ⟨h1, h2, fun i hi => ?_, fun i hi => ?_, fun j hj t ht hd => ?_⟩
  · have := lall_iff.1 h3 i (by rw [upto_eq]; simpa using hi)
    simp only [Bool.or_eq_true] at this
    rcases this with (e | e) | e
    · exact .inl (Nat.eq_of_beq_eq_true e)
    · exact .inr (.inl (Nat.eq_of_beq_eq_true e))
    · exact .inr (.inr e)
  · have := lall_iff.1 h4 i (by rw [upto_eq]; simpa using hi)
    simp only [Bool.or_eq_true] at this
    rcases this with ((e | e) | e) | e
    · exact .inl (Nat.eq_of_beq_eq_true e)
    · exact .inr (.inl (Nat.eq_of_beq_eq_true e))
    · exact .inr (.inr (.inl e))
    · exact .inr (.inr (.inr e))
  · have := lall_iff.1 (lall_iff.1 h5 j (by rw [upto_eq]; simpa using hj)) t ht
    have hd' : dstIs (opAt L j) t = true := by unfold dstIs; rw [hd]; exact beq_yes rfl
    rw [hd'] at this
    exact this

omit [Sym] in
theorem apartB_spec {p q : AV} (h : apartB p q = true) : ∃ b o c o', p = .ptr (some (b, o)) ∧ q = .ptr (some (c, o')) ∧ b ≠ c := by
  unfold apartB at h
  split at h
  · refine ⟨_, _, _, _, rfl, rfl, fun e => ?_⟩
    rw [beq_yes e] at h
    cases h
  · cases h

theorem wantA_none {F : Fr} {o : Oper} (h : o.guard = none) : wantA ops F o.guard = some true := by
  rw [h]; rfl

omit [Sym] in
theorem wanted_none {o : Oper} (h : o.guard = none) (f : Nat → Option Bool) : Region.wanted o f = true := by
  unfold Region.wanted; rw [h]

omit [Sym] in
theorem Ran.twice (R : Ran X P callK ops base F0 s1 F2 s2 tes hs2 es2) {l m : List TE} (e : tes = l ++ m) {q : TE} (h1 : q ∈ l) (h2 : q ∈ m) : False := by
  have hn := (linear_spec R.lin).1
  rw [e, List.map_append, List.nodup_append] at hn
  exact hn.2.2 _ (List.mem_map.2 ⟨q, h1, rfl⟩) q.i (List.mem_map.2 ⟨q, h2, rfl⟩) rfl

theorem Ran.cross (hcall : CallSound P callK) {x y : Nat} (R : Ran (some (x, y)) P callK ops base F0 s1 F2 s2 tes hs2 es2) (Pr : Pair ops F2 x y) {w0 w : World} {ρ0 ρ : BMap} {s : St} {k : Nat} {h : St} {listed : Array Bool} {a : Act}
    (I : Inv D ops tes base F0 s w0 ρ0 hs2 ρ k h listed a w) (hc : Closed ops.toList listed)
    {t : TE} (ht : t ∈ tes) (hi : t.i = x) (hr : t.i ∈ Region.ready .any ops listed) (he : t.eff = true) {r0 : List Nat} (hes : t.es = y :: r0) (hny : ¬ Listed listed y)
    {Q : Exit → Act → World → Prop} {r : Option Nat} {n : Nat}
    (hk : ∀ ρ' a' w', Ext ρ0 s w0 ρ' s2 w' → FrR D ρ' F2 a' → Q .normal a' w') {fuel : Nat} (hfuel : ∀ j, j < ops.toList.length → ¬ Listed (listed.setIfInBounds t.i true) j → 0 < fuel) :
    wpOpIn (Fc r) n P ops Q t.i (wpAnyIn (Fc r) n P .any ops Q fuel (listed.setIfInBounds t.i true)) a w := by
  obtain ⟨ox, hox, hnx, _⟩ := ready_spec hc.size hr
  have hoo : opAt ops.toList t.i = ox := opAt_eq (by simpa using hox)
  have hsz : t.i < listed.size := by rw [hc.size]; exact R.lt t ht
  -- the other one
  obtain ⟨_, _, a2, _, _, _⟩ := R.chain.at ht
  obtain ⟨u, u1, u2, u3⟩ := R.chain.levels r0.length (by simp) (by have := a2.length_le; rw [hes] at this; simp at this; omega)
  obtain ⟨b0, _, _, b3, b4, _⟩ := R.chain.at u1
  have hu := (b0.effect u2).2.1
  have hue : u.es' = t.es := suffix_eq b4 a2 (by rw [hu, hes]; simp [u3])
  rw [hu, hes] at hue
  obtain ⟨huy, hur⟩ := List.cons.inj hue
  subst hi
  subst huy
  have hne : t.i ≠ u.i := fun e => by
    have := R.same ht u1 e
    subst this
    rw [hes] at hur
    have := congrArg List.length hur
    simp at this
  -- how the plan falls apart
  obtain ⟨pre, post1, e1⟩ := List.append_of_mem u1
  have htp : t ∈ post1 := by
    rw [e1] at ht
    rcases List.mem_append.1 ht with h1 | h1
    · exfalso
      have C := R.chain
      rw [e1] at C
      obtain ⟨c1, _, _⟩ := C.split
      obtain ⟨g0, _, _, _, g4, _⟩ := c1.at h1
      have := g4.length_le
      rw [(g0.effect he).2.1, hes, hur] at this
      simp at this; omega
    · rcases List.mem_cons.1 h1 with h1 | h1
      · exact absurd (by rw [h1]) hne
      · exact h1
  obtain ⟨mid, post, e2⟩ := List.append_of_mem htp
  subst e2
  have C := R.chain
  rw [e1] at C
  obtain ⟨c1, uok, c2⟩ := C.split
  obtain ⟨m1, tok, m2⟩ := c2.split
  have e3 : tes = (pre ++ u :: mid) ++ t :: post := by rw [e1]; simp
  have listedOf : ∀ q ∈ tes, q.i ≠ t.i → q.i ≠ u.i → Listed listed q.i := fun q hq n1 n2 => by
    rcases Pr.all q.i (R.lt q hq) with e | e | e
    · exact absurd e n1
    · exact absurd e n2
    · exact behind hc hr e
  have hpost : post = [] := by
    cases post with
    | nil => rfl
    | cons q post' =>
      exfalso
      have hq : q ∈ tes := by rw [e1]; simp
      have e4 : tes = (pre ++ u :: mid ++ [t]) ++ q :: post' := by rw [e1]; simp
      have n1 : q.i ≠ t.i := fun e => R.twice e4 (q := t) (by simp) (by rw [← R.same hq ht e]; simp)
      have n2 : q.i ≠ u.i := fun e => R.twice e4 (q := u) (by simp) (by rw [← R.same hq u1 e]; simp)
      rcases Pr.all q.i (R.lt q hq) with e | e | e
      · exact n1 e
      · exact n2 e
      · have := R.before e3 hq e
        exact R.twice e4 (q := q) (by simp at this ⊢; rcases this with h | h | h <;> simp [h]) (by simp)
  subst hpost
  have hmid : ∀ q ∈ mid, q.eff = false ∧ noMake (opAt ops.toList q.i) = true := by
    intro q hq
    obtain ⟨p1, p2, e4⟩ := List.append_of_mem hq
    have hqt : q ∈ tes := by rw [e1]; simp [hq]
    have e5 : tes = (pre ++ u :: p1) ++ q :: (p2 ++ [t]) := by rw [e1, e4]; simp
    refine ⟨?_, ?_⟩
    · cases hqe : q.eff with
      | false => rfl
      | true =>
        exfalso
        have m1' := m1
        rw [e4] at m1'
        obtain ⟨g1, g2, g3⟩ := m1'.split
        have s1' := g1.suffix.2.length_le
        have s2' := g3.suffix.2.length_le
        rw [(g2.effect hqe).2.1] at s2'
        rw [hu, hes, hur] at *
        simp at s1' s2'; omega
    · rcases Pr.quiet q.i (R.lt q hqt) with e | e | e | e
      · have hqq := R.same hqt ht e
        exact (R.twice (l := pre ++ u :: mid) (m := [t]) e3 (q := t) (by rw [← hqq]; simp [hq]) (by simp)).elim
      · exact (R.twice e5 (q := u) (by simp) (by rw [← R.same hqt u1 e]; simp)).elim
      · have := R.before (t := u) e1 hqt e
        exact (R.twice e5 (q := q) (by simp [this]) (by simp)).elim
      · exact e
  obtain ⟨i1, _, _⟩ := m1.idle hmid
  -- what the two do
  obtain ⟨tx, ax, vx, x1, x2, x3⟩ := plainStore_spec Pr.xs
  obtain ⟨ty, ay, vy, y1, y2, y3⟩ := plainStore_spec Pr.ys
  have hdx : doV P callK t.F.ev (opAt ops.toList t.i) t.cur = some (t.v, t.cur') := by
    rcases (tok.effect he).2.2.2 with ⟨g, _⟩ | ⟨_, g⟩
    · rw [wantA_none x2] at g; cases g
    · exact g
  have hdy : doV P callK u.F.ev (opAt ops.toList u.i) u.cur = some (u.v, u.cur') := by
    rcases (uok.effect u2).2.2.2 with ⟨g, _⟩ | ⟨_, g⟩
    · rw [wantA_none y2] at g; cases g
    · exact g
  rw [doV_store x1] at hdx
  rw [doV_store y1] at hdy
  replace hdx := ob_some hdx; obtain ⟨px, hpx, hdx⟩ := hdx
  replace hdx := ob_some hdx; obtain ⟨ux, hux, hdx⟩ := hdx
  replace hdx := ob_some hdx; obtain ⟨sx, hsx, hdx⟩ := hdx
  replace hdy := ob_some hdy; obtain ⟨py, hpy, hdy⟩ := hdy
  replace hdy := ob_some hdy; obtain ⟨uy, huy', hdy⟩ := hdy
  replace hdy := ob_some hdy; obtain ⟨sy, hsy, hdy⟩ := hdy
  have ex : sx = t.cur' := (Prod.mk.inj (Option.some.inj hdx)).2
  have ey : sy = u.cur' := (Prod.mk.inj (Option.some.inj hdy)).2
  subst ex
  subst ey
  -- at two blocks
  have eF : F2 = t.F ∧ s2 = t.cur' := by
    have g := tok.put
    rw [x3] at g
    cases m2
    exact ⟨g, rfl⟩
  obtain ⟨f1, f2, f3⟩ := c1.frame R.wf
  have gy : u.F' = u.F := by have g := uok.put; rw [y3] at g; exact g
  have hay : ∀ q, F2.ev ay = some q → u.F.ev ay = some q := by
    intro q hq
    cases ay with
    | tmp j =>
      have hq : F2.get j = some q := hq
      obtain ⟨_, _, k3⟩ := c2.frame (by rw [gy]; exact f2)
      rcases k3 j q hq with ⟨q', q1, q2, _, _⟩ | ⟨_, q2⟩
      · exfalso
        have hq' : q' ∈ tes := by rw [e1]; exact List.mem_append.2 (.inr (List.mem_cons_of_mem _ q1))
        have hj : j ∈ looksOf ops.toList (opAt ops.toList u.i) := by
          have e : looksOf ops.toList (opAt ops.toList u.i) = lapp (tmpsOf (opAt ops.toList u.i).op.operands.toList) (match (opAt ops.toList u.i).guard with
            | some (g, _) => match (opAt ops.toList g).dst with
              | some d => [d]
              | none => []
            | none => []) := rfl
          rw [e, lapp_eq]
          refine List.mem_append.2 (.inl (mem_tmpsOf ?_))
          rw [y1]; simp [Op.operands]
        have := R.before e1 hq' (Pr.looks q'.i (R.lt q' hq') j hj q2)
        exact R.twice e1 this (List.mem_cons_of_mem _ q1)
      · rw [gy] at q2; exact q2
    | const c => exact hq
    | func f => exact hq
    | global g => exact hq
  obtain ⟨bx, ox', bY, oy', hpx', hpy', hbb⟩ : ∃ bx ox' bY oy', px = .ptr (some (bx, ox')) ∧ py = .ptr (some (bY, oy')) ∧ bx ≠ bY := by
    have g := Pr.aims
    unfold aimsApart at g
    rw [x1, y1] at g
    have g : (Option.rec false (fun p => Option.rec false (fun q => apartB p q) (F2.ev ay)) (F2.ev ax) : Bool) = true := g
    rw [eF.1, hpx] at g
    rw [← eF.1] at g
    have g : (Option.rec false (fun q => apartB px q) (F2.ev ay) : Bool) = true := g
    cases hq : F2.ev ay with
    | none => rw [hq] at g; cases g
    | some q =>
      rw [hq] at g
      have g : apartB px q = true := g
      have := hay q hq
      rw [hpy] at this
      cases this
      exact apartB_spec g
  subst hpx'
  subst hpy'
  obtain ⟨blky, newy, hgy, hsy', hally⟩ := storeA_set hsy
  obtain ⟨blkx, newx, hgx, hsx', hallx⟩ := storeA_set hsx
  have hgx0 : u.cur.get bx = some blkx := by
    rw [i1, hsy'] at hgx
    have : (u.cur.heap.set newy bY).get bx = some blkx := hgx
    rw [Tr.get_set_other _ _ hbb] at this
    exact this
  have h1x := hallx u.cur hgx0
  have hg1y : (u.cur.set bx newx).get bY = some blky := by
    show (u.cur.heap.set newx bx).get bY = some blky
    rw [Tr.get_set_other _ _ (Ne.symm hbb)]
    exact hgy
  have h2y := hally (u.cur.set bx newx) hg1y
  -- the other one is ready, too
  have hul := R.lt u u1
  have hoy : ops[u.i]? = some ops.toList[u.i] := by simp at hul ⊢
  have hooy : opAt ops.toList u.i = ops.toList[u.i] := opAt_eq (by simp)
  have hdeps : ∀ d ∈ depsOf (opAt ops.toList u.i), Listed listed d := by
    intro d hd
    rcases (linear_spec R.lin).2.2 (pre.map (·.i)) u.i ((mid ++ [t]).map (·.i)) (by rw [e1]; simp) d hd with h0 | h0
    · simp at h0
    · obtain ⟨q, q1, q2⟩ := List.mem_map.1 h0
      have hq : q ∈ tes := by rw [e1]; simp [q1]
      rw [← q2]
      refine listedOf q hq (fun e => ?_) fun e => ?_
      · exact R.twice e1 (q := t) (by rw [← R.same hq ht e]; exact q1) (by simp)
      · exact R.twice e1 (q := u) (by rw [← R.same hq u1 e]; exact q1) (by simp)
  have hry : u.i ∈ Region.ready .any ops listed := ready_of hc.size hoy hny (by rw [← hooy]; exact hdeps)
  have hlev := R.effLevel I hc u1 hry u2 fun e r' hre => (R.ok.chain u u1 u2 e r' hre).elim .inl fun hX => absurd (congrArg Prod.fst (Option.some.inj hX)) hne
  obtain ⟨_, _, hx⟩ := R.atEff I hc u1 hry u2 hlev
  -- the first one
  unfold wpOpIn
  rw [hox]
  dsimp only
  rw [hoo] at x1 x2 x3
  rw [if_pos (wanted_none x2 _)]
  have hev : EvR ρ (only (looksOf ops.toList ox) t.F.ev) a := only_run fun j hj v hv => (R.looks I hc ht hr (x := j) (by rw [hoo]; exact hj) (u := v) hv).1
  have hdo : doV P callK (only (looksOf ops.toList ox) t.F.ev) ox u.cur = some (.undef, u.cur.set bx newx) := by
    rw [doV_only, doV_store x1, hpx, hux]
    show (ob (storeA P u.cur tx (.ptr (some (bx, ox'))) ux) fun s' => some ((.undef : AV), s')) = _
    rw [h1x]
  refine doV_run hcall hdo hev hx.hr fun ρ1 v1 w1 k1 _ => ?_
  have hput : a.put ox.dst v1 = a := by rw [x3]; rfl
  rw [hput]
  -- the other one is all that is left
  have hc2 := hc.set hr
  have hny2 : ¬ Listed (listed.setIfInBounds t.i true) u.i := fun hl => by
    rcases (listed_set hsz).1 hl with e | e
    · exact hne e.symm
    · exact hny e
  have hry2 : u.i ∈ Region.ready .any ops (listed.setIfInBounds t.i true) := ready_of hc2.size hoy hny2 fun d hd => (listed_set hsz).2 (.inr (hdeps d (by rw [hooy]; exact hd)))
  have hrest : ∀ i, i < ops.toList.length → i ≠ u.i → Listed (listed.setIfInBounds t.i true) i := fun i hlt n2 => by
    by_cases n1 : i = t.i
    · exact (listed_set hsz).2 (.inl n1)
    · obtain ⟨q, q1, q2⟩ := R.all i hlt
      rw [← q2]
      exact (listed_set hsz).2 (.inr (listedOf q q1 (by rw [q2]; exact n1) (by rw [q2]; exact n2)))
  have hf0 := hfuel u.i hul hny2
  obtain ⟨f, rfl⟩ : ∃ f, fuel = f + 1 := ⟨fuel - 1, by omega⟩
  refine ⟨fun hnil => absurd hry2 (by rw [hnil]; simp), fun i hi => ?_⟩
  have hiu : i = u.i := by
    obtain ⟨o, ho, hnl, _⟩ := ready_spec hc2.size hi
    exact Classical.byContradiction fun n2 => hnl (hrest i (by have := (Array.getElem?_eq_some_iff.1 ho).1; simpa using this) n2)
  subst hiu
  unfold wpOpIn
  rw [hoy]
  dsimp only
  rw [hooy] at y1 y2 y3
  rw [if_pos (wanted_none y2 _)]
  have hevy : EvR ρ1 (only (looksOf ops.toList ops.toList[u.i]) u.F.ev) a := only_run fun j hj v hv => ((R.looks I hc u1 hry (x := j) (by rw [hooy]; exact hj) (u := v) hv).1).mono k1.sub
  have hdo2 : doV P callK (only (looksOf ops.toList ops.toList[u.i]) u.F.ev) ops.toList[u.i] (u.cur.set bx newx) = some (.undef, (u.cur.set bx newx).set bY newy) := by
    rw [doV_only, doV_store y1, hpy, huy']
    show (ob (storeA P (u.cur.set bx newx) ty (.ptr (some (bY, oy'))) uy) fun s' => some ((.undef : AV), s')) = _
    rw [h2y]
  refine doV_run hcall hdo2 hevy k1.hr fun ρ2 v2 w2 k2 _ => ?_
  have hput2 : a.put ops.toList[u.i].dst v2 = a := by rw [y3]; rfl
  rw [hput2]
  have hc3 := hc2.set hry2
  have hsz2 : u.i < (listed.setIfInBounds t.i true).size := by rw [hc2.size]; exact hul
  have hnone : Region.ready .any ops ((listed.setIfInBounds t.i true).setIfInBounds u.i true) = [] := by
    refine List.eq_nil_iff_forall_not_mem.2 fun i hi => ?_
    obtain ⟨o, ho, hnl, _⟩ := ready_spec hc3.size hi
    refine hnl ((listed_set hsz2).2 ?_)
    by_cases n2 : i = u.i
    · exact .inl n2
    · exact .inr (hrest i (by have := (Array.getElem?_eq_some_iff.1 ho).1; simpa using this) n2)
  have hsub : Sub ρ ρ2 := k1.sub.trans k2.sub
  have hend : Q .normal a w2 := by
    refine hk ρ2 a w2 ?_ ?_
    · refine (hx.trans (k1.trans k2)).sameGet (fun i => ?_) ?_
      · rw [eF.2, hsx', i1, hsy']
        show ((u.cur.heap.set newy bY).set newx bx).get i = ((u.cur.heap.set newx bx).set newy bY).get i
        by_cases n1 : i = bx
        · subst n1
          rw [Tr.get_set_same, Tr.get_set_other _ _ hbb, Tr.get_set_same]
        · rw [Tr.get_set_other _ _ n1]
          by_cases n2 : i = bY
          · subst n2
            rw [Tr.get_set_same, Tr.get_set_same]
          · rw [Tr.get_set_other _ _ n2, Tr.get_set_other _ _ n2, Tr.get_set_other _ _ n1]
      · rw [eF.2, hsx', i1, hsy']; rfl
    · obtain ⟨hsz', hwf, hfr⟩ := R.chain.frame R.wf
      refine ⟨I.defers, I.size.trans hsz'.symm, fun j v e => ?_, hwf⟩
      rcases hfr j v e with ⟨q, q1, q2, q3, q4⟩ | ⟨q1, q2⟩
      · refine (I.temps j v (.inl ⟨q, q1, listedOf q q1 (fun e => ?_) (fun e => ?_), q2, q3, q4⟩)).mono hsub
        · rw [e, hoo, x3] at q2; cases q2
        · rw [e, hooy, y3] at q2; cases q2
      · exact (I.temps j v (.inr ⟨fun q hq _ => q1 q hq, q2⟩)).mono hsub
  cases f with
  | zero => exact ⟨hnone, hend⟩
  | succ f => exact ⟨fun _ => hend, fun i hi => by rw [hnone] at hi; simp at hi⟩

theorem Ran.go (hcall : CallSound P callK) (R : Ran X P callK ops base F0 s1 F2 s2 tes hs2 es2) {w0 : World} {ρ0 : BMap} {s : St} (hs : s.next ≤ base) (hP : ∀ x y, X = some (x, y) → Pair ops F2 x y) {Q : Exit → Act → World → Prop} {r : Option Nat} {n : Nat}
    (hk : ∀ ρ' a' w', Ext ρ0 s w0 ρ' s2 w' → FrR D ρ' F2 a' → Q .normal a' w') : ∀ (fuel : Nat) (listed : Array Bool) (l : List Nat) (ρ : BMap) (k : Nat) (h : St) (a : Act) (w : World),
    l.length ≤ fuel → (∀ i, i < ops.toList.length → ¬ Listed listed i → i ∈ l) → Closed ops.toList listed → Inv D ops tes base F0 s w0 ρ0 hs2 ρ k h listed a w → wpAnyIn (Fc r) n P .any ops Q fuel listed a w := by
  intro fuel
  induction fuel with
  | zero =>
    intro listed l ρ k h a w hl hm hc I
    have hnil : l = [] := by apply List.eq_nil_of_length_eq_zero; omega
    subst hnil
    have hall : ∀ t ∈ tes, Listed listed t.i := fun t ht => Classical.byContradiction fun hn => by simpa using hm t.i (R.lt t ht) hn
    refine ⟨?_, ?_⟩
    · cases hr : Region.ready .any ops listed with
      | nil => rfl
      | cons i rest =>
        obtain ⟨o, ho, hnl, _⟩ := ready_spec hc.size (i := i) (by rw [hr]; simp)
        have := hm i (by have := (Array.getElem?_eq_some_iff.1 ho).1; simpa using this) hnl
        simp at this
    · obtain ⟨h1, h2⟩ := R.finish I hall
      exact hk _ _ _ h1 h2
  | succ fuel ih =>
    intro listed l ρ k h a w hl hm hc I
    refine ⟨fun hr => ?_, fun i hi => ?_⟩
    · obtain ⟨h1, h2⟩ := R.finish I (R.allListed hc hr)
      exact hk _ _ _ h1 h2
    · obtain ⟨o, ho, hnl, _⟩ := ready_spec hc.size hi
      have hlt : i < ops.toList.length := by have := (Array.getElem?_eq_some_iff.1 ho).1; simpa using this
      obtain ⟨t, ht, rfl⟩ := R.all i hlt
      have hmem := hm t.i hlt hnl
      have hl2 : (l.erase t.i).length ≤ fuel := by rw [List.length_erase_of_mem hmem]; omega
      have hsz : t.i < listed.size := by rw [hc.size]; exact hlt
      have hm2 : ∀ j, j < ops.toList.length → ¬ Listed (listed.setIfInBounds t.i true) j → j ∈ l.erase t.i := by
        intro j hj hn
        rw [listed_set hsz] at hn
        have h1 : j ≠ t.i := fun e => hn (.inl e)
        exact (List.mem_erase_of_ne h1).2 (hm j hj fun e => hn (.inr e))
      have hc2 := hc.set hi
      cases he : t.eff with
      | false => exact R.quietStep I hc ht hi he hs fun ρ' a' w' I' => ih _ _ _ _ _ _ _ hl2 hm2 hc2 I'
      | true =>
        by_cases hX : ∀ e r, t.es = e :: r → prec (masks ops.toList []) e t.i = true ∨ Listed listed e
        · exact R.effectStep hcall I hc ht hi he hX fun ρ' a' w' I' => ih _ _ _ _ _ _ _ hl2 hm2 hc2 I'
        · obtain ⟨e, r', h1, h2⟩ : ∃ e r', t.es = e :: r' ∧ ¬ (prec (masks ops.toList []) e t.i = true ∨ Listed listed e) :=
            Classical.byContradiction fun hn => hX fun e r' h1 => Classical.byContradiction fun h2 => hn ⟨e, r', h1, h2⟩
          have hXe : X = some (t.i, e) := (R.ok.chain t ht he e r' h1).resolve_left fun hp => h2 (.inl hp)
          subst hXe
          exact R.cross hcall (hP _ _ rfl) I hc ht rfl hi he h1 (fun hl' => h2 (.inr hl')) hk fun j hj hn => by
            have := List.length_pos_of_mem (hm2 j hj hn)
            omega

omit [Sym] in
theorem cond5 {a b : Bool} (h : cond a b false = true) : a = true ∧ b = true := by
  cases a with
  | true => exact ⟨rfl, h⟩
  | false => cases h

def DrawSound (P : Program) (callK : CallK) : Prop :=
  ∀ {id : Nat} {ops : Array Oper} {Q : Exit → Act → World → Prop} {D : List Deferred} {ρ : BMap} {F F' : Fr} {s s' : St} {a : Act} {w : World} {r : Option Nat} {n : Nat},
    drawA P callK ops F s = some (F', s') → FrR D ρ F a → HR ρ s w → (∀ ρ' a' w', Ext ρ s w ρ' s' w' → FrR D ρ' F' a' → Q .normal a' w') → (Code.region id ops true).wpIn (Fc r) n P Q a w

theorem plan_sound {P : Program} (hm : P.follows .mixedOrders = true) (callK : CallK) (hcall : CallSound P callK) {id : Nat} {ops : Array Oper} {X : Option (Nat × Nat)} {p : List Seg} (hok : planOkG ops.toList X p = true)
    {Q : Exit → Act → World → Prop} {D : List Deferred} {ρ : BMap} {F F' : Fr} {s s' : St} {a : Act} {w : World} {r : Option Nat} {n : Nat}
    (h : segsA P callK ops s.next p [⟨s.heap, Nat.add s.next (llen ops.toList)⟩] F ⟨s.heap, Nat.add s.next (llen ops.toList)⟩ = some (F', s')) (hP : ∀ x y, X = some (x, y) → Pair ops F' x y)
    (hF : FrR D ρ F a) (hr : HR ρ s w) (hk : ∀ ρ' a' w', Ext ρ s w ρ' s' w' → FrR D ρ' F' a' → Q .normal a' w') : (Code.region id ops true).wpIn (Fc r) n P Q a w := by
  unfold planOkG at hok
  obtain ⟨k1, hok⟩ := cond5 hok
  obtain ⟨k2, hok⟩ := cond5 hok
  obtain ⟨k3, hok⟩ := cond5 hok
  obtain ⟨k4, hok⟩ := cond5 hok
  obtain ⟨k5, hok⟩ := cond5 (a := lastOk p) hok
  have k6 := hok
  have hn : Nat.add s.next (llen ops.toList) = s.next + ops.toList.length := by rw [llen_eq]; rfl
  rw [hn] at h
  rw [llen_eq] at k2 k3 k6
  obtain ⟨tes, hs2, es2, c, hord, hst⟩ := segsA_chain (base := s.next) (es := []) h k4 k5
  have R : Ran X P callK ops s.next F ⟨s.heap, s.next + ops.toList.length⟩ F' s' tes hs2 es2 := by
    refine ⟨c, hst, by rw [hord]; exact k1, fun i hi => ?_, fun t ht => ?_, k6, hF.lt, rfl⟩
    · have h1 := lall_iff.1 k2 i (by rw [upto_eq]; simpa using hi)
      have h2 := mem_iff.1 h1
      rw [← hord] at h2
      obtain ⟨t, t1, t2⟩ := List.mem_map.1 h2
      exact ⟨t, t1, t2⟩
    · have h1 := lall_iff.1 k3 t.i (by rw [← hord]; exact List.mem_map.2 ⟨t, ht, rfl⟩)
      rwa [Nat.blt_eq] at h1
  have hnone : ∀ i, ¬ Listed (Array.replicate ops.size false) i := by
    intro i hl
    unfold Listed at hl
    simp only [Array.getD_eq_getD_getElem?, Array.getElem?_replicate] at hl
    split at hl <;> simp at hl
  refine wpIn_region_any hm ?_
  refine R.go hcall (Nat.le_refl _) hP (w0 := { w with drawn := w.drawn + 1 }) (ρ0 := ρ) (fun ρ' a' w' h1 h2 => hk ρ' a' w' ?_ h2) ops.size _ (List.range ops.toList.length) ρ 0 ⟨s.heap, s.next + ops.toList.length⟩ a _ (by simp) (fun i hi _ => by simpa using hi) ⟨by simp, fun i o d hl => absurd hl (hnone i)⟩ ?_
  · exact ⟨h1.sub, h1.hr, h1.size, h1.keeps, h1.mine, h1.live, h1.next, h1.old, h1.os, h1.tape, h1.output⟩
  · have hr' : HR ρ ⟨s.heap, s.next + ops.toList.length⟩ { w with drawn := w.drawn + 1 } := ⟨fun i hi => hr.fresh i (by have : s.next + ops.toList.length ≤ i := hi; omega), hr.blk, hr.inj, hr.below⟩
    refine ⟨⟨.refl _, hr', Nat.le_refl _, fun _ _ _ => rfl, fun _ _ h => h, fun _ _ h => h, Nat.le_add_right _ _, fun _ _ => rfl, rfl, rfl, rfl⟩, ⟨[], c.suffix.1, rfl⟩, hF.defers, hF.size, fun x u hx => ?_, fun q hq hqe => ⟨fun hl => absurd hl (hnone _), fun hl => by omega⟩, fun q hq hl => absurd hl (hnone _), fun q hq q' hq' hl => absurd hl (hnone _), fun q hq _ => hr.fresh _ (by omega), Nat.le_refl _⟩
    rcases hx with ⟨q, _, q2, _⟩ | ⟨_, q2⟩
    · exact absurd q2 (hnone _)
    · exact hF.get x u q2

theorem draw_sound {P : Program} (hm : P.follows .mixedOrders = true) (callK : CallK) (hcall : CallSound P callK) : DrawSound P callK := by
  intro id ops Q D ρ F F' s s' a w r n h hF hr hk
  unfold drawA at h
  cases hok : planOk ops.toList with
  | true =>
    rw [hok] at h
    exact plan_sound hm callK hcall (X := none) hok h (fun x y e => by cases e) hF hr hk
  | false =>
    rw [hok] at h
    have h : (Option.rec none (fun p => drawA2 P callK ops F s p.1 p.2) (pairOf (effsOf ops.toList)) : Option (Fr × St)) = some (F', s') := h
    cases hp : pairOf (effsOf ops.toList) with
    | none => rw [hp] at h; cases h
    | some p =>
      obtain ⟨x, y⟩ := p
      rw [hp] at h
      have h : drawA2 P callK ops F s x y = some (F', s') := h
      unfold drawA2 at h
      replace h := cond_some h; obtain ⟨h1, h⟩ := h
      replace h := cond_some h; obtain ⟨h2, h⟩ := h
      replace h := ob_some h; obtain ⟨⟨F1, s1⟩, h3, h⟩ := h
      replace h := cond_some h; obtain ⟨h4, h⟩ := h
      cases h
      refine plan_sound hm callK hcall (X := some (x, y)) h1 h3 (fun x' y' e => ?_) hF hr hk
      cases e
      obtain ⟨g1, g2, g3, g4, g5⟩ := pairOk_spec h2
      rw [llen_eq] at g3 g4 g5
      exact ⟨g1, g2, g3, g4, g5, h4⟩

end Go.Proofs.Bx

namespace Go.Proofs.Bx
open Go
variable [Sym]

abbrev KF := Program → Ev → Oper → K

noncomputable def kNo0 : KF := fun _ _ _ => .no
noncomputable def kMove (x : Operand) : KF := fun _ ev _ => .val (ev x)
noncomputable def kPick (c x y : Operand) : KF := fun _ ev _ => .val (pickA ev c x y)
noncomputable def kAlloc (t : TypeId) : KF := fun P _ _ => .make (allocA P t)
noncomputable def kBox (_ : TypeId) (x : Operand) : KF := fun _ ev _ => .make (ob (ev x) boxA)
noncomputable def kBuild (t : TypeId) (parts : Array (Nat × Operand)) : KF := fun P ev _ => .val (ob (evParts ev parts.toList) (buildA P t))
noncomputable def kBuildSlice (t : TypeId) (n : Nat) (parts : Array (Nat × Operand)) : KF := fun P ev _ => .make (ob (evParts ev parts.toList) (buildSliceA P t n))
noncomputable def kMapPut (t : TypeId) (m k v : Operand) : KF := fun P ev _ => .eff fun s => ob (ev m) fun m => ob (ev k) fun k => ob (ev v) fun v => ob (mapUpdateA P s t m k v) fun s => some (none, s)
noncomputable def kLoad (t : TypeId) (a : Operand) : KF := fun P ev _ => .read fun s => ob (ev a) (loadA P s t)
noncomputable def kStore (t : TypeId) (a v : Operand) : KF := fun P ev _ => .eff fun s => ob (ev a) fun a => ob (ev v) fun v => ob (storeA P s t a v) fun s => some (none, s)
noncomputable def kN1 (_ : Nat) : KF := kNo0
noncomputable def kNilCheck (x : Operand) : KF := fun _ ev _ => .val (ob (ev x) nilCheckA)
noncomputable def kBin (op : BinOp) (t : TypeId) (x y : Operand) (_ : TypeId) : KF := fun P ev _ => .read fun s => ob (ev x) fun a => ob (ev y) fun b => binA P s op t x y a b
noncomputable def kUn (op : UnOp) (_ : TypeId) (x : Operand) : KF := fun _ ev _ => .val (ob (ev x) (unPlain op))
noncomputable def kConvert (s d : TypeId) (x : Operand) : KF := fun P ev _ => convK P s d (ev x)
noncomputable def kNTO (_ : TypeId) (_ : Operand) : KF := kNo0
noncomputable def kIface (t : TypeId) (x : Operand) : KF := fun P ev _ => .val (ob (ev x) (ifaceA P t))
noncomputable def kFunc (fn : Fn) (f c : Array Operand) : KF := fun _ ev _ => .val (ob (lmapO ev f.toList) fun fs => ob (lmapO ev c.toList) fun cs => some (.func fn fs cs))
noncomputable def kMakeMap (_ : TypeId) (r : Option Operand) : KF := fun _ _ _ => match r with
  | none => .make (makeMapA none)
  | some _ => .no
noncomputable def kMakeSlice (t : TypeId) (n c : Operand) : KF := fun P ev _ => .make (ob (ev n) fun n => ob (ev c) fun c => makeSliceA P t n c)
noncomputable def kSlice (t : TypeId) (x : Operand) (l h m : Option Operand) : KF := fun P ev _ => .val (ob (ev x) fun x => evO ev l fun l => evO ev h fun h => evO ev m fun m => sliceA P t x l h m)
noncomputable def kFieldAddr (t : TypeId) (x : Operand) (f : Nat) : KF := fun P ev _ => .val (ob (ev x) fun x => fieldAddrA P t x f)
noncomputable def kField (t : TypeId) (x : Operand) (f : Nat) : KF := fun P ev _ => .val (ob (ev x) fun x => fieldA P t x f)
noncomputable def kIndexAddr (t : TypeId) (x i : Operand) : KF := fun P ev _ => .val (ob (ev x) fun x => ob (ev i) fun i => indexAddrA P t x i)
noncomputable def kIndex (t : TypeId) (x i : Operand) : KF := fun P ev _ => .val (ob (ev x) fun x => ob (ev i) fun i => indexA P t x i)
noncomputable def kLookup (t : TypeId) (x k : Operand) (ok : Bool) : KF := fun P ev _ => .read fun s => ob (ev x) fun x => ob (ev k) fun k => lookupA P s t x k ok
noncomputable def kMapEntry (t : TypeId) (m k : Operand) : KF := fun P ev _ => .eff fun s => ob (ev m) fun m => ob (ev k) fun k => ob (mapEntryA P s t m k) fun r => some (some r.1, r.2)
noncomputable def kEntryStore (_ : TypeId) (m k v : Operand) : KF := fun _ ev _ => .eff fun s => ob (ev m) fun m => ob (ev k) fun k => ob (ev v) fun v => ob (entryStoreA s m k v) fun s => some (none, s)
noncomputable def kNOB (_ : Operand) (_ : Bool) : KF := kNo0
noncomputable def kNO (_ : Operand) : KF := kNo0
noncomputable def kAssert (x : Operand) (_ t : TypeId) (ok : Bool) : KF := fun P ev _ => .val (ob (ev x) fun x => assertA P x t ok)
noncomputable def kExtract (x : Operand) (i : Nat) : KF := fun _ ev _ => .val (ob (ev x) fun x => extractA x i)
noncomputable def kCall (c : Call) : KF := fun P ev o => match c.callee with
    | .builtin b => builtinOf P ev o b c.args.toList c.argTypes.toList
    | .value f => callOf ev f c.args.toList
    | .invoke _ _ => .no
noncomputable def kNC (_ : Call) : KF := kNo0
noncomputable def kNOO (_ _ : Operand) : KF := kNo0
noncomputable def kNTOB (_ : TypeId) (_ : Operand) (_ : Bool) : KF := kNo0
noncomputable def kNSel (_ : Array SelectCase) (_ : Bool) : KF := kNo0

noncomputable def kindF (P : Program) (ev : Ev) (o : Oper) : K :=
  Op.rec (motive := fun _ => KF) kMove kMove kPick kAlloc kBox kBuild kBuildSlice kMapPut kLoad kStore kN1 kN1 kNilCheck kBin kUn kConvert kNTO kIface kFunc kMakeMap kNTO kMakeSlice kSlice kFieldAddr kField
    kIndexAddr kIndex kLookup kMapPut kMapEntry kEntryStore kNTO kNOB kNO kAssert kExtract kCall kNC kNC kNO kNOO kNTOB kNSel o.op P ev o

omit [Sym] in
theorem kindF_eq (P : Program) (ev : Ev) (o : Oper) : kindF P ev o = kindOf P ev o := by
  obtain ⟨dst, op, ty, pos, aft, gd⟩ := o
  cases op <;> try rfl
  rename_i t r
  cases r <;> rfl



abbrev DF := CallK → St → Option (AV × St)

noncomputable def dVal (v : Option AV) : DF := fun _ s => Option.rec none (fun v => some (v, s)) v
noncomputable def dRead (f : St → Option AV) : DF := fun _ s => Option.rec none (fun v => some (v, s)) (f s)
noncomputable def dMake (n : Option New) : DF := fun _ s => Option.rec none (fun n => some (n.res s.next, s.new n.blk)) n
noncomputable def dEff (f : St → Option (Option AV × St)) : DF := fun _ s => Option.rec none (fun r => some (Option.rec .undef (fun v => v) r.1, r.2)) (f s)
noncomputable def dCall (g : Tgt) (args : List AV) : DF := fun callK s => callK g args s
noncomputable def dNo : DF := fun _ _ => none

noncomputable def doF (P : Program) (callK : CallK) (ev : Ev) (o : Oper) (s : St) : Option (AV × St) := K.rec (motive := fun _ => DF) dVal dRead dMake dEff dCall dNo (kindF P ev o) callK s

omit [Sym] in
theorem doF_eq (P : Program) (callK : CallK) (ev : Ev) (o : Oper) (s : St) : doF P callK ev o s = doV P callK ev o s := by
  unfold doF doV
  rw [kindF_eq]
  cases kindOf P ev o with
  | val v => cases v <;> rfl
  | read f => cases h : f s <;> (show (Option.rec none (fun v => some (v, s)) (f s) : Option (AV × St)) = ob (f s) fun v => some (v, s)) <;> rw [h]
  | make n => cases n <;> rfl
  | eff f =>
    show (Option.rec none (fun r => some (Option.rec .undef (fun v => v) r.1, r.2)) (f s) : Option (AV × St)) = ob (f s) fun r => some (r.1.getD .undef, r.2)
    cases h : f s with
    | none => rfl
    | some r =>
      obtain ⟨a, b⟩ := r
      cases a <;> rfl
  | call g args => rfl
  | no => rfl

noncomputable def oneDo (P : Program) (callK : CallK) (_ : Array Oper) (o : Oper) (F : Fr) (s : St) : Option (Fr × St) := Option.rec none (fun r => some (F.putO o.dst r.1, r.2)) (doF P callK F.ev o s)
noncomputable def oneSkip (_ : Program) (_ : CallK) (_ : Array Oper) (o : Oper) (F : Fr) (s : St) : Option (Fr × St) := some (F.putO o.dst .skip, s)
noncomputable def oneG (g : Nat × Bool) (P : Program) (callK : CallK) (ops : Array Oper) (o : Oper) (F : Fr) (s : St) : Option (Fr × St) :=
  Option.rec none (fun b => Bool.rec oneSkip oneDo b P callK ops o F s) (wantA ops F (some g))

noncomputable def oneF (P : Program) (callK : CallK) (ops : Array Oper) (o : Oper) (F : Fr) (s : St) : Option (Fr × St) := Option.rec oneDo oneG o.guard P callK ops o F s

omit [Sym] in
theorem oneDo_eq (P : Program) (callK : CallK) (ops : Array Oper) (o : Oper) (F : Fr) (s : St) : oneDo P callK ops o F s = doA P callK o F s := by
  unfold oneDo doA
  rw [doF_eq]

theorem oneF_eq (P : Program) (callK : CallK) (ops : Array Oper) (o : Oper) (F : Fr) (s : St) : oneF P callK ops o F s = oneA P callK ops o F s := by
  unfold oneF oneA
  cases o.guard with
  | none => exact oneDo_eq P callK ops o F s
  | some g =>
    show (Option.rec none (fun b => Bool.rec oneSkip oneDo b P callK ops o F s) (wantA ops F (some g)) : Option (Fr × St)) = ob (wantA ops F (some g)) _
    cases wantA ops F (some g) with
    | none => rfl
    | some b =>
      cases b with
      | false => rfl
      | true => exact oneDo_eq P callK ops o F s

noncomputable def runStepF (P : Program) (callK : CallK) (ops : Array Oper) (o : Oper) (ih : Fr → St → Option (Fr × St)) (F : Fr) (s : St) : Option (Fr × St) := Option.rec none (fun r => ih r.1 r.2) (oneF P callK ops o F s)

noncomputable def runF (P : Program) (callK : CallK) (ops : Array Oper) (l : List Oper) : Fr → St → Option (Fr × St) :=
  List.rec (motive := fun _ => Fr → St → Option (Fr × St)) (fun F s => some (F, s)) (fun o _ ih => runStepF P callK ops o ih) l

theorem runF_eq (P : Program) (callK : CallK) (ops : Array Oper) : ∀ (l : List Oper) (F : Fr) (s : St), runF P callK ops l F s = runA P callK ops l F s := by
  intro l
  induction l with
  | nil => intro F s; rfl
  | cons o l ih =>
    intro F s
    show (Option.rec none (fun r => runF P callK ops l r.1 r.2) (oneF P callK ops o F s) : Option (Fr × St)) = ob (oneA P callK ops o F s) fun r => runA P callK ops l r.1 r.2
    rw [oneF_eq]
    cases oneA P callK ops o F s with
    | none => rfl
    | some r => exact ih _ _


abbrev QF := Nat × Nat → Nat → List St → Oper → Fr → St → Option (Fr × St)
noncomputable def qVal (v : Option AV) : QF := fun _ _ _ o F cur => Option.rec none (fun v => some (F.putO o.dst v, cur)) v
noncomputable def qRead (f : St → Option AV) : QF := fun x _ hs o F cur => Option.rec none (fun v => some (F.putO o.dst v, cur)) (readQ f hs x.2)
noncomputable def qMake (n : Option New) : QF := fun x base _ o F cur => Option.rec none (fun n => some (F.putO o.dst (n.res (Nat.add base x.1)), cur.put (Nat.add base x.1) n.blk)) n
noncomputable def qEff (_ : St → Option (Option AV × St)) : QF := fun _ _ _ _ _ _ => none
noncomputable def qCall (_ : Tgt) (_ : List AV) : QF := fun _ _ _ _ _ _ => none
noncomputable def qNo : QF := fun _ _ _ _ _ _ => none

noncomputable def quietDo (P : Program) (base : Nat) (hs : List St) (x : Nat × Nat) (o : Oper) (F : Fr) (cur : St) : Option (Fr × St) :=
  K.rec (motive := fun _ => QF) qVal qRead qMake qEff qCall qNo (kindF P F.ev o) x base hs o F cur

noncomputable def quietB (b : Bool) (P : Program) (base : Nat) (hs : List St) (x : Nat × Nat) (o : Oper) (F : Fr) (cur : St) : Option (Fr × St) :=
  Bool.rec (some (F.putO o.dst .skip, cur)) (quietDo P base hs x o F cur) b

noncomputable def quietF (P : Program) (ops : Array Oper) (base : Nat) (hs : List St) (x : Nat × Nat) (F : Fr) (cur : St) : Option (Fr × St) :=
  Option.rec none (fun b => quietB b P base hs x (opAt ops.toList x.1) F cur) (wantA ops F (opAt ops.toList x.1).guard)

omit [Sym] in
theorem quietF_eq (P : Program) (ops : Array Oper) (base : Nat) (hs : List St) (x : Nat × Nat) (F : Fr) (cur : St) : quietF P ops base hs x F cur = quietA P ops base hs x F cur := by
  unfold quietF quietA
  show _ = ob (wantA ops F (opAt ops.toList x.1).guard) _
  cases wantA ops F (opAt ops.toList x.1).guard with
  | none => rfl
  | some b =>
    cases b with
    | false => rfl
    | true =>
      show quietDo P base hs x (opAt ops.toList x.1) F cur = match kindOf P F.ev (opAt ops.toList x.1) with
        | .val (some v) => some (F.putO (opAt ops.toList x.1).dst v, cur)
        | .read f => ob (readQ f hs x.2) fun v => some (F.putO (opAt ops.toList x.1).dst v, cur)
        | .make (some n) => some (F.putO (opAt ops.toList x.1).dst (n.res (Nat.add base x.1)), cur.put (Nat.add base x.1) n.blk)
        | _ => none
      unfold quietDo
      rw [kindF_eq]
      cases kindOf P F.ev (opAt ops.toList x.1) with
      | val v => cases v <;> rfl
      | read f => rfl
      | make n => cases n <;> rfl
      | eff f => rfl
      | call g args => rfl
      | no => rfl

noncomputable def quietsF (P : Program) (ops : Array Oper) (base : Nat) (hs : List St) (l : List (Nat × Nat)) : Fr → St → Option (Fr × St) :=
  List.rec (motive := fun _ => Fr → St → Option (Fr × St)) (fun F s => some (F, s)) (fun x _ ih F s => Option.rec none (fun r => ih r.1 r.2) (quietF P ops base hs x F s)) l

omit [Sym] in
theorem quietsF_eq (P : Program) (ops : Array Oper) (base : Nat) (hs : List St) : ∀ (l : List (Nat × Nat)) (F : Fr) (s : St), quietsF P ops base hs l F s = quietsA P ops base hs l F s := by
  intro l
  induction l with
  | nil => intro F s; rfl
  | cons x l ih =>
    intro F s
    show (Option.rec none (fun r => quietsF P ops base hs l r.1 r.2) (quietF P ops base hs x F s) : Option (Fr × St)) = ob (quietA P ops base hs x F s) fun r => quietsA P ops base hs l r.1 r.2
    rw [quietF_eq]
    cases quietA P ops base hs x F s with
    | none => rfl
    | some r => exact ih _ _

abbrev SgF := Program → CallK → Array Oper → (List St → Fr → St → Option (Fr × St)) → List St → Fr → St → Option (Fr × St)
noncomputable def sgNone : SgF := fun _ _ _ ih hs F s => ih hs F s
noncomputable def sgSome (e : Nat) : SgF := fun P callK ops ih hs F s => Option.rec none (fun q => ih (q.2 :: hs) q.1 q.2) (oneF P callK ops (opAt ops.toList e) F s)

noncomputable def segsF (P : Program) (callK : CallK) (ops : Array Oper) (base : Nat) (p : List Seg) : List St → Fr → St → Option (Fr × St) :=
  List.rec (motive := fun _ => List St → Fr → St → Option (Fr × St)) (fun _ F s => some (F, s))
    (fun g _ ih hs F s => Option.rec none (fun r => Option.rec sgNone sgSome g.eff P callK ops ih hs r.1 r.2) (quietsF P ops base hs g.ahead F s)) p

theorem segsF_eq (P : Program) (callK : CallK) (ops : Array Oper) (base : Nat) : ∀ (p : List Seg) (hs : List St) (F : Fr) (s : St), segsF P callK ops base p hs F s = segsA P callK ops base p hs F s := by
  intro p
  induction p with
  | nil => intro hs F s; rfl
  | cons g p ih =>
    intro hs F s
    show (Option.rec none (fun r => Option.rec sgNone sgSome g.eff P callK ops (segsF P callK ops base p) hs r.1 r.2) (quietsF P ops base hs g.ahead F s) : Option (Fr × St)) =
      ob (quietsA P ops base hs g.ahead F s) fun r => match g.eff with
      | some e => ob (oneA P callK ops (opAt ops.toList e) r.1 r.2) fun q => segsA P callK ops base p (q.2 :: hs) q.1 q.2
      | none => segsA P callK ops base p hs r.1 r.2
    rw [quietsF_eq]
    cases quietsA P ops base hs g.ahead F s with
    | none => rfl
    | some r =>
      obtain ⟨F1, s1⟩ := r
      cases g.eff with
      | none => exact ih _ _ _
      | some e =>
        show (Option.rec none (fun q => segsF P callK ops base p (q.2 :: hs) q.1 q.2) (oneF P callK ops (opAt ops.toList e) F1 s1) : Option (Fr × St)) = ob (oneA P callK ops (opAt ops.toList e) F1 s1) _
        rw [oneF_eq]
        cases oneA P callK ops (opAt ops.toList e) F1 s1 with
        | none => rfl
        | some q => exact ih _ _ _

noncomputable def endF (ops : Array Oper) (x y : Nat) (r : Fr × St) : Option (Fr × St) := Bool.rec none (some r) (aimsApart r.1 (opAt ops.toList x) (opAt ops.toList y))

noncomputable def drawF2 (P : Program) (callK : CallK) (ops : Array Oper) (F : Fr) (s : St) (x y : Nat) : Option (Fr × St) :=
  Bool.rec none (Bool.rec none (Option.rec none (endF ops x y) (segsF P callK ops s.next (planOf2 ops.toList) [⟨s.heap, Nat.add s.next (llen ops.toList)⟩] F ⟨s.heap, Nat.add s.next (llen ops.toList)⟩))
    (pairOk ops.toList (masks ops.toList []) (llen ops.toList) x y)) (planOkG ops.toList (some (x, y)) (planOf2 ops.toList))

theorem drawF2_eq (P : Program) (callK : CallK) (ops : Array Oper) (F : Fr) (s : St) (x y : Nat) : drawF2 P callK ops F s x y = drawA2 P callK ops F s x y := by
  unfold drawF2 drawA2
  cases planOkG ops.toList (some (x, y)) (planOf2 ops.toList) with
  | false => rfl
  | true =>
    cases pairOk ops.toList (masks ops.toList []) (llen ops.toList) x y with
    | false => rfl
    | true =>
      show (Option.rec none (endF ops x y) (segsF P callK ops s.next (planOf2 ops.toList) [⟨s.heap, Nat.add s.next (llen ops.toList)⟩] F ⟨s.heap, Nat.add s.next (llen ops.toList)⟩) : Option (Fr × St)) = ob _ _
      rw [segsF_eq]
      cases segsA P callK ops s.next (planOf2 ops.toList) [⟨s.heap, Nat.add s.next (llen ops.toList)⟩] F ⟨s.heap, Nat.add s.next (llen ops.toList)⟩ with
      | none => rfl
      | some r =>
        show endF ops x y r = cond _ _ _
        unfold endF
        cases aimsApart r.1 (opAt ops.toList x) (opAt ops.toList y) <;> rfl

noncomputable def drawF (P : Program) (callK : CallK) (ops : Array Oper) (F : Fr) (s : St) : Option (Fr × St) :=
  Bool.rec (Option.rec none (fun p => drawF2 P callK ops F s p.1 p.2) (pairOf (effsOf ops.toList))) (segsF P callK ops s.next (planOf ops.toList) [⟨s.heap, Nat.add s.next (llen ops.toList)⟩] F ⟨s.heap, Nat.add s.next (llen ops.toList)⟩) (planOk ops.toList)

theorem drawF_eq (P : Program) (callK : CallK) (ops : Array Oper) (F : Fr) (s : St) : drawF P callK ops F s = drawA P callK ops F s := by
  unfold drawF drawA
  cases planOk ops.toList with
  | false =>
    show (Option.rec none (fun p => drawF2 P callK ops F s p.1 p.2) (pairOf (effsOf ops.toList)) : Option (Fr × St)) = (Option.rec none (fun p => drawA2 P callK ops F s p.1 p.2) (pairOf (effsOf ops.toList)) : Option (Fr × St))
    cases pairOf (effsOf ops.toList) with
    | none => rfl
    | some p => exact drawF2_eq P callK ops F s p.1 p.2
  | true => exact segsF_eq P callK ops s.next _ _ _ _

end Go.Proofs.Bx

namespace Go.Proofs.Bx
open Go Go.RowKit
variable [Sym]


abbrev Ans := Option (Out × Fr × St)

abbrev SF := Bool → Program → CallK → (Code → Fr → St → Ans) → Fr → St → Ans

abbrev TF := (Fr → St → Ans) → Fr → St → Ans
noncomputable def tNormal : TF := fun k F s => k F s
noncomputable def tExit (i : Nat) : TF := fun _ F s => some (.exit i, F, s)
noncomputable def tRet : TF := fun _ F s => some (.ret, F, s)
noncomputable def thenF (r : Ans) (k : Fr → St → Ans) : Ans := Option.rec none (fun x => Out.rec (motive := fun _ => TF) tNormal tExit tRet x.1 k x.2.1 x.2.2) r

abbrev BF := Nat → Fr → St → Ans
noncomputable def bNormal : BF := fun _ F s => some (.normal, F, s)
noncomputable def bExit (i : Nat) : BF := fun id F s => Bool.rec (some (.exit i, F, s)) (some (.normal, F, s)) (Nat.beq i id)
noncomputable def bRet : BF := fun _ F s => some (.ret, F, s)
noncomputable def blockF (id : Nat) (r : Ans) : Ans := Option.rec none (fun x => Out.rec (motive := fun _ => BF) bNormal bExit bRet x.1 id x.2.1 x.2.2) r

noncomputable def sSkip : SF := fun _ _ _ _ F s => some (.normal, F, s)
noncomputable def regionR (P : Program) (callK : CallK) (ops : Array Oper) (F : Fr) (s : St) : Option (Fr × St) := runF P callK ops ops.toList F s
noncomputable def sRegion (_ : Nat) (ops : Array Oper) (d : Bool) : SF := fun _ P callK _ F s => Option.rec none (fun r => some (.normal, r.1, r.2)) (Bool.rec regionR drawF d P callK ops F s)
noncomputable def sSeq (a b : Code) : SF := fun _ _ _ rc F s => thenF (rc a F s) (rc b)
noncomputable def boolAV (v : AV) : Option Bool := match v with
  | .bool b => some b
  | _ => none
noncomputable def sCond (c : Operand) (a b : Code) : SF := fun _ _ _ rc F s => Option.rec none (fun v => Option.rec none (fun x => rc (Bool.rec b a x) F s) (boolAV v)) (F.ev c)
noncomputable def sBlock (id : Nat) (b : Code) : SF := fun _ _ _ rc F s => blockF id (rc b F s)
noncomputable def sLoop (b : Code) : SF := fun _ _ _ rc F s => thenF (rc b F s) (rc (.loop b))
noncomputable def rangeEnd (i : Nat) (F : Fr) (s : St) : Ans :=
  match s.get i with
  | some (.loop _ _ _ _ .ready) => some (.normal, F, s.set i .dead)
  | some (.loop _ _ _ _ (.done o)) => some (o, F, s.set i .dead)
  | _ => none
noncomputable def rangeF (g : AV) (ps : Array Tmp) (asg bd : Code) (callK : CallK) (F : Fr) (s : St) : Ans :=
  match g with
  | .func (.func gf) [] captured => ob (callK (.fn gf) (.yld s.next :: captured) (s.new (.loop F ps.toList asg bd .ready))) fun x => rangeEnd s.next F x.2
  | _ => none
noncomputable def sRange (g : Operand) (ps : Array Tmp) (asg bd : Code) : SF := fun top _ callK _ F s => Bool.rec none (ob (F.ev g) fun v => rangeF v ps asg bd callK F s) top
noncomputable def sExit (id : Nat) : SF := fun _ _ _ _ F s => some (.exit id, F, s)
noncomputable def sScope (b : Code) : SF := fun top _ _ rc F s => Bool.rec none (rc b F s) top
noncomputable def sLabel (_ : Nat) : SF := sSkip
noncomputable def sGoto (_ : Nat) : SF := fun _ _ _ _ _ _ => none
noncomputable def sRet : SF := fun _ _ _ _ F s => some (.ret, F, s)
noncomputable def sRefuse (_ : String) : SF := fun _ _ _ _ _ _ => none

noncomputable def stepF (top : Bool) (P : Program) (callK : CallK) (rc : Code → Fr → St → Ans) (c : Code) (F : Fr) (s : St) : Ans :=
  Code.casesOn (motive := fun _ => SF) c sSkip sRegion sSeq sCond sBlock sLoop sRange sExit sScope sLabel sGoto sRet sRefuse top P callK rc F s

noncomputable def execF (top : Bool) (P : Program) (callK : CallK) (n : Nat) : Code → Fr → St → Ans := Nat.rec (motive := fun _ => Code → Fr → St → Ans) (fun _ _ _ => none) (fun _ ih => stepF top P callK ih) n

def Out.toExit : Out → Exit
  | .normal => .normal
  | .exit i => .exit i
  | .ret => .ret


def Marks (n0 : Nat) (ρ : BMap) (s : St) (w : World) : List Deferred → Prop
  | [] => True
  | m :: ms => (∃ D, m = { target := .collected D, args := #[] } ∧ n0 ≤ D ∧ w.heap[D]? = some (.deferred (some [])) ∧ ¬ Live ρ s D ∧ ∀ m' ∈ ms, ∀ D', m'.target = .collected D' → D' < D) ∧ Marks n0 ρ s w ms

omit [Sym] in
theorem live_of_mine {ρ : BMap} {s : St} {r : Nat} (h : Mine ρ s r) : Live ρ s r := by
  obtain ⟨i, b, z, h1, h2, h3⟩ := h
  exact ⟨i, b, z, h1, (by intro e; subst e; cases h2), h3⟩

omit [Sym] in
theorem lt_of_get {w : World} {D : Nat} {o : Obj} (h : w.heap[D]? = some o) : D < w.heap.size := (Array.getElem?_eq_some_iff.1 h).1

theorem Marks.ext {n0 : Nat} {ρ ρ' : BMap} {s s' : St} {w w' : World} (hx : Ext ρ s w ρ' s' w') : ∀ {l : List Deferred}, Marks n0 ρ s w l → Marks n0 ρ' s' w' l
  | [], _ => trivial
  | m :: ms, ⟨⟨D, h1, h2, h3, h4, h5⟩, h6⟩ =>
    ⟨⟨D, h1, h2, (hx.keeps D (lt_of_get h3) fun hm => h4 (live_of_mine hm)).trans h3, fun hl => h4 (hx.live D (lt_of_get h3) hl), h5⟩, Marks.ext hx h6⟩

omit [Sym] in
theorem Marks.lt {n0 : Nat} {ρ : BMap} {s : St} {w : World} : ∀ {l : List Deferred}, Marks n0 ρ s w l → ∀ m ∈ l, ∀ D', m.target = .collected D' → D' < w.heap.size
  | [], _, m, hm, _, _ => by simp at hm
  | x :: ms, ⟨⟨D, h1, h2, h3, h4, h5⟩, h6⟩, m, hm, D', he => by
    rcases List.mem_cons.1 hm with rfl | hm
    · subst h1; cases he; exact lt_of_get h3
    · exact Marks.lt h6 m hm D' he


theorem Ext.other {ρ : BMap} {s : St} {w : World} (h : HR ρ s w) (o : Obj) : Ext ρ s w ρ s (w.alloc o) := by
  have hh : (w.alloc o).heap = w.heap.push o := rfl
  have hin : ∀ {r}, r < w.heap.size → (w.alloc o).heap[r]? = w.heap[r]? := fun hr => by rw [hh, Array.getElem?_push, if_neg (by omega)]
  refine ⟨.refl _, ⟨h.fresh, fun i b e hd => ?_, h.inj, fun i r z e => ?_⟩, ?_, fun r hr _ => hin hr, fun r _ hm => hm, fun r _ hm => hm, Nat.le_refl _, fun _ _ => rfl, rfl, rfl, rfl⟩
  · obtain ⟨r, z, ob, h1, h2, h3⟩ := h.blk i b e hd
    exact ⟨r, z, ob, h1, by rw [hin (h.below _ _ _ h1)]; exact h2, h3⟩
  · have := h.below i r z e
    rw [hh, Array.size_push]; omega
  · rw [hh, Array.size_push]; omega

theorem Ext.drop {ρ0 ρ : BMap} {s0 s : St} {w0 w : World} {D : Nat} {o : Obj} (hx : Ext ρ0 s0 w0 ρ s w) (h0 : w0.heap.size ≤ D) (hl : ¬ Live ρ s D) : Ext ρ0 s0 w0 ρ s (w.putObj D o) := by
  have hin : ∀ {r}, r ≠ D → (w.putObj D o).heap[r]? = w.heap[r]? := fun hne => World.putObj_heap_other hne
  refine ⟨hx.sub, ⟨hx.hr.fresh, fun i b e hd => ?_, hx.hr.inj, fun i r z e => ?_⟩, ?_, fun r hr hm => ?_, hx.mine, hx.live, hx.next, hx.old, hx.os, hx.tape, hx.output⟩
  · obtain ⟨r, z, ob, h1, h2, h3⟩ := hx.hr.blk i b e hd
    have hne : r ≠ D := by intro e'; subst e'; exact hl ⟨i, b, z, e, hd, h1⟩
    exact ⟨r, z, ob, h1, by rw [hin hne]; exact h2, h3⟩
  · rw [World.putObj_size]; exact hx.hr.below i r z e
  · rw [World.putObj_size]; exact hx.size
  · rw [hin (by omega)]; exact hx.keeps r hr hm

theorem Ext.loop {ρ : BMap} {s : St} {w : World} {i l z : Nat} {b0 b : Blk} {o : Obj} (h : HR ρ s w) (hs : s.get i = some b0) (hw : b0.rw = true) (hi : ρ i = some (l, z)) (hb : BR ρ z b o) : Ext ρ s w ρ (s.set i b) (w.putObj l o) :=
  Ext.write h hs hw hi World.putObj_size (World.putObj_heap_same (h.below _ _ _ hi)) (fun _ hk => World.putObj_heap_other hk) rfl rfl rfl hb

theorem HR.loop {ρ : BMap} {s : St} {w : World} (h : HR ρ s w) {i l z : Nat} {F : Fr} {ps : List Nat} {asg bd : Code} {p : Pend} (hs : s.get i = some (.loop F ps asg bd p)) (hi : ρ i = some (l, z)) :
    ∃ rec : Loop, w.heap[l]? = some (.loop rec) ∧ rec.params.toList = ps ∧ rec.assign = asg ∧ rec.body = bd ∧ rec.tmps.size = F.size ∧ (∀ t v, F.get t = some v → VR ρ v (rec.tmps.getD t undef)) ∧ (∀ t v, F.get t = some v → t < F.size) ∧ PendR p rec.state rec.pending := by
  obtain ⟨r', z', o, e, ho, hr⟩ := h.blk i _ hs (by simp)
  rw [hi] at e
  cases e
  cases o <;> simp only [BR] at hr
  exact ⟨_, ho, hr⟩


def LoopAt (r : Option Nat) (m : Nat) (P : Program) (c : Code) (Q : Exit → Act → World → Prop) (a : Act) (w : World) : Prop :=
  ∀ (b : Frame) (k : List Item) (cs : List Frame), b.roundOf = (Fc r).round → (Fc r).fn b.fn → (Fc r).room (cs.length + 1 + m) →
    ∃ e a' w', Q e a' w' ∧ ArrivesIn (Machine.fenced P (Fc r)) P (lone (b.atR a (.code c :: .inLoop c :: k)) cs w) b k cs e a' w'

omit [Sym] in
theorem LoopAt.wp {r : Option Nat} {m : Nat} {P : Program} {c : Code} {Q : Exit → Act → World → Prop} {a : Act} {w : World} (h : LoopAt r m P c Q a w) : (Code.loop c).wpIn (Fc r) m P Q a w :=
  fun b k cs hro hb hr => let ⟨e, a', w', q, x⟩ := h b k cs hro hb hr; ⟨e, a', w', q, .of_steps (.one (fenced_calm hb hr rfl) stepR_loop) x⟩

omit [Sym] in
theorem LoopAt.of {r : Option Nat} {m : Nat} {P : Program} {c : Code} {Q : Exit → Act → World → Prop} {a : Act} {w : World} (h : c.wpIn (Fc r) m P (Exit.then (LoopAt r m P c Q) Q) a w) : LoopAt r m P c Q a w := by
  intro b k cs hro hb hr
  obtain ⟨e, a₁, w₁, hq, harr⟩ := h b (.inLoop c :: k) cs hro hb hr
  cases e with
  | normal =>
    obtain ⟨e₂, a₂, w₂, hq₂, harr₂⟩ := hq b k cs hro hb hr
    exact ⟨e₂, a₂, w₂, hq₂, .of_steps (StepsIn.trans harr (.one (fenced_calm hb hr rfl) stepR_inLoop)) harr₂⟩
  | exit id => exact ⟨_, a₁, w₁, hq, .pass (x := .inLoop c) rfl (fun _ _ => .inl (by simp)) harr⟩
  | goto l => exact ⟨_, a₁, w₁, hq, .pass (x := .inLoop c) rfl (fun _ _ => .inl (by simp)) harr⟩
  | ret => exact ⟨_, a₁, w₁, hq, .pass (x := .inLoop c) rfl (fun _ _ => .inl (by simp)) harr⟩
  | panic ch => exact ⟨_, a₁, w₁, hq, .pass (x := .inLoop c) rfl (fun _ _ => .inl (by simp)) harr⟩
  | outgrown => exact ⟨_, a₁, w₁, hq, .pass (x := .inLoop c) rfl (fun _ _ => .inl (by simp)) harr⟩

omit [Sym] in
theorem scope_top {m : Nat} {P : Program} {c : Code} {Q : Exit → Act → World → Prop} {a : Act} {w : World} (h : c.wpIn (Fc none) m P (Exit.noGoto Q) a w) : (Code.scope c).wpIn (Fc none) m P Q a w :=
  wpIn_wide.2 (wp_scope_straight (wpIn_wide.1 h))

theorem execF_run {P : Program} {callK : CallK} (hc : CallSound P callK) (hd : DrawSound P callK) (top : Bool) : ∀ (n : Nat) {c : Code} {F F' : Fr} {s s' : St} {o : Out}, execF top P callK n c F s = some (o, F', s') →
    ∀ {D : List Deferred} {n0 : Nat} {ρ : BMap} {a : Act} {w : World} {Q : Exit → Act → World → Prop} {r : Option Nat} {m : Nat}, (top = true → r = none) → FrR D ρ F a → HR ρ s w → Marks n0 ρ s w D → n0 ≤ w.heap.size →
      (∀ D' ρ' a' w', Ext ρ s w ρ' s' w' → FrR D' ρ' F' a' → Marks n0 ρ' s' w' D' → Q o.toExit a' w') →
    c.wpIn (Fc r) m P Q a w ∧ ∀ b, c = .loop b → LoopAt r m P b Q a w := by
  intro n
  induction n with
  | zero => intro c F F' s s' o h; cases h
  | succ n ih =>
    intro c F F' s s' o h D n0 ρ a w Q r m htop hF hr hM hn hk
    have h' : stepF top P callK (execF top P callK n) c F s = some (o, F', s') := h
    clear h
    have still : ∀ {F1 : Fr} {s1 : St} {ρ1 : BMap} {a1 : Act} {w1 : World}, Ext ρ s w ρ1 s1 w1 → FrR D ρ1 F1 a1 → (∃ D' n1, n1 = n0 ∧ FrR D' ρ1 F1 a1 ∧ Marks n1 ρ1 s1 w1 D') := fun e f => ⟨D, n0, rfl, f, hM.ext e⟩
    -- one after another
    have seq : ∀ {x : Code} {k : Fr → St → Ans} {N : Act → World → Prop}, thenF (execF top P callK n x F s) k = some (o, F', s') →
        (∀ {D1 : List Deferred} {F1 : Fr} {s1 : St} {ρ1 : BMap} {a1 : Act} {w1 : World}, k F1 s1 = some (o, F', s') → Ext ρ s w ρ1 s1 w1 → FrR D1 ρ1 F1 a1 → Marks n0 ρ1 s1 w1 D1 → N a1 w1) → x.wpIn (Fc r) m P (Exit.then N Q) a w := by
      intro x k N hx hN
      cases he : execF top P callK n x F s with
      | none => rw [he] at hx; cases hx
      | some q =>
        obtain ⟨o1, F1, s1⟩ := q
        rw [he] at hx
        cases o1 with
        | normal => exact (ih he htop hF hr hM hn fun D1 ρ1 a1 w1 e1 f1 m1 => hN (show k F1 s1 = _ from hx) e1 f1 m1).1
        | exit i =>
          cases (show some (Out.exit i, F1, s1) = some (o, F', s') from hx)
          exact (ih he htop hF hr hM hn (Q := Exit.then N Q) fun D1 ρ1 a1 w1 e1 f1 m1 => hk _ _ _ _ e1 f1 m1).1
        | ret =>
          cases (show some (Out.ret, F1, s1) = some (o, F', s') from hx)
          exact (ih he htop hF hr hM hn (Q := Exit.then N Q) fun D1 ρ1 a1 w1 e1 f1 m1 => hk _ _ _ _ e1 f1 m1).1
    cases c with
    | skip => cases (show some (Out.normal, F, s) = some (o, F', s') from h'); exact ⟨wpIn_skip (hk _ _ _ _ (.refl hr) hF hM), fun b e => by cases e⟩
    | label l => cases (show some (Out.normal, F, s) = some (o, F', s') from h'); exact ⟨wpIn_label (hk _ _ _ _ (.refl hr) hF hM), fun b e => by cases e⟩
    | goto l => cases (show (none : Ans) = some (o, F', s') from h')
    | refuse y => cases (show (none : Ans) = some (o, F', s') from h')
    | ret => cases (show some (Out.ret, F, s) = some (o, F', s') from h'); exact ⟨wpIn_ret (hk _ _ _ _ (.refl hr) hF hM), fun b e => by cases e⟩
    | exit id => cases (show some (Out.exit id, F, s) = some (o, F', s') from h'); exact ⟨wpIn_exit (hk _ _ _ _ (.refl hr) hF hM), fun b e => by cases e⟩
    | region id ops d =>
      replace h' := ob_some (show ob (Bool.rec regionR drawF d P callK ops F s : Option (Fr × St)) (fun x => some (Out.normal, x.1, x.2)) = some (o, F', s') from h')
      obtain ⟨⟨F1, s1⟩, h1, h'⟩ := h'
      cases h'
      refine ⟨?_, fun b e => by cases e⟩
      cases d with
      | true =>
        have h1 : drawF P callK ops F s = some (F1, s1) := h1
        rw [drawF_eq] at h1
        exact hd h1 hF hr fun ρ' a' w' e1 f1 => hk _ _ _ _ e1 f1 (hM.ext e1)
      | false =>
        have h1 : runF P callK ops ops.toList F s = some (F1, s1) := h1
        rw [runF_eq] at h1
        exact region_run hc h1 hF hr fun ρ' a' w' e1 f1 => hk _ _ _ _ e1 f1 (hM.ext e1)
    | seq x y =>
      refine ⟨wpIn_seq (seq (show thenF (execF top P callK n x F s) (execF top P callK n y) = some (o, F', s') from h') fun hx e1 f1 m1 => ?_), fun b e => by cases e⟩
      exact (ih hx htop f1 e1.hr m1 (Nat.le_trans hn e1.size) fun D2 ρ2 a2 w2 e2 f2 m2 => hk _ _ _ _ (e1.trans e2) f2 m2).1
    | cond c x y =>
      refine ⟨?_, fun b e => by cases e⟩
      replace h' := ob_some (show ob (F.ev c) (fun v => ob (boolAV v) fun b => execF top P callK n (Bool.rec y x b) F s) = some (o, F', s') from h'); obtain ⟨v, hv, h'⟩ := h'
      replace h' := ob_some h'; obtain ⟨b, hb, h'⟩ := h'
      have hvr := Fr.ev_run hF _ _ hv
      unfold boolAV at hb
      split at hb
      · cases hb
        generalize hq : a.eval c = q at hvr
        cases hvr
        cases b with
        | true => exact wpIn_cond_true hq (ih h' htop hF hr hM hn hk).1
        | false => exact wpIn_cond_false hq (ih h' htop hF hr hM hn hk).1
      · cases hb
    | block id b =>
      refine ⟨wpIn_block ?_, fun b e => by cases e⟩
      have h' : blockF id (execF top P callK n b F s) = some (o, F', s') := h'
      cases he : execF top P callK n b F s with
      | none => rw [he] at h'; cases h'
      | some q =>
        obtain ⟨o1, F1, s1⟩ := q
        rw [he] at h'
        cases o1 with
        | normal =>
          cases (show some (Out.normal, F1, s1) = some (o, F', s') from h')
          exact (ih he htop hF hr hM hn (Q := Exit.inBlock id Q) fun D1 ρ1 a1 w1 e1 f1 m1 => hk _ _ _ _ e1 f1 m1).1
        | exit i =>
          have h2 : (Bool.rec (some (.exit i, F1, s1)) (some (.normal, F1, s1)) (Nat.beq i id) : Ans) = some (o, F', s') := h'
          by_cases hi : i = id
          · rw [beq_yes hi] at h2
            cases (show some (Out.normal, F1, s1) = some (o, F', s') from h2)
            refine (ih he htop hF hr hM hn (Q := Exit.inBlock id Q) fun D1 ρ1 a1 w1 e1 f1 m1 => ?_).1
            show Exit.inBlock id Q (.exit i) a1 w1
            simp only [Exit.inBlock, hi, if_true]
            exact hk _ _ _ _ e1 f1 m1
          · rw [beq_no hi] at h2
            cases (show some (Out.exit i, F1, s1) = some (o, F', s') from h2)
            refine (ih he htop hF hr hM hn (Q := Exit.inBlock id Q) fun D1 ρ1 a1 w1 e1 f1 m1 => ?_).1
            show Exit.inBlock id Q (.exit i) a1 w1
            simp only [Exit.inBlock, hi, if_false]
            exact hk _ _ _ _ e1 f1 m1
        | ret =>
          cases (show some (Out.ret, F1, s1) = some (o, F', s') from h')
          exact (ih he htop hF hr hM hn (Q := Exit.inBlock id Q) fun D1 ρ1 a1 w1 e1 f1 m1 => hk _ _ _ _ e1 f1 m1).1
    | loop b =>
      have hl : LoopAt r m P b Q a w := by
        refine LoopAt.of (seq (show thenF (execF top P callK n b F s) (execF top P callK n (.loop b)) = some (o, F', s') from h') fun hx e1 f1 m1 => ?_)
        exact (ih hx htop f1 e1.hr m1 (Nat.le_trans hn e1.size) fun D2 ρ2 a2 w2 e2 f2 m2 => hk _ _ _ _ (e1.trans e2) f2 m2).2 b rfl
      exact ⟨hl.wp, fun b' e => by cases e; exact hl⟩
    | scope b =>
      refine ⟨?_, fun b e => by cases e⟩
      cases top with
      | false => cases (show (none : Ans) = some (o, F', s') from h')
      | true =>
        have h' : execF true P callK n b F s = some (o, F', s') := h'
        obtain rfl := htop rfl
        refine scope_top (ih h' htop hF hr hM hn fun D1 ρ1 a1 w1 e1 f1 m1 => ?_).1
        have := hk _ _ _ _ e1 f1 m1
        cases o <;> exact this
    | rangeFunc g ps asg bd =>
      refine ⟨?_, fun b e => by cases e⟩
      cases top with
      | false => cases (show (none : Ans) = some (o, F', s') from h')
      | true =>
        obtain rfl := htop rfl
        replace h' := ob_some (show ob (F.ev g) (fun v => rangeF v ps asg bd callK F s) = some (o, F', s') from h'); obtain ⟨v, hv, h'⟩ := h'
        have hvr := Fr.ev_run hF _ _ hv
        unfold rangeF at h'
        split at h'
        · rename_i gf ca
          replace h' := ob_some h'; obtain ⟨⟨u, s3⟩, hcall, h'⟩ := h'
          generalize hq : a.eval g = q at hvr
          cases hvr with
          | func l1 l2 g1 g2 =>
            rename_i fi' ca'
            have hfi : fi' = #[] := Array.eq_empty_of_size_eq_zero l1.symm
            subst hfi
            -- the two blocks
            have x1 := Ext.other hr (.deferred (some []))
            obtain ⟨rec, hrec⟩ : ∃ rec : FuncId → Loop, rec = fun fn => { state := .ready, pending := none, fn, tmps := a.tmps, params := ps, assign := asg, body := bd, defers := w.heap.size } := ⟨_, rfl⟩
            have hfr : ∀ fn, BR (upd ρ s.next (w.heap.size + 1) 0) 0 (.loop F ps.toList asg bd .ready) (.loop (rec fn)) := fun fn => by
              rw [hrec]
              exact ⟨rfl, rfl, rfl, hF.size, fun t v e => (hF.get t v e).mono (upd_sub (hr.fresh _ (Nat.le_refl _))), hF.lt, rfl, rfl⟩
            have x2 : ∀ fn, Ext ρ s w (upd ρ s.next (w.heap.size + 1) 0) (s.new (.loop F ps.toList asg bd .ready)) ((w.alloc (.deferred (some []))).alloc (.loop (rec fn))) := fun fn => by
              refine x1.trans ?_
              have e1 : (w.alloc (.deferred (some []))).heap.size = w.heap.size + 1 := World.size_alloc _ _
              have := Ext.new (w := w.alloc (.deferred (some []))) (w' := (w.alloc (.deferred (some []))).alloc (.loop (rec fn))) (z := 0) (blk := .loop F ps.toList asg bd .ready) (obj := .loop (rec fn)) x1.hr rfl rfl rfl rfl (by rw [e1]; exact hfr fn)
              rwa [e1] at this
            refine wpIn_rangeFunc fun fn _ => ?_
            have hargs : VRs (upd ρ s.next (w.heap.size + 1) 0) (.yld s.next :: ca) (#[.func (.yield (w.heap.size + 1)) #[] #[]] ++ ca') := by
              have h1 : VRs (upd ρ s.next (w.heap.size + 1) 0) [.yld s.next] #[.func (.yield (w.heap.size + 1)) #[] #[]] := by
                have := (VRs.nil (upd ρ s.next (w.heap.size + 1) 0)).push (.yld (upd_self ρ s.next (w.heap.size + 1) 0))
                exact this
              exact VRs.append h1 (VRs.mono (x2 fn).sub ⟨l2, g2⟩)
            refine ⟨w.heap.size + 1, [{ target := .collected w.heap.size, args := #[] }], (w.alloc (.deferred (some []))).alloc (.loop (rec fn)), { target := .fn (.func gf) ca', args := #[.func (.yield (w.heap.size + 1)) #[] #[]] },
              (w.alloc (.deferred (some []))).alloc (.loop (rec fn)), gf, #[.func (.yield (w.heap.size + 1)) #[] #[]] ++ ca', (w.alloc (.deferred (some []))).alloc (.loop (rec fn)), ?_, ?_, fun _ _ => trivial, ?_, Fc.deep, ?_⟩
            · rw [hrec]; exact run_enterLoop_outer _ _ _ _ _
            · simp only [resolve, hq]
              simp [go_sem]
            · simp [invoke, hc.enter hcall]
            · refine Fc.calls ((hc.calls hcall (x2 fn).hr hargs).mono fun e w3 he => ?_)
              cases e with
              | panicked c => exact he.elim
              | outgrown => exact he.elim
              | returned u' =>
                obtain ⟨ρ3, x3, _⟩ := he
                have hi : ρ3 s.next = some (w.heap.size + 1, 0) := x3.sub _ _ (upd_self _ _ _ _)
                -- what a mark says
                have hm2 : Marks n0 (upd ρ s.next (w.heap.size + 1) 0) (s.new (.loop F ps.toList asg bd .ready)) ((w.alloc (.deferred (some []))).alloc (.loop (rec fn))) ({ target := .collected w.heap.size, args := #[] } :: D) := by
                  refine ⟨⟨w.heap.size, rfl, hn, ?_, ?_, fun m' hm' D' hD' => hM.lt m' hm' D' hD'⟩, hM.ext (x2 fn)⟩
                  · exact (Below.heap_alloc _ _ _ (by simp)).trans (World.alloc_heap_new w _)
                  · rintro ⟨i, b, z, h1, h2, h3⟩
                    by_cases hi' : i = s.next
                    · subst hi'; rw [upd_self] at h3; simp at h3
                    · rw [show upd ρ s.next (w.heap.size + 1) 0 i = ρ i by simp [upd, hi']] at h3
                      have := hr.below _ _ _ h3; omega
                have fin : ∀ {F0 : Fr} {qs : List Nat} {c1 c2 : Code} {p : Pend}, s3.get s.next = some (.loop F0 qs c1 c2 p) → p ≠ .busy → s' = s3.set s.next .dead → F' = F →
                    ∃ rc : Loop, (Instr.endLoop (w.heap.size + 1)).run P w3 = .ok rc.pending (w3.putObj (w.heap.size + 1) (.loop { rc with state := .exhausted })) ∧ PendR p rc.state rc.pending ∧
                      Q o.toExit { a with defers := { target := .collected w.heap.size, args := #[] } :: D } (w3.putObj (w.heap.size + 1) (.loop { rc with state := .exhausted })) := by
                  intro F0 qs c1 c2 p hp hnb hs' hF'
                  obtain ⟨rc, k1, _, _, _, _, _, _, k2⟩ := x3.hr.loop hp hi
                  have hnb' : rc.state ≠ .busy := by
                    cases p with
                    | ready => rw [k2.1]; simp
                    | busy => exact absurd rfl hnb
                    | done o => rw [k2.1]; simp
                  refine ⟨rc, run_endLoop k1 hnb', k2, ?_⟩
                  have x4 : Ext ρ3 s3 w3 ρ3 (s3.set s.next .dead) (w3.putObj (w.heap.size + 1) (.loop { rc with state := .exhausted })) := Ext.loop x3.hr hp rfl hi trivial
                  subst hs'; subst hF'
                  have x5 := (x2 fn).trans (x3.trans x4)
                  exact hk _ _ _ _ x5 ⟨rfl, hF.size, fun t v e => (hF.get t v e).mono x5.sub, hF.lt⟩ (hm2.ext (x3.trans x4))
                unfold rangeEnd at h'
                have hdef : a.defers = D := hF.defers
                split at h'
                · rename_i hp
                  cases h'
                  obtain ⟨rc, k1, k2, k3⟩ := fin hp (by simp) rfl rfl
                  refine ⟨_, _, k1, ?_⟩
                  rw [k2.2] at k3 ⊢
                  rw [hdef]; exact k3
                · rename_i o' hp
                  cases h'
                  obtain ⟨rc, k1, k2, k3⟩ := fin hp (by simp) rfl rfl
                  refine ⟨_, _, k1, ?_⟩
                  rw [k2.2.1] at k3 ⊢
                  cases o with
                  | normal => exact absurd rfl k2.2.2
                  | exit i => dsimp only [Out.jump]; rw [hdef]; exact wpIn_exit k3
                  | ret => dsimp only [Out.jump]; rw [hdef]; exact wpIn_ret k3
                · cases h'
        · cases h'


omit [Sym] in
theorem argsLoc_get : ∀ {l : List AV} {i : Nat} {t : Tr AV} {j : Nat} {v : AV}, (argsLoc l i t).get j = some v → (i ≤ j ∧ l[j - i]? = some v) ∨ t.get j = some v
  | [], i, t, j, v, h => .inr h
  | x :: l, i, t, j, v, h => by
    have h' : (argsLoc l (i + 1) (t.set x i)).get j = some v := h
    rcases argsLoc_get h' with ⟨h1, h2⟩ | h1
    · refine .inl ⟨by omega, ?_⟩
      rw [show j - i = j - (i + 1) + 1 by omega]
      simpa using h2
    · rcases Tr.get_set h1 with ⟨rfl, rfl⟩ | ⟨_, h2⟩
      · exact .inl ⟨Nat.le_refl _, by simp⟩
      · exact .inr h2

theorem frameA_run {ρ : BMap} {thr : Nat} {fn : Func} {args : List AV} {args' : Array Value} {F : Fr} (h : frameA thr fn args = some F) (ha : VRs ρ args args') :
    FrR [] ρ F { tmps := args' ++ Array.replicate (fn.ntmps - args'.size) undef, defers := [] } := by
  replace h := cond_some h; obtain ⟨h1, h⟩ := h
  replace h := cond_some h; obtain ⟨h2, h⟩ := h
  cases h
  have h2 := Nat.le_of_ble_eq_true h2
  rw [llen_eq, ha.1] at h2
  have hget : ∀ {t v}, Fr.get ⟨[], argsLoc args 0 .nil, thr, fn.ntmps⟩ t = some v → args[t]? = some v := by
    intro t v e
    have e' : cond (Nat.blt t thr) ((argsLoc args 0 .nil).get t) (assoc [] t) = some v := by rw [← Fr.get_eq ⟨[], argsLoc args 0 .nil, thr, fn.ntmps⟩ t]; exact e
    cases hb : Nat.blt t thr with
    | true =>
      rw [hb] at e'
      rcases argsLoc_get e' with ⟨_, g⟩ | g
      · simpa using g
      · cases g
    | false => rw [hb] at e'; cases e'
  refine ⟨rfl, by simp; omega, fun t v e => ?_, fun t v e => ?_⟩
  · obtain ⟨v', e1, e2⟩ := ha.get (hget e)
    have hlt := (Array.getElem?_eq_some_iff.1 e1).1
    have : (args' ++ Array.replicate (fn.ntmps - args'.size) undef).getD t undef = v' := by
      simp only [Array.getD_eq_getD_getElem?]
      rw [Array.getElem?_append_left hlt, e1]; rfl
    rw [this]; exact e2
  · have := (List.getElem?_eq_some_iff.1 (hget e)).1
    show t < fn.ntmps
    rw [ha.1] at this; omega

theorem resA_run {P : Program} {D : List Deferred} {ρ : BMap} {F : Fr} {s : St} {a : Act} {w : World} (hF : FrR D ρ F a) (hr : HR ρ s w) {f : ResultVar → Sem Value} (f1 : ∀ t, f (.tmp t) = pure (a.tmps.getD t undef))
    (f2 : ∀ x t, f (.cell x t) = (do loadVar t (← asAddr (a.tmps.getD x undef)))) {r : ResultVar} {v : AV} (h : resA P F s r = some v) : ∃ v', (f r).run P w = .ok v' w ∧ VR ρ v v' := by
  cases r with
  | tmp t => exact ⟨_, by rw [f1]; rfl, hF.get t v h⟩
  | cell x t =>
    replace h := ob_some (show ob (F.get x) _ = _ from h); obtain ⟨y, hy, h⟩ := h
    have hx := hF.get x y hy
    obtain ⟨v', h1, h2⟩ := loadA_run h hr hx
    refine ⟨v', ?_, h2⟩
    rw [f2]
    generalize a.tmps.getD x undef = q at hx h1
    cases hx <;> first | (cases h; done) | (simpa [Instr.loadAt, Instr.sureAddr, asAddr] using h1)

theorem resultsA_run {P : Program} {D : List Deferred} {ρ : BMap} {F : Fr} {s : St} {a : Act} {w : World} (hF : FrR D ρ F a) (hr : HR ρ s w) {fn : Func} {v : AV} (h : resultsA P fn F s = some v) :
    ∃ v', (results fn a.tmps).run P w = .ok v' w ∧ VR ρ v v' := by
  replace h := ob_some h; obtain ⟨vs, hvs, h⟩ := h
  have key : ∀ (f : ResultVar → Sem Value), (∀ t, f (.tmp t) = pure (a.tmps.getD t undef)) → (∀ x t, f (.cell x t) = (do loadVar t (← asAddr (a.tmps.getD x undef)))) →
      ∀ (l : List ResultVar) (vs : List AV), lmapO (resA P F s) l = some vs → ∃ us : List Value, (l.mapM f).run P w = .ok us w ∧ VRs ρ vs us.toArray := by
    intro f f1 f2 l
    induction l with
    | nil => intro vs h; cases h; exact ⟨[], rfl, VRs.nil ρ⟩
    | cons r l ih =>
      intro vs h
      obtain ⟨b, q, hb, hq, rfl⟩ := lmapO_cons h
      obtain ⟨b', r1, v1⟩ := resA_run hF hr f1 f2 hb
      obtain ⟨us, r2, v2⟩ := ih q hq
      refine ⟨b' :: us, ?_, ?_⟩
      · rw [List.mapM_cons]
        simp only [Sem.run_bind, r1, Result.andThen_ok, r2, Sem.run_pure]
      · have := ((VRs.nil ρ).push v1).append v2
        simpa using this
  have arr : ∀ (f : ResultVar → Sem Value), (∀ t, f (.tmp t) = pure (a.tmps.getD t undef)) → (∀ x t, f (.cell x t) = (do loadVar t (← asAddr (a.tmps.getD x undef)))) →
      ∃ us : List Value, (fn.results.mapM f).run P w = .ok us.toArray w ∧ VRs ρ vs us.toArray := by
    intro f f1 f2
    obtain ⟨us, h1, h2⟩ := key f f1 f2 _ _ hvs
    refine ⟨us, ?_, h2⟩
    rw [Array.mapM_eq_mapM_toList]
    simp only [Sem.run_map, h1, Result.andThen_ok]
  have fin : ∀ us : List Value, VRs ρ vs us.toArray → ∃ v', (pure (if h : us.toArray.size = 1 then us.toArray[0] else .tuple us.toArray) : Sem Value).run P w = .ok v' w ∧ VR ρ v v' := by
    intro us hv
    split at h
    · rename_i v0
      cases h
      have hs := hv.1
      cases us with
      | nil => simp at hs
      | cons u us =>
        cases us with
        | nil => exact ⟨u, by simp, hv.2 0 _ _ (by simp) (by simp)⟩
        | cons u2 us => simp at hs
    · rename_i hne
      cases h
      have hs : ¬ us.toArray.size = 1 := by
        intro e
        rw [← hv.1] at e
        cases vs with
        | nil => simp at e
        | cons v0 vs =>
          cases vs with
          | nil => exact hne v0 rfl
          | cons v1 vs => simp at e
      exact ⟨.tuple us.toArray, by rw [dif_neg hs]; rfl, .tuple hv.1 hv.2⟩
  obtain ⟨us, h1, h2⟩ := arr (fun
    | .tmp t => pure (a.tmps.getD t undef)
    | .cell x t => do loadVar t (← asAddr (a.tmps.getD x undef))) (fun t => rfl) (fun x t => rfl)
  obtain ⟨v', h3, h4⟩ := fin us h2
  exact ⟨v', (Sem.run_bind' P _ _ w).trans ((congrArg (fun r => Result.andThen r _) h1).trans h3), h4⟩


theorem marks_leave {P : Program} {fn : Func} {tmps : Array Value} {R : Ending → World → Prop} {ρ0 : BMap} {s0 : St} {w0 : World} {ρ : BMap} {s : St} : ∀ (l : List Deferred) (w : World), Marks w0.heap.size ρ s w l → Ext ρ0 s0 w0 ρ s w →
    (∀ w', Ext ρ0 s0 w0 ρ s w' → ∃ v, (results fn tmps).run P w' = .ok v w' ∧ R (.returned v) w') → LeavesInM Fence.wide 0 P fn tmps R l .returning w
  | [], w, _, hx, hk => hk w hx
  | m :: ms, w, ⟨⟨D, h1, h2, h3, h4, h5⟩, h6⟩, hx, hk => by
    refine ⟨by simp, .inl ⟨D, w.putObj D (.deferred none), by rw [h1], run_takeDeferred h3, ?_⟩⟩
    refine marks_leave ms _ ?_ (hx.drop h2 h4) hk
    have turn : ∀ {l : List Deferred}, Marks w0.heap.size ρ s w l → (∀ m' ∈ l, ∀ D', m'.target = .collected D' → D' < D) → Marks w0.heap.size ρ s (w.putObj D (.deferred none)) l := by
      intro l
      induction l with
      | nil => exact fun _ _ => trivial
      | cons x l ih =>
        rintro ⟨⟨E, g1, g2, g3, g4, g5⟩, g6⟩ hlt
        have hE := hlt x (by simp) E (by rw [g1])
        exact ⟨⟨E, g1, g2, (World.putObj_heap_other (by omega)).trans g3, g4, g5⟩, ih g6 fun m' hm' => hlt m' (List.mem_cons_of_mem _ hm')⟩
    exact turn h6 h5


noncomputable def backF (P : Program) (fn : Func) (F : Fr) (s : St) : Option (AV × St) := Option.rec none (fun v => some (v, s)) (resultsA P fn F s)

abbrev RF := Program → Func → Fr → St → Option (AV × St)
noncomputable def rExit (_ : Nat) : RF := fun _ _ _ _ => none

noncomputable def bodyF (P : Program) (callK : CallK) (thr fuel : Nat) (fn : Func) (args : List AV) (s : St) : Option (AV × St) :=
  Bool.rec (Option.rec none (fun c => Option.rec none (fun F => Option.rec none (fun r => Out.rec (motive := fun _ => RF) backF rExit backF r.1 P fn r.2.1 r.2.2) (execF true P callK fuel c F s)) (frameA thr fn args)) fn.body) none (fn.name == "runtime.NumGoroutine")

noncomputable def putsF (ps : List Nat) : List AV → Fr → Option Fr :=
  List.rec (motive := fun _ => List AV → Fr → Option Fr) (fun vs F => match vs with
    | [] => some F
    | _ => none) (fun t _ ih vs F => match vs with
    | [] => none
    | v :: vs => ih vs (F.put t v)) ps

noncomputable def isNormal : Out → Bool
  | .normal => true
  | _ => false

noncomputable def pendOf : Out → Pend
  | .normal => .ready
  | o => .done o

noncomputable def roundF (P : Program) (callK : CallK) (fuel : Nat) (i : Nat) (args : List AV) (s : St) : Option (AV × St) :=
  match s.get i with
  | some (.loop F ps asg bd .ready) => ob (putsF ps args F) fun F1 =>
    match execF false P callK fuel asg F1 s with
    | some (.normal, F2, s2) =>
      (match s2.get i with
       | some (.loop G qs c1 c2 .ready) => ob (execF false P callK fuel bd F2 (s2.set i (.loop G qs c1 c2 .busy))) fun x =>
          (match x.2.2.get i with
           | some (.loop H us d1 d2 .busy) => some (.bool (isNormal x.1), x.2.2.set i (.loop H us d1 d2 (pendOf x.1)))
           | _ => none)
       | _ => none)
    | _ => none
  | _ => none

noncomputable def gFn (f : FuncId) : Program → Nat → Nat → CallK → List AV → St → Option (AV × St) := fun P thr fuel callK args s => Option.rec none (fun fn => bodyF P callK thr fuel fn args s) (nth P.funcs.toList f)
noncomputable def gYld (i : Nat) : Program → Nat → Nat → CallK → List AV → St → Option (AV × St) := fun P _ fuel callK args s => roundF P callK fuel i args s

noncomputable def goF (P : Program) (thr fuel : Nat) (callK : CallK) (f : Tgt) (args : List AV) (s : St) : Option (AV × St) :=
  Tgt.rec (motive := fun _ => Program → Nat → Nat → CallK → List AV → St → Option (AV × St)) gFn gYld f P thr fuel callK args s

theorem putsF_run {D : List Deferred} {ρ : BMap} : ∀ {ps : List Nat} {vs : List AV} {F F' : Fr} {us : List Value} {tmps : Array Value}, putsF ps vs F = some F' → VRs ρ vs us.toArray → FrR D ρ F { tmps := tmps, defers := D } →
    ps.length = us.length ∧ FrR D ρ F' { tmps := (ps.zip us).foldl (fun t p => t.setIfInBounds p.1 p.2) tmps, defers := D }
  | [], vs, F, F', us, tmps, h, hv, hF => by
    cases vs with
    | nil =>
      cases (show some F = some F' from h)
      have : us = [] := by have := hv.1; simp at this; exact List.eq_nil_of_length_eq_zero this.symm
      subst this
      exact ⟨rfl, hF⟩
    | cons _ _ => cases (show (none : Option Fr) = some F' from h)
  | t :: ps, vs, F, F', us, tmps, h, hv, hF => by
    cases vs with
    | nil => cases (show (none : Option Fr) = some F' from h)
    | cons v vs =>
      have h : putsF ps vs (F.put t v) = some F' := h
      obtain ⟨u, b, hb, hu, hus⟩ := hv.cons_inv
      have hb' : us = u :: b.toList := by
        have := congrArg Array.toList hb
        simpa using this
      subst hb'
      obtain ⟨h1, h2⟩ := putsF_run (us := b.toList) (tmps := tmps.setIfInBounds t u) h (by simpa using hus) (hF.put hu (some t))
      exact ⟨by simp [h1], by simpa using h2⟩

theorem goF_sound {P : Program} (hm : P.follows .mixedOrders = true) (thr fuel : Nat) {callK : CallK} (hc : CallSound P callK) : CallSound P (goF P thr fuel callK) := by
  have open_ : ∀ {f : FuncId} {args : List AV} {s s' : St} {v : AV}, goF P thr fuel callK (.fn f) args s = some (v, s') →
      ∃ fn c F o F', P.funcs[f]? = some fn ∧ (fn.name == "runtime.NumGoroutine") = false ∧ fn.body = some c ∧ frameA thr fn args = some F ∧
        execF true P callK fuel c F s = some (o, F', s') ∧ (o = .normal ∨ o = .ret) ∧ resultsA P fn F' s' = some v := by
    intro f args s s' v h
    replace h := ob_some (show ob (nth P.funcs.toList f) (fun fn => bodyF P callK thr fuel fn args s) = some (v, s') from h)
    obtain ⟨fn, hfn, h'⟩ := h
    rw [nth_eq] at hfn
    have hfn' : P.funcs[f]? = some fn := by simpa using hfn
    unfold bodyF at h'
    cases hname : fn.name == "runtime.NumGoroutine" with
    | true => rw [hname] at h'; cases h'
    | false =>
      rw [hname] at h'
      replace h' := ob_some (show ob fn.body (fun c => ob (frameA thr fn args) fun F => ob (execF true P callK fuel c F s) fun r => Out.rec (motive := fun _ => RF) backF rExit backF r.1 P fn r.2.1 r.2.2) = some (v, s') from h')
      obtain ⟨c, hbody, h'⟩ := h'
      replace h' := ob_some h'; obtain ⟨F, hF, h'⟩ := h'
      replace h' := ob_some h'; obtain ⟨⟨o, F1, s1⟩, he, h'⟩ := h'
      cases o with
      | exit i => cases h'
      | normal =>
        replace h' := ob_some (show ob (resultsA P fn F1 s1) (fun v => some (v, s1)) = some (v, s') from h'); obtain ⟨u, hv, h'⟩ := h'
        cases h'; exact ⟨fn, c, F, _, F1, hfn', hname, hbody, hF, he, .inl rfl, hv⟩
      | ret =>
        replace h' := ob_some (show ob (resultsA P fn F1 s1) (fun v => some (v, s1)) = some (v, s') from h'); obtain ⟨u, hv, h'⟩ := h'
        cases h'; exact ⟨fn, c, F, _, F1, hfn', hname, hbody, hF, he, .inr rfl, hv⟩
  have hd : DrawSound P callK := draw_sound hm callK hc
  refine ⟨fun {g args s s' v ρ w args'} h hr ha => ?_, fun {g args s s' v w args'} h => ?_, fun {i args s s' v ρ w args' l z} h hr ha hi r n => ?_⟩
  · obtain ⟨fn, c, F, o, F', hfn, _, hc', hF, he, ho, hres⟩ := open_ h
    refine (callsIn_wide (n := 0)).1 (callsIn_of_wp_marks hfn hc' trivial ?_)
    refine (execF_run hc hd true fuel he (r := none) (m := 0) (ρ := ρ) (n0 := w.heap.size) (fun _ => rfl) (frameA_run hF ha) hr trivial (Nat.le_refl _) fun D' ρ' a' w' e1 f1 m1 => ?_).1
    have leave : LeavesInM Fence.wide 0 P fn a'.tmps (CR ρ s w v s') a'.defers .returning w' := by
      rw [f1.defers]
      refine marks_leave D' w' m1 e1 fun w2 e2 => ?_
      obtain ⟨v', r1, r2⟩ := resultsA_run f1 e2.hr hres
      exact ⟨v', r1, ρ', e2, r2⟩
    rcases ho with rfl | rfl
    · exact leave
    · exact leave
  · obtain ⟨fn, c, F, o, F', hfn, hname, hc', _⟩ := open_ h
    have hn : ¬ fn.name = "runtime.NumGoroutine" := by simpa using hname
    simp [callFunc, hfn, hn, hc']
  · have h : roundF P callK fuel i args s = some (v, s') := h
    unfold roundF at h
    split at h
    · rename_i F ps asg bd hget
      replace h := ob_some h; obtain ⟨F1, hF1, h⟩ := h
      split at h
      · rename_i F2 s2 he1
        split at h
        · rename_i G qs c1 c2 hget2
          replace h := ob_some h; obtain ⟨⟨o, F3, s3⟩, he2, h⟩ := h
          dsimp only at h
          split at h
          · rename_i H us d1 d2 hget3
            cases h
            obtain ⟨rec, k1, k2, k3, k4, k5, k6, k7, k8⟩ := hr.loop hget hi
            have hfr0 : FrR [] ρ F { tmps := rec.tmps, defers := [] } := ⟨rfl, k5, k6, k7⟩
            obtain ⟨q1, q2⟩ := putsF_run (us := args'.toList) hF1 (by simpa using ha) hfr0
            have hsz : args'.size = rec.params.size := by
              have : rec.params.toList.length = args'.toList.length := by rw [k2]; exact q1
              simpa using this.symm
            refine ⟨rec.fn, _, rec.assign, rec.body, run_yield k1 hsz, roundIn_of_wpIn trivial ?_⟩
            have htm : (rec.params.zip args').foldl (fun tmps (x : Nat × Value) => tmps.setIfInBounds x.1 x.2) rec.tmps = (ps.zip args'.toList).foldl (fun t p => t.setIfInBounds p.1 p.2) rec.tmps := by
              rw [← Array.foldl_toList, Array.toList_zip, k2]
            have hsome : (Fc r).inRound l = Fc (some l) := rfl
            rw [hsome]
            have q2' : FrR [] ρ F1 { tmps := (rec.params.zip args').foldl (fun tmps (x : Nat × Value) => tmps.setIfInBounds x.1 x.2) rec.tmps, defers := [] } := by rw [htm]; exact q2
            rw [k3, k4]
            refine (execF_run hc hd false fuel he1 (r := some l) (m := n) (ρ := ρ) (n0 := 0) (fun e => by cases e) q2' hr trivial (Nat.zero_le _) fun D' ρ2 a2 w2 e1 f1 m1 => ?_).1
            have hi2 := e1.sub _ _ hi
            obtain ⟨rec2, b1, b2, b3, b4, b5, b6, b7, b8⟩ := e1.hr.loop hget2 hi2
            refine ⟨_, run_beginRound b1 b8.1, ?_⟩
            have x2 : Ext ρ2 s2 w2 ρ2 (s2.set i (.loop G qs c1 c2 .busy)) (w2.putObj l (.loop { rec2 with state := .busy })) := Ext.loop e1.hr hget2 rfl hi2 ⟨b2, b3, b4, b5, b6, b7, rfl, b8.2⟩
            refine (execF_run hc hd false fuel he2 (r := some l) (m := n) (ρ := ρ2) (n0 := 0) (fun e => by cases e) (f1.mono (x2.sub)) x2.hr (m1.ext x2) (Nat.zero_le _) fun D'' ρ3 a3 w3 e3 f3 m3 => ?_).1
            have hi3 := e3.sub _ _ hi2
            obtain ⟨rec3, g1, g2, g3, g4, g5, g6, g7, g8⟩ := e3.hr.loop hget3 hi3
            have done : ∀ (jump : Option Code), jump = o.jump → ∃ v' w', (Instr.endRound l jump).run P w3 = .ok v' w' ∧ CR ρ s w (.bool (isNormal o)) (s3.set i (.loop H us d1 d2 (pendOf o))) (.returned v') w' := by
              intro jump hj
              refine ⟨_, _, run_endRound jump g1, ρ3, e1.trans (x2.trans (e3.trans (Ext.loop e3.hr hget3 rfl hi3 ⟨g2, g3, g4, g5, g6, g7, ?_⟩))), ?_⟩
              · subst hj
                cases o with
                | normal => exact ⟨rfl, rfl⟩
                | exit id => exact ⟨rfl, rfl, by simp⟩
                | ret => exact ⟨rfl, rfl, by simp⟩
              · subst hj
                cases o <;> exact .bool _
            cases o with
            | normal => exact done none rfl
            | exit id => exact done (some (.exit id)) rfl
            | ret => exact done (some .ret) rfl
          · cases h
        · cases h
      · cases h
    · cases h

end Go.Proofs.Bx

namespace Go.Proofs.Bx
open Go


noncomputable def bytesSame (l : List UInt8) : List UInt8 → Bool :=
  List.rec (motive := fun _ => List UInt8 → Bool) (fun m => match m with
    | [] => true
    | _ => false) (fun a _ ih m => match m with
    | [] => false
    | b :: m => Bool.rec false (ih m) (Nat.beq a.toNat b.toNat)) l

theorem bytesSame_eq : ∀ {l m : List UInt8}, bytesSame l m = true → l = m
  | [], m, h => by
    cases m with
    | nil => rfl
    | cons _ _ => cases h
  | a :: l, m, h => by
    cases m with
    | nil => cases h
    | cons b m =>
      have h' : (Bool.rec false (bytesSame l m) (Nat.beq a.toNat b.toNat) : Bool) = true := h
      cases hb : Nat.beq a.toNat b.toNat with
      | false => rw [hb] at h'; cases h'
      | true =>
        rw [hb] at h'
        rw [UInt8.toNat_inj.1 (Nat.eq_of_beq_eq_true hb), bytesSame_eq h']

noncomputable def strSame (s t : ByteArray) : Bool := bytesSame s.data.toList t.data.toList

theorem strSame_eq {s t : ByteArray} (h : strSame s t = true) : s = t := by
  have h1 := bytesSame_eq h
  obtain ⟨⟨a⟩⟩ := s
  obtain ⟨⟨b⟩⟩ := t
  cases h1; rfl


inductive Base where
  | off (e : Int)
  | num (n : Int)

def Base.val (S : Sym) : Base → Int
  | .off e => S.val + e
  | .num n => n


section meet
variable {σ : Type} (bnd : Nat → Nat → σ → Option σ) (sbd : Int → Nat → AV → σ → Option σ)

noncomputable def capMeets (p c : Cap) : Bool :=
  match p, c with
  | .exact n, .exact m => Nat.beq n m
  | .atLeast n b k, .atLeast m b' k' => Nat.ble n m && (Nat.beq b b' && Nat.beq k k')
  | _, _ => false

noncomputable def placeMeets (p a : Option (Nat × Nat)) (x : σ) : Option σ :=
  match p, a with
  | none, none => some x
  | some (b, o), some (b', o') => cond (Nat.beq o o') (bnd b b' x) none
  | _, _ => none

noncomputable def fnMeets (p a : Fn) : Bool :=
  match p, a with
  | .func f, .func g => Nat.beq f g
  | _, _ => false

noncomputable def meetV (p : AV) : AV → σ → Option σ :=
  AV.rec (motive_1 := fun _ => AV → σ → Option σ) (motive_2 := fun _ => List AV → σ → Option σ)
    (fun _ x => some x)
    (fun b v x => match v with
      | .bool c => cond (b == c) (some x) none
      | _ => none)
    (fun k n v x => match v with
      | .int j m => cond (kindEq k j) (cond (n == m) (some x) none) none
      | _ => none)
    (fun d m v x => sbd d m v x)
    (fun _ _ _ _ _ => none)
    (fun _ _ _ _ => none)
    (fun v x => match v with
      | .empty => some x
      | .slice _ n _ => cond (Nat.beq n 0) (some x) none
      | _ => none)
    (fun s v x => match v with
      | .str t => cond (strSame s t) (some x) none
      | _ => none)
    (fun a v x => match v with
      | .ptr c => placeMeets bnd a c x
      | _ => none)
    (fun a n c v x => match v with
      | .slice a' m c' => cond (Nat.beq n m) (cond (capMeets c c') (placeMeets bnd a a' x) none) none
      | _ => none)
    (fun r v x => match v with
      | .map r' => match r, r' with
        | none, none => some x
        | some i, some j => bnd i j x
        | _, _ => none
      | _ => none)
    (fun fn _ _ ih1 ih2 v x => match v with
      | .func fn' fi ca => cond (fnMeets fn fn') (ob (ih1 fi x) fun x => ih2 ca x) none
      | _ => none)
    (fun v x => match v with
      | .nilFunc => some x
      | _ => none)
    (fun t _ ih v x => match v with
      | .iface u w => cond (Nat.beq t u) (ih w x) none
      | _ => none)
    (fun v x => match v with
      | .nilIface => some x
      | _ => none)
    (fun i v x => match v with
      | .yld j => bnd i j x
      | _ => none)
    (fun _ ih v x => match v with
      | .agg l => ih l x
      | _ => none)
    (fun _ ih v x => match v with
      | .tuple l => ih l x
      | _ => none)
    (fun l x => match l with
      | [] => some x
      | _ => none)
    (fun _ _ ih1 ih2 l x => match l with
      | [] => none
      | v :: l => ob (ih1 v x) fun x => ih2 l x) p

noncomputable def meetL (p : List AV) : List AV → σ → Option σ :=
  List.rec (motive := fun _ => List AV → σ → Option σ)
    (fun l x => match l with
      | [] => some x
      | _ => none)
    (fun a _ ih l x => match l with
      | [] => none
      | v :: l => ob (meetV bnd sbd a v x) fun x => ih l x) p

noncomputable def meetP (p : List AV) : List AV → σ → Option σ :=
  List.rec (motive := fun _ => List AV → σ → Option σ)
    (fun _ x => some x)
    (fun a _ ih l x => match l with
      | [] => none
      | v :: l => ob (meetV bnd sbd a v x) fun x => ih l x) p

noncomputable def meetE (p : List (AV × AV × Nat)) : List (AV × AV × Nat) → σ → Option σ :=
  List.rec (motive := fun _ => List (AV × AV × Nat) → σ → Option σ)
    (fun l x => match l with
      | [] => some x
      | _ => none)
    (fun a _ ih l x => match l with
      | [] => none
      | v :: l => ob (meetV bnd sbd a.1 v.1 x) fun x => ob (meetV bnd sbd a.2.1 v.2.1 x) fun x => cond (Nat.beq a.2.2 v.2.2) (ih l x) none) p

noncomputable def tyOk (a b : Option TypeId) : Bool :=
  match a, b with
  | none, _ => true
  | some a, some b => Nat.beq a b
  | some _, none => false

theorem tyOk_some {a b : Option TypeId} (h : tyOk a b = true) {t : TypeId} (e : a = some t) : b = some t := by
  subst e
  cases b with
  | none => cases h
  | some b => exact congrArg some (Nat.eq_of_beq_eq_true h).symm

noncomputable def meetB (p b : Blk) (x : σ) : Option σ :=
  match p, b with
  | .cells cs rw ty, .cells cs' rw' ty' => cond (cond rw rw' true) (cond (tyOk ty ty') (meetP bnd sbd cs cs' x) none) none
  | .map es ck, .map es' ck' => cond (Nat.beq ck ck') (meetE bnd sbd es es' x) none
  | .mapR es ck, .map es' ck' => cond (Nat.beq ck ck') (meetE bnd sbd es es' x) none
  | .mapR es ck, .mapR es' ck' => cond (Nat.beq ck ck') (meetE bnd sbd es es' x) none
  | _, _ => none

structure Binds (I : σ → Nat → Option Nat) (J : σ → Option Base) (Pr : σ → Prop) : Prop where
  at' : ∀ {i j x y}, bnd i j x = some y → I y i = some j
  mono : ∀ {i j x y}, bnd i j x = some y → ∀ k l, I x k = some l → I y k = some l
  keep : ∀ {i j x y}, bnd i j x = some y → Pr x → Pr y
  base : ∀ {i j x y}, bnd i j x = some y → ∀ b, J x = some b → J y = some b
  smono : ∀ {d m v x y}, sbd d m v x = some y → ∀ k l, I x k = some l → I y k = some l
  skeep : ∀ {d m v x y}, sbd d m v x = some y → Pr x → Pr y
  sbase : ∀ {d m v x y}, sbd d m v x = some y → ∀ b, J x = some b → J y = some b
  sat : ∀ {d m v x y}, sbd d m v x = some y → ∀ {S S' : Sym} {ρ ρ' : BMap} {v' : Value}, (∀ b, J y = some b → S'.val = b.val S) → @VR S ρ v v' → @VR S' ρ' (.sym d m) v'

def After (I : σ → Nat → Option Nat) (J : σ → Option Base) (Pr : σ → Prop) (x y : σ) : Prop := (∀ k l, I x k = some l → I y k = some l) ∧ (Pr x → Pr y) ∧ ∀ b, J x = some b → J y = some b

def Fits (J : σ → Option Base) (S S' : Sym) (x : σ) : Prop := ∀ b, J x = some b → S'.val = b.val S

def via (R : Nat → Option Nat) (ρ : BMap) : BMap := fun i => (R i).bind ρ

variable {bnd sbd} {I : σ → Nat → Option Nat} {J : σ → Option Base} {Pr : σ → Prop}

theorem After.refl (x : σ) : After I J Pr x x := ⟨fun _ _ h => h, fun h => h, fun _ h => h⟩
theorem After.trans {x y z : σ} (h : After I J Pr x y) (k : After I J Pr y z) : After I J Pr x z := ⟨fun i l e => k.1 i l (h.1 i l e), fun e => k.2.1 (h.2.1 e), fun b e => k.2.2 b (h.2.2 b e)⟩
theorem After.fits {x y : σ} (h : After I J Pr x y) {S S' : Sym} (hf : Fits J S S' y) : Fits J S S' x := fun b e => hf b (h.2.2 b e)
theorem After.sub {x y : σ} (h : After I J Pr x y) (ρ : BMap) : Sub (via (I x) ρ) (via (I y) ρ) := fun i r e => by
  unfold via at e ⊢
  cases hx : I x i with
  | none => rw [hx] at e; cases e
  | some l => rw [hx] at e; rw [h.1 i l hx]; exact e

theorem capMeets_ok {p c : Cap} (h : capMeets p c = true) {o z n : Nat} (hc : c.ok o z n) : p.ok o z n := by
  unfold capMeets at h
  split at h
  · have := Nat.eq_of_beq_eq_true h; subst this; exact hc
  · simp only [Bool.and_eq_true] at h
    obtain ⟨h1, h2, h3⟩ := h
    have h1 := Nat.le_of_ble_eq_true h1
    have h2 := Nat.eq_of_beq_eq_true h2
    have h3 := Nat.eq_of_beq_eq_true h3
    subst h2; subst h3
    exact ⟨Nat.le_trans h1 hc.1, hc.2⟩
  · cases h

theorem via_at {R : Nat → Option Nat} {ρ : BMap} {i j : Nat} {q : Nat × Nat} (h : R i = some j) (hj : ρ j = some q) : via R ρ i = some q := by
  unfold via; rw [h]; exact hj

variable (hb : Binds bnd sbd I J Pr)
include hb

theorem placeMeets_after {p a : Option (Nat × Nat)} {x y : σ} (h : placeMeets bnd p a x = some y) : After I J Pr x y := by
  unfold placeMeets at h
  split at h
  · cases h; exact .refl _
  · replace h := cond_some h; exact ⟨hb.mono h.2, hb.keep h.2, hb.base h.2⟩
  · cases h

theorem meetV_ok (p : AV) : ∀ {v : AV} {x y : σ}, meetV bnd sbd p v x = some y → After I J Pr x y ∧ ∀ {S S' : Sym} {ρ : BMap} {v' : Value}, Fits J S S' y → @VR S ρ v v' → @VR S' (via (I y) ρ) p v' := by
  refine AV.rec (motive_1 := fun p => ∀ {v : AV} {x y : σ}, meetV bnd sbd p v x = some y → After I J Pr x y ∧ ∀ {S S' : Sym} {ρ : BMap} {v' : Value}, Fits J S S' y → @VR S ρ v v' → @VR S' (via (I y) ρ) p v')
    (motive_2 := fun l => ∀ {m : List AV} {x y : σ}, meetV bnd sbd (.agg l) (.agg m) x = some y → After I J Pr x y ∧ ∀ {S S' : Sym} {ρ : BMap} {a : Array Value}, Fits J S S' y → @VRs S ρ m a → @VRs S' (via (I y) ρ) l a)
    ?_ ?_ ?_ ?_ ?_ ?_ ?_ ?_ ?_ ?_ ?_ ?_ ?_ ?_ ?_ ?_ ?_ ?_ ?_ ?_ p
  · intro v x y h
    cases (show some x = some y from h)
    exact ⟨.refl _, fun _ _ => .undef _⟩
  · intro b v x y h
    cases v <;> try (cases (show none = some y from h); done)
    replace h := cond_some h
    obtain ⟨h1, h2⟩ := h
    cases h2
    have := eq_of_beq h1
    subst this
    exact ⟨.refl _, fun hS hv => by cases hv; exact .bool _⟩
  · intro k n v x y h
    cases v <;> try (cases (show none = some y from h); done)
    replace h := cond_some h
    obtain ⟨h1, h⟩ := h
    replace h := cond_some h
    obtain ⟨h2, h3⟩ := h
    cases h3
    have h1 := of_decide_eq_true h1
    have h2 := eq_of_beq h2
    subst h1; subst h2
    exact ⟨.refl _, fun _ hv => by cases hv; exact .int _ _⟩
  · intro d m v x y h
    have h : sbd d m v x = some y := h
    exact ⟨⟨hb.smono h, hb.skeep h, hb.sbase h⟩, fun hS hv => hb.sat h hS hv⟩
  · intro k m r v x y h
    cases (show none = some y from h)
  · intro k m v x y h
    cases (show none = some y from h)
  · intro v x y h
    cases v <;> try (cases (show none = some y from h); done)
    · cases (show some x = some y from h)
      exact ⟨.refl _, fun _ hv => by cases hv; exact .empty⟩
    · rename_i a n c
      replace h := cond_some (show cond (Nat.beq n 0) (some x) none = some y from h)
      obtain ⟨h1, h2⟩ := h
      cases h2
      have h1 := Nat.eq_of_beq_eq_true h1
      subst h1
      exact ⟨.refl _, fun _ hv => by cases hv <;> exact .empty⟩
  · intro s v x y h
    cases v <;> try (cases (show none = some y from h); done)
    replace h := cond_some h
    obtain ⟨h1, h2⟩ := h
    cases h2
    have := strSame_eq h1
    subst this
    exact ⟨.refl _, fun hS hv => by cases hv; exact .str _⟩
  · intro a v x y h
    cases v <;> try (cases (show none = some y from h); done)
    rename_i c
    have h : placeMeets bnd a c x = some y := h
    refine ⟨placeMeets_after hb h, fun hS hv => ?_⟩
    unfold placeMeets at h
    split at h
    · cases hv; exact .ptrNil
    · replace h := cond_some h; obtain ⟨h1, h2⟩ := h
      have h1 := Nat.eq_of_beq_eq_true h1
      subst h1
      cases hv with
      | ptr hr => exact .ptr (via_at (hb.at' h2) hr)
    · cases h
  · intro a n c v x y h
    cases v <;> try (cases (show none = some y from h); done)
    rename_i a' m c'
    replace h := cond_some h; obtain ⟨h1, h⟩ := h
    replace h := cond_some h; obtain ⟨h2, h⟩ := h
    have h1 := Nat.eq_of_beq_eq_true h1
    subst h1
    refine ⟨placeMeets_after hb h, fun hS hv => ?_⟩
    unfold placeMeets at h
    split at h
    · cases hv with
      | sliceNil =>
        have := capMeets_ok h2 (o := 0) (z := 0) (n := 0) rfl
        cases c with
        | exact m => cases (show 0 = m from this); exact .sliceNil
        | atLeast m b k => cases h2
    · replace h := cond_some h; obtain ⟨h3, h4⟩ := h
      have h3 := Nat.eq_of_beq_eq_true h3
      subst h3
      cases hv with
      | slice hr hc hl => exact .slice (via_at (hb.at' h4) hr) (capMeets_ok h2 hc) hl
    · cases h
  · intro r v x y h
    cases v <;> try (cases (show none = some y from h); done)
    rename_i r'
    cases r with
    | none =>
      cases r' with
      | none => cases (show some x = some y from h); exact ⟨.refl _, fun hS hv => by cases hv; exact .mapNil⟩
      | some j => cases (show none = some y from h)
    | some i =>
      cases r' with
      | none => cases (show none = some y from h)
      | some j =>
        have h : bnd i j x = some y := h
        exact ⟨⟨hb.mono h, hb.keep h, hb.base h⟩, fun hS hv => by cases hv with | map hr => exact .map (via_at (hb.at' h) hr)⟩
  · intro fn fi ca ih1 ih2 v x y h
    cases v <;> try (cases (show none = some y from h); done)
    rename_i fn' fi' ca'
    replace h := cond_some h; obtain ⟨h1, h⟩ := h
    replace h := ob_some h; obtain ⟨z, h2, h3⟩ := h
    obtain ⟨a1, b1⟩ := ih1 h2
    obtain ⟨a2, b2⟩ := ih2 h3
    have hfn : fn = fn' := by
      unfold fnMeets at h1
      split at h1
      · rw [Nat.eq_of_beq_eq_true h1]
      · cases h1
    subst hfn
    refine ⟨a1.trans a2, fun hS hv => ?_⟩
    cases hv with
    | func g1 g2 k1 k2 =>
      have q1 := (b1 (ρ := _) (a2.fits hS) ⟨g1, k1⟩).mono (a2.sub _)
      have q2 := b2 (ρ := _) hS ⟨g2, k2⟩
      exact .func q1.1 q2.1 q1.2 q2.2
  · intro v x y h
    cases v <;> try (cases (show none = some y from h); done)
    cases (show some x = some y from h)
    exact ⟨.refl _, fun hS hv => by cases hv; exact .nilFunc⟩
  · intro t w ih v x y h
    cases v <;> try (cases (show none = some y from h); done)
    replace h := cond_some h; obtain ⟨h1, h⟩ := h
    have h1 := Nat.eq_of_beq_eq_true h1
    subst h1
    obtain ⟨a1, b1⟩ := ih h
    exact ⟨a1, fun hS hv => by cases hv with | iface hw => exact .iface (b1 hS hw)⟩
  · intro v x y h
    cases v <;> try (cases (show none = some y from h); done)
    cases (show some x = some y from h)
    exact ⟨.refl _, fun hS hv => by cases hv; exact .nilIface⟩
  · intro i v x y h
    cases v <;> try (cases (show none = some y from h); done)
    rename_i j
    have h : bnd i j x = some y := h
    exact ⟨⟨hb.mono h, hb.keep h, hb.base h⟩, fun hS hv => by cases hv with | yld hr => exact .yld (via_at (hb.at' h) hr)⟩
  · intro l ih v x y h
    cases v <;> try (cases (show none = some y from h); done)
    obtain ⟨a1, b1⟩ := ih h
    refine ⟨a1, fun hS hv => ?_⟩
    cases hv with
    | agg g1 k1 => have := b1 (ρ := _) hS ⟨g1, k1⟩; exact .agg this.1 this.2
  · intro l ih v x y h
    cases v <;> try (cases (show none = some y from h); done)
    obtain ⟨a1, b1⟩ := ih h
    refine ⟨a1, fun hS hv => ?_⟩
    cases hv with
    | tuple g1 k1 => have := b1 (ρ := _) hS ⟨g1, k1⟩; exact .tuple this.1 this.2
  · intro m x y h
    cases m with
    | nil => cases (show some x = some y from h); exact ⟨.refl _, fun hS hv => ⟨hv.1, fun i v v' e => by simp at e⟩⟩
    | cons _ _ => cases (show none = some y from h)
  · intro a l ih1 ih2 m x y h
    cases m with
    | nil => cases (show none = some y from h)
    | cons v m =>
      replace h := ob_some (show ob (meetV bnd sbd a v x) (fun x => meetV bnd sbd (.agg l) (.agg m) x) = some y from h); obtain ⟨z, h1, h2⟩ := h
      obtain ⟨a1, b1⟩ := ih1 h1
      obtain ⟨a2, b2⟩ := ih2 h2
      refine ⟨a1.trans a2, fun {S S' ρ a} hS hv => ?_⟩
      obtain ⟨u, us, rfl, hu, hus⟩ := @VRs.cons_inv S _ _ _ _ hv
      have q1 := (b1 (a2.fits hS) hu).mono (a2.sub _)
      have q2 := b2 hS hus
      refine ⟨by have := q2.1; simp [this]; omega, fun i w w' e e' => ?_⟩
      cases i with
      | zero => simp at e; rw [Array.getElem?_append_left (by simp)] at e'; simp at e'; subst e; subst e'; exact q1
      | succ i => rw [Array.getElem?_append_right (by simp)] at e'; exact q2.2 i w w' (by simpa using e) (by simpa using e')

theorem meetL_ok : ∀ {p l : List AV} {x y : σ}, meetL bnd sbd p l x = some y → After I J Pr x y ∧ ∀ {S S' : Sym} {ρ : BMap} {a : Array Value}, Fits J S S' y → @VRs S ρ l a → @VRs S' (via (I y) ρ) p a := by
  intro p
  induction p with
  | nil =>
    intro m x y h
    cases m with
    | nil => cases (show some x = some y from h); exact ⟨.refl _, fun hS hv => ⟨hv.1, fun i v v' e => by simp at e⟩⟩
    | cons _ _ => cases (show none = some y from h)
  | cons a l ih2 =>
    intro m x y h
    cases m with
    | nil => cases (show none = some y from h)
    | cons v m =>
      replace h := ob_some (show ob (meetV bnd sbd a v x) (fun x => meetL bnd sbd l m x) = some y from h); obtain ⟨z, h1, h2⟩ := h
      obtain ⟨a1, b1⟩ := meetV_ok hb a h1
      obtain ⟨a2, b2⟩ := ih2 h2
      refine ⟨a1.trans a2, fun {S S' ρ a} hS hv => ?_⟩
      obtain ⟨u, us, rfl, hu, hus⟩ := @VRs.cons_inv S _ _ _ _ hv
      have q1 := (b1 (a2.fits hS) hu).mono (a2.sub _)
      have q2 := b2 hS hus
      refine ⟨by have := q2.1; simp [this]; omega, fun i w w' e e' => ?_⟩
      cases i with
      | zero => simp at e; rw [Array.getElem?_append_left (by simp)] at e'; simp at e'; subst e; subst e'; exact q1
      | succ i => rw [Array.getElem?_append_right (by simp)] at e'; exact q2.2 i w w' (by simpa using e) (by simpa using e')

theorem meetP_ok : ∀ {p l : List AV} {x y : σ}, meetP bnd sbd p l x = some y → After I J Pr x y ∧ p.length ≤ l.length ∧
    ∀ (i : Nat) (q : AV), p[i]? = some q → ∃ v, l[i]? = some v ∧ ∀ {S S' : Sym} {ρ : BMap} {v' : Value}, Fits J S S' y → @VR S ρ v v' → @VR S' (via (I y) ρ) q v' := by
  intro p
  induction p with
  | nil =>
    intro m x y h
    cases (show some x = some y from h)
    exact ⟨.refl _, Nat.zero_le _, fun i q e => by simp at e⟩
  | cons a l ih2 =>
    intro m x y h
    cases m with
    | nil => cases (show none = some y from h)
    | cons v m =>
      replace h := ob_some (show ob (meetV bnd sbd a v x) (fun x => meetP bnd sbd l m x) = some y from h); obtain ⟨z, h1, h2⟩ := h
      obtain ⟨a1, b1⟩ := meetV_ok hb a h1
      obtain ⟨a2, l2, b2⟩ := ih2 h2
      refine ⟨a1.trans a2, by simpa using l2, fun i q e => ?_⟩
      cases i with
      | zero => simp at e; subst e; exact ⟨v, by simp, fun hS hv => (b1 (a2.fits hS) hv).mono (a2.sub _)⟩
      | succ i =>
        obtain ⟨u, hu, hq⟩ := b2 i q (by simpa using e)
        exact ⟨u, by simpa using hu, hq⟩

theorem meetE_ok : ∀ {p l : List (AV × AV × Nat)} {x y : σ}, meetE bnd sbd p l x = some y → After I J Pr x y ∧ p.length = l.length ∧
    ∀ (i : Nat) (q : AV × AV × Nat), p[i]? = some q → ∃ v, l[i]? = some v ∧ ∀ {S S' : Sym} {ρ : BMap} {e : MapEntry}, Fits J S S' y → @ER S ρ v e → @ER S' (via (I y) ρ) q e := by
  intro p
  induction p with
  | nil =>
    intro m x y h
    cases m with
    | nil => cases (show some x = some y from h); exact ⟨.refl _, rfl, fun i q e => by simp at e⟩
    | cons _ _ => cases (show none = some y from h)
  | cons a l ih2 =>
    intro m x y h
    cases m with
    | nil => cases (show none = some y from h)
    | cons v m =>
      replace h := ob_some (show ob (meetV bnd sbd a.1 v.1 x) (fun x => ob (meetV bnd sbd a.2.1 v.2.1 x) fun x => cond (Nat.beq a.2.2 v.2.2) (meetE bnd sbd l m x) none) = some y from h); obtain ⟨z, h1, h⟩ := h
      replace h := ob_some h; obtain ⟨z2, h2, h⟩ := h
      replace h := cond_some h; obtain ⟨h3, h4⟩ := h
      obtain ⟨a1, b1⟩ := meetV_ok hb _ h1
      obtain ⟨a2, b2⟩ := meetV_ok hb _ h2
      obtain ⟨a3, l3, b3⟩ := ih2 h4
      have h3 := Nat.eq_of_beq_eq_true h3
      refine ⟨(a1.trans a2).trans a3, by simpa using l3, fun i q e => ?_⟩
      cases i with
      | zero =>
        simp at e; subst e
        exact ⟨v, by simp, fun hS hv => ⟨(b1 ((a2.trans a3).fits hS) hv.1).mono ((a2.trans a3).sub _), (b2 (a3.fits hS) hv.2.1).mono (a3.sub _), hv.2.2.trans h3.symm⟩⟩
      | succ i =>
        obtain ⟨u, hu, hq⟩ := b3 i q (by simpa using e)
        exact ⟨u, by simpa using hu, hq⟩

theorem meetB_ok {p b : Blk} {x y : σ} (h : meetB bnd sbd p b x = some y) : After I J Pr x y ∧ (p.rw = true → b.rw = true) ∧ b ≠ .dead ∧
    ∀ {S S' : Sym} {ρ : BMap} {z : Nat} {o : Obj}, Fits J S S' y → @BR S ρ z b o → @BR S' (via (I y) ρ) z p o := by
  unfold meetB at h
  split at h
  · rename_i cs rw ty cs' rw' ty'
    replace h := cond_some h; obtain ⟨h1, h2⟩ := h
    replace h2 := cond_some h2; obtain ⟨hty, h2⟩ := h2
    obtain ⟨a1, l1, b1⟩ := meetP_ok hb h2
    refine ⟨a1, fun e => ?_, by simp, fun {S S' ρ z o} hS hv => ?_⟩
    · have e : rw = true := e
      subst e; exact h1
    · cases o <;> simp only [BR] at hv ⊢
      refine ⟨hv.1, Nat.le_trans l1 hv.2.1, fun i v v' e e' => ?_, fun e => ?_, fun t e => hv.2.2.2.2 t (tyOk_some hty e)⟩
      · obtain ⟨u, hu, hq⟩ := b1 i v e
        exact hq hS (hv.2.2.1 i u v' hu e')
      · subst e; exact hv.2.2.2.1 h1
  · rename_i es ck es' ck'
    replace h := cond_some h; obtain ⟨h1, h2⟩ := h
    obtain ⟨a1, l1, b1⟩ := meetE_ok hb h2
    have h1 := Nat.eq_of_beq_eq_true h1
    subst h1
    refine ⟨a1, fun _ => rfl, by simp, fun {S S' ρ z o} hS hv => ?_⟩
    cases o <;> simp only [BR] at hv ⊢
    refine ⟨l1.trans hv.1, fun i v v' e e' => ?_, hv.2.2⟩
    obtain ⟨u, hu, hq⟩ := b1 i v e
    exact hq hS (hv.2.1 i u v' hu e')
  · rename_i es ck es' ck'
    replace h := cond_some h; obtain ⟨h1, h2⟩ := h
    obtain ⟨a1, l1, b1⟩ := meetE_ok hb h2
    have h1 := Nat.eq_of_beq_eq_true h1
    subst h1
    refine ⟨a1, fun e => (by cases e), by simp, fun {S S' ρ z o} hS hv => ?_⟩
    cases o <;> simp only [BR] at hv ⊢
    refine ⟨l1.trans hv.1, fun i v v' e e' => ?_, hv.2.2⟩
    obtain ⟨u, hu, hq⟩ := b1 i v e
    exact hq hS (hv.2.1 i u v' hu e')
  · rename_i es ck es' ck'
    replace h := cond_some h; obtain ⟨h1, h2⟩ := h
    obtain ⟨a1, l1, b1⟩ := meetE_ok hb h2
    have h1 := Nat.eq_of_beq_eq_true h1
    subst h1
    refine ⟨a1, fun e => (by cases e), by simp, fun {S S' ρ z o} hS hv => ?_⟩
    cases o <;> simp only [BR] at hv ⊢
    refine ⟨l1.trans hv.1, fun i v v' e e' => ?_, hv.2.2⟩
    obtain ⟨u, hu, hq⟩ := b1 i v e
    exact hq hS (hv.2.1 i u v' hu e')
  · cases h

end meet

end Go.Proofs.Bx

namespace Go.Proofs.Bx
open Go Go.RowKit


structure Rn where
  f : Tr Nat
  g : Tr Nat
  base : Option Base

noncomputable def Rn.at (r : Rn) (i : Nat) : Option Nat := r.f.get i

noncomputable def bndR (n i j : Nat) (r : Rn) : Option Rn :=
  cond (Nat.blt i n)
    (match r.f.get i with
     | some k => cond (Nat.beq k j) (some r) none
     | none => match r.g.get j with
       | some _ => none
       | none => some ⟨r.f.set j i, r.g.set i j, r.base⟩) none

def Rn.Good (n : Nat) (r : Rn) : Prop := ∀ i j, r.at i = some j → i < n ∧ r.g.get j = some i

noncomputable def baseSame (a b : Base) : Bool :=
  match a, b with
  | .off e, .off e' => e == e'
  | .num n, .num n' => n == n'
  | _, _ => false

theorem baseSame_eq {a b : Base} (h : baseSame a b = true) : a = b := by
  unfold baseSame at h
  split at h
  · rw [eq_of_beq h]
  · rw [eq_of_beq h]
  · cases h

noncomputable def Rn.setBase (r : Rn) (b : Base) : Option Rn :=
  match r.base with
  | none => some ⟨r.f, r.g, some b⟩
  | some c => cond (baseSame b c) (some r) none

theorem setBase_ok {r r' : Rn} {b : Base} (h : r.setBase b = some r') : r'.f = r.f ∧ r'.g = r.g ∧ r'.base = some b ∧ ∀ c, r.base = some c → r'.base = some c := by
  unfold Rn.setBase at h
  split at h
  · rename_i hn
    cases h
    exact ⟨rfl, rfl, rfl, fun c e => by rw [hn] at e; cases e⟩
  · rename_i c hc
    replace h := cond_some h; obtain ⟨h1, h2⟩ := h
    cases h2
    have := baseSame_eq h1
    subst this
    exact ⟨rfl, rfl, hc, fun _ e => e⟩

noncomputable def sbdR (d : Int) (m : Nat) (v : AV) (r : Rn) : Option Rn :=
  match v with
  | .sym d' m' => cond (Nat.ble m m') (r.setBase (.off (d' - d))) none
  | .int .i64 n => cond (decide (Int.ofNat m ≤ n)) (cond (decide (n ≤ 9223372036854775807)) (r.setBase (.num (n - d))) none) none
  | _ => none

theorem sbdR_set {d : Int} {m : Nat} {v : AV} {r r' : Rn} (h : sbdR d m v r = some r') : ∃ b, r.setBase b = some r' ∧ ((∃ d' m', v = .sym d' m' ∧ m ≤ m' ∧ b = .off (d' - d)) ∨ ∃ n, v = .int .i64 n ∧ (m : Int) ≤ n ∧ n ≤ 9223372036854775807 ∧ b = .num (n - d)) := by
  unfold sbdR at h
  split at h
  · replace h := cond_some h; obtain ⟨h1, h2⟩ := h
    exact ⟨_, h2, .inl ⟨_, _, rfl, Nat.le_of_ble_eq_true h1, rfl⟩⟩
  · replace h := cond_some h; obtain ⟨h1, h2⟩ := h
    replace h2 := cond_some h2; obtain ⟨h2, h3⟩ := h2
    exact ⟨_, h3, .inr ⟨_, rfl, of_decide_eq_true h1, of_decide_eq_true h2, rfl⟩⟩
  · cases h

theorem bndR_binds (n : Nat) : Binds (bndR n) sbdR Rn.at Rn.base (Rn.Good n) := by
  have key : ∀ {i j : Nat} {x y : Rn}, bndR n i j x = some y → i < n ∧ ((x = y ∧ x.f.get i = some j) ∨ (x.f.get i = none ∧ x.g.get j = none ∧ y = ⟨x.f.set j i, x.g.set i j, x.base⟩)) := by
    intro i j x y h
    replace h := cond_some h; obtain ⟨h1, h⟩ := h
    refine ⟨blt_lt h1, ?_⟩
    split at h
    · rename_i k hk
      replace h := cond_some h; obtain ⟨h2, h3⟩ := h
      cases h3
      rw [Nat.eq_of_beq_eq_true h2] at hk
      exact .inl ⟨rfl, hk⟩
    · rename_i hk
      split at h
      · cases h
      · rename_i hg
        cases h
        exact .inr ⟨hk, hg, rfl⟩
  refine ⟨fun h => ?_, fun h k l e => ?_, fun h hp k l e => ?_, fun h b e => ?_, fun h k l e => ?_, fun h hp k l e => ?_, fun h b e => ?_, fun {d m v x y} h {S S' ρ ρ' v'} hS hv => ?_⟩
  · obtain ⟨_, ⟨rfl, h2⟩ | ⟨_, _, rfl⟩⟩ := key h
    · exact h2
    · exact Tr.get_set_same _ _ _
  · rename_i i j x y
    obtain ⟨_, ⟨rfl, h2⟩ | ⟨h2, _, rfl⟩⟩ := key h
    · exact e
    · have hne : k ≠ i := by
        intro e'; subst e'
        have e2 : x.f.get k = some l := e
        rw [h2] at e2; cases e2
      show (x.f.set j i).get k = some l
      rw [Tr.get_set_other _ _ hne]
      exact e
  · rename_i i j x y
    obtain ⟨hi, ⟨rfl, h2⟩ | ⟨h2, h3, rfl⟩⟩ := key h
    · exact hp k l e
    · have e : (x.f.set j i).get k = some l := e
      show k < n ∧ (x.g.set i j).get l = some k
      rcases Tr.get_set e with ⟨rfl, rfl⟩ | ⟨hne, e⟩
      · exact ⟨hi, Tr.get_set_same _ _ _⟩
      · obtain ⟨g1, g2⟩ := hp k l e
        refine ⟨g1, ?_⟩
        have : l ≠ j := by intro e'; subst e'; rw [h3] at g2; cases g2
        rw [Tr.get_set_other _ _ this]
        exact g2
  · obtain ⟨_, ⟨rfl, _⟩ | ⟨_, _, rfl⟩⟩ := key h
    · exact e
    · exact e
  · obtain ⟨b, h1, _⟩ := sbdR_set h
    obtain ⟨g1, _⟩ := setBase_ok h1
    unfold Rn.at at e ⊢
    rw [g1]; exact e
  · obtain ⟨b, h1, _⟩ := sbdR_set h
    obtain ⟨g1, g2, _⟩ := setBase_ok h1
    unfold Rn.at at e
    rw [g1] at e; rw [g2]
    exact hp k l e
  · obtain ⟨c, h1, _⟩ := sbdR_set h
    exact (setBase_ok h1).2.2.2 b e
  · obtain ⟨c, h1, h2⟩ := sbdR_set h
    obtain ⟨_, _, g3, _⟩ := setBase_ok h1
    have hs := hS c g3
    rcases h2 with ⟨d', m', rfl, hm, rfl⟩ | ⟨n, rfl, hm, hx, rfl⟩
    · cases hv with
      | sym k1 k2 =>
        have e : S.val + d' = S'.val + d := by rw [hs]; show S.val + d' = S.val + (d' - d) + d; omega
        rw [e]
        exact .sym (by omega) (by omega)
    · cases hv
      have e : n = S'.val + d := by rw [hs]; show n = (n - d) + d; omega
      rw [e]
      exact .sym (by omega) (by omega)

noncomputable def bndI (i j : Nat) (x : Unit) : Option Unit := cond (Nat.beq i j) (some x) none
noncomputable def sbdI (d : Int) (m : Nat) (v : AV) (x : Unit) : Option Unit :=
  match v with
  | .sym d' m' => cond (d == d') (cond (Nat.ble m m') (some x) none) none
  | _ => none

theorem bndI_binds : Binds bndI sbdI (fun _ i => some i) (fun _ => some (.off 0)) (fun _ => True) := by
  refine ⟨fun h => ?_, fun _ k l e => e, fun _ _ => trivial, fun _ _ e => e, fun _ k l e => e, fun _ _ => trivial, fun _ _ e => e, fun {d m v x y} h {S S' ρ ρ' v'} hS hv => ?_⟩
  · rw [Nat.eq_of_beq_eq_true (cond_some h).1]
  · unfold sbdI at h
    split at h
    · rename_i d' m'
      replace h := cond_some h; obtain ⟨h1, h⟩ := h
      replace h := cond_some h; obtain ⟨h2, _⟩ := h
      have h1 := eq_of_beq h1
      have h2 := Nat.le_of_ble_eq_true h2
      subst h1
      have hs : S'.val = S.val + 0 := hS _ rfl
      cases hv with
      | sym k1 k2 =>
        have e : S.val + d = S'.val + d := by rw [hs]; omega
        rw [e]
        exact .sym (by omega) (by omega)
    · cases h

theorem fitsI (S : Sym) (x : Unit) : Fits (fun _ : Unit => some (.off 0)) S S x := fun b e => by cases e; show S.val = S.val + 0; omega
theorem via_id (ρ : BMap) : via (fun i => some i) ρ = ρ := rfl


abbrev Bs := List (Option Blk)

noncomputable def trOf (bs : Bs) : Nat → Tr Blk → Tr Blk :=
  List.rec (motive := fun _ => Nat → Tr Blk → Tr Blk) (fun _ t => t) (fun b _ ih i t => ih (Nat.succ i) (Option.rec t (fun p => t.set p i) b)) bs

noncomputable def smallS (bs : Bs) : St := ⟨trOf bs 0 .nil, llen bs⟩

theorem trOf_get : ∀ {bs : Bs} {i : Nat} {t : Tr Blk} {j : Nat} {p : Blk}, (trOf bs i t).get j = some p → (i ≤ j ∧ bs[j - i]? = some (some p)) ∨ t.get j = some p
  | [], i, t, j, p, h => .inr h
  | b :: bs, i, t, j, p, h => by
    have h' : (trOf bs (i + 1) (Option.rec t (fun p => t.set p i) b)).get j = some p := h
    rcases trOf_get h' with ⟨h1, h2⟩ | h1
    · refine .inl ⟨by omega, ?_⟩
      rw [show j - i = j - (i + 1) + 1 by omega]
      simpa using h2
    · cases b with
      | none => exact .inr h1
      | some q =>
        have h1 : (t.set q i).get j = some p := h1
        rcases Tr.get_set h1 with ⟨rfl, rfl⟩ | ⟨_, h2⟩
        · exact .inl ⟨Nat.le_refl _, by simp⟩
        · exact .inr h2

theorem smallS_get {bs : Bs} {i : Nat} {p : Blk} (h : (smallS bs).get i = some p) : bs[i]? = some (some p) := by
  rcases trOf_get (show (trOf bs 0 .nil).get i = some p from h) with ⟨_, h2⟩ | h2
  · simpa using h2
  · cases h2

noncomputable def meetM (n : Nat) (s : St) (bs : Bs) : Nat → Rn → Option Rn :=
  List.rec (motive := fun _ => Nat → Rn → Option Rn) (fun _ r => some r)
    (fun b _ ih i r => match b with
      | none => ih (Nat.succ i) r
      | some p => ob (r.f.get i) fun j => ob (s.get j) fun c => ob (meetB (bndR n) sbdR p c r) fun r => ih (Nat.succ i) r) bs

theorem meetM_ok {n : Nat} {s : St} : ∀ {bs : Bs} {i : Nat} {r r' : Rn}, meetM n s bs i r = some r' → After Rn.at Rn.base (Rn.Good n) r r' ∧
    ∀ (k : Nat) (p : Blk), bs[k]? = some (some p) → ∃ j c, r'.at (i + k) = some j ∧ s.get j = some c ∧ (p.rw = true → c.rw = true) ∧ c ≠ .dead ∧ ∀ {S S' : Sym} {ρ : BMap} {z : Nat} {o : Obj}, Fits Rn.base S S' r' → @BR S ρ z c o → @BR S' (via r'.at ρ) z p o := by
  intro bs
  induction bs with
  | nil => intro i r r' h; cases (show some r = some r' from h); exact ⟨.refl _, fun k p e => by simp at e⟩
  | cons b bs ih =>
    intro i r r' h
    cases b with
    | none =>
      obtain ⟨a1, b1⟩ := ih (show meetM n s bs (i + 1) r = some r' from h)
      refine ⟨a1, fun k p e => ?_⟩
      cases k with
      | zero => simp at e
      | succ k =>
        have := b1 k p (by simpa using e)
        rw [show i + 1 + k = i + (k + 1) by omega] at this
        exact this
    | some q =>
      replace h := ob_some (show ob (r.f.get i) (fun j => ob (s.get j) fun c => ob (meetB (bndR n) sbdR q c r) fun r => meetM n s bs (i + 1) r) = some r' from h); obtain ⟨j, hj, h⟩ := h
      replace h := ob_some h; obtain ⟨c, hc, h⟩ := h
      replace h := ob_some h; obtain ⟨r1, h1, h⟩ := h
      obtain ⟨a0, c1, c2, c3⟩ := meetB_ok (bndR_binds n) h1
      obtain ⟨a1, b1⟩ := ih h
      refine ⟨a0.trans a1, fun k p e => ?_⟩
      cases k with
      | zero =>
        simp at e; subst e
        exact ⟨j, c, (a0.trans a1).1 i j hj, hc, c1, c2, fun hS hv => (c3 (a1.fits hS) hv).mono (a1.sub _)⟩
      | succ k =>
        have := b1 k p (by simpa using e)
        rw [show i + 1 + k = i + (k + 1) by omega] at this
        exact this


noncomputable def placeTo (R : Nat → Option Nat) (a : Option (Nat × Nat)) : Option (Option (Nat × Nat)) :=
  match a with
  | none => some none
  | some (b, o) => ob (R b) fun k => some (some (k, o))

noncomputable def symTo (B : Option Base) (d : Int) (m : Nat) : Option AV :=
  match B with
  | some (.off e) => some (.sym (d + e) m)
  | some (.num n) => some (.int .i64 (n + d))
  | none => none

noncomputable def toV (R : Nat → Option Nat) (B : Option Base) (p : AV) : Option AV :=
  AV.rec (motive_1 := fun _ => Option AV) (motive_2 := fun _ => Option (List AV))
    (some .undef) (fun b => some (.bool b)) (fun k n => some (.int k n)) (fun d m => symTo B d m) (fun k m r => some (.res k m r)) (fun _ _ => none) (some .empty) (fun s => some (.str s))
    (fun a => ob (placeTo R a) fun a => some (.ptr a))
    (fun a n c => ob (placeTo R a) fun a => some (.slice a n c))
    (fun r => match r with
      | none => some (.map none)
      | some i => ob (R i) fun k => some (.map (some k)))
    (fun fn _ _ ih1 ih2 => ob ih1 fun a => ob ih2 fun b => some (.func fn a b))
    (some .nilFunc)
    (fun t _ ih => ob ih fun v => some (.iface t v))
    (some .nilIface)
    (fun i => ob (R i) fun k => some (.yld k))
    (fun _ ih => ob ih fun l => some (.agg l))
    (fun _ ih => ob ih fun l => some (.tuple l))
    (some [])
    (fun _ _ ih1 ih2 => ob ih1 fun v => ob ih2 fun l => some (v :: l)) p

noncomputable def toL (R : Nat → Option Nat) (B : Option Base) (l : List AV) : Option (List AV) := lmapO (toV R B) l

noncomputable def toE (R : Nat → Option Nat) (B : Option Base) (e : AV × AV × Nat) : Option (AV × AV × Nat) := ob (toV R B e.1) fun k => ob (toV R B e.2.1) fun v => some (k, v, e.2.2)

noncomputable def toB (R : Nat → Option Nat) (B : Option Base) (b : Blk) : Option Blk :=
  match b with
  | .cells cs rw ty => ob (toL R B cs) fun cs => some (.cells cs rw ty)
  | .map es ck => ob (lmapO (toE R B) es) fun es => some (.map es ck)
  | _ => none

section to
variable {R : Nat → Option Nat} {B : Option Base} {S' S : Sym} {ρ ρ' : BMap} (hR : ∀ i k q, R i = some k → ρ i = some q → ρ' k = some q) (hB : ∀ b, B = some b → S'.val = b.val S)
include hR hB

theorem toV_ok (p : AV) : ∀ {u : AV} {v' : Value}, toV R B p = some u → @VR S' ρ p v' → @VR S ρ' u v' := by
  refine AV.rec (motive_1 := fun p => ∀ {u : AV} {v' : Value}, toV R B p = some u → @VR S' ρ p v' → @VR S ρ' u v')
    (motive_2 := fun l => ∀ {u : AV} {a : Array Value}, toV R B (.agg l) = some u → @VRs S' ρ l a → ∃ m, u = .agg m ∧ @VRs S ρ' m a)
    ?_ ?_ ?_ ?_ ?_ ?_ ?_ ?_ ?_ ?_ ?_ ?_ ?_ ?_ ?_ ?_ ?_ ?_ ?_ ?_ p
  · intro u v' h _; cases (show some _ = some u from h); exact .undef _
  · intro b u v' h hv; cases (show some _ = some u from h); cases hv; exact .bool _
  · intro k n u v' h hv; cases (show some _ = some u from h); cases hv; exact .int _ _
  · intro d m u v' h hv
    have h : symTo B d m = some u := h
    cases hv with
    | sym k1 k2 =>
      unfold symTo at h
      split at h
      · rename_i e hb
        cases h
        have hs : S'.val = S.val + e := hB _ rfl
        have e2 : S'.val + d = S.val + (d + e) := by rw [hs]; omega
        rw [e2]
        exact .sym (by omega) (by omega)
      · rename_i n hb
        cases h
        have hs : S'.val = n := hB _ rfl
        rw [hs]; exact .int _ _
      · cases h
  · intro k m r u v' h hv; cases (show some _ = some u from h); cases hv with | res h0 h1 h2 => exact .res h0 h1 h2
  · intro k m u v' h _; cases (show none = some u from h)
  · intro u v' h hv; cases (show some _ = some u from h); cases hv; exact .empty
  · intro s u v' h hv; cases (show some _ = some u from h); cases hv; exact .str _
  · intro a u v' h hv
    replace h := ob_some h; obtain ⟨a', h1, h2⟩ := h
    cases h2
    cases hv with
    | ptrNil => cases h1; exact .ptrNil
    | ptr hr =>
      replace h1 := ob_some h1; obtain ⟨k, hk, h1⟩ := h1
      cases h1
      exact .ptr (hR _ _ _ hk hr)
  · intro a n c u v' h hv
    replace h := ob_some h; obtain ⟨a', h1, h2⟩ := h
    cases h2
    cases hv with
    | sliceNil => cases h1; exact .sliceNil
    | slice hr hc hl =>
      replace h1 := ob_some h1; obtain ⟨k, hk, h1⟩ := h1
      cases h1
      exact .slice (hR _ _ _ hk hr) hc hl
  · intro r u v' h hv
    cases hv with
    | mapNil => cases (show some _ = some u from h); exact .mapNil
    | map hr =>
      replace h := ob_some (show ob (R _) _ = some u from h); obtain ⟨k, hk, h⟩ := h
      cases h
      exact .map (hR _ _ _ hk hr)
  · intro fn fi ca ih1 ih2 u v' h hv
    replace h := ob_some h; obtain ⟨a, h1, h⟩ := h
    replace h := ob_some h; obtain ⟨b, h2, h3⟩ := h
    cases h3
    cases hv with
    | func g1 g2 k1 k2 =>
      obtain ⟨m1, e1, q1⟩ := ih1 (u := .agg a) (show ob _ (fun l => some (AV.agg l)) = _ by rw [h1]) ⟨g1, k1⟩
      obtain ⟨m2, e2, q2⟩ := ih2 (u := .agg b) (show ob _ (fun l => some (AV.agg l)) = _ by rw [h2]) ⟨g2, k2⟩
      cases e1; cases e2
      exact .func q1.1 q2.1 q1.2 q2.2
  · intro u v' h hv; cases (show some _ = some u from h); cases hv; exact .nilFunc
  · intro t v ih u v' h hv
    replace h := ob_some h; obtain ⟨a, h1, h2⟩ := h
    cases h2
    cases hv with
    | iface hw => exact .iface (ih h1 hw)
  · intro u v' h hv; cases (show some _ = some u from h); cases hv; exact .nilIface
  · intro i u v' h hv
    replace h := ob_some h; obtain ⟨k, hk, h2⟩ := h
    cases h2
    cases hv with
    | yld hr => exact .yld (hR _ _ _ hk hr)
  · intro l ih u v' h hv
    cases hv with
    | agg g1 k1 =>
      obtain ⟨m, rfl, q⟩ := ih h ⟨g1, k1⟩
      exact .agg q.1 q.2
  · intro l ih u v' h hv
    replace h := ob_some h; obtain ⟨a, h1, h2⟩ := h
    cases h2
    cases hv with
    | tuple g1 k1 =>
      obtain ⟨m, e, q⟩ := ih (u := .agg a) (show ob _ (fun l => some (AV.agg l)) = _ by rw [h1]) ⟨g1, k1⟩
      cases e
      exact .tuple q.1 q.2
  · intro u a h hv
    cases (show some _ = some u from h)
    exact ⟨[], rfl, hv.1, fun i v v' e => by simp at e⟩
  · intro v l ih1 ih2 u a h hv
    replace h := ob_some h; obtain ⟨m, h1, h2⟩ := h
    cases h2
    replace h1 := ob_some h1; obtain ⟨x, hx, h1⟩ := h1
    replace h1 := ob_some h1; obtain ⟨m', hm, h1⟩ := h1
    cases h1
    obtain ⟨y, ys, rfl, hy, hys⟩ := @VRs.cons_inv S' _ _ _ _ hv
    have q1 := ih1 hx hy
    obtain ⟨m2, e2, q2⟩ := ih2 (u := .agg m') (show ob _ (fun l => some (AV.agg l)) = _ by rw [hm]) hys
    cases e2
    refine ⟨_, rfl, by have := q2.1; simp [this]; omega, fun i w w' e e' => ?_⟩
    cases i with
    | zero => simp at e; rw [Array.getElem?_append_left (by simp)] at e'; simp at e'; subst e; subst e'; exact q1
    | succ i => rw [Array.getElem?_append_right (by simp)] at e'; exact q2.2 i w w' (by simpa using e) (by simpa using e')

theorem toB_ok {b c : Blk} {z : Nat} {o : Obj} (h : toB R B b = some c) (hb : @BR S' ρ z b o) : @BR S ρ' z c o ∧ c.rw = b.rw ∧ c ≠ .dead := by
  unfold toB at h
  split at h
  · rename_i cs rw ty
    replace h := ob_some h; obtain ⟨cs', h1, h2⟩ := h
    cases h2
    refine ⟨?_, rfl, by simp⟩
    cases o <;> simp only [BR] at hb ⊢
    refine ⟨hb.1, by rw [lmapO_len h1]; exact hb.2.1, fun i v v' e e' => ?_, hb.2.2.2⟩
    have hi : i < cs.length := by rw [← lmapO_len h1]; exact (List.getElem?_eq_some_iff.1 e).1
    obtain ⟨u, hu, hq⟩ := lmapO_get h1 i cs[i] (by simp)
    rw [e] at hq; cases hq
    exact toV_ok hR hB _ hu (hb.2.2.1 i _ v' (by simp) e')
  · rename_i es ck
    replace h := ob_some h; obtain ⟨es', h1, h2⟩ := h
    cases h2
    refine ⟨?_, rfl, by simp⟩
    cases o <;> simp only [BR] at hb ⊢
    refine ⟨by rw [lmapO_len h1]; exact hb.1, fun i v v' e e' => ?_, hb.2.2⟩
    have hi : i < es.length := by rw [← lmapO_len h1]; exact (List.getElem?_eq_some_iff.1 e).1
    obtain ⟨u, hu, hq⟩ := lmapO_get h1 i es[i] (by simp)
    rw [e] at hq; cases hq
    replace hu := ob_some hu; obtain ⟨k, hk, hu⟩ := hu
    replace hu := ob_some hu; obtain ⟨x, hx, hu⟩ := hu
    cases hu
    obtain ⟨g1, g2, g3⟩ := hb.2.1 i es[i] v' (by simp) e'
    exact ⟨toV_ok hR hB _ hk g1, toV_ok hR hB _ hx g2, g3⟩
  · cases h

end to

abbrev Outs := List (Nat × Blk)

noncomputable def putO (R : Nat → Option Nat) (B : Option Base) (l : Outs) : Tr Blk → Option (Tr Blk) :=
  List.rec (motive := fun _ => Tr Blk → Option (Tr Blk)) (fun t => some t) (fun x _ ih t => ob (R x.1) fun k => ob (toB R B x.2) fun c => ih (t.set c k)) l

theorem putO_get {R : Nat → Option Nat} {B : Option Base} : ∀ {l : Outs} {t t' : Tr Blk}, putO R B l t = some t' → ∀ {k : Nat} {c : Blk}, t'.get k = some c →
    (∃ i b, (i, b) ∈ l ∧ R i = some k ∧ toB R B b = some c) ∨ (t.get k = some c ∧ ∀ i b, (i, b) ∈ l → R i ≠ some k)
  | [], t, t', h, k, c, e => by cases (show some t = some t' from h); exact .inr ⟨e, fun i b hm => by simp at hm⟩
  | x :: l, t, t', h, k, c, e => by
    replace h := ob_some (show ob (R x.1) (fun k => ob (toB R B x.2) fun c => putO R B l (t.set c k)) = some t' from h); obtain ⟨k1, h1, h⟩ := h
    replace h := ob_some h; obtain ⟨c1, h2, h⟩ := h
    rcases putO_get h e with ⟨i, b, hm, g1, g2⟩ | ⟨g1, g2⟩
    · exact .inl ⟨i, b, List.mem_cons_of_mem _ hm, g1, g2⟩
    · rcases Tr.get_set g1 with ⟨rfl, rfl⟩ | ⟨hne, g1⟩
      · exact .inl ⟨x.1, x.2, by simp, h1, h2⟩
      · refine .inr ⟨g1, fun i b hm => ?_⟩
        rcases List.mem_cons.1 hm with rfl | hm
        · rw [h1]; intro e'; cases e'; exact hne rfl
        · exact g2 i b hm


structure Memo where
  f : FuncId
  args : List AV
  bs : Bs
  res : AV
  outs : Outs
  next : Nat

noncomputable def toR (n : Nat) (s : St) (r : Rn) (i : Nat) : Option Nat := cond (Nat.blt i n) (r.f.get i) (some (Nat.add s.next (Nat.sub i n)))

noncomputable def Memo.run (d : Memo) (args : List AV) (s : St) : Option (AV × St) :=
  ob (meetL (bndR (llen d.bs)) sbdR d.args args ⟨.nil, .nil, none⟩) fun r => ob (meetM (llen d.bs) s d.bs 0 r) fun r =>
    ob (toV (toR (llen d.bs) s r) r.base d.res) fun v => ob (putO (toR (llen d.bs) s r) r.base d.outs s.heap) fun t => some (v, ⟨t, Nat.add s.next (Nat.sub d.next (llen d.bs))⟩)

noncomputable def isSomeU (x : Option Unit) : Bool := Option.rec false (fun _ => true) x

noncomputable def hasOut (l : Outs) (i : Nat) : Bool := List.rec (motive := fun _ => Bool) false (fun x _ ih => Bool.rec ih true (Nat.beq x.1 i)) l

noncomputable def rwOut (l : Outs) (bs : Bs) : Nat → Bool :=
  List.rec (motive := fun _ => Nat → Bool) (fun _ => true) (fun b _ ih i => cond (Option.rec true (fun p => cond (Blk.rw p) (hasOut l i) true) b) (ih (Nat.succ i)) false) bs

noncomputable def outsOk (s : St) (l : Outs) : Bool :=
  List.rec (motive := fun _ => Bool) true (fun x _ ih => cond (Blk.rw x.2) (cond (Option.rec false (fun c => isSomeU (meetB bndI sbdI x.2 c ())) (s.get x.1)) ih false) false) l

noncomputable def Memo.ok (K : CallK) (d : Memo) : Bool :=
  Option.rec false (fun x => cond (isSomeU (meetV bndI sbdI d.res x.1 ())) (cond (Nat.ble x.2.next d.next) (cond (rwOut d.outs d.bs 0) (outsOk x.2 d.outs) false) false) false) (K (.fn d.f) d.args (smallS d.bs))

theorem isSomeU_ok {x : Option Unit} (h : isSomeU x = true) : x = some () := by
  cases x with
  | none => cases h
  | some u => rfl

theorem cond_true {c d : Bool} (h : cond c d false = true) : c = true ∧ d = true := by
  cases c with
  | false => cases h
  | true => exact ⟨rfl, h⟩

theorem hasOut_ok : ∀ {l : Outs} {i : Nat}, hasOut l i = true → ∃ b, (i, b) ∈ l
  | [], i, h => by cases h
  | x :: l, i, h => by
    have h' : (Bool.rec (hasOut l i) true (Nat.beq x.1 i) : Bool) = true := h
    cases hb : Nat.beq x.1 i with
    | true => have := Nat.eq_of_beq_eq_true hb; subst this; exact ⟨x.2, by simp⟩
    | false =>
      rw [hb] at h'
      obtain ⟨b, hm⟩ := hasOut_ok h'
      exact ⟨b, List.mem_cons_of_mem _ hm⟩

theorem rwOut_ok {l : Outs} : ∀ {bs : Bs} {i : Nat}, rwOut l bs i = true → ∀ {k : Nat} {p : Blk}, bs[k]? = some (some p) → p.rw = true → ∃ b, (i + k, b) ∈ l
  | [], i, h, k, p, e, _ => by simp at e
  | b :: bs, i, h, k, p, e, hp => by
    obtain ⟨h1, h2⟩ := cond_true (show cond (Option.rec true (fun p => cond (Blk.rw p) (hasOut l i) true) b) (rwOut l bs (i + 1)) false = true from h)
    cases k with
    | zero =>
      simp at e; subst e
      have h1 : cond (Blk.rw p) (hasOut l i) true = true := h1
      rw [hp] at h1
      exact hasOut_ok h1
    | succ k =>
      obtain ⟨c, hc⟩ := rwOut_ok h2 (k := k) (by simpa using e) hp
      exact ⟨c, by rw [show i + (k + 1) = i + 1 + k by omega]; exact hc⟩

theorem outsOk_ok {s : St} : ∀ {l : Outs}, outsOk s l = true → ∀ {i : Nat} {b : Blk}, (i, b) ∈ l → b.rw = true ∧ ∃ c, s.get i = some c ∧ meetB bndI sbdI b c () = some ()
  | [], h, i, b, hm => by simp at hm
  | x :: l, h, i, b, hm => by
    obtain ⟨h1, h2⟩ := cond_true (show cond (Blk.rw x.2) (cond (Option.rec false (fun c => isSomeU (meetB bndI sbdI x.2 c ())) (s.get x.1)) (outsOk s l) false) false = true from h)
    obtain ⟨h2, h3⟩ := cond_true h2
    rcases List.mem_cons.1 hm with rfl | hm
    · refine ⟨h1, ?_⟩
      cases hs : s.get i with
      | none =>
        have h2 : (Option.rec false (fun c => isSomeU (meetB bndI sbdI b c ())) (s.get i) : Bool) = true := h2
        rw [hs] at h2; cases h2
      | some c =>
        have h2 : (Option.rec false (fun c => isSomeU (meetB bndI sbdI b c ())) (s.get i) : Bool) = true := h2
        rw [hs] at h2
        exact ⟨c, rfl, isSomeU_ok h2⟩
    · exact outsOk_ok h3 hm

noncomputable def isFn (f : FuncId) (t : Tgt) : Bool := Tgt.rec (fun h => Nat.beq h f) (fun _ => false) t

theorem isFn_ok {f : FuncId} {t : Tgt} (h : isFn f t = true) : t = .fn f := by
  cases t with
  | fn g => rw [Nat.eq_of_beq_eq_true (show Nat.beq g f = true from h)]
  | yld i => cases h

noncomputable def onlyF (f : FuncId) (g : List AV → St → Option (AV × St)) : CallK := fun h args s => cond (isFn f h) (g args s) none

theorem Mine.live {ρ : BMap} {s : St} {r : Nat} (h : Mine ρ s r) : Live ρ s r := by
  obtain ⟨i, b, z, h1, h2, h3⟩ := h
  exact ⟨i, b, z, h1, (by intro e; subst e; cases h2), h3⟩

theorem memo_ext {S' S : Sym} {d : Memo} {s s0' : St} {ρ ρ0 ρ1 : BMap} {w w' : World} {r : Rn} {t : Tr Blk} (hS : ∀ b, r.base = some b → S'.val = b.val S) (hr : @HR S ρ s w) (hg : r.Good (llen d.bs))
    (hm : ∀ (k : Nat) (p : Blk), d.bs[k]? = some (some p) → ∃ j c, r.at k = some j ∧ s.get j = some c ∧ (p.rw = true → c.rw = true) ∧ c ≠ .dead)
    (h0 : ρ0 = via r.at ρ) (hx : @Ext S' ρ0 (smallS d.bs) w ρ1 s0' w') (hn : s0'.next ≤ d.next) (hrw : rwOut d.outs d.bs 0 = true) (ho : outsOk s0' d.outs = true)
    (ht : putO (toR (llen d.bs) s r) r.base d.outs s.heap = some t) :
    ∃ ρ', @Ext S ρ s w ρ' ⟨t, Nat.add s.next (Nat.sub d.next (llen d.bs))⟩ w' ∧ ∀ i k q, toR (llen d.bs) s r i = some k → ρ1 i = some q → ρ' k = some q := by
  subst h0
  obtain ⟨_, ⟨xfresh, xblk, xinj, xbelow⟩, xsize, xkeeps, xmine, xlive, xnext, xold, xos, xtape, xoutput⟩ := hx
  have n0 : (smallS d.bs).next = llen d.bs := rfl
  have hle : llen d.bs ≤ s0'.next := by have := xnext; rwa [n0] at this
  obtain ⟨n, hN⟩ : ∃ n, llen d.bs = n := ⟨_, rfl⟩
  rw [hN] at ht hg hle ⊢
  obtain ⟨ρ', hρ'⟩ : ∃ ρ' : BMap, ρ' = fun k => if k < s.next then ρ k else ρ1 (n + (k - s.next)) := ⟨_, rfl⟩
  have lo : ∀ {k}, k < s.next → ρ' k = ρ k := fun {k} h => by rw [hρ']; simp [h]
  have hi : ∀ {k}, s.next ≤ k → ρ' k = ρ1 (n + (k - s.next)) := fun {k} h => by rw [hρ']; simp [show ¬ k < s.next by omega]
  have inS : ∀ {k q}, ρ k = some q → k < s.next := fun {k q} h => by
    rcases Nat.lt_or_ge k s.next with h1 | h1
    · exact h1
    · rw [hr.fresh k h1] at h; cases h
  have sub : Sub ρ ρ' := fun k q h => by rw [lo (inS h)]; exact h
  have toρ : ∀ i k q, toR n s r i = some k → ρ1 i = some q → ρ' k = some q := by
    intro i k q h1 h2
    unfold toR at h1
    by_cases hlt : i < n
    · have e : Nat.blt i n = true := by rw [Nat.blt_eq]; exact hlt
      rw [e] at h1
      have h1 : r.at i = some k := h1
      have e1 := xold i (by rw [n0, hN]; exact hlt)
      rw [h2] at e1
      have e2 : ρ k = some q := by
        have : via r.at ρ i = ρ k := by unfold via; rw [h1]; rfl
        rw [← this]; exact e1.symm
      exact sub k q e2
    · have e : Nat.blt i n = false := by
        cases hb : Nat.blt i n with
        | false => rfl
        | true => rw [Nat.blt_eq] at hb; exact absurd hb hlt
      rw [e] at h1
      cases h1
      have e3 : Nat.add s.next (Nat.sub i n) = s.next + (i - n) := rfl
      rw [e3, hi (by omega), show n + (s.next + (i - n) - s.next) = i by omega]
      exact h2
  -- what lies in the small memory lies in the great one
  have small : ∀ {i b q}, (smallS d.bs).get i = some b → via r.at ρ i = some q → ∃ j c, r.at i = some j ∧ s.get j = some c ∧ (b.rw = true → c.rw = true) ∧ c ≠ .dead ∧ ρ j = some q := by
    intro i b q h1 h2
    obtain ⟨j, c, g1, g2, g3, g4⟩ := hm i b (smallS_get h1)
    refine ⟨j, c, g1, g2, g3, g4, ?_⟩
    have : via r.at ρ i = ρ j := by unfold via; rw [g1]; rfl
    rw [← this]; exact h2
  have mine0 : ∀ {q}, Mine (via r.at ρ) (smallS d.bs) q → ∃ i j c z, r.at i = some j ∧ s.get j = some c ∧ c.rw = true ∧ ρ j = some (q, z) ∧ ∃ b, (i, b) ∈ d.outs := by
    rintro q ⟨i, b, z, h1, h2, h3⟩
    obtain ⟨j, c, g1, g2, g3, g4, g5⟩ := small h1 h3
    obtain ⟨b', hb'⟩ := rwOut_ok hrw (smallS_get h1) h2
    exact ⟨i, j, c, z, g1, g2, g3 h2, g5, b', by simpa using hb'⟩
  have mineS : ∀ {q}, Mine (via r.at ρ) (smallS d.bs) q → Mine ρ s q := fun h => by
    obtain ⟨i, j, c, z, _, h2, h3, h4, _⟩ := mine0 h
    exact ⟨j, c, z, h2, h3, h4⟩
  have liveS : ∀ {q}, Live (via r.at ρ) (smallS d.bs) q → Live ρ s q := by
    rintro q ⟨i, b, z, h1, h2, h3⟩
    obtain ⟨j, c, g1, g2, g3, g4, g5⟩ := small h1 h3
    exact ⟨j, c, z, g2, g4, g5⟩
  -- an old block that is no target is no one's whose number the small memory may write
  have clash : ∀ {q k c y}, s.get k = some c → c ≠ .dead → ρ k = some (q, y) → (∀ i b, (i, b) ∈ d.outs → toR n s r i ≠ some k) → ¬ Mine (via r.at ρ) (smallS d.bs) q := by
    intro q k c y h1 h2 h3 h4 hM
    obtain ⟨i, j, c', z, g1, g2, g3, g4, b, g5⟩ := mine0 hM
    have e := hr.inj j k c' c q z y g2 h1 g3 h2 g4 h3
    subst e
    refine h4 i b g5 ?_
    unfold toR
    have : Nat.blt i n = true := by rw [Nat.blt_eq]; exact (hg i j g1).1
    rw [this]
    exact g1
  have outB : ∀ {i b}, (i, b) ∈ d.outs → b.rw = true ∧ ∃ c, s0'.get i = some c ∧ c.rw = true ∧ c ≠ .dead ∧ ∀ {z : Nat} {o : Obj}, @BR S' ρ1 z c o → @BR S' ρ1 z b o := by
    intro i b hmem
    obtain ⟨h1, c, h2, h3⟩ := outsOk_ok ho hmem
    obtain ⟨_, g1, g2, g3⟩ := meetB_ok bndI_binds h3
    exact ⟨h1, c, h2, g1 h1, g2, fun hv => g3 (fitsI S' _) hv⟩
  -- the blocks behind
  have get' : ∀ {k c}, (⟨t, Nat.add s.next (Nat.sub d.next n)⟩ : St).get k = some c → (∃ i b, (i, b) ∈ d.outs ∧ toR n s r i = some k ∧ toB (toR n s r) r.base b = some c) ∨ (s.get k = some c ∧ ∀ i b, (i, b) ∈ d.outs → toR n s r i ≠ some k) :=
    fun h => putO_get ht h
  have outAt : ∀ {i b k c}, (i, b) ∈ d.outs → toR n s r i = some k → toB (toR n s r) r.base b = some c → ∃ q z o, ρ1 i = some (q, z) ∧ ρ' k = some (q, z) ∧ w'.heap[q]? = some o ∧ @BR S ρ' z c o ∧ c.rw = true ∧ c ≠ .dead := by
    intro i b k c h1 h2 h3
    obtain ⟨g1, c', g2, g3, g4, g5⟩ := outB h1
    obtain ⟨q, z, o, f1, f2, f3⟩ := xblk i c' g2 g4
    obtain ⟨e1, e2, e3⟩ := toB_ok toρ hS h3 (g5 f3)
    exact ⟨q, z, o, f1, toρ _ _ _ h2 f1, f2, e1, by rw [e2]; exact g1, e3⟩
  refine ⟨ρ', ⟨sub, ⟨fun k hk => ?_, fun k c h1 h2 => ?_, fun k l c e q z y h1 h2 h3 h4 h5 h6 => ?_, fun k q z h => ?_⟩, xsize, fun q h1 h2 => ?_, fun q h1 h2 => ?_, fun q h1 h2 => ?_, ?_, fun k hk => lo hk, xos, xtape, xoutput⟩, toρ⟩
  · have hk : s.next + (d.next - n) ≤ k := hk
    rw [hi (by omega)]
    exact xfresh _ (by omega)
  · rcases get' h1 with ⟨i, b, g1, g2, g3⟩ | ⟨g1, g2⟩
    · obtain ⟨q, z, o, _, f2, f3, f4, _, _⟩ := outAt g1 g2 g3
      exact ⟨q, z, o, f2, f3, f4⟩
    · obtain ⟨q, z, o, f1, f2, f3⟩ := hr.blk k c g1 h2
      refine ⟨q, z, o, sub _ _ f1, ?_, f3.mono sub⟩
      rw [xkeeps q (hr.below k q z f1) (clash g1 h2 f1 g2)]
      exact f2
  · have mineAt : ∀ {i b k c q z}, (i, b) ∈ d.outs → toR n s r i = some k → toB (toR n s r) r.base b = some c → ρ' k = some (q, z) → Mine ρ1 s0' q ∧ ∃ z', ρ1 i = some (q, z') := by
      intro i b k c q z m1 m2 m3 m4
      obtain ⟨q', z', o, f1, f2, _⟩ := outAt m1 m2 m3
      rw [f2] at m4; cases m4
      obtain ⟨_, c', g2, g3, _⟩ := outB m1
      exact ⟨⟨i, c', _, g2, g3, f1⟩, _, f1⟩
    rcases get' h1 with ⟨i, b, g1, g2, g3⟩ | ⟨g1, g2⟩
    · obtain ⟨M1, z1, f1⟩ := mineAt g1 g2 g3 h5
      rcases get' h2 with ⟨i', b', g1', g2', g3'⟩ | ⟨g1', g2'⟩
      · obtain ⟨M2, z2, f2⟩ := mineAt g1' g2' g3' h6
        obtain ⟨_, c1, k1, k2, _⟩ := outB g1
        obtain ⟨_, c2, k3, _, k4, _⟩ := outB g1'
        have e := xinj i i' c1 c2 q z1 z2 k1 k3 k2 k4 f1 f2
        subst e
        rw [g2] at g2'; cases g2'; rfl
      · obtain ⟨q0, z0, _, f0, _, _⟩ := hr.blk l e g1' h4
        have f0' := sub _ _ f0
        rw [h6] at f0'; cases f0'
        exact absurd (xmine q (hr.below l q _ f0) M1) (clash g1' h4 f0 g2')
    · have hc : c ≠ .dead := by intro e'; subst e'; cases h3
      obtain ⟨q0, z0, _, f0, _, _⟩ := hr.blk k c g1 hc
      have f0' := sub _ _ f0
      rw [h5] at f0'; cases f0'
      rcases get' h2 with ⟨i', b', g1', g2', g3'⟩ | ⟨g1', g2'⟩
      · obtain ⟨M2, z2, f2⟩ := mineAt g1' g2' g3' h6
        exact absurd (xmine q (hr.below k q _ f0) M2) (clash g1 hc f0 g2)
      · obtain ⟨q1, z1, _, f1, _, _⟩ := hr.blk l e g1' h4
        have f1' := sub _ _ f1
        rw [h6] at f1'; cases f1'
        exact hr.inj k l c e q _ _ g1 g1' h3 h4 f0 f1
  · rcases Nat.lt_or_ge k s.next with hlt | hge
    · rw [lo hlt] at h
      exact Nat.lt_of_lt_of_le (hr.below k q z h) xsize
    · rw [hi hge] at h
      exact xbelow _ q z h
  · exact xkeeps q h1 fun hM => h2 (mineS hM)
  · obtain ⟨k, c, z, g1, g2, g3⟩ := h2
    rcases get' g1 with ⟨i, b, e1, e2, e3⟩ | ⟨e1, e2⟩
    · obtain ⟨q', z', o, f1, f2, _⟩ := outAt e1 e2 e3
      rw [f2] at g3; cases g3
      obtain ⟨_, c', k2, k3, _⟩ := outB e1
      exact mineS (xmine q h1 ⟨i, c', _, k2, k3, f1⟩)
    · have hc : c ≠ .dead := by intro e'; subst e'; cases g2
      obtain ⟨q0, z0, _, f0, _, _⟩ := hr.blk k c e1 hc
      have f0' := sub _ _ f0
      rw [g3] at f0'; cases f0'
      exact ⟨k, c, _, e1, g2, f0⟩
  · obtain ⟨k, c, z, g1, g2, g3⟩ := h2
    rcases get' g1 with ⟨i, b, e1, e2, e3⟩ | ⟨e1, e2⟩
    · obtain ⟨q', z', o, f1, f2, _⟩ := outAt e1 e2 e3
      rw [f2] at g3; cases g3
      obtain ⟨_, c', k2, _, k4, _⟩ := outB e1
      exact liveS (xlive q h1 ⟨i, c', _, k2, k4, f1⟩)
    · obtain ⟨q0, z0, _, f0, _, _⟩ := hr.blk k c e1 g2
      have f0' := sub _ _ f0
      rw [g3] at f0'; cases f0'
      exact ⟨k, c, _, e1, g2, f0⟩
  · show s.next ≤ s.next + (d.next - n)
    omega

theorem memo_sound {P : Program} {K : CallK} (hK : ∀ S : Sym, @CallSound S P K) {d : Memo} (hok : d.ok K = true) (S : Sym) : @CallSound S P (onlyF d.f d.run) := by
  obtain ⟨v0, s0', hrun, h1, h2, h3, h4⟩ : ∃ v0 s0', K (.fn d.f) d.args (smallS d.bs) = some (v0, s0') ∧ meetV bndI sbdI d.res v0 () = some () ∧ s0'.next ≤ d.next ∧ rwOut d.outs d.bs 0 = true ∧ outsOk s0' d.outs = true := by
    unfold Memo.ok at hok
    cases hk : K (.fn d.f) d.args (smallS d.bs) with
    | none => rw [hk] at hok; cases hok
    | some x =>
      rw [hk] at hok
      obtain ⟨a1, hok⟩ := cond_true hok
      obtain ⟨a2, hok⟩ := cond_true hok
      obtain ⟨a3, a4⟩ := cond_true hok
      exact ⟨x.1, x.2, rfl, isSomeU_ok a1, Nat.le_of_ble_eq_true a2, a3, a4⟩
  have open_ : ∀ {g : Tgt} {args : List AV} {s s' : St} {v : AV}, onlyF d.f d.run g args s = some (v, s') → g = .fn d.f ∧ d.run args s = some (v, s') := by
    intro g args s s' v h
    obtain ⟨e, h⟩ := cond_some h
    exact ⟨isFn_ok e, h⟩
  refine ⟨fun {g args s s' v ρ w args'} h hr ha => ?_, fun {g args s s' v w args'} h => ?_, fun {i args s s' v ρ w args' l z} h _ _ _ _ _ => by cases (open_ h).1⟩
  · obtain ⟨hg, h3⟩ := open_ h
    cases hg
    clear h
    replace h3 := ob_some h3; obtain ⟨r1, m1, h⟩ := h3
    replace h := ob_some h; obtain ⟨r, m2, h⟩ := h
    replace h := ob_some h; obtain ⟨v1, m3, h⟩ := h
    replace h := ob_some h; obtain ⟨t, m4, h⟩ := h
    cases h
    obtain ⟨a1, b1⟩ := meetL_ok (bndR_binds _) m1
    obtain ⟨a2, b2⟩ := meetM_ok m2
    have hgood : r.Good (llen d.bs) := a2.2.1 (a1.2.1 (fun i j e => by cases e))
    have hm : ∀ (k : Nat) (p : Blk), d.bs[k]? = some (some p) → ∃ j c, r.at k = some j ∧ s.get j = some c ∧ (p.rw = true → c.rw = true) ∧ c ≠ .dead ∧ ∀ {S S' : Sym} {ρ : BMap} {z : Nat} {o : Obj}, Fits Rn.base S S' r → @BR S ρ z c o → @BR S' (via r.at ρ) z p o := by
      intro k p e
      have := b2 k p e
      rwa [Nat.zero_add] at this
    have hr1 := hr
    obtain ⟨hfresh, hblk, hinj, hbelow⟩ := hr1
    obtain ⟨S', hS⟩ : ∃ S' : Sym, Fits Rn.base S S' r := ⟨⟨match r.base with | some b => b.val S | none => 0⟩, fun b e => by show (match r.base with | some b => b.val S | none => 0) = _; rw [e]⟩
    have hr0 : @HR S' (via r.at ρ) (smallS d.bs) w := by
      have at_ : ∀ {i q}, via r.at ρ i = some q → ∃ j, r.at i = some j ∧ ρ j = some q := fun {i q} e => by
        unfold via at e
        cases hj : r.at i with
        | none => rw [hj] at e; cases e
        | some j => rw [hj] at e; exact ⟨j, rfl, e⟩
      refine ⟨fun i hi => ?_, fun i b e hd => ?_, fun i j b c q z y e1 e2 hw hd r1 r2 => ?_, fun i q z e => ?_⟩
      · cases hv : via r.at ρ i with
        | none => rfl
        | some q =>
          obtain ⟨j, hj, _⟩ := at_ hv
          have := (hgood i j hj).1
          have hi : llen d.bs ≤ i := hi
          omega
      · obtain ⟨j, c, g1, g2, g3, g4, g5⟩ := hm i b (smallS_get e)
        obtain ⟨q, z, o, f1, f2, f3⟩ := hblk j c g2 g4
        exact ⟨q, z, o, via_at g1 f1, f2, g5 hS f3⟩
      · obtain ⟨j1, c1, g1, g2, g3, g4, _⟩ := hm i b (smallS_get e1)
        obtain ⟨j2, c2, k1, k2, k3, k4, _⟩ := hm j c (smallS_get e2)
        obtain ⟨l1, f1, f2⟩ := at_ r1
        obtain ⟨l2, f3, f4⟩ := at_ r2
        rw [g1] at f1; cases f1
        rw [k1] at f3; cases f3
        have e := hinj _ _ c1 c2 q z y g2 k2 (g3 hw) k4 f2 f4
        subst e
        have e1 := (hgood i _ g1).2
        rw [(hgood j _ k1).2] at e1
        cases e1; rfl
      · obtain ⟨j, _, f⟩ := at_ e
        exact hbelow j q z f
    refine ((hK S').calls hrun hr0 ((b1 (a2.fits hS) ha).mono (a2.sub _))).mono fun e w' he => ?_
    cases e with
    | panicked c => exact he.elim
    | outgrown => exact he.elim
    | returned v' =>
      obtain ⟨ρ1, hx, hv⟩ := he
      obtain ⟨ρ', hx', hto⟩ := memo_ext hS hr hgood (fun k p e => by obtain ⟨j, c, q1, q2, q3, q4, _⟩ := hm k p e; exact ⟨j, c, q1, q2, q3, q4⟩) rfl hx h2 h3 h4 m4
      have hv0 : @VR S' ρ1 d.res v' := (meetV_ok bndI_binds d.res h1).2 (fitsI S' _) hv
      exact ⟨ρ', hx', toV_ok hto hS _ m3 hv0⟩
  · obtain ⟨hg, h3⟩ := open_ h
    cases hg
    exact (hK S).enter hrun


noncomputable def orK (a b : CallK) : CallK := fun f args s => Option.rec (b f args s) (fun r => some r) (a f args s)

theorem orK_sound [Sym] {P : Program} {a b : CallK} (ha : CallSound P a) (hb : CallSound P b) : CallSound P (orK a b) := by
  have open_ : ∀ {g : Tgt} {args : List AV} {s s' : St} {v : AV}, orK a b g args s = some (v, s') → a g args s = some (v, s') ∨ b g args s = some (v, s') := by
    intro g args s s' v h
    have h' : (Option.rec (b g args s) (fun r => some r) (a g args s) : Option (AV × St)) = some (v, s') := h
    cases hx : a g args s with
    | none => rw [hx] at h'; exact .inr h'
    | some r => rw [hx] at h'; exact .inl h'
  refine ⟨fun h hr hv => ?_, fun h => ?_, fun h hr hv hi r n => ?_⟩
  · rcases open_ h with h | h
    · exact ha.calls h hr hv
    · exact hb.calls h hr hv
  · rcases open_ h with h | h
    · exact ha.enter h
    · exact hb.enter h
  · rcases open_ h with h | h
    · exact ha.yields h hr hv hi r n
    · exact hb.yields h hr hv hi r n

noncomputable def noK : CallK := fun _ _ _ => none
theorem noK_sound [Sym] (P : Program) : CallSound P noK := ⟨fun h => (by cases h), fun h => (by cases h), fun h => (by cases h)⟩

noncomputable def callM (P : Program) (mm : CallK) (thr fuel : Nat) (n : Nat) : CallK :=
  Nat.rec (motive := fun _ => CallK) noK (fun _ ih => orK mm (goF P thr fuel ih)) n

theorem callM_sound [Sym] {P : Program} (hm : P.follows .mixedOrders = true) {mm : CallK} (hmm : CallSound P mm) (thr fuel : Nat) : ∀ n, CallSound P (callM P mm thr fuel n) := by
  intro n
  induction n with
  | zero => exact noK_sound P
  | succ n ih => exact orK_sound hmm (goF_sound hm thr fuel ih)

noncomputable def tryM (l : List Memo) (args : List AV) (s : St) : Option (AV × St) :=
  List.rec (motive := fun _ => Option (AV × St)) none (fun d _ ih => Option.rec ih (fun r => some r) (d.run args s)) l

abbrev Book := List (FuncId × List Memo)

noncomputable def bookF (b : Book) (f : FuncId) (args : List AV) (s : St) : Option (AV × St) :=
  List.rec (motive := fun _ => Option (AV × St)) none (fun x _ ih => Bool.rec ih (tryM x.2 args s) (Nat.beq x.1 f)) b

noncomputable def bookY (_ : Nat) (_ : List AV) (_ : St) : Option (AV × St) := none

noncomputable def bookK (b : Book) : CallK := fun t args s => Tgt.rec (motive := fun _ => List AV → St → Option (AV × St)) (bookF b) bookY t args s

noncomputable def okAll (K : CallK) (f : FuncId) (l : List Memo) : Bool := List.rec (motive := fun _ => Bool) true (fun d _ ih => cond (Nat.beq d.f f) (cond (d.ok K) ih false) false) l
def Book.Ok (K : CallK) (b : Book) : Prop := ∀ x ∈ b, okAll K x.1 x.2 = true

theorem okAll_append {K : CallK} {f : FuncId} {m : List Memo} (hm : okAll K f m = true) : ∀ {l : List Memo}, okAll K f l = true → okAll K f (l ++ m) = true
  | [], _ => hm
  | x :: l, h => by
    obtain ⟨h1, h2⟩ := cond_true (show cond (Nat.beq x.f f) (cond (x.ok K) (okAll K f l) false) false = true from h)
    obtain ⟨h2, h3⟩ := cond_true h2
    show cond (Nat.beq x.f f) (cond (x.ok K) (okAll K f (l ++ m)) false) false = true
    rw [h1, h2, okAll_append hm h3]; rfl

theorem okAll_mem {K : CallK} {f : FuncId} : ∀ {l : List Memo}, okAll K f l = true → ∀ d ∈ l, d.f = f ∧ d.ok K = true
  | [], _, d, hd => by simp at hd
  | x :: l, h, d, hd => by
    obtain ⟨h1, h2⟩ := cond_true (show cond (Nat.beq x.f f) (cond (x.ok K) (okAll K f l) false) false = true from h)
    obtain ⟨h2, h3⟩ := cond_true h2
    rcases List.mem_cons.1 hd with rfl | hd
    · exact ⟨Nat.eq_of_beq_eq_true h1, h2⟩
    · exact okAll_mem h3 d hd

theorem tryM_some : ∀ {l : List Memo} {args : List AV} {s : St} {r : AV × St}, tryM l args s = some r → ∃ d ∈ l, d.run args s = some r
  | [], _, _, _, h => by cases h
  | x :: l, args, s, r, h => by
    have h' : (Option.rec (tryM l args s) (fun r => some r) (x.run args s) : Option (AV × St)) = some r := h
    cases hx : x.run args s with
    | none =>
      rw [hx] at h'
      obtain ⟨d, hd, e⟩ := tryM_some h'
      exact ⟨d, List.mem_cons_of_mem _ hd, e⟩
    | some q =>
      rw [hx] at h'
      exact ⟨x, by simp, by rw [hx]; exact h'⟩

theorem bookF_some {K : CallK} : ∀ {b : Book} {f : FuncId} {args : List AV} {s : St} {r : AV × St}, b.Ok K → bookF b f args s = some r → ∃ d : Memo, d.f = f ∧ d.ok K = true ∧ d.run args s = some r
  | [], _, _, _, _, _, h => by cases h
  | x :: b, f, args, s, r, hok, h => by
    have h1 := hok x (by simp)
    have h2 : Book.Ok K b := fun y hy => hok y (List.mem_cons_of_mem _ hy)
    have h' : (Bool.rec (bookF b f args s) (tryM x.2 args s) (Nat.beq x.1 f) : Option (AV × St)) = some r := h
    cases hb : Nat.beq x.1 f with
    | false => rw [hb] at h'; exact bookF_some h2 h'
    | true =>
      rw [hb] at h'
      obtain ⟨d, hd, e⟩ := tryM_some h'
      obtain ⟨g1, g2⟩ := okAll_mem h1 d hd
      exact ⟨d, g1.trans (Nat.eq_of_beq_eq_true hb), g2, e⟩

theorem bookK_sound [S : Sym] {P : Program} {K : CallK} (hK : ∀ S : Sym, @CallSound S P K) {b : Book} (hok : b.Ok K) : CallSound P (bookK b) := by
  have open_ : ∀ {t : Tgt} {args : List AV} {s s' : St} {v : AV}, bookK b t args s = some (v, s') → ∃ d : Memo, t = .fn d.f ∧ d.ok K = true ∧ onlyF d.f d.run t args s = some (v, s') := by
    intro t args s s' v h
    cases t with
    | yld i => cases h
    | fn f =>
      obtain ⟨d, h1, h2, h3⟩ := bookF_some hok (show bookF b f args s = some (v, s') from h)
      subst h1
      refine ⟨d, rfl, h2, ?_⟩
      show cond (Nat.beq d.f d.f) (d.run args s) none = _
      rw [Nat.beq_refl]; exact h3
  refine ⟨fun h hr ha => ?_, fun h => ?_, fun h hr ha hi r n => ?_⟩
  · obtain ⟨d, _, h2, h3⟩ := open_ h
    exact (memo_sound hK h2 S).calls h3 hr ha
  · obtain ⟨d, _, h2, h3⟩ := open_ h
    exact (memo_sound hK h2 S).enter h3
  · obtain ⟨d, _, h2, h3⟩ := open_ h
    exact (memo_sound hK h2 S).yields h3 hr ha hi r n

noncomputable def isTrue (x : Option (AV × St)) : Bool :=
  match x with
  | some (.bool true, _) => true
  | _ => false

theorem true_any [Sym] {P : Program} {K : CallK} (hK : CallSound P K) {f : FuncId} (h : isTrue (K (.fn f) [] ⟨.nil, 0⟩) = true) (w : World) :
    Calls P f #[] w fun e w' => e = .returned (.bool true) ∧ Below w.heap.size w w' := by
  unfold isTrue at h
  split at h
  · rename_i s hs
    have hr : HR (fun _ => none) ⟨.nil, 0⟩ w := ⟨fun _ _ => rfl, fun i b e _ => (by cases e), fun i j b c r z y e => (by cases e), fun i r z e => (by cases e)⟩
    refine (hK.calls hs hr (VRs.nil _)).mono fun e w' he => ?_
    cases e with
    | panicked c => exact he.elim
    | outgrown => exact he.elim
    | returned v' =>
      obtain ⟨ρ', hx, hv⟩ := he
      cases hv
      refine ⟨rfl, ?_⟩
      refine ⟨hx.os, hx.tape, hx.output, hx.size, fun k hk => hx.keeps k hk ?_⟩
      rintro ⟨i, b, z, e, _⟩
      cases e
  · cases h


noncomputable def resIs (x : Option (AV × St)) (v : AV) : Bool := Option.rec false (fun r => isSomeU (meetV bndI sbdI v r.1 ())) x

theorem empty_hr [Sym] (w : World) : HR (fun _ => none) ⟨.nil, 0⟩ w := ⟨fun _ _ => rfl, fun i b e _ => (by cases e), fun i j b c r z y e => (by cases e), fun i r z e => (by cases e)⟩

def atomVal : AV → Option Value
  | .bool b => some (.bool b)
  | .int k n => some (.int k n)
  | .str s => some (.string s)
  | .ptr none => some (.pointer none)
  | .slice none 0 (.exact 0) => some (.slice none 0 0)
  | .map none => some (.map none)
  | .nilFunc => some .nilFunc
  | .nilIface => some .nilIface
  | _ => none

theorem atomVal_ok [Sym] {ρ : BMap} {v : AV} {u v' : Value} (h : atomVal v = some u) (hv : VR ρ v v') : v' = u := by
  cases hv <;> simp_all [atomVal]

theorem atomVals_ok [Sym] {ρ : BMap} : ∀ {l : List AV} {us : List Value} {a : Array Value}, lmapO atomVal l = some us → VRs ρ l a → a = us.toArray
  | [], us, a, h, hv => by
    cases h
    exact Array.eq_empty_of_size_eq_zero hv.1.symm
  | x :: l, us, a, h, hv => by
    obtain ⟨b, q, hb, hq, rfl⟩ := lmapO_cons h
    obtain ⟨y, ys, rfl, hy, hys⟩ := hv.cons_inv
    rw [atomVal_ok hb hy, atomVals_ok hq hys]
    simp

theorem call_any [Sym] {P : Program} {K : CallK} (hK : CallSound P K) {f : FuncId} {args : List AV} {v : AV} (h : resIs (K (.fn f) args ⟨.nil, 0⟩) v = true) {args' : Array Value} (ha : VRs (fun _ => none) args args') (w : World) :
    Calls P f args' w fun e w' => (∃ v' ρ', e = .returned v' ∧ VR ρ' v v') ∧ Below w.heap.size w w' := by
  cases hx : K (.fn f) args ⟨.nil, 0⟩ with
  | none => rw [hx] at h; cases h
  | some r =>
    rw [hx] at h
    have h := isSomeU_ok (show isSomeU (meetV bndI sbdI v r.1 ()) = true from h)
    refine (hK.calls (s' := r.2) (v := r.1) hx (empty_hr w) ha).mono fun e w' he => ?_
    cases e with
    | panicked c => exact he.elim
    | outgrown => exact he.elim
    | returned v' =>
      obtain ⟨ρ', hx', hv⟩ := he
      refine ⟨⟨v', ρ', rfl, (meetV_ok bndI_binds v h).2 (fitsI _ _) hv⟩, hx'.os, hx'.tape, hx'.output, hx'.size, fun k hk => hx'.keeps k hk ?_⟩
      rintro ⟨i, b, z, e, _⟩
      cases e

theorem undefs_vr [Sym] (ρ : BMap) (a : Array Value) (n : Nat) (h : a.size = n) : VR ρ (.agg (List.replicate n .undef)) (.agg a) :=
  .agg (by simp [h]) fun i v v' e _ => by
    have := List.getElem?_eq_some_iff.1 e
    obtain ⟨hi, rfl⟩ := this
    simp only [List.getElem_replicate]
    exact .undef _

end Go.Proofs.Bx

namespace Go.Proofs.Bx.Sh
open Go Go.Proofs.Bx

noncomputable def z : AV := .slice none 0 (.exact 0)
noncomputable def x : AV := .undef
noncomputable def i (n : Nat) : AV := .int .i64 (.ofNat n)
noncomputable def j (n : Nat) : AV := .int .i64 (.negSucc n)
noncomputable def u (n : Nat) : AV := .int .u8 (.ofNat n)
noncomputable def p (b o : Nat) : AV := .ptr (some (b, o))
noncomputable def e (b o l c : Nat) : AV := .slice (some (b, o)) l (.exact c)
noncomputable def a (b o l c y k : Nat) : AV := .slice (some (b, o)) l (.atLeast c y k)
noncomputable def y (d : Int) (m : Nat) : AV := .sym d m
noncomputable def g (l : List AV) : AV := .agg l
noncomputable def v (l : List AV) : AV := .tuple l
noncomputable def f (n : Nat) (l m : List AV) : AV := .func (.func n) l m
noncomputable def s (l : List UInt8) : AV := .str ⟨⟨l⟩⟩
noncomputable def r (l : List AV) : Option Blk := some (.cells l false)
noncomputable def w (l : List AV) : Option Blk := some (.cells l true)
noncomputable def q (l : List AV) : Blk := .cells l true
noncomputable def n : Option Blk := none
noncomputable def t (k n : Nat) (s ls ts : AV) (l : List AV) : List AV := u k :: i n :: s :: ls :: ts :: l
noncomputable def o (n : Nat) (l : List AV) : List AV := Nat.rec (motive := fun _ => List AV) l (fun _ ih => AV.undef :: ih) n

end Go.Proofs.Bx.Sh
