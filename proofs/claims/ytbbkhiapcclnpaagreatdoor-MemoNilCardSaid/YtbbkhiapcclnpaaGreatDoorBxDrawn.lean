/- The effects of a schedule, its end; a region that draws ends as its plan. -/
import Derived.Test.YtbbkhiapcclnpaaGreatDoorBxStep
set_option linter.unusedVariables false
set_option linter.unusedSimpArgs false
set_option linter.unusedSectionVars false
namespace Go.Proofs.Bx
open Go

variable {D : List Deferred} {P : Program} {callK : CallK} {ops : Array Oper} {base : Nat}
variable {F0 F2 : Fr} {s1 s2 : St} {tes : List TE} {hs2 : List St} {es2 : List Nat}

/-- The memory that the plan had before an effect, or at its end, is the one that the schedule has. -/
theorem Ran.atEffect (_R : Ran P callK ops base F0 s1 F2 s2 tes hs2 es2) {w0 w : World} {ρ0 ρ : BMap} {s : St} {k : Nat} {h : St} {listed : Array Bool} {a : Act} (I : Inv D ops tes base F0 s w0 ρ0 hs2 ρ k h listed a w)
    {pre : List TE} {F : Fr} {cur : St} {hs : List St} {es : List Nat} (C : Chain P callK ops base pre F0 s1 [s1] [] F cur hs es) (hpre : ∀ q ∈ pre, q ∈ tes) (hsuf : hs <:+ hs2) (hk : es.length = k) (hl : ∀ q ∈ pre, q.eff = false → q.es.length = k → Listed listed q.i) :
    cur.next = h.next ∧ ∀ id b, cur.get id = some b → (∃ q ∈ tes, q.blk = some b ∧ id = base + q.i ∧ q.es.length = k ∧ Listed listed q.i) ∨ h.get id = some b := by
  obtain ⟨r, t1, t2⟩ := I.top
  have hlen := C.length
  simp at hlen
  have hhs : hs = h :: r := suffix_eq hsuf t1 (by simp; omega)
  obtain ⟨m1, m2⟩ := C.memory (by simp)
  have h0 : es.length = 0 → h = s1 := by
    intro e0
    obtain ⟨y, hy⟩ := C.suffix.1
    rw [hhs] at hy
    have hl := congrArg List.length hy
    simp at hl
    have : y = [] := by apply List.eq_nil_of_length_eq_zero; omega
    subst this
    simp at hy
    exact hy.1.symm
  refine ⟨?_, fun id b e => ?_⟩
  · rcases m2 with ⟨e1, e2⟩ | ⟨h', r', e1, e2⟩
    · rw [e2, h0 (by simpa using e1)]
    · rw [hhs] at e1; cases e1; exact e2
  · rcases m1 id b e with ⟨q, q1, q2, q3, q4, q5⟩ | ⟨e1, e2⟩ | ⟨h', r', e1, e2⟩
    · exact .inl ⟨q, hpre q q1, q3, q4, by omega, hl q q1 q2 (by omega)⟩
    · right; rw [h0 (by simpa using e1)]; exact e2
    · rw [hhs] at e1; cases e1; exact .inr e2

/-- Where the schedule stands, as an effect sees it. -/
theorem Ran.effLevel (R : Ran P callK ops base F0 s1 F2 s2 tes hs2 es2) {w0 w : World} {ρ0 ρ : BMap} {s : St} {k : Nat} {h : St} {listed : Array Bool} {a : Act} (I : Inv D ops tes base F0 s w0 ρ0 hs2 ρ k h listed a w) (hc : Closed ops.toList listed)
    {t : TE} (ht : t ∈ tes) (hr : t.i ∈ Region.ready .any ops listed) (he : t.eff = true) : t.es.length = k := by
  obtain ⟨_, _, hnl, _⟩ := ready_spec hc.size hr
  obtain ⟨_, _, a2, _, _, _⟩ := R.chain.at ht
  have h1 : ¬ t.es.length < k := fun hlt => hnl ((I.effs t ht he).2 hlt)
  cases hes : t.es with
  | nil => rw [hes] at h1; simp at h1 ⊢; exact h1.symm
  | cons e r =>
    have hp := R.ok.chain t ht he e r hes
    have hl := behind hc hr hp
    obtain ⟨u, u1, u2, u3⟩ := R.chain.levels r.length (by simp) (by have := a2.length_le; rw [hes] at this; simp at this; omega)
    obtain ⟨b0, _, b2, b3, b4, _⟩ := R.chain.at u1
    have hu := (b0.effect u2).2.1
    have : u.es' = t.es := suffix_eq b4 a2 (by rw [hu, hes]; simp [u3])
    rw [hu, hes] at this
    simp at this
    rw [← this.1] at hl
    have := (I.effs u u1 u2).1 hl
    rw [hes] at h1
    simp at h1 ⊢
    omega

/-- No two effects stand on one level. -/
theorem Ran.levelOne (R : Ran P callK ops base F0 s1 F2 s2 tes hs2 es2) {t q : TE} (ht : t ∈ tes) (hq : q ∈ tes) (het : t.eff = true) (heq : q.eff = true) (hl : q.es.length = t.es.length) : q = t := by
  obtain ⟨pre, post, e⟩ := List.append_of_mem ht
  have C := R.chain
  rw [e] at C
  obtain ⟨c1, hok, c2⟩ := C.split
  rw [e] at hq
  rcases List.mem_append.1 hq with hq | hq
  · obtain ⟨b0, _, _, _, b4, _⟩ := c1.at hq
    have := b4.length_le
    rw [(b0.effect heq).2.1] at this
    simp at this; omega
  · rcases List.mem_cons.1 hq with hq | hq
    · exact hq
    · obtain ⟨p1, p2, e2⟩ := List.append_of_mem hq
      rw [e2] at c2
      have hs := c2.split.1.suffix.2.length_le
      rw [(hok.effect het).2.1] at hs
      simp at hs; omega

/-- One effect more. -/
theorem Ran.done (R : Ran P callK ops base F0 s1 F2 s2 tes hs2 es2) {w0 w w' : World} {ρ0 ρ ρ' : BMap} {s : St} {k : Nat} {h : St} {listed : Array Bool} {a : Act} (I : Inv D ops tes base F0 s w0 ρ0 hs2 ρ k h listed a w)
    {t : TE} (ht : t ∈ tes) (hi : t.i < listed.size) (he : t.eff = true) (hlev : t.es.length = k) (hnext : t.cur.next = h.next)
    (hcur : ∀ id b, t.cur.get id = some b → (∃ q ∈ tes, q.blk = some b ∧ id = base + q.i ∧ q.es.length = k ∧ Listed listed q.i) ∨ h.get id = some b)
    (hx : Ext ρ0 s w0 ρ t.cur w) (hy : Ext ρ t.cur w ρ' t.cur' w') {v' : Value} (hv : VR ρ' t.v v') :
    Inv D ops tes base F0 s w0 ρ0 hs2 ρ' (k + 1) t.cur' (listed.setIfInBounds t.i true) (a.put (opAt ops.toList t.i).dst v') w' := by
  obtain ⟨p1, p2, p3⟩ := R.put I hy.sub ht hi hv
  obtain ⟨b0, _, _, b3, _, b5⟩ := R.chain.at ht
  obtain ⟨e1, e2, e3, _⟩ := b0.effect he
  have other : ∀ {q}, q ∈ tes → q ≠ t → (Listed (listed.setIfInBounds t.i true) q.i ↔ Listed listed q.i) := fun hq hne => listed_other hi fun e => hne (R.same hq ht e)
  have old : ∀ {q}, q ∈ tes → ρ' (base + q.i) = ρ (base + q.i) := fun hq => hy.old _ (by have := R.lt _ hq; have := I.room; omega)
  have notLive : ∀ {q}, q ∈ tes → Listed listed q.i → k + 1 ≤ q.es.length → q.blk ≠ none → ∀ {r z}, ρ (base + q.i) = some (r, z) → ¬ Live ρ h r → ¬ Live ρ t.cur r := by
    intro q hq hl hk hqb r z hρ hnl hm
    obtain ⟨j, b', y, e, hd, hρj⟩ := hm
    rcases hcur j b' e with ⟨q', g1, g2, rfl, g3, g4⟩ | e
    · have hqq := I.apart q hq q' g1 hl g4 (by omega) (by omega) hqb (by rw [g2]; simp) r z y hρ hρj
      have := R.same hq g1 hqq
      subst this; omega
    · exact hnl ⟨j, b', y, e, hd, hρj⟩
  refine ⟨hx.trans hy, ⟨t.hs, by rw [← e1]; exact b3, by simp at b5; omega⟩, p1, p2, p3, fun q hq hqe => ?_, fun q hq hl hk b hqb => ?_, fun q hq q' hq' hl hl' hk hk' hqb hqb' r y y' f f' => ?_, fun q hq hq2 => ?_, ?_⟩
  · by_cases hqt : q = t
    · subst hqt
      exact ⟨fun _ => by omega, fun _ => (listed_set hi).2 (.inl rfl)⟩
    · rw [other hq hqt, I.effs q hq hqe]
      have : q.es.length ≠ k := fun e => hqt (R.levelOne ht hq he hqe (by omega))
      omega
  · have hqt : q ≠ t := by intro e; subst e; omega
    rw [other hq hqt] at hl
    obtain ⟨r, y, o, g1, g2, g3, g4, g5⟩ := I.early q hq hl (by omega) b hqb
    have hnl := notLive hq hl hk (by rw [hqb]; simp) g1 g5
    have hlt := I.ext.hr.below _ _ _ g1
    refine ⟨r, y, o, by rw [old hq]; exact g1, g2, ?_, g4.mono hy.sub, fun hm => hnl (hy.live r hlt hm)⟩
    rw [hy.keeps r hlt fun hm => hnl ?_]
    · exact g3
    · obtain ⟨j, b', z', e, hw, hρ⟩ := hm
      exact ⟨j, b', z', e, (by intro e'; subst e'; cases hw), hρ⟩
  · have hqt : q ≠ t := by intro e; subst e; omega
    have hqt' : q' ≠ t := by intro e; subst e; omega
    rw [old hq] at f
    rw [old hq'] at f'
    rw [other hq hqt] at hl
    rw [other hq' hqt'] at hl'
    exact I.apart q hq q' hq' hl hl' (by omega) (by omega) hqb hqb' r y y' f f'
  · have hqt : q ≠ t := by intro e; subst e; exact hq2 ((listed_set hi).2 (.inl rfl))
    rw [old hq]
    rw [other hq hqt] at hq2
    exact I.fresh q hq hq2
  · have := hy.next
    have := I.room
    omega

theorem Ran.effectStep (hcall : CallSound P callK) (R : Ran P callK ops base F0 s1 F2 s2 tes hs2 es2) {w0 w : World} {ρ0 ρ : BMap} {s : St} {k : Nat} {h : St} {listed : Array Bool} {a : Act} (I : Inv D ops tes base F0 s w0 ρ0 hs2 ρ k h listed a w) (hc : Closed ops.toList listed)
    {t : TE} (ht : t ∈ tes) (hr : t.i ∈ Region.ready .any ops listed) (he : t.eff = true) {Q : Exit → Act → World → Prop} {K : Act → World → Prop} {r : Option Nat} {n : Nat}
    (hk : ∀ ρ' a' w', Inv D ops tes base F0 s w0 ρ0 hs2 ρ' (k + 1) t.cur' (listed.setIfInBounds t.i true) a' w' → K a' w') : wpOpIn (Fc r) n P ops Q t.i K a w := by
  obtain ⟨o, ho, hnl, _⟩ := ready_spec hc.size hr
  have hi : t.i < listed.size := by rw [hc.size]; exact R.lt t ht
  have hoo : opAt ops.toList t.i = o := opAt_eq (by simpa using ho)
  obtain ⟨hok, _⟩ := R.chain.at ht
  obtain ⟨_, _, _, hq⟩ := hok.effect he
  have looks := fun x hx u hu => R.looks I hc ht hr (x := x) hx (u := u) hu
  have hev : EvR ρ (only (looksOf ops.toList o) t.F.ev) a := only_run fun x hx u hu => (looks x (by rw [hoo]; exact hx) u hu).1
  rw [hoo] at looks
  have hlev := R.effLevel I hc ht hr he
  obtain ⟨pre, post, e⟩ := List.append_of_mem ht
  have C := R.chain
  rw [e] at C
  obtain ⟨c1, _, c2⟩ := C.split
  have hsuf : t.hs <:+ hs2 := (R.chain.at ht).2.1
  obtain ⟨hnext, hcur⟩ := R.atEffect I c1 (fun q hq => by rw [e]; simp [hq]) hsuf hlev fun q hq hqe hql => by
    have hp := R.ok.ahead q (by rw [e]; simp [hq]) t ht hqe he (by omega)
    exact behind hc hr hp
  have hx := I.adopt hnext fun id b eb => (hcur id b eb).imp (fun ⟨q, g1, g2, g3, g4, g5⟩ => ⟨q, g1, g2, g3, by omega, g5⟩) fun e => e
  unfold TE.effect at hq
  rw [hoo] at hq
  unfold wpOpIn
  rw [ho]
  dsimp only
  rcases hq with ⟨hw, hv, hcu⟩ | ⟨hw, hdo⟩
  · rw [if_neg (by rw [want_run hw looks]; simp)]
    refine ⟨fun _ _ => trivial, hk ρ _ w ?_⟩
    have := R.done I ht hi he hlev hnext hcur hx (ρ' := ρ) (w' := w) (by rw [hcu]; exact .refl hx.hr) (v' := undef) (by rw [hv]; exact .skip _)
    rwa [hoo] at this
  · rw [if_pos (want_run hw looks)]
    rw [← doV_only (ops := ops.toList)] at hdo
    refine doV_run hcall hdo hev hx.hr fun ρ' v' w' h1 h2 => ?_
    have := R.done I ht hi he hlev hnext hcur hx h1 h2
    rw [hoo] at this
    exact hk _ _ _ this

/-- At the end. -/
theorem Ran.finish (R : Ran P callK ops base F0 s1 F2 s2 tes hs2 es2) {w0 w : World} {ρ0 ρ : BMap} {s : St} {k : Nat} {h : St} {listed : Array Bool} {a : Act} (I : Inv D ops tes base F0 s w0 ρ0 hs2 ρ k h listed a w)
    (hall : ∀ t ∈ tes, Listed listed t.i) : Ext ρ0 s w0 ρ s2 w ∧ FrR D ρ F2 a := by
  have hlen := R.chain.length
  simp at hlen
  obtain ⟨r, t1, t2⟩ := I.top
  have htop := t1.length_le
  simp at htop
  have hk : es2.length = k := by
    rcases Nat.lt_or_ge k es2.length with hlt | hge
    · obtain ⟨q, q1, q2, q3⟩ := R.chain.levels k (by simp) hlt
      have := (I.effs q q1 q2).1 (hall q q1)
      omega
    · omega
  obtain ⟨hnext, hcur⟩ := R.atEffect I R.chain (fun q hq => hq) (List.suffix_refl _) hk fun q hq _ _ => hall q hq
  refine ⟨I.adopt hnext fun id b eb => (hcur id b eb).imp (fun ⟨q, g1, g2, g3, g4, g5⟩ => ⟨q, g1, g2, g3, by omega, g5⟩) fun e => e, ?_⟩
  obtain ⟨hsz, hwf, hfr⟩ := R.chain.frame R.wf
  refine ⟨I.defers, I.size.trans hsz.symm, fun x u e => ?_, hwf⟩
  rcases hfr x u e with ⟨q, q1, q2, q3, q4⟩ | ⟨q1, q2⟩
  · exact I.temps x u (.inl ⟨q, q1, hall q q1, q2, q3, q4⟩)
  · exact I.temps x u (.inr ⟨fun q hq _ => q1 q hq, q2⟩)

/-- When nothing is ready, all has been listed. -/
theorem Ran.allListed (R : Ran P callK ops base F0 s1 F2 s2 tes hs2 es2) {listed : Array Bool} (hc : Closed ops.toList listed) (h : Region.ready .any ops listed = []) : ∀ t ∈ tes, Listed listed t.i := by
  have key : ∀ (n : Nat) (pre post : List TE) (t : TE), pre.length = n → tes = pre ++ t :: post → Listed listed t.i := by
    intro n
    induction n using Nat.strongRecOn with
    | _ n ih =>
      intro pre post t hn e
      have ht : t ∈ tes := by rw [e]; simp
      have hb : ∀ d ∈ depsOf (opAt ops.toList t.i), Listed listed d := by
        intro d hd
        rcases (linear_spec R.lin).2.2 (pre.map (·.i)) t.i (post.map (·.i)) (by rw [e]; simp) d hd with h0 | h0
        · simp at h0
        · obtain ⟨q, q1, q2⟩ := List.mem_map.1 h0
          obtain ⟨p1, p2, e2⟩ := List.append_of_mem q1
          rw [← q2]
          exact ih p1.length (by rw [← hn, e2]; simp) p1 (p2 ++ t :: post) q rfl (by rw [e, e2]; simp)
      by_cases hl : Listed listed t.i
      · exact hl
      · have hlt := R.lt t ht
        have ho : ops[t.i]? = some ops.toList[t.i] := by simp at hlt ⊢
        have hoo : opAt ops.toList t.i = ops.toList[t.i] := opAt_eq (by simp)
        rw [hoo] at hb
        have := ready_of hc.size ho hl hb
        rw [h] at this
        simp at this
  intro t ht
  obtain ⟨pre, post, e⟩ := List.append_of_mem ht
  exact key _ pre post t rfl e

theorem Ran.go (hcall : CallSound P callK) (R : Ran P callK ops base F0 s1 F2 s2 tes hs2 es2) {w0 : World} {ρ0 : BMap} {s : St} (hs : s.next ≤ base) {Q : Exit → Act → World → Prop} {r : Option Nat} {n : Nat}
    (hk : ∀ ρ' a' w', Ext ρ0 s w0 ρ' s2 w' → FrR D ρ' F2 a' → Q .normal a' w') : ∀ (fuel : Nat) (listed : Array Bool) (l : List Nat) (ρ : BMap) (k : Nat) (h : St) (a : Act) (w : World),
    l.length ≤ fuel → (∀ i, i < ops.toList.length → ¬ Listed listed i → i ∈ l) → Closed ops.toList listed → Inv D ops tes base F0 s w0 ρ0 hs2 ρ k h listed a w → wpAnyIn (Fc r) n P .any ops Q fuel listed a w := by
  intro fuel
  induction fuel with
  | zero =>
    intro listed l ρ k h a w hl hm hc I
    have hnil : l = [] := by apply List.eq_nil_of_length_eq_zero; omega
    subst hnil
    have hall : ∀ t ∈ tes, Listed listed t.i := fun t ht => Classical.byContradiction fun hn => by simpa using hm t.i (R.lt t ht) hn
    refine ⟨?_, ?_⟩
    · cases hr : Region.ready .any ops listed with
      | nil => rfl
      | cons i rest =>
        obtain ⟨o, ho, hnl, _⟩ := ready_spec hc.size (i := i) (by rw [hr]; simp)
        have := hm i (by have := (Array.getElem?_eq_some_iff.1 ho).1; simpa using this) hnl
        simp at this
    · obtain ⟨h1, h2⟩ := R.finish I hall
      exact hk _ _ _ h1 h2
  | succ fuel ih =>
    intro listed l ρ k h a w hl hm hc I
    refine ⟨fun hr => ?_, fun i hi => ?_⟩
    · obtain ⟨h1, h2⟩ := R.finish I (R.allListed hc hr)
      exact hk _ _ _ h1 h2
    · obtain ⟨o, ho, hnl, _⟩ := ready_spec hc.size hi
      have hlt : i < ops.toList.length := by have := (Array.getElem?_eq_some_iff.1 ho).1; simpa using this
      obtain ⟨t, ht, rfl⟩ := R.all i hlt
      have hmem := hm t.i hlt hnl
      have hl2 : (l.erase t.i).length ≤ fuel := by rw [List.length_erase_of_mem hmem]; omega
      have hsz : t.i < listed.size := by rw [hc.size]; exact hlt
      have hm2 : ∀ j, j < ops.toList.length → ¬ Listed (listed.setIfInBounds t.i true) j → j ∈ l.erase t.i := by
        intro j hj hn
        rw [listed_set hsz] at hn
        have h1 : j ≠ t.i := fun e => hn (.inl e)
        exact (List.mem_erase_of_ne h1).2 (hm j hj fun e => hn (.inr e))
      have hc2 := hc.set hi
      cases he : t.eff with
      | false => exact R.quietStep I hc ht hi he hs fun ρ' a' w' I' => ih _ _ _ _ _ _ _ hl2 hm2 hc2 I'
      | true => exact R.effectStep hcall I hc ht hi he fun ρ' a' w' I' => ih _ _ _ _ _ _ _ hl2 hm2 hc2 I'

theorem cond5 {a b : Bool} (h : cond a b false = true) : a = true ∧ b = true := by
  cases a with
  | true => exact ⟨rfl, h⟩
  | false => cases h

/-- A region that draws ends as its plan, whatever is drawn. -/
def DrawSound (P : Program) (callK : CallK) : Prop :=
  ∀ {id : Nat} {ops : Array Oper} {Q : Exit → Act → World → Prop} {D : List Deferred} {ρ : BMap} {F F' : Fr} {s s' : St} {a : Act} {w : World} {r : Option Nat} {n : Nat},
    drawA P callK ops F s = some (F', s') → FrR D ρ F a → HR ρ s w → (∀ ρ' a' w', Ext ρ s w ρ' s' w' → FrR D ρ' F' a' → Q .normal a' w') → (Code.region id ops true).wpIn (Fc r) n P Q a w

/-- A region that draws ends as its plan, whatever is drawn. -/
theorem draw_sound {P : Program} (hm : P.follows .mixedOrders = true) (callK : CallK) (hcall : CallSound P callK) : DrawSound P callK := by
  intro id ops Q D ρ F F' s s' a w r n h hF hr hk
  unfold drawA at h
  cases hok : planOk ops.toList with
  | false => rw [hok] at h; cases h
  | true =>
    rw [hok] at h
    have h : segsA P callK ops s.next (planOf ops.toList) [⟨s.heap, Nat.add s.next (llen ops.toList)⟩] F ⟨s.heap, Nat.add s.next (llen ops.toList)⟩ = some (F', s') := h
    unfold planOk at hok
    obtain ⟨k1, hok⟩ := cond5 hok
    obtain ⟨k2, hok⟩ := cond5 hok
    obtain ⟨k3, hok⟩ := cond5 hok
    obtain ⟨k4, hok⟩ := cond5 hok
    obtain ⟨k5, hok⟩ := cond5 (a := lastOk (planOf ops.toList)) hok
    have k6 := hok
    have hn : Nat.add s.next (llen ops.toList) = s.next + ops.toList.length := by rw [llen_eq]; rfl
    rw [hn] at h
    rw [llen_eq] at k2 k3 k6
    obtain ⟨tes, hs2, es2, c, hord, hst⟩ := segsA_chain (base := s.next) (es := []) h k4 k5
    have R : Ran P callK ops s.next F ⟨s.heap, s.next + ops.toList.length⟩ F' s' tes hs2 es2 := by
      refine ⟨c, hst, by rw [hord]; exact k1, fun i hi => ?_, fun t ht => ?_, k6, hF.lt, rfl⟩
      · have h1 := lall_iff.1 k2 i (by rw [upto_eq]; simpa using hi)
        have h2 := mem_iff.1 h1
        rw [← hord] at h2
        obtain ⟨t, t1, t2⟩ := List.mem_map.1 h2
        exact ⟨t, t1, t2⟩
      · have h1 := lall_iff.1 k3 t.i (by rw [← hord]; exact List.mem_map.2 ⟨t, ht, rfl⟩)
        rwa [Nat.blt_eq] at h1
    have hnone : ∀ i, ¬ Listed (Array.replicate ops.size false) i := by
      intro i hl
      unfold Listed at hl
      simp only [Array.getD_eq_getD_getElem?, Array.getElem?_replicate] at hl
      split at hl <;> simp at hl
    refine wpIn_region_any hm ?_
    refine R.go hcall (Nat.le_refl _) (w0 := { w with drawn := w.drawn + 1 }) (ρ0 := ρ) (fun ρ' a' w' h1 h2 => hk ρ' a' w' ?_ h2) ops.size _ (List.range ops.toList.length) ρ 0 ⟨s.heap, s.next + ops.toList.length⟩ a _ (by simp) (fun i hi _ => by simpa using hi) ⟨by simp, fun i o d hl => absurd hl (hnone i)⟩ ?_
    · exact ⟨h1.sub, h1.hr, h1.size, h1.keeps, h1.mine, h1.live, h1.next, h1.old, h1.os, h1.tape, h1.output⟩
    · have hr' : HR ρ ⟨s.heap, s.next + ops.toList.length⟩ { w with drawn := w.drawn + 1 } := ⟨fun i hi => hr.fresh i (by have : s.next + ops.toList.length ≤ i := hi; omega), hr.blk, hr.inj, hr.below⟩
      refine ⟨⟨.refl _, hr', Nat.le_refl _, fun _ _ _ => rfl, fun _ _ h => h, fun _ _ h => h, Nat.le_add_right _ _, fun _ _ => rfl, rfl, rfl, rfl⟩, ⟨[], c.suffix.1, rfl⟩, hF.defers, hF.size, fun x u hx => ?_, fun q hq hqe => ⟨fun hl => absurd hl (hnone _), fun hl => by omega⟩, fun q hq hl => absurd hl (hnone _), fun q hq q' hq' hl => absurd hl (hnone _), fun q hq _ => hr.fresh _ (by omega), Nat.le_refl _⟩
      rcases hx with ⟨q, _, q2, _⟩ | ⟨_, q2⟩
      · exact absurd q2 (hnone _)
      · exact hF.get x u q2

end Go.Proofs.Bx
