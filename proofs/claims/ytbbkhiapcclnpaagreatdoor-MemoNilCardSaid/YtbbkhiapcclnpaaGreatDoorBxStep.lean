/- One operation of a schedule: what was made, read or reckoned in the plan, it makes, reads or reckons now. -/
import Derived.Test.YtbbkhiapcclnpaaGreatDoorBxSched
set_option linter.unusedVariables false
set_option linter.unusedSimpArgs false
set_option linter.unusedSectionVars false
namespace Go.Proofs.Bx
open Go

variable {D : List Deferred} {P : Program} {callK : CallK} {ops : Array Oper} {base : Nat}
variable {F0 F2 : Fr} {s1 s2 : St} {tes : List TE} {hs2 : List St} {es2 : List Nat}

/-- Where the schedule stands, as one sees it that is no effect. -/
theorem Ran.level (R : Ran P callK ops base F0 s1 F2 s2 tes hs2 es2) {w0 w : World} {ρ0 ρ : BMap} {s : St} {k : Nat} {h : St} {listed : Array Bool} {a : Act} (I : Inv D ops tes base F0 s w0 ρ0 hs2 ρ k h listed a w) (hc : Closed ops.toList listed)
    {t : TE} (ht : t ∈ tes) (hr : t.i ∈ Region.ready .any ops listed) (he : t.eff = false) :
    k ≤ t.es.length ∧ ∃ j, j < t.c + 1 ∧ t.hs[j]? = some h := by
  obtain ⟨_, _, hnl, _⟩ := ready_spec hc.size hr
  obtain ⟨_, a1, a2, _, _, a5⟩ := R.chain.at ht
  obtain ⟨r, hr1, hr2⟩ := I.top
  have hlen := R.chain.length
  simp at hlen a5
  have htop : k + 1 ≤ hs2.length := by
    have := hr1.length_le
    simp at this; omega
  have hk : k ≤ t.es.length := by
    rcases Nat.lt_or_ge t.es.length k with hlt | hge
    · obtain ⟨u, u1, u2, u3⟩ := R.chain.levels t.es.length (by simp) (by omega)
      have hp := R.ok.ahead t ht u u1 he u2 u3.symm
      have hul : Listed listed u.i := (I.effs u u1 u2).2 (by omega)
      exact absurd (hc.prec (prec_sound hp) hul) hnl
    · exact hge
  refine ⟨hk, t.es.length - k, ?_, ?_⟩
  · obtain ⟨f1, f2⟩ := R.ok.floats t ht he
    rcases Nat.lt_or_ge t.c t.es.length with hlt | hge
    · have hp := f2 t.es[t.c] (by simp [hlt])
      have hl := behind hc hr hp
      -- the effect of that level
      obtain ⟨u, u1, u2, u3⟩ := R.chain.levels (t.es.length - 1 - t.c) (by simp) (by have := a2.length_le; omega)
      obtain ⟨b0, _, b2, b3, b4, _⟩ := R.chain.at u1
      have hu := (b0.effect u2).2.1
      have hsuf : u.es' <:+ t.es := List.suffix_of_suffix_length_le b4 a2 (by rw [hu]; simp; omega)
      obtain ⟨y, hy⟩ := hsuf
      have hyl := congrArg List.length hy
      rw [hu] at hyl
      simp at hyl
      have : t.es[t.c]? = some u.i := by
        rw [← hy, hu, List.getElem?_append_right (by omega), show t.c - y.length = 0 by omega]
        rfl
      rw [List.getElem?_eq_getElem hlt] at this
      simp at this
      rw [this] at hl
      have := (I.effs u u1 u2).1 hl
      omega
    · omega
  · have := suffix_get a1 hr1 (L := t.es.length) (by omega) (by omega)
    rw [hr2] at this
    exact this

theorem listed_other {listed : Array Bool} {i j : Nat} (hi : i < listed.size) (hne : j ≠ i) : Listed (listed.setIfInBounds i true) j ↔ Listed listed j := by
  rw [listed_set hi]
  exact ⟨fun e => e.resolve_left hne, .inr⟩

/-- One more has been done that is no effect, and made nothing. -/
theorem Ran.still (R : Ran P callK ops base F0 s1 F2 s2 tes hs2 es2) {w0 w : World} {ρ0 ρ : BMap} {s : St} {k : Nat} {h : St} {listed : Array Bool} {a : Act} (I : Inv D ops tes base F0 s w0 ρ0 hs2 ρ k h listed a w)
    {t : TE} (ht : t ∈ tes) (hi : t.i < listed.size) (he : t.eff = false) (hb : t.blk = none) {v' : Value} (hv : VR ρ t.v v') :
    Inv D ops tes base F0 s w0 ρ0 hs2 ρ k h (listed.setIfInBounds t.i true) (a.put (opAt ops.toList t.i).dst v') w := by
  obtain ⟨p1, p2, p3⟩ := R.put I (.refl _) ht hi hv
  have other : ∀ {q}, q ∈ tes → q ≠ t → (Listed (listed.setIfInBounds t.i true) q.i ↔ Listed listed q.i) := fun hq hne => listed_other hi fun e => hne (R.same hq ht e)
  refine ⟨I.ext, I.top, p1, p2, p3, fun q hq hqe => ?_, fun q hq hl hk b hqb => ?_, fun q hq q' hq' hl hl' hk hk' hqb hqb' => ?_, fun q hq hnl => ?_, I.room⟩
  · rw [other hq (by intro e; subst e; rw [he] at hqe; cases hqe)]
    exact I.effs q hq hqe
  · rw [other hq (by intro e; subst e; rw [hb] at hqb; cases hqb)] at hl
    exact I.early q hq hl hk b hqb
  · rw [other hq (by intro e; subst e; exact hqb hb)] at hl
    rw [other hq' (by intro e; subst e; exact hqb' hb)] at hl'
    exact I.apart q hq q' hq' hl hl' hk hk' hqb hqb'
  · exact I.fresh q hq fun hl => hnl ((listed_set hi).2 (.inr hl))

/-- One more has been done that made a block. -/
theorem Ran.made (R : Ran P callK ops base F0 s1 F2 s2 tes hs2 es2) {w0 w w' : World} {ρ0 ρ : BMap} {s : St} {k : Nat} {h : St} {listed : Array Bool} {a : Act} (I : Inv D ops tes base F0 s w0 ρ0 hs2 ρ k h listed a w)
    {t : TE} (ht : t ∈ tes) (hi : t.i < listed.size) (hnl : ¬ Listed listed t.i) (he : t.eff = false) (hs : s.next ≤ base) {b : Blk} (hb : t.blk = some b) {z : Nat} {obj : Obj}
    (hheap : w'.heap = w.heap.push obj) (hos : w'.os = w.os) (htape : w'.tape = w.tape) (hout : w'.output = w.output)
    (hbr : BR (upd ρ (base + t.i) w.heap.size z) z b obj) {v' : Value} (hv : VR (upd ρ (base + t.i) w.heap.size z) t.v v') :
    Inv D ops tes base F0 s w0 ρ0 hs2 (upd ρ (base + t.i) w.heap.size z) k h (listed.setIfInBounds t.i true) (a.put (opAt ops.toList t.i).dst v') w' := by
  have hfresh := I.fresh t ht hnl
  have hsub : Sub ρ (upd ρ (base + t.i) w.heap.size z) := upd_sub hfresh
  obtain ⟨p1, p2, p3⟩ := R.put I hsub ht hi hv
  have other : ∀ {q}, q ∈ tes → q ≠ t → (Listed (listed.setIfInBounds t.i true) q.i ↔ Listed listed q.i) := fun hq hne => listed_other hi fun e => hne (R.same hq ht e)
  have hold : ∀ {j}, j ≠ base + t.i → upd ρ (base + t.i) w.heap.size z j = ρ j := fun hne => by simp [upd, hne]
  have hin : ∀ {r}, r < w.heap.size → w'.heap[r]? = w.heap[r]? := fun hr => by rw [hheap, Array.getElem?_push]; rw [if_neg (by omega)]
  have H := I.ext.hr
  have hsz : w'.heap.size = w.heap.size + 1 := by rw [hheap]; simp
  have hnew : w'.heap[w.heap.size]? = some obj := by rw [hheap]; simp
  have hti := R.lt t ht
  -- in the elder memory nothing has that number
  have hnone : ∀ b', h.get (base + t.i) = some b' → b' = .dead := by
    intro b' e
    cases b' with
    | dead => rfl
    | cells cs rw' ty' =>
      obtain ⟨r, z', o, g1, _⟩ := H.blk _ _ e (by simp)
      rw [hfresh] at g1; cases g1
    | map es ck =>
      obtain ⟨r, z', o, g1, _⟩ := H.blk _ _ e (by simp)
      rw [hfresh] at g1; cases g1
    | loop F ps asg bd p =>
      obtain ⟨r, z', o, g1, _⟩ := H.blk _ _ e (by simp)
      rw [hfresh] at g1; cases g1
  have hne_of : ∀ {j b'}, h.get j = some b' → b' ≠ .dead → j ≠ base + t.i := fun e hd e' => by subst e'; exact hd (hnone _ e)
  have hr : HR (upd ρ (base + t.i) w.heap.size z) h w' := by
    refine ⟨fun j hj => ?_, fun j b' e hd => ?_, fun i j b' c r y y' e1 e2 hw hd r1 r2 => ?_, fun j r y e => ?_⟩
    · have := I.room
      rw [hold (by omega)]; exact H.fresh j hj
    · obtain ⟨r, y, o, g1, g2, g3⟩ := H.blk j b' e hd
      refine ⟨r, y, o, by rw [hold (hne_of e hd)]; exact g1, ?_, g3.mono hsub⟩
      rw [hin (H.below _ _ _ g1)]; exact g2
    · have hbd : b' ≠ .dead := by intro e; subst e; cases hw
      rw [hold (hne_of e1 hbd)] at r1
      rw [hold (hne_of e2 hd)] at r2
      exact H.inj i j b' c r y y' e1 e2 hw hd r1 r2
    · by_cases hj : j = base + t.i
      · subst hj; rw [upd_self] at e; cases e; omega
      · rw [hold hj] at e
        have := H.below j r y e
        omega
  have hext : Ext ρ0 s w0 (upd ρ (base + t.i) w.heap.size z) h w' := by
    refine ⟨I.ext.sub.trans hsub, hr, by rw [hsz]; exact Nat.le_succ_of_le I.ext.size, fun r hlt hm => ?_, fun r hlt hm => ?_, fun r hlt hm => ?_, I.ext.next, fun j hj => ?_, hos.trans I.ext.os, htape.trans I.ext.tape, hout.trans I.ext.output⟩
    · rw [hin (Nat.lt_of_lt_of_le hlt I.ext.size)]; exact I.ext.keeps r hlt hm
    · obtain ⟨j, b', y, e, hw, hρ⟩ := hm
      have hbd : b' ≠ .dead := by intro e; subst e; cases hw
      rw [hold (hne_of e hbd)] at hρ
      exact I.ext.mine r hlt ⟨j, b', y, e, hw, hρ⟩
    · obtain ⟨j, b', y, e, hd, hρ⟩ := hm
      rw [hold (hne_of e hd)] at hρ
      exact I.ext.live r hlt ⟨j, b', y, e, hd, hρ⟩
    · rw [hold (by omega)]; exact I.ext.old j hj
  have hlive : ∀ r, Live (upd ρ (base + t.i) w.heap.size z) h r → Live ρ h r := by
    intro r hm
    obtain ⟨j, b', y, e, hd, hρ⟩ := hm
    rw [hold (hne_of e hd)] at hρ
    exact ⟨j, b', y, e, hd, hρ⟩
  have hnelem : ∀ {q}, q ∈ tes → q ≠ t → upd ρ (base + t.i) w.heap.size z (base + q.i) = ρ (base + q.i) := fun hq hne => hold fun e => hne (R.same hq ht (by omega))
  refine ⟨hext, I.top, p1, p2, p3, fun q hq hqe => ?_, fun q hq hl hk b' hqb => ?_, fun q hq q' hq' hl hl' hk hk' hqb hqb' r y y' e e' => ?_, fun q hq hq2 => ?_, I.room⟩
  · rw [other hq (by intro e; subst e; rw [he] at hqe; cases hqe)]
    exact I.effs q hq hqe
  · by_cases hqt : q = t
    · subst hqt
      rw [hb] at hqb; cases hqb
      refine ⟨w.heap.size, z, obj, upd_self _ _ _ _, I.ext.size, hnew, hbr, fun hm => ?_⟩
      obtain ⟨j, b', y, e, hd, hρ⟩ := hlive _ hm
      have := H.below _ _ _ hρ
      omega
    · rw [other hq hqt] at hl
      obtain ⟨r, y, o, g1, g2, g3, g4, g5⟩ := I.early q hq hl hk b' hqb
      refine ⟨r, y, o, by rw [hnelem hq hqt]; exact g1, g2, ?_, g4.mono hsub, fun hm => g5 (hlive _ hm)⟩
      rw [hin (H.below _ _ _ g1)]; exact g3
  · by_cases hqt : q = t
    · by_cases hqt' : q' = t
      · rw [hqt, hqt']
      · subst hqt
        rw [upd_self] at e; cases e
        rw [hnelem hq' hqt'] at e'
        have := H.below _ _ _ e'
        omega
    · rw [hnelem hq hqt] at e
      by_cases hqt' : q' = t
      · subst hqt'
        rw [upd_self] at e'; cases e'
        have := H.below _ _ _ e
        omega
      · rw [hnelem hq' hqt'] at e'
        rw [other hq hqt] at hl
        rw [other hq' hqt'] at hl'
        exact I.apart q hq q' hq' hl hl' hk hk' hqb hqb' r y y' e e'
  · have hqt : q ≠ t := by
      intro e; subst e
      exact hq2 ((listed_set hi).2 (.inl rfl))
    rw [hnelem hq hqt]
    rw [other hq hqt] at hq2
    exact I.fresh q hq hq2

/-- One operation that is no effect. -/
theorem Ran.quietStep (R : Ran P callK ops base F0 s1 F2 s2 tes hs2 es2) {w0 w : World} {ρ0 ρ : BMap} {s : St} {k : Nat} {h : St} {listed : Array Bool} {a : Act} (I : Inv D ops tes base F0 s w0 ρ0 hs2 ρ k h listed a w) (hc : Closed ops.toList listed)
    {t : TE} (ht : t ∈ tes) (hr : t.i ∈ Region.ready .any ops listed) (he : t.eff = false) (hs : s.next ≤ base) {Q : Exit → Act → World → Prop} {K : Act → World → Prop} {r : Option Nat} {n : Nat}
    (hk : ∀ ρ' a' w', Inv D ops tes base F0 s w0 ρ0 hs2 ρ' k h (listed.setIfInBounds t.i true) a' w' → K a' w') : wpOpIn (Fc r) n P ops Q t.i K a w := by
  obtain ⟨o, ho, hnl, _⟩ := ready_spec hc.size hr
  have hi : t.i < listed.size := by rw [hc.size]; exact R.lt t ht
  have hoo : opAt ops.toList t.i = o := opAt_eq (by simpa using ho)
  obtain ⟨hok, _⟩ := R.chain.at ht
  obtain ⟨_, _, hq⟩ := hok.quiet he
  have looks := fun x hx u hu => R.looks I hc ht hr (x := x) hx (u := u) hu
  have hev : EvR ρ (only (looksOf ops.toList o) t.F.ev) a := only_run fun x hx u hu => (looks x (by rw [hoo]; exact hx) u hu).1
  rw [hoo] at looks
  unfold TE.quiet at hq
  rw [hoo] at hq
  unfold wpOpIn
  rw [ho]
  dsimp only
  rcases hq with ⟨hw, hv, _, hb⟩ | ⟨hw, hkd, _, hb⟩ | ⟨hw, ⟨f, hkd, hread⟩, _, hb⟩ | ⟨hw, n, hkd, hv, _, hb⟩
  · rw [if_neg (by rw [want_run hw looks]; simp)]
    refine ⟨fun _ _ => trivial, hk ρ _ w ?_⟩
    have := R.still I ht hi he hb (v' := undef) (by rw [hv]; exact .skip _)
    rwa [hoo] at this
  · rw [if_pos (want_run hw looks)]
    rw [← kindOf_only (ops := ops.toList)] at hkd
    obtain ⟨v', h1, h2⟩ := val_run hkd hev w
    refine ⟨fun _ _ => trivial, ?_⟩
    rw [Oper.semAt_eq _ _ _ (kindOf_defer hkd (by simp)), h1, Oper.uponIn_value]
    have := R.still I ht hi he hb h2
    rw [hoo] at this
    exact hk ρ _ w this
  · rw [if_pos (want_run hw looks)]
    rw [← kindOf_only (ops := ops.toList)] at hkd
    obtain ⟨_, j, hj, hjh⟩ := R.level I hc ht hr he
    obtain ⟨v', h1, h2⟩ := read_run hkd (hread j h hj hjh) hev I.ext.hr
    refine ⟨fun _ _ => trivial, ?_⟩
    rw [Oper.semAt_eq _ _ _ (kindOf_defer hkd (by simp)), h1, Oper.uponIn_value]
    have := R.still I ht hi he hb h2
    rw [hoo] at this
    exact hk ρ _ w this
  · rw [if_pos (want_run hw looks)]
    rw [← kindOf_only (ops := ops.toList)] at hkd
    obtain ⟨v', w', z, obj, h1, g1, g2, g3, g4, g5⟩ := make_run (ρ := ρ) (w := w) hkd hev
    obtain ⟨g6, g7⟩ := g5 (base + t.i) (I.fresh t ht hnl)
    refine ⟨fun _ _ => trivial, ?_⟩
    rw [Oper.semAt_eq _ _ _ (kindOf_defer hkd (by simp)), h1, Oper.uponIn_value]
    have := R.made I ht hi hnl he hs hb g1 g2 g3 g4 g6 (v' := v') (by rw [hv]; exact g7)
    rw [hoo] at this
    exact hk _ _ _ this

end Go.Proofs.Bx
