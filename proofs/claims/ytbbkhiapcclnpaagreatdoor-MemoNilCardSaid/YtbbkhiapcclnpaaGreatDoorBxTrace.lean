/- The run through a plan, step by step. -/
import Derived.Test.YtbbkhiapcclnpaaGreatDoorBxLook
set_option linter.unusedVariables false
set_option linter.unusedSimpArgs false
set_option linter.unusedSectionVars false
namespace Go.Proofs.Bx
open Go

structure TE where
  i : Nat
  c : Nat
  eff : Bool
  v : AV
  blk : Option Blk
  F : Fr
  cur : St
  hs : List St
  es : List Nat
  F' : Fr
  cur' : St
  hs' : List St
  es' : List Nat

section
variable (P : Program) (callK : CallK) (ops : Array Oper) (base : Nat)

/-- A step that is no effect. -/
def TE.quiet (t : TE) : Prop :=
  (wantA ops t.F (opAt ops.toList t.i).guard = some false ∧ t.v = .skip ∧ t.cur' = t.cur ∧ t.blk = none) ∨
  (wantA ops t.F (opAt ops.toList t.i).guard = some true ∧ kindOf P t.F.ev (opAt ops.toList t.i) = .val (some t.v) ∧ t.cur' = t.cur ∧ t.blk = none) ∨
  (wantA ops t.F (opAt ops.toList t.i).guard = some true ∧ (∃ f, kindOf P t.F.ev (opAt ops.toList t.i) = .read f ∧ ∀ k h, k < t.c + 1 → t.hs[k]? = some h → f h = some t.v) ∧ t.cur' = t.cur ∧ t.blk = none) ∨
  (wantA ops t.F (opAt ops.toList t.i).guard = some true ∧ ∃ n, kindOf P t.F.ev (opAt ops.toList t.i) = .make (some n) ∧ t.v = n.res (base + t.i) ∧ t.cur' = t.cur.put (base + t.i) n.blk ∧ t.blk = some n.blk)

/-- A step that is one. -/
def TE.effect (t : TE) : Prop :=
  (wantA ops t.F (opAt ops.toList t.i).guard = some false ∧ t.v = .skip ∧ t.cur' = t.cur) ∨
  (wantA ops t.F (opAt ops.toList t.i).guard = some true ∧ doV P callK t.F.ev (opAt ops.toList t.i) t.cur = some (t.v, t.cur'))

structure TE.ok (t : TE) : Prop where
  put : t.F' = t.F.putO (opAt ops.toList t.i).dst t.v
  quiet : t.eff = false → t.hs' = t.hs ∧ t.es' = t.es ∧ t.quiet P ops base
  effect : t.eff = true → t.hs' = t.cur' :: t.hs ∧ t.es' = t.i :: t.es ∧ t.blk = none ∧ t.effect P callK ops

inductive Chain : List TE → Fr → St → List St → List Nat → Fr → St → List St → List Nat → Prop where
  | nil (F : Fr) (s : St) (hs : List St) (es : List Nat) : Chain [] F s hs es F s hs es
  | cons {t : TE} {l : List TE} {F : Fr} {s : St} {hs : List St} {es : List Nat} (h : t.ok P callK ops base) (c : Chain l t.F' t.cur' t.hs' t.es' F s hs es) : Chain (t :: l) t.F t.cur t.hs t.es F s hs es
end

variable {P : Program} {callK : CallK} {ops : Array Oper} {base : Nat}

theorem Chain.append {l m : List TE} {F F1 F2 : Fr} {s s1 s2 : St} {hs hs1 hs2 : List St} {es es1 es2 : List Nat} (h : Chain P callK ops base l F s hs es F1 s1 hs1 es1) (k : Chain P callK ops base m F1 s1 hs1 es1 F2 s2 hs2 es2) :
    Chain P callK ops base (l ++ m) F s hs es F2 s2 hs2 es2 := by
  induction h with
  | nil => exact k
  | cons h _ ih => exact .cons h (ih k)

theorem Chain.split {pre post : List TE} {t : TE} {F F2 : Fr} {s s2 : St} {hs hs2 : List St} {es es2 : List Nat} (h : Chain P callK ops base (pre ++ t :: post) F s hs es F2 s2 hs2 es2) :
    Chain P callK ops base pre F s hs es t.F t.cur t.hs t.es ∧ t.ok P callK ops base ∧ Chain P callK ops base post t.F' t.cur' t.hs' t.es' F2 s2 hs2 es2 := by
  induction pre generalizing F s hs es with
  | nil =>
    cases h with
    | cons h c => exact ⟨.nil _ _ _ _, h, c⟩
  | cons u pre ih =>
    cases h with
    | cons h c =>
      obtain ⟨h1, h2, h3⟩ := ih c
      exact ⟨.cons h h1, h2, h3⟩

def Fr.wf (F : Fr) : Prop := ∀ x u, F.get x = some u → x < F.size

theorem put_big {F : Fr} {d : Nat} (h : ¬ d < F.size) (v : AV) : F.put d v = F := by
  have hb : Nat.blt d F.size = false := by
    cases hc : Nat.blt d F.size with
    | false => rfl
    | true => rw [Nat.blt_eq] at hc; exact absurd hc h
  rw [Fr.put_eq, hb]; rfl

theorem putO_size (F : Fr) (d : Option Nat) (v : AV) : (F.putO d v).size = F.size := by
  cases d with
  | none => rfl
  | some d => exact Fr.put_size _ _ _

theorem Fr.wf.putO {F : Fr} (h : F.wf) (d : Option Nat) (v : AV) : (F.putO d v).wf := by
  intro x u e
  rw [putO_size]
  cases d with
  | none => exact h x u e
  | some d =>
    by_cases hlt : d < F.size
    · rcases Fr.get_put hlt (show (F.put d v).get x = some u from e) with ⟨rfl, _⟩ | ⟨_, h3⟩
      · exact hlt
      · exact h x u h3
    · have e' : (F.put d v).get x = some u := e
      rw [put_big hlt] at e'
      exact h x u e'

/-- What a frame holds at the end. -/
theorem Chain.frame {l : List TE} {F F2 : Fr} {s s2 : St} {hs hs2 : List St} {es es2 : List Nat} (h : Chain P callK ops base l F s hs es F2 s2 hs2 es2) (hw : F.wf) :
    F2.size = F.size ∧ F2.wf ∧ ∀ x u, F2.get x = some u → (∃ q ∈ l, (opAt ops.toList q.i).dst = some x ∧ u = q.v ∧ x < F.size) ∨ ((∀ q ∈ l, (opAt ops.toList q.i).dst ≠ some x) ∧ F.get x = some u) := by
  induction h with
  | nil => exact ⟨rfl, hw, fun x u e => .inr ⟨by simp, e⟩⟩
  | cons h c ih =>
    rename_i t l F s hs es
    have hw1 : t.F'.wf := by rw [h.put]; exact hw.putO _ _
    obtain ⟨hsz, hwf, ih⟩ := ih hw1
    have hsz1 : t.F'.size = t.F.size := by rw [h.put]; exact putO_size _ _ _
    refine ⟨hsz.trans hsz1, hwf, fun x u e => ?_⟩
    rcases ih x u e with ⟨q, h1, h2, h3, h4⟩ | ⟨h1, h2⟩
    · exact .inl ⟨q, by simp [h1], h2, h3, by omega⟩
    · rw [h.put] at h2
      cases hd : (opAt ops.toList t.i).dst with
      | none =>
        rw [hd] at h2
        refine .inr ⟨fun q hq => ?_, h2⟩
        rcases List.mem_cons.1 hq with rfl | hq
        · rw [hd]; simp
        · exact h1 q hq
      | some d =>
        rw [hd] at h2
        have h2' : (t.F.put d t.v).get x = some u := h2
        by_cases hlt : d < t.F.size
        · rcases Fr.get_put hlt h2' with ⟨rfl, rfl⟩ | ⟨hne, h3⟩
          · exact .inl ⟨t, by simp, hd, rfl, hlt⟩
          · refine .inr ⟨fun q hq => ?_, h3⟩
            rcases List.mem_cons.1 hq with rfl | hq
            · rw [hd]; simp; exact fun e => hne e.symm
            · exact h1 q hq
        · rw [put_big hlt] at h2'
          have hx : x ≠ d := by
            intro e; subst e
            exact hlt (hw _ _ h2')
          refine .inr ⟨fun q hq => ?_, h2'⟩
          rcases List.mem_cons.1 hq with rfl | hq
          · rw [hd]; simp; exact fun e => hx e.symm
          · exact h1 q hq

theorem Chain.suffix {l : List TE} {F F2 : Fr} {s s2 : St} {hs hs2 : List St} {es es2 : List Nat} (h : Chain P callK ops base l F s hs es F2 s2 hs2 es2) : hs <:+ hs2 ∧ es <:+ es2 := by
  induction h with
  | nil => exact ⟨List.suffix_refl _, List.suffix_refl _⟩
  | cons h c ih =>
    rename_i t l F s hs es
    cases he : t.eff with
    | false =>
      obtain ⟨h1, h2, _⟩ := h.quiet he
      rw [h1, h2] at ih
      exact ih
    | true =>
      obtain ⟨h1, h2, _⟩ := h.effect he
      rw [h1, h2] at ih
      exact ⟨(List.suffix_cons _ _).trans ih.1, (List.suffix_cons _ _).trans ih.2⟩

theorem Chain.length {l : List TE} {F F2 : Fr} {s s2 : St} {hs hs2 : List St} {es es2 : List Nat} (h : Chain P callK ops base l F s hs es F2 s2 hs2 es2) : hs2.length + es.length = hs.length + es2.length := by
  induction h with
  | nil => rfl
  | cons h c ih =>
    rename_i t l F s hs es
    cases he : t.eff with
    | false =>
      obtain ⟨h1, h2, _⟩ := h.quiet he
      rw [h1, h2] at ih; exact ih
    | true =>
      obtain ⟨h1, h2, _⟩ := h.effect he
      rw [h1, h2] at ih
      simp at ih; omega

/-- What the memory holds at the end: what it held behind the last effect, and what was made since. -/
theorem Chain.memory {l : List TE} {F F2 : Fr} {s s2 : St} {hs hs2 : List St} {es es2 : List Nat} (h : Chain P callK ops base l F s hs es F2 s2 hs2 es2) (hne : hs ≠ []) :
    (∀ id b, s2.get id = some b → (∃ q ∈ l, q.eff = false ∧ q.blk = some b ∧ id = base + q.i ∧ q.es.length = es2.length) ∨ (es2.length = es.length ∧ s.get id = some b) ∨ ∃ h r, hs2 = h :: r ∧ h.get id = some b) ∧
    ((es2.length = es.length ∧ s2.next = s.next) ∨ ∃ h r, hs2 = h :: r ∧ s2.next = h.next) := by
  induction h with
  | nil => exact ⟨fun id b e => .inr (.inl ⟨rfl, e⟩), .inl ⟨rfl, rfl⟩⟩
  | cons h c ih =>
    rename_i t l F s hs es
    cases he : t.eff with
    | false =>
      obtain ⟨h1, h2, hq⟩ := h.quiet he
      rw [h1, h2] at ih
      obtain ⟨ih1, ih2⟩ := ih hne
      have cur : ∀ id b, t.cur'.get id = some b → (t.blk = some b ∧ id = base + t.i) ∨ t.cur.get id = some b := by
        intro id b e
        rcases hq with ⟨_, _, hc, _⟩ | ⟨_, _, hc, _⟩ | ⟨_, _, hc, _⟩ | ⟨_, n, _, _, hc, hb⟩
        · rw [hc] at e; exact .inr e
        · rw [hc] at e; exact .inr e
        · rw [hc] at e; exact .inr e
        · rw [hc] at e
          rcases Tr.get_set (show (t.cur.heap.set n.blk (base + t.i)).get id = some b from e) with ⟨e1, e2⟩ | ⟨_, e2⟩
          · subst e2; exact .inl ⟨hb, e1⟩
          · exact .inr e2
      have nxt : t.cur'.next = t.cur.next := by
        rcases hq with ⟨_, _, hc, _⟩ | ⟨_, _, hc, _⟩ | ⟨_, _, hc, _⟩ | ⟨_, n, _, _, hc, hb⟩ <;> rw [hc]
        rfl
      refine ⟨fun id b e => ?_, ?_⟩
      · rcases ih1 id b e with ⟨q, q1, q2⟩ | ⟨g1, g2⟩ | g
        · exact .inl ⟨q, by simp [q1], q2⟩
        · rcases cur id b g2 with ⟨g3, g4⟩ | g3
          · exact .inl ⟨t, by simp, he, g3, g4, g1.symm⟩
          · exact .inr (.inl ⟨g1, g3⟩)
        · exact .inr (.inr g)
      · rcases ih2 with ⟨g1, g2⟩ | g
        · exact .inl ⟨g1, g2.trans nxt⟩
        · exact .inr g
    | true =>
      obtain ⟨h1, h2, _⟩ := h.effect he
      have hsuf := c.suffix
      have hlen := c.length
      rw [h1, h2] at ih hsuf hlen
      obtain ⟨ih1, ih2⟩ := ih (by simp)
      obtain ⟨⟨x, hx⟩, ⟨y, hy⟩⟩ := hsuf
      have last : es.length = t.es.length + 1 → ∃ h r, hs = h :: r ∧ h = t.cur' := by
        intro e
        have hxl : x = [] := by
          apply List.eq_nil_of_length_eq_zero
          have e1 := congrArg List.length hx
          simp at e1 hlen
          omega
        subst hxl
        exact ⟨t.cur', t.hs, hx.symm, rfl⟩
      refine ⟨fun id b e => ?_, ?_⟩
      · rcases ih1 id b e with ⟨q, q1, q2⟩ | ⟨g1, g2⟩ | g
        · exact .inl ⟨q, by simp [q1], q2⟩
        · obtain ⟨h', r, e1, e2⟩ := last (by simpa using g1)
          exact .inr (.inr ⟨h', r, e1, by rw [e2]; exact g2⟩)
        · exact .inr (.inr g)
      · rcases ih2 with ⟨g1, g2⟩ | g
        · obtain ⟨h', r, e1, e2⟩ := last (by simpa using g1)
          exact .inr ⟨h', r, e1, by rw [e2]; exact g2⟩
        · exact .inr g

/-! The run makes such a chain. -/

theorem quietsA_chain {hs : List St} : ∀ {l : List (Nat × Nat)} {F F' : Fr} {s s' : St} {es : List Nat}, quietsA P ops base hs l F s = some (F', s') →
    ∃ tes, Chain P callK ops base tes F s hs es F' s' hs es ∧ tes.map (fun t => (t.i, t.c)) = l ∧ ∀ t ∈ tes, t.eff = false ∧ t.es = es ∧ t.es' = es
  | [], F, F', s, s', es, h => by
    cases h
    exact ⟨[], .nil _ _ _ _, rfl, by simp⟩
  | x :: l, F, F', s, s', es, h => by
    replace h := ob_some (show ob (quietA P ops base hs x F s) _ = _ from h); obtain ⟨⟨F1, s1⟩, h1, h⟩ := h
    obtain ⟨tes, c, hm, hall⟩ := quietsA_chain (es := es) h
    obtain ⟨i, ci⟩ := x
    have step : ∃ v blk, TE.ok P callK ops base ⟨i, ci, false, v, blk, F, s, hs, es, F1, s1, hs, es⟩ := by
      replace h1 := ob_some (show ob (wantA ops F (opAt ops.toList i).guard) _ = _ from h1); obtain ⟨b, hb, h1⟩ := h1
      cases b with
      | false =>
        cases h1
        exact ⟨.skip, none, rfl, fun _ => ⟨rfl, rfl, .inl ⟨hb, rfl, rfl, rfl⟩⟩, fun e => by cases e⟩
      | true =>
        have h2 : (match kindOf P F.ev (opAt ops.toList i) with
     | .val (some v) => some (F.putO (opAt ops.toList i).dst v, s)
     | .read f => ob (readQ f hs ci) fun v => some (F.putO (opAt ops.toList i).dst v, s)
     | .make (some n) => some (F.putO (opAt ops.toList i).dst (n.res (Nat.add base i)), s.put (Nat.add base i) n.blk)
     | _ => none) = some (F1, s1) := h1
        split at h2
        · rename_i v hk
          cases h2
          exact ⟨v, none, rfl, fun _ => ⟨rfl, rfl, .inr (.inl ⟨hb, hk, rfl, rfl⟩)⟩, fun e => by cases e⟩
        · rename_i f hk
          replace h2 := ob_some h2; obtain ⟨v, hv, h2⟩ := h2
          cases h2
          have hread : ∀ k h, k < ci + 1 → hs[k]? = some h → f h = some v := by
            unfold readQ at hv
            split at hv
            · cases hv
            · replace hv := ob_some hv; obtain ⟨u, hu, hv⟩ := hv
              replace hv := cond_some hv; obtain ⟨hsame, hv⟩ := hv
              cases hv
              exact fun k h hk he => readsSame_get hsame k h hk he
          exact ⟨v, none, rfl, fun _ => ⟨rfl, rfl, .inr (.inr (.inl ⟨hb, ⟨f, hk, hread⟩, rfl, rfl⟩))⟩, fun e => by cases e⟩
        · rename_i n hk
          cases h2
          exact ⟨_, some n.blk, rfl, fun _ => ⟨rfl, rfl, .inr (.inr (.inr ⟨hb, n, hk, rfl, rfl, rfl⟩))⟩, fun e => by cases e⟩
        · cases h2
    obtain ⟨v, blk, hok⟩ := step
    refine ⟨⟨i, ci, false, v, blk, F, s, hs, es, F1, s1, hs, es⟩ :: tes, .cons hok c, by simp [hm], fun t ht => ?_⟩
    rcases List.mem_cons.1 ht with rfl | ht
    · exact ⟨rfl, rfl, rfl⟩
    · exact hall t ht

theorem oneA_effect {F F' : Fr} {s s' : St} {hs : List St} {es : List Nat} {e : Nat} (h : oneA P callK ops (opAt ops.toList e) F s = some (F', s')) :
    ∃ v, TE.ok P callK ops base ⟨e, 0, true, v, none, F, s, hs, es, F', s', s' :: hs, e :: es⟩ := by
  replace h := ob_some h; obtain ⟨b, hb, h⟩ := h
  cases b with
  | false =>
    cases h
    exact ⟨.skip, rfl, fun e => (by cases e), fun _ => ⟨rfl, rfl, rfl, .inl ⟨hb, rfl, rfl⟩⟩⟩
  | true =>
    replace h := ob_some (show ob (doV P callK F.ev (opAt ops.toList e) s) _ = _ from h); obtain ⟨⟨v, s2⟩, hv, h⟩ := h
    cases h
    exact ⟨v, rfl, fun e => (by cases e), fun _ => ⟨rfl, rfl, rfl, .inr ⟨hb, hv⟩⟩⟩

/-- What the checks of a plan say of the steps. -/
structure StepsOk (B : List Nat) (es : List Nat) (tes : List TE) : Prop where
  floats : ∀ t ∈ tes, t.eff = false → t.c ≤ t.es.length ∧ ∀ e, t.es[t.c]? = some e → prec B e t.i = true
  chain : ∀ t ∈ tes, t.eff = true → ∀ e r, t.es = e :: r → prec B e t.i = true
  ahead : ∀ t ∈ tes, ∀ u ∈ tes, t.eff = false → u.eff = true → t.es.length = u.es.length → prec B t.i u.i = true
  level : ∀ t ∈ tes, es.length ≤ t.es.length

theorem lmap_eq {α β : Type} (f : α → β) : ∀ l : List α, lmap f l = l.map f
  | [] => rfl
  | a :: l => by
    have : lmap f (a :: l) = f a :: lmap f l := rfl
    rw [this, lmap_eq f l]; rfl

theorem segsA_chain {B : List Nat} : ∀ {p : List Seg} {hs : List St} {F F' : Fr} {s s' : St} {es : List Nat}, segsA P callK ops base p hs F s = some (F', s') → segsOk ops.toList B p es = true → lastOk p = true →
    ∃ tes hs' es', Chain P callK ops base tes F s hs es F' s' hs' es' ∧ tes.map (·.i) = ordOf p ∧ StepsOk B es tes
  | [], hs, F, F', s, s', es, _, _, hl => by cases hl
  | g :: p, hs, F, F', s, s', es, h, hok, hl => by
    replace h := ob_some (show ob (quietsA P ops base hs g.ahead F s) _ = _ from h); obtain ⟨⟨F1, s1⟩, h1, h⟩ := h
    obtain ⟨tes, c, hm, hall⟩ := quietsA_chain (callK := callK) (es := es) h1
    have hok' : cond (lall (fun x => !isEff (opAt ops.toList x.1) && (match nth es x.2 with
        | some e => prec B e x.1
        | none => true) && Nat.ble x.2 (llen es)) g.ahead)
      (match g.eff with
       | some e => cond (lall (fun x => prec B x.1 e) g.ahead) (cond (isEff (opAt ops.toList e)) (cond (headOk B e es) (segsOk ops.toList B p (e :: es)) false) false) false
       | none => segsOk ops.toList B p es) false = true := hok
    have c0 : lall (fun x => !isEff (opAt ops.toList x.1) && (match nth es x.2 with
        | some e => prec B e x.1
        | none => true) && Nat.ble x.2 (llen es)) g.ahead = true := by
      cases hc : lall (fun x => !isEff (opAt ops.toList x.1) && (match nth es x.2 with
        | some e => prec B e x.1
        | none => true) && Nat.ble x.2 (llen es)) g.ahead with
      | true => rfl
      | false => rw [hc] at hok'; cases hok'
    rw [c0] at hok'
    have hok2 : (match g.eff with
       | some e => cond (lall (fun x => prec B x.1 e) g.ahead) (cond (isEff (opAt ops.toList e)) (cond (headOk B e es) (segsOk ops.toList B p (e :: es)) false) false) false
       | none => segsOk ops.toList B p es) = true := hok'
    have qs : ∀ t ∈ tes, t.c ≤ t.es.length ∧ ∀ e, t.es[t.c]? = some e → prec B e t.i = true := by
      intro t ht
      have hin : (t.i, t.c) ∈ g.ahead := by rw [← hm]; exact List.mem_map.2 ⟨t, ht, rfl⟩
      have := lall_iff.1 c0 _ hin
      simp only [Bool.and_eq_true] at this
      obtain ⟨⟨_, h2⟩, h3⟩ := this
      rw [(hall t ht).2.1]
      refine ⟨by have := Nat.le_of_ble_eq_true h3; rwa [llen_eq] at this, fun e he => ?_⟩
      rw [nth_eq, he] at h2
      exact h2
    have hord : ∀ l, ordOf (g :: p) = l → l = tes.map (·.i) ++ (match g.eff with
        | some e => e :: ordOf p
        | none => ordOf p) := by
      intro l hl
      have e1 : ordOf (g :: p) = lapp (lmap (fun x => x.1) g.ahead) (match g.eff with
    | some e => e :: ordOf p
    | none => ordOf p) := rfl
      rw [← hl, e1, lapp_eq, lmap_eq, ← hm, List.map_map]
      rfl
    cases he : g.eff with
    | none =>
      -- the last part
      rw [he] at hok2
      have hl' : (match g.eff with
        | some _ => lastOk p
        | none => match p with
          | [] => true
          | _ :: _ => false) = true := hl
      rw [he] at hl'
      cases p with
      | cons g' p' => cases hl'
      | nil =>
        have h2 : (match g.eff with
      | some e => ob (oneA P callK ops (opAt ops.toList e) F1 s1) fun q => segsA P callK ops base [] (q.2 :: hs) q.1 q.2
      | none => segsA P callK ops base [] hs F1 s1) = some (F', s') := h
        rw [he] at h2
        have h3 : some (F1, s1) = some (F', s') := h2
        cases h3
        refine ⟨tes, hs, es, c, ?_, ?_⟩
        · have := hord _ rfl
          rw [he] at this
          rw [this]
          show _ = tes.map (·.i) ++ ordOf []
          have e0 : ordOf [] = [] := rfl
          rw [e0]; simp
        · refine ⟨fun t ht _ => qs t ht, fun t ht he => ?_, fun t ht u hu _ he => ?_, fun t ht => ?_⟩
          · rw [(hall t ht).1] at he; cases he
          · rw [(hall u hu).1] at he; cases he
          · rw [(hall t ht).2.1]; exact Nat.le_refl _
    | some e =>
      rw [he] at hok2
      have h2 : (match g.eff with
      | some e => ob (oneA P callK ops (opAt ops.toList e) F1 s1) fun q => segsA P callK ops base p (q.2 :: hs) q.1 q.2
      | none => segsA P callK ops base p hs F1 s1) = some (F', s') := h
      rw [he] at h2
      replace h2 := ob_some (show ob (oneA P callK ops (opAt ops.toList e) F1 s1) _ = _ from h2); obtain ⟨⟨F2, s2⟩, h3, h4⟩ := h2
      have hok3 : cond (lall (fun x => prec B x.1 e) g.ahead) (cond (isEff (opAt ops.toList e)) (cond (headOk B e es) (segsOk ops.toList B p (e :: es)) false) false) false = true := hok2
      have d1 : lall (fun x => prec B x.1 e) g.ahead = true := by
        cases hc : lall (fun x => prec B x.1 e) g.ahead with
        | true => rfl
        | false => rw [hc] at hok3; cases hok3
      rw [d1] at hok3
      have hok4 : cond (isEff (opAt ops.toList e)) (cond (headOk B e es) (segsOk ops.toList B p (e :: es)) false) false = true := hok3
      have d2 : isEff (opAt ops.toList e) = true := by
        cases hc : isEff (opAt ops.toList e) with
        | true => rfl
        | false => rw [hc] at hok4; cases hok4
      rw [d2] at hok4
      have hok5 : cond (headOk B e es) (segsOk ops.toList B p (e :: es)) false = true := hok4
      have d3 : headOk B e es = true := by
        cases hc : headOk B e es with
        | true => rfl
        | false => rw [hc] at hok5; cases hok5
      rw [d3] at hok5
      have hl2 : lastOk p = true := by
        have hl' : (match g.eff with
        | some _ => lastOk p
        | none => match p with
          | [] => true
          | _ :: _ => false) = true := hl
        rw [he] at hl'
        exact hl'
      obtain ⟨tes2, hs', es', c2, hm2, hst⟩ := segsA_chain (es := e :: es) h4 hok5 hl2
      obtain ⟨v, hoke⟩ := oneA_effect (base := base) (hs := hs) (es := es) h3
      refine ⟨tes ++ ⟨e, 0, true, v, none, F1, s1, hs, es, F2, s2, s2 :: hs, e :: es⟩ :: tes2, hs', es', c.append (.cons hoke c2), ?_, ?_⟩
      · have := hord _ rfl
        rw [he] at this
        rw [this]
        simp [hm2]
      · have lev2 : ∀ t ∈ tes2, es.length + 1 ≤ t.es.length := fun t ht => by simpa using hst.level t ht
        refine ⟨fun t ht hf => ?_, fun t ht hf e' r he' => ?_, fun t ht u hu hf hu' hlen => ?_, fun t ht => ?_⟩
        · rcases List.mem_append.1 ht with ht | ht
          · exact qs t ht
          · rcases List.mem_cons.1 ht with rfl | ht
            · cases hf
            · exact hst.floats t ht hf
        · rcases List.mem_append.1 ht with ht | ht
          · rw [(hall t ht).1] at hf; cases hf
          · rcases List.mem_cons.1 ht with rfl | ht
            · dsimp only at he'
              rw [he'] at d3
              exact d3
            · exact hst.chain t ht hf e' r he'
        · rcases List.mem_append.1 ht with ht | ht
          · rcases List.mem_append.1 hu with hu | hu
            · rw [(hall u hu).1] at hu'; cases hu'
            · rcases List.mem_cons.1 hu with rfl | hu
              · have hin : (t.i, t.c) ∈ g.ahead := by rw [← hm]; exact List.mem_map.2 ⟨t, ht, rfl⟩
                exact lall_iff.1 d1 _ hin
              · have := lev2 u hu
                rw [(hall t ht).2.1] at hlen; omega
          · rcases List.mem_cons.1 ht with rfl | ht
            · cases hf
            · rcases List.mem_append.1 hu with hu | hu
              · rw [(hall u hu).1] at hu'; cases hu'
              · rcases List.mem_cons.1 hu with rfl | hu
                · have := lev2 t ht
                  dsimp only at hlen; omega
                · exact hst.ahead t ht u hu hf hu' hlen
        · rcases List.mem_append.1 ht with ht | ht
          · rw [(hall t ht).2.1]; exact Nat.le_refl _
          · rcases List.mem_cons.1 ht with rfl | ht
            · exact Nat.le_refl _
            · have := lev2 t ht; omega

end Go.Proofs.Bx
