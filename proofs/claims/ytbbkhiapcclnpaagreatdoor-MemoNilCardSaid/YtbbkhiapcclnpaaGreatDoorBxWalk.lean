/- Code, calls, rounds: what the walker does, the model's run does, on every tape. -/
import Derived.Test.YtbbkhiapcclnpaaGreatDoorBxFast
import Derived.Scope
import Derived.RangeFuncOwn
set_option linter.unusedVariables false
set_option linter.unusedSimpArgs false
set_option linter.unusedSectionVars false
namespace Go.Proofs.Bx
open Go Go.RowKit

/-! Code. -/

abbrev Ans := Option (Out × Fr × St)

abbrev SF := Bool → Program → CallK → (Code → Fr → St → Ans) → Fr → St → Ans

abbrev TF := (Fr → St → Ans) → Fr → St → Ans
noncomputable def tNormal : TF := fun k F s => k F s
noncomputable def tExit (i : Nat) : TF := fun _ F s => some (.exit i, F, s)
noncomputable def tRet : TF := fun _ F s => some (.ret, F, s)
/-- Behind what ended as it should. -/
noncomputable def thenF (r : Ans) (k : Fr → St → Ans) : Ans := Option.rec none (fun x => Out.rec (motive := fun _ => TF) tNormal tExit tRet x.1 k x.2.1 x.2.2) r

abbrev BF := Nat → Fr → St → Ans
noncomputable def bNormal : BF := fun _ F s => some (.normal, F, s)
noncomputable def bExit (i : Nat) : BF := fun id F s => Bool.rec (some (.exit i, F, s)) (some (.normal, F, s)) (Nat.beq i id)
noncomputable def bRet : BF := fun _ F s => some (.ret, F, s)
noncomputable def blockF (id : Nat) (r : Ans) : Ans := Option.rec none (fun x => Out.rec (motive := fun _ => BF) bNormal bExit bRet x.1 id x.2.1 x.2.2) r

noncomputable def sSkip : SF := fun _ _ _ _ F s => some (.normal, F, s)
noncomputable def regionR (P : Program) (callK : CallK) (ops : Array Oper) (F : Fr) (s : St) : Option (Fr × St) := runF P callK ops ops.toList F s
noncomputable def sRegion (_ : Nat) (ops : Array Oper) (d : Bool) : SF := fun _ P callK _ F s => Option.rec none (fun r => some (.normal, r.1, r.2)) (Bool.rec regionR drawF d P callK ops F s)
noncomputable def sSeq (a b : Code) : SF := fun _ _ _ rc F s => thenF (rc a F s) (rc b)
noncomputable def boolAV (v : AV) : Option Bool := match v with
  | .bool b => some b
  | _ => none
noncomputable def sCond (c : Operand) (a b : Code) : SF := fun _ _ _ rc F s => Option.rec none (fun v => Option.rec none (fun x => rc (Bool.rec b a x) F s) (boolAV v)) (F.ev c)
noncomputable def sBlock (id : Nat) (b : Code) : SF := fun _ _ _ rc F s => blockF id (rc b F s)
noncomputable def sLoop (b : Code) : SF := fun _ _ _ rc F s => thenF (rc b F s) (rc (.loop b))
/-- Behind a range over a function: the jump that a round has left. -/
noncomputable def rangeEnd (i : Nat) (F : Fr) (s : St) : Ans :=
  match s.get i with
  | some (.loop _ _ _ _ .ready) => some (.normal, F, s.set i .dead)
  | some (.loop _ _ _ _ (.done o)) => some (o, F, s.set i .dead)
  | _ => none
noncomputable def rangeF (g : AV) (ps : Array Tmp) (asg bd : Code) (callK : CallK) (F : Fr) (s : St) : Ans :=
  match g with
  | .func (.func gf) [] captured => ob (callK (.fn gf) (.yld s.next :: captured) (s.new (.loop F ps.toList asg bd .ready))) fun x => rangeEnd s.next F x.2
  | _ => none
noncomputable def sRange (g : Operand) (ps : Array Tmp) (asg bd : Code) : SF := fun top _ callK _ F s => Bool.rec none (ob (F.ev g) fun v => rangeF v ps asg bd callK F s) top
noncomputable def sExit (id : Nat) : SF := fun _ _ _ _ F s => some (.exit id, F, s)
noncomputable def sScope (b : Code) : SF := fun top _ _ rc F s => Bool.rec none (rc b F s) top
noncomputable def sLabel (_ : Nat) : SF := sSkip
noncomputable def sGoto (_ : Nat) : SF := fun _ _ _ _ _ _ => none
noncomputable def sRet : SF := fun _ _ _ _ F s => some (.ret, F, s)
noncomputable def sRefuse (_ : String) : SF := fun _ _ _ _ _ _ => none

noncomputable def stepF (top : Bool) (P : Program) (callK : CallK) (rc : Code → Fr → St → Ans) (c : Code) (F : Fr) (s : St) : Ans :=
  Code.casesOn (motive := fun _ => SF) c sSkip sRegion sSeq sCond sBlock sLoop sRange sExit sScope sLabel sGoto sRet sRefuse top P callK rc F s

noncomputable def execF (top : Bool) (P : Program) (callK : CallK) (n : Nat) : Code → Fr → St → Ans := Nat.rec (motive := fun _ => Code → Fr → St → Ans) (fun _ _ _ => none) (fun _ ih => stepF top P callK ih) n

def Out.toExit : Out → Exit
  | .normal => .normal
  | .exit i => .exit i
  | .ret => .ret

/-! The marks of loops that are over. -/

def Marks (n0 : Nat) (ρ : BMap) (s : St) (w : World) : List Deferred → Prop
  | [] => True
  | m :: ms => (∃ D, m = { target := .collected D, args := #[] } ∧ n0 ≤ D ∧ w.heap[D]? = some (.deferred (some [])) ∧ ¬ Live ρ s D ∧ ∀ m' ∈ ms, ∀ D', m'.target = .collected D' → D' < D) ∧ Marks n0 ρ s w ms

theorem live_of_mine {ρ : BMap} {s : St} {r : Nat} (h : Mine ρ s r) : Live ρ s r := by
  obtain ⟨i, b, z, h1, h2, h3⟩ := h
  exact ⟨i, b, z, h1, (by intro e; subst e; cases h2), h3⟩

theorem lt_of_get {w : World} {D : Nat} {o : Obj} (h : w.heap[D]? = some o) : D < w.heap.size := (Array.getElem?_eq_some_iff.1 h).1

theorem Marks.ext {n0 : Nat} {ρ ρ' : BMap} {s s' : St} {w w' : World} (hx : Ext ρ s w ρ' s' w') : ∀ {l : List Deferred}, Marks n0 ρ s w l → Marks n0 ρ' s' w' l
  | [], _ => trivial
  | m :: ms, ⟨⟨D, h1, h2, h3, h4, h5⟩, h6⟩ =>
    ⟨⟨D, h1, h2, (hx.keeps D (lt_of_get h3) fun hm => h4 (live_of_mine hm)).trans h3, fun hl => h4 (hx.live D (lt_of_get h3) hl), h5⟩, Marks.ext hx h6⟩

theorem Marks.lt {n0 : Nat} {ρ : BMap} {s : St} {w : World} : ∀ {l : List Deferred}, Marks n0 ρ s w l → ∀ m ∈ l, ∀ D', m.target = .collected D' → D' < w.heap.size
  | [], _, m, hm, _, _ => by simp at hm
  | x :: ms, ⟨⟨D, h1, h2, h3, h4, h5⟩, h6⟩, m, hm, D', he => by
    rcases List.mem_cons.1 hm with rfl | hm
    · subst h1; cases he; exact lt_of_get h3
    · exact Marks.lt h6 m hm D' he

/-! What lies in no block of ours. -/

/-- A new block that is not taken in. -/
theorem Ext.other {ρ : BMap} {s : St} {w : World} (h : HR ρ s w) (o : Obj) : Ext ρ s w ρ s (w.alloc o) := by
  have hh : (w.alloc o).heap = w.heap.push o := rfl
  have hin : ∀ {r}, r < w.heap.size → (w.alloc o).heap[r]? = w.heap[r]? := fun hr => by rw [hh, Array.getElem?_push, if_neg (by omega)]
  refine ⟨.refl _, ⟨h.fresh, fun i b e hd => ?_, h.inj, fun i r z e => ?_⟩, ?_, fun r hr _ => hin hr, fun r _ hm => hm, fun r _ hm => hm, Nat.le_refl _, fun _ _ => rfl, rfl, rfl, rfl⟩
  · obtain ⟨r, z, ob, h1, h2, h3⟩ := h.blk i b e hd
    exact ⟨r, z, ob, h1, by rw [hin (h.below _ _ _ h1)]; exact h2, h3⟩
  · have := h.below i r z e
    rw [hh, Array.size_push]; omega
  · rw [hh, Array.size_push]; omega

/-- A block that is not in use turns. -/
theorem Ext.drop {ρ0 ρ : BMap} {s0 s : St} {w0 w : World} {D : Nat} {o : Obj} (hx : Ext ρ0 s0 w0 ρ s w) (h0 : w0.heap.size ≤ D) (hl : ¬ Live ρ s D) : Ext ρ0 s0 w0 ρ s (w.putObj D o) := by
  have hin : ∀ {r}, r ≠ D → (w.putObj D o).heap[r]? = w.heap[r]? := fun hne => World.putObj_heap_other hne
  refine ⟨hx.sub, ⟨hx.hr.fresh, fun i b e hd => ?_, hx.hr.inj, fun i r z e => ?_⟩, ?_, fun r hr hm => ?_, hx.mine, hx.live, hx.next, hx.old, hx.os, hx.tape, hx.output⟩
  · obtain ⟨r, z, ob, h1, h2, h3⟩ := hx.hr.blk i b e hd
    have hne : r ≠ D := by intro e'; subst e'; exact hl ⟨i, b, z, e, hd, h1⟩
    exact ⟨r, z, ob, h1, by rw [hin hne]; exact h2, h3⟩
  · rw [World.putObj_size]; exact hx.hr.below i r z e
  · rw [World.putObj_size]; exact hx.size
  · rw [hin (by omega)]; exact hx.keeps r hr hm

/-- The block of a loop turns. -/
theorem Ext.loop {ρ : BMap} {s : St} {w : World} {i l z : Nat} {b0 b : Blk} {o : Obj} (h : HR ρ s w) (hs : s.get i = some b0) (hw : b0.rw = true) (hi : ρ i = some (l, z)) (hb : BR ρ z b o) : Ext ρ s w ρ (s.set i b) (w.putObj l o) :=
  Ext.write h hs hw hi World.putObj_size (World.putObj_heap_same (h.below _ _ _ hi)) (fun _ hk => World.putObj_heap_other hk) rfl rfl rfl hb

theorem HR.loop {ρ : BMap} {s : St} {w : World} (h : HR ρ s w) {i l z : Nat} {F : Fr} {ps : List Nat} {asg bd : Code} {p : Pend} (hs : s.get i = some (.loop F ps asg bd p)) (hi : ρ i = some (l, z)) :
    ∃ rec : Loop, w.heap[l]? = some (.loop rec) ∧ rec.params.toList = ps ∧ rec.assign = asg ∧ rec.body = bd ∧ rec.tmps.size = F.size ∧ (∀ t v, F.get t = some v → VR ρ v (rec.tmps.getD t undef)) ∧ (∀ t v, F.get t = some v → t < F.size) ∧ PendR p rec.state rec.pending := by
  obtain ⟨r', z', o, e, ho, hr⟩ := h.blk i _ hs (by simp)
  rw [hi] at e
  cases e
  cases o <;> simp only [BR] at hr
  exact ⟨_, ho, hr⟩

/-! Loops. -/

/-- From within a loop. -/
def LoopAt (r : Option Nat) (m : Nat) (P : Program) (c : Code) (Q : Exit → Act → World → Prop) (a : Act) (w : World) : Prop :=
  ∀ (b : Frame) (k : List Item) (cs : List Frame), b.roundOf = (Fc r).round → (Fc r).fn b.fn → (Fc r).room (cs.length + 1 + m) →
    ∃ e a' w', Q e a' w' ∧ ArrivesIn (Machine.fenced P (Fc r)) P (lone (b.atR a (.code c :: .inLoop c :: k)) cs w) b k cs e a' w'

theorem LoopAt.wp {r : Option Nat} {m : Nat} {P : Program} {c : Code} {Q : Exit → Act → World → Prop} {a : Act} {w : World} (h : LoopAt r m P c Q a w) : (Code.loop c).wpIn (Fc r) m P Q a w :=
  fun b k cs hro hb hr => let ⟨e, a', w', q, x⟩ := h b k cs hro hb hr; ⟨e, a', w', q, .of_steps (.one (fenced_calm hb hr rfl) stepR_loop) x⟩

theorem LoopAt.of {r : Option Nat} {m : Nat} {P : Program} {c : Code} {Q : Exit → Act → World → Prop} {a : Act} {w : World} (h : c.wpIn (Fc r) m P (Exit.then (LoopAt r m P c Q) Q) a w) : LoopAt r m P c Q a w := by
  intro b k cs hro hb hr
  obtain ⟨e, a₁, w₁, hq, harr⟩ := h b (.inLoop c :: k) cs hro hb hr
  cases e with
  | normal =>
    obtain ⟨e₂, a₂, w₂, hq₂, harr₂⟩ := hq b k cs hro hb hr
    exact ⟨e₂, a₂, w₂, hq₂, .of_steps (StepsIn.trans harr (.one (fenced_calm hb hr rfl) stepR_inLoop)) harr₂⟩
  | exit id => exact ⟨_, a₁, w₁, hq, .pass (x := .inLoop c) rfl (fun _ _ => .inl (by simp)) harr⟩
  | goto l => exact ⟨_, a₁, w₁, hq, .pass (x := .inLoop c) rfl (fun _ _ => .inl (by simp)) harr⟩
  | ret => exact ⟨_, a₁, w₁, hq, .pass (x := .inLoop c) rfl (fun _ _ => .inl (by simp)) harr⟩
  | panic ch => exact ⟨_, a₁, w₁, hq, .pass (x := .inLoop c) rfl (fun _ _ => .inl (by simp)) harr⟩
  | outgrown => exact ⟨_, a₁, w₁, hq, .pass (x := .inLoop c) rfl (fun _ _ => .inl (by simp)) harr⟩

theorem scope_top {m : Nat} {P : Program} {c : Code} {Q : Exit → Act → World → Prop} {a : Act} {w : World} (h : c.wpIn (Fc none) m P (Exit.noGoto Q) a w) : (Code.scope c).wpIn (Fc none) m P Q a w :=
  wpIn_wide.2 (wp_scope_straight (wpIn_wide.1 h))

theorem execF_run {P : Program} {callK : CallK} (hc : CallSound P callK) (hd : DrawSound P callK) (top : Bool) : ∀ (n : Nat) {c : Code} {F F' : Fr} {s s' : St} {o : Out}, execF top P callK n c F s = some (o, F', s') →
    ∀ {D : List Deferred} {n0 : Nat} {ρ : BMap} {a : Act} {w : World} {Q : Exit → Act → World → Prop} {r : Option Nat} {m : Nat}, (top = true → r = none) → FrR D ρ F a → HR ρ s w → Marks n0 ρ s w D → n0 ≤ w.heap.size →
      (∀ D' ρ' a' w', Ext ρ s w ρ' s' w' → FrR D' ρ' F' a' → Marks n0 ρ' s' w' D' → Q o.toExit a' w') →
    c.wpIn (Fc r) m P Q a w ∧ ∀ b, c = .loop b → LoopAt r m P b Q a w := by
  intro n
  induction n with
  | zero => intro c F F' s s' o h; cases h
  | succ n ih =>
    intro c F F' s s' o h D n0 ρ a w Q r m htop hF hr hM hn hk
    have h' : stepF top P callK (execF top P callK n) c F s = some (o, F', s') := h
    clear h
    have still : ∀ {F1 : Fr} {s1 : St} {ρ1 : BMap} {a1 : Act} {w1 : World}, Ext ρ s w ρ1 s1 w1 → FrR D ρ1 F1 a1 → (∃ D' n1, n1 = n0 ∧ FrR D' ρ1 F1 a1 ∧ Marks n1 ρ1 s1 w1 D') := fun e f => ⟨D, n0, rfl, f, hM.ext e⟩
    -- one after another
    have seq : ∀ {x : Code} {k : Fr → St → Ans} {N : Act → World → Prop}, thenF (execF top P callK n x F s) k = some (o, F', s') →
        (∀ {D1 : List Deferred} {F1 : Fr} {s1 : St} {ρ1 : BMap} {a1 : Act} {w1 : World}, k F1 s1 = some (o, F', s') → Ext ρ s w ρ1 s1 w1 → FrR D1 ρ1 F1 a1 → Marks n0 ρ1 s1 w1 D1 → N a1 w1) → x.wpIn (Fc r) m P (Exit.then N Q) a w := by
      intro x k N hx hN
      cases he : execF top P callK n x F s with
      | none => rw [he] at hx; cases hx
      | some q =>
        obtain ⟨o1, F1, s1⟩ := q
        rw [he] at hx
        cases o1 with
        | normal => exact (ih he htop hF hr hM hn fun D1 ρ1 a1 w1 e1 f1 m1 => hN (show k F1 s1 = _ from hx) e1 f1 m1).1
        | exit i =>
          cases (show some (Out.exit i, F1, s1) = some (o, F', s') from hx)
          exact (ih he htop hF hr hM hn (Q := Exit.then N Q) fun D1 ρ1 a1 w1 e1 f1 m1 => hk _ _ _ _ e1 f1 m1).1
        | ret =>
          cases (show some (Out.ret, F1, s1) = some (o, F', s') from hx)
          exact (ih he htop hF hr hM hn (Q := Exit.then N Q) fun D1 ρ1 a1 w1 e1 f1 m1 => hk _ _ _ _ e1 f1 m1).1
    cases c with
    | skip => cases (show some (Out.normal, F, s) = some (o, F', s') from h'); exact ⟨wpIn_skip (hk _ _ _ _ (.refl hr) hF hM), fun b e => by cases e⟩
    | label l => cases (show some (Out.normal, F, s) = some (o, F', s') from h'); exact ⟨wpIn_label (hk _ _ _ _ (.refl hr) hF hM), fun b e => by cases e⟩
    | goto l => cases (show (none : Ans) = some (o, F', s') from h')
    | refuse y => cases (show (none : Ans) = some (o, F', s') from h')
    | ret => cases (show some (Out.ret, F, s) = some (o, F', s') from h'); exact ⟨wpIn_ret (hk _ _ _ _ (.refl hr) hF hM), fun b e => by cases e⟩
    | exit id => cases (show some (Out.exit id, F, s) = some (o, F', s') from h'); exact ⟨wpIn_exit (hk _ _ _ _ (.refl hr) hF hM), fun b e => by cases e⟩
    | region id ops d =>
      replace h' := ob_some (show ob (Bool.rec regionR drawF d P callK ops F s : Option (Fr × St)) (fun x => some (Out.normal, x.1, x.2)) = some (o, F', s') from h')
      obtain ⟨⟨F1, s1⟩, h1, h'⟩ := h'
      cases h'
      refine ⟨?_, fun b e => by cases e⟩
      cases d with
      | true =>
        have h1 : drawF P callK ops F s = some (F1, s1) := h1
        rw [drawF_eq] at h1
        exact hd h1 hF hr fun ρ' a' w' e1 f1 => hk _ _ _ _ e1 f1 (hM.ext e1)
      | false =>
        have h1 : runF P callK ops ops.toList F s = some (F1, s1) := h1
        rw [runF_eq] at h1
        exact region_run hc h1 hF hr fun ρ' a' w' e1 f1 => hk _ _ _ _ e1 f1 (hM.ext e1)
    | seq x y =>
      refine ⟨wpIn_seq (seq (show thenF (execF top P callK n x F s) (execF top P callK n y) = some (o, F', s') from h') fun hx e1 f1 m1 => ?_), fun b e => by cases e⟩
      exact (ih hx htop f1 e1.hr m1 (Nat.le_trans hn e1.size) fun D2 ρ2 a2 w2 e2 f2 m2 => hk _ _ _ _ (e1.trans e2) f2 m2).1
    | cond c x y =>
      refine ⟨?_, fun b e => by cases e⟩
      replace h' := ob_some (show ob (F.ev c) (fun v => ob (boolAV v) fun b => execF top P callK n (Bool.rec y x b) F s) = some (o, F', s') from h'); obtain ⟨v, hv, h'⟩ := h'
      replace h' := ob_some h'; obtain ⟨b, hb, h'⟩ := h'
      have hvr := Fr.ev_run hF _ _ hv
      unfold boolAV at hb
      split at hb
      · cases hb
        generalize hq : a.eval c = q at hvr
        cases hvr
        cases b with
        | true => exact wpIn_cond_true hq (ih h' htop hF hr hM hn hk).1
        | false => exact wpIn_cond_false hq (ih h' htop hF hr hM hn hk).1
      · cases hb
    | block id b =>
      refine ⟨wpIn_block ?_, fun b e => by cases e⟩
      have h' : blockF id (execF top P callK n b F s) = some (o, F', s') := h'
      cases he : execF top P callK n b F s with
      | none => rw [he] at h'; cases h'
      | some q =>
        obtain ⟨o1, F1, s1⟩ := q
        rw [he] at h'
        cases o1 with
        | normal =>
          cases (show some (Out.normal, F1, s1) = some (o, F', s') from h')
          exact (ih he htop hF hr hM hn (Q := Exit.inBlock id Q) fun D1 ρ1 a1 w1 e1 f1 m1 => hk _ _ _ _ e1 f1 m1).1
        | exit i =>
          have h2 : (Bool.rec (some (.exit i, F1, s1)) (some (.normal, F1, s1)) (Nat.beq i id) : Ans) = some (o, F', s') := h'
          by_cases hi : i = id
          · rw [beq_yes hi] at h2
            cases (show some (Out.normal, F1, s1) = some (o, F', s') from h2)
            refine (ih he htop hF hr hM hn (Q := Exit.inBlock id Q) fun D1 ρ1 a1 w1 e1 f1 m1 => ?_).1
            show Exit.inBlock id Q (.exit i) a1 w1
            simp only [Exit.inBlock, hi, if_true]
            exact hk _ _ _ _ e1 f1 m1
          · rw [beq_no hi] at h2
            cases (show some (Out.exit i, F1, s1) = some (o, F', s') from h2)
            refine (ih he htop hF hr hM hn (Q := Exit.inBlock id Q) fun D1 ρ1 a1 w1 e1 f1 m1 => ?_).1
            show Exit.inBlock id Q (.exit i) a1 w1
            simp only [Exit.inBlock, hi, if_false]
            exact hk _ _ _ _ e1 f1 m1
        | ret =>
          cases (show some (Out.ret, F1, s1) = some (o, F', s') from h')
          exact (ih he htop hF hr hM hn (Q := Exit.inBlock id Q) fun D1 ρ1 a1 w1 e1 f1 m1 => hk _ _ _ _ e1 f1 m1).1
    | loop b =>
      have hl : LoopAt r m P b Q a w := by
        refine LoopAt.of (seq (show thenF (execF top P callK n b F s) (execF top P callK n (.loop b)) = some (o, F', s') from h') fun hx e1 f1 m1 => ?_)
        exact (ih hx htop f1 e1.hr m1 (Nat.le_trans hn e1.size) fun D2 ρ2 a2 w2 e2 f2 m2 => hk _ _ _ _ (e1.trans e2) f2 m2).2 b rfl
      exact ⟨hl.wp, fun b' e => by cases e; exact hl⟩
    | scope b =>
      refine ⟨?_, fun b e => by cases e⟩
      cases top with
      | false => cases (show (none : Ans) = some (o, F', s') from h')
      | true =>
        have h' : execF true P callK n b F s = some (o, F', s') := h'
        obtain rfl := htop rfl
        refine scope_top (ih h' htop hF hr hM hn fun D1 ρ1 a1 w1 e1 f1 m1 => ?_).1
        have := hk _ _ _ _ e1 f1 m1
        cases o <;> exact this
    | rangeFunc g ps asg bd =>
      refine ⟨?_, fun b e => by cases e⟩
      cases top with
      | false => cases (show (none : Ans) = some (o, F', s') from h')
      | true =>
        obtain rfl := htop rfl
        replace h' := ob_some (show ob (F.ev g) (fun v => rangeF v ps asg bd callK F s) = some (o, F', s') from h'); obtain ⟨v, hv, h'⟩ := h'
        have hvr := Fr.ev_run hF _ _ hv
        unfold rangeF at h'
        split at h'
        · rename_i gf ca
          replace h' := ob_some h'; obtain ⟨⟨u, s3⟩, hcall, h'⟩ := h'
          generalize hq : a.eval g = q at hvr
          cases hvr with
          | func l1 l2 g1 g2 =>
            rename_i fi' ca'
            have hfi : fi' = #[] := Array.eq_empty_of_size_eq_zero l1.symm
            subst hfi
            -- the two blocks
            have x1 := Ext.other hr (.deferred (some []))
            obtain ⟨rec, hrec⟩ : ∃ rec : FuncId → Loop, rec = fun fn => { state := .ready, pending := none, fn, tmps := a.tmps, params := ps, assign := asg, body := bd, defers := w.heap.size } := ⟨_, rfl⟩
            have hfr : ∀ fn, BR (upd ρ s.next (w.heap.size + 1) 0) 0 (.loop F ps.toList asg bd .ready) (.loop (rec fn)) := fun fn => by
              rw [hrec]
              exact ⟨rfl, rfl, rfl, hF.size, fun t v e => (hF.get t v e).mono (upd_sub (hr.fresh _ (Nat.le_refl _))), hF.lt, rfl, rfl⟩
            have x2 : ∀ fn, Ext ρ s w (upd ρ s.next (w.heap.size + 1) 0) (s.new (.loop F ps.toList asg bd .ready)) ((w.alloc (.deferred (some []))).alloc (.loop (rec fn))) := fun fn => by
              refine x1.trans ?_
              have e1 : (w.alloc (.deferred (some []))).heap.size = w.heap.size + 1 := World.size_alloc _ _
              have := Ext.new (w := w.alloc (.deferred (some []))) (w' := (w.alloc (.deferred (some []))).alloc (.loop (rec fn))) (z := 0) (blk := .loop F ps.toList asg bd .ready) (obj := .loop (rec fn)) x1.hr rfl rfl rfl rfl (by rw [e1]; exact hfr fn)
              rwa [e1] at this
            refine wpIn_rangeFunc fun fn _ => ?_
            have hargs : VRs (upd ρ s.next (w.heap.size + 1) 0) (.yld s.next :: ca) (#[.func (.yield (w.heap.size + 1)) #[] #[]] ++ ca') := by
              have h1 : VRs (upd ρ s.next (w.heap.size + 1) 0) [.yld s.next] #[.func (.yield (w.heap.size + 1)) #[] #[]] := by
                have := (VRs.nil (upd ρ s.next (w.heap.size + 1) 0)).push (.yld (upd_self ρ s.next (w.heap.size + 1) 0))
                exact this
              exact VRs.append h1 (VRs.mono (x2 fn).sub ⟨l2, g2⟩)
            refine ⟨w.heap.size + 1, [{ target := .collected w.heap.size, args := #[] }], (w.alloc (.deferred (some []))).alloc (.loop (rec fn)), { target := .fn (.func gf) ca', args := #[.func (.yield (w.heap.size + 1)) #[] #[]] },
              (w.alloc (.deferred (some []))).alloc (.loop (rec fn)), gf, #[.func (.yield (w.heap.size + 1)) #[] #[]] ++ ca', (w.alloc (.deferred (some []))).alloc (.loop (rec fn)), ?_, ?_, fun _ _ => trivial, ?_, Fc.deep, ?_⟩
            · rw [hrec]; exact run_enterLoop_outer _ _ _ _ _
            · simp only [resolve, hq]
              simp [go_sem]
            · simp [invoke, hc.enter hcall]
            · refine Fc.calls ((hc.calls hcall (x2 fn).hr hargs).mono fun e w3 he => ?_)
              cases e with
              | panicked c => exact he.elim
              | outgrown => exact he.elim
              | returned u' =>
                obtain ⟨ρ3, x3, _⟩ := he
                have hi : ρ3 s.next = some (w.heap.size + 1, 0) := x3.sub _ _ (upd_self _ _ _ _)
                -- what a mark says
                have hm2 : Marks n0 (upd ρ s.next (w.heap.size + 1) 0) (s.new (.loop F ps.toList asg bd .ready)) ((w.alloc (.deferred (some []))).alloc (.loop (rec fn))) ({ target := .collected w.heap.size, args := #[] } :: D) := by
                  refine ⟨⟨w.heap.size, rfl, hn, ?_, ?_, fun m' hm' D' hD' => hM.lt m' hm' D' hD'⟩, hM.ext (x2 fn)⟩
                  · exact (Below.heap_alloc _ _ _ (by simp)).trans (World.alloc_heap_new w _)
                  · rintro ⟨i, b, z, h1, h2, h3⟩
                    by_cases hi' : i = s.next
                    · subst hi'; rw [upd_self] at h3; simp at h3
                    · rw [show upd ρ s.next (w.heap.size + 1) 0 i = ρ i by simp [upd, hi']] at h3
                      have := hr.below _ _ _ h3; omega
                have fin : ∀ {F0 : Fr} {qs : List Nat} {c1 c2 : Code} {p : Pend}, s3.get s.next = some (.loop F0 qs c1 c2 p) → p ≠ .busy → s' = s3.set s.next .dead → F' = F →
                    ∃ rc : Loop, (Instr.endLoop (w.heap.size + 1)).run P w3 = .ok rc.pending (w3.putObj (w.heap.size + 1) (.loop { rc with state := .exhausted })) ∧ PendR p rc.state rc.pending ∧
                      Q o.toExit { a with defers := { target := .collected w.heap.size, args := #[] } :: D } (w3.putObj (w.heap.size + 1) (.loop { rc with state := .exhausted })) := by
                  intro F0 qs c1 c2 p hp hnb hs' hF'
                  obtain ⟨rc, k1, _, _, _, _, _, _, k2⟩ := x3.hr.loop hp hi
                  have hnb' : rc.state ≠ .busy := by
                    cases p with
                    | ready => rw [k2.1]; simp
                    | busy => exact absurd rfl hnb
                    | done o => rw [k2.1]; simp
                  refine ⟨rc, run_endLoop k1 hnb', k2, ?_⟩
                  have x4 : Ext ρ3 s3 w3 ρ3 (s3.set s.next .dead) (w3.putObj (w.heap.size + 1) (.loop { rc with state := .exhausted })) := Ext.loop x3.hr hp rfl hi trivial
                  subst hs'; subst hF'
                  have x5 := (x2 fn).trans (x3.trans x4)
                  exact hk _ _ _ _ x5 ⟨rfl, hF.size, fun t v e => (hF.get t v e).mono x5.sub, hF.lt⟩ (hm2.ext (x3.trans x4))
                unfold rangeEnd at h'
                have hdef : a.defers = D := hF.defers
                split at h'
                · rename_i hp
                  cases h'
                  obtain ⟨rc, k1, k2, k3⟩ := fin hp (by simp) rfl rfl
                  refine ⟨_, _, k1, ?_⟩
                  rw [k2.2] at k3 ⊢
                  rw [hdef]; exact k3
                · rename_i o' hp
                  cases h'
                  obtain ⟨rc, k1, k2, k3⟩ := fin hp (by simp) rfl rfl
                  refine ⟨_, _, k1, ?_⟩
                  rw [k2.2.1] at k3 ⊢
                  cases o with
                  | normal => exact absurd rfl k2.2.2
                  | exit i => dsimp only [Out.jump]; rw [hdef]; exact wpIn_exit k3
                  | ret => dsimp only [Out.jump]; rw [hdef]; exact wpIn_ret k3
                · cases h'
        · cases h'

/-! Calls. -/

theorem argsLoc_get : ∀ {l : List AV} {i : Nat} {t : Tr AV} {j : Nat} {v : AV}, (argsLoc l i t).get j = some v → (i ≤ j ∧ l[j - i]? = some v) ∨ t.get j = some v
  | [], i, t, j, v, h => .inr h
  | x :: l, i, t, j, v, h => by
    have h' : (argsLoc l (i + 1) (t.set x i)).get j = some v := h
    rcases argsLoc_get h' with ⟨h1, h2⟩ | h1
    · refine .inl ⟨by omega, ?_⟩
      rw [show j - i = j - (i + 1) + 1 by omega]
      simpa using h2
    · rcases Tr.get_set h1 with ⟨rfl, rfl⟩ | ⟨_, h2⟩
      · exact .inl ⟨Nat.le_refl _, by simp⟩
      · exact .inr h2

theorem frameA_run {ρ : BMap} {thr : Nat} {fn : Func} {args : List AV} {args' : Array Value} {F : Fr} (h : frameA thr fn args = some F) (ha : VRs ρ args args') :
    FrR [] ρ F { tmps := args' ++ Array.replicate (fn.ntmps - args'.size) undef, defers := [] } := by
  replace h := cond_some h; obtain ⟨h1, h⟩ := h
  replace h := cond_some h; obtain ⟨h2, h⟩ := h
  cases h
  have h2 := Nat.le_of_ble_eq_true h2
  rw [llen_eq, ha.1] at h2
  have hget : ∀ {t v}, Fr.get ⟨[], argsLoc args 0 .nil, thr, fn.ntmps⟩ t = some v → args[t]? = some v := by
    intro t v e
    have e' : cond (Nat.blt t thr) ((argsLoc args 0 .nil).get t) (assoc [] t) = some v := by rw [← Fr.get_eq ⟨[], argsLoc args 0 .nil, thr, fn.ntmps⟩ t]; exact e
    cases hb : Nat.blt t thr with
    | true =>
      rw [hb] at e'
      rcases argsLoc_get e' with ⟨_, g⟩ | g
      · simpa using g
      · cases g
    | false => rw [hb] at e'; cases e'
  refine ⟨rfl, by simp; omega, fun t v e => ?_, fun t v e => ?_⟩
  · obtain ⟨v', e1, e2⟩ := ha.get (hget e)
    have hlt := (Array.getElem?_eq_some_iff.1 e1).1
    have : (args' ++ Array.replicate (fn.ntmps - args'.size) undef).getD t undef = v' := by
      simp only [Array.getD_eq_getD_getElem?]
      rw [Array.getElem?_append_left hlt, e1]; rfl
    rw [this]; exact e2
  · have := (List.getElem?_eq_some_iff.1 (hget e)).1
    show t < fn.ntmps
    rw [ha.1] at this; omega

theorem resA_run {P : Program} {D : List Deferred} {ρ : BMap} {F : Fr} {s : St} {a : Act} {w : World} (hF : FrR D ρ F a) (hr : HR ρ s w) {f : ResultVar → Sem Value} (f1 : ∀ t, f (.tmp t) = pure (a.tmps.getD t undef))
    (f2 : ∀ x t, f (.cell x t) = (do loadVar t (← asAddr (a.tmps.getD x undef)))) {r : ResultVar} {v : AV} (h : resA P F s r = some v) : ∃ v', (f r).run P w = .ok v' w ∧ VR ρ v v' := by
  cases r with
  | tmp t => exact ⟨_, by rw [f1]; rfl, hF.get t v h⟩
  | cell x t =>
    replace h := ob_some (show ob (F.get x) _ = _ from h); obtain ⟨y, hy, h⟩ := h
    have hx := hF.get x y hy
    obtain ⟨v', h1, h2⟩ := loadA_run h hr hx
    refine ⟨v', ?_, h2⟩
    rw [f2]
    generalize a.tmps.getD x undef = q at hx h1
    cases hx <;> first | (cases h; done) | (simpa [Instr.loadAt, Instr.sureAddr, asAddr] using h1)

theorem resultsA_run {P : Program} {D : List Deferred} {ρ : BMap} {F : Fr} {s : St} {a : Act} {w : World} (hF : FrR D ρ F a) (hr : HR ρ s w) {fn : Func} {v : AV} (h : resultsA P fn F s = some v) :
    ∃ v', (results fn a.tmps).run P w = .ok v' w ∧ VR ρ v v' := by
  replace h := ob_some h; obtain ⟨vs, hvs, h⟩ := h
  have key : ∀ (f : ResultVar → Sem Value), (∀ t, f (.tmp t) = pure (a.tmps.getD t undef)) → (∀ x t, f (.cell x t) = (do loadVar t (← asAddr (a.tmps.getD x undef)))) →
      ∀ (l : List ResultVar) (vs : List AV), lmapO (resA P F s) l = some vs → ∃ us : List Value, (l.mapM f).run P w = .ok us w ∧ VRs ρ vs us.toArray := by
    intro f f1 f2 l
    induction l with
    | nil => intro vs h; cases h; exact ⟨[], rfl, VRs.nil ρ⟩
    | cons r l ih =>
      intro vs h
      obtain ⟨b, q, hb, hq, rfl⟩ := lmapO_cons h
      obtain ⟨b', r1, v1⟩ := resA_run hF hr f1 f2 hb
      obtain ⟨us, r2, v2⟩ := ih q hq
      refine ⟨b' :: us, ?_, ?_⟩
      · rw [List.mapM_cons]
        simp only [Sem.run_bind, r1, Result.andThen_ok, r2, Sem.run_pure]
      · have := ((VRs.nil ρ).push v1).append v2
        simpa using this
  have arr : ∀ (f : ResultVar → Sem Value), (∀ t, f (.tmp t) = pure (a.tmps.getD t undef)) → (∀ x t, f (.cell x t) = (do loadVar t (← asAddr (a.tmps.getD x undef)))) →
      ∃ us : List Value, (fn.results.mapM f).run P w = .ok us.toArray w ∧ VRs ρ vs us.toArray := by
    intro f f1 f2
    obtain ⟨us, h1, h2⟩ := key f f1 f2 _ _ hvs
    refine ⟨us, ?_, h2⟩
    rw [Array.mapM_eq_mapM_toList]
    simp only [Sem.run_map, h1, Result.andThen_ok]
  have fin : ∀ us : List Value, VRs ρ vs us.toArray → ∃ v', (pure (if h : us.toArray.size = 1 then us.toArray[0] else .tuple us.toArray) : Sem Value).run P w = .ok v' w ∧ VR ρ v v' := by
    intro us hv
    split at h
    · rename_i v0
      cases h
      have hs := hv.1
      cases us with
      | nil => simp at hs
      | cons u us =>
        cases us with
        | nil => exact ⟨u, by simp, hv.2 0 _ _ (by simp) (by simp)⟩
        | cons u2 us => simp at hs
    · rename_i hne
      cases h
      have hs : ¬ us.toArray.size = 1 := by
        intro e
        rw [← hv.1] at e
        cases vs with
        | nil => simp at e
        | cons v0 vs =>
          cases vs with
          | nil => exact hne v0 rfl
          | cons v1 vs => simp at e
      exact ⟨.tuple us.toArray, by rw [dif_neg hs]; rfl, .tuple hv.1 hv.2⟩
  obtain ⟨us, h1, h2⟩ := arr (fun
    | .tmp t => pure (a.tmps.getD t undef)
    | .cell x t => do loadVar t (← asAddr (a.tmps.getD x undef))) (fun t => rfl) (fun x t => rfl)
  obtain ⟨v', h3, h4⟩ := fin us h2
  exact ⟨v', (Sem.run_bind' P _ _ w).trans ((congrArg (fun r => Result.andThen r _) h1).trans h3), h4⟩

/-! Leaving: the marks are taken. -/

theorem marks_leave {P : Program} {fn : Func} {tmps : Array Value} {R : Ending → World → Prop} {ρ0 : BMap} {s0 : St} {w0 : World} {ρ : BMap} {s : St} : ∀ (l : List Deferred) (w : World), Marks w0.heap.size ρ s w l → Ext ρ0 s0 w0 ρ s w →
    (∀ w', Ext ρ0 s0 w0 ρ s w' → ∃ v, (results fn tmps).run P w' = .ok v w' ∧ R (.returned v) w') → LeavesInM Fence.wide 0 P fn tmps R l .returning w
  | [], w, _, hx, hk => hk w hx
  | m :: ms, w, ⟨⟨D, h1, h2, h3, h4, h5⟩, h6⟩, hx, hk => by
    refine ⟨by simp, .inl ⟨D, w.putObj D (.deferred none), by rw [h1], run_takeDeferred h3, ?_⟩⟩
    refine marks_leave ms _ ?_ (hx.drop h2 h4) hk
    have turn : ∀ {l : List Deferred}, Marks w0.heap.size ρ s w l → (∀ m' ∈ l, ∀ D', m'.target = .collected D' → D' < D) → Marks w0.heap.size ρ s (w.putObj D (.deferred none)) l := by
      intro l
      induction l with
      | nil => exact fun _ _ => trivial
      | cons x l ih =>
        rintro ⟨⟨E, g1, g2, g3, g4, g5⟩, g6⟩ hlt
        have hE := hlt x (by simp) E (by rw [g1])
        exact ⟨⟨E, g1, g2, (World.putObj_heap_other (by omega)).trans g3, g4, g5⟩, ih g6 fun m' hm' => hlt m' (List.mem_cons_of_mem _ hm')⟩
    exact turn h6 h5

/-! The walker. -/

noncomputable def backF (P : Program) (fn : Func) (F : Fr) (s : St) : Option (AV × St) := Option.rec none (fun v => some (v, s)) (resultsA P fn F s)

abbrev RF := Program → Func → Fr → St → Option (AV × St)
noncomputable def rExit (_ : Nat) : RF := fun _ _ _ _ => none

noncomputable def bodyF (P : Program) (callK : CallK) (thr fuel : Nat) (fn : Func) (args : List AV) (s : St) : Option (AV × St) :=
  Bool.rec (Option.rec none (fun c => Option.rec none (fun F => Option.rec none (fun r => Out.rec (motive := fun _ => RF) backF rExit backF r.1 P fn r.2.1 r.2.2) (execF true P callK fuel c F s)) (frameA thr fn args)) fn.body) none (fn.name == "runtime.NumGoroutine")

/-- The slots of a round. -/
noncomputable def putsF (ps : List Nat) : List AV → Fr → Option Fr :=
  List.rec (motive := fun _ => List AV → Fr → Option Fr) (fun vs F => match vs with
    | [] => some F
    | _ => none) (fun t _ ih vs F => match vs with
    | [] => none
    | v :: vs => ih vs (F.put t v)) ps

noncomputable def isNormal : Out → Bool
  | .normal => true
  | _ => false

noncomputable def pendOf : Out → Pend
  | .normal => .ready
  | o => .done o

/-- One round. -/
noncomputable def roundF (P : Program) (callK : CallK) (fuel : Nat) (i : Nat) (args : List AV) (s : St) : Option (AV × St) :=
  match s.get i with
  | some (.loop F ps asg bd .ready) => ob (putsF ps args F) fun F1 =>
    match execF false P callK fuel asg F1 s with
    | some (.normal, F2, s2) =>
      (match s2.get i with
       | some (.loop G qs c1 c2 .ready) => ob (execF false P callK fuel bd F2 (s2.set i (.loop G qs c1 c2 .busy))) fun x =>
          (match x.2.2.get i with
           | some (.loop H us d1 d2 .busy) => some (.bool (isNormal x.1), x.2.2.set i (.loop H us d1 d2 (pendOf x.1)))
           | _ => none)
       | _ => none)
    | _ => none
  | _ => none

noncomputable def gFn (f : FuncId) : Program → Nat → Nat → CallK → List AV → St → Option (AV × St) := fun P thr fuel callK args s => Option.rec none (fun fn => bodyF P callK thr fuel fn args s) (nth P.funcs.toList f)
noncomputable def gYld (i : Nat) : Program → Nat → Nat → CallK → List AV → St → Option (AV × St) := fun P _ fuel callK args s => roundF P callK fuel i args s

noncomputable def goF (P : Program) (thr fuel : Nat) (callK : CallK) (f : Tgt) (args : List AV) (s : St) : Option (AV × St) :=
  Tgt.rec (motive := fun _ => Program → Nat → Nat → CallK → List AV → St → Option (AV × St)) gFn gYld f P thr fuel callK args s

theorem putsF_run {D : List Deferred} {ρ : BMap} : ∀ {ps : List Nat} {vs : List AV} {F F' : Fr} {us : List Value} {tmps : Array Value}, putsF ps vs F = some F' → VRs ρ vs us.toArray → FrR D ρ F { tmps := tmps, defers := D } →
    ps.length = us.length ∧ FrR D ρ F' { tmps := (ps.zip us).foldl (fun t p => t.setIfInBounds p.1 p.2) tmps, defers := D }
  | [], vs, F, F', us, tmps, h, hv, hF => by
    cases vs with
    | nil =>
      cases (show some F = some F' from h)
      have : us = [] := by have := hv.1; simp at this; exact List.eq_nil_of_length_eq_zero this.symm
      subst this
      exact ⟨rfl, hF⟩
    | cons _ _ => cases (show (none : Option Fr) = some F' from h)
  | t :: ps, vs, F, F', us, tmps, h, hv, hF => by
    cases vs with
    | nil => cases (show (none : Option Fr) = some F' from h)
    | cons v vs =>
      have h : putsF ps vs (F.put t v) = some F' := h
      obtain ⟨u, b, hb, hu, hus⟩ := hv.cons_inv
      have hb' : us = u :: b.toList := by
        have := congrArg Array.toList hb
        simpa using this
      subst hb'
      obtain ⟨h1, h2⟩ := putsF_run (us := b.toList) (tmps := tmps.setIfInBounds t u) h (by simpa using hus) (hF.put hu (some t))
      exact ⟨by simp [h1], by simpa using h2⟩

theorem goF_sound {P : Program} (hm : P.follows .mixedOrders = true) (thr fuel : Nat) {callK : CallK} (hc : CallSound P callK) : CallSound P (goF P thr fuel callK) := by
  have open_ : ∀ {f : FuncId} {args : List AV} {s s' : St} {v : AV}, goF P thr fuel callK (.fn f) args s = some (v, s') →
      ∃ fn c F o F', P.funcs[f]? = some fn ∧ (fn.name == "runtime.NumGoroutine") = false ∧ fn.body = some c ∧ frameA thr fn args = some F ∧
        execF true P callK fuel c F s = some (o, F', s') ∧ (o = .normal ∨ o = .ret) ∧ resultsA P fn F' s' = some v := by
    intro f args s s' v h
    replace h := ob_some (show ob (nth P.funcs.toList f) (fun fn => bodyF P callK thr fuel fn args s) = some (v, s') from h)
    obtain ⟨fn, hfn, h'⟩ := h
    rw [nth_eq] at hfn
    have hfn' : P.funcs[f]? = some fn := by simpa using hfn
    unfold bodyF at h'
    cases hname : fn.name == "runtime.NumGoroutine" with
    | true => rw [hname] at h'; cases h'
    | false =>
      rw [hname] at h'
      replace h' := ob_some (show ob fn.body (fun c => ob (frameA thr fn args) fun F => ob (execF true P callK fuel c F s) fun r => Out.rec (motive := fun _ => RF) backF rExit backF r.1 P fn r.2.1 r.2.2) = some (v, s') from h')
      obtain ⟨c, hbody, h'⟩ := h'
      replace h' := ob_some h'; obtain ⟨F, hF, h'⟩ := h'
      replace h' := ob_some h'; obtain ⟨⟨o, F1, s1⟩, he, h'⟩ := h'
      cases o with
      | exit i => cases h'
      | normal =>
        replace h' := ob_some (show ob (resultsA P fn F1 s1) (fun v => some (v, s1)) = some (v, s') from h'); obtain ⟨u, hv, h'⟩ := h'
        cases h'; exact ⟨fn, c, F, _, F1, hfn', hname, hbody, hF, he, .inl rfl, hv⟩
      | ret =>
        replace h' := ob_some (show ob (resultsA P fn F1 s1) (fun v => some (v, s1)) = some (v, s') from h'); obtain ⟨u, hv, h'⟩ := h'
        cases h'; exact ⟨fn, c, F, _, F1, hfn', hname, hbody, hF, he, .inr rfl, hv⟩
  have hd : DrawSound P callK := draw_sound hm callK hc
  refine ⟨fun {g args s s' v ρ w args'} h hr ha => ?_, fun {g args s s' v w args'} h => ?_, fun {i args s s' v ρ w args' l z} h hr ha hi r n => ?_⟩
  · obtain ⟨fn, c, F, o, F', hfn, _, hc', hF, he, ho, hres⟩ := open_ h
    refine (callsIn_wide (n := 0)).1 (callsIn_of_wp_marks hfn hc' trivial ?_)
    refine (execF_run hc hd true fuel he (r := none) (m := 0) (ρ := ρ) (n0 := w.heap.size) (fun _ => rfl) (frameA_run hF ha) hr trivial (Nat.le_refl _) fun D' ρ' a' w' e1 f1 m1 => ?_).1
    have leave : LeavesInM Fence.wide 0 P fn a'.tmps (CR ρ s w v s') a'.defers .returning w' := by
      rw [f1.defers]
      refine marks_leave D' w' m1 e1 fun w2 e2 => ?_
      obtain ⟨v', r1, r2⟩ := resultsA_run f1 e2.hr hres
      exact ⟨v', r1, ρ', e2, r2⟩
    rcases ho with rfl | rfl
    · exact leave
    · exact leave
  · obtain ⟨fn, c, F, o, F', hfn, hname, hc', _⟩ := open_ h
    have hn : ¬ fn.name = "runtime.NumGoroutine" := by simpa using hname
    simp [callFunc, hfn, hn, hc']
  · have h : roundF P callK fuel i args s = some (v, s') := h
    unfold roundF at h
    split at h
    · rename_i F ps asg bd hget
      replace h := ob_some h; obtain ⟨F1, hF1, h⟩ := h
      split at h
      · rename_i F2 s2 he1
        split at h
        · rename_i G qs c1 c2 hget2
          replace h := ob_some h; obtain ⟨⟨o, F3, s3⟩, he2, h⟩ := h
          dsimp only at h
          split at h
          · rename_i H us d1 d2 hget3
            cases h
            obtain ⟨rec, k1, k2, k3, k4, k5, k6, k7, k8⟩ := hr.loop hget hi
            have hfr0 : FrR [] ρ F { tmps := rec.tmps, defers := [] } := ⟨rfl, k5, k6, k7⟩
            obtain ⟨q1, q2⟩ := putsF_run (us := args'.toList) hF1 (by simpa using ha) hfr0
            have hsz : args'.size = rec.params.size := by
              have : rec.params.toList.length = args'.toList.length := by rw [k2]; exact q1
              simpa using this.symm
            refine ⟨rec.fn, _, rec.assign, rec.body, run_yield k1 hsz, roundIn_of_wpIn trivial ?_⟩
            have htm : (rec.params.zip args').foldl (fun tmps (x : Nat × Value) => tmps.setIfInBounds x.1 x.2) rec.tmps = (ps.zip args'.toList).foldl (fun t p => t.setIfInBounds p.1 p.2) rec.tmps := by
              rw [← Array.foldl_toList, Array.toList_zip, k2]
            have hsome : (Fc r).inRound l = Fc (some l) := rfl
            rw [hsome]
            have q2' : FrR [] ρ F1 { tmps := (rec.params.zip args').foldl (fun tmps (x : Nat × Value) => tmps.setIfInBounds x.1 x.2) rec.tmps, defers := [] } := by rw [htm]; exact q2
            rw [k3, k4]
            refine (execF_run hc hd false fuel he1 (r := some l) (m := n) (ρ := ρ) (n0 := 0) (fun e => by cases e) q2' hr trivial (Nat.zero_le _) fun D' ρ2 a2 w2 e1 f1 m1 => ?_).1
            have hi2 := e1.sub _ _ hi
            obtain ⟨rec2, b1, b2, b3, b4, b5, b6, b7, b8⟩ := e1.hr.loop hget2 hi2
            refine ⟨_, run_beginRound b1 b8.1, ?_⟩
            have x2 : Ext ρ2 s2 w2 ρ2 (s2.set i (.loop G qs c1 c2 .busy)) (w2.putObj l (.loop { rec2 with state := .busy })) := Ext.loop e1.hr hget2 rfl hi2 ⟨b2, b3, b4, b5, b6, b7, rfl, b8.2⟩
            refine (execF_run hc hd false fuel he2 (r := some l) (m := n) (ρ := ρ2) (n0 := 0) (fun e => by cases e) (f1.mono (x2.sub)) x2.hr (m1.ext x2) (Nat.zero_le _) fun D'' ρ3 a3 w3 e3 f3 m3 => ?_).1
            have hi3 := e3.sub _ _ hi2
            obtain ⟨rec3, g1, g2, g3, g4, g5, g6, g7, g8⟩ := e3.hr.loop hget3 hi3
            have done : ∀ (jump : Option Code), jump = o.jump → ∃ v' w', (Instr.endRound l jump).run P w3 = .ok v' w' ∧ CR ρ s w (.bool (isNormal o)) (s3.set i (.loop H us d1 d2 (pendOf o))) (.returned v') w' := by
              intro jump hj
              refine ⟨_, _, run_endRound jump g1, ρ3, e1.trans (x2.trans (e3.trans (Ext.loop e3.hr hget3 rfl hi3 ⟨g2, g3, g4, g5, g6, g7, ?_⟩))), ?_⟩
              · subst hj
                cases o with
                | normal => exact ⟨rfl, rfl⟩
                | exit id => exact ⟨rfl, rfl, by simp⟩
                | ret => exact ⟨rfl, rfl, by simp⟩
              · subst hj
                cases o <;> exact .bool _
            cases o with
            | normal => exact done none rfl
            | exit id => exact done (some (.exit id)) rfl
            | ret => exact done (some .ret) rfl
          · cases h
        · cases h
      · cases h
    · cases h

end Go.Proofs.Bx
