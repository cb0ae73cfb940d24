/- Regions in the order of their text: what they do to the abstract memory, and that the model's region does so. -/
import Derived.Test.YtbbkhiapcclnpaaGreatDoorBxOpRun
import Derived.RangeFuncSeq
import Derived.RangeFuncCalls
import Derived.OrdersIn
set_option linter.unusedVariables false
set_option linter.unusedSimpArgs false
set_option linter.unusedSectionVars false
namespace Go.Proofs.Bx
open Go
variable (P : Program)

abbrev CallK := Tgt → List AV → St → Option (AV × St)

/-- The ending of a call, as the abstract one says. -/
def CR (ρ : BMap) (s : St) (w : World) (v : AV) (s' : St) : Ending → World → Prop
  | .returned v', w' => ∃ ρ', Ext ρ s w ρ' s' w' ∧ VR ρ' v v'
  | .outgrown, _ => False
  | .panicked _, _ => False

/-- The wide fence, in a round or in none. -/
def Fc (r : Option Nat) : Fence := { Fence.wide with round := r }

theorem Fc.calls {r : Option Nat} {n : Nat} {P : Program} {f : FuncId} {args : Array Value} {w : World} {R : Ending → World → Prop} (h : Calls P f args w R) : CallsIn (Fc r) n P f args w R := by
  have h0 : CallsIn Fence.wide n P f args w R := callsIn_wide.2 h
  cases r with
  | none => exact h0
  | some l => exact h0.inRound l

theorem Fc.deep {r : Option Nat} {n : Nat} : (Fc r).depth.isSome = true → 1 ≤ n := fun h => by cases h

structure CallSound (P : Program) (callK : CallK) : Prop where
  calls : ∀ {g : FuncId} {args : List AV} {s s' : St} {v : AV} {ρ : BMap} {w : World} {args' : Array Value}, callK (.fn g) args s = some (v, s') → HR ρ s w → VRs ρ args args' → Calls P g args' w (CR ρ s w v s')
  enter : ∀ {g : FuncId} {args : List AV} {s s' : St} {v : AV} {w : World} {args' : Array Value}, callK (.fn g) args s = some (v, s') → (callFunc g args').run P w = .ok (.enter g args') w
  yields : ∀ {i : Nat} {args : List AV} {s s' : St} {v : AV} {ρ : BMap} {w : World} {args' : Array Value} {l z : Nat}, callK (.yld i) args s = some (v, s') → HR ρ s w → VRs ρ args args' → ρ i = some (l, z) →
    ∀ r n, YieldAt (Fc r) n P l args' w (CR ρ s w v s')

/-- Is an operation to be done? -/
noncomputable def wantA (ops : Array Oper) (F : Fr) (g : Option (Nat × Bool)) : Option Bool :=
  match g with
  | none => some true
  | some (j, want) => ob (nth ops.toList j) fun o => ob o.dst fun d => ob (F.get d) fun v =>
      match v with
      | .bool b => some (cond b want (!want))
      | .tuple [] => some false
      | _ => none

theorem wantA_run {D : List Deferred} {ρ : BMap} {ops : Array Oper} {F : Fr} {a : Act} (hF : FrR D ρ F a) {o : Oper} {b : Bool} (h : wantA ops F o.guard = some b) : Region.wanted o (yielded ops a.tmps) = b := by
  unfold wantA at h
  unfold Region.wanted
  split at h
  · rename_i hg; cases h; rw [hg]
  · rename_i j want hg
    rw [hg]
    replace h := ob_some h; obtain ⟨oj, hj, h⟩ := h
    replace h := ob_some h; obtain ⟨d, hd, h⟩ := h
    replace h := ob_some h; obtain ⟨v, hv, h⟩ := h
    rw [nth_eq] at hj
    have hj' : ops[j]? = some oj := by simpa using hj
    have hlt : d < a.tmps.size := by rw [hF.size]; exact hF.lt d v hv
    have hvr := hF.get d v hv
    split at h
    · rename_i b'
      cases h
      have e : a.tmps[d]? = some (.bool b') := by
        have : a.tmps.getD d undef = .bool b' := by
          generalize a.tmps.getD d undef = q at hvr
          cases hvr; rfl
        simp only [Array.getD_eq_getD_getElem?] at this
        rw [Array.getElem?_eq_getElem hlt] at this ⊢
        simpa using this
      simp only [yielded, hj', Option.bind_some, hd, e]
      cases b' <;> cases want <;> rfl
    · cases h
      have e : a.tmps[d]? = some (.tuple #[]) := by
        have : a.tmps.getD d undef = .tuple #[] := by
          generalize a.tmps.getD d undef = q at hvr
          cases hvr with
          | tuple h1 _ => rw [Array.eq_empty_of_size_eq_zero h1.symm]
        simp only [Array.getD_eq_getD_getElem?] at this
        rw [Array.getElem?_eq_getElem hlt] at this ⊢
        simpa using this
      simp only [yielded, hj', Option.bind_some, hd, e]
      cases want <;> rfl
    · cases h

/-- The value that an operation gives, and the memory behind it. -/
noncomputable def doV (callK : CallK) (ev : Ev) (o : Oper) (s : St) : Option (AV × St) :=
  match kindOf P ev o with
  | .val (some v) => some (v, s)
  | .read f => ob (f s) fun v => some (v, s)
  | .make (some n) => some (n.res s.next, s.new n.blk)
  | .eff f => ob (f s) fun r => some (r.1.getD .undef, r.2)
  | .call g args => callK g args s
  | _ => none

noncomputable def doA (callK : CallK) (o : Oper) (F : Fr) (s : St) : Option (Fr × St) := ob (doV P callK F.ev o s) fun r => some (F.putO o.dst r.1, r.2)

noncomputable def oneA (callK : CallK) (ops : Array Oper) (o : Oper) (F : Fr) (s : St) : Option (Fr × St) :=
  ob (wantA ops F o.guard) fun b => cond b (doA P callK o F s) (some (F.putO o.dst .skip, s))

/-- One operation, whatever the frame. -/
theorem doV_run {P : Program} {callK : CallK} (hc : CallSound P callK) {ρ : BMap} {ev : Ev} {s s' : St} {a : Act} {w : World} {o : Oper} {v : AV} (h : doV P callK ev o s = some (v, s')) (hev : EvR ρ ev a) (hr : HR ρ s w)
    {Kt : Act → World → Prop} {Q : Exit → Act → World → Prop} {r : Option Nat} {n : Nat} (hk : ∀ ρ' v' w', Ext ρ s w ρ' s' w' → VR ρ' v v' → Kt (a.put o.dst v') w') : o.wpIn (Fc r) n P a w Kt Q := by
  refine ⟨fun _ _ => trivial, ?_⟩
  have hdf : ∀ c, o.op ≠ .defer c := by
    intro c e
    unfold doV kindOf at h
    rw [e] at h
    cases h
  rw [Oper.semAt_eq _ _ _ hdf]
  unfold doV at h
  split at h
  · rename_i u hkind
    cases h
    obtain ⟨v', h1, h2⟩ := val_run hkind hev w
    rw [h1, Oper.uponIn_value]
    exact hk ρ _ _ (.refl hr) h2
  · rename_i f hkind
    replace h := ob_some h; obtain ⟨u, hv, h⟩ := h
    cases h
    obtain ⟨v', h1, h2⟩ := read_run hkind hv hev hr
    rw [h1, Oper.uponIn_value]
    exact hk ρ _ _ (.refl hr) h2
  · rename_i m hkind
    cases h
    obtain ⟨v', w', z, obj, h1, g1, g2, g3, g4, g5⟩ := make_run (ρ := ρ) (w := w) hkind hev
    obtain ⟨g6, g7⟩ := g5 s.next (hr.fresh _ (Nat.le_refl _))
    rw [h1, Oper.uponIn_value]
    exact hk _ _ _ (Ext.new hr g1 g2 g3 g4 g6) g7
  · rename_i f hkind
    replace h := ob_some h; obtain ⟨⟨q, s2⟩, hv, h⟩ := h
    cases h
    obtain ⟨ρ', w', h1, ⟨rfl, h2⟩ | ⟨v, v', rfl, h2, h3⟩⟩ := eff_run hkind hv hev hr
    · rw [h2, Oper.uponIn_skip]
      exact hk _ _ _ h1 (.undef _)
    · rw [h3, Oper.uponIn_value]
      exact hk _ _ _ h1 h2
  · rename_i g args hkind
    cases g with
    | fn g =>
      obtain ⟨args', h1, h2⟩ := call_run (w := w) hkind hev
      rw [h2, hc.enter h, Oper.uponIn_enter]
      refine ⟨Fc.deep, Fc.calls ((hc.calls h hr h1).mono fun e w' he => ?_)⟩
      cases e with
      | returned v' =>
        obtain ⟨ρ', h3, h4⟩ := he
        exact hk _ _ _ h3 h4
      | panicked c => exact he.elim
      | outgrown => exact he.elim
    | yld i =>
      obtain ⟨args', l, z, h1, h2, h3⟩ := yield_run (P := P) (w := w) hkind hev
      obtain ⟨fn, tmps, asg, bd, h4, h5⟩ := hc.yields h hr h1 h2 r (n - 1)
      rw [h3, h4, Oper.uponIn_round]
      refine ⟨Fc.deep, h5.mono fun e w' he => ?_⟩
      cases e with
      | returned v' =>
        obtain ⟨ρ', h6, h7⟩ := he
        exact hk _ _ _ h6 h7
      | panicked c => exact he.elim
      | outgrown => exact he.elim
  · cases h

theorem doA_run {P : Program} {callK : CallK} (hc : CallSound P callK) {D : List Deferred} {ρ : BMap} {F F' : Fr} {s s' : St} {a : Act} {w : World} {o : Oper} (h : doA P callK o F s = some (F', s')) (hF : FrR D ρ F a) (hr : HR ρ s w)
    {Kt : Act → World → Prop} {Q : Exit → Act → World → Prop} {r : Option Nat} {n : Nat} (hk : ∀ ρ' a' w', Ext ρ s w ρ' s' w' → FrR D ρ' F' a' → Kt a' w') : o.wpIn (Fc r) n P a w Kt Q := by
  replace h := ob_some h; obtain ⟨⟨v, s2⟩, hv, h⟩ := h
  cases h
  exact doV_run hc hv (Fr.ev_run hF) hr fun ρ' v' w' h1 h2 => hk _ _ _ h1 ((hF.mono h1.sub).put h2 _)

theorem oneA_run {P : Program} {callK : CallK} (hc : CallSound P callK) {D : List Deferred} {ρ : BMap} {F F' : Fr} {s s' : St} {a : Act} {w : World} {ops : Array Oper} {i : Nat} {o : Oper} (hi : ops[i]? = some o)
    (h : oneA P callK ops o F s = some (F', s')) (hF : FrR D ρ F a) (hr : HR ρ s w)
    {Kt : Act → World → Prop} {Q : Exit → Act → World → Prop} {r : Option Nat} {n : Nat} (hk : ∀ ρ' a' w', Ext ρ s w ρ' s' w' → FrR D ρ' F' a' → Kt a' w') : wpOpIn (Fc r) n P ops Q i Kt a w := by
  unfold wpOpIn
  rw [hi]
  dsimp only
  replace h := ob_some h; obtain ⟨b, hb, h⟩ := h
  have hw := wantA_run hF hb
  cases b with
  | true => rw [if_pos hw]; exact doA_run hc h hF hr hk
  | false =>
    cases h
    rw [if_neg (by rw [hw]; simp)]
    exact ⟨fun _ _ => trivial, hk ρ _ _ (.refl hr) (hF.put (.skip _) _)⟩

noncomputable def runA (callK : CallK) (ops : Array Oper) (l : List Oper) : Fr → St → Option (Fr × St) :=
  List.rec (motive := fun _ => Fr → St → Option (Fr × St)) (fun F s => some (F, s)) (fun o _ ih F s => ob (oneA P callK ops o F s) fun r => ih r.1 r.2) l

theorem runA_run {P : Program} {callK : CallK} (hc : CallSound P callK) {ops : Array Oper} {Q : Exit → Act → World → Prop} {r : Option Nat} {n : Nat} {D : List Deferred} : ∀ {l : List Oper} {i : Nat} {ρ : BMap} {F F' : Fr} {s s' : St} {a : Act} {w : World},
    ops.toList.drop i = l → runA P callK ops l F s = some (F', s') → FrR D ρ F a → HR ρ s w → (∀ ρ' a' w', Ext ρ s w ρ' s' w' → FrR D ρ' F' a' → Q .normal a' w') → wpOpsIn (Fc r) n P ops Q (List.range' i l.length) a w := by
  intro l
  induction l with
  | nil =>
    intro i ρ F F' s s' a w _ h hF hr hk
    cases h
    exact hk ρ a w (.refl hr) hF
  | cons o l ih =>
    intro i ρ F F' s s' a w hd h hF hr hk
    replace h := ob_some (show ob (oneA P callK ops o F s) _ = _ from h); obtain ⟨⟨F1, s1⟩, h1, h⟩ := h
    have hi : ops[i]? = some o := by
      have : (ops.toList.drop i)[0]? = some o := by rw [hd]; simp
      rw [List.getElem?_drop] at this
      simpa using this
    have hd' : ops.toList.drop (i + 1) = l := by
      rw [← List.drop_drop, hd]; simp
    simp only [List.length_cons, List.range'_succ]
    rw [wpOpsIn_cons]
    refine oneA_run hc hi h1 hF hr fun ρ1 a1 w1 he1 hF1 => ?_
    exact ih hd' h hF1 he1.hr fun ρ2 a2 w2 he2 hF2 => hk ρ2 a2 w2 (he1.trans he2) hF2

theorem region_run {P : Program} {callK : CallK} (hc : CallSound P callK) {id : Nat} {ops : Array Oper} {Q : Exit → Act → World → Prop} {r : Option Nat} {n : Nat} {D : List Deferred} {ρ : BMap} {F F' : Fr} {s s' : St} {a : Act} {w : World}
    (h : runA P callK ops ops.toList F s = some (F', s')) (hF : FrR D ρ F a) (hr : HR ρ s w) (hk : ∀ ρ' a' w', Ext ρ s w ρ' s' w' → FrR D ρ' F' a' → Q .normal a' w') : (Code.region id ops false).wpIn (Fc r) n P Q a w := by
  refine wpIn_region ?_
  have := runA_run hc (Q := Q) (r := r) (n := n) (l := ops.toList) (i := 0) (by simp) h hF hr hk
  rw [List.range_eq_range']
  simpa using this

end Go.Proofs.Bx
