/- Frames, and one operation of a region. -/
import Derived.Test.YtbbkhiapcclnpaaGreatDoorBxStr
set_option linter.unusedVariables false
set_option linter.unusedSimpArgs false
set_option linter.unusedSectionVars false
namespace Go.Proofs.Bx
open Go

/-! Frames. -/

noncomputable def Fr.put (F : Fr) (t : Nat) (v : AV) : Fr :=
  Fr.rec (fun recent loc thr size => Bool.rec (.mk recent loc thr size) (Bool.rec (.mk ((t, v) :: recent) loc thr size) (.mk recent (loc.set v t) thr size) (Nat.blt t thr)) (Nat.blt t size)) F

theorem Fr.get_eq (F : Fr) (t : Nat) : F.get t = cond (Nat.blt t F.thr) (F.loc.get t) (assoc F.recent t) := by
  cases F with
  | mk recent loc thr size =>
    show (Bool.rec (assoc recent t) (loc.get t) (Nat.blt t thr) : Option AV) = cond (Nat.blt t thr) (loc.get t) (assoc recent t)
    cases Nat.blt t thr <;> rfl

theorem Fr.put_eq (F : Fr) (t : Nat) (v : AV) : F.put t v = cond (Nat.blt t F.size) (cond (Nat.blt t F.thr) ⟨F.recent, F.loc.set v t, F.thr, F.size⟩ ⟨(t, v) :: F.recent, F.loc, F.thr, F.size⟩) F := by
  cases F with
  | mk recent loc thr size =>
    show (Bool.rec (.mk recent loc thr size) (Bool.rec (.mk ((t, v) :: recent) loc thr size) (.mk recent (loc.set v t) thr size) (Nat.blt t thr)) (Nat.blt t size) : Fr) =
      cond (Nat.blt t size) (cond (Nat.blt t thr) (.mk recent (loc.set v t) thr size) (.mk ((t, v) :: recent) loc thr size)) (.mk recent loc thr size)
    cases Nat.blt t size <;> cases Nat.blt t thr <;> rfl

theorem assoc_cons (p : Nat × AV) (l : List (Nat × AV)) (t : Nat) : assoc (p :: l) t = cond (Nat.beq p.1 t) (some p.2) (assoc l t) := by
  show (Bool.rec (assoc l t) (some p.2) (Nat.beq p.1 t) : Option AV) = _
  cases Nat.beq p.1 t <;> rfl

noncomputable def Fr.putO (F : Fr) (d : Option Nat) (v : AV) : Fr :=
  match d with
  | some t => F.put t v
  | none => F

structure FrR (D : List Deferred) (ρ : BMap) (F : Fr) (a : Act) : Prop where
  defers : a.defers = D
  size : a.tmps.size = F.size
  get : ∀ t v, F.get t = some v → VR ρ v (a.tmps.getD t undef)
  lt : ∀ t v, F.get t = some v → t < F.size

theorem FrR.mono {D : List Deferred} {ρ ρ' : BMap} (hs : Sub ρ ρ') {F : Fr} {a : Act} (h : FrR D ρ F a) : FrR D ρ' F a := ⟨h.defers, h.size, fun t v e => (h.get t v e).mono hs, h.lt⟩

theorem Fr.get_put {F : Fr} {t t' : Nat} {v u : AV} (ht : t < F.size) (h : (F.put t v).get t' = some u) : (t' = t ∧ u = v) ∨ (t' ≠ t ∧ F.get t' = some u) := by
  have hb : Nat.blt t F.size = true := by rw [Nat.blt_eq]; exact ht
  rw [Fr.put_eq, hb, Fr.get_eq] at h
  cases hl : Nat.blt t F.thr with
  | true =>
    rw [hl] at h
    have h' : cond (Nat.blt t' F.thr) ((F.loc.set v t).get t') (assoc F.recent t') = some u := h
    rw [Fr.get_eq]
    cases hl' : Nat.blt t' F.thr with
    | true =>
      rw [hl'] at h'
      exact Tr.get_set h'
    | false =>
      rw [hl'] at h'
      refine .inr ⟨fun e => ?_, h'⟩
      subst e; rw [hl] at hl'; cases hl'
  | false =>
    rw [hl] at h
    have h' : cond (Nat.blt t' F.thr) (F.loc.get t') (cond (Nat.beq t t') (some v) (assoc F.recent t')) = some u := by
      rw [← assoc_cons (t, v) F.recent t']; exact h
    rw [Fr.get_eq]
    cases hl' : Nat.blt t' F.thr with
    | true =>
      rw [hl'] at h'
      refine .inr ⟨fun e => ?_, h'⟩
      subst e; rw [hl] at hl'; cases hl'
    | false =>
      rw [hl'] at h'
      by_cases e : t = t'
      · subst e
        have h2 : cond (Nat.beq t t) (some v) (assoc F.recent t) = some u := h'
        rw [beq_yes rfl] at h2
        cases h2; exact .inl ⟨rfl, rfl⟩
      · have h2 : cond (Nat.beq t t') (some v) (assoc F.recent t') = some u := h'
        rw [beq_no e] at h2
        exact .inr ⟨fun e' => e e'.symm, h2⟩

theorem Fr.put_size (F : Fr) (t : Nat) (v : AV) : (F.put t v).size = F.size := by
  rw [Fr.put_eq]
  cases Nat.blt t F.size <;> cases Nat.blt t F.thr <;> rfl

theorem FrR.put {D : List Deferred} {ρ : BMap} {F : Fr} {a : Act} (h : FrR D ρ F a) {v : AV} {v' : Value} (hv : VR ρ v v') (d : Option Nat) : FrR D ρ (F.putO d v) (a.put d v') := by
  cases d with
  | none => exact h
  | some t =>
    show FrR D ρ (F.put t v) (a.put (some t) v')
    by_cases ht : t < F.size
    · have hg : ∀ {t' u}, (F.put t v).get t' = some u → (t' = t ∧ u = v) ∨ (t' ≠ t ∧ F.get t' = some u) := fun e => Fr.get_put ht e
      refine ⟨h.defers, by rw [Fr.put_size]; simp [Act.put, h.size], fun t' u e => ?_, fun t' u e => ?_⟩
      · have hst : t < a.tmps.size := by rw [h.size]; exact ht
        rcases hg e with ⟨rfl, rfl⟩ | ⟨hn, e⟩
        · simpa [Act.put, hst] using hv
        · have := h.get t' u e
          have e2 : (a.tmps.setIfInBounds t v').getD t' undef = a.tmps.getD t' undef := by
            simp only [Array.getD_eq_getD_getElem?]
            rw [Array.getElem?_setIfInBounds_ne (fun e => hn e.symm)]
          show VR ρ u ((a.tmps.setIfInBounds t v').getD t' undef)
          rw [e2]; exact this
      · rw [Fr.put_size]
        rcases hg e with ⟨rfl, rfl⟩ | ⟨hn, e⟩
        · exact ht
        · exact h.lt t' u e
    · have hb : Nat.blt t F.size = false := by
        cases hc : Nat.blt t F.size with
        | false => rfl
        | true => rw [Nat.blt_eq] at hc; exact absurd hc ht
      have e1 : F.put t v = F := by rw [Fr.put_eq, hb]; rfl
      rw [e1]
      refine ⟨h.defers, by simp [Act.put, h.size], fun t' u e => ?_, h.lt⟩
      have hne : t ≠ t' := fun e' => ht (e' ▸ h.lt t' u e)
      have e2 : (a.tmps.setIfInBounds t v').getD t' undef = a.tmps.getD t' undef := by
        simp only [Array.getD_eq_getD_getElem?]
        rw [Array.getElem?_setIfInBounds_ne hne]
      show VR ρ u ((a.tmps.setIfInBounds t v').getD t' undef)
      rw [e2]; exact h.get t' u e

noncomputable def Fr.ev (F : Fr) : Ev := fun x =>
  match x with
  | .tmp t => F.get t
  | .const v => cv v
  | .func f => some (.func (.func f) [] [])
  | .global _ => none

theorem Fr.ev_run {D : List Deferred} {ρ : BMap} {F : Fr} {a : Act} (h : FrR D ρ F a) : EvR ρ F.ev a := by
  intro x v e
  cases x with
  | tmp t => exact h.get t v e
  | const c => exact cv_vr ρ e
  | func f => cases e; exact .func rfl rfl (fun i v v' e => by simp at e) (fun i v v' e => by simp at e)
  | global g => cases e

theorem evs_run {ρ : BMap} {ev : Ev} {a : Act} (h : EvR ρ ev a) : ∀ {l : List Operand} {vs : List AV}, lmapO ev l = some vs → VRs ρ vs (l.map a.eval).toArray := by
  intro l vs e
  refine ⟨by rw [lmapO_len e]; simp, fun i v v' e1 e2 => ?_⟩
  have hi : i < l.length := by rw [← lmapO_len e]; exact (List.getElem?_eq_some_iff.1 e1).1
  obtain ⟨b, hb, hr⟩ := lmapO_get e i l[i] (by simp)
  rw [e1] at hr
  cases hr
  have := h _ _ hb
  simp [hi] at e2
  rw [← e2]; exact this

/-- Parts with operands. -/
noncomputable def evParts (ev : Ev) (l : List (Nat × Operand)) : Option (List (Nat × AV)) := lmapO (fun p => ob (ev p.2) fun v => some (p.1, v)) l

theorem evParts_run {ρ : BMap} {ev : Ev} {a : Act} (h : EvR ρ ev a) {parts : Array (Nat × Operand)} {vs : List (Nat × AV)} (e : evParts ev parts.toList = some vs) :
    PR ρ vs (parts.map fun (i, x) => (i, a.eval x)) := by
  refine ⟨by rw [lmapO_len e]; simp, fun i p q e1 e2 => ?_⟩
  have hi : i < parts.toList.length := by rw [← lmapO_len e]; exact (List.getElem?_eq_some_iff.1 e1).1
  obtain ⟨b, hb, hr⟩ := lmapO_get e i parts.toList[i] (by simp)
  rw [e1] at hr
  cases hr
  replace hb := ob_some hb; obtain ⟨v, hv, hb⟩ := hb
  cases hb
  have := h _ _ hv
  simp at hi
  simp [hi] at e2
  subst e2
  exact ⟨by simp, by simpa using this⟩

/-! What an operation is. -/

/-- What is called: a function, or a loop's round. -/
inductive Tgt where
  | fn (f : FuncId)
  | yld (i : Nat)

inductive K where
  | val (v : Option AV)
  | read (f : St → Option AV)
  | make (n : Option New)
  | eff (f : St → Option (Option AV × St))
  | call (f : Tgt) (args : List AV)
  | no

variable (P : Program)

noncomputable def binA (s : St) (op : BinOp) (t : TypeId) (x y : Operand) (a b : AV) : Option AV :=
  match a, b with
  | .int _ _, .int _ _ => binPlain op t a b
  | .str _, .str _ => binPlain op t a b
  | _, _ => eqBin P s op t x y a b

noncomputable def pickA (ev : Ev) (c x y : Operand) : Option AV :=
  match ev c with
  | some (.bool b) => cond b (ev x) (ev y)
  | _ => none

/-- An operand that may be missing. -/
noncomputable def evO (ev : Ev) (x : Option Operand) (f : Option AV → Option AV) : Option AV :=
  match x with
  | none => f none
  | some x => ob (ev x) fun v => f (some v)

noncomputable def lenA (s : St) (t : TypeId) (x : AV) : Option AV :=
  match P.underlying t, x with
  | some (.slice _), .slice _ n _ => some (.int .i64 (Int.ofNat n))
  | some .string, .str b => some (.int .i64 (Int.ofNat b.size))
  | some (.map _ _), x => ob (entriesA s x) fun es => some (.int .i64 (Int.ofNat (llen es)))
  | _, _ => none

noncomputable def plainsA (f : Array Value → Sem Value) (args : List AV) : Option AV := ob (lmapO AV.plain args) fun vs => ob (bare (f vs.toArray)) cvAtom

noncomputable def builtinOf (ev : Ev) (o : Oper) (b : Builtin) (args : List Operand) (ts : List TypeId) : K :=
  match b, args, ts with
  | .len, [x], [t] => .read fun s => ob (ev x) (lenA P s t)
  | .max, args, ts => .val (ob (lmapO ev args) (plainsA (Builtin.max_ ts.toArray o.type)))
  | .min, args, ts => .val (ob (lmapO ev args) (plainsA (Builtin.min_ ts.toArray o.type)))
  | .clear, [x], [t] => .eff fun s => ob (ev x) fun x => ob (clearA P s t x) fun s => some (some .undef, s)
  | .append, [x, y], [t, tx] => .eff fun s => ob (ev x) fun a => ob (ev y) fun b => ob (appendAnyA P s t tx a b) fun r => some (some r.1, r.2)
  | .unsafeSliceData, [x], _ => .val (ob (ev x) sliceDataA)
  | .unsafeString, [x, y], [t, _] => .eff fun s => ob (ev x) fun a => ob (ev y) fun b => ob (unsafeStrA P s t a b) fun r => some (some r.1, r.2)
  | _, _, _ => .no

noncomputable def callOf (ev : Ev) (f : Operand) (args : List Operand) : K :=
  match ev f with
  | some (.func (.func g) first captured) => match lmapO ev args with
    | some vs => .call (.fn g) (lapp first (lapp vs captured))
    | none => .no
  | some (.yld i) => match lmapO ev args with
    | some vs => .call (.yld i) vs
    | none => .no
  | _ => .no

/-- A conversion: of a string to bytes it makes a block. -/
noncomputable def convK (s d : TypeId) (x : Option AV) : K :=
  match P.underlying d with
  | some (.slice _) => .make (ob x (bytesA P s d))
  | _ => .val (ob x (convertA P s d))

noncomputable def kindOf (ev : Ev) (o : Oper) : K :=
  match o.op with
  | .move x => .val (ev x)
  | .assign x => .val (ev x)
  | .pick c x y => .val (pickA ev c x y)
  | .alloc t => .make (allocA P t)
  | .box _ x => .make (ob (ev x) boxA)
  | .build t parts => .val (ob (evParts ev parts.toList) (buildA P t))
  | .buildSlice t n parts => .make (ob (evParts ev parts.toList) (buildSliceA P t n))
  | .load t a => .read fun s => ob (ev a) (loadA P s t)
  | .store t a v => .eff fun s => ob (ev a) fun a => ob (ev v) fun v => ob (storeA P s t a v) fun s => some (none, s)
  | .nilCheck x => .val (ob (ev x) nilCheckA)
  | .binOp op t x y _ => .read fun s => ob (ev x) fun a => ob (ev y) fun b => binA P s op t x y a b
  | .unOp op _ x => .val (ob (ev x) (unPlain op))
  | .convert s d x => convK P s d (ev x)
  | .makeInterface t x => .val (ob (ev x) (ifaceA P t))
  | .makeFunc fn f c => .val (ob (lmapO ev f.toList) fun fs => ob (lmapO ev c.toList) fun cs => some (.func fn fs cs))
  | .makeMap _ none => .make (makeMapA none)
  | .makeSlice t n c => .make (ob (ev n) fun n => ob (ev c) fun c => makeSliceA P t n c)
  | .slice t x l h m => .val (ob (ev x) fun x => evO ev l fun l => evO ev h fun h => evO ev m fun m => sliceA P t x l h m)
  | .fieldAddr t x f => .val (ob (ev x) fun x => fieldAddrA P t x f)
  | .field t x f => .val (ob (ev x) fun x => fieldA P t x f)
  | .indexAddr t x i => .val (ob (ev x) fun x => ob (ev i) fun i => indexAddrA P t x i)
  | .index t x i => .val (ob (ev x) fun x => ob (ev i) fun i => indexA P t x i)
  | .lookup t x k ok => .read fun s => ob (ev x) fun x => ob (ev k) fun k => lookupA P s t x k ok
  | .mapUpdate t m k v => .eff fun s => ob (ev m) fun m => ob (ev k) fun k => ob (ev v) fun v => ob (mapUpdateA P s t m k v) fun s => some (none, s)
  | .insert t m k v => .eff fun s => ob (ev m) fun m => ob (ev k) fun k => ob (ev v) fun v => ob (mapUpdateA P s t m k v) fun s => some (none, s)
  | .mapEntry t m k => .eff fun s => ob (ev m) fun m => ob (ev k) fun k => ob (mapEntryA P s t m k) fun r => some (some r.1, r.2)
  | .entryStore _ m k v => .eff fun s => ob (ev m) fun m => ob (ev k) fun k => ob (ev v) fun v => ob (entryStoreA s m k v) fun s => some (none, s)
  | .typeAssert x _ t ok => .val (ob (ev x) fun x => assertA P x t ok)
  | .extract x i => .val (ob (ev x) fun x => extractA x i)
  | .call c => match c.callee with
    | .builtin b => builtinOf P ev o b c.args.toList c.argTypes.toList
    | .value f => callOf ev f c.args.toList
    | .invoke _ _ => .no
  | _ => .no

end Go.Proofs.Bx
