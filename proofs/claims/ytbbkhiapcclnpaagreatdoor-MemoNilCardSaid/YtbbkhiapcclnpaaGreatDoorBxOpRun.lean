/- That the model's operations answer as the abstract ones say. -/
import Derived.Test.YtbbkhiapcclnpaaGreatDoorBxOp
set_option linter.unusedVariables false
set_option linter.unusedSimpArgs false
set_option linter.unusedSectionVars false
namespace Go.Proofs.Bx
open Go
variable {P : Program}

theorem K.val_inj {a b : Option AV} (h : K.val a = K.val b) : a = b := by injection h

theorem value_of {o : Oper} {ρo : Operand → Value} {sem : Sem Value} {w w' : World} {v' : Value} (he : execOp ρo o = (do pure (.value (← sem)))) (hr : sem.run P w = .ok v' w') :
    (execOp ρo o).run P w = .ok (.value v') w' := by
  rw [he]; simp [hr]

theorem evO_some {ev : Ev} {x : Option Operand} {f : Option AV → Option AV} {v : AV} (h : evO ev x f = some v) {ρ : BMap} {a : Act} (hev : EvR ρ ev a) :
    ∃ y, f y = some v ∧ OR ρ y (x.map a.eval) := by
  cases x with
  | none => exact ⟨none, h, trivial⟩
  | some x =>
    replace h := ob_some (show ob (ev x) _ = _ from h); obtain ⟨y, hy, h⟩ := h
    exact ⟨some y, h, hev _ _ hy⟩

theorem plainsA_run {ρ : BMap} {f : Array Value → Sem Value} {args : List AV} {args' : Array Value} {v : AV} (h : plainsA f args = some v) (ha : VRs ρ args args') (w : World) :
    ∃ v', (f args').run P w = .ok v' w ∧ VR ρ v v' := by
  replace h := ob_some h; obtain ⟨vs, hvs, h⟩ := h
  replace h := ob_some h; obtain ⟨r, hr, h⟩ := h
  have e : vs.toArray = args' := by
    apply Array.ext
    · rw [← ha.1, ← lmapO_len hvs]; simp
    · intro i h1 h2
      have hi : i < args.length := by rw [ha.1]; exact h2
      obtain ⟨b, hb, hg⟩ := lmapO_get hvs i args[i] (by simp)
      have := ha.2 i args[i] args'[i] (by simp) (by simp [h2])
      have e2 := AV.plain_vr hb this
      rw [List.getElem?_eq_getElem (by simpa using h1)] at hg
      simp at hg
      simp [hg, e2]
  rw [← e]
  exact ⟨r, bare_run P hr w, cvAtom_vr ρ h⟩

theorem val_run {ρ : BMap} {ev : Ev} {a : Act} {o : Oper} {v : AV} (h : kindOf P ev o = .val (some v)) (hev : EvR ρ ev a) (w : World) :
    ∃ v', (execOp a.eval o).run P w = .ok (.value v') w ∧ VR ρ v v' := by
  obtain ⟨dst, op, ty, pos, aft, gd⟩ := o
  unfold kindOf at h
  dsimp only at h
  split at h <;> try (cases h; done)
  · -- move
    have h := K.val_inj h
    exact ⟨_, rfl, hev _ _ h⟩
  · have h := K.val_inj h
    exact ⟨_, rfl, hev _ _ h⟩
  · -- pick
    rename_i c x y
    have h := K.val_inj h
    unfold pickA at h
    split at h
    · rename_i b hb
      have hc := hev _ _ hb
      cases hv : a.eval c <;> rw [hv] at hc <;> try (cases hc; done)
      cases hc
      cases b with
      | true => exact ⟨a.eval x, by simp [execOp, hv, asBool], hev _ _ h⟩
      | false => exact ⟨a.eval y, by simp [execOp, hv, asBool], hev _ _ h⟩
    · cases h
  · -- build
    have h := K.val_inj h
    replace h := ob_some h; obtain ⟨ps, hp, h⟩ := h
    obtain ⟨v', h1, h2⟩ := buildA_run h (evParts_run hev hp) w
    exact ⟨v', value_of rfl h1, h2⟩
  · -- nilCheck
    rename_i x
    have h := K.val_inj h
    replace h := ob_some h; obtain ⟨u, hu, h⟩ := h
    have hx := hev _ _ hu
    unfold nilCheckA at h
    split at h
    · cases h
      generalize hv : a.eval x = q at hx
      cases hx with
      | ptr hb => exact ⟨_, by simp [execOp, hv], .ptr hb⟩
    · cases h
      generalize hv : a.eval x = q at hx
      cases hx with
      | func h1 h2 g1 g2 => exact ⟨_, by simp [execOp, hv], .func h1 h2 g1 g2⟩
    · cases h
  · -- unOp
    have h := K.val_inj h
    replace h := ob_some h; obtain ⟨u, hu, h⟩ := h
    obtain ⟨v', h1, h2⟩ := unPlain_run (P := P) h (hev _ _ hu) w
    exact ⟨v', value_of rfl h1, h2⟩
  · -- convert
    unfold convK at h
    split at h
    · cases h
    have h := K.val_inj h
    replace h := ob_some h; obtain ⟨u, hu, h⟩ := h
    obtain ⟨v', h1, h2⟩ := convertA_run h (hev _ _ hu) w
    exact ⟨v', value_of rfl h1, h2⟩
  · -- makeInterface
    have h := K.val_inj h
    replace h := ob_some h; obtain ⟨u, hu, h⟩ := h
    obtain ⟨v', h1, h2⟩ := ifaceA_run h (hev _ _ hu) w
    exact ⟨v', value_of rfl h1, h2⟩
  · -- makeFunc
    rename_i fn f c
    have h := K.val_inj h
    replace h := ob_some h; obtain ⟨fs, hf, h⟩ := h
    replace h := ob_some h; obtain ⟨cs, hc, h⟩ := h
    cases h
    have h1 := evs_run hev hf
    have h2 := evs_run hev hc
    refine ⟨.func fn (f.map a.eval) (c.map a.eval), value_of rfl (by simp [Instr.makeFunc]), .func ?_ ?_ (fun i v v' e e' => h1.2 i v v' e ?_) (fun i v v' e e' => h2.2 i v v' e ?_)⟩
    · have := h1.1; simpa using this
    · have := h2.1; simpa using this
    · simpa using e'
    · simpa using e'
  · -- slice
    have h := K.val_inj h
    replace h := ob_some h; obtain ⟨u, hu, h⟩ := h
    obtain ⟨l, h, hl⟩ := evO_some h hev
    obtain ⟨hi, h, hh⟩ := evO_some h hev
    obtain ⟨m, h, hm⟩ := evO_some h hev
    obtain ⟨v', h1, h2⟩ := sliceA_run h (hev _ _ hu) hl hh hm w
    exact ⟨v', value_of rfl h1, h2⟩
  · have h := K.val_inj h
    replace h := ob_some h; obtain ⟨u, hu, h⟩ := h
    obtain ⟨v', h1, h2⟩ := fieldAddrA_run h (hev _ _ hu) w
    exact ⟨v', value_of rfl h1, h2⟩
  · have h := K.val_inj h
    replace h := ob_some h; obtain ⟨u, hu, h⟩ := h
    obtain ⟨v', h1, h2⟩ := fieldA_run h (hev _ _ hu) w
    exact ⟨v', value_of rfl h1, h2⟩
  · have h := K.val_inj h
    replace h := ob_some h; obtain ⟨u, hu, h⟩ := h
    replace h := ob_some h; obtain ⟨i, hi, h⟩ := h
    obtain ⟨v', h1, h2⟩ := indexAddrA_run h (hev _ _ hu) (hev _ _ hi) w
    exact ⟨v', value_of rfl h1, h2⟩
  · have h := K.val_inj h
    replace h := ob_some h; obtain ⟨u, hu, h⟩ := h
    replace h := ob_some h; obtain ⟨i, hi, h⟩ := h
    obtain ⟨v', h1, h2⟩ := indexA_run h (hev _ _ hu) (hev _ _ hi) w
    exact ⟨v', value_of rfl h1, h2⟩
  · -- typeAssert
    have h := K.val_inj h
    replace h := ob_some h; obtain ⟨u, hu, h⟩ := h
    obtain ⟨v', h1, h2⟩ := assertA_run h (hev _ _ hu) w
    exact ⟨v', value_of rfl h1, h2⟩
  · -- extract
    have h := K.val_inj h
    replace h := ob_some h; obtain ⟨u, hu, h⟩ := h
    obtain ⟨v', h1, h2⟩ := extractA_run (P := P) h (hev _ _ hu) w
    exact ⟨v', value_of rfl h1, h2⟩
  · -- a call
    rename_i c
    split at h
    · rename_i b hb
      unfold builtinOf at h
      obtain ⟨callee, args, ts⟩ := c
      dsimp only at h hb
      subst hb
      split at h <;> try (cases h; done)
      · -- max
        have h := K.val_inj h
        replace h := ob_some h; obtain ⟨vs, hvs, h⟩ := h
        obtain ⟨v', h1, h2⟩ := plainsA_run (P := P) h (evs_run hev hvs) w
        refine ⟨v', ?_, h2⟩
        have e1 : (List.map a.eval args.toList).toArray = Array.map a.eval args := by rw [← Array.toList_map, Array.toArray_toList]
        rw [e1, Array.toArray_toList] at h1
        simp [execOp, resolve, invoke, builtin, h1]
      · have h := K.val_inj h
        replace h := ob_some h; obtain ⟨vs, hvs, h⟩ := h
        obtain ⟨v', h1, h2⟩ := plainsA_run (P := P) h (evs_run hev hvs) w
        refine ⟨v', ?_, h2⟩
        have e1 : (List.map a.eval args.toList).toArray = Array.map a.eval args := by rw [← Array.toList_map, Array.toArray_toList]
        rw [e1, Array.toArray_toList] at h1
        simp [execOp, resolve, invoke, builtin, h1]
      · -- unsafe.SliceData
        rename_i ts' x ha
        have h := K.val_inj h
        replace h := ob_some h; obtain ⟨u, hu, h⟩ := h
        have ha' : args = #[x] := by rw [← Array.toArray_toList (xs := args), ha]
        subst ha'
        obtain ⟨v', h1, h2⟩ := sliceDataA_run (P := P) (ts := ts) (ty := ty) h (hev _ _ hu) w
        exact ⟨v', by simp [execOp, resolve, invoke, builtin, h1], h2⟩
    · unfold callOf at h
      split at h
      · split at h <;> cases h
      · split at h <;> cases h
      · cases h
    · cases h

theorem binA_run {ρ : BMap} {s : St} {w : World} (hr : HR ρ s w) {op : BinOp} {t : TypeId} {x y : Operand} {a b v : AV} {a' b' : Value} (h : binA P s op t x y a b = some v) (ha : VR ρ a a') (hb : VR ρ b b') :
    ∃ v', (do eqGuard op t x y a' b'; Go.binOp op t a' b' : Sem Value).run P w = .ok v' w ∧ VR ρ v v' := by
  unfold binA at h
  split at h
  · exact binPlain_run h ha hb w
  · exact binPlain_run h ha hb w
  · rename_i n1 n2
    replace h := cond_some h; obtain ⟨hg, h⟩ := h
    have hgr := guardA_run (op := op) hg ha hb w
    -- neither numbers nor texts: the model asks whether they are equal
    have opEq : ∀ r, (Op.equal t a' b').run P w = .ok r w → (Go.binOp .eql t a' b').run P w = .ok (.bool r) w ∧ (Go.binOp .neq t a' b').run P w = .ok (.bool (!r)) w := by
      intro r hq
      cases ha <;> cases hb <;> first
        | exact (n1 _ _ _ _ rfl rfl).elim
        | exact (n2 _ _ rfl rfl).elim
        | exact ⟨(Sem.run_bind' P _ _ w).trans (by rw [hq]; rfl), (Sem.run_bind' P _ _ w).trans (by rw [hq]; rfl)⟩
        | (exfalso; simp [guardA] at hg; done)
    split at h
    · replace h := ob_some h; obtain ⟨r, hr1, h⟩ := h
      cases h
      have hq : (Op.equal t a' b').run P w = .ok r w := eqA_run hr Op.maxDepth hr1 ha hb (by decide)
      refine ⟨.bool r, ?_, .bool _⟩
      simp only [Sem.run_bind, hgr, Result.andThen_ok]
      exact (opEq r hq).1
    · replace h := ob_some h; obtain ⟨r, hr1, h⟩ := h
      cases h
      have hq : (Op.equal t a' b').run P w = .ok r w := eqA_run hr Op.maxDepth hr1 ha hb (by decide)
      refine ⟨.bool (!r), ?_, .bool _⟩
      simp only [Sem.run_bind, hgr, Result.andThen_ok]
      exact (opEq r hq).2
    · cases h

theorem K.read_inj {f g : St → Option AV} (h : K.read f = K.read g) : f = g := by injection h
theorem K.make_inj {f g : Option New} (h : K.make f = K.make g) : f = g := by injection h
theorem K.eff_inj {f g : St → Option (Option AV × St)} (h : K.eff f = K.eff g) : f = g := by injection h

theorem lenA_run {ρ : BMap} {s : St} {w : World} (hr : HR ρ s w) {t ty : TypeId} {x v : AV} {x' : Value} (h : lenA P s t x = some v) (hx : VR ρ x x') :
    ∃ v', (Builtin.len_ #[t] ty #[x']).run P w = .ok v' w ∧ VR ρ v v' := by
  unfold lenA at h
  split at h
  · rename_i hu
    cases h
    cases hx <;> exact ⟨_, by simp [Builtin.len_, run_underlying hu, goInt], .int _ _⟩
  · rename_i hu
    cases h
    cases hx
    exact ⟨_, by simp [Builtin.len_, run_underlying hu, goInt], .int _ _⟩
  · rename_i kt et x hu
    replace h := ob_some h; obtain ⟨es, hes, h⟩ := h
    cases h
    unfold entriesA at hes
    split at hes
    · cases hes; cases hx
      exact ⟨_, by simp [Builtin.len_, run_underlying hu, goInt]; rfl, .int _ _⟩
    · split at hes
      · rename_i hs
        cases hes
        cases hx with
        | map hb =>
          obtain ⟨es', h1, h2, h3⟩ := hr.map hs hb
          refine ⟨.int .i64 (es'.size : Int), by simp [Builtin.len_, run_underlying hu, goInt, getObj, Sem.run, h1], ?_⟩
          rw [llen_eq, h2]; exact .int _ _
      · cases hes
    · cases hes
  · cases h

theorem read_run {ρ : BMap} {ev : Ev} {a : Act} {o : Oper} {f : St → Option AV} {s : St} {w : World} {v : AV} (h : kindOf P ev o = .read f) (hf : f s = some v) (hev : EvR ρ ev a) (hr : HR ρ s w) :
    ∃ v', (execOp a.eval o).run P w = .ok (.value v') w ∧ VR ρ v v' := by
  obtain ⟨dst, op, ty, pos, aft, gd⟩ := o
  unfold kindOf at h
  dsimp only at h
  split at h <;> try (first | (cases h; done) | (unfold convK at h; split at h <;> cases h; done))
  · -- load
    have h := K.read_inj h
    rw [← h] at hf
    replace hf := ob_some hf; obtain ⟨x, hx, hf⟩ := hf
    obtain ⟨v', h1, h2⟩ := loadA_run hf hr (hev _ _ hx)
    exact ⟨v', value_of rfl h1, h2⟩
  · -- binOp
    have h := K.read_inj h
    rw [← h] at hf
    replace hf := ob_some hf; obtain ⟨x, hx, hf⟩ := hf
    replace hf := ob_some hf; obtain ⟨y, hy, hf⟩ := hf
    obtain ⟨v', h1, h2⟩ := binA_run hr hf (hev _ _ hx) (hev _ _ hy)
    exact ⟨v', value_of rfl h1, h2⟩
  · -- lookup
    have h := K.read_inj h
    rw [← h] at hf
    replace hf := ob_some hf; obtain ⟨x, hx, hf⟩ := hf
    replace hf := ob_some hf; obtain ⟨y, hy, hf⟩ := hf
    obtain ⟨v', h1, h2⟩ := lookupA_run hr hf (hev _ _ hx) (hev _ _ hy)
    exact ⟨v', value_of rfl h1, h2⟩
  · -- len
    rename_i c
    split at h
    · rename_i b hb
      unfold builtinOf at h
      obtain ⟨callee, args, ts⟩ := c
      dsimp only at h hb
      subst hb
      split at h <;> try (cases h; done)
      rename_i x t ha ht
      have h := K.read_inj h
      rw [← h] at hf
      replace hf := ob_some hf; obtain ⟨y, hy, hf⟩ := hf
      have ha' : args = #[x] := by rw [← Array.toArray_toList (xs := args), ha]
      have ht' : ts = #[t] := by rw [← Array.toArray_toList (xs := ts), ht]
      subst ha'; subst ht'
      obtain ⟨v', h1, h2⟩ := lenA_run (ty := ty) hr hf (hev _ _ hy)
      exact ⟨v', by simp [execOp, resolve, invoke, builtin, h1], h2⟩
    · unfold callOf at h
      split at h
      · split at h <;> cases h
      · split at h <;> cases h
      · cases h
    · cases h

theorem MakeR.value {ρ : BMap} {w : World} {sem : Sem Value} {n : New} (h : MakeR P sem n ρ w) {o : Oper} {ρo : Operand → Value} (he : execOp ρo o = (do pure (.value (← sem)))) :
    ∃ v' w' z obj, (execOp ρo o).run P w = .ok (.value v') w' ∧ w'.heap = w.heap.push obj ∧ w'.os = w.os ∧ w'.tape = w.tape ∧ w'.output = w.output ∧
      ∀ id, ρ id = none → BR (upd ρ id w.heap.size z) z n.blk obj ∧ VR (upd ρ id w.heap.size z) (n.res id) v' := by
  obtain ⟨v', w', z, obj, h1, h2⟩ := h
  exact ⟨v', w', z, obj, value_of he h1, h2⟩

/-- What an operation that makes a block owes. -/
theorem make_run {ρ : BMap} {ev : Ev} {a : Act} {o : Oper} {n : New} {w : World} (h : kindOf P ev o = .make (some n)) (hev : EvR ρ ev a) :
    ∃ v' w' z obj, (execOp a.eval o).run P w = .ok (.value v') w' ∧ w'.heap = w.heap.push obj ∧ w'.os = w.os ∧ w'.tape = w.tape ∧ w'.output = w.output ∧
      ∀ id, ρ id = none → BR (upd ρ id w.heap.size z) z n.blk obj ∧ VR (upd ρ id w.heap.size z) (n.res id) v' := by
  obtain ⟨dst, op, ty, pos, aft, gd⟩ := o
  unfold kindOf at h
  dsimp only at h
  split at h <;> try (cases h; done)
  · exact (allocA_run (K.make_inj h)).value rfl
  · have h := K.make_inj h
    replace h := ob_some h; obtain ⟨x, hx, h⟩ := h
    exact (boxA_run (P := P) h (hev _ _ hx)).value rfl
  · have h := K.make_inj h
    replace h := ob_some h; obtain ⟨ps, hp, h⟩ := h
    exact (buildSliceA_run h (evParts_run hev hp)).value rfl
  · -- convert
    unfold convK at h
    split at h
    · have h := K.make_inj h
      replace h := ob_some h; obtain ⟨x, hx, h⟩ := h
      exact (bytesA_run (P := P) h (hev _ _ hx)).value rfl
    · cases h
  · exact (makeMapA_run (P := P) (t := _) (r' := none) (K.make_inj h) trivial).value rfl
  · have h := K.make_inj h
    replace h := ob_some h; obtain ⟨x, hx, h⟩ := h
    replace h := ob_some h; obtain ⟨y, hy, h⟩ := h
    exact (makeSliceA_run (P := P) h (hev _ _ hx) (hev _ _ hy)).value rfl
  · rename_i c
    split at h
    · unfold builtinOf at h
      split at h <;> cases h
    · unfold callOf at h
      split at h
      · split at h <;> cases h
      · split at h <;> cases h
      · cases h
    · cases h

theorem skip_of {o : Oper} {ρo : Operand → Value} {sem : Sem Unit} {w w' : World} (he : execOp ρo o = (do sem; pure .skip)) (hr : sem.run P w = .ok () w') :
    (execOp ρo o).run P w = .ok .skip w' := by
  rw [he]; simp [hr]

/-- What is understood is no defer statement. -/
theorem kindOf_defer {ev : Ev} {o : Oper} {k : K} (h : kindOf P ev o = k) (hk : k ≠ .no) : ∀ c, o.op ≠ .defer c := fun c e => hk (by rw [← h]; unfold kindOf; rw [e])

/-- What an operation that writes owes. -/
theorem eff_run {ρ : BMap} {ev : Ev} {a : Act} {o : Oper} {f : St → Option (Option AV × St)} {s s' : St} {w : World} {r : Option AV} (h : kindOf P ev o = .eff f) (hf : f s = some (r, s')) (hev : EvR ρ ev a) (hr : HR ρ s w) :
    (∃ ρ' w', Ext ρ s w ρ' s' w' ∧ ((r = none ∧ (execOp a.eval o).run P w = .ok .skip w') ∨ ∃ v v', r = some v ∧ VR ρ' v v' ∧ (execOp a.eval o).run P w = .ok (.value v') w')) := by
  obtain ⟨dst, op, ty, pos, aft, gd⟩ := o
  unfold kindOf at h
  dsimp only at h
  split at h <;> try (first | (cases h; done) | (unfold convK at h; split at h <;> cases h; done))
  · -- store
    have h := K.eff_inj h
    rw [← h] at hf
    replace hf := ob_some hf; obtain ⟨x, hx, hf⟩ := hf
    replace hf := ob_some hf; obtain ⟨y, hy, hf⟩ := hf
    replace hf := ob_some hf; obtain ⟨s2, hs, hf⟩ := hf
    cases hf
    obtain ⟨w', h1, h2⟩ := storeA_run hs hr (hev _ _ hx) (hev _ _ hy)
    exact ⟨ρ, w', h2, .inl ⟨rfl, skip_of rfl h1⟩⟩
  · -- mapUpdate
    have h := K.eff_inj h
    rw [← h] at hf
    replace hf := ob_some hf; obtain ⟨x, hx, hf⟩ := hf
    replace hf := ob_some hf; obtain ⟨y, hy, hf⟩ := hf
    replace hf := ob_some hf; obtain ⟨z, hz, hf⟩ := hf
    replace hf := ob_some hf; obtain ⟨s2, hs, hf⟩ := hf
    cases hf
    obtain ⟨w', h1, h2⟩ := mapUpdateA_run hr hs (hev _ _ hx) (hev _ _ hy) (hev _ _ hz)
    exact ⟨ρ, w', h2, .inl ⟨rfl, skip_of rfl h1⟩⟩
  · -- insert
    have h := K.eff_inj h
    rw [← h] at hf
    replace hf := ob_some hf; obtain ⟨x, hx, hf⟩ := hf
    replace hf := ob_some hf; obtain ⟨y, hy, hf⟩ := hf
    replace hf := ob_some hf; obtain ⟨z, hz, hf⟩ := hf
    replace hf := ob_some hf; obtain ⟨s2, hs, hf⟩ := hf
    cases hf
    obtain ⟨w', h1, h2⟩ := mapUpdateA_run hr hs (hev _ _ hx) (hev _ _ hy) (hev _ _ hz)
    exact ⟨ρ, w', h2, .inl ⟨rfl, skip_of rfl h1⟩⟩
  · -- mapEntry
    have h := K.eff_inj h
    rw [← h] at hf
    replace hf := ob_some hf; obtain ⟨x, hx, hf⟩ := hf
    replace hf := ob_some hf; obtain ⟨y, hy, hf⟩ := hf
    replace hf := ob_some hf; obtain ⟨⟨u, s2⟩, hs, hf⟩ := hf
    cases hf
    obtain ⟨u', w', h1, h2, h3⟩ := mapEntryA_run hr hs (hev _ _ hx) (hev _ _ hy)
    exact ⟨ρ, w', h2, .inr ⟨u, u', rfl, h3, value_of rfl h1⟩⟩
  · -- entryStore
    have h := K.eff_inj h
    rw [← h] at hf
    replace hf := ob_some hf; obtain ⟨x, hx, hf⟩ := hf
    replace hf := ob_some hf; obtain ⟨y, hy, hf⟩ := hf
    replace hf := ob_some hf; obtain ⟨z, hz, hf⟩ := hf
    replace hf := ob_some hf; obtain ⟨s2, hs, hf⟩ := hf
    cases hf
    obtain ⟨w', h1, h2⟩ := entryStoreA_run (P := P) (t := _) hr hs (hev _ _ hx) (hev _ _ hy) (hev _ _ hz)
    exact ⟨ρ, w', h2, .inl ⟨rfl, skip_of rfl h1⟩⟩
  · -- append
    rename_i c
    split at h
    · rename_i b hb
      unfold builtinOf at h
      obtain ⟨callee, args, ts⟩ := c
      dsimp only at h hb
      subst hb
      split at h <;> try (cases h; done)
      · rename_i x t ha ht
        have h := K.eff_inj h
        rw [← h] at hf
        replace hf := ob_some hf; obtain ⟨p, hp, hf⟩ := hf
        replace hf := ob_some hf; obtain ⟨s2, hs, hf⟩ := hf
        cases hf
        have ha' : args = #[x] := by rw [← Array.toArray_toList (xs := args), ha]
        have ht' : ts = #[t] := by rw [← Array.toArray_toList (xs := ts), ht]
        subst ha'; subst ht'
        obtain ⟨w', h1, h2⟩ := clearA_run (ty := ty) hs hr (hev _ _ hp)
        exact ⟨ρ, w', h2, .inr ⟨.undef, .tuple #[], rfl, .undef _, by simp [execOp, resolve, invoke, builtin, h1]⟩⟩
      · rename_i x y t tx ha ht
        have h := K.eff_inj h
        rw [← h] at hf
        replace hf := ob_some hf; obtain ⟨p, hp, hf⟩ := hf
        replace hf := ob_some hf; obtain ⟨q, hq, hf⟩ := hf
        replace hf := ob_some hf; obtain ⟨⟨u, s2⟩, hs, hf⟩ := hf
        cases hf
        have ha' : args = #[x, y] := by rw [← Array.toArray_toList (xs := args), ha]
        have ht' : ts = #[t, tx] := by rw [← Array.toArray_toList (xs := ts), ht]
        subst ha'; subst ht'
        rcases appendAnyA_run (ty := ty) hs hr (hev _ _ hp) (hev _ _ hq) with ⟨ρ', v', w', h1, h2, h3⟩ | hf
        · exact ⟨ρ', w', h2, .inr ⟨u, v', rfl, h3, by simp [execOp, resolve, invoke, builtin, h1]⟩⟩
        · exact hf.elim
      · -- unsafe.String
        rename_i x y t it ha ht
        have h := K.eff_inj h
        rw [← h] at hf
        replace hf := ob_some hf; obtain ⟨p, hp, hf⟩ := hf
        replace hf := ob_some hf; obtain ⟨q, hq, hf⟩ := hf
        replace hf := ob_some hf; obtain ⟨⟨u, s2⟩, hs, hf⟩ := hf
        cases hf
        have ha' : args = #[x, y] := by rw [← Array.toArray_toList (xs := args), ha]
        have ht' : ts = #[t, it] := by rw [← Array.toArray_toList (xs := ts), ht]
        subst ha'; subst ht'
        obtain ⟨v', w', h1, h2, h3⟩ := unsafeStrA_run (it := it) (ty := ty) hs hr (hev _ _ hp) (hev _ _ hq)
        exact ⟨ρ, w', h2, .inr ⟨u, v', rfl, h3, by simp [execOp, resolve, invoke, builtin, h1]⟩⟩
    · unfold callOf at h
      split at h
      · split at h <;> cases h
      · split at h <;> cases h
      · cases h
    · cases h

/-- What an operation that calls owes. -/
theorem call_run {ρ : BMap} {ev : Ev} {a : Act} {o : Oper} {g : FuncId} {args : List AV} {w : World} (h : kindOf P ev o = .call (.fn g) args) (hev : EvR ρ ev a) :
    ∃ args', VRs ρ args args' ∧ execOp a.eval o = callFunc g args' := by
  obtain ⟨dst, op, ty, pos, aft, gd⟩ := o
  unfold kindOf at h
  dsimp only at h
  split at h <;> try (first | (cases h; done) | (unfold convK at h; split at h <;> cases h; done))
  rename_i c
  split at h
  · unfold builtinOf at h
    split at h <;> cases h
  · rename_i f hc
    obtain ⟨callee, cargs, ts⟩ := c
    dsimp only at h hc
    subst hc
    unfold callOf at h
    split at h
    · rename_i g' first captured hfv
      split at h
      · rename_i vs hvs
        cases h
        have h1 := hev _ _ hfv
        generalize hq : a.eval f = q at h1
        cases h1 with
        | func l1 l2 g1 g2 =>
          rename_i fi ca
          have h3 := evs_run hev hvs
          refine ⟨fi ++ (cargs.map a.eval ++ ca), ?_, ?_⟩
          · rw [lapp_eq, lapp_eq]
            refine VRs.append ⟨l1, g1⟩ (VRs.append ?_ ⟨l2, g2⟩)
            have e1 : (List.map a.eval cargs.toList).toArray = Array.map a.eval cargs := by rw [← Array.toList_map, Array.toArray_toList]
            rw [e1] at h3; exact h3
          · have e2 : fi ++ (cargs.map a.eval ++ ca) = fi ++ cargs.map a.eval ++ ca := by simp
            rw [e2]
            simp [execOp, resolve, hq, Deferred.ofValue, invoke]
      · cases h
    · split at h <;> cases h
    · cases h
  · cases h

/-- What a call of a round owes. -/
theorem yield_run {ρ : BMap} {ev : Ev} {a : Act} {o : Oper} {i : Nat} {args : List AV} {w : World} (h : kindOf P ev o = .call (.yld i) args) (hev : EvR ρ ev a) :
    ∃ args' l z, VRs ρ args args' ∧ ρ i = some (l, z) ∧ (execOp a.eval o).run P w = (Instr.yield l args').run P w := by
  obtain ⟨dst, op, ty, pos, aft, gd⟩ := o
  unfold kindOf at h
  dsimp only at h
  split at h <;> try (first | (cases h; done) | (unfold convK at h; split at h <;> cases h; done))
  rename_i c
  split at h
  · unfold builtinOf at h
    split at h <;> cases h
  · rename_i f hc
    obtain ⟨callee, cargs, ts⟩ := c
    dsimp only at h hc
    subst hc
    unfold callOf at h
    split at h
    · split at h <;> cases h
    · rename_i i' hfv
      split at h
      · rename_i vs hvs
        cases h
        have h1 := hev _ _ hfv
        generalize hq : a.eval f = q at h1
        cases h1 with
        | yld hl =>
          rename_i l z
          have h3 := evs_run hev hvs
          refine ⟨cargs.map a.eval, l, z, ?_, hl, ?_⟩
          · have e1 : (List.map a.eval cargs.toList).toArray = Array.map a.eval cargs := by rw [← Array.toList_map, Array.toArray_toList]
            rw [e1] at h3; exact h3
          · simp [execOp, resolve, hq, Deferred.ofValue, invoke]
      · cases h
    · cases h
  · cases h

end Go.Proofs.Bx
