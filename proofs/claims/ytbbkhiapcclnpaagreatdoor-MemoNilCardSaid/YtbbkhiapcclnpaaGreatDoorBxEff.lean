/- Stores, new blocks, maps and append on the abstract memory. -/
import Derived.Test.YtbbkhiapcclnpaaGreatDoorBxMem
import Derived.Lib.ConvBytes
set_option linter.unusedVariables false
set_option linter.unusedSimpArgs false
set_option linter.unusedSectionVars false
namespace Go.Proofs.Bx
open Go
variable (P : Program)

theorem setCells_heap (b : Nat) : ∀ (vs : List Value) (o : Nat) (w : World) (arr : Array Value) (t : TypeId) (fz : Nat × Nat), w.heap[b]? = some (.cells arr t fz) →
    (w.setCells b o vs).heap[b]? = some (.cells ((vs.zipIdx 0).foldl (fun cs (p : Value × Nat) => cs.setIfInBounds (o + p.2) p.1) arr) t fz) ∧
    (∀ k, k ≠ b → (w.setCells b o vs).heap[k]? = w.heap[k]?) ∧ (w.setCells b o vs).heap.size = w.heap.size ∧ (w.setCells b o vs).os = w.os ∧ (w.setCells b o vs).tape = w.tape ∧ (w.setCells b o vs).output = w.output
  | [], o, w, arr, t, fz, h => ⟨h, fun _ _ => rfl, rfl, rfl, rfl, rfl⟩
  | v :: vs, o, w, arr, t, fz, h => by
    have h1 : (w.setCell ⟨b, o, none⟩ v).heap[b]? = some (.cells (arr.setIfInBounds o v) t fz) := by
      simp [World.setCell, Array.getElem?_modify, h]
    obtain ⟨i1, i2, i3, i4, i5, i6⟩ := setCells_heap b vs (o + 1) (w.setCell ⟨b, o, none⟩ v) _ t fz h1
    have e : w.setCells b o (v :: vs) = (w.setCell ⟨b, o, none⟩ v).setCells b (o + 1) vs := rfl
    rw [e]
    refine ⟨?_, fun k hk => ?_, ?_, i4, i5, i6⟩
    · rw [i1]
      simp only [List.zipIdx_cons, List.foldl_cons, Nat.add_zero, Nat.zero_add]
      congr 2
      have : ∀ (l : List Value) (k : Nat) (a : Array Value), ((l.zipIdx k).foldl (fun cs (p : Value × Nat) => cs.setIfInBounds (o + 1 + p.2) p.1) a) =
          ((l.zipIdx (k + 1)).foldl (fun cs (p : Value × Nat) => cs.setIfInBounds (o + p.2) p.1) a) := by
        intro l
        induction l with
        | nil => intro k a; rfl
        | cons x l ih => intro k a; simp only [List.zipIdx_cons, List.foldl_cons, ih]; rw [show o + 1 + k = o + (k + 1) by omega]
      exact this vs 0 _
    · rw [i2 k hk]
      simp only [World.setCell, Array.getElem?_modify]
      rw [if_neg (by exact fun e => hk e.symm)]
    · rw [i3]; simp [World.setCell]

/-- A write of cells into a block that may be written. -/
noncomputable def putA (s : St) (b o : Nat) (new : List AV) : Option St :=
  match s.get b with
  | some (.cells cs rw ty) => cond rw (ob (lput cs o new) fun cs' => some (s.set b (.cells cs' true ty))) none
  | _ => none

theorem putA_run {P : Program} {ρ : BMap} {s s' : St} {w : World} {b r z o : Nat} {new : List AV} {vs : List Value} (h : putA s b o new = some s') (hr : HR ρ s w) (hb : ρ b = some (r, z))
    (hn : VRs ρ new vs.toArray) (h1 : ∀ v ∈ vs, v.oneCell' = true) :
    (storeCells ⟨r, o, none⟩ vs).run P w = .ok () (w.setCells r o vs) ∧ Ext ρ s w ρ s' (w.setCells r o vs) := by
  unfold putA at h
  split at h
  · rename_i cs rw ty hs
    replace h := cond_some h; obtain ⟨hrw, h⟩ := h
    replace h := ob_some h; obtain ⟨cs', hput, h⟩ := h
    cases h
    subst hrw
    obtain ⟨arr, elem, fz, ho, hz, hlen, hv, hfz, hty⟩ := hr.cells hs hb
    have hfz := hfz rfl
    subst hfz
    -- the part of the row that is known
    have hk : VRs ρ cs (arr.extract 0 cs.length) := by
      refine ⟨by simp; omega, fun i v v' e e' => hv i v v' e ?_⟩
      rw [Array.getElem?_extract] at e'
      split at e'
      · simpa using e'
      · cases e'
    obtain ⟨hfit, hput2⟩ := lput_vr hput hk hn
    have hfit' : o + vs.length ≤ arr.size := by
      simp at hfit; omega
    have hfit2 : o + vs.length ≤ cs.length := by
      simp at hfit; omega
    have hcell : ∀ j, j < vs.length → (w.cell? ⟨r, o + 0 + j, none⟩).isSome = true := by
      intro j hj
      simp [World.cell?, ho]
      omega
    have hfroz : ∀ j, j < vs.length → w.frozen? ⟨r, o + 0 + j, none⟩ = false := by
      intro j hj
      simp [World.frozen?, ho]
    have hrun := run_storeCells_cells (P := P) r o vs 0 w hcell hfroz h1
    rw [Nat.add_zero] at hrun
    obtain ⟨i1, i2, i3, i4, i5, i6⟩ := setCells_heap r vs o w arr elem (0, 0) ho
    refine ⟨hrun, Ext.write hr hs rfl hb i3 i1 i2 i4 i5 i6 ⟨by rw [foldl_put_size]; exact hz, ?_, fun i v v' e e' => ?_, fun _ => rfl, hty⟩⟩
    · rw [foldl_put_size, hput2.1]
      have : ((vs.toArray).zipIdx.foldl (fun cs (p : Value × Nat) => cs.setIfInBounds (o + p.2) p.1) (arr.extract 0 cs.length)) =
          ((vs.zipIdx 0).foldl (fun cs (p : Value × Nat) => cs.setIfInBounds (o + p.2) p.1) (arr.extract 0 cs.length)) := by
        rw [← Array.foldl_toList]; simp
      rw [this, foldl_put_size]
      simp; omega
    · have hfold : ((vs.toArray).zipIdx.foldl (fun cs (p : Value × Nat) => cs.setIfInBounds (o + p.2) p.1) (arr.extract 0 cs.length)) =
          ((vs.zipIdx 0).foldl (fun cs (p : Value × Nat) => cs.setIfInBounds (o + p.2) p.1) (arr.extract 0 cs.length)) := by
        rw [← Array.foldl_toList]; simp
      rw [hfold] at hput2
      have hi : i < cs.length := by
        have a1 := (List.getElem?_eq_some_iff.1 e).1
        rw [hput2.1, foldl_put_size] at a1
        simp at a1; omega
      refine hput2.2 i v v' e ?_
      rw [foldl_put] at e' ⊢
      have hsz : (arr.extract 0 cs.length).size = cs.length := by simp; omega
      rw [hsz]
      by_cases hc : o + 0 ≤ i ∧ i < o + 0 + vs.length ∧ i < arr.size
      · rw [if_pos hc] at e'
        rw [if_pos ⟨hc.1, hc.2.1, hi⟩]
        exact e'
      · rw [if_neg hc] at e'
        rw [if_neg (fun hc2 => hc ⟨hc2.1, hc2.2.1, by omega⟩), Array.getElem?_extract]
        rw [if_pos (by omega)]
        simpa using e'
  · cases h

noncomputable def storeA (s : St) (t : TypeId) (x v : AV) : Option St :=
  match x with
  | .ptr (some (b, o)) => ob v.cells fun new => ob (size? P t) fun n => cond (Nat.beq (llen new) n) (cond (allAtoms new) (putA s b o new) none) none
  | _ => none

theorem storeA_run {P : Program} {ρ : BMap} {s s' : St} {w : World} {t : TypeId} {x v : AV} {x' v' : Value} (h : storeA P s t x v = some s') (hr : HR ρ s w) (hx : VR ρ x x') (hv : VR ρ v v') :
    ∃ w', (Instr.storeAt t x' v').run P w = .ok () w' ∧ Ext ρ s w ρ s' w' := by
  unfold storeA at h
  split at h
  · rename_i b o
    replace h := ob_some h; obtain ⟨new, hnew, h⟩ := h
    replace h := ob_some h; obtain ⟨n, hn, h⟩ := h
    replace h := cond_some h; obtain ⟨hsz, h⟩ := h
    replace h := cond_some h; obtain ⟨hat, h⟩ := h
    cases hx with
    | ptr hb =>
      rename_i r
      have hc := AV.cells_vr hv hnew
      have hsz' := Nat.eq_of_beq_eq_true hsz
      rw [llen_eq, hc.1] at hsz'
      obtain ⟨h1, h2⟩ := putA_run (P := P) (vs := v'.cells.toList) h hr hb (by simpa using hc) (hc.oneCell hat)
      refine ⟨_, ?_, h2⟩
      simp only [Instr.storeAt, Instr.sureAddr, storeVar, Sem.run_bind, Sem.run_pure, Result.andThen_ok, size?_run hn]
      simp [hsz', h1]
  · cases h

/-! New blocks. -/

/-- A new block, and the value that leads to it. -/
structure New where
  blk : Blk
  res : Nat → AV

/-- What an operation that makes a block owes, whatever number it gets. -/
def MakeR (P : Program) (sem : Sem Value) (n : New) (ρ : BMap) (w : World) : Prop :=
  ∃ v' w' z obj, sem.run P w = .ok v' w' ∧ w'.heap = w.heap.push obj ∧ w'.os = w.os ∧ w'.tape = w.tape ∧ w'.output = w.output ∧
    ∀ id, ρ id = none → BR (upd ρ id w.heap.size z) z n.blk obj ∧ VR (upd ρ id w.heap.size z) (n.res id) v'

theorem cells_BR {ρ : BMap} {w : World} {cs : List AV} {arr : Array Value} (elem : TypeId) (hc : VRs ρ cs arr) {id : Nat} (h : ρ id = none) :
    BR (upd ρ id w.heap.size arr.size) arr.size (.cells cs true) (.cells arr elem) :=
  ⟨rfl, Nat.le_of_eq hc.1, fun i v v' e e' => (hc.2 i v v' e e').mono (upd_sub h), fun _ => rfl, nofun⟩

/-- The same, where the kind of its elements is kept in mind. -/
theorem cells_BR_ty {ρ : BMap} {w : World} {cs : List AV} {arr : Array Value} (elem : TypeId) (hc : VRs ρ cs arr) {id : Nat} (h : ρ id = none) :
    BR (upd ρ id w.heap.size arr.size) arr.size (.cells cs true (some elem)) (.cells arr elem) :=
  ⟨rfl, Nat.le_of_eq hc.1, fun i v v' e e' => (hc.2 i v v' e e').mono (upd_sub h), fun _ => rfl, fun t e => by cases e; rfl⟩

theorem newCells_run {P : Program} {ρ : BMap} {s : St} {w : World} {cs : List AV} {arr : Array Value} (elem : TypeId) (hr : HR ρ s w) (hc : VRs ρ cs arr) :
    (newRow elem arr).run P w = .ok ⟨w.heap.size, 0, none⟩ (w.alloc (.cells arr elem)) ∧ Ext ρ s w (upd ρ s.next w.heap.size arr.size) (s.new (.cells cs true)) (w.alloc (.cells arr elem)) := by
  refine ⟨by simp [newRow], Ext.new hr rfl rfl rfl rfl ⟨rfl, Nat.le_of_eq hc.1, fun i v v' e e' => (hc.2 i v v' e e').mono (upd_sub (hr.fresh _ (Nat.le_refl _))), fun _ => rfl, nofun⟩⟩

noncomputable def allocA (t : TypeId) : Option New := ob (zeroA P t) fun z => ob z.cells fun cs => some ⟨.cells cs true (some t), fun i => .ptr (some (i, 0))⟩

noncomputable def boxA (v : AV) : Option New := ob v.cells fun cs => some ⟨.cells cs true, fun i => .ptr (some (i, 0))⟩

noncomputable def buildSliceA (t : TypeId) (len : Nat) (parts : List (Nat × AV)) : Option New :=
  match P.underlying t with
  | some (.slice elem) => ob (rowA P elem len parts) fun cs => some ⟨.cells cs true, fun i => .slice (some (i, 0)) len (.exact len)⟩
  | _ => none

noncomputable def makeMapA (r : Option AV) : Option New :=
  match r with
  | none => some ⟨.map [] 0, fun i => .map (some i)⟩
  | some _ => none

theorem allocA_run {P : Program} {ρ : BMap} {w : World} {t : TypeId} {n : New} (h : allocA P t = some n) : MakeR P (Instr.alloc t true (.tuple #[])) n ρ w := by
  replace h := ob_some h; obtain ⟨z, hz, h⟩ := h
  replace h := ob_some h; obtain ⟨cs, hcs, h⟩ := h
  cases h
  obtain ⟨z', hzr, hzv⟩ := zeroA_run hz ρ w
  exact ⟨.pointer (some ⟨w.heap.size, 0, none⟩), w.alloc (.cells z'.cells t), z'.cells.size, .cells z'.cells t, by simp [Instr.alloc, hzr, newVar, newRow], rfl, rfl, rfl, rfl,
    fun id hid => ⟨cells_BR_ty t (AV.cells_vr hzv hcs) hid, .ptr (upd_self _ _ _ _)⟩⟩

theorem boxA_run {P : Program} {ρ : BMap} {w : World} {t : TypeId} {v : AV} {v' : Value} {n : New} (h : boxA v = some n) (hv : VR ρ v v') : MakeR P (Instr.box t v') n ρ w := by
  replace h := ob_some h; obtain ⟨cs, hcs, h⟩ := h
  cases h
  exact ⟨.pointer (some ⟨w.heap.size, 0, none⟩), w.alloc (.cells v'.cells t), v'.cells.size, .cells v'.cells t, by simp [Instr.box, newVar, newRow], rfl, rfl, rfl, rfl,
    fun id hid => ⟨cells_BR t (AV.cells_vr hv hcs) hid, .ptr (upd_self _ _ _ _)⟩⟩

theorem rowA_run {P : Program} {ρ : BMap} {elem : TypeId} {len : Nat} {parts : List (Nat × AV)} {parts' : Array (Nat × Value)} {cs : List AV} (h : rowA P elem len parts = some cs) (hp : PR ρ parts parts') (t : TypeId) (hu : P.underlying t = some (.slice elem)) (w : World) :
    ∃ arr, VRs ρ cs arr ∧ (Instr.buildSlice t len parts').run P w = .ok (.slice (some ⟨w.heap.size, 0, none⟩) len len) (w.alloc (.cells arr elem)) := by
  replace h := ob_some h; obtain ⟨n, hn, h⟩ := h
  replace h := cond_some h; obtain ⟨hle, h⟩ := h
  replace h := ob_some h; obtain ⟨zs, hzs, h⟩ := h
  have hle' : len * n ≤ 16777216 := Nat.le_of_ble_eq_true hle
  have hnle : ¬ (16777216 < len * n) := by omega
  by_cases h0 : len * n = 0
  · have hzs' : cond (Nat.beq (Nat.mul len n) 0) (some ([] : List AV)) _ = some zs := hzs
    rw [beq_yes (show Nat.mul len n = 0 from h0)] at hzs'
    cases hzs'
    obtain ⟨r', hf, hv⟩ := fillA_run (cells' := #[]) h hp.1 hp.2 (VRs.nil ρ)
    refine ⟨r', hv, ?_⟩
    have hf' : Instr.fill (fun i => some (i * n, n)) #[] parts'.toList = some r' := hf
    have hzero : ∀ f : Nat → Value, (Array.range 0).map f = #[] := fun f => by apply Array.ext' <;> simp
    simp only [Instr.buildSlice, Sem.run_bind, run_underlying hu, Result.andThen_ok, size?_run hn]
    simp [h0, hzero, hf', newRow]
  · have hzs' : cond (Nat.beq (Nat.mul len n) 0) _ (ob (zeroA P elem) fun z => ob z.cells fun zero => cond (Nat.beq (llen zero) n) (some (lrep zero len)) none) = some zs := hzs
    rw [beq_no (show Nat.mul len n ≠ 0 from h0)] at hzs'
    replace hzs' := ob_some (show ob (zeroA P elem) _ = _ from hzs'); obtain ⟨z, hz, hzs'⟩ := hzs'
    replace hzs' := ob_some hzs'; obtain ⟨zero, hzero, hzs'⟩ := hzs'
    replace hzs' := cond_some hzs'; obtain ⟨hzn, hzs'⟩ := hzs'
    cases hzs'
    obtain ⟨z', hzr, hzv⟩ := zeroA_run hz ρ w
    have hc := AV.cells_vr hzv hzero
    have hzn' := Nat.eq_of_beq_eq_true hzn
    rw [llen_eq, hc.1] at hzn'
    have hrep := zeros_vr hc len
    obtain ⟨r', hf, hv⟩ := fillA_run h hp.1 hp.2 hrep
    refine ⟨r', hv, ?_⟩
    rw [hzn'] at hf
    have hf' : Instr.fill (fun i => some (i * n, n)) ((Array.range (len * n)).map (z'.cells[· % n]!)) parts'.toList = some r' := hf
    simp only [Instr.buildSlice, Sem.run_bind, run_underlying hu, Result.andThen_ok, size?_run hn]
    simp [h0, hnle, hzr, hzn', hf', newRow]

theorem buildSliceA_run {P : Program} {ρ : BMap} {w : World} {t : TypeId} {len : Nat} {parts : List (Nat × AV)} {parts' : Array (Nat × Value)} {n : New} (h : buildSliceA P t len parts = some n) (hp : PR ρ parts parts') :
    MakeR P (Instr.buildSlice t len parts') n ρ w := by
  unfold buildSliceA at h
  split at h
  · rename_i elem hu
    replace h := ob_some h; obtain ⟨cs, hcs, h⟩ := h
    cases h
    obtain ⟨arr, hv, hrun⟩ := rowA_run hcs hp t hu w
    exact ⟨_, _, arr.size, .cells arr elem, hrun, rfl, rfl, rfl, rfl, fun id hid => ⟨cells_BR elem hv hid, .slice (upd_self _ _ _ _) rfl (Nat.le_refl _)⟩⟩
  · cases h

theorem makeMapA_run {P : Program} {ρ : BMap} {w : World} {t : TypeId} {r : Option AV} {r' : Option Value} {n : New} (h : makeMapA r = some n) (ho : OR ρ r r') : MakeR P (Instr.makeMap t r') n ρ w := by
  cases r with
  | some v => cases h
  | none =>
    cases r' with
    | some v => exact ho.elim
    | none =>
      cases h
      have hb : ∀ id, BR (upd ρ id w.heap.size 0) 0 (.map [] 0) (.map #[] 0) := fun id => ⟨rfl, fun i x e h => by simp at h, rfl⟩
      exact ⟨.map (some w.heap.size), w.alloc (.map #[] 0), 0, .map #[] 0, by simp [Instr.makeMap], rfl, rfl, rfl, rfl, fun id _ => ⟨hb id, .map (upd_self _ _ _ _)⟩⟩

/-! A string's bytes. -/

noncomputable def bytesA (src dst : TypeId) (x : AV) : Option New :=
  match P.underlying src, P.underlying dst, x with
  | some .string, some (.slice e), .str s => match P.underlying e with
    | some (.int .u8) => some ⟨.cells (s.data.toList.map fun b => .int .u8 (Int.ofNat b.toNat)) false, fun i => .slice (some (i, 0)) s.size (.atLeast s.size 0 1)⟩
    | _ => none
  | _, _, _ => none

theorem bytesWorld_heap (w : World) (e : TypeId) (s : ByteArray) :
    (Lib.bytesWorld w e s).heap = w.heap.push (.cells (Lib.bytesCells w e s) e ((Lib.bytesCells w e s).size, (Lib.bytesCells w e s).size + 1)) := by
  apply Array.ext
  · rw [Lib.bytesWorld_size, Array.size_push]
  · intro j h1 h2
    rw [Lib.bytesWorld_size] at h1
    apply Option.some_inj.1
    rw [← Array.getElem?_eq_getElem, ← Array.getElem?_eq_getElem]
    rcases Nat.lt_or_ge j w.heap.size with h | h
    · rw [Lib.bytesWorld_at_old _ _ _ _ h, Array.getElem?_push, if_neg (by omega)]
    · have : j = w.heap.size := by omega
      subst this
      rw [Lib.bytesWorld_at_new]; simp

theorem bytesA_run {P : Program} {ρ : BMap} {w : World} {src dst : TypeId} {x : AV} {x' : Value} {n : New} (h : bytesA P src dst x = some n) (hx : VR ρ x x') : MakeR P (convert src dst x') n ρ w := by
  unfold bytesA at h
  split at h
  · rename_i e s hs hd
    split at h
    · rename_i he
      cases h
      cases hx
      have hsz : (Lib.bytesCells w e s).size = grownCap w s.size 0 e := by
        have := grownCap_ge w s.size 0 e
        have e1 : s.data.size = s.size := rfl
        simp only [Lib.bytesCells, Array.size_append, Array.size_map, Array.size_replicate, e1]
        omega
      have hge := grownCap_ge w s.size 0 e
      refine ⟨_, _, (Lib.bytesCells w e s).size, _, Lib.run_convert_string_bytes w src dst e s hs hd he, bytesWorld_heap w e s, rfl, rfl, rfl, fun id hid => ⟨⟨rfl, ?_, fun i v v' e1 e2 => ?_, (fun hf => by cases hf), nofun⟩, ?_⟩⟩
      · rw [hsz]; simp only [List.length_map, Array.length_toList]; exact hge
      · simp only [List.getElem?_map, Array.getElem?_toList, Option.map_eq_some_iff] at e1
        obtain ⟨b, hb, rfl⟩ := e1
        have hi : i < s.data.size := (Array.getElem?_eq_some_iff.1 hb).1
        have : (Lib.bytesCells w e s)[i]? = some (.int .u8 b.toNat) := by
          unfold Lib.bytesCells
          rw [Array.getElem?_append_left (by simpa using hi), Array.getElem?_map, hb]; rfl
        rw [this] at e2
        cases e2
        exact .int _ _
      · exact .slice (upd_self _ _ _ _) ⟨hge, by rw [hsz]; omega⟩ hge
    · cases h
  · cases h

end Go.Proofs.Bx
