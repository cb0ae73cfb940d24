/- A verified executor of the model, second part: operations, code, calls, and regions that draw their order. -/
import Derived.Test.YthfppcmphkljkaaGreatBxA
import Derived.Deep.AppendSrc
import Derived.Lib.UnsafeStr
import Derived.Laws.MakeOwn
import Derived.RangeFuncSeq
import Derived.RangeFuncCalls
import Derived.OrdersIn
set_option linter.unusedVariables false
set_option linter.unusedSimpArgs false
set_option linter.unusedSectionVars false

namespace Go.Proofs.Bx
open Go
variable [Sym]


noncomputable def strCs (b : ByteArray) : List AV := b.data.toList.map fun x => .int .u8 (Int.ofNat x.toNat)

omit [Sym] in
theorem strCs_len (b : ByteArray) : (strCs b).length = b.size := by
  simp only [strCs, List.length_map, Array.length_toList]; rfl

theorem strCs_vr (ρ : BMap) (b : ByteArray) : VRs ρ (strCs b) (byteCells b).toArray := by
  refine ⟨by simp [strCs, byteCells], fun i v v' e e' => ?_⟩
  simp only [strCs, List.getElem?_map, Option.map_eq_some_iff] at e
  obtain ⟨x, hx, rfl⟩ := e
  simp only [byteCells, List.getElem?_toArray, List.getElem?_map, hx, Option.map_some, Option.some.injEq] at e'
  subst e'
  exact .int _ _

noncomputable def appendStrA (P : Program) (s : St) (t tx : TypeId) (x : AV) (y : ByteArray) : Option (AV × St) :=
  match P.underlying t, P.underlying tx with
  | some (.slice elem), some .string =>
    ob (P.info? elem) fun i => ob i.zero fun z => cond (Nat.beq z.cells.size 1) (cond (Nat.beq i.size 1) (cond (Nat.beq i.bytes 1) (cond (Nat.beq y.size 0) none (
      match x with
      | .slice none _ _ => cond (Nat.ble y.size room) (some (.slice (some (s.next, 0)) y.size (.atLeast y.size 1 1), s.new (.cells (strCs y) true (some elem)))) none
      | .slice (some (b, o)) l (.atLeast _ bt k) => cond (Nat.beq o 0) (cond (Nat.beq bt 1) (cond (Nat.beq k 1) (cond (Nat.ble (Nat.add l y.size) room)
          (match s.get b with
           | some (.cells _ true (some e)) => cond (Nat.beq e elem) (ob (cellsAt s b 0 l) fun old =>
               some (.slice (some (s.next, 0)) (Nat.add l y.size) (.atLeast (Nat.add l y.size) 1 1), (s.set b .dead).new (.cells (lapp old (strCs y)) true (some elem)))) none
           | _ => none) none) none) none) none
      | _ => none)) none) none) none
  | _, _ => none

theorem appendStrA_run {P : Program} {ρ : BMap} {s s' : St} {w : World} {t tx ty : TypeId} {x v : AV} {x' : Value} {y : ByteArray} (h : appendStrA P s t tx x y = some (v, s')) (hr : HR ρ s w) (hx : VR ρ x x') :
    ∃ ρ' v' w', (Builtin.append_ #[t, tx] ty #[x', .string y]).run P w = .ok v' w' ∧ Ext ρ s w ρ' s' w' ∧ VR ρ' v v' := by
  unfold appendStrA at h
  split at h
  · rename_i elem ht htx
    replace h := ob_some h; obtain ⟨i, hi, h⟩ := h
    replace h := ob_some h; obtain ⟨z, hz, h⟩ := h
    replace h := cond_some h; obtain ⟨hzs, h⟩ := h
    replace h := cond_some h; obtain ⟨hsz, h⟩ := h
    replace h := cond_some h; obtain ⟨hby, h⟩ := h
    replace h := cond_some' h; obtain ⟨hne0, h⟩ := h
    have hzs : z.cells.size = 1 := Nat.eq_of_beq_eq_true hzs
    have hsz : i.size = 1 := Nat.eq_of_beq_eq_true hsz
    have hby : i.bytes = 1 := Nat.eq_of_beq_eq_true hby
    have hS : Src P i.size tx (.string y) y.size (byteCells y) w := by rw [hsz]; exact Src.ofString w htx y
    have hlen : (byteCells y).length = y.size := byteCells_length y
    split at h
    · -- nothing was there
      replace h := cond_some h; obtain ⟨hle, h⟩ := h
      cases h
      have hle : y.size ≤ room := Nat.le_of_ble_eq_true hle
      unfold room at hle
      cases hx with
      | sliceNil =>
        by_cases h0 : y.size = 0
        · rw [h0] at hne0; cases hne0
        have hfit : Builtin.nextslicecap (0 + y.size) 0 * i.bytes ≤ 281474976710656 := growslice_fits (by omega) (by rw [hby]; omega)
        have hrun := run_append_grow_src (P := P) w t tx ty elem i z ht hi hz none 0 0 [] (by simp [run_firstCells_none]) (.string y) y.size (byteCells y) hS (by omega) (by omega) hfit
        have hall := fun zz => (strCs_vr ρ y).mono (upd_sub (r := w.heap.size) (z := zz) (hr.fresh s.next (Nat.le_refl _)))
        refine ⟨_, _, _, hrun, Ext.new (w' := w.drew.alloc _) hr rfl rfl rfl rfl ⟨rfl, ?_, fun j u u' e e' => ?_, fun _ => rfl, fun t e => by cases e; rfl⟩, ?_⟩
        · rw [strCs_len]; simp only [Array.size_append, List.size_toArray, List.nil_append, hlen]; omega
        · refine (hall _).2 j u u' e ?_
          have hj := (List.getElem?_eq_some_iff.1 e).1
          rw [strCs_len] at hj
          rw [Array.getElem?_append_left (by simp only [List.size_toArray, List.nil_append, hlen]; exact hj)] at e'
          simpa using e'
        · rw [Nat.zero_add]
          refine .slice (upd_self _ _ _ _) ⟨grownCap_ge w y.size 0 elem, ?_⟩ (grownCap_ge w y.size 0 elem)
          have hge := grownCap_ge w y.size 0 elem
          simp only [Array.size_append, List.size_toArray, List.nil_append, hlen, size_zeroCells, hzs]
          omega
    · rename_i b o l n bt k
      replace h := cond_some h; obtain ⟨ho0, h⟩ := h
      replace h := cond_some h; obtain ⟨hbt, h⟩ := h
      replace h := cond_some h; obtain ⟨hkk, h⟩ := h
      replace h := cond_some h; obtain ⟨hle, h⟩ := h
      have ho0 := Nat.eq_of_beq_eq_true ho0
      have hbt := Nat.eq_of_beq_eq_true hbt
      have hkk := Nat.eq_of_beq_eq_true hkk
      subst ho0; subst hbt; subst hkk
      have hle : l + y.size ≤ room := Nat.le_of_ble_eq_true hle
      unfold room at hle
      split at h
      · rename_i cs e0 hs
        replace h := cond_some h; obtain ⟨he0, h⟩ := h
        have he0 := Nat.eq_of_beq_eq_true he0
        subst he0
        replace h := ob_some h; obtain ⟨old, hold, h⟩ := h
        cases h
        cases hx with
        | slice hb hc hl =>
          rename_i r zb c
          obtain ⟨arr, elem', fz, hh, hzz, hlen2, hv, hfz, hty⟩ := hr.cells hs hb
          have hfz := hfz rfl
          have hty := hty _ rfl
          subst hfz; subst hty
          obtain ⟨olds, o1, o2', o3⟩ := cellsAt_run hr hold hb
          have hfo := run_firstCells_some (P := P) w.drew i.size l ⟨r, 0, none⟩ l c olds (by rw [hsz]; omega) (by simpa using o2')
          by_cases hg : c < l + y.size
          · have hk := Ext.kill hr b
            have hfit : Builtin.nextslicecap (l + y.size) c * i.bytes ≤ 281474976710656 := growslice_fits hg (by rw [hby]; omega)
            have hrun := run_append_grow_src (P := P) w t tx ty elem' i z ht hi hz (some ⟨r, 0, none⟩) l c olds hfo (.string y) y.size (byteCells y) hS hg (by omega) hfit
            have hall := fun zz => (VRs.ofList o3 (strCs_vr ρ y)).mono (upd_sub (r := w.heap.size) (z := zz) (hk.hr.fresh (s.set b .dead).next (Nat.le_refl _)))
            refine ⟨_, _, _, hrun, hk.trans (Ext.new (w' := w.drew.alloc _) hk.hr rfl rfl rfl rfl ⟨rfl, ?_, fun j u u' e e' => ?_, fun _ => rfl, fun t e => by cases e; rfl⟩), .slice (upd_self _ _ _ _) ⟨grownCap_ge w _ c elem', ?_⟩ (grownCap_ge w _ c elem')⟩
            · rw [(hall 0).1]; simp only [List.size_toArray, Array.size_append, List.length_append]; omega
            · refine (hall _).2 j u u' e ?_
              have hj := (List.getElem?_eq_some_iff.1 e).1
              rw [(hall 0).1] at hj
              rw [Array.getElem?_append_left hj] at e'
              exact e'
            · have hge := grownCap_ge w (l + y.size) c elem'
              simp only [List.size_toArray, Array.size_append, List.length_append, hlen, o1, size_zeroCells, hzs]
              omega
          · -- there was room
            obtain ⟨c1, c3⟩ := hc
            have hcell : ∀ j, j < (byteCells y).length → (w.cell? ⟨r, 0 + l * i.size + j, none⟩).isSome = true := by
              intro j hj
              rw [hlen] at hj
              simp [World.cell?, hh, hsz]
              omega
            have hfroz : ∀ j, j < (byteCells y).length → w.frozen? ⟨r, 0 + l * i.size + j, none⟩ = false := by
              intro j hj
              simp [World.frozen?, hh]
            have hrun := run_append_room_src (P := P) w t tx ty elem' i ht hi r 0 l c (.string y) y.size (byteCells y) hS (by omega) hcell hfroz
            have e1 : 0 + l * i.size = l := by rw [hsz]; omega
            rw [e1] at hrun
            obtain ⟨i1, i2, i3, i4, i5, i6⟩ := setCells_heap r (byteCells y) l w arr elem' (0, 0) hh
            have hall := (VRs.ofList o3 (strCs_vr ρ y)).mono (upd_sub (r := r) (z := zb) (hr.fresh s.next (Nat.le_refl _)))
            refine ⟨_, _, _, hrun, Ext.move hr hs rfl hb i3 i1 i2 i4 i5 i6 ⟨by rw [foldl_put_size]; exact hzz, ?_, fun j u u' e e' => ?_, fun _ => rfl, fun t e => by cases e; rfl⟩,
              .slice (upd_self _ _ _ _) ⟨by show l + y.size ≤ c; omega, c3⟩ (by show l + y.size ≤ c; omega)⟩
            · rw [hall.1, foldl_put_size]
              simp only [List.size_toArray, List.length_append, hlen, o1]
              omega
            · have hj := (List.getElem?_eq_some_iff.1 e).1
              rw [hall.1] at hj
              simp only [List.size_toArray, List.length_append, hlen, o1] at hj
              refine hall.2 j u u' e ?_
              rw [foldl_put] at e'
              simp only [Nat.add_zero] at e'
              simp only [List.getElem?_toArray]
              by_cases hjl : j < l
              · rw [if_neg (by omega)] at e'
                rw [List.getElem?_append_left (by omega)]
                have ho := o2' j (olds[j]'(by omega)) (by simp)
                rw [add_addr] at ho
                simp only [World.cell?, hh, Nat.zero_add] at ho
                simp only [Option.isSome_none, Bool.false_eq_true, if_false] at ho
                rw [ho] at e'
                rw [← e']
                simp
              · rw [if_pos (by omega)] at e'
                rw [List.getElem?_append_right (by omega), o1]
                exact e'
      · cases h
    · cases h
  · cases h


noncomputable def sliceDataA (x : AV) : Option AV :=
  match x with
  | .slice none _ _ => some (.ptr none)
  | .slice (some a) _ cap => cond (Nat.blt 0 cap.low) (some (.ptr (some a))) none
  | _ => none

theorem sliceDataA_run {P : Program} {ρ : BMap} {ts : Array TypeId} {ty : TypeId} {x v : AV} {x' : Value} (h : sliceDataA x = some v) (hx : VR ρ x x') (w : World) :
    ∃ v', (Builtin.unsafeSliceData_ ts ty #[x']).run P w = .ok v' w ∧ VR ρ v v' := by
  unfold sliceDataA at h
  split at h
  · cases h
    cases hx
    exact ⟨_, Lib.run_unsafeSliceData_nil w ts ty 0 0, .ptrNil⟩
  · replace h := cond_some h; obtain ⟨h0, h⟩ := h
    cases h
    have h0 := blt_lt h0
    cases hx with
    | slice hb hc hl =>
      have := Cap.ok_low hc
      exact ⟨_, Lib.run_unsafeSliceData_row w ts ty _ _ _ (by omega), .ptr hb⟩
  · cases h


noncomputable def byteOf (v : AV) : Option UInt8 :=
  match v with
  | .int .u8 (.ofNat k) => cond (Nat.blt k 256) (some (UInt8.ofNat k)) none
  | _ => none

theorem byteOf_vr {ρ : BMap} {v : AV} {v' : Value} {b : UInt8} (h : byteOf v = some b) (hv : VR ρ v v') : v' = .int .u8 b.toNat := by
  unfold byteOf at h
  split at h
  · rename_i k
    replace h := cond_some h; obtain ⟨h0, h⟩ := h
    cases h
    cases hv
    have h0 := blt_lt h0
    have e : (UInt8.ofNat k).toNat = k := by rw [UInt8.toNat_ofNat']; exact Nat.mod_eq_of_lt h0
    rw [e]; rfl
  · cases h

noncomputable def unsafeStrA (P : Program) (s : St) (pt : TypeId) (p n : AV) : Option (AV × St) :=
  match n with
  | .int .i64 (.ofNat k) => cond (Nat.beq k 0) (match p with | .ptr _ => some (.str ⟨#[]⟩, s) | _ => none)
      (match P.underlying pt, p with
       | some (.pointer e), .ptr (some (b, o)) => cond (Nat.beq o 0) (cond (Nat.ble k room) (
           match s.get b with
           | some (.cells cs true (some e')) => cond (Nat.beq e' e) (cond (Nat.beq (P.cellsOf e) 1) (ob (ltake cs k) fun l => ob (lmapO byteOf l) fun bs => some (.str ⟨bs.toArray⟩, s.set b .dead)) none) none
           | _ => none) none) none
       | _, _ => none)
  | _ => none

omit [Sym] in
theorem freeze_heap (w : World) (r n : Nat) (arr : Array Value) (e : TypeId) (hn : n ≠ 0) (hh : w.heap[r]? = some (.cells arr e (0, 0))) :
    (∃ fz, (w.freeze ⟨r, 0, none⟩ n).heap[r]? = some (.cells arr e fz)) ∧ (∀ k, k ≠ r → (w.freeze ⟨r, 0, none⟩ n).heap[k]? = w.heap[k]?) ∧ (w.freeze ⟨r, 0, none⟩ n).heap.size = w.heap.size ∧
      (w.freeze ⟨r, 0, none⟩ n).os = w.os ∧ (w.freeze ⟨r, 0, none⟩ n).tape = w.tape ∧ (w.freeze ⟨r, 0, none⟩ n).output = w.output := by
  unfold World.freeze
  rw [if_neg hn]
  refine ⟨?_, fun k hk => ?_, by simp, rfl, rfl, rfl⟩
  · simp only [Array.getElem?_modify, if_true, hh, Option.map_some]
    exact ⟨_, rfl⟩
  · simp only [Array.getElem?_modify]
    rw [if_neg (by exact fun e => hk e.symm)]

theorem unsafeStrA_run {P : Program} {ρ : BMap} {s s' : St} {w : World} {pt it ty : TypeId} {p n v : AV} {p' n' : Value} (h : unsafeStrA P s pt p n = some (v, s')) (hr : HR ρ s w) (hp : VR ρ p p') (hn : VR ρ n n') :
    ∃ v' w', (Builtin.unsafeString_ #[pt, it] ty #[p', n']).run P w = .ok v' w' ∧ Ext ρ s w ρ s' w' ∧ VR ρ v v' := by
  unfold unsafeStrA at h
  split at h
  · rename_i k
    cases hn
    by_cases hk : k = 0
    · subst hk
      rw [beq_yes rfl] at h
      dsimp only [cond_true] at h
      split at h
      · cases h
        cases hp with
        | ptrNil => exact ⟨_, w, Lib.run_unsafeString_none w pt it ty none, .refl hr, .str _⟩
        | ptr hb => exact ⟨_, w, Lib.run_unsafeString_none w pt it ty _, .refl hr, .str _⟩
      · cases h
    · rw [beq_no hk] at h
      dsimp only [cond_false] at h
      split at h
      · rename_i e b o hu
        replace h := cond_some h; obtain ⟨ho, h⟩ := h
        replace h := cond_some h; obtain ⟨hroom, h⟩ := h
        have ho := Nat.eq_of_beq_eq_true ho
        have hroom := Nat.le_of_ble_eq_true hroom
        unfold room at hroom
        subst ho
        split at h
        · rename_i cs e' hs
          replace h := cond_some h; obtain ⟨he, h⟩ := h
          replace h := cond_some h; obtain ⟨hc1, h⟩ := h
          have he := Nat.eq_of_beq_eq_true he
          have hc1 := Nat.eq_of_beq_eq_true hc1
          subst he
          replace h := ob_some h; obtain ⟨l, hl, h⟩ := h
          replace h := ob_some h; obtain ⟨bs, hbs, h⟩ := h
          cases h
          cases hp with
          | ptr hb =>
            rename_i r z
            obtain ⟨arr, elem', fz, hh, hzz, hlen2, hv, hfz, hty⟩ := hr.cells hs hb
            have hfz := hfz rfl
            have hty := hty _ rfl
            subst hfz; subst hty
            obtain ⟨t1, t2⟩ := ltake_eq _ _ _ hl
            have hbl : bs.length = k := by rw [lmapO_len hbs, t2]
            have hkc : k ≤ cs.length := by
              have := congrArg List.length t1
              rw [t2, List.length_take] at this; omega
            have hcell : ∀ j x, bs[j]? = some x → w.cell? ((⟨r, 0, none⟩ : Addr).add j) = some (.int .u8 x.toNat) := by
              intro j x hx
              have hj : j < k := by rw [← hbl]; exact (List.getElem?_eq_some_iff.1 hx).1
              obtain ⟨bb, hb1, hb2⟩ := lmapO_get hbs j l[j] (by simp)
              rw [hx] at hb2; cases hb2
              have hj2 : j < arr.size := by omega
              have e1 : cs[j]? = some l[j] := by
                have h1 : l[j]? = some l[j] := by simp
                have h2 : l[j]? = ((cs.take k))[j]? := congrArg (fun q => q[j]?) t1
                rw [List.getElem?_take, if_pos hj] at h2
                rw [← h2]; exact h1
              have := byteOf_vr hb1 (hv j _ arr[j] e1 (by simp))
              rw [add_addr]
              simp only [World.cell?, hh, Nat.zero_add]
              simp [this, hj2]
            have hrun := Lib.run_unsafeString_row (P := P) w pt it ty elem' hu hc1 r arr.size (by simp [World.shape?, hh]) bs (by intro e; subst e; simp at hbl; exact hk hbl.symm) (by omega) (by omega) hcell
            rw [hbl] at hrun
            obtain ⟨⟨fz, f1⟩, f2, f3, f4, f5, f6⟩ := freeze_heap w r k arr elem' hk hh
            exact ⟨_, _, hrun, Ext.write hr hs rfl hb f3 f1 f2 f4 f5 f6 trivial, .str _⟩
        · cases h
      · cases h
  · cases h


noncomputable def makeSliceA (P : Program) (t : TypeId) (n c : AV) : Option New :=
  match P.underlying t, n, c with
  | some (.slice elem), .int .i64 (.ofNat n), .int .i64 (.ofNat c) =>
    ob (P.info? elem) fun i => ob i.zero fun z => ob (cv z) fun a => ob a.cells fun zero => cond (Nat.beq (llen zero) i.size) (cond (Nat.ble n c) (cond (Nat.ble c 16777216) (cond (Nat.ble (Nat.mul c i.size) 16777216) (cond (Nat.ble (Nat.mul i.bytes c) room)
      (some ⟨.cells (lrep zero c) true, fun id => .slice (some (id, 0)) n (.exact c)⟩) none) none) none) none) none
  | _, _, _ => none

theorem makeSliceA_run {P : Program} {ρ : BMap} {w : World} {t : TypeId} {n c : AV} {n' c' : Value} {nw : New} (h : makeSliceA P t n c = some nw) (hn : VR ρ n n') (hc : VR ρ c c') : MakeR P (Instr.makeSlice t n' c') nw ρ w := by
  unfold makeSliceA at h
  split at h
  · rename_i elem n c hu
    replace h := ob_some h; obtain ⟨i, hi, h⟩ := h
    replace h := ob_some h; obtain ⟨z, hz, h⟩ := h
    replace h := ob_some h; obtain ⟨a, ha, h⟩ := h
    replace h := ob_some h; obtain ⟨zero, hzero, h⟩ := h
    replace h := cond_some h; obtain ⟨h1, h⟩ := h
    replace h := cond_some h; obtain ⟨h2, h⟩ := h
    replace h := cond_some h; obtain ⟨h3, h⟩ := h
    replace h := cond_some h; obtain ⟨h4, h⟩ := h
    replace h := cond_some h; obtain ⟨h5, h⟩ := h
    cases h
    have h1 := Nat.eq_of_beq_eq_true h1
    have h2 := Nat.le_of_ble_eq_true h2
    have h3 := Nat.le_of_ble_eq_true h3
    have h5 : i.bytes * c ≤ room := Nat.le_of_ble_eq_true h5
    unfold room at h5
    cases hn; cases hc
    have hzc := AV.cells_vr (cv_vr ρ ha) hzero
    have hsz : z.cells.size = i.size := by rw [← hzc.1, ← llen_eq]; exact h1
    have hv := zeros_vr hzc c
    have hb : (i.bytes : Int) * (Int.ofNat c) ≤ 281474976710656 := by
      have h : ((i.bytes * c : Nat) : Int) ≤ 281474976710656 := by omega
      rwa [Int.natCast_mul] at h
    have hrun := run_make (P := P) w t elem i z hu hi hz .i64 .i64 (Int.ofNat n) (Int.ofNat c) (by simp) (by simpa using h2) hb (by simp; omega)
    have hm : madeCells z.cells ((Int.ofNat c).toNat * i.size) = (Array.range (c * z.cells.size)).map (z.cells[· % z.cells.size]!) := by
      rw [hsz]; simp [madeCells, hsz]
    rw [hm] at hrun
    exact ⟨_, _, _, _, hrun, rfl, rfl, rfl, rfl, fun id hid => ⟨cells_BR elem hv hid, .slice (upd_self _ _ _ _) rfl h2⟩⟩
  · cases h


noncomputable def capA (P : Program) (t : TypeId) (x : AV) : Option AV :=
  match P.underlying t, x with
  | some (.slice _), .slice _ _ (.exact n) => some (.int .i64 (Int.ofNat n))
  | _, _ => none

theorem capA_run {P : Program} {ρ : BMap} {t ty : TypeId} {x v : AV} {x' : Value} (h : capA P t x = some v) (hx : VR ρ x x') (w : World) :
    ∃ v', (Builtin.cap_ #[t] ty #[x']).run P w = .ok v' w ∧ VR ρ v v' := by
  unfold capA at h
  split at h
  · rename_i e a l n hu
    cases h
    cases hx with
    | sliceNil => exact ⟨.int .i64 (0 : Nat), by simp [Builtin.cap_, run_underlying hu, goInt], .int _ _⟩
    | slice hb hc hl =>
      have hc : _ = n := hc
      subst hc
      exact ⟨_, by simp [Builtin.cap_, run_underlying hu, goInt], .int _ _⟩
  · cases h


noncomputable def appendZeroA (P : Program) (s : St) (t tx : TypeId) (x : AV) (n : Int) : Option (AV × St) :=
  match P.underlying t, P.underlying tx, x, n with
  | some (.slice elem), some (.int _), .slice none _ _, .ofNat n =>
    ob (P.info? elem) fun i => ob i.zero fun z => ob (cv z) fun a => ob a.cells fun zero => cond (Nat.beq (llen zero) i.size) (cond (Nat.beq n 0) none (cond (Nat.beq i.size 0) none (cond (Nat.ble n 16777216) (cond (Nat.ble (Nat.mul n i.bytes) room)
      (some (.slice (some (s.next, 0)) n (.atLeast n i.bytes i.size), s.new (.cells (lrep zero n) true))) none) none))) none
  | _, _, _, _ => none

theorem run_append_zeros {P : Program} (w : World) (t tx ty e : TypeId) (kx : IntKind) (i : TypeInfo) (z : Value) (ht : P.underlying t = some (.slice e)) (htx : P.underlying tx = some (.int kx)) (hi : P.info? e = some i) (hz : i.zero = some z)
    (k : IntKind) (n : Nat) (h0 : n ≠ 0) (hs : i.size ≠ 0) (hn : n ≤ 16777216) (hb : n * i.bytes ≤ 140737488355328) :
    (Builtin.append_ #[t, tx] ty #[.slice none 0 0, .int k (n : Int)]).run P w =
      .ok (.slice (some ⟨w.heap.size, 0, none⟩) n (grownCap w n 0 e)) (w.drew.alloc (.cells (Builtin.zeroCells z.cells n ++ Builtin.zeroCells z.cells (grownCap w n 0 e - n)) e)) := by
  have wn : IntKind.i64.wrap (n : Int) = (n : Int) := by rw [IntKind.wrap_i64]; omega
  have n1 : ¬ ((n : Int) < 0) := by omega
  have hbi : ((n : Int) * (i.bytes : Int)) ≤ 140737488355328 := by
    have h : ((n * i.bytes : Nat) : Int) ≤ 140737488355328 := by omega
    rwa [Int.natCast_mul] at h
  have n2 : ¬ (281474976710656 < (n : Int) * (i.bytes : Int)) := by omega
  have n3 : ¬ (n ≤ 0) := by omega
  have n4 : ¬ (9223372036854775807 < (n : Int)) := by omega
  have hfit : Builtin.nextslicecap n 0 * i.bytes ≤ 281474976710656 := growslice_fits (by omega) hb
  have n5 : ¬ (281474976710656 < Builtin.nextslicecap n 0 * i.bytes) := by omega
  simp [Builtin.append_, run_underlying ht, run_underlying htx, sizeOf, typeInfo, zeroValue, hi, hz, asInt, asIntOf, wn, n1, n2, n3, n4, n5, h0, hs, Question.forced, Builtin.firstCells, newRow, grownCap]
  intro h
  exact absurd h (Nat.mul_ne_zero h0 hs)

theorem appendZeroA_run {P : Program} {ρ : BMap} {s s' : St} {w : World} {t tx ty : TypeId} {x v : AV} {x' : Value} {k : IntKind} {n : Int} (h : appendZeroA P s t tx x n = some (v, s')) (hr : HR ρ s w) (hx : VR ρ x x') :
    ∃ ρ' v' w', (Builtin.append_ #[t, tx] ty #[x', .int k n]).run P w = .ok v' w' ∧ Ext ρ s w ρ' s' w' ∧ VR ρ' v v' := by
  unfold appendZeroA at h
  split at h
  · rename_i elem kx l c n ht htx
    replace h := ob_some h; obtain ⟨i, hi, h⟩ := h
    replace h := ob_some h; obtain ⟨z, hz, h⟩ := h
    replace h := ob_some h; obtain ⟨a, ha, h⟩ := h
    replace h := ob_some h; obtain ⟨zero, hzero, h⟩ := h
    replace h := cond_some h; obtain ⟨h1, h⟩ := h
    replace h := cond_some' h; obtain ⟨h2, h⟩ := h
    replace h := cond_some' h; obtain ⟨h3, h⟩ := h
    replace h := cond_some h; obtain ⟨h4, h⟩ := h
    replace h := cond_some h; obtain ⟨h5, h⟩ := h
    cases h
    have h1 := Nat.eq_of_beq_eq_true h1
    have h2' : n ≠ 0 := by intro e; subst e; cases h2
    have h3' : i.size ≠ 0 := by intro e; rw [e] at h3; cases h3
    have h4 := Nat.le_of_ble_eq_true h4
    have h5 : n * i.bytes ≤ room := Nat.le_of_ble_eq_true h5
    unfold room at h5
    cases hx with
    | sliceNil =>
      have hrun := run_append_zeros (P := P) w t tx ty elem kx i z ht htx hi hz k n h2' h3' h4 h5
      have hzc := AV.cells_vr (cv_vr ρ ha) hzero
      have hsz : z.cells.size = i.size := by rw [← hzc.1, ← llen_eq]; exact h1
      have hrep : VRs ρ (lrep zero n) (Builtin.zeroCells z.cells n) := zeros_vr hzc n
      have hall := fun zz => hrep.mono (upd_sub (r := w.heap.size) (z := zz) (hr.fresh s.next (Nat.le_refl _)))
      refine ⟨_, _, _, hrun, Ext.new (w' := w.drew.alloc _) hr rfl rfl rfl rfl ⟨rfl, ?_, fun j u u' e e' => ?_, fun _ => rfl, nofun⟩, .slice (upd_self _ _ _ _) ⟨grownCap_ge w n 0 elem, ?_⟩ (grownCap_ge w n 0 elem)⟩
      · rw [hrep.1]; simp only [Array.size_append]; omega
      · refine (hall _).2 j u u' e ?_
        have hj := (List.getElem?_eq_some_iff.1 e).1
        rw [hrep.1] at hj
        rw [Array.getElem?_append_left hj] at e'
        exact e'
      · have hge := grownCap_ge w n 0 elem
        have := cap_cells i.size n (grownCap w n 0 elem) hge
        simp only [Array.size_append, size_zeroCells, hsz]
        omega
  · cases h

noncomputable def appendAnyA (P : Program) (s : St) (t tx : TypeId) (x y : AV) : Option (AV × St) :=
  match y with
  | .str y => appendStrA P s t tx x y
  | .int _ n => appendZeroA P s t tx x n
  | _ => appendA P s t tx x y

theorem appendAnyA_run {P : Program} {ρ : BMap} {s s' : St} {w : World} {t tx ty : TypeId} {x y v : AV} {x' y' : Value} (h : appendAnyA P s t tx x y = some (v, s')) (hr : HR ρ s w) (hx : VR ρ x x') (hy : VR ρ y y') :
    EffR P (Builtin.append_ #[t, tx] ty #[x', y']) ρ s w v s' := by
  unfold appendAnyA at h
  split at h
  · cases hy
    exact .inl (appendStrA_run h hr hx)
  · cases hy
    exact .inl (appendZeroA_run h hr hx)
  · exact appendA_run h hr hx hy

end Go.Proofs.Bx

namespace Go.Proofs.Bx
open Go
variable [Sym]


noncomputable def Fr.put (F : Fr) (t : Nat) (v : AV) : Fr :=
  Fr.rec (fun recent loc thr size => Bool.rec (.mk recent loc thr size) (Bool.rec (.mk ((t, v) :: recent) loc thr size) (.mk recent (loc.set v t) thr size) (Nat.blt t thr)) (Nat.blt t size)) F

omit [Sym] in
theorem Fr.get_eq (F : Fr) (t : Nat) : F.get t = cond (Nat.blt t F.thr) (F.loc.get t) (assoc F.recent t) := by
  cases F with
  | mk recent loc thr size =>
    show (Bool.rec (assoc recent t) (loc.get t) (Nat.blt t thr) : Option AV) = cond (Nat.blt t thr) (loc.get t) (assoc recent t)
    cases Nat.blt t thr <;> rfl

omit [Sym] in
theorem Fr.put_eq (F : Fr) (t : Nat) (v : AV) : F.put t v = cond (Nat.blt t F.size) (cond (Nat.blt t F.thr) ⟨F.recent, F.loc.set v t, F.thr, F.size⟩ ⟨(t, v) :: F.recent, F.loc, F.thr, F.size⟩) F := by
  cases F with
  | mk recent loc thr size =>
    show (Bool.rec (.mk recent loc thr size) (Bool.rec (.mk ((t, v) :: recent) loc thr size) (.mk recent (loc.set v t) thr size) (Nat.blt t thr)) (Nat.blt t size) : Fr) =
      cond (Nat.blt t size) (cond (Nat.blt t thr) (.mk recent (loc.set v t) thr size) (.mk ((t, v) :: recent) loc thr size)) (.mk recent loc thr size)
    cases Nat.blt t size <;> cases Nat.blt t thr <;> rfl

omit [Sym] in
theorem assoc_cons (p : Nat × AV) (l : List (Nat × AV)) (t : Nat) : assoc (p :: l) t = cond (Nat.beq p.1 t) (some p.2) (assoc l t) := by
  show (Bool.rec (assoc l t) (some p.2) (Nat.beq p.1 t) : Option AV) = _
  cases Nat.beq p.1 t <;> rfl

noncomputable def Fr.putO (F : Fr) (d : Option Nat) (v : AV) : Fr :=
  match d with
  | some t => F.put t v
  | none => F

structure FrR (D : List Deferred) (ρ : BMap) (F : Fr) (a : Act) : Prop where
  defers : a.defers = D
  size : a.tmps.size = F.size
  get : ∀ t v, F.get t = some v → VR ρ v (a.tmps.getD t undef)
  lt : ∀ t v, F.get t = some v → t < F.size

theorem FrR.mono {D : List Deferred} {ρ ρ' : BMap} (hs : Sub ρ ρ') {F : Fr} {a : Act} (h : FrR D ρ F a) : FrR D ρ' F a := ⟨h.defers, h.size, fun t v e => (h.get t v e).mono hs, h.lt⟩

omit [Sym] in
theorem Fr.get_put {F : Fr} {t t' : Nat} {v u : AV} (ht : t < F.size) (h : (F.put t v).get t' = some u) : (t' = t ∧ u = v) ∨ (t' ≠ t ∧ F.get t' = some u) := by
  have hb : Nat.blt t F.size = true := by rw [Nat.blt_eq]; exact ht
  rw [Fr.put_eq, hb, Fr.get_eq] at h
  cases hl : Nat.blt t F.thr with
  | true =>
    rw [hl] at h
    have h' : cond (Nat.blt t' F.thr) ((F.loc.set v t).get t') (assoc F.recent t') = some u := h
    rw [Fr.get_eq]
    cases hl' : Nat.blt t' F.thr with
    | true =>
      rw [hl'] at h'
      exact Tr.get_set h'
    | false =>
      rw [hl'] at h'
      refine .inr ⟨fun e => ?_, h'⟩
      subst e; rw [hl] at hl'; cases hl'
  | false =>
    rw [hl] at h
    have h' : cond (Nat.blt t' F.thr) (F.loc.get t') (cond (Nat.beq t t') (some v) (assoc F.recent t')) = some u := by
      rw [← assoc_cons (t, v) F.recent t']; exact h
    rw [Fr.get_eq]
    cases hl' : Nat.blt t' F.thr with
    | true =>
      rw [hl'] at h'
      refine .inr ⟨fun e => ?_, h'⟩
      subst e; rw [hl] at hl'; cases hl'
    | false =>
      rw [hl'] at h'
      by_cases e : t = t'
      · subst e
        have h2 : cond (Nat.beq t t) (some v) (assoc F.recent t) = some u := h'
        rw [beq_yes rfl] at h2
        cases h2; exact .inl ⟨rfl, rfl⟩
      · have h2 : cond (Nat.beq t t') (some v) (assoc F.recent t') = some u := h'
        rw [beq_no e] at h2
        exact .inr ⟨fun e' => e e'.symm, h2⟩

omit [Sym] in
theorem Fr.put_size (F : Fr) (t : Nat) (v : AV) : (F.put t v).size = F.size := by
  rw [Fr.put_eq]
  cases Nat.blt t F.size <;> cases Nat.blt t F.thr <;> rfl

theorem FrR.put {D : List Deferred} {ρ : BMap} {F : Fr} {a : Act} (h : FrR D ρ F a) {v : AV} {v' : Value} (hv : VR ρ v v') (d : Option Nat) : FrR D ρ (F.putO d v) (a.put d v') := by
  cases d with
  | none => exact h
  | some t =>
    show FrR D ρ (F.put t v) (a.put (some t) v')
    by_cases ht : t < F.size
    · have hg : ∀ {t' u}, (F.put t v).get t' = some u → (t' = t ∧ u = v) ∨ (t' ≠ t ∧ F.get t' = some u) := fun e => Fr.get_put ht e
      refine ⟨h.defers, by rw [Fr.put_size]; simp [Act.put, h.size], fun t' u e => ?_, fun t' u e => ?_⟩
      · have hst : t < a.tmps.size := by rw [h.size]; exact ht
        rcases hg e with ⟨rfl, rfl⟩ | ⟨hn, e⟩
        · simpa [Act.put, hst] using hv
        · have := h.get t' u e
          have e2 : (a.tmps.setIfInBounds t v').getD t' undef = a.tmps.getD t' undef := by
            simp only [Array.getD_eq_getD_getElem?]
            rw [Array.getElem?_setIfInBounds_ne (fun e => hn e.symm)]
          show VR ρ u ((a.tmps.setIfInBounds t v').getD t' undef)
          rw [e2]; exact this
      · rw [Fr.put_size]
        rcases hg e with ⟨rfl, rfl⟩ | ⟨hn, e⟩
        · exact ht
        · exact h.lt t' u e
    · have hb : Nat.blt t F.size = false := by
        cases hc : Nat.blt t F.size with
        | false => rfl
        | true => rw [Nat.blt_eq] at hc; exact absurd hc ht
      have e1 : F.put t v = F := by rw [Fr.put_eq, hb]; rfl
      rw [e1]
      refine ⟨h.defers, by simp [Act.put, h.size], fun t' u e => ?_, h.lt⟩
      have hne : t ≠ t' := fun e' => ht (e' ▸ h.lt t' u e)
      have e2 : (a.tmps.setIfInBounds t v').getD t' undef = a.tmps.getD t' undef := by
        simp only [Array.getD_eq_getD_getElem?]
        rw [Array.getElem?_setIfInBounds_ne hne]
      show VR ρ u ((a.tmps.setIfInBounds t v').getD t' undef)
      rw [e2]; exact h.get t' u e

noncomputable def Fr.ev (F : Fr) : Ev := fun x =>
  match x with
  | .tmp t => F.get t
  | .const v => cv v
  | .func f => some (.func (.func f) [] [])
  | .global _ => none

theorem Fr.ev_run {D : List Deferred} {ρ : BMap} {F : Fr} {a : Act} (h : FrR D ρ F a) : EvR ρ F.ev a := by
  intro x v e
  cases x with
  | tmp t => exact h.get t v e
  | const c => exact cv_vr ρ e
  | func f => cases e; exact .func rfl rfl (fun i v v' e => by simp at e) (fun i v v' e => by simp at e)
  | global g => cases e

theorem evs_run {ρ : BMap} {ev : Ev} {a : Act} (h : EvR ρ ev a) : ∀ {l : List Operand} {vs : List AV}, lmapO ev l = some vs → VRs ρ vs (l.map a.eval).toArray := by
  intro l vs e
  refine ⟨by rw [lmapO_len e]; simp, fun i v v' e1 e2 => ?_⟩
  have hi : i < l.length := by rw [← lmapO_len e]; exact (List.getElem?_eq_some_iff.1 e1).1
  obtain ⟨b, hb, hr⟩ := lmapO_get e i l[i] (by simp)
  rw [e1] at hr
  cases hr
  have := h _ _ hb
  simp [hi] at e2
  rw [← e2]; exact this

noncomputable def evParts (ev : Ev) (l : List (Nat × Operand)) : Option (List (Nat × AV)) := lmapO (fun p => ob (ev p.2) fun v => some (p.1, v)) l

theorem evParts_run {ρ : BMap} {ev : Ev} {a : Act} (h : EvR ρ ev a) {parts : Array (Nat × Operand)} {vs : List (Nat × AV)} (e : evParts ev parts.toList = some vs) :
    PR ρ vs (parts.map fun (i, x) => (i, a.eval x)) := by
  refine ⟨by rw [lmapO_len e]; simp, fun i p q e1 e2 => ?_⟩
  have hi : i < parts.toList.length := by rw [← lmapO_len e]; exact (List.getElem?_eq_some_iff.1 e1).1
  obtain ⟨b, hb, hr⟩ := lmapO_get e i parts.toList[i] (by simp)
  rw [e1] at hr
  cases hr
  replace hb := ob_some hb; obtain ⟨v, hv, hb⟩ := hb
  cases hb
  have := h _ _ hv
  simp at hi
  simp [hi] at e2
  subst e2
  exact ⟨by simp, by simpa using this⟩


inductive Tgt where
  | fn (f : FuncId)
  | yld (i : Nat)

inductive K where
  | val (v : Option AV)
  | read (f : St → Option AV)
  | make (n : Option New)
  | eff (f : St → Option (Option AV × St))
  | call (f : Tgt) (args : List AV)
  | no

variable (P : Program)

noncomputable def binA (s : St) (op : BinOp) (t : TypeId) (x y : Operand) (a b : AV) : Option AV :=
  match a, b with
  | .int _ _, .int _ _ => binPlain op t a b
  | .str _, .str _ => binPlain op t a b
  | .sym _ _, .int _ _ => symBin op a b
  | .int _ _, .sym _ _ => symBin op a b
  | .res _ _ _, .int _ _ => resBin op a b
  | .sym _ _, _ => none
  | .res _ _ _, _ => none
  | _, .res _ _ _ => none
  | _, .sym _ _ => none
  | .symk _ _, _ => none
  | _, .symk _ _ => none
  | _, _ => eqBin P s op t x y a b

noncomputable def pickA (ev : Ev) (c x y : Operand) : Option AV :=
  match ev c with
  | some (.bool b) => cond b (ev x) (ev y)
  | _ => none

noncomputable def evO (ev : Ev) (x : Option Operand) (f : Option AV → Option AV) : Option AV :=
  match x with
  | none => f none
  | some x => ob (ev x) fun v => f (some v)

noncomputable def lenA (s : St) (t : TypeId) (x : AV) : Option AV :=
  match P.underlying t, x with
  | some (.slice _), .slice _ n _ => some (.int .i64 (Int.ofNat n))
  | some (.slice _), .empty => some (.int .i64 (Int.ofNat 0))
  | some .string, .str b => some (.int .i64 (Int.ofNat b.size))
  | some (.map _ _), x => ob (entriesA s x) fun es => some (.int .i64 (Int.ofNat (llen es)))
  | _, _ => none

noncomputable def plainsA (f : Array Value → Sem Value) (args : List AV) : Option AV := ob (lmapO AV.plain args) fun vs => ob (bare (f vs.toArray)) cvAtom

noncomputable def builtinOf (ev : Ev) (o : Oper) (b : Builtin) (args : List Operand) (ts : List TypeId) : K :=
  match b, args, ts with
  | .len, [x], [t] => .read fun s => ob (ev x) (lenA P s t)
  | .max, args, ts => .val (ob (lmapO ev args) (plainsA (Builtin.max_ ts.toArray o.type)))
  | .min, args, ts => .val (ob (lmapO ev args) (plainsA (Builtin.min_ ts.toArray o.type)))
  | .clear, [x], [t] => .eff fun s => ob (ev x) fun x => ob (clearA P s t x) fun s => some (some .undef, s)
  | .append, [x, y], [t, tx] => .eff fun s => ob (ev x) fun a => ob (ev y) fun b => ob (appendAnyA P s t tx a b) fun r => some (some r.1, r.2)
  | .unsafeSliceData, [x], _ => .val (ob (ev x) sliceDataA)
  | .cap, [x], [t] => .val (ob (ev x) (capA P t))
  | .unsafeString, [x, y], [t, _] => .eff fun s => ob (ev x) fun a => ob (ev y) fun b => ob (unsafeStrA P s t a b) fun r => some (some r.1, r.2)
  | _, _, _ => .no

noncomputable def callOf (ev : Ev) (f : Operand) (args : List Operand) : K :=
  match ev f with
  | some (.func (.func g) first captured) => match lmapO ev args with
    | some vs => .call (.fn g) (lapp first (lapp vs captured))
    | none => .no
  | some (.yld i) => match lmapO ev args with
    | some vs => .call (.yld i) vs
    | none => .no
  | _ => .no

noncomputable def convK (s d : TypeId) (x : Option AV) : K :=
  match P.underlying d with
  | some (.slice _) => .make (ob x (bytesA P s d))
  | _ => .val (ob x (convertA P s d))

noncomputable def kindOf (ev : Ev) (o : Oper) : K :=
  match o.op with
  | .move x => .val (ev x)
  | .assign x => .val (ev x)
  | .pick c x y => .val (pickA ev c x y)
  | .alloc t => .make (allocA P t)
  | .box _ x => .make (ob (ev x) boxA)
  | .build t parts => .val (ob (evParts ev parts.toList) (buildA P t))
  | .buildSlice t n parts => .make (ob (evParts ev parts.toList) (buildSliceA P t n))
  | .load t a => .read fun s => ob (ev a) (loadA P s t)
  | .store t a v => .eff fun s => ob (ev a) fun a => ob (ev v) fun v => ob (storeA P s t a v) fun s => some (none, s)
  | .nilCheck x => .val (ob (ev x) nilCheckA)
  | .binOp op t x y _ => .read fun s => ob (ev x) fun a => ob (ev y) fun b => binA P s op t x y a b
  | .unOp op _ x => .val (ob (ev x) (unPlain op))
  | .convert s d x => convK P s d (ev x)
  | .makeInterface t x => .val (ob (ev x) (ifaceA P t))
  | .makeFunc fn f c => .val (ob (lmapO ev f.toList) fun fs => ob (lmapO ev c.toList) fun cs => some (.func fn fs cs))
  | .makeMap _ none => .make (makeMapA none)
  | .makeSlice t n c => .make (ob (ev n) fun n => ob (ev c) fun c => makeSliceA P t n c)
  | .slice t x l h m => .val (ob (ev x) fun x => evO ev l fun l => evO ev h fun h => evO ev m fun m => sliceA P t x l h m)
  | .fieldAddr t x f => .val (ob (ev x) fun x => fieldAddrA P t x f)
  | .field t x f => .val (ob (ev x) fun x => fieldA P t x f)
  | .indexAddr t x i => .val (ob (ev x) fun x => ob (ev i) fun i => indexAddrA P t x i)
  | .index t x i => .val (ob (ev x) fun x => ob (ev i) fun i => indexA P t x i)
  | .lookup t x k ok => .read fun s => ob (ev x) fun x => ob (ev k) fun k => lookupA P s t x k ok
  | .mapUpdate t m k v => .eff fun s => ob (ev m) fun m => ob (ev k) fun k => ob (ev v) fun v => ob (mapUpdateA P s t m k v) fun s => some (none, s)
  | .insert t m k v => .eff fun s => ob (ev m) fun m => ob (ev k) fun k => ob (ev v) fun v => ob (mapUpdateA P s t m k v) fun s => some (none, s)
  | .mapEntry t m k => .eff fun s => ob (ev m) fun m => ob (ev k) fun k => ob (mapEntryA P s t m k) fun r => some (some r.1, r.2)
  | .entryStore _ m k v => .eff fun s => ob (ev m) fun m => ob (ev k) fun k => ob (ev v) fun v => ob (entryStoreA s m k v) fun s => some (none, s)
  | .typeAssert x _ t ok => .val (ob (ev x) fun x => assertA P x t ok)
  | .extract x i => .val (ob (ev x) fun x => extractA x i)
  | .call c => match c.callee with
    | .builtin b => builtinOf P ev o b c.args.toList c.argTypes.toList
    | .value f => callOf ev f c.args.toList
    | .invoke _ _ => .no
  | _ => .no

end Go.Proofs.Bx

namespace Go.Proofs.Bx
open Go
variable [Sym]
variable {P : Program}

omit [Sym] in
theorem K.val_inj {a b : Option AV} (h : K.val a = K.val b) : a = b := by injection h

omit [Sym] in
theorem value_of {o : Oper} {ρo : Operand → Value} {sem : Sem Value} {w w' : World} {v' : Value} (he : execOp ρo o = (do pure (.value (← sem)))) (hr : sem.run P w = .ok v' w') :
    (execOp ρo o).run P w = .ok (.value v') w' := by
  rw [he]; simp [hr]

theorem evO_some {ev : Ev} {x : Option Operand} {f : Option AV → Option AV} {v : AV} (h : evO ev x f = some v) {ρ : BMap} {a : Act} (hev : EvR ρ ev a) :
    ∃ y, f y = some v ∧ OR ρ y (x.map a.eval) := by
  cases x with
  | none => exact ⟨none, h, trivial⟩
  | some x =>
    replace h := ob_some (show ob (ev x) _ = _ from h); obtain ⟨y, hy, h⟩ := h
    exact ⟨some y, h, hev _ _ hy⟩

theorem plainsA_run {ρ : BMap} {f : Array Value → Sem Value} {args : List AV} {args' : Array Value} {v : AV} (h : plainsA f args = some v) (ha : VRs ρ args args') (w : World) :
    ∃ v', (f args').run P w = .ok v' w ∧ VR ρ v v' := by
  replace h := ob_some h; obtain ⟨vs, hvs, h⟩ := h
  replace h := ob_some h; obtain ⟨r, hr, h⟩ := h
  have e : vs.toArray = args' := by
    apply Array.ext
    · rw [← ha.1, ← lmapO_len hvs]; simp
    · intro i h1 h2
      have hi : i < args.length := by rw [ha.1]; exact h2
      obtain ⟨b, hb, hg⟩ := lmapO_get hvs i args[i] (by simp)
      have := ha.2 i args[i] args'[i] (by simp) (by simp [h2])
      have e2 := AV.plain_vr hb this
      rw [List.getElem?_eq_getElem (by simpa using h1)] at hg
      simp at hg
      simp [hg, e2]
  rw [← e]
  exact ⟨r, bare_run P hr w, cvAtom_vr ρ h⟩

theorem val_run {ρ : BMap} {ev : Ev} {a : Act} {o : Oper} {v : AV} (h : kindOf P ev o = .val (some v)) (hev : EvR ρ ev a) (w : World) :
    ∃ v', (execOp a.eval o).run P w = .ok (.value v') w ∧ VR ρ v v' := by
  obtain ⟨dst, op, ty, pos, aft, gd⟩ := o
  unfold kindOf at h
  dsimp only at h
  split at h <;> try (cases h; done)
  · -- move
    have h := K.val_inj h
    exact ⟨_, rfl, hev _ _ h⟩
  · have h := K.val_inj h
    exact ⟨_, rfl, hev _ _ h⟩
  · -- pick
    rename_i c x y
    have h := K.val_inj h
    unfold pickA at h
    split at h
    · rename_i b hb
      have hc := hev _ _ hb
      cases hv : a.eval c <;> rw [hv] at hc <;> try (cases hc; done)
      cases hc
      cases b with
      | true => exact ⟨a.eval x, by simp [execOp, hv, asBool], hev _ _ h⟩
      | false => exact ⟨a.eval y, by simp [execOp, hv, asBool], hev _ _ h⟩
    · cases h
  · -- build
    have h := K.val_inj h
    replace h := ob_some h; obtain ⟨ps, hp, h⟩ := h
    obtain ⟨v', h1, h2⟩ := buildA_run h (evParts_run hev hp) w
    exact ⟨v', value_of rfl h1, h2⟩
  · -- nilCheck
    rename_i x
    have h := K.val_inj h
    replace h := ob_some h; obtain ⟨u, hu, h⟩ := h
    have hx := hev _ _ hu
    unfold nilCheckA at h
    split at h
    · cases h
      generalize hv : a.eval x = q at hx
      cases hx with
      | ptr hb => exact ⟨_, by simp [execOp, hv], .ptr hb⟩
    · cases h
      generalize hv : a.eval x = q at hx
      cases hx with
      | func h1 h2 g1 g2 => exact ⟨_, by simp [execOp, hv], .func h1 h2 g1 g2⟩
    · cases h
  · -- unOp
    have h := K.val_inj h
    replace h := ob_some h; obtain ⟨u, hu, h⟩ := h
    obtain ⟨v', h1, h2⟩ := unPlain_run (P := P) h (hev _ _ hu) w
    exact ⟨v', value_of rfl h1, h2⟩
  · -- convert
    unfold convK at h
    split at h
    · cases h
    have h := K.val_inj h
    replace h := ob_some h; obtain ⟨u, hu, h⟩ := h
    obtain ⟨v', h1, h2⟩ := convertA_run h (hev _ _ hu) w
    exact ⟨v', value_of rfl h1, h2⟩
  · -- makeInterface
    have h := K.val_inj h
    replace h := ob_some h; obtain ⟨u, hu, h⟩ := h
    obtain ⟨v', h1, h2⟩ := ifaceA_run h (hev _ _ hu) w
    exact ⟨v', value_of rfl h1, h2⟩
  · -- makeFunc
    rename_i fn f c
    have h := K.val_inj h
    replace h := ob_some h; obtain ⟨fs, hf, h⟩ := h
    replace h := ob_some h; obtain ⟨cs, hc, h⟩ := h
    cases h
    have h1 := evs_run hev hf
    have h2 := evs_run hev hc
    refine ⟨.func fn (f.map a.eval) (c.map a.eval), value_of rfl (by simp [Instr.makeFunc]), .func ?_ ?_ (fun i v v' e e' => h1.2 i v v' e ?_) (fun i v v' e e' => h2.2 i v v' e ?_)⟩
    · have := h1.1; simpa using this
    · have := h2.1; simpa using this
    · simpa using e'
    · simpa using e'
  · -- slice
    have h := K.val_inj h
    replace h := ob_some h; obtain ⟨u, hu, h⟩ := h
    obtain ⟨l, h, hl⟩ := evO_some h hev
    obtain ⟨hi, h, hh⟩ := evO_some h hev
    obtain ⟨m, h, hm⟩ := evO_some h hev
    obtain ⟨v', h1, h2⟩ := sliceA_run h (hev _ _ hu) hl hh hm w
    exact ⟨v', value_of rfl h1, h2⟩
  · have h := K.val_inj h
    replace h := ob_some h; obtain ⟨u, hu, h⟩ := h
    obtain ⟨v', h1, h2⟩ := fieldAddrA_run h (hev _ _ hu) w
    exact ⟨v', value_of rfl h1, h2⟩
  · have h := K.val_inj h
    replace h := ob_some h; obtain ⟨u, hu, h⟩ := h
    obtain ⟨v', h1, h2⟩ := fieldA_run h (hev _ _ hu) w
    exact ⟨v', value_of rfl h1, h2⟩
  · have h := K.val_inj h
    replace h := ob_some h; obtain ⟨u, hu, h⟩ := h
    replace h := ob_some h; obtain ⟨i, hi, h⟩ := h
    obtain ⟨v', h1, h2⟩ := indexAddrA_run h (hev _ _ hu) (hev _ _ hi) w
    exact ⟨v', value_of rfl h1, h2⟩
  · have h := K.val_inj h
    replace h := ob_some h; obtain ⟨u, hu, h⟩ := h
    replace h := ob_some h; obtain ⟨i, hi, h⟩ := h
    obtain ⟨v', h1, h2⟩ := indexA_run h (hev _ _ hu) (hev _ _ hi) w
    exact ⟨v', value_of rfl h1, h2⟩
  · -- typeAssert
    have h := K.val_inj h
    replace h := ob_some h; obtain ⟨u, hu, h⟩ := h
    obtain ⟨v', h1, h2⟩ := assertA_run h (hev _ _ hu) w
    exact ⟨v', value_of rfl h1, h2⟩
  · -- extract
    have h := K.val_inj h
    replace h := ob_some h; obtain ⟨u, hu, h⟩ := h
    obtain ⟨v', h1, h2⟩ := extractA_run (P := P) h (hev _ _ hu) w
    exact ⟨v', value_of rfl h1, h2⟩
  · -- a call
    rename_i c
    split at h
    · rename_i b hb
      unfold builtinOf at h
      obtain ⟨callee, args, ts⟩ := c
      dsimp only at h hb
      subst hb
      split at h <;> try (cases h; done)
      · -- max
        have h := K.val_inj h
        replace h := ob_some h; obtain ⟨vs, hvs, h⟩ := h
        obtain ⟨v', h1, h2⟩ := plainsA_run (P := P) h (evs_run hev hvs) w
        refine ⟨v', ?_, h2⟩
        have e1 : (List.map a.eval args.toList).toArray = Array.map a.eval args := by rw [← Array.toList_map, Array.toArray_toList]
        rw [e1, Array.toArray_toList] at h1
        simp [execOp, resolve, invoke, builtin, h1]
      · have h := K.val_inj h
        replace h := ob_some h; obtain ⟨vs, hvs, h⟩ := h
        obtain ⟨v', h1, h2⟩ := plainsA_run (P := P) h (evs_run hev hvs) w
        refine ⟨v', ?_, h2⟩
        have e1 : (List.map a.eval args.toList).toArray = Array.map a.eval args := by rw [← Array.toList_map, Array.toArray_toList]
        rw [e1, Array.toArray_toList] at h1
        simp [execOp, resolve, invoke, builtin, h1]
      · -- unsafe.SliceData
        rename_i ts' x ha
        have h := K.val_inj h
        replace h := ob_some h; obtain ⟨u, hu, h⟩ := h
        have ha' : args = #[x] := by rw [← Array.toArray_toList (xs := args), ha]
        subst ha'
        obtain ⟨v', h1, h2⟩ := sliceDataA_run (P := P) (ts := ts) (ty := ty) h (hev _ _ hu) w
        exact ⟨v', by simp [execOp, resolve, invoke, builtin, h1], h2⟩
      · -- cap
        rename_i x t ha ht
        have h := K.val_inj h
        replace h := ob_some h; obtain ⟨u, hu, h⟩ := h
        have ha' : args = #[x] := by rw [← Array.toArray_toList (xs := args), ha]
        have ht' : ts = #[t] := by rw [← Array.toArray_toList (xs := ts), ht]
        subst ha'; subst ht'
        obtain ⟨v', h1, h2⟩ := capA_run (ty := ty) h (hev _ _ hu) w
        exact ⟨v', by simp [execOp, resolve, invoke, builtin, h1], h2⟩
    · unfold callOf at h
      split at h
      · split at h <;> cases h
      · split at h <;> cases h
      · cases h
    · cases h

theorem binA_run {ρ : BMap} {s : St} {w : World} (hr : HR ρ s w) {op : BinOp} {t : TypeId} {x y : Operand} {a b v : AV} {a' b' : Value} (h : binA P s op t x y a b = some v) (ha : VR ρ a a') (hb : VR ρ b b') :
    ∃ v', (do eqGuard op t x y a' b'; Go.binOp op t a' b' : Sem Value).run P w = .ok v' w ∧ VR ρ v v' := by
  unfold binA at h
  split at h
  · exact binPlain_run h ha hb w
  · exact binPlain_run h ha hb w
  · exact symBin_run h ha hb w
  · exact symBin_run h ha hb w
  · exact resBin_run h ha hb w
  · cases h
  · cases h
  · cases h
  · cases h
  · cases h
  · cases h
  · rename_i n5 n6 n7 n8 n9 n10 n1 n2 _ _ _
    replace h := cond_some h; obtain ⟨hg, h⟩ := h
    have hgr := guardA_run (op := op) hg ha hb w
    -- neither numbers nor texts: the model asks whether they are equal
    have opEq : ∀ r, (Op.equal t a' b').run P w = .ok r w → (Go.binOp .eql t a' b').run P w = .ok (.bool r) w ∧ (Go.binOp .neq t a' b').run P w = .ok (.bool (!r)) w := by
      intro r hq
      cases ha <;> cases hb <;> first
        | exact (n1 _ _ _ _ rfl rfl).elim
        | exact (n2 _ _ rfl rfl).elim
        | exact (n5 _ _ rfl).elim
        | exact (n6 _ _ rfl).elim
        | exact (n5 _ _ _ rfl).elim
        | exact (n6 _ _ _ rfl).elim
        | exact (n7 _ _ _ rfl).elim
        | exact (n8 _ _ _ rfl).elim
        | exact (n7 _ _ rfl).elim
        | exact (n8 _ _ rfl).elim
        | exact (n9 _ _ rfl).elim
        | exact (n10 _ _ rfl).elim
        | exact ⟨(Sem.run_bind' P _ _ w).trans (by rw [hq]; rfl), (Sem.run_bind' P _ _ w).trans (by rw [hq]; rfl)⟩
        | (exfalso; simp [guardA] at hg; done)
    split at h
    · replace h := ob_some h; obtain ⟨r, hr1, h⟩ := h
      cases h
      have hq : (Op.equal t a' b').run P w = .ok r w := eqA_run hr Op.maxDepth hr1 ha hb (by decide)
      refine ⟨.bool r, ?_, .bool _⟩
      simp only [Sem.run_bind, hgr, Result.andThen_ok]
      exact (opEq r hq).1
    · replace h := ob_some h; obtain ⟨r, hr1, h⟩ := h
      cases h
      have hq : (Op.equal t a' b').run P w = .ok r w := eqA_run hr Op.maxDepth hr1 ha hb (by decide)
      refine ⟨.bool (!r), ?_, .bool _⟩
      simp only [Sem.run_bind, hgr, Result.andThen_ok]
      exact (opEq r hq).2
    · cases h

omit [Sym] in
theorem K.read_inj {f g : St → Option AV} (h : K.read f = K.read g) : f = g := by injection h
omit [Sym] in
theorem K.make_inj {f g : Option New} (h : K.make f = K.make g) : f = g := by injection h
omit [Sym] in
theorem K.eff_inj {f g : St → Option (Option AV × St)} (h : K.eff f = K.eff g) : f = g := by injection h

theorem lenA_run {ρ : BMap} {s : St} {w : World} (hr : HR ρ s w) {t ty : TypeId} {x v : AV} {x' : Value} (h : lenA P s t x = some v) (hx : VR ρ x x') :
    ∃ v', (Builtin.len_ #[t] ty #[x']).run P w = .ok v' w ∧ VR ρ v v' := by
  unfold lenA at h
  split at h
  · rename_i hu
    cases h
    cases hx <;> exact ⟨_, by simp [Builtin.len_, run_underlying hu, goInt], .int _ _⟩
  · rename_i hu
    cases h
    cases hx
    exact ⟨_, by simp [Builtin.len_, run_underlying hu, goInt], .int _ _⟩
  · rename_i hu
    cases h
    cases hx
    exact ⟨_, by simp [Builtin.len_, run_underlying hu, goInt], .int _ _⟩
  · rename_i kt et x hu
    replace h := ob_some h; obtain ⟨es, hes, h⟩ := h
    cases h
    unfold entriesA at hes
    split at hes
    · cases hes; cases hx
      exact ⟨_, by simp [Builtin.len_, run_underlying hu, goInt]; rfl, .int _ _⟩
    · split at hes
      · rename_i hs
        cases hes
        cases hx with
        | map hb =>
          obtain ⟨es', h1, h2, h3⟩ := hr.map hs hb
          refine ⟨.int .i64 (es'.size : Int), by simp [Builtin.len_, run_underlying hu, goInt, getObj, Sem.run, h1], ?_⟩
          rw [llen_eq, h2]; exact .int _ _
      · rename_i hs
        cases hes
        cases hx with
        | map hb =>
          obtain ⟨es', h1, h2, h3⟩ := hr.mapR hs hb
          refine ⟨.int .i64 (es'.size : Int), by simp [Builtin.len_, run_underlying hu, goInt, getObj, Sem.run, h1], ?_⟩
          rw [llen_eq, h2]; exact .int _ _
      · cases hes
    · cases hes
  · cases h

theorem read_run {ρ : BMap} {ev : Ev} {a : Act} {o : Oper} {f : St → Option AV} {s : St} {w : World} {v : AV} (h : kindOf P ev o = .read f) (hf : f s = some v) (hev : EvR ρ ev a) (hr : HR ρ s w) :
    ∃ v', (execOp a.eval o).run P w = .ok (.value v') w ∧ VR ρ v v' := by
  obtain ⟨dst, op, ty, pos, aft, gd⟩ := o
  unfold kindOf at h
  dsimp only at h
  split at h <;> try (first | (cases h; done) | (unfold convK at h; split at h <;> cases h; done))
  · -- load
    have h := K.read_inj h
    rw [← h] at hf
    replace hf := ob_some hf; obtain ⟨x, hx, hf⟩ := hf
    obtain ⟨v', h1, h2⟩ := loadA_run hf hr (hev _ _ hx)
    exact ⟨v', value_of rfl h1, h2⟩
  · -- binOp
    have h := K.read_inj h
    rw [← h] at hf
    replace hf := ob_some hf; obtain ⟨x, hx, hf⟩ := hf
    replace hf := ob_some hf; obtain ⟨y, hy, hf⟩ := hf
    obtain ⟨v', h1, h2⟩ := binA_run hr hf (hev _ _ hx) (hev _ _ hy)
    exact ⟨v', value_of rfl h1, h2⟩
  · -- lookup
    have h := K.read_inj h
    rw [← h] at hf
    replace hf := ob_some hf; obtain ⟨x, hx, hf⟩ := hf
    replace hf := ob_some hf; obtain ⟨y, hy, hf⟩ := hf
    obtain ⟨v', h1, h2⟩ := lookupA_run hr hf (hev _ _ hx) (hev _ _ hy)
    exact ⟨v', value_of rfl h1, h2⟩
  · -- len
    rename_i c
    split at h
    · rename_i b hb
      unfold builtinOf at h
      obtain ⟨callee, args, ts⟩ := c
      dsimp only at h hb
      subst hb
      split at h <;> try (cases h; done)
      rename_i x t ha ht
      have h := K.read_inj h
      rw [← h] at hf
      replace hf := ob_some hf; obtain ⟨y, hy, hf⟩ := hf
      have ha' : args = #[x] := by rw [← Array.toArray_toList (xs := args), ha]
      have ht' : ts = #[t] := by rw [← Array.toArray_toList (xs := ts), ht]
      subst ha'; subst ht'
      obtain ⟨v', h1, h2⟩ := lenA_run (ty := ty) hr hf (hev _ _ hy)
      exact ⟨v', by simp [execOp, resolve, invoke, builtin, h1], h2⟩
    · unfold callOf at h
      split at h
      · split at h <;> cases h
      · split at h <;> cases h
      · cases h
    · cases h

theorem MakeR.value {ρ : BMap} {w : World} {sem : Sem Value} {n : New} (h : MakeR P sem n ρ w) {o : Oper} {ρo : Operand → Value} (he : execOp ρo o = (do pure (.value (← sem)))) :
    ∃ v' w' z obj, (execOp ρo o).run P w = .ok (.value v') w' ∧ w'.heap = w.heap.push obj ∧ w'.os = w.os ∧ w'.tape = w.tape ∧ w'.output = w.output ∧
      ∀ id, ρ id = none → BR (upd ρ id w.heap.size z) z n.blk obj ∧ VR (upd ρ id w.heap.size z) (n.res id) v' := by
  obtain ⟨v', w', z, obj, h1, h2⟩ := h
  exact ⟨v', w', z, obj, value_of he h1, h2⟩

theorem make_run {ρ : BMap} {ev : Ev} {a : Act} {o : Oper} {n : New} {w : World} (h : kindOf P ev o = .make (some n)) (hev : EvR ρ ev a) :
    ∃ v' w' z obj, (execOp a.eval o).run P w = .ok (.value v') w' ∧ w'.heap = w.heap.push obj ∧ w'.os = w.os ∧ w'.tape = w.tape ∧ w'.output = w.output ∧
      ∀ id, ρ id = none → BR (upd ρ id w.heap.size z) z n.blk obj ∧ VR (upd ρ id w.heap.size z) (n.res id) v' := by
  obtain ⟨dst, op, ty, pos, aft, gd⟩ := o
  unfold kindOf at h
  dsimp only at h
  split at h <;> try (cases h; done)
  · exact (allocA_run (K.make_inj h)).value rfl
  · have h := K.make_inj h
    replace h := ob_some h; obtain ⟨x, hx, h⟩ := h
    exact (boxA_run (P := P) h (hev _ _ hx)).value rfl
  · have h := K.make_inj h
    replace h := ob_some h; obtain ⟨ps, hp, h⟩ := h
    exact (buildSliceA_run h (evParts_run hev hp)).value rfl
  · -- convert
    unfold convK at h
    split at h
    · have h := K.make_inj h
      replace h := ob_some h; obtain ⟨x, hx, h⟩ := h
      exact (bytesA_run (P := P) h (hev _ _ hx)).value rfl
    · cases h
  · exact (makeMapA_run (P := P) (t := _) (r' := none) (K.make_inj h) trivial).value rfl
  · have h := K.make_inj h
    replace h := ob_some h; obtain ⟨x, hx, h⟩ := h
    replace h := ob_some h; obtain ⟨y, hy, h⟩ := h
    exact (makeSliceA_run (P := P) h (hev _ _ hx) (hev _ _ hy)).value rfl
  · rename_i c
    split at h
    · unfold builtinOf at h
      split at h <;> cases h
    · unfold callOf at h
      split at h
      · split at h <;> cases h
      · split at h <;> cases h
      · cases h
    · cases h

omit [Sym] in
theorem skip_of {o : Oper} {ρo : Operand → Value} {sem : Sem Unit} {w w' : World} (he : execOp ρo o = (do sem; pure .skip)) (hr : sem.run P w = .ok () w') :
    (execOp ρo o).run P w = .ok .skip w' := by
  rw [he]; simp [hr]

omit [Sym] in
theorem kindOf_defer {ev : Ev} {o : Oper} {k : K} (h : kindOf P ev o = k) (hk : k ≠ .no) : ∀ c, o.op ≠ .defer c := fun c e => hk (by rw [← h]; unfold kindOf; rw [e])

theorem eff_run {ρ : BMap} {ev : Ev} {a : Act} {o : Oper} {f : St → Option (Option AV × St)} {s s' : St} {w : World} {r : Option AV} (h : kindOf P ev o = .eff f) (hf : f s = some (r, s')) (hev : EvR ρ ev a) (hr : HR ρ s w) :
    (∃ ρ' w', Ext ρ s w ρ' s' w' ∧ ((r = none ∧ (execOp a.eval o).run P w = .ok .skip w') ∨ ∃ v v', r = some v ∧ VR ρ' v v' ∧ (execOp a.eval o).run P w = .ok (.value v') w')) := by
  obtain ⟨dst, op, ty, pos, aft, gd⟩ := o
  unfold kindOf at h
  dsimp only at h
  split at h <;> try (first | (cases h; done) | (unfold convK at h; split at h <;> cases h; done))
  · -- store
    have h := K.eff_inj h
    rw [← h] at hf
    replace hf := ob_some hf; obtain ⟨x, hx, hf⟩ := hf
    replace hf := ob_some hf; obtain ⟨y, hy, hf⟩ := hf
    replace hf := ob_some hf; obtain ⟨s2, hs, hf⟩ := hf
    cases hf
    obtain ⟨w', h1, h2⟩ := storeA_run hs hr (hev _ _ hx) (hev _ _ hy)
    exact ⟨ρ, w', h2, .inl ⟨rfl, skip_of rfl h1⟩⟩
  · -- mapUpdate
    have h := K.eff_inj h
    rw [← h] at hf
    replace hf := ob_some hf; obtain ⟨x, hx, hf⟩ := hf
    replace hf := ob_some hf; obtain ⟨y, hy, hf⟩ := hf
    replace hf := ob_some hf; obtain ⟨z, hz, hf⟩ := hf
    replace hf := ob_some hf; obtain ⟨s2, hs, hf⟩ := hf
    cases hf
    obtain ⟨w', h1, h2⟩ := mapUpdateA_run hr hs (hev _ _ hx) (hev _ _ hy) (hev _ _ hz)
    exact ⟨ρ, w', h2, .inl ⟨rfl, skip_of rfl h1⟩⟩
  · -- insert
    have h := K.eff_inj h
    rw [← h] at hf
    replace hf := ob_some hf; obtain ⟨x, hx, hf⟩ := hf
    replace hf := ob_some hf; obtain ⟨y, hy, hf⟩ := hf
    replace hf := ob_some hf; obtain ⟨z, hz, hf⟩ := hf
    replace hf := ob_some hf; obtain ⟨s2, hs, hf⟩ := hf
    cases hf
    obtain ⟨w', h1, h2⟩ := mapUpdateA_run hr hs (hev _ _ hx) (hev _ _ hy) (hev _ _ hz)
    exact ⟨ρ, w', h2, .inl ⟨rfl, skip_of rfl h1⟩⟩
  · -- mapEntry
    have h := K.eff_inj h
    rw [← h] at hf
    replace hf := ob_some hf; obtain ⟨x, hx, hf⟩ := hf
    replace hf := ob_some hf; obtain ⟨y, hy, hf⟩ := hf
    replace hf := ob_some hf; obtain ⟨⟨u, s2⟩, hs, hf⟩ := hf
    cases hf
    obtain ⟨u', w', h1, h2, h3⟩ := mapEntryA_run hr hs (hev _ _ hx) (hev _ _ hy)
    exact ⟨ρ, w', h2, .inr ⟨u, u', rfl, h3, value_of rfl h1⟩⟩
  · -- entryStore
    have h := K.eff_inj h
    rw [← h] at hf
    replace hf := ob_some hf; obtain ⟨x, hx, hf⟩ := hf
    replace hf := ob_some hf; obtain ⟨y, hy, hf⟩ := hf
    replace hf := ob_some hf; obtain ⟨z, hz, hf⟩ := hf
    replace hf := ob_some hf; obtain ⟨s2, hs, hf⟩ := hf
    cases hf
    obtain ⟨w', h1, h2⟩ := entryStoreA_run (P := P) (t := _) hr hs (hev _ _ hx) (hev _ _ hy) (hev _ _ hz)
    exact ⟨ρ, w', h2, .inl ⟨rfl, skip_of rfl h1⟩⟩
  · -- append
    rename_i c
    split at h
    · rename_i b hb
      unfold builtinOf at h
      obtain ⟨callee, args, ts⟩ := c
      dsimp only at h hb
      subst hb
      split at h <;> try (cases h; done)
      · rename_i x t ha ht
        have h := K.eff_inj h
        rw [← h] at hf
        replace hf := ob_some hf; obtain ⟨p, hp, hf⟩ := hf
        replace hf := ob_some hf; obtain ⟨s2, hs, hf⟩ := hf
        cases hf
        have ha' : args = #[x] := by rw [← Array.toArray_toList (xs := args), ha]
        have ht' : ts = #[t] := by rw [← Array.toArray_toList (xs := ts), ht]
        subst ha'; subst ht'
        obtain ⟨w', h1, h2⟩ := clearA_run (ty := ty) hs hr (hev _ _ hp)
        exact ⟨ρ, w', h2, .inr ⟨.undef, .tuple #[], rfl, .undef _, by simp [execOp, resolve, invoke, builtin, h1]⟩⟩
      · rename_i x y t tx ha ht
        have h := K.eff_inj h
        rw [← h] at hf
        replace hf := ob_some hf; obtain ⟨p, hp, hf⟩ := hf
        replace hf := ob_some hf; obtain ⟨q, hq, hf⟩ := hf
        replace hf := ob_some hf; obtain ⟨⟨u, s2⟩, hs, hf⟩ := hf
        cases hf
        have ha' : args = #[x, y] := by rw [← Array.toArray_toList (xs := args), ha]
        have ht' : ts = #[t, tx] := by rw [← Array.toArray_toList (xs := ts), ht]
        subst ha'; subst ht'
        rcases appendAnyA_run (ty := ty) hs hr (hev _ _ hp) (hev _ _ hq) with ⟨ρ', v', w', h1, h2, h3⟩ | hf
        · exact ⟨ρ', w', h2, .inr ⟨u, v', rfl, h3, by simp [execOp, resolve, invoke, builtin, h1]⟩⟩
        · exact hf.elim
      · -- unsafe.String
        rename_i x y t it ha ht
        have h := K.eff_inj h
        rw [← h] at hf
        replace hf := ob_some hf; obtain ⟨p, hp, hf⟩ := hf
        replace hf := ob_some hf; obtain ⟨q, hq, hf⟩ := hf
        replace hf := ob_some hf; obtain ⟨⟨u, s2⟩, hs, hf⟩ := hf
        cases hf
        have ha' : args = #[x, y] := by rw [← Array.toArray_toList (xs := args), ha]
        have ht' : ts = #[t, it] := by rw [← Array.toArray_toList (xs := ts), ht]
        subst ha'; subst ht'
        obtain ⟨v', w', h1, h2, h3⟩ := unsafeStrA_run (it := it) (ty := ty) hs hr (hev _ _ hp) (hev _ _ hq)
        exact ⟨ρ, w', h2, .inr ⟨u, v', rfl, h3, by simp [execOp, resolve, invoke, builtin, h1]⟩⟩
    · unfold callOf at h
      split at h
      · split at h <;> cases h
      · split at h <;> cases h
      · cases h
    · cases h

theorem call_run {ρ : BMap} {ev : Ev} {a : Act} {o : Oper} {g : FuncId} {args : List AV} {w : World} (h : kindOf P ev o = .call (.fn g) args) (hev : EvR ρ ev a) :
    ∃ args', VRs ρ args args' ∧ execOp a.eval o = callFunc g args' := by
  obtain ⟨dst, op, ty, pos, aft, gd⟩ := o
  unfold kindOf at h
  dsimp only at h
  split at h <;> try (first | (cases h; done) | (unfold convK at h; split at h <;> cases h; done))
  rename_i c
  split at h
  · unfold builtinOf at h
    split at h <;> cases h
  · rename_i f hc
    obtain ⟨callee, cargs, ts⟩ := c
    dsimp only at h hc
    subst hc
    unfold callOf at h
    split at h
    · rename_i g' first captured hfv
      split at h
      · rename_i vs hvs
        cases h
        have h1 := hev _ _ hfv
        generalize hq : a.eval f = q at h1
        cases h1 with
        | func l1 l2 g1 g2 =>
          rename_i fi ca
          have h3 := evs_run hev hvs
          refine ⟨fi ++ (cargs.map a.eval ++ ca), ?_, ?_⟩
          · rw [lapp_eq, lapp_eq]
            refine VRs.append ⟨l1, g1⟩ (VRs.append ?_ ⟨l2, g2⟩)
            have e1 : (List.map a.eval cargs.toList).toArray = Array.map a.eval cargs := by rw [← Array.toList_map, Array.toArray_toList]
            rw [e1] at h3; exact h3
          · have e2 : fi ++ (cargs.map a.eval ++ ca) = fi ++ cargs.map a.eval ++ ca := by simp
            rw [e2]
            simp [execOp, resolve, hq, Deferred.ofValue, invoke]
      · cases h
    · split at h <;> cases h
    · cases h
  · cases h

theorem yield_run {ρ : BMap} {ev : Ev} {a : Act} {o : Oper} {i : Nat} {args : List AV} {w : World} (h : kindOf P ev o = .call (.yld i) args) (hev : EvR ρ ev a) :
    ∃ args' l z, VRs ρ args args' ∧ ρ i = some (l, z) ∧ (execOp a.eval o).run P w = (Instr.yield l args').run P w := by
  obtain ⟨dst, op, ty, pos, aft, gd⟩ := o
  unfold kindOf at h
  dsimp only at h
  split at h <;> try (first | (cases h; done) | (unfold convK at h; split at h <;> cases h; done))
  rename_i c
  split at h
  · unfold builtinOf at h
    split at h <;> cases h
  · rename_i f hc
    obtain ⟨callee, cargs, ts⟩ := c
    dsimp only at h hc
    subst hc
    unfold callOf at h
    split at h
    · split at h <;> cases h
    · rename_i i' hfv
      split at h
      · rename_i vs hvs
        cases h
        have h1 := hev _ _ hfv
        generalize hq : a.eval f = q at h1
        cases h1 with
        | yld hl =>
          rename_i l z
          have h3 := evs_run hev hvs
          refine ⟨cargs.map a.eval, l, z, ?_, hl, ?_⟩
          · have e1 : (List.map a.eval cargs.toList).toArray = Array.map a.eval cargs := by rw [← Array.toList_map, Array.toArray_toList]
            rw [e1] at h3; exact h3
          · simp [execOp, resolve, hq, Deferred.ofValue, invoke]
      · cases h
    · cases h
  · cases h

end Go.Proofs.Bx

namespace Go.Proofs.Bx
open Go
variable [Sym]
variable (P : Program)

abbrev CallK := Tgt → List AV → St → Option (AV × St)

def CR (ρ : BMap) (s : St) (w : World) (v : AV) (s' : St) : Ending → World → Prop
  | .returned v', w' => ∃ ρ', Ext ρ s w ρ' s' w' ∧ VR ρ' v v'
  | .outgrown, _ => False
  | .panicked _, _ => False

def Fc (r : Option Nat) : Fence := { Fence.wide with round := r }

omit [Sym] in
theorem Fc.calls {r : Option Nat} {n : Nat} {P : Program} {f : FuncId} {args : Array Value} {w : World} {R : Ending → World → Prop} (h : Calls P f args w R) : CallsIn (Fc r) n P f args w R := by
  have h0 : CallsIn Fence.wide n P f args w R := callsIn_wide.2 h
  cases r with
  | none => exact h0
  | some l => exact h0.inRound l

omit [Sym] in
theorem Fc.deep {r : Option Nat} {n : Nat} : (Fc r).depth.isSome = true → 1 ≤ n := fun h => by cases h

structure CallSound (P : Program) (callK : CallK) : Prop where
  calls : ∀ {g : FuncId} {args : List AV} {s s' : St} {v : AV} {ρ : BMap} {w : World} {args' : Array Value}, callK (.fn g) args s = some (v, s') → HR ρ s w → VRs ρ args args' → Calls P g args' w (CR ρ s w v s')
  enter : ∀ {g : FuncId} {args : List AV} {s s' : St} {v : AV} {w : World} {args' : Array Value}, callK (.fn g) args s = some (v, s') → (callFunc g args').run P w = .ok (.enter g args') w
  yields : ∀ {i : Nat} {args : List AV} {s s' : St} {v : AV} {ρ : BMap} {w : World} {args' : Array Value} {l z : Nat}, callK (.yld i) args s = some (v, s') → HR ρ s w → VRs ρ args args' → ρ i = some (l, z) →
    ∀ r n, YieldAt (Fc r) n P l args' w (CR ρ s w v s')

noncomputable def wantA (ops : Array Oper) (F : Fr) (g : Option (Nat × Bool)) : Option Bool :=
  match g with
  | none => some true
  | some (j, want) => ob (nth ops.toList j) fun o => ob o.dst fun d => ob (F.get d) fun v =>
      match v with
      | .bool b => some (cond b want (!want))
      | .tuple [] => some false
      | _ => none

theorem wantA_run {D : List Deferred} {ρ : BMap} {ops : Array Oper} {F : Fr} {a : Act} (hF : FrR D ρ F a) {o : Oper} {b : Bool} (h : wantA ops F o.guard = some b) : Region.wanted o (yielded ops a.tmps) = b := by
  unfold wantA at h
  unfold Region.wanted
  split at h
  · rename_i hg; cases h; rw [hg]
  · rename_i j want hg
    rw [hg]
    replace h := ob_some h; obtain ⟨oj, hj, h⟩ := h
    replace h := ob_some h; obtain ⟨d, hd, h⟩ := h
    replace h := ob_some h; obtain ⟨v, hv, h⟩ := h
    rw [nth_eq] at hj
    have hj' : ops[j]? = some oj := by simpa using hj
    have hlt : d < a.tmps.size := by rw [hF.size]; exact hF.lt d v hv
    have hvr := hF.get d v hv
    split at h
    · rename_i b'
      cases h
      have e : a.tmps[d]? = some (.bool b') := by
        have : a.tmps.getD d undef = .bool b' := by
          generalize a.tmps.getD d undef = q at hvr
          cases hvr; rfl
        simp only [Array.getD_eq_getD_getElem?] at this
        rw [Array.getElem?_eq_getElem hlt] at this ⊢
        simpa using this
      simp only [yielded, hj', Option.bind_some, hd, e]
      cases b' <;> cases want <;> rfl
    · cases h
      have e : a.tmps[d]? = some (.tuple #[]) := by
        have : a.tmps.getD d undef = .tuple #[] := by
          generalize a.tmps.getD d undef = q at hvr
          cases hvr with
          | tuple h1 _ => rw [Array.eq_empty_of_size_eq_zero h1.symm]
        simp only [Array.getD_eq_getD_getElem?] at this
        rw [Array.getElem?_eq_getElem hlt] at this ⊢
        simpa using this
      simp only [yielded, hj', Option.bind_some, hd, e]
      cases want <;> rfl
    · cases h

noncomputable def doV (callK : CallK) (ev : Ev) (o : Oper) (s : St) : Option (AV × St) :=
  match kindOf P ev o with
  | .val (some v) => some (v, s)
  | .read f => ob (f s) fun v => some (v, s)
  | .make (some n) => some (n.res s.next, s.new n.blk)
  | .eff f => ob (f s) fun r => some (r.1.getD .undef, r.2)
  | .call g args => callK g args s
  | _ => none

noncomputable def doA (callK : CallK) (o : Oper) (F : Fr) (s : St) : Option (Fr × St) := ob (doV P callK F.ev o s) fun r => some (F.putO o.dst r.1, r.2)

noncomputable def oneA (callK : CallK) (ops : Array Oper) (o : Oper) (F : Fr) (s : St) : Option (Fr × St) :=
  ob (wantA ops F o.guard) fun b => cond b (doA P callK o F s) (some (F.putO o.dst .skip, s))

theorem doV_run {P : Program} {callK : CallK} (hc : CallSound P callK) {ρ : BMap} {ev : Ev} {s s' : St} {a : Act} {w : World} {o : Oper} {v : AV} (h : doV P callK ev o s = some (v, s')) (hev : EvR ρ ev a) (hr : HR ρ s w)
    {Kt : Act → World → Prop} {Q : Exit → Act → World → Prop} {r : Option Nat} {n : Nat} (hk : ∀ ρ' v' w', Ext ρ s w ρ' s' w' → VR ρ' v v' → Kt (a.put o.dst v') w') : o.wpIn (Fc r) n P a w Kt Q := by
  refine ⟨fun _ _ => trivial, ?_⟩
  have hdf : ∀ c, o.op ≠ .defer c := by
    intro c e
    unfold doV kindOf at h
    rw [e] at h
    cases h
  rw [Oper.semAt_eq _ _ _ hdf]
  unfold doV at h
  split at h
  · rename_i u hkind
    cases h
    obtain ⟨v', h1, h2⟩ := val_run hkind hev w
    rw [h1, Oper.uponIn_value]
    exact hk ρ _ _ (.refl hr) h2
  · rename_i f hkind
    replace h := ob_some h; obtain ⟨u, hv, h⟩ := h
    cases h
    obtain ⟨v', h1, h2⟩ := read_run hkind hv hev hr
    rw [h1, Oper.uponIn_value]
    exact hk ρ _ _ (.refl hr) h2
  · rename_i m hkind
    cases h
    obtain ⟨v', w', z, obj, h1, g1, g2, g3, g4, g5⟩ := make_run (ρ := ρ) (w := w) hkind hev
    obtain ⟨g6, g7⟩ := g5 s.next (hr.fresh _ (Nat.le_refl _))
    rw [h1, Oper.uponIn_value]
    exact hk _ _ _ (Ext.new hr g1 g2 g3 g4 g6) g7
  · rename_i f hkind
    replace h := ob_some h; obtain ⟨⟨q, s2⟩, hv, h⟩ := h
    cases h
    obtain ⟨ρ', w', h1, ⟨rfl, h2⟩ | ⟨v, v', rfl, h2, h3⟩⟩ := eff_run hkind hv hev hr
    · rw [h2, Oper.uponIn_skip]
      exact hk _ _ _ h1 (.undef _)
    · rw [h3, Oper.uponIn_value]
      exact hk _ _ _ h1 h2
  · rename_i g args hkind
    cases g with
    | fn g =>
      obtain ⟨args', h1, h2⟩ := call_run (w := w) hkind hev
      rw [h2, hc.enter h, Oper.uponIn_enter]
      refine ⟨Fc.deep, Fc.calls ((hc.calls h hr h1).mono fun e w' he => ?_)⟩
      cases e with
      | returned v' =>
        obtain ⟨ρ', h3, h4⟩ := he
        exact hk _ _ _ h3 h4
      | panicked c => exact he.elim
      | outgrown => exact he.elim
    | yld i =>
      obtain ⟨args', l, z, h1, h2, h3⟩ := yield_run (P := P) (w := w) hkind hev
      obtain ⟨fn, tmps, asg, bd, h4, h5⟩ := hc.yields h hr h1 h2 r (n - 1)
      rw [h3, h4, Oper.uponIn_round]
      refine ⟨Fc.deep, h5.mono fun e w' he => ?_⟩
      cases e with
      | returned v' =>
        obtain ⟨ρ', h6, h7⟩ := he
        exact hk _ _ _ h6 h7
      | panicked c => exact he.elim
      | outgrown => exact he.elim
  · cases h

theorem doA_run {P : Program} {callK : CallK} (hc : CallSound P callK) {D : List Deferred} {ρ : BMap} {F F' : Fr} {s s' : St} {a : Act} {w : World} {o : Oper} (h : doA P callK o F s = some (F', s')) (hF : FrR D ρ F a) (hr : HR ρ s w)
    {Kt : Act → World → Prop} {Q : Exit → Act → World → Prop} {r : Option Nat} {n : Nat} (hk : ∀ ρ' a' w', Ext ρ s w ρ' s' w' → FrR D ρ' F' a' → Kt a' w') : o.wpIn (Fc r) n P a w Kt Q := by
  replace h := ob_some h; obtain ⟨⟨v, s2⟩, hv, h⟩ := h
  cases h
  exact doV_run hc hv (Fr.ev_run hF) hr fun ρ' v' w' h1 h2 => hk _ _ _ h1 ((hF.mono h1.sub).put h2 _)

theorem oneA_run {P : Program} {callK : CallK} (hc : CallSound P callK) {D : List Deferred} {ρ : BMap} {F F' : Fr} {s s' : St} {a : Act} {w : World} {ops : Array Oper} {i : Nat} {o : Oper} (hi : ops[i]? = some o)
    (h : oneA P callK ops o F s = some (F', s')) (hF : FrR D ρ F a) (hr : HR ρ s w)
    {Kt : Act → World → Prop} {Q : Exit → Act → World → Prop} {r : Option Nat} {n : Nat} (hk : ∀ ρ' a' w', Ext ρ s w ρ' s' w' → FrR D ρ' F' a' → Kt a' w') : wpOpIn (Fc r) n P ops Q i Kt a w := by
  unfold wpOpIn
  rw [hi]
  dsimp only
  replace h := ob_some h; obtain ⟨b, hb, h⟩ := h
  have hw := wantA_run hF hb
  cases b with
  | true => rw [if_pos hw]; exact doA_run hc h hF hr hk
  | false =>
    cases h
    rw [if_neg (by rw [hw]; simp)]
    exact ⟨fun _ _ => trivial, hk ρ _ _ (.refl hr) (hF.put (.skip _) _)⟩

noncomputable def runA (callK : CallK) (ops : Array Oper) (l : List Oper) : Fr → St → Option (Fr × St) :=
  List.rec (motive := fun _ => Fr → St → Option (Fr × St)) (fun F s => some (F, s)) (fun o _ ih F s => ob (oneA P callK ops o F s) fun r => ih r.1 r.2) l

theorem runA_run {P : Program} {callK : CallK} (hc : CallSound P callK) {ops : Array Oper} {Q : Exit → Act → World → Prop} {r : Option Nat} {n : Nat} {D : List Deferred} : ∀ {l : List Oper} {i : Nat} {ρ : BMap} {F F' : Fr} {s s' : St} {a : Act} {w : World},
    ops.toList.drop i = l → runA P callK ops l F s = some (F', s') → FrR D ρ F a → HR ρ s w → (∀ ρ' a' w', Ext ρ s w ρ' s' w' → FrR D ρ' F' a' → Q .normal a' w') → wpOpsIn (Fc r) n P ops Q (List.range' i l.length) a w := by
  intro l
  induction l with
  | nil =>
    intro i ρ F F' s s' a w _ h hF hr hk
    cases h
    exact hk ρ a w (.refl hr) hF
  | cons o l ih =>
    intro i ρ F F' s s' a w hd h hF hr hk
    replace h := ob_some (show ob (oneA P callK ops o F s) _ = _ from h); obtain ⟨⟨F1, s1⟩, h1, h⟩ := h
    have hi : ops[i]? = some o := by
      have : (ops.toList.drop i)[0]? = some o := by rw [hd]; simp
      rw [List.getElem?_drop] at this
      simpa using this
    have hd' : ops.toList.drop (i + 1) = l := by
      rw [← List.drop_drop, hd]; simp
    simp only [List.length_cons, List.range'_succ]
    rw [wpOpsIn_cons]
    refine oneA_run hc hi h1 hF hr fun ρ1 a1 w1 he1 hF1 => ?_
    exact ih hd' h hF1 he1.hr fun ρ2 a2 w2 he2 hF2 => hk ρ2 a2 w2 (he1.trans he2) hF2

theorem region_run {P : Program} {callK : CallK} (hc : CallSound P callK) {id : Nat} {ops : Array Oper} {Q : Exit → Act → World → Prop} {r : Option Nat} {n : Nat} {D : List Deferred} {ρ : BMap} {F F' : Fr} {s s' : St} {a : Act} {w : World}
    (h : runA P callK ops ops.toList F s = some (F', s')) (hF : FrR D ρ F a) (hr : HR ρ s w) (hk : ∀ ρ' a' w', Ext ρ s w ρ' s' w' → FrR D ρ' F' a' → Q .normal a' w') : (Code.region id ops false).wpIn (Fc r) n P Q a w := by
  refine wpIn_region ?_
  have := runA_run hc (Q := Q) (r := r) (n := n) (l := ops.toList) (i := 0) (by simp) h hF hr hk
  rw [List.range_eq_range']
  simpa using this

end Go.Proofs.Bx

namespace Go.Proofs.Bx
open Go
variable [Sym]


def isEff (o : Oper) : Bool :=
  match o.op with
  | .store _ _ _ => true
  | .mapUpdate _ _ _ _ => true
  | .insert _ _ _ _ => true
  | .mapEntry _ _ _ => true
  | .entryStore _ _ _ _ => true
  | .call c => match c.callee with
    | .builtin .len => false
    | .builtin .max => false
    | .builtin .min => false
    | .builtin .cap => false
    | _ => true
  | _ => false

noncomputable def depsOf (o : Oper) : List Nat :=
  List.rec (motive := fun _ => List Nat) [] (fun (e : Edge) _ ih => cond (Region.binds .any e) (e.on :: ih) ih) o.after.toList

noncomputable def masks (l : List Oper) : List Nat → List Nat :=
  List.rec (motive := fun _ => List Nat → List Nat) (fun acc => acc) (fun o _ ih acc =>
    ih (lapp acc [List.rec (motive := fun _ => Nat) 0 (fun d _ ih => Nat.lor (Nat.lor (Nat.pow 2 d) (Option.rec 0 (fun m => m) (nth acc d))) ih) (depsOf o)])) l

noncomputable def maskOf (B : List Nat) (i : Nat) : Nat := Option.rec 0 (fun m => m) (nth B i)

noncomputable def prec (B : List Nat) (j i : Nat) : Bool := Nat.beq (Nat.land (Nat.shiftRight (maskOf B i) j) 1) 1

noncomputable def mem (l : List Nat) (i : Nat) : Bool := List.rec (motive := fun _ => Bool) false (fun a _ ih => cond (Nat.beq a i) true ih) l

noncomputable def lfilter {α : Type} (p : α → Bool) (l : List α) : List α := List.rec (motive := fun _ => List α) [] (fun a _ ih => cond (p a) (a :: ih) ih) l

noncomputable def lmap {α β : Type} (f : α → β) (l : List α) : List β := List.rec (motive := fun _ => List β) [] (fun a _ ih => f a :: ih) l

noncomputable def lall {α : Type} (p : α → Bool) (l : List α) : Bool := List.rec (motive := fun _ => Bool) true (fun a _ ih => cond (p a) ih false) l

noncomputable def upto (n : Nat) : List Nat := Nat.rec (motive := fun _ => List Nat) [] (fun k ih => lapp ih [k]) n

structure Seg where
  ahead : List (Nat × Nat)
  eff : Option Nat

noncomputable def floats (B : List Nat) (i : Nat) (es : List Nat) : Nat :=
  List.rec (motive := fun _ => Nat) 0 (fun e _ ih => cond (prec B e i) 0 (Nat.succ ih)) es

noncomputable def planGo (B : List Nat) (n : Nat) (es : List Nat) : List Nat → List Nat → List Seg :=
  List.rec (motive := fun _ => List Nat → List Nat → List Seg)
    (fun before done => [⟨lmap (fun i => (i, floats B i before)) (lfilter (fun i => !mem done i) (upto n)), none⟩])
    (fun e _ ih before done =>
      ⟨lmap (fun i => (i, floats B i before)) (lfilter (fun i => prec B i e && !mem done i) (upto n)), some e⟩ ::
        ih (e :: before) (e :: lapp (lfilter (fun i => prec B i e && !mem done i) (upto n)) done)) es

noncomputable def opAt (ops : List Oper) (i : Nat) : Oper := Option.rec default (fun o => o) (nth ops i)

noncomputable def planOf (ops : List Oper) : List Seg :=
  planGo (masks ops []) (llen ops) (lfilter (fun i => isEff (opAt ops i)) (upto (llen ops))) [] []

noncomputable def ordOf (p : List Seg) : List Nat :=
  List.rec (motive := fun _ => List Nat) [] (fun s _ ih => lapp (lmap (fun x => x.1) s.ahead) (match s.eff with
    | some e => e :: ih
    | none => ih)) p

noncomputable def looksOf (ops : List Oper) (o : Oper) : List Nat :=
  lapp (List.rec (motive := fun _ => List Nat) [] (fun x _ ih => match x with
    | .tmp t => t :: ih
    | _ => ih) o.op.operands.toList)
    (match o.guard with
     | some (g, _) => match (opAt ops g).dst with
       | some d => [d]
       | none => []
     | none => [])

noncomputable def dstIs (o : Oper) (t : Nat) : Bool :=
  match o.dst with
  | some d => Nat.beq d t
  | none => false

noncomputable def linear (ops : List Oper) (l : List Nat) : List Nat → Bool :=
  List.rec (motive := fun _ => List Nat → Bool) (fun _ => true) (fun i _ ih done => cond (lall (fun d => mem done d) (depsOf (opAt ops i))) (cond (mem done i) false (ih (i :: done))) false) l

noncomputable def headOk (B : List Nat) (e : Nat) (es : List Nat) : Bool :=
  match es with
  | [] => true
  | e' :: _ => prec B e' e

noncomputable def excused (X : Option (Nat × Nat)) (e : Nat) (es : List Nat) : Bool :=
  match X, es with
  | some (x, y), e' :: _ => Nat.beq e x && Nat.beq e' y
  | _, _ => false

noncomputable def segsOk (ops : List Oper) (B : List Nat) (X : Option (Nat × Nat)) (p : List Seg) : List Nat → Bool :=
  List.rec (motive := fun _ => List Nat → Bool) (fun _ => true) (fun s _ ih es =>
    cond (lall (fun x => !isEff (opAt ops x.1) && (match nth es x.2 with
        | some e => prec B e x.1
        | none => true) && Nat.ble x.2 (llen es)) s.ahead)
      (match s.eff with
       | some e => cond (lall (fun x => prec B x.1 e) s.ahead) (cond (isEff (opAt ops e)) (cond (headOk B e es || excused X e es) (ih (e :: es)) false) false) false
       | none => ih es) false) p

noncomputable def lastOk (p : List Seg) : Bool :=
  List.rec (motive := fun _ => Bool) false (fun s r ih => match s.eff with
    | some _ => ih
    | none => match r with
      | [] => true
      | _ :: _ => false) p

noncomputable def slotsOk (ops : List Oper) (B : List Nat) (n : Nat) : Bool :=
  lall (fun i => lall (fun j => cond (Nat.beq i j) true
    (cond (match (opAt ops i).dst with
        | some d => dstIs (opAt ops j) d
        | none => false) false
      (lall (fun t => cond (dstIs (opAt ops j) t) (prec B i j || prec B j i) true) (looksOf ops (opAt ops i))))) (upto n)) (upto n)

noncomputable def planOkG (ops : List Oper) (X : Option (Nat × Nat)) (p : List Seg) : Bool :=
  cond (linear ops (ordOf p) []) (cond (lall (fun i => mem (ordOf p) i) (upto (llen ops))) (cond (lall (fun i => Nat.blt i (llen ops)) (ordOf p))
    (cond (segsOk ops (masks ops []) X p []) (cond (lastOk p) (slotsOk ops (masks ops []) (llen ops)) false) false) false) false) false

noncomputable def planOk (ops : List Oper) : Bool := planOkG ops none (planOf ops)


noncomputable def effsOf (ops : List Oper) : List Nat := lfilter (fun i => isEff (opAt ops i)) (upto (llen ops))

noncomputable def swapTwo (l : List Nat) : List Nat := List.rec (motive := fun _ => List Nat) [] (fun a r ih => match r with
  | [b] => [b, a]
  | _ => a :: ih) l

noncomputable def pairOf (l : List Nat) : Option (Nat × Nat) := List.rec (motive := fun _ => Option (Nat × Nat)) none (fun a r ih => match r with
  | [b] => some (a, b)
  | _ => ih) l

noncomputable def planOf2 (ops : List Oper) : List Seg := planGo (masks ops []) (llen ops) (swapTwo (effsOf ops)) [] []

noncomputable def plainStore (o : Oper) : Bool :=
  match o.op, o.guard, o.dst with
  | .store _ _ _, none, none => true
  | _, _, _ => false

noncomputable def noMake (o : Oper) : Bool :=
  match o.op with
  | .move _ => true
  | .assign _ => true
  | .load _ _ => true
  | .nilCheck _ => true
  | .fieldAddr _ _ _ => true
  | .indexAddr _ _ _ => true
  | .binOp _ _ _ _ _ => true
  | .call c => match c.callee with
    | .builtin .len => true
    | _ => false
  | _ => false

noncomputable def pairOk (ops : List Oper) (B : List Nat) (n x y : Nat) : Bool :=
  cond (plainStore (opAt ops x)) (cond (plainStore (opAt ops y))
    (cond (lall (fun i => Nat.beq i x || Nat.beq i y || prec B i x) (upto n))
      (cond (lall (fun i => Nat.beq i x || Nat.beq i y || prec B i y || noMake (opAt ops i)) (upto n))
        (lall (fun j => lall (fun t => cond (dstIs (opAt ops j) t) (prec B j y) true) (looksOf ops (opAt ops y))) (upto n)) false) false) false) false

noncomputable def apartB (x y : AV) : Bool :=
  match x, y with
  | .ptr (some (b, _)), .ptr (some (c, _)) => !Nat.beq b c
  | _, _ => false

noncomputable def aimsApart (F : Fr) (ox oy : Oper) : Bool :=
  match ox.op, oy.op with
  | .store _ ax _, .store _ ay _ => Option.rec false (fun p => Option.rec false (fun q => apartB p q) (F.ev ay)) (F.ev ax)
  | _, _ => false


noncomputable def listSame (f : AV → AV → Bool) (xs : List AV) : List AV → Bool :=
  List.rec (motive := fun _ => List AV → Bool) (fun ys => ys.isEmpty) (fun x _ ihl ys => match ys with
      | [] => false
      | y :: ys => cond (f x y) (ihl ys) false) xs

noncomputable def capSame (c d : Cap) : Bool :=
  match c, d with
  | .exact c, .exact d => Nat.beq c d
  | .atLeast c x y, .atLeast d u v => Nat.beq c d && Nat.beq x u && Nat.beq y v
  | _, _ => false

noncomputable def avStep (ih : AV → AV → Bool) (x y : AV) : Bool :=
  match x, y with
  | .bool a, .bool b => a == b
  | .int j a, .int k b => kindEq j k && a == b
  | .sym j a, .sym k b => j == k && Nat.beq a b
  | .empty, .empty => true
  | .str a, .str b => a == b
  | .ptr none, .ptr none => true
  | .ptr (some (a, o)), .ptr (some (b, q)) => Nat.beq a b && Nat.beq o q
  | .slice none l c, .slice none m d => Nat.beq l m && capSame c d
  | .slice (some (a, o)) l c, .slice (some (b, q)) m d => Nat.beq a b && Nat.beq o q && Nat.beq l m && capSame c d
  | .map none, .map none => true
  | .map (some a), .map (some b) => Nat.beq a b
  | .nilFunc, .nilFunc => true
  | .nilIface, .nilIface => true
  | .iface t a, .iface u b => Nat.beq t u && ih a b
  | .agg xs, .agg ys => listSame ih xs ys
  | .tuple xs, .tuple ys => listSame ih xs ys
  | .func (.func f) a b, .func (.func g) c d => Nat.beq f g && listSame ih a c && listSame ih b d
  | _, _ => false

noncomputable def avSame (n : Nat) : AV → AV → Bool := Nat.rec (motive := fun _ => AV → AV → Bool) (fun _ _ => false) (fun _ ih => avStep ih) n

noncomputable def readsSame (f : St → Option AV) (v : AV) (hs : List St) : Nat → Bool :=
  List.rec (motive := fun _ => Nat → Bool) (fun _ => true) (fun h _ ih n => Nat.rec true (fun m _ => Option.rec false (fun u => cond (avSame 4 v u) (ih m) false) (f h)) n) hs

noncomputable def readQ (f : St → Option AV) (hs : List St) (c : Nat) : Option AV :=
  match hs with
  | [] => none
  | h :: _ => ob (f h) fun v => cond (readsSame f v hs (Nat.succ c)) (some v) none

variable (P : Program)

noncomputable def St.put (s : St) (i : Nat) (b : Blk) : St := ⟨s.heap.set b i, s.next⟩

noncomputable def quietA (ops : Array Oper) (base : Nat) (hs : List St) (x : Nat × Nat) (F : Fr) (cur : St) : Option (Fr × St) :=
  (fun o : Oper => ob (wantA ops F o.guard) fun b => cond b
    (match kindOf P F.ev o with
     | .val (some v) => some (F.putO o.dst v, cur)
     | .read f => ob (readQ f hs x.2) fun v => some (F.putO o.dst v, cur)
     | .make (some n) => some (F.putO o.dst (n.res (Nat.add base x.1)), cur.put (Nat.add base x.1) n.blk)
     | _ => none)
    (some (F.putO o.dst .skip, cur))) (opAt ops.toList x.1)

noncomputable def quietsA (ops : Array Oper) (base : Nat) (hs : List St) (l : List (Nat × Nat)) : Fr → St → Option (Fr × St) :=
  List.rec (motive := fun _ => Fr → St → Option (Fr × St)) (fun F s => some (F, s)) (fun x _ ih F s => ob (quietA P ops base hs x F s) fun r => ih r.1 r.2) l

noncomputable def segsA (callK : CallK) (ops : Array Oper) (base : Nat) (p : List Seg) : List St → Fr → St → Option (Fr × St) :=
  List.rec (motive := fun _ => List St → Fr → St → Option (Fr × St)) (fun _ F s => some (F, s))
    (fun g _ ih hs F s => ob (quietsA P ops base hs g.ahead F s) fun r => match g.eff with
      | some e => ob (oneA P callK ops (opAt ops.toList e) r.1 r.2) fun q => ih (q.2 :: hs) q.1 q.2
      | none => ih hs r.1 r.2) p

noncomputable def drawA2 (callK : CallK) (ops : Array Oper) (F : Fr) (s : St) (x y : Nat) : Option (Fr × St) :=
  cond (planOkG ops.toList (some (x, y)) (planOf2 ops.toList)) (cond (pairOk ops.toList (masks ops.toList []) (llen ops.toList) x y)
    (ob (segsA P callK ops s.next (planOf2 ops.toList) [⟨s.heap, Nat.add s.next (llen ops.toList)⟩] F ⟨s.heap, Nat.add s.next (llen ops.toList)⟩) fun r =>
      cond (aimsApart r.1 (opAt ops.toList x) (opAt ops.toList y)) (some r) none) none) none

noncomputable def drawA (callK : CallK) (ops : Array Oper) (F : Fr) (s : St) : Option (Fr × St) :=
  cond (planOk ops.toList) ((fun s1 : St => segsA P callK ops s.next (planOf ops.toList) [s1] F s1) ⟨s.heap, Nat.add s.next (llen ops.toList)⟩)
    (Option.rec none (fun p => drawA2 P callK ops F s p.1 p.2) (pairOf (effsOf ops.toList)))


noncomputable def resA (F : Fr) (s : St) (r : ResultVar) : Option AV :=
  match r with
  | .tmp t => F.get t
  | .cell a t => ob (F.get a) fun x => loadA P s t x

noncomputable def resultsA (fn : Func) (F : Fr) (s : St) : Option AV :=
  ob (lmapO (resA P F s) fn.results.toList) fun vs => match vs with
    | [v] => some v
    | vs => some (.tuple vs)

noncomputable def argsLoc (l : List AV) : Nat → Tr AV → Tr AV :=
  List.rec (motive := fun _ => Nat → Tr AV → Tr AV) (fun _ t => t) (fun v _ ih i t => ih (Nat.succ i) (t.set v i)) l

noncomputable def frameA (thr : Nat) (fn : Func) (args : List AV) : Option Fr :=
  cond (Nat.ble (llen args) thr) (cond (Nat.ble (llen args) fn.ntmps) (some ⟨[], argsLoc args 0 .nil, thr, fn.ntmps⟩) none) none

end Go.Proofs.Bx

namespace Go.Proofs.Bx
open Go
variable [Sym]

inductive Prec (ops : List Oper) : Nat → Nat → Prop where
  | one {j i : Nat} {o : Oper} (h : ops[i]? = some o) (hj : j ∈ depsOf o) : Prec ops j i
  | more {j k i : Nat} {o : Oper} (h : ops[i]? = some o) (hk : k ∈ depsOf o) (p : Prec ops j k) : Prec ops j i

noncomputable def depsGo (l : List Edge) : List Nat := List.rec (motive := fun _ => List Nat) [] (fun (e : Edge) _ ih => cond (Region.binds .any e) (e.on :: ih) ih) l

omit [Sym] in
theorem mem_depsGo {d : Nat} : ∀ {l : List Edge}, d ∈ depsGo l ↔ ∃ e ∈ l, Region.binds .any e = true ∧ e.on = d
  | [] => by
    have : depsGo [] = [] := rfl
    rw [this]; simp
  | e :: l => by
    have : depsGo (e :: l) = cond (Region.binds .any e) (e.on :: depsGo l) (depsGo l) := rfl
    rw [this]
    have ih := mem_depsGo (d := d) (l := l)
    cases hb : Region.binds .any e with
    | true =>
      simp only [cond_true, List.mem_cons, ih]
      constructor
      · rintro (rfl | ⟨e', h1, h2⟩)
        · exact ⟨e, .inl rfl, hb, rfl⟩
        · exact ⟨e', .inr h1, h2⟩
      · rintro ⟨e', rfl | h1, h2, h3⟩
        · exact .inl h3.symm
        · exact .inr ⟨e', h1, h2, h3⟩
    | false =>
      simp only [cond_false, ih, List.mem_cons]
      constructor
      · rintro ⟨e', h1, h2⟩; exact ⟨e', .inr h1, h2⟩
      · rintro ⟨e', rfl | h1, h2, h3⟩
        · rw [hb] at h2; cases h2
        · exact ⟨e', h1, h2, h3⟩

omit [Sym] in
theorem mem_depsOf {o : Oper} {d : Nat} : d ∈ depsOf o ↔ ∃ e ∈ o.after.toList, Region.binds .any e = true ∧ e.on = d := mem_depsGo

omit [Sym] in
theorem mem_iff {i : Nat} : ∀ {l : List Nat}, mem l i = true ↔ i ∈ l
  | [] => by
    have : mem [] i = false := rfl
    rw [this]; simp
  | a :: l => by
    have : mem (a :: l) i = cond (Nat.beq a i) true (mem l i) := rfl
    rw [this]
    by_cases h : a = i
    · subst h; rw [beq_yes rfl]; simp
    · rw [beq_no h]
      simp only [cond_false, mem_iff (l := l), List.mem_cons]
      constructor
      · exact .inr
      · rintro (e | e)
        · exact absurd e.symm h
        · exact e

omit [Sym] in
theorem lall_iff {α : Type} {p : α → Bool} : ∀ {l : List α}, lall p l = true ↔ ∀ a ∈ l, p a = true
  | [] => by
    have : lall p [] = true := rfl
    rw [this]; simp
  | a :: l => by
    have : lall p (a :: l) = cond (p a) (lall p l) false := rfl
    rw [this]
    cases h : p a with
    | true => simp [lall_iff (l := l), h]
    | false => simp [h]

omit [Sym] in
theorem upto_eq : ∀ n, upto n = List.range n
  | 0 => rfl
  | n + 1 => by
    have : upto (n + 1) = lapp (upto n) [n] := rfl
    rw [this, lapp_eq, upto_eq n, List.range_succ]

omit [Sym] in
theorem prec_bit {B : List Nat} {j i : Nat} : prec B j i = (maskOf B i).testBit j := by
  unfold prec
  have h : Nat.land (Nat.shiftRight (maskOf B i) j) 1 = (maskOf B i >>> j) % 2 := land_one' _
  rw [h]
  rw [Nat.testBit_eq_decide_div_mod_eq]
  have e : (maskOf B i >>> j) = maskOf B i / 2 ^ j := Nat.shiftRight_eq_div_pow _ _
  rw [e]
  by_cases hb : maskOf B i / 2 ^ j % 2 = 1
  · rw [beq_yes hb]; simp [hb]
  · rw [beq_no hb]; simp [hb]
where
  land_one' (i : Nat) : Nat.land i 1 = i % 2 := Nat.and_one_is_mod i

noncomputable def maskGo (acc : List Nat) (ds : List Nat) : Nat :=
  List.rec (motive := fun _ => Nat) 0 (fun d _ ih => Nat.lor (Nat.lor (Nat.pow 2 d) (Option.rec 0 (fun m => m) (nth acc d))) ih) ds

omit [Sym] in
theorem maskGo_bit {acc : List Nat} {j : Nat} : ∀ {ds : List Nat}, (maskGo acc ds).testBit j = true → ∃ d ∈ ds, j = d ∨ (maskOf acc d).testBit j = true
  | [], h => by
    have : maskGo acc [] = 0 := rfl
    rw [this] at h; simp at h
  | d :: ds, h => by
    have e : maskGo acc (d :: ds) = ((2 ^ d ||| maskOf acc d) ||| maskGo acc ds) := rfl
    rw [e, Nat.testBit_or, Nat.testBit_or] at h
    simp only [Bool.or_eq_true] at h
    rcases h with (h | h) | h
    · rw [Nat.testBit_two_pow] at h
      exact ⟨d, by simp, .inl (by simpa using (of_decide_eq_true h).symm)⟩
    · exact ⟨d, by simp, .inr h⟩
    · obtain ⟨d', h1, h2⟩ := maskGo_bit h
      exact ⟨d', by simp [h1], h2⟩

omit [Sym] in
theorem maskOf_append {acc : List Nat} {m i : Nat} : maskOf (acc ++ [m]) i = if i < acc.length then maskOf acc i else if i = acc.length then m else 0 := by
  unfold maskOf
  rw [nth_eq, nth_eq, List.getElem?_append]
  split
  · rfl
  · split
    · rename_i h1 h2; subst h2; simp
    · rename_i h1 h2
      rw [List.getElem?_eq_none (by simp; omega)]

omit [Sym] in
theorem masks_prec (ops : List Oper) : ∀ (l : List Oper) (acc : List Nat), ops.drop acc.length = l → (∀ i j, (maskOf acc i).testBit j = true → Prec ops j i) →
    ∀ i j, (maskOf (masks l acc) i).testBit j = true → Prec ops j i
  | [], acc, _, h => h
  | o :: l, acc, hd, h => by
    have e : masks (o :: l) acc = masks l (lapp acc [maskGo acc (depsOf o)]) := rfl
    rw [e, lapp_eq]
    have ho : ops[acc.length]? = some o := by
      have : (ops.drop acc.length)[0]? = some o := by rw [hd]; rfl
      rw [List.getElem?_drop] at this
      simpa using this
    refine masks_prec ops l (acc ++ [maskGo acc (depsOf o)]) ?_ fun i j hb => ?_
    · rw [List.length_append, ← List.drop_drop, hd]; rfl
    · rw [maskOf_append] at hb
      split at hb
      · exact h i j hb
      · split at hb
        · rename_i hi
          subst hi
          obtain ⟨d, h1, h2⟩ := maskGo_bit hb
          rcases h2 with rfl | h2
          · exact .one ho h1
          · exact .more ho h1 (h d j h2)
        · simp at hb

omit [Sym] in
theorem prec_sound {ops : List Oper} {j i : Nat} (h : prec (masks ops []) j i = true) : Prec ops j i := by
  rw [prec_bit] at h
  refine masks_prec ops ops [] (by simp) (fun i j hb => ?_) i j h
  have : maskOf ([] : List Nat) i = 0 := by unfold maskOf; rw [nth_eq]; simp
  rw [this] at hb
  simp at hb


def Listed (listed : Array Bool) (i : Nat) : Prop := listed.getD i false = true

structure Closed (ops : List Oper) (listed : Array Bool) : Prop where
  size : listed.size = ops.length
  deps : ∀ i o d, Listed listed i → ops[i]? = some o → d ∈ depsOf o → Listed listed d

omit [Sym] in
theorem Listed.lt {listed : Array Bool} {i : Nat} (h : Listed listed i) : i < listed.size := by
  unfold Listed at h
  rcases Nat.lt_or_ge i listed.size with hl | hl
  · exact hl
  · simp [Array.getD, Nat.not_lt.2 hl] at h

omit [Sym] in
theorem Closed.prec {ops : List Oper} {listed : Array Bool} (hc : Closed ops listed) {j i : Nat} (hp : Prec ops j i) : Listed listed i → Listed listed j := by
  induction hp with
  | one h hj => exact fun hl => hc.deps _ _ _ hl h hj
  | more h hk _ ih => exact fun hl => ih (hc.deps _ _ _ hl h hk)

omit [Sym] in
theorem ready_spec {ops : Array Oper} {listed : Array Bool} {i : Nat} (hs : listed.size = ops.toList.length) (h : i ∈ Region.ready .any ops listed) :
    ∃ o, ops[i]? = some o ∧ ¬ Listed listed i ∧ ∀ d ∈ depsOf o, Listed listed d := by
  unfold Region.ready at h
  rw [List.mem_filter] at h
  obtain ⟨h1, h2⟩ := h
  simp only [Bool.and_eq_true, Bool.not_eq_true'] at h2
  obtain ⟨h2, h3⟩ := h2
  have hi : i < ops.size := by simpa using h1
  have ho : ops[i]? = some ops[i] := by simp [hi]
  rw [ho] at h3
  refine ⟨ops[i], ho, fun hl => ?_, fun d hd => ?_⟩
  · unfold Listed at hl
    have : i < listed.size := by rw [hs]; simpa using hi
    simp only [Array.getD, this, dif_pos] at hl h2
    rw [hl] at h2; cases h2
  · obtain ⟨e, he, hb, rfl⟩ := mem_depsOf.1 hd
    simp only [Option.map_some, Option.getD_some, Array.all_eq_true_iff_forall_mem] at h3
    have := h3 e (by simpa using he)
    simp only [hb, Bool.not_true, Bool.false_or] at this
    exact this

omit [Sym] in
theorem ready_of {ops : Array Oper} {listed : Array Bool} {i : Nat} {o : Oper} (hs : listed.size = ops.toList.length) (ho : ops[i]? = some o) (hn : ¬ Listed listed i) (hd : ∀ d ∈ depsOf o, Listed listed d) :
    i ∈ Region.ready .any ops listed := by
  have hi : i < ops.size := (Array.getElem?_eq_some_iff.1 ho).1
  unfold Region.ready
  rw [List.mem_filter]
  refine ⟨by simpa using hi, ?_⟩
  simp only [Bool.and_eq_true, Bool.not_eq_true']
  have hl : i < listed.size := by rw [hs]; simpa using hi
  refine ⟨?_, ?_⟩
  · unfold Listed at hn
    simp only [Array.getD, hl, dif_pos] at hn ⊢
    simpa using hn
  · rw [ho]
    simp only [Option.map_some, Option.getD_some, Array.all_eq_true_iff_forall_mem]
    intro e he
    cases hb : Region.binds .any e with
    | false => simp
    | true =>
      have := hd e.on (mem_depsOf.2 ⟨e, by simpa using he, hb, rfl⟩)
      simp only [Bool.not_true, Bool.false_or]
      exact this

omit [Sym] in
theorem listed_set {listed : Array Bool} {i j : Nat} (hi : i < listed.size) : Listed (listed.setIfInBounds i true) j ↔ j = i ∨ Listed listed j := by
  unfold Listed
  simp only [Array.getD_eq_getD_getElem?, Array.getElem?_setIfInBounds]
  by_cases h : i = j
  · subst h; simp [hi]
  · rw [if_neg h]
    constructor
    · exact .inr
    · rintro (e | e)
      · exact absurd e.symm h
      · exact e

theorem Closed.set {ops : Array Oper} {listed : Array Bool} (hc : Closed ops.toList listed) {i : Nat} (h : i ∈ Region.ready .any ops listed) : Closed ops.toList (listed.setIfInBounds i true) := by
  obtain ⟨o, ho, hn, hd⟩ := ready_spec hc.size h
  have hi : i < listed.size := by rw [hc.size]; simpa using (Array.getElem?_eq_some_iff.1 ho).1
  refine ⟨by simp [hc.size], fun k o' d hk ho' hdk => ?_⟩
  rw [listed_set hi] at hk ⊢
  rcases hk with rfl | hk
  · have e : ops.toList[k]? = some o := by simpa using ho
    rw [e] at ho'
    cases ho'
    exact .inr (hd d hdk)
  · exact .inr (hc.deps k o' d hk ho' hdk)

end Go.Proofs.Bx

namespace Go.Proofs.Bx
open Go
variable [Sym]


omit [Sym] in
theorem listSame_eq {f : AV → AV → Bool} (hf : ∀ x y, f x y = true → x = y) : ∀ {xs ys : List AV}, listSame f xs ys = true → xs = ys
  | [], [], _ => rfl
  | [], y :: ys, h => by cases h
  | x :: xs, [], h => by cases h
  | x :: xs, y :: ys, h => by
    have h' : cond (f x y) (listSame f xs ys) false = true := h
    cases hb : f x y with
    | false => rw [hb] at h'; cases h'
    | true =>
      rw [hb] at h'
      rw [hf x y hb, listSame_eq hf h']

omit [Sym] in
theorem nbeq {a b : Nat} (h : Nat.beq a b = true) : a = b := Nat.eq_of_beq_eq_true h

omit [Sym] in
theorem bytes_eq {a b : ByteArray} (h : (a == b) = true) : a = b := by
  rw [beq_toListBytes] at h
  have h := beq_iff_eq.1 h
  rw [ByteArray.toList_eq, ByteArray.toList_eq] at h
  cases a; cases b
  congr
  exact Array.toList_inj.1 h

omit [Sym] in
theorem capSame_eq {c d : Cap} (h : capSame c d = true) : c = d := by
  unfold capSame at h
  split at h
  · rw [nbeq h]
  · simp only [Bool.and_eq_true] at h
    rw [nbeq h.1.1, nbeq h.1.2, nbeq h.2]
  · cases h

omit [Sym] in
theorem avSame_eq : ∀ (n : Nat) (x y : AV), avSame n x y = true → x = y := by
  intro n
  induction n with
  | zero => intro x y h; cases h
  | succ n ih =>
    intro x y h
    have h' : avStep (avSame n) x y = true := h
    clear h
    unfold avStep at h'
    split at h'
    · rw [beq_iff_eq.1 h']
    · simp only [Bool.and_eq_true] at h'
      rw [of_decide_eq_true h'.1, beq_iff_eq.1 h'.2]
    · simp only [Bool.and_eq_true] at h'
      rw [beq_iff_eq.1 h'.1, nbeq h'.2]
    · rfl
    · rw [bytes_eq h']
    · rfl
    · simp only [Bool.and_eq_true] at h'
      rw [nbeq h'.1, nbeq h'.2]
    · simp only [Bool.and_eq_true] at h'
      rw [nbeq h'.1, capSame_eq h'.2]
    · simp only [Bool.and_eq_true] at h'
      obtain ⟨⟨⟨h1, h2⟩, h3⟩, h4⟩ := h'
      rw [nbeq h1, nbeq h2, nbeq h3, capSame_eq h4]
    · rfl
    · rw [nbeq h']
    · rfl
    · rfl
    · simp only [Bool.and_eq_true] at h'
      rw [nbeq h'.1, ih _ _ h'.2]
    · rw [listSame_eq ih h']
    · rw [listSame_eq ih h']
    · simp only [Bool.and_eq_true] at h'
      rw [nbeq h'.1.1, listSame_eq ih h'.1.2, listSame_eq ih h'.2]
    · cases h'

theorem readsSame_get {f : St → Option AV} {v : AV} : ∀ {hs : List St} {n : Nat}, readsSame f v hs n = true → ∀ (k : Nat) (h : St), k < n → hs[k]? = some h → f h = some v
  | [], n, _, k, h, _, e => by simp at e
  | h0 :: hs, 0, _, k, h, hk, _ => by omega
  | h0 :: hs, n + 1, hr, k, h, hk, e => by
    have hr' : (Option.rec false (fun u => cond (avSame 4 v u) (readsSame f v hs n) false) (f h0) : Bool) = true := hr
    cases hf : f h0 with
    | none => rw [hf] at hr'; cases hr'
    | some u =>
      rw [hf] at hr'
      have hr2 : cond (avSame 4 v u) (readsSame f v hs n) false = true := hr'
      cases hs4 : avSame 4 v u with
      | false => rw [hs4] at hr2; cases hr2
      | true =>
        rw [hs4] at hr2
        cases k with
        | zero =>
          simp at e
          subst e
          rw [hf, ← avSame_eq 4 v u hs4]
        | succ k => exact readsSame_get hr2 k h (by omega) (by simpa using e)


omit [Sym] in
theorem lmapO_congr {α β : Type} {f g : α → Option β} : ∀ {l : List α}, (∀ x ∈ l, f x = g x) → lmapO f l = lmapO g l
  | [], _ => rfl
  | a :: l, h => by
    have e1 : lmapO f (a :: l) = ob (f a) fun b => ob (lmapO f l) fun r => some (b :: r) := rfl
    have e2 : lmapO g (a :: l) = ob (g a) fun b => ob (lmapO g l) fun r => some (b :: r) := rfl
    rw [e1, e2, h a (by simp), lmapO_congr fun x hx => h x (by simp [hx])]

omit [Sym] in
theorem evParts_congr {ev ev' : Ev} {l : List (Nat × Operand)} (h : ∀ x ∈ l.map (·.2), ev x = ev' x) : evParts ev l = evParts ev' l := by
  unfold evParts
  refine lmapO_congr fun p hp => ?_
  have : ev p.2 = ev' p.2 := h _ (List.mem_map.2 ⟨p, hp, rfl⟩)
  rw [this]

omit [Sym] in
theorem evO_congr {ev ev' : Ev} {x : Option Operand} (h : ∀ y ∈ x.toArray.toList, ev y = ev' y) (f : Option AV → Option AV) : evO ev x f = evO ev' x f := by
  cases x with
  | none => rfl
  | some y =>
    have : ev y = ev' y := h y (by simp)
    show ob (ev y) _ = ob (ev' y) _
    rw [this]

omit [Sym] in
theorem pickA_congr {ev ev' : Ev} {c x y : Operand} (hc : ev c = ev' c) (hx : ev x = ev' x) (hy : ev y = ev' y) : pickA ev c x y = pickA ev' c x y := by
  unfold pickA
  rw [hc, hx, hy]

omit [Sym] in
theorem builtinOf_congr {P : Program} {ev ev' : Ev} (o : Oper) (b : Builtin) (args : List Operand) (ts : List TypeId) (h : ∀ x ∈ args, ev x = ev' x) : builtinOf P ev o b args ts = builtinOf P ev' o b args ts := by
  have hl : lmapO ev args = lmapO ev' args := lmapO_congr h
  cases b <;> try rfl
  · -- append
    rcases args with _ | ⟨x, _ | ⟨y, _ | ⟨z, l⟩⟩⟩ <;> rcases ts with _ | ⟨t, _ | ⟨t2, _ | ⟨t3, tl⟩⟩⟩ <;> try rfl
    show K.eff (fun s => ob (ev x) fun a => ob (ev y) fun b => ob (appendAnyA P s t t2 a b) fun r => some (some r.1, r.2)) = K.eff fun s => ob (ev' x) fun a => ob (ev' y) fun b => ob (appendAnyA P s t t2 a b) fun r => some (some r.1, r.2)
    rw [h x (by simp), h y (by simp)]
  · -- cap
    rcases args with _ | ⟨x, _ | ⟨y, l⟩⟩ <;> rcases ts with _ | ⟨t, _ | ⟨t2, tl⟩⟩ <;> try rfl
    show K.val (ob (ev x) (capA P t)) = K.val (ob (ev' x) (capA P t))
    rw [h x (by simp)]
  · -- clear
    rcases args with _ | ⟨x, _ | ⟨y, l⟩⟩ <;> rcases ts with _ | ⟨t, _ | ⟨t2, tl⟩⟩ <;> try rfl
    show K.eff (fun s => ob (ev x) fun x => ob (clearA P s t x) fun s => some (some .undef, s)) = K.eff fun s => ob (ev' x) fun x => ob (clearA P s t x) fun s => some (some .undef, s)
    rw [h x (by simp)]
  · -- len
    rcases args with _ | ⟨x, _ | ⟨y, l⟩⟩ <;> rcases ts with _ | ⟨t, _ | ⟨t2, tl⟩⟩ <;> try rfl
    show K.read (fun s => ob (ev x) (lenA P s t)) = K.read fun s => ob (ev' x) (lenA P s t)
    rw [h x (by simp)]
  · show K.val (ob (lmapO ev args) _) = K.val (ob (lmapO ev' args) _)
    rw [hl]
  · show K.val (ob (lmapO ev args) _) = K.val (ob (lmapO ev' args) _)
    rw [hl]
  · -- unsafe.SliceData
    rcases args with _ | ⟨x, _ | ⟨y, l⟩⟩ <;> try rfl
    show K.val (ob (ev x) sliceDataA) = K.val (ob (ev' x) sliceDataA)
    rw [h x (by simp)]
  · -- unsafe.String
    rcases args with _ | ⟨x, _ | ⟨y, _ | ⟨z, l⟩⟩⟩ <;> rcases ts with _ | ⟨t, _ | ⟨t2, _ | ⟨t3, tl⟩⟩⟩ <;> try rfl
    show K.eff (fun s => ob (ev x) fun a => ob (ev y) fun b => ob (unsafeStrA P s t a b) fun r => some (some r.1, r.2)) = K.eff fun s => ob (ev' x) fun a => ob (ev' y) fun b => ob (unsafeStrA P s t a b) fun r => some (some r.1, r.2)
    rw [h x (by simp), h y (by simp)]

omit [Sym] in
theorem callOf_congr {ev ev' : Ev} (f : Operand) (args : List Operand) (hf : ev f = ev' f) (h : ∀ x ∈ args, ev x = ev' x) : callOf ev f args = callOf ev' f args := by
  unfold callOf
  rw [hf, lmapO_congr h]

omit [Sym] in
theorem kindOf_congr {P : Program} {ev ev' : Ev} {o : Oper} (h : ∀ x ∈ o.op.operands.toList, ev x = ev' x) : kindOf P ev o = kindOf P ev' o := by
  obtain ⟨dst, op, ty, pos, aft, gd⟩ := o
  have hb := fun b args ts => builtinOf_congr (P := P) (ev := ev) (ev' := ev') ⟨dst, op, ty, pos, aft, gd⟩ b args ts
  dsimp only at h
  unfold kindOf
  dsimp only
  split <;> dsimp only [Op.operands] at h
  · rw [h _ (by simp)]
  · rw [h _ (by simp)]
  · rw [pickA_congr (h _ (by simp)) (h _ (by simp)) (h _ (by simp))]
  · rfl
  · rw [h _ (by simp)]
  · rw [evParts_congr (by simpa using h)]
  · rw [evParts_congr (by simpa using h)]
  · rw [h _ (by simp)]
  · rename_i a v
    rw [h a (by simp), h v (by simp)]
  · rw [h _ (by simp)]
  · rename_i x y _
    rw [h x (by simp), h y (by simp)]
  · rw [h _ (by simp)]
  · rw [h _ (by simp)]
  · rw [h _ (by simp)]
  · rename_i fn f c
    rw [lmapO_congr (l := f.toList) fun x hx => h x (by simp at hx; simp [hx]), lmapO_congr (l := c.toList) fun x hx => h x (by simp at hx; simp [hx])]
  · rfl
  · rename_i t n c
    rw [h n (by simp), h c (by simp)]
  · rename_i t x l hh m
    have e1 : ev x = ev' x := h x (by simp)
    have e2 : ∀ f, evO ev l f = evO ev' l f := fun f => evO_congr (fun y hy => h y (by simp at hy; simp [hy])) f
    have e3 : ∀ f, evO ev hh f = evO ev' hh f := fun f => evO_congr (fun y hy => h y (by simp at hy; simp [hy])) f
    have e4 : ∀ f, evO ev m f = evO ev' m f := fun f => evO_congr (fun y hy => h y (by simp at hy; simp [hy])) f
    simp only [e1, e2, e3, e4]
  · rw [h _ (by simp)]
  · rw [h _ (by simp)]
  · rename_i x i
    rw [h x (by simp), h i (by simp)]
  · rename_i x i
    rw [h x (by simp), h i (by simp)]
  · rename_i x k _
    rw [h x (by simp), h k (by simp)]
  · rename_i m k v
    rw [h m (by simp), h k (by simp), h v (by simp)]
  · rename_i m k v
    rw [h m (by simp), h k (by simp), h v (by simp)]
  · rename_i m k
    rw [h m (by simp), h k (by simp)]
  · rename_i m k v
    rw [h m (by simp), h k (by simp), h v (by simp)]
  · rw [h _ (by simp)]
  · rw [h _ (by simp)]
  · rename_i c
    obtain ⟨callee, args, ts⟩ := c
    cases callee with
    | builtin b =>
      exact hb b args.toList ts.toList fun x hx => h x (by simp at hx; simp [Call.operands, hx])
    | value f =>
      exact callOf_congr f args.toList (h f (by simp [Call.operands])) fun x hx => h x (by simp at hx; simp [Call.operands, hx])
    | invoke r m => rfl
  · rfl

noncomputable def only (l : List Nat) (ev : Ev) : Ev := fun x =>
  match x with
  | .tmp t => cond (mem l t) (ev (.tmp t)) none
  | x => ev x

noncomputable def tmpsOf (l : List Operand) : List Nat := List.rec (motive := fun _ => List Nat) [] (fun x _ ih => match x with
    | .tmp t => t :: ih
    | _ => ih) l

omit [Sym] in
theorem mem_tmpsOf {t : Nat} : ∀ {l : List Operand}, Operand.tmp t ∈ l → t ∈ tmpsOf l
  | [], h => by simp at h
  | x :: l, h => by
    rcases List.mem_cons.1 h with e | h
    · subst e
      have : tmpsOf (Operand.tmp t :: l) = t :: tmpsOf l := rfl
      rw [this]; simp
    · have ih := mem_tmpsOf h
      cases x with
      | tmp u =>
        have : tmpsOf (Operand.tmp u :: l) = u :: tmpsOf l := rfl
        rw [this]; simp [ih]
      | _ => exact ih

omit [Sym] in
theorem only_eq {ops : List Oper} {o : Oper} {ev : Ev} : ∀ x ∈ o.op.operands.toList, only (looksOf ops o) ev x = ev x := by
  intro x hx
  cases x with
  | tmp t =>
    have : mem (looksOf ops o) t = true := by
      rw [mem_iff]
      have e : looksOf ops o = lapp (tmpsOf o.op.operands.toList) (match o.guard with
     | some (g, _) => match (opAt ops g).dst with
       | some d => [d]
       | none => []
     | none => []) := rfl
      rw [e, lapp_eq]
      exact List.mem_append.2 (.inl (mem_tmpsOf hx))
    show cond (mem (looksOf ops o) t) _ none = _
    rw [this]; rfl
  | _ => rfl

theorem kindOf_only {P : Program} {ops : List Oper} {o : Oper} {ev : Ev} : kindOf P (only (looksOf ops o) ev) o = kindOf P ev o := kindOf_congr only_eq

theorem doV_only {P : Program} {callK : CallK} {ops : List Oper} {o : Oper} {ev : Ev} {s : St} : doV P callK (only (looksOf ops o) ev) o s = doV P callK ev o s := by
  unfold doV; rw [kindOf_only]

omit [Sym] in
theorem looks_guard {ops : List Oper} {o : Oper} {g : Nat} {b : Bool} {og : Oper} {d : Nat} (hg : o.guard = some (g, b)) (ho : ops[g]? = some og) (hd : og.dst = some d) : d ∈ looksOf ops o := by
  have e : looksOf ops o = lapp (tmpsOf o.op.operands.toList) (match o.guard with
     | some (g, _) => match (opAt ops g).dst with
       | some d => [d]
       | none => []
     | none => []) := rfl
  have e2 : opAt ops g = og := by unfold opAt; rw [nth_eq, ho]
  rw [e, lapp_eq, hg]
  simp only [e2, hd]
  exact List.mem_append.2 (.inr (by simp))

end Go.Proofs.Bx

namespace Go.Proofs.Bx
open Go
variable [Sym]

structure TE where
  i : Nat
  c : Nat
  eff : Bool
  v : AV
  blk : Option Blk
  F : Fr
  cur : St
  hs : List St
  es : List Nat
  F' : Fr
  cur' : St
  hs' : List St
  es' : List Nat

section
variable (P : Program) (callK : CallK) (ops : Array Oper) (base : Nat)

def TE.quiet (t : TE) : Prop :=
  (wantA ops t.F (opAt ops.toList t.i).guard = some false ∧ t.v = .skip ∧ t.cur' = t.cur ∧ t.blk = none) ∨
  (wantA ops t.F (opAt ops.toList t.i).guard = some true ∧ kindOf P t.F.ev (opAt ops.toList t.i) = .val (some t.v) ∧ t.cur' = t.cur ∧ t.blk = none) ∨
  (wantA ops t.F (opAt ops.toList t.i).guard = some true ∧ (∃ f, kindOf P t.F.ev (opAt ops.toList t.i) = .read f ∧ ∀ k h, k < t.c + 1 → t.hs[k]? = some h → f h = some t.v) ∧ t.cur' = t.cur ∧ t.blk = none) ∨
  (wantA ops t.F (opAt ops.toList t.i).guard = some true ∧ ∃ n, kindOf P t.F.ev (opAt ops.toList t.i) = .make (some n) ∧ t.v = n.res (base + t.i) ∧ t.cur' = t.cur.put (base + t.i) n.blk ∧ t.blk = some n.blk)

def TE.effect (t : TE) : Prop :=
  (wantA ops t.F (opAt ops.toList t.i).guard = some false ∧ t.v = .skip ∧ t.cur' = t.cur) ∨
  (wantA ops t.F (opAt ops.toList t.i).guard = some true ∧ doV P callK t.F.ev (opAt ops.toList t.i) t.cur = some (t.v, t.cur'))

structure TE.ok (t : TE) : Prop where
  put : t.F' = t.F.putO (opAt ops.toList t.i).dst t.v
  quiet : t.eff = false → t.hs' = t.hs ∧ t.es' = t.es ∧ t.quiet P ops base
  effect : t.eff = true → t.hs' = t.cur' :: t.hs ∧ t.es' = t.i :: t.es ∧ t.blk = none ∧ t.effect P callK ops

inductive Chain : List TE → Fr → St → List St → List Nat → Fr → St → List St → List Nat → Prop where
  | nil (F : Fr) (s : St) (hs : List St) (es : List Nat) : Chain [] F s hs es F s hs es
  | cons {t : TE} {l : List TE} {F : Fr} {s : St} {hs : List St} {es : List Nat} (h : t.ok P callK ops base) (c : Chain l t.F' t.cur' t.hs' t.es' F s hs es) : Chain (t :: l) t.F t.cur t.hs t.es F s hs es
end

variable {P : Program} {callK : CallK} {ops : Array Oper} {base : Nat}

omit [Sym] in
theorem Chain.append {l m : List TE} {F F1 F2 : Fr} {s s1 s2 : St} {hs hs1 hs2 : List St} {es es1 es2 : List Nat} (h : Chain P callK ops base l F s hs es F1 s1 hs1 es1) (k : Chain P callK ops base m F1 s1 hs1 es1 F2 s2 hs2 es2) :
    Chain P callK ops base (l ++ m) F s hs es F2 s2 hs2 es2 := by
  induction h with
  | nil => exact k
  | cons h _ ih => exact .cons h (ih k)

omit [Sym] in
theorem Chain.split {pre post : List TE} {t : TE} {F F2 : Fr} {s s2 : St} {hs hs2 : List St} {es es2 : List Nat} (h : Chain P callK ops base (pre ++ t :: post) F s hs es F2 s2 hs2 es2) :
    Chain P callK ops base pre F s hs es t.F t.cur t.hs t.es ∧ t.ok P callK ops base ∧ Chain P callK ops base post t.F' t.cur' t.hs' t.es' F2 s2 hs2 es2 := by
  induction pre generalizing F s hs es with
  | nil =>
    cases h with
    | cons h c => exact ⟨.nil _ _ _ _, h, c⟩
  | cons u pre ih =>
    cases h with
    | cons h c =>
      obtain ⟨h1, h2, h3⟩ := ih c
      exact ⟨.cons h h1, h2, h3⟩

def Fr.wf (F : Fr) : Prop := ∀ x u, F.get x = some u → x < F.size

omit [Sym] in
theorem put_big {F : Fr} {d : Nat} (h : ¬ d < F.size) (v : AV) : F.put d v = F := by
  have hb : Nat.blt d F.size = false := by
    cases hc : Nat.blt d F.size with
    | false => rfl
    | true => rw [Nat.blt_eq] at hc; exact absurd hc h
  rw [Fr.put_eq, hb]; rfl

omit [Sym] in
theorem putO_size (F : Fr) (d : Option Nat) (v : AV) : (F.putO d v).size = F.size := by
  cases d with
  | none => rfl
  | some d => exact Fr.put_size _ _ _

omit [Sym] in
theorem Fr.wf.putO {F : Fr} (h : F.wf) (d : Option Nat) (v : AV) : (F.putO d v).wf := by
  intro x u e
  rw [putO_size]
  cases d with
  | none => exact h x u e
  | some d =>
    by_cases hlt : d < F.size
    · rcases Fr.get_put hlt (show (F.put d v).get x = some u from e) with ⟨rfl, _⟩ | ⟨_, h3⟩
      · exact hlt
      · exact h x u h3
    · have e' : (F.put d v).get x = some u := e
      rw [put_big hlt] at e'
      exact h x u e'

omit [Sym] in
theorem Chain.frame {l : List TE} {F F2 : Fr} {s s2 : St} {hs hs2 : List St} {es es2 : List Nat} (h : Chain P callK ops base l F s hs es F2 s2 hs2 es2) (hw : F.wf) :
    F2.size = F.size ∧ F2.wf ∧ ∀ x u, F2.get x = some u → (∃ q ∈ l, (opAt ops.toList q.i).dst = some x ∧ u = q.v ∧ x < F.size) ∨ ((∀ q ∈ l, (opAt ops.toList q.i).dst ≠ some x) ∧ F.get x = some u) := by
  induction h with
  | nil => exact ⟨rfl, hw, fun x u e => .inr ⟨by simp, e⟩⟩
  | cons h c ih =>
    rename_i t l F s hs es
    have hw1 : t.F'.wf := by rw [h.put]; exact hw.putO _ _
    obtain ⟨hsz, hwf, ih⟩ := ih hw1
    have hsz1 : t.F'.size = t.F.size := by rw [h.put]; exact putO_size _ _ _
    refine ⟨hsz.trans hsz1, hwf, fun x u e => ?_⟩
    rcases ih x u e with ⟨q, h1, h2, h3, h4⟩ | ⟨h1, h2⟩
    · exact .inl ⟨q, by simp [h1], h2, h3, by omega⟩
    · rw [h.put] at h2
      cases hd : (opAt ops.toList t.i).dst with
      | none =>
        rw [hd] at h2
        refine .inr ⟨fun q hq => ?_, h2⟩
        rcases List.mem_cons.1 hq with rfl | hq
        · rw [hd]; simp
        · exact h1 q hq
      | some d =>
        rw [hd] at h2
        have h2' : (t.F.put d t.v).get x = some u := h2
        by_cases hlt : d < t.F.size
        · rcases Fr.get_put hlt h2' with ⟨rfl, rfl⟩ | ⟨hne, h3⟩
          · exact .inl ⟨t, by simp, hd, rfl, hlt⟩
          · refine .inr ⟨fun q hq => ?_, h3⟩
            rcases List.mem_cons.1 hq with rfl | hq
            · rw [hd]; simp; exact fun e => hne e.symm
            · exact h1 q hq
        · rw [put_big hlt] at h2'
          have hx : x ≠ d := by
            intro e; subst e
            exact hlt (hw _ _ h2')
          refine .inr ⟨fun q hq => ?_, h2'⟩
          rcases List.mem_cons.1 hq with rfl | hq
          · rw [hd]; simp; exact fun e => hx e.symm
          · exact h1 q hq

omit [Sym] in
theorem Chain.suffix {l : List TE} {F F2 : Fr} {s s2 : St} {hs hs2 : List St} {es es2 : List Nat} (h : Chain P callK ops base l F s hs es F2 s2 hs2 es2) : hs <:+ hs2 ∧ es <:+ es2 := by
  induction h with
  | nil => exact ⟨List.suffix_refl _, List.suffix_refl _⟩
  | cons h c ih =>
    rename_i t l F s hs es
    cases he : t.eff with
    | false =>
      obtain ⟨h1, h2, _⟩ := h.quiet he
      rw [h1, h2] at ih
      exact ih
    | true =>
      obtain ⟨h1, h2, _⟩ := h.effect he
      rw [h1, h2] at ih
      exact ⟨(List.suffix_cons _ _).trans ih.1, (List.suffix_cons _ _).trans ih.2⟩

omit [Sym] in
theorem Chain.length {l : List TE} {F F2 : Fr} {s s2 : St} {hs hs2 : List St} {es es2 : List Nat} (h : Chain P callK ops base l F s hs es F2 s2 hs2 es2) : hs2.length + es.length = hs.length + es2.length := by
  induction h with
  | nil => rfl
  | cons h c ih =>
    rename_i t l F s hs es
    cases he : t.eff with
    | false =>
      obtain ⟨h1, h2, _⟩ := h.quiet he
      rw [h1, h2] at ih; exact ih
    | true =>
      obtain ⟨h1, h2, _⟩ := h.effect he
      rw [h1, h2] at ih
      simp at ih; omega

omit [Sym] in
theorem Chain.memory {l : List TE} {F F2 : Fr} {s s2 : St} {hs hs2 : List St} {es es2 : List Nat} (h : Chain P callK ops base l F s hs es F2 s2 hs2 es2) (hne : hs ≠ []) :
    (∀ id b, s2.get id = some b → (∃ q ∈ l, q.eff = false ∧ q.blk = some b ∧ id = base + q.i ∧ q.es.length = es2.length) ∨ (es2.length = es.length ∧ s.get id = some b) ∨ ∃ h r, hs2 = h :: r ∧ h.get id = some b) ∧
    ((es2.length = es.length ∧ s2.next = s.next) ∨ ∃ h r, hs2 = h :: r ∧ s2.next = h.next) := by
  induction h with
  | nil => exact ⟨fun id b e => .inr (.inl ⟨rfl, e⟩), .inl ⟨rfl, rfl⟩⟩
  | cons h c ih =>
    rename_i t l F s hs es
    cases he : t.eff with
    | false =>
      obtain ⟨h1, h2, hq⟩ := h.quiet he
      rw [h1, h2] at ih
      obtain ⟨ih1, ih2⟩ := ih hne
      have cur : ∀ id b, t.cur'.get id = some b → (t.blk = some b ∧ id = base + t.i) ∨ t.cur.get id = some b := by
        intro id b e
        rcases hq with ⟨_, _, hc, _⟩ | ⟨_, _, hc, _⟩ | ⟨_, _, hc, _⟩ | ⟨_, n, _, _, hc, hb⟩
        · rw [hc] at e; exact .inr e
        · rw [hc] at e; exact .inr e
        · rw [hc] at e; exact .inr e
        · rw [hc] at e
          rcases Tr.get_set (show (t.cur.heap.set n.blk (base + t.i)).get id = some b from e) with ⟨e1, e2⟩ | ⟨_, e2⟩
          · subst e2; exact .inl ⟨hb, e1⟩
          · exact .inr e2
      have nxt : t.cur'.next = t.cur.next := by
        rcases hq with ⟨_, _, hc, _⟩ | ⟨_, _, hc, _⟩ | ⟨_, _, hc, _⟩ | ⟨_, n, _, _, hc, hb⟩ <;> rw [hc]
        rfl
      refine ⟨fun id b e => ?_, ?_⟩
      · rcases ih1 id b e with ⟨q, q1, q2⟩ | ⟨g1, g2⟩ | g
        · exact .inl ⟨q, by simp [q1], q2⟩
        · rcases cur id b g2 with ⟨g3, g4⟩ | g3
          · exact .inl ⟨t, by simp, he, g3, g4, g1.symm⟩
          · exact .inr (.inl ⟨g1, g3⟩)
        · exact .inr (.inr g)
      · rcases ih2 with ⟨g1, g2⟩ | g
        · exact .inl ⟨g1, g2.trans nxt⟩
        · exact .inr g
    | true =>
      obtain ⟨h1, h2, _⟩ := h.effect he
      have hsuf := c.suffix
      have hlen := c.length
      rw [h1, h2] at ih hsuf hlen
      obtain ⟨ih1, ih2⟩ := ih (by simp)
      obtain ⟨⟨x, hx⟩, ⟨y, hy⟩⟩ := hsuf
      have last : es.length = t.es.length + 1 → ∃ h r, hs = h :: r ∧ h = t.cur' := by
        intro e
        have hxl : x = [] := by
          apply List.eq_nil_of_length_eq_zero
          have e1 := congrArg List.length hx
          simp at e1 hlen
          omega
        subst hxl
        exact ⟨t.cur', t.hs, hx.symm, rfl⟩
      refine ⟨fun id b e => ?_, ?_⟩
      · rcases ih1 id b e with ⟨q, q1, q2⟩ | ⟨g1, g2⟩ | g
        · exact .inl ⟨q, by simp [q1], q2⟩
        · obtain ⟨h', r, e1, e2⟩ := last (by simpa using g1)
          exact .inr (.inr ⟨h', r, e1, by rw [e2]; exact g2⟩)
        · exact .inr (.inr g)
      · rcases ih2 with ⟨g1, g2⟩ | g
        · obtain ⟨h', r, e1, e2⟩ := last (by simpa using g1)
          exact .inr ⟨h', r, e1, by rw [e2]; exact g2⟩
        · exact .inr g


theorem quietsA_chain {hs : List St} : ∀ {l : List (Nat × Nat)} {F F' : Fr} {s s' : St} {es : List Nat}, quietsA P ops base hs l F s = some (F', s') →
    ∃ tes, Chain P callK ops base tes F s hs es F' s' hs es ∧ tes.map (fun t => (t.i, t.c)) = l ∧ ∀ t ∈ tes, t.eff = false ∧ t.es = es ∧ t.es' = es
  | [], F, F', s, s', es, h => by
    cases h
    exact ⟨[], .nil _ _ _ _, rfl, by simp⟩
  | x :: l, F, F', s, s', es, h => by
    replace h := ob_some (show ob (quietA P ops base hs x F s) _ = _ from h); obtain ⟨⟨F1, s1⟩, h1, h⟩ := h
    obtain ⟨tes, c, hm, hall⟩ := quietsA_chain (es := es) h
    obtain ⟨i, ci⟩ := x
    have step : ∃ v blk, TE.ok P callK ops base ⟨i, ci, false, v, blk, F, s, hs, es, F1, s1, hs, es⟩ := by
      replace h1 := ob_some (show ob (wantA ops F (opAt ops.toList i).guard) _ = _ from h1); obtain ⟨b, hb, h1⟩ := h1
      cases b with
      | false =>
        cases h1
        exact ⟨.skip, none, rfl, fun _ => ⟨rfl, rfl, .inl ⟨hb, rfl, rfl, rfl⟩⟩, fun e => by cases e⟩
      | true =>
        have h2 : (match kindOf P F.ev (opAt ops.toList i) with
     | .val (some v) => some (F.putO (opAt ops.toList i).dst v, s)
     | .read f => ob (readQ f hs ci) fun v => some (F.putO (opAt ops.toList i).dst v, s)
     | .make (some n) => some (F.putO (opAt ops.toList i).dst (n.res (Nat.add base i)), s.put (Nat.add base i) n.blk)
     | _ => none) = some (F1, s1) := h1
        split at h2
        · rename_i v hk
          cases h2
          exact ⟨v, none, rfl, fun _ => ⟨rfl, rfl, .inr (.inl ⟨hb, hk, rfl, rfl⟩)⟩, fun e => by cases e⟩
        · rename_i f hk
          replace h2 := ob_some h2; obtain ⟨v, hv, h2⟩ := h2
          cases h2
          have hread : ∀ k h, k < ci + 1 → hs[k]? = some h → f h = some v := by
            unfold readQ at hv
            split at hv
            · cases hv
            · replace hv := ob_some hv; obtain ⟨u, hu, hv⟩ := hv
              replace hv := cond_some hv; obtain ⟨hsame, hv⟩ := hv
              cases hv
              exact fun k h hk he => readsSame_get hsame k h hk he
          exact ⟨v, none, rfl, fun _ => ⟨rfl, rfl, .inr (.inr (.inl ⟨hb, ⟨f, hk, hread⟩, rfl, rfl⟩))⟩, fun e => by cases e⟩
        · rename_i n hk
          cases h2
          exact ⟨_, some n.blk, rfl, fun _ => ⟨rfl, rfl, .inr (.inr (.inr ⟨hb, n, hk, rfl, rfl, rfl⟩))⟩, fun e => by cases e⟩
        · cases h2
    obtain ⟨v, blk, hok⟩ := step
    refine ⟨⟨i, ci, false, v, blk, F, s, hs, es, F1, s1, hs, es⟩ :: tes, .cons hok c, by simp [hm], fun t ht => ?_⟩
    rcases List.mem_cons.1 ht with rfl | ht
    · exact ⟨rfl, rfl, rfl⟩
    · exact hall t ht

omit [Sym] in
theorem oneA_effect {F F' : Fr} {s s' : St} {hs : List St} {es : List Nat} {e : Nat} (h : oneA P callK ops (opAt ops.toList e) F s = some (F', s')) :
    ∃ v, TE.ok P callK ops base ⟨e, 0, true, v, none, F, s, hs, es, F', s', s' :: hs, e :: es⟩ := by
  replace h := ob_some h; obtain ⟨b, hb, h⟩ := h
  cases b with
  | false =>
    cases h
    exact ⟨.skip, rfl, fun e => (by cases e), fun _ => ⟨rfl, rfl, rfl, .inl ⟨hb, rfl, rfl⟩⟩⟩
  | true =>
    replace h := ob_some (show ob (doV P callK F.ev (opAt ops.toList e) s) _ = _ from h); obtain ⟨⟨v, s2⟩, hv, h⟩ := h
    cases h
    exact ⟨v, rfl, fun e => (by cases e), fun _ => ⟨rfl, rfl, rfl, .inr ⟨hb, hv⟩⟩⟩

structure StepsOk (B : List Nat) (X : Option (Nat × Nat)) (es : List Nat) (tes : List TE) : Prop where
  floats : ∀ t ∈ tes, t.eff = false → t.c ≤ t.es.length ∧ ∀ e, t.es[t.c]? = some e → prec B e t.i = true
  chain : ∀ t ∈ tes, t.eff = true → ∀ e r, t.es = e :: r → prec B e t.i = true ∨ X = some (t.i, e)
  ahead : ∀ t ∈ tes, ∀ u ∈ tes, t.eff = false → u.eff = true → t.es.length = u.es.length → prec B t.i u.i = true
  level : ∀ t ∈ tes, es.length ≤ t.es.length

omit [Sym] in
theorem lmap_eq {α β : Type} (f : α → β) : ∀ l : List α, lmap f l = l.map f
  | [] => rfl
  | a :: l => by
    have : lmap f (a :: l) = f a :: lmap f l := rfl
    rw [this, lmap_eq f l]; rfl

theorem segsA_chain {B : List Nat} {X : Option (Nat × Nat)} : ∀ {p : List Seg} {hs : List St} {F F' : Fr} {s s' : St} {es : List Nat}, segsA P callK ops base p hs F s = some (F', s') → segsOk ops.toList B X p es = true → lastOk p = true →
    ∃ tes hs' es', Chain P callK ops base tes F s hs es F' s' hs' es' ∧ tes.map (·.i) = ordOf p ∧ StepsOk B X es tes
  | [], hs, F, F', s, s', es, _, _, hl => by cases hl
  | g :: p, hs, F, F', s, s', es, h, hok, hl => by
    replace h := ob_some (show ob (quietsA P ops base hs g.ahead F s) _ = _ from h); obtain ⟨⟨F1, s1⟩, h1, h⟩ := h
    obtain ⟨tes, c, hm, hall⟩ := quietsA_chain (callK := callK) (es := es) h1
    have hok' : cond (lall (fun x => !isEff (opAt ops.toList x.1) && (match nth es x.2 with
        | some e => prec B e x.1
        | none => true) && Nat.ble x.2 (llen es)) g.ahead)
      (match g.eff with
       | some e => cond (lall (fun x => prec B x.1 e) g.ahead) (cond (isEff (opAt ops.toList e)) (cond (headOk B e es || excused X e es) (segsOk ops.toList B X p (e :: es)) false) false) false
       | none => segsOk ops.toList B X p es) false = true := hok
    have c0 : lall (fun x => !isEff (opAt ops.toList x.1) && (match nth es x.2 with
        | some e => prec B e x.1
        | none => true) && Nat.ble x.2 (llen es)) g.ahead = true := by
      cases hc : lall (fun x => !isEff (opAt ops.toList x.1) && (match nth es x.2 with
        | some e => prec B e x.1
        | none => true) && Nat.ble x.2 (llen es)) g.ahead with
      | true => rfl
      | false => rw [hc] at hok'; cases hok'
    rw [c0] at hok'
    have hok2 : (match g.eff with
       | some e => cond (lall (fun x => prec B x.1 e) g.ahead) (cond (isEff (opAt ops.toList e)) (cond (headOk B e es || excused X e es) (segsOk ops.toList B X p (e :: es)) false) false) false
       | none => segsOk ops.toList B X p es) = true := hok'
    have qs : ∀ t ∈ tes, t.c ≤ t.es.length ∧ ∀ e, t.es[t.c]? = some e → prec B e t.i = true := by
      intro t ht
      have hin : (t.i, t.c) ∈ g.ahead := by rw [← hm]; exact List.mem_map.2 ⟨t, ht, rfl⟩
      have := lall_iff.1 c0 _ hin
      simp only [Bool.and_eq_true] at this
      obtain ⟨⟨_, h2⟩, h3⟩ := this
      rw [(hall t ht).2.1]
      refine ⟨by have := Nat.le_of_ble_eq_true h3; rwa [llen_eq] at this, fun e he => ?_⟩
      rw [nth_eq, he] at h2
      exact h2
    have hord : ∀ l, ordOf (g :: p) = l → l = tes.map (·.i) ++ (match g.eff with
        | some e => e :: ordOf p
        | none => ordOf p) := by
      intro l hl
      have e1 : ordOf (g :: p) = lapp (lmap (fun x => x.1) g.ahead) (match g.eff with
    | some e => e :: ordOf p
    | none => ordOf p) := rfl
      rw [← hl, e1, lapp_eq, lmap_eq, ← hm, List.map_map]
      rfl
    cases he : g.eff with
    | none =>
      -- the last part
      rw [he] at hok2
      have hl' : (match g.eff with
        | some _ => lastOk p
        | none => match p with
          | [] => true
          | _ :: _ => false) = true := hl
      rw [he] at hl'
      cases p with
      | cons g' p' => cases hl'
      | nil =>
        have h2 : (match g.eff with
      | some e => ob (oneA P callK ops (opAt ops.toList e) F1 s1) fun q => segsA P callK ops base [] (q.2 :: hs) q.1 q.2
      | none => segsA P callK ops base [] hs F1 s1) = some (F', s') := h
        rw [he] at h2
        have h3 : some (F1, s1) = some (F', s') := h2
        cases h3
        refine ⟨tes, hs, es, c, ?_, ?_⟩
        · have := hord _ rfl
          rw [he] at this
          rw [this]
          show _ = tes.map (·.i) ++ ordOf []
          have e0 : ordOf [] = [] := rfl
          rw [e0]; simp
        · refine ⟨fun t ht _ => qs t ht, fun t ht he => ?_, fun t ht u hu _ he => ?_, fun t ht => ?_⟩
          · rw [(hall t ht).1] at he; cases he
          · rw [(hall u hu).1] at he; cases he
          · rw [(hall t ht).2.1]; exact Nat.le_refl _
    | some e =>
      rw [he] at hok2
      have h2 : (match g.eff with
      | some e => ob (oneA P callK ops (opAt ops.toList e) F1 s1) fun q => segsA P callK ops base p (q.2 :: hs) q.1 q.2
      | none => segsA P callK ops base p hs F1 s1) = some (F', s') := h
      rw [he] at h2
      replace h2 := ob_some (show ob (oneA P callK ops (opAt ops.toList e) F1 s1) _ = _ from h2); obtain ⟨⟨F2, s2⟩, h3, h4⟩ := h2
      have hok3 : cond (lall (fun x => prec B x.1 e) g.ahead) (cond (isEff (opAt ops.toList e)) (cond (headOk B e es || excused X e es) (segsOk ops.toList B X p (e :: es)) false) false) false = true := hok2
      have d1 : lall (fun x => prec B x.1 e) g.ahead = true := by
        cases hc : lall (fun x => prec B x.1 e) g.ahead with
        | true => rfl
        | false => rw [hc] at hok3; cases hok3
      rw [d1] at hok3
      have hok4 : cond (isEff (opAt ops.toList e)) (cond (headOk B e es || excused X e es) (segsOk ops.toList B X p (e :: es)) false) false = true := hok3
      have d2 : isEff (opAt ops.toList e) = true := by
        cases hc : isEff (opAt ops.toList e) with
        | true => rfl
        | false => rw [hc] at hok4; cases hok4
      rw [d2] at hok4
      have hok5 : cond (headOk B e es || excused X e es) (segsOk ops.toList B X p (e :: es)) false = true := hok4
      have d3 : (headOk B e es || excused X e es) = true := by
        cases hc : (headOk B e es || excused X e es) with
        | true => rfl
        | false => rw [hc] at hok5; cases hok5
      rw [d3] at hok5
      have hl2 : lastOk p = true := by
        have hl' : (match g.eff with
        | some _ => lastOk p
        | none => match p with
          | [] => true
          | _ :: _ => false) = true := hl
        rw [he] at hl'
        exact hl'
      obtain ⟨tes2, hs', es', c2, hm2, hst⟩ := segsA_chain (es := e :: es) h4 hok5 hl2
      obtain ⟨v, hoke⟩ := oneA_effect (base := base) (hs := hs) (es := es) h3
      refine ⟨tes ++ ⟨e, 0, true, v, none, F1, s1, hs, es, F2, s2, s2 :: hs, e :: es⟩ :: tes2, hs', es', c.append (.cons hoke c2), ?_, ?_⟩
      · have := hord _ rfl
        rw [he] at this
        rw [this]
        simp [hm2]
      · have lev2 : ∀ t ∈ tes2, es.length + 1 ≤ t.es.length := fun t ht => by simpa using hst.level t ht
        refine ⟨fun t ht hf => ?_, fun t ht hf e' r he' => ?_, fun t ht u hu hf hu' hlen => ?_, fun t ht => ?_⟩
        · rcases List.mem_append.1 ht with ht | ht
          · exact qs t ht
          · rcases List.mem_cons.1 ht with rfl | ht
            · cases hf
            · exact hst.floats t ht hf
        · rcases List.mem_append.1 ht with ht | ht
          · rw [(hall t ht).1] at hf; cases hf
          · rcases List.mem_cons.1 ht with rfl | ht
            · dsimp only at he'
              rw [he'] at d3
              rw [Bool.or_eq_true] at d3
              rcases d3 with d3 | d3
              · exact .inl d3
              · refine .inr ?_
                cases X with
                | none => cases d3
                | some q =>
                  obtain ⟨x, y⟩ := q
                  have d3 : (Nat.beq e x && Nat.beq e' y) = true := d3
                  rw [Bool.and_eq_true] at d3
                  rw [Nat.eq_of_beq_eq_true d3.1, Nat.eq_of_beq_eq_true d3.2]
            · exact hst.chain t ht hf e' r he'
        · rcases List.mem_append.1 ht with ht | ht
          · rcases List.mem_append.1 hu with hu | hu
            · rw [(hall u hu).1] at hu'; cases hu'
            · rcases List.mem_cons.1 hu with rfl | hu
              · have hin : (t.i, t.c) ∈ g.ahead := by rw [← hm]; exact List.mem_map.2 ⟨t, ht, rfl⟩
                exact lall_iff.1 d1 _ hin
              · have := lev2 u hu
                rw [(hall t ht).2.1] at hlen; omega
          · rcases List.mem_cons.1 ht with rfl | ht
            · cases hf
            · rcases List.mem_append.1 hu with hu | hu
              · rw [(hall u hu).1] at hu'; cases hu'
              · rcases List.mem_cons.1 hu with rfl | hu
                · have := lev2 t ht
                  dsimp only at hlen; omega
                · exact hst.ahead t ht u hu hf hu' hlen
        · rcases List.mem_append.1 ht with ht | ht
          · rw [(hall t ht).2.1]; exact Nat.le_refl _
          · rcases List.mem_cons.1 ht with rfl | ht
            · exact Nat.le_refl _
            · have := lev2 t ht; omega

end Go.Proofs.Bx

namespace Go.Proofs.Bx
open Go
variable [Sym]

variable {D : List Deferred} {P : Program} {callK : CallK} {ops : Array Oper} {base : Nat}


omit [Sym] in
theorem linear_spec {L : List Oper} : ∀ {l done : List Nat}, linear L l done = true →
    l.Nodup ∧ (∀ i ∈ l, i ∉ done) ∧ ∀ pre i post, l = pre ++ i :: post → ∀ d ∈ depsOf (opAt L i), d ∈ done ∨ d ∈ pre
  | [], done, _ => ⟨List.nodup_nil, by simp, fun pre i post e => by simp at e⟩
  | x :: l, done, h => by
    have h' : cond (lall (fun d => mem done d) (depsOf (opAt L x))) (cond (mem done x) false (linear L l (x :: done))) false = true := h
    have c1 : lall (fun d => mem done d) (depsOf (opAt L x)) = true := by
      cases hc : lall (fun d => mem done d) (depsOf (opAt L x)) with
      | true => rfl
      | false => rw [hc] at h'; cases h'
    rw [c1] at h'
    have h2 : cond (mem done x) false (linear L l (x :: done)) = true := h'
    have c2 : mem done x = false := by
      cases hc : mem done x with
      | false => rfl
      | true => rw [hc] at h2; cases h2
    rw [c2] at h2
    have hx : x ∉ done := fun e => by rw [mem_iff.2 e] at c2; cases c2
    obtain ⟨i1, i2, i3⟩ := linear_spec (show linear L l (x :: done) = true from h2)
    refine ⟨List.nodup_cons.2 ⟨fun e => i2 x e (by simp), i1⟩, fun i hi => ?_, fun pre i post e d hd => ?_⟩
    · rcases List.mem_cons.1 hi with rfl | hi
      · exact hx
      · exact fun e => i2 i hi (by simp [e])
    · cases pre with
      | nil =>
        simp at e
        obtain ⟨rfl, rfl⟩ := e
        exact .inl (mem_iff.1 (lall_iff.1 c1 d hd))
      | cons y pre =>
        simp at e
        obtain ⟨rfl, rfl⟩ := e
        rcases i3 pre i post rfl d hd with h | h
        · rcases List.mem_cons.1 h with rfl | h
          · exact .inr (by simp)
          · exact .inl h
        · exact .inr (by simp [h])

omit [Sym] in
theorem opAt_eq {L : List Oper} {i : Nat} {o : Oper} (h : L[i]? = some o) : opAt L i = o := by unfold opAt; rw [nth_eq, h]

omit [Sym] in
theorem before_of_prec {L : List Oper} {l : List Nat} (h : linear L l [] = true) {j i : Nat} (hp : Prec L j i) : ∀ pre post, l = pre ++ i :: post → j ∈ pre := by
  obtain ⟨_, _, hd⟩ := linear_spec h
  induction hp with
  | one ho hj =>
    intro pre post e
    have := hd pre _ post e _ (by rw [opAt_eq ho]; exact hj)
    simpa using this
  | @more k i o ho hk _ ih =>
    intro pre post e
    have hkp := hd pre _ post e _ (by rw [opAt_eq ho]; exact hk)
    simp at hkp
    obtain ⟨a, b, hab⟩ := List.append_of_mem hkp
    have := ih a (b ++ i :: post) (by rw [e, hab]; simp)
    rw [hab]; simp [this]

omit [Sym] in
theorem slots_spec {L : List Oper} {B : List Nat} {n : Nat} (h : slotsOk L B n = true) {i j : Nat} (hi : i < n) (hj : j < n) (hne : i ≠ j) :
    (∀ d, (opAt L i).dst = some d → (opAt L j).dst ≠ some d) ∧ ∀ t, t ∈ looksOf L (opAt L i) → (opAt L j).dst = some t → prec B i j = true ∨ prec B j i = true := by
  have h1 := lall_iff.1 h i (by rw [upto_eq]; simpa using hi)
  have h2 := lall_iff.1 h1 j (by rw [upto_eq]; simpa using hj)
  rw [beq_no hne] at h2
  have h3 : cond (match (opAt L i).dst with
        | some d => dstIs (opAt L j) d
        | none => false) false
      (lall (fun t => cond (dstIs (opAt L j) t) (prec B i j || prec B j i) true) (looksOf L (opAt L i))) = true := h2
  refine ⟨fun d hd he => ?_, fun t ht he => ?_⟩
  · rw [hd] at h3
    have : dstIs (opAt L j) d = true := by unfold dstIs; rw [he]; exact beq_yes rfl
    dsimp only at h3
    rw [this] at h3
    cases h3
  · have h4 : lall (fun t => cond (dstIs (opAt L j) t) (prec B i j || prec B j i) true) (looksOf L (opAt L i)) = true := by
      cases hc : (match (opAt L i).dst with
        | some d => dstIs (opAt L j) d
        | none => false) with
      | true => rw [hc] at h3; cases h3
      | false => rw [hc] at h3; exact h3
    have h5 := lall_iff.1 h4 t ht
    have : dstIs (opAt L j) t = true := by unfold dstIs; rw [he]; exact beq_yes rfl
    rw [this] at h5
    have h6 : (prec B i j || prec B j i) = true := h5
    simpa using h6

omit [Sym] in
theorem Chain.levels {l : List TE} {F F2 : Fr} {s s2 : St} {hs hs2 : List St} {es es2 : List Nat} (h : Chain P callK ops base l F s hs es F2 s2 hs2 es2) :
    ∀ j, es.length ≤ j → j < es2.length → ∃ q ∈ l, q.eff = true ∧ q.es.length = j := by
  induction h with
  | nil => intro j h1 h2; omega
  | cons h c ih =>
    rename_i t l F s hs es
    intro j h1 h2
    cases he : t.eff with
    | false =>
      obtain ⟨_, g2, _⟩ := h.quiet he
      rw [g2] at ih
      obtain ⟨q, q1, q2⟩ := ih j h1 h2
      exact ⟨q, by simp [q1], q2⟩
    | true =>
      obtain ⟨_, g2, _⟩ := h.effect he
      rw [g2] at ih
      by_cases hj : j = t.es.length
      · exact ⟨t, by simp, he, hj.symm⟩
      · obtain ⟨q, q1, q2⟩ := ih j (by simp; omega) h2
        exact ⟨q, by simp [q1], q2⟩

omit [Sym] in
theorem Chain.at {l : List TE} {F F2 : Fr} {s s2 : St} {hs hs2 : List St} {es es2 : List Nat} (h : Chain P callK ops base l F s hs es F2 s2 hs2 es2) {t : TE} (ht : t ∈ l) :
    t.ok P callK ops base ∧ t.hs <:+ hs2 ∧ t.es <:+ es2 ∧ t.hs' <:+ hs2 ∧ t.es' <:+ es2 ∧ t.hs.length + es.length = hs.length + t.es.length := by
  obtain ⟨pre, post, rfl⟩ := List.append_of_mem ht
  obtain ⟨h1, h2, h3⟩ := h.split
  have s3 := h3.suffix
  have hl := h1.length
  refine ⟨h2, ?_, ?_, s3.1, s3.2, hl⟩
  · cases he : t.eff with
    | false => have := (h2.quiet he).1; rw [this] at s3; exact s3.1
    | true => have := (h2.effect he).1; rw [this] at s3; exact (List.suffix_cons _ _).trans s3.1
  · cases he : t.eff with
    | false => have := (h2.quiet he).2.1; rw [this] at s3; exact s3.2
    | true => have := (h2.effect he).2.1; rw [this] at s3; exact (List.suffix_cons _ _).trans s3.2

omit [Sym] in
theorem suffix_eq {α : Type} {a b c : List α} (h1 : a <:+ c) (h2 : b <:+ c) (hl : a.length = b.length) : a = b := by
  have h := List.suffix_of_suffix_length_le h1 h2 (by omega)
  exact h.eq_of_length hl

omit [Sym] in
theorem suffix_get {α : Type} {a r c : List α} {h : α} (h1 : a <:+ c) (h2 : (h :: r) <:+ c) {L : Nat} (ha : a.length = L + 1) (hk : r.length ≤ L) : a[L - r.length]? = some h := by
  obtain ⟨y, hy⟩ := List.suffix_of_suffix_length_le h2 h1 (by simp; omega)
  have hl := congrArg List.length hy
  simp at hl
  rw [← hy, List.getElem?_append_right (by omega)]
  rw [show L - r.length - y.length = 0 by omega]
  rfl


structure Inv (D : List Deferred) (ops : Array Oper) (tes : List TE) (base : Nat) (F0 : Fr) (s1 : St) (w0 : World) (ρ0 : BMap) (hs2 : List St) (ρ : BMap) (k : Nat) (h : St) (listed : Array Bool) (a : Act) (w : World) : Prop where
  ext : Ext ρ0 s1 w0 ρ h w
  top : ∃ r, (h :: r) <:+ hs2 ∧ r.length = k
  defers : a.defers = D
  size : a.tmps.size = F0.size
  temps : ∀ x u, ((∃ q ∈ tes, Listed listed q.i ∧ (opAt ops.toList q.i).dst = some x ∧ u = q.v ∧ x < F0.size) ∨ ((∀ q ∈ tes, Listed listed q.i → (opAt ops.toList q.i).dst ≠ some x) ∧ F0.get x = some u)) →
    VR ρ u (a.tmps.getD x undef)
  effs : ∀ q ∈ tes, q.eff = true → (Listed listed q.i ↔ q.es.length < k)
  early : ∀ q ∈ tes, Listed listed q.i → k ≤ q.es.length → ∀ b, q.blk = some b → ∃ r z o, ρ (base + q.i) = some (r, z) ∧ w0.heap.size ≤ r ∧ w.heap[r]? = some o ∧ BR ρ z b o ∧ ¬ Live ρ h r
  apart : ∀ q ∈ tes, ∀ q' ∈ tes, Listed listed q.i → Listed listed q'.i → k ≤ q.es.length → k ≤ q'.es.length → q.blk ≠ none → q'.blk ≠ none → ∀ r z z', ρ (base + q.i) = some (r, z) → ρ (base + q'.i) = some (r, z') → q.i = q'.i
  fresh : ∀ q ∈ tes, ¬ Listed listed q.i → ρ (base + q.i) = none
  room : base + ops.toList.length ≤ h.next

theorem Inv.adopt {tes : List TE} {F0 : Fr} {s1 : St} {w0 : World} {ρ0 : BMap} {hs2 : List St} {ρ : BMap} {k : Nat} {h : St} {listed : Array Bool} {a : Act} {w : World} (I : Inv D ops tes base F0 s1 w0 ρ0 hs2 ρ k h listed a w)
    {cur : St} (hn : cur.next = h.next)
    (hcur : ∀ id b, cur.get id = some b → (∃ q ∈ tes, q.blk = some b ∧ id = base + q.i ∧ k ≤ q.es.length ∧ Listed listed q.i) ∨ h.get id = some b) : Ext ρ0 s1 w0 ρ cur w := by
  have H := I.ext.hr
  have key : ∀ id b, cur.get id = some b → b ≠ .dead → ∃ r z o, ρ id = some (r, z) ∧ w.heap[r]? = some o ∧ BR ρ z b o := by
    intro id b e hd
    rcases hcur id b e with ⟨q, q1, q2, rfl, q3, q4⟩ | e
    · obtain ⟨r, z, o, g1, g2, g3, g4, g5⟩ := I.early q q1 q4 q3 b q2
      exact ⟨r, z, o, g1, g3, g4⟩
    · exact H.blk id b e hd
  have hr : HR ρ cur w := by
    refine ⟨fun i hi => H.fresh i (by omega), key, fun i j b c r z y e1 e2 hw hd r1 r2 => ?_, H.below⟩
    have hbd : b ≠ .dead := by intro e; subst e; cases hw
    rcases hcur i b e1 with ⟨q, q1, q2, rfl, q3, q4⟩ | f1
    · obtain ⟨r', z', o', g1, g2, g3, g4, g5⟩ := I.early q q1 q4 q3 b q2
      rw [r1] at g1; cases g1
      rcases hcur j c e2 with ⟨q', p1, p2, rfl, p3, p4⟩ | f2
      · rw [I.apart q q1 q' p1 q4 p4 q3 p3 (by simp [q2]) (by simp [p2]) _ _ _ r1 r2]
      · exact absurd ⟨j, c, _, f2, hd, r2⟩ g5
    · rcases hcur j c e2 with ⟨q', p1, p2, rfl, p3, p4⟩ | f2
      · obtain ⟨r', z', o', g1, g2, g3, g4, g5⟩ := I.early q' p1 p4 p3 c p2
        rw [r2] at g1; cases g1
        exact absurd ⟨i, b, _, f1, hbd, r1⟩ g5
      · exact H.inj i j b c r z y f1 f2 hw hd r1 r2
  refine ⟨I.ext.sub, hr, I.ext.size, I.ext.keeps, fun r hlt hm => ?_, fun r hlt hm => ?_, by rw [hn]; exact I.ext.next, I.ext.old, I.ext.os, I.ext.tape, I.ext.output⟩
  · obtain ⟨i, b, z, e, hw, hρ⟩ := hm
    rcases hcur i b e with ⟨q, q1, q2, rfl, q3, q4⟩ | f
    · obtain ⟨r', z', o', g1, g2, g3, g4, g5⟩ := I.early q q1 q4 q3 b q2
      rw [hρ] at g1; cases g1; omega
    · exact I.ext.mine r hlt ⟨i, b, z, f, hw, hρ⟩
  · obtain ⟨i, b, z, e, hw, hρ⟩ := hm
    rcases hcur i b e with ⟨q, q1, q2, rfl, q3, q4⟩ | f
    · obtain ⟨r', z', o', g1, g2, g3, g4, g5⟩ := I.early q q1 q4 q3 b q2
      rw [hρ] at g1; cases g1; omega
    · exact I.ext.live r hlt ⟨i, b, z, f, hw, hρ⟩

end Go.Proofs.Bx

namespace Go.Proofs.Bx
open Go
variable [Sym]

variable {D : List Deferred} {P : Program} {callK : CallK} {ops : Array Oper} {base : Nat}

structure Ran (X : Option (Nat × Nat)) (P : Program) (callK : CallK) (ops : Array Oper) (base : Nat) (F0 : Fr) (s1 : St) (F2 : Fr) (s2 : St) (tes : List TE) (hs2 : List St) (es2 : List Nat) : Prop where
  chain : Chain P callK ops base tes F0 s1 [s1] [] F2 s2 hs2 es2
  ok : StepsOk (masks ops.toList []) X [] tes
  lin : linear ops.toList (tes.map (·.i)) [] = true
  all : ∀ i, i < ops.toList.length → ∃ t ∈ tes, t.i = i
  lt : ∀ t ∈ tes, t.i < ops.toList.length
  slots : slotsOk ops.toList (masks ops.toList []) ops.toList.length = true
  wf : F0.wf
  room : s1.next = base + ops.toList.length

section
variable {X : Option (Nat × Nat)} {F0 F2 : Fr} {s1 s2 : St} {tes : List TE} {hs2 : List St} {es2 : List Nat} (R : Ran X P callK ops base F0 s1 F2 s2 tes hs2 es2)
include R

omit [Sym] in
theorem Ran.same {t u : TE} (ht : t ∈ tes) (hu : u ∈ tes) (h : t.i = u.i) : t = u := by
  have hn := (linear_spec R.lin).1
  exact inj_of_nodup hn ht hu h
where
  inj_of_nodup {t u : TE} : ∀ {l : List TE}, (l.map (·.i)).Nodup → t ∈ l → u ∈ l → t.i = u.i → t = u
    | [], _, h, _, _ => by simp at h
    | x :: l, hn, ht, hu, e => by
      rw [List.map_cons, List.nodup_cons] at hn
      obtain ⟨n1, n2⟩ := hn
      rcases List.mem_cons.1 ht with e1 | h1
      · rcases List.mem_cons.1 hu with e2 | h2
        · rw [e1, e2]
        · exact absurd (List.mem_map.2 ⟨u, h2, by rw [← e, e1]⟩) n1
      · rcases List.mem_cons.1 hu with e2 | h2
        · exact absurd (List.mem_map.2 ⟨t, h1, by rw [e, e2]⟩) n1
        · exact inj_of_nodup n2 h1 h2 e

theorem Ran.before {pre post : List TE} {t q : TE} (e : tes = pre ++ t :: post) (hq : q ∈ tes) (hp : prec (masks ops.toList []) q.i t.i = true) : q ∈ pre := by
  have h := before_of_prec R.lin (prec_sound hp) (pre.map (·.i)) (post.map (·.i)) (by rw [e]; simp)
  obtain ⟨q', h1, h2⟩ := List.mem_map.1 h
  have : q' = q := R.same (by rw [e]; simp [h1]) hq h2
  rwa [← this]

omit [Sym] in
theorem Ran.notin {pre post : List TE} {t : TE} (e : tes = pre ++ t :: post) : t ∉ pre ∧ t ∉ post := by
  have hn := (linear_spec R.lin).1
  rw [e, List.map_append, List.map_cons, List.nodup_append] at hn
  refine ⟨fun h => ?_, fun h => ?_⟩
  · exact hn.2.2 _ (List.mem_map.2 ⟨t, h, rfl⟩) t.i (by simp) rfl
  · have := hn.2.1
    rw [List.nodup_cons] at this
    exact this.1 (List.mem_map.2 ⟨t, h, rfl⟩)

omit R in
theorem behind {listed : Array Bool} (hc : Closed ops.toList listed) {i j : Nat} (hr : i ∈ Region.ready .any ops listed) (hp : prec (masks ops.toList []) j i = true) : Listed listed j := by
  obtain ⟨o, ho, _, hd⟩ := ready_spec hc.size hr
  have ho' : ops.toList[i]? = some o := by simpa using ho
  cases prec_sound hp with
  | one h hj => rw [ho'] at h; cases h; exact hd _ hj
  | more h hk p => rw [ho'] at h; cases h; exact hc.prec p (hd _ hk)

theorem Ran.looks {w0 w : World} {ρ0 ρ : BMap} {s : St} {k : Nat} {h : St} {listed : Array Bool} {a : Act} (I : Inv D ops tes base F0 s w0 ρ0 hs2 ρ k h listed a w) (hc : Closed ops.toList listed)
    {t : TE} (ht : t ∈ tes) (hr : t.i ∈ Region.ready .any ops listed) {x : Nat} (hx : x ∈ looksOf ops.toList (opAt ops.toList t.i)) {u : AV} (hu : t.F.get x = some u) :
    VR ρ u (a.tmps.getD x undef) ∧ x < a.tmps.size := by
  obtain ⟨pre, post, e⟩ := List.append_of_mem ht
  obtain ⟨_, _, hnl, _⟩ := ready_spec hc.size hr
  have C := R.chain
  rw [e] at C
  obtain ⟨c1, _, _⟩ := C.split
  obtain ⟨hsz, hwf, hfr⟩ := c1.frame R.wf
  have hlt : x < a.tmps.size := by rw [I.size, ← hsz]; exact hwf x u hu
  refine ⟨?_, hlt⟩
  rcases hfr x u hu with ⟨q, q1, q2, q3, q4⟩ | ⟨q1, q2⟩
  · have hq : q ∈ tes := by rw [e]; simp [q1]
    have hne : t.i ≠ q.i := fun e' => by
      have := R.same ht hq e'
      subst this
      exact (R.notin e).1 q1
    refine I.temps x u (.inl ⟨q, hq, ?_, q2, q3, q4⟩)
    rcases (slots_spec R.slots (R.lt t ht) (R.lt q hq) hne).2 x hx q2 with hp | hp
    · -- it would stand before
      obtain ⟨p1, p2, e2⟩ := List.append_of_mem q1
      have e3 : tes = p1 ++ q :: (p2 ++ t :: post) := by rw [e, e2]; simp
      have := R.before e3 ht hp
      exact absurd (by rw [e2]; simp [this]) (R.notin e).1
    · exact behind hc hr hp
  · refine I.temps x u (.inr ⟨fun q hq hl hd => ?_, q2⟩)
    by_cases hqp : q ∈ pre
    · exact q1 q hqp hd
    · have hne : t.i ≠ q.i := fun e' => by rw [e'] at hnl; exact hnl hl
      rcases (slots_spec R.slots (R.lt t ht) (R.lt q hq) hne).2 x hx hd with hp | hp
      · exact hnl (hc.prec (prec_sound hp) hl)
      · exact hqp (R.before e hq hp)

omit R in
theorem only_run {ρ : BMap} {F : Fr} {a : Act} {l : List Nat} (h : ∀ x ∈ l, ∀ u, F.get x = some u → VR ρ u (a.tmps.getD x undef)) : EvR ρ (only l F.ev) a := by
  intro x v e
  cases x with
  | tmp t =>
    have e' : cond (mem l t) (F.get t) none = some v := e
    cases hm : mem l t with
    | false => rw [hm] at e'; cases e'
    | true =>
      rw [hm] at e'
      exact h t (mem_iff.1 hm) v e'
  | const c => exact cv_vr ρ e
  | func f => cases e; exact .func rfl rfl (fun i v v' e => by simp at e) (fun i v v' e => by simp at e)
  | global g => cases e

omit R in
theorem want_run {ρ : BMap} {F : Fr} {a : Act} {o : Oper} {b : Bool} (h : wantA ops F o.guard = some b) (hl : ∀ x ∈ looksOf ops.toList o, ∀ u, F.get x = some u → VR ρ u (a.tmps.getD x undef) ∧ x < a.tmps.size) :
    Region.wanted o (yielded ops a.tmps) = b := by
  unfold wantA at h
  unfold Region.wanted
  split at h
  · rename_i hg; cases h; rw [hg]
  · rename_i j want hg
    rw [hg]
    replace h := ob_some h; obtain ⟨oj, hj, h⟩ := h
    replace h := ob_some h; obtain ⟨d, hd, h⟩ := h
    replace h := ob_some h; obtain ⟨v, hv, h⟩ := h
    rw [nth_eq] at hj
    have hj' : ops[j]? = some oj := by simpa using hj
    obtain ⟨hvr, hlt⟩ := hl d (looks_guard hg hj hd) v hv
    split at h
    · rename_i b'
      cases h
      have e : a.tmps[d]? = some (.bool b') := by
        have : a.tmps.getD d undef = .bool b' := by
          generalize a.tmps.getD d undef = q at hvr
          cases hvr; rfl
        simp only [Array.getD_eq_getD_getElem?] at this
        rw [Array.getElem?_eq_getElem hlt] at this ⊢
        simpa using this
      simp only [yielded, hj', Option.bind_some, hd, e]
      cases b' <;> cases want <;> rfl
    · cases h
      have e : a.tmps[d]? = some (.tuple #[]) := by
        have : a.tmps.getD d undef = .tuple #[] := by
          generalize a.tmps.getD d undef = q at hvr
          cases hvr with
          | tuple h1 _ => rw [Array.eq_empty_of_size_eq_zero h1.symm]
        simp only [Array.getD_eq_getD_getElem?] at this
        rw [Array.getElem?_eq_getElem hlt] at this ⊢
        simpa using this
      simp only [yielded, hj', Option.bind_some, hd, e]
      cases want <;> rfl
    · cases h

theorem Ran.put {w0 w : World} {ρ0 ρ ρ' : BMap} {s : St} {k : Nat} {h : St} {listed : Array Bool} {a : Act} (I : Inv D ops tes base F0 s w0 ρ0 hs2 ρ k h listed a w) (hs : Sub ρ ρ')
    {t : TE} (ht : t ∈ tes) (hi : t.i < listed.size) {v' : Value} (hv : VR ρ' t.v v') :
    (a.put (opAt ops.toList t.i).dst v').defers = D ∧ (a.put (opAt ops.toList t.i).dst v').tmps.size = F0.size ∧
    ∀ x u, ((∃ q ∈ tes, Listed (listed.setIfInBounds t.i true) q.i ∧ (opAt ops.toList q.i).dst = some x ∧ u = q.v ∧ x < F0.size) ∨ ((∀ q ∈ tes, Listed (listed.setIfInBounds t.i true) q.i → (opAt ops.toList q.i).dst ≠ some x) ∧ F0.get x = some u)) →
      VR ρ' u ((a.put (opAt ops.toList t.i).dst v').tmps.getD x undef) := by
  have old : ∀ {x u}, (opAt ops.toList t.i).dst ≠ some x → VR ρ u (a.tmps.getD x undef) → VR ρ' u ((a.put (opAt ops.toList t.i).dst v').tmps.getD x undef) := by
    intro x u hd hvr
    cases hdst : (opAt ops.toList t.i).dst with
    | none => exact hvr.mono hs
    | some d =>
      have hne : d ≠ x := fun e => hd (by rw [hdst, e])
      have e2 : (a.tmps.setIfInBounds d v').getD x undef = a.tmps.getD x undef := by
        simp only [Array.getD_eq_getD_getElem?]
        rw [Array.getElem?_setIfInBounds_ne hne]
      show VR ρ' u ((a.tmps.setIfInBounds d v').getD x undef)
      rw [e2]; exact hvr.mono hs
  refine ⟨?_, ?_, fun x u hx => ?_⟩
  · cases (opAt ops.toList t.i).dst <;> exact I.defers
  · cases (opAt ops.toList t.i).dst with
    | none => exact I.size
    | some d => simpa [Act.put] using I.size
  · rcases hx with ⟨q, q1, q2, q3, q4, q5⟩ | ⟨q1, q2⟩
    · rw [listed_set hi] at q2
      by_cases hqt : q.i = t.i
      · have := R.same q1 ht hqt
        subst this
        rw [q3, q4]
        have hlt : x < a.tmps.size := by rw [I.size]; exact q5
        show VR ρ' q.v ((a.tmps.setIfInBounds x v').getD x undef)
        simpa [hlt] using hv
      · rcases q2 with e | q2
        · exact absurd e hqt
        · exact old ((slots_spec R.slots (R.lt q q1) (R.lt t ht) hqt).1 x q3) (I.temps x u (.inl ⟨q, q1, q2, q3, q4, q5⟩))
    · refine old (q1 t ht ((listed_set hi).2 (.inl rfl))) (I.temps x u (.inr ⟨fun q hq hl => q1 q hq ((listed_set hi).2 (.inr hl)), q2⟩))

end

end Go.Proofs.Bx

namespace Go.Proofs.Bx
open Go
variable [Sym]

variable {D : List Deferred} {P : Program} {callK : CallK} {ops : Array Oper} {base : Nat}
variable {X : Option (Nat × Nat)} {F0 F2 : Fr} {s1 s2 : St} {tes : List TE} {hs2 : List St} {es2 : List Nat}

theorem Ran.level (R : Ran X P callK ops base F0 s1 F2 s2 tes hs2 es2) {w0 w : World} {ρ0 ρ : BMap} {s : St} {k : Nat} {h : St} {listed : Array Bool} {a : Act} (I : Inv D ops tes base F0 s w0 ρ0 hs2 ρ k h listed a w) (hc : Closed ops.toList listed)
    {t : TE} (ht : t ∈ tes) (hr : t.i ∈ Region.ready .any ops listed) (he : t.eff = false) :
    k ≤ t.es.length ∧ ∃ j, j < t.c + 1 ∧ t.hs[j]? = some h := by
  obtain ⟨_, _, hnl, _⟩ := ready_spec hc.size hr
  obtain ⟨_, a1, a2, _, _, a5⟩ := R.chain.at ht
  obtain ⟨r, hr1, hr2⟩ := I.top
  have hlen := R.chain.length
  simp at hlen a5
  have htop : k + 1 ≤ hs2.length := by
    have := hr1.length_le
    simp at this; omega
  have hk : k ≤ t.es.length := by
    rcases Nat.lt_or_ge t.es.length k with hlt | hge
    · obtain ⟨u, u1, u2, u3⟩ := R.chain.levels t.es.length (by simp) (by omega)
      have hp := R.ok.ahead t ht u u1 he u2 u3.symm
      have hul : Listed listed u.i := (I.effs u u1 u2).2 (by omega)
      exact absurd (hc.prec (prec_sound hp) hul) hnl
    · exact hge
  refine ⟨hk, t.es.length - k, ?_, ?_⟩
  · obtain ⟨f1, f2⟩ := R.ok.floats t ht he
    rcases Nat.lt_or_ge t.c t.es.length with hlt | hge
    · have hp := f2 t.es[t.c] (by simp [hlt])
      have hl := behind hc hr hp
      -- the effect of that level
      obtain ⟨u, u1, u2, u3⟩ := R.chain.levels (t.es.length - 1 - t.c) (by simp) (by have := a2.length_le; omega)
      obtain ⟨b0, _, b2, b3, b4, _⟩ := R.chain.at u1
      have hu := (b0.effect u2).2.1
      have hsuf : u.es' <:+ t.es := List.suffix_of_suffix_length_le b4 a2 (by rw [hu]; simp; omega)
      obtain ⟨y, hy⟩ := hsuf
      have hyl := congrArg List.length hy
      rw [hu] at hyl
      simp at hyl
      have : t.es[t.c]? = some u.i := by
        rw [← hy, hu, List.getElem?_append_right (by omega), show t.c - y.length = 0 by omega]
        rfl
      rw [List.getElem?_eq_getElem hlt] at this
      simp at this
      rw [this] at hl
      have := (I.effs u u1 u2).1 hl
      omega
    · omega
  · have := suffix_get a1 hr1 (L := t.es.length) (by omega) (by omega)
    rw [hr2] at this
    exact this

omit [Sym] in
theorem listed_other {listed : Array Bool} {i j : Nat} (hi : i < listed.size) (hne : j ≠ i) : Listed (listed.setIfInBounds i true) j ↔ Listed listed j := by
  rw [listed_set hi]
  exact ⟨fun e => e.resolve_left hne, .inr⟩

theorem Ran.still (R : Ran X P callK ops base F0 s1 F2 s2 tes hs2 es2) {w0 w : World} {ρ0 ρ : BMap} {s : St} {k : Nat} {h : St} {listed : Array Bool} {a : Act} (I : Inv D ops tes base F0 s w0 ρ0 hs2 ρ k h listed a w)
    {t : TE} (ht : t ∈ tes) (hi : t.i < listed.size) (he : t.eff = false) (hb : t.blk = none) {v' : Value} (hv : VR ρ t.v v') :
    Inv D ops tes base F0 s w0 ρ0 hs2 ρ k h (listed.setIfInBounds t.i true) (a.put (opAt ops.toList t.i).dst v') w := by
  obtain ⟨p1, p2, p3⟩ := R.put I (.refl _) ht hi hv
  have other : ∀ {q}, q ∈ tes → q ≠ t → (Listed (listed.setIfInBounds t.i true) q.i ↔ Listed listed q.i) := fun hq hne => listed_other hi fun e => hne (R.same hq ht e)
  refine ⟨I.ext, I.top, p1, p2, p3, fun q hq hqe => ?_, fun q hq hl hk b hqb => ?_, fun q hq q' hq' hl hl' hk hk' hqb hqb' => ?_, fun q hq hnl => ?_, I.room⟩
  · rw [other hq (by intro e; subst e; rw [he] at hqe; cases hqe)]
    exact I.effs q hq hqe
  · rw [other hq (by intro e; subst e; rw [hb] at hqb; cases hqb)] at hl
    exact I.early q hq hl hk b hqb
  · rw [other hq (by intro e; subst e; exact hqb hb)] at hl
    rw [other hq' (by intro e; subst e; exact hqb' hb)] at hl'
    exact I.apart q hq q' hq' hl hl' hk hk' hqb hqb'
  · exact I.fresh q hq fun hl => hnl ((listed_set hi).2 (.inr hl))

theorem Ran.made (R : Ran X P callK ops base F0 s1 F2 s2 tes hs2 es2) {w0 w w' : World} {ρ0 ρ : BMap} {s : St} {k : Nat} {h : St} {listed : Array Bool} {a : Act} (I : Inv D ops tes base F0 s w0 ρ0 hs2 ρ k h listed a w)
    {t : TE} (ht : t ∈ tes) (hi : t.i < listed.size) (hnl : ¬ Listed listed t.i) (he : t.eff = false) (hs : s.next ≤ base) {b : Blk} (hb : t.blk = some b) {z : Nat} {obj : Obj}
    (hheap : w'.heap = w.heap.push obj) (hos : w'.os = w.os) (htape : w'.tape = w.tape) (hout : w'.output = w.output)
    (hbr : BR (upd ρ (base + t.i) w.heap.size z) z b obj) {v' : Value} (hv : VR (upd ρ (base + t.i) w.heap.size z) t.v v') :
    Inv D ops tes base F0 s w0 ρ0 hs2 (upd ρ (base + t.i) w.heap.size z) k h (listed.setIfInBounds t.i true) (a.put (opAt ops.toList t.i).dst v') w' := by
  have hfresh := I.fresh t ht hnl
  have hsub : Sub ρ (upd ρ (base + t.i) w.heap.size z) := upd_sub hfresh
  obtain ⟨p1, p2, p3⟩ := R.put I hsub ht hi hv
  have other : ∀ {q}, q ∈ tes → q ≠ t → (Listed (listed.setIfInBounds t.i true) q.i ↔ Listed listed q.i) := fun hq hne => listed_other hi fun e => hne (R.same hq ht e)
  have hold : ∀ {j}, j ≠ base + t.i → upd ρ (base + t.i) w.heap.size z j = ρ j := fun hne => by simp [upd, hne]
  have hin : ∀ {r}, r < w.heap.size → w'.heap[r]? = w.heap[r]? := fun hr => by rw [hheap, Array.getElem?_push]; rw [if_neg (by omega)]
  have H := I.ext.hr
  have hsz : w'.heap.size = w.heap.size + 1 := by rw [hheap]; simp
  have hnew : w'.heap[w.heap.size]? = some obj := by rw [hheap]; simp
  have hti := R.lt t ht
  -- in the elder memory nothing has that number
  have hnone : ∀ b', h.get (base + t.i) = some b' → b' = .dead := by
    intro b' e
    cases b' with
    | dead => rfl
    | cells cs rw' ty' =>
      obtain ⟨r, z', o, g1, _⟩ := H.blk _ _ e (by simp)
      rw [hfresh] at g1; cases g1
    | map es ck =>
      obtain ⟨r, z', o, g1, _⟩ := H.blk _ _ e (by simp)
      rw [hfresh] at g1; cases g1
    | mapR es ck =>
      obtain ⟨r, z', o, g1, _⟩ := H.blk _ _ e (by simp)
      rw [hfresh] at g1; cases g1
    | loop F ps asg bd p =>
      obtain ⟨r, z', o, g1, _⟩ := H.blk _ _ e (by simp)
      rw [hfresh] at g1; cases g1
  have hne_of : ∀ {j b'}, h.get j = some b' → b' ≠ .dead → j ≠ base + t.i := fun e hd e' => by subst e'; exact hd (hnone _ e)
  have hr : HR (upd ρ (base + t.i) w.heap.size z) h w' := by
    refine ⟨fun j hj => ?_, fun j b' e hd => ?_, fun i j b' c r y y' e1 e2 hw hd r1 r2 => ?_, fun j r y e => ?_⟩
    · have := I.room
      rw [hold (by omega)]; exact H.fresh j hj
    · obtain ⟨r, y, o, g1, g2, g3⟩ := H.blk j b' e hd
      refine ⟨r, y, o, by rw [hold (hne_of e hd)]; exact g1, ?_, g3.mono hsub⟩
      rw [hin (H.below _ _ _ g1)]; exact g2
    · have hbd : b' ≠ .dead := by intro e; subst e; cases hw
      rw [hold (hne_of e1 hbd)] at r1
      rw [hold (hne_of e2 hd)] at r2
      exact H.inj i j b' c r y y' e1 e2 hw hd r1 r2
    · by_cases hj : j = base + t.i
      · subst hj; rw [upd_self] at e; cases e; omega
      · rw [hold hj] at e
        have := H.below j r y e
        omega
  have hext : Ext ρ0 s w0 (upd ρ (base + t.i) w.heap.size z) h w' := by
    refine ⟨I.ext.sub.trans hsub, hr, by rw [hsz]; exact Nat.le_succ_of_le I.ext.size, fun r hlt hm => ?_, fun r hlt hm => ?_, fun r hlt hm => ?_, I.ext.next, fun j hj => ?_, hos.trans I.ext.os, htape.trans I.ext.tape, hout.trans I.ext.output⟩
    · rw [hin (Nat.lt_of_lt_of_le hlt I.ext.size)]; exact I.ext.keeps r hlt hm
    · obtain ⟨j, b', y, e, hw, hρ⟩ := hm
      have hbd : b' ≠ .dead := by intro e; subst e; cases hw
      rw [hold (hne_of e hbd)] at hρ
      exact I.ext.mine r hlt ⟨j, b', y, e, hw, hρ⟩
    · obtain ⟨j, b', y, e, hd, hρ⟩ := hm
      rw [hold (hne_of e hd)] at hρ
      exact I.ext.live r hlt ⟨j, b', y, e, hd, hρ⟩
    · rw [hold (by omega)]; exact I.ext.old j hj
  have hlive : ∀ r, Live (upd ρ (base + t.i) w.heap.size z) h r → Live ρ h r := by
    intro r hm
    obtain ⟨j, b', y, e, hd, hρ⟩ := hm
    rw [hold (hne_of e hd)] at hρ
    exact ⟨j, b', y, e, hd, hρ⟩
  have hnelem : ∀ {q}, q ∈ tes → q ≠ t → upd ρ (base + t.i) w.heap.size z (base + q.i) = ρ (base + q.i) := fun hq hne => hold fun e => hne (R.same hq ht (by omega))
  refine ⟨hext, I.top, p1, p2, p3, fun q hq hqe => ?_, fun q hq hl hk b' hqb => ?_, fun q hq q' hq' hl hl' hk hk' hqb hqb' r y y' e e' => ?_, fun q hq hq2 => ?_, I.room⟩
  · rw [other hq (by intro e; subst e; rw [he] at hqe; cases hqe)]
    exact I.effs q hq hqe
  · by_cases hqt : q = t
    · subst hqt
      rw [hb] at hqb; cases hqb
      refine ⟨w.heap.size, z, obj, upd_self _ _ _ _, I.ext.size, hnew, hbr, fun hm => ?_⟩
      obtain ⟨j, b', y, e, hd, hρ⟩ := hlive _ hm
      have := H.below _ _ _ hρ
      omega
    · rw [other hq hqt] at hl
      obtain ⟨r, y, o, g1, g2, g3, g4, g5⟩ := I.early q hq hl hk b' hqb
      refine ⟨r, y, o, by rw [hnelem hq hqt]; exact g1, g2, ?_, g4.mono hsub, fun hm => g5 (hlive _ hm)⟩
      rw [hin (H.below _ _ _ g1)]; exact g3
  · by_cases hqt : q = t
    · by_cases hqt' : q' = t
      · rw [hqt, hqt']
      · subst hqt
        rw [upd_self] at e; cases e
        rw [hnelem hq' hqt'] at e'
        have := H.below _ _ _ e'
        omega
    · rw [hnelem hq hqt] at e
      by_cases hqt' : q' = t
      · subst hqt'
        rw [upd_self] at e'; cases e'
        have := H.below _ _ _ e
        omega
      · rw [hnelem hq' hqt'] at e'
        rw [other hq hqt] at hl
        rw [other hq' hqt'] at hl'
        exact I.apart q hq q' hq' hl hl' hk hk' hqb hqb' r y y' e e'
  · have hqt : q ≠ t := by
      intro e; subst e
      exact hq2 ((listed_set hi).2 (.inl rfl))
    rw [hnelem hq hqt]
    rw [other hq hqt] at hq2
    exact I.fresh q hq hq2

theorem Ran.quietStep (R : Ran X P callK ops base F0 s1 F2 s2 tes hs2 es2) {w0 w : World} {ρ0 ρ : BMap} {s : St} {k : Nat} {h : St} {listed : Array Bool} {a : Act} (I : Inv D ops tes base F0 s w0 ρ0 hs2 ρ k h listed a w) (hc : Closed ops.toList listed)
    {t : TE} (ht : t ∈ tes) (hr : t.i ∈ Region.ready .any ops listed) (he : t.eff = false) (hs : s.next ≤ base) {Q : Exit → Act → World → Prop} {K : Act → World → Prop} {r : Option Nat} {n : Nat}
    (hk : ∀ ρ' a' w', Inv D ops tes base F0 s w0 ρ0 hs2 ρ' k h (listed.setIfInBounds t.i true) a' w' → K a' w') : wpOpIn (Fc r) n P ops Q t.i K a w := by
  obtain ⟨o, ho, hnl, _⟩ := ready_spec hc.size hr
  have hi : t.i < listed.size := by rw [hc.size]; exact R.lt t ht
  have hoo : opAt ops.toList t.i = o := opAt_eq (by simpa using ho)
  obtain ⟨hok, _⟩ := R.chain.at ht
  obtain ⟨_, _, hq⟩ := hok.quiet he
  have looks := fun x hx u hu => R.looks I hc ht hr (x := x) hx (u := u) hu
  have hev : EvR ρ (only (looksOf ops.toList o) t.F.ev) a := only_run fun x hx u hu => (looks x (by rw [hoo]; exact hx) u hu).1
  rw [hoo] at looks
  unfold TE.quiet at hq
  rw [hoo] at hq
  unfold wpOpIn
  rw [ho]
  dsimp only
  rcases hq with ⟨hw, hv, _, hb⟩ | ⟨hw, hkd, _, hb⟩ | ⟨hw, ⟨f, hkd, hread⟩, _, hb⟩ | ⟨hw, n, hkd, hv, _, hb⟩
  · rw [if_neg (by rw [want_run hw looks]; simp)]
    refine ⟨fun _ _ => trivial, hk ρ _ w ?_⟩
    have := R.still I ht hi he hb (v' := undef) (by rw [hv]; exact .skip _)
    rwa [hoo] at this
  · rw [if_pos (want_run hw looks)]
    rw [← kindOf_only (ops := ops.toList)] at hkd
    obtain ⟨v', h1, h2⟩ := val_run hkd hev w
    refine ⟨fun _ _ => trivial, ?_⟩
    rw [Oper.semAt_eq _ _ _ (kindOf_defer hkd (by simp)), h1, Oper.uponIn_value]
    have := R.still I ht hi he hb h2
    rw [hoo] at this
    exact hk ρ _ w this
  · rw [if_pos (want_run hw looks)]
    rw [← kindOf_only (ops := ops.toList)] at hkd
    obtain ⟨_, j, hj, hjh⟩ := R.level I hc ht hr he
    obtain ⟨v', h1, h2⟩ := read_run hkd (hread j h hj hjh) hev I.ext.hr
    refine ⟨fun _ _ => trivial, ?_⟩
    rw [Oper.semAt_eq _ _ _ (kindOf_defer hkd (by simp)), h1, Oper.uponIn_value]
    have := R.still I ht hi he hb h2
    rw [hoo] at this
    exact hk ρ _ w this
  · rw [if_pos (want_run hw looks)]
    rw [← kindOf_only (ops := ops.toList)] at hkd
    obtain ⟨v', w', z, obj, h1, g1, g2, g3, g4, g5⟩ := make_run (ρ := ρ) (w := w) hkd hev
    obtain ⟨g6, g7⟩ := g5 (base + t.i) (I.fresh t ht hnl)
    refine ⟨fun _ _ => trivial, ?_⟩
    rw [Oper.semAt_eq _ _ _ (kindOf_defer hkd (by simp)), h1, Oper.uponIn_value]
    have := R.made I ht hi hnl he hs hb g1 g2 g3 g4 g6 (v' := v') (by rw [hv]; exact g7)
    rw [hoo] at this
    exact hk _ _ _ this

end Go.Proofs.Bx
