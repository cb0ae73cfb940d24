/- Strings in the making: a string's bytes appended to a slice of bytes, the string over such bytes; and a slice that is made. -/
import Derived.Test.YtbbkhiapcclnpaaGreatDoorBxMap
import Derived.Deep.AppendSrc
import Derived.Lib.UnsafeStr
import Derived.Laws.MakeOwn
set_option linter.unusedVariables false
set_option linter.unusedSimpArgs false
set_option linter.unusedSectionVars false
namespace Go.Proofs.Bx
open Go

/-! A string's bytes, behind a slice of bytes. -/

/-- A string's bytes, as cells. -/
noncomputable def strCs (b : ByteArray) : List AV := b.data.toList.map fun x => .int .u8 (Int.ofNat x.toNat)

theorem strCs_len (b : ByteArray) : (strCs b).length = b.size := by
  simp only [strCs, List.length_map, Array.length_toList]; rfl

theorem strCs_vr (ρ : BMap) (b : ByteArray) : VRs ρ (strCs b) (byteCells b).toArray := by
  refine ⟨by simp [strCs, byteCells], fun i v v' e e' => ?_⟩
  simp only [strCs, List.getElem?_map, Option.map_eq_some_iff] at e
  obtain ⟨x, hx, rfl⟩ := e
  simp only [byteCells, List.getElem?_toArray, List.getElem?_map, hx, Option.map_some, Option.some.injEq] at e'
  subst e'
  exact .int _ _

noncomputable def appendStrA (P : Program) (s : St) (t tx : TypeId) (x : AV) (y : ByteArray) : Option (AV × St) :=
  match P.underlying t, P.underlying tx with
  | some (.slice elem), some .string =>
    ob (P.info? elem) fun i => ob i.zero fun z => cond (Nat.beq z.cells.size 1) (cond (Nat.beq i.size 1) (cond (Nat.beq i.bytes 1) (cond (Nat.beq y.size 0) none (
      match x with
      | .slice none _ _ => cond (Nat.ble y.size room) (some (.slice (some (s.next, 0)) y.size (.atLeast y.size 1 1), s.new (.cells (strCs y) true (some elem)))) none
      | .slice (some (b, o)) l (.atLeast _ bt k) => cond (Nat.beq o 0) (cond (Nat.beq bt 1) (cond (Nat.beq k 1) (cond (Nat.ble (Nat.add l y.size) room)
          (match s.get b with
           | some (.cells _ true (some e)) => cond (Nat.beq e elem) (ob (cellsAt s b 0 l) fun old =>
               some (.slice (some (s.next, 0)) (Nat.add l y.size) (.atLeast (Nat.add l y.size) 1 1), (s.set b .dead).new (.cells (lapp old (strCs y)) true (some elem)))) none
           | _ => none) none) none) none) none
      | _ => none)) none) none) none
  | _, _ => none

theorem appendStrA_run {P : Program} {ρ : BMap} {s s' : St} {w : World} {t tx ty : TypeId} {x v : AV} {x' : Value} {y : ByteArray} (h : appendStrA P s t tx x y = some (v, s')) (hr : HR ρ s w) (hx : VR ρ x x') :
    ∃ ρ' v' w', (Builtin.append_ #[t, tx] ty #[x', .string y]).run P w = .ok v' w' ∧ Ext ρ s w ρ' s' w' ∧ VR ρ' v v' := by
  unfold appendStrA at h
  split at h
  · rename_i elem ht htx
    replace h := ob_some h; obtain ⟨i, hi, h⟩ := h
    replace h := ob_some h; obtain ⟨z, hz, h⟩ := h
    replace h := cond_some h; obtain ⟨hzs, h⟩ := h
    replace h := cond_some h; obtain ⟨hsz, h⟩ := h
    replace h := cond_some h; obtain ⟨hby, h⟩ := h
    replace h := cond_some' h; obtain ⟨hne0, h⟩ := h
    have hzs : z.cells.size = 1 := Nat.eq_of_beq_eq_true hzs
    have hsz : i.size = 1 := Nat.eq_of_beq_eq_true hsz
    have hby : i.bytes = 1 := Nat.eq_of_beq_eq_true hby
    have hS : Src P i.size tx (.string y) y.size (byteCells y) w := by rw [hsz]; exact Src.ofString w htx y
    have hlen : (byteCells y).length = y.size := byteCells_length y
    split at h
    · -- nothing was there
      replace h := cond_some h; obtain ⟨hle, h⟩ := h
      cases h
      have hle : y.size ≤ room := Nat.le_of_ble_eq_true hle
      unfold room at hle
      cases hx with
      | sliceNil =>
        by_cases h0 : y.size = 0
        · rw [h0] at hne0; cases hne0
        have hfit : Builtin.nextslicecap (0 + y.size) 0 * i.bytes ≤ 281474976710656 := growslice_fits (by omega) (by rw [hby]; omega)
        have hrun := run_append_grow_src (P := P) w t tx ty elem i z ht hi hz none 0 0 [] (by simp [run_firstCells_none]) (.string y) y.size (byteCells y) hS (by omega) (by omega) hfit
        have hall := fun zz => (strCs_vr ρ y).mono (upd_sub (r := w.heap.size) (z := zz) (hr.fresh s.next (Nat.le_refl _)))
        refine ⟨_, _, _, hrun, Ext.new (w' := w.drew.alloc _) hr rfl rfl rfl rfl ⟨rfl, ?_, fun j u u' e e' => ?_, fun _ => rfl, fun t e => by cases e; rfl⟩, ?_⟩
        · rw [strCs_len]; simp only [Array.size_append, List.size_toArray, List.nil_append, hlen]; omega
        · refine (hall _).2 j u u' e ?_
          have hj := (List.getElem?_eq_some_iff.1 e).1
          rw [strCs_len] at hj
          rw [Array.getElem?_append_left (by simp only [List.size_toArray, List.nil_append, hlen]; exact hj)] at e'
          simpa using e'
        · rw [Nat.zero_add]
          refine .slice (upd_self _ _ _ _) ⟨grownCap_ge w y.size 0 elem, ?_⟩ (grownCap_ge w y.size 0 elem)
          have hge := grownCap_ge w y.size 0 elem
          simp only [Array.size_append, List.size_toArray, List.nil_append, hlen, size_zeroCells, hzs]
          omega
    · rename_i b o l n bt k
      replace h := cond_some h; obtain ⟨ho0, h⟩ := h
      replace h := cond_some h; obtain ⟨hbt, h⟩ := h
      replace h := cond_some h; obtain ⟨hkk, h⟩ := h
      replace h := cond_some h; obtain ⟨hle, h⟩ := h
      have ho0 := Nat.eq_of_beq_eq_true ho0
      have hbt := Nat.eq_of_beq_eq_true hbt
      have hkk := Nat.eq_of_beq_eq_true hkk
      subst ho0; subst hbt; subst hkk
      have hle : l + y.size ≤ room := Nat.le_of_ble_eq_true hle
      unfold room at hle
      split at h
      · rename_i cs e0 hs
        replace h := cond_some h; obtain ⟨he0, h⟩ := h
        have he0 := Nat.eq_of_beq_eq_true he0
        subst he0
        replace h := ob_some h; obtain ⟨old, hold, h⟩ := h
        cases h
        cases hx with
        | slice hb hc hl =>
          rename_i r zb c
          obtain ⟨arr, elem', fz, hh, hzz, hlen2, hv, hfz, hty⟩ := hr.cells hs hb
          have hfz := hfz rfl
          have hty := hty _ rfl
          subst hfz; subst hty
          obtain ⟨olds, o1, o2', o3⟩ := cellsAt_run hr hold hb
          have hfo := run_firstCells_some (P := P) w.drew i.size l ⟨r, 0, none⟩ l c olds (by rw [hsz]; omega) (by simpa using o2')
          by_cases hg : c < l + y.size
          · have hk := Ext.kill hr b
            have hfit : Builtin.nextslicecap (l + y.size) c * i.bytes ≤ 281474976710656 := growslice_fits hg (by rw [hby]; omega)
            have hrun := run_append_grow_src (P := P) w t tx ty elem' i z ht hi hz (some ⟨r, 0, none⟩) l c olds hfo (.string y) y.size (byteCells y) hS hg (by omega) hfit
            have hall := fun zz => (VRs.ofList o3 (strCs_vr ρ y)).mono (upd_sub (r := w.heap.size) (z := zz) (hk.hr.fresh (s.set b .dead).next (Nat.le_refl _)))
            refine ⟨_, _, _, hrun, hk.trans (Ext.new (w' := w.drew.alloc _) hk.hr rfl rfl rfl rfl ⟨rfl, ?_, fun j u u' e e' => ?_, fun _ => rfl, fun t e => by cases e; rfl⟩), .slice (upd_self _ _ _ _) ⟨grownCap_ge w _ c elem', ?_⟩ (grownCap_ge w _ c elem')⟩
            · rw [(hall 0).1]; simp only [List.size_toArray, Array.size_append, List.length_append]; omega
            · refine (hall _).2 j u u' e ?_
              have hj := (List.getElem?_eq_some_iff.1 e).1
              rw [(hall 0).1] at hj
              rw [Array.getElem?_append_left hj] at e'
              exact e'
            · have hge := grownCap_ge w (l + y.size) c elem'
              simp only [List.size_toArray, Array.size_append, List.length_append, hlen, o1, size_zeroCells, hzs]
              omega
          · -- there was room
            obtain ⟨c1, c3⟩ := hc
            have hcell : ∀ j, j < (byteCells y).length → (w.cell? ⟨r, 0 + l * i.size + j, none⟩).isSome = true := by
              intro j hj
              rw [hlen] at hj
              simp [World.cell?, hh, hsz]
              omega
            have hfroz : ∀ j, j < (byteCells y).length → w.frozen? ⟨r, 0 + l * i.size + j, none⟩ = false := by
              intro j hj
              simp [World.frozen?, hh]
            have hrun := run_append_room_src (P := P) w t tx ty elem' i ht hi r 0 l c (.string y) y.size (byteCells y) hS (by omega) hcell hfroz
            have e1 : 0 + l * i.size = l := by rw [hsz]; omega
            rw [e1] at hrun
            obtain ⟨i1, i2, i3, i4, i5, i6⟩ := setCells_heap r (byteCells y) l w arr elem' (0, 0) hh
            have hall := (VRs.ofList o3 (strCs_vr ρ y)).mono (upd_sub (r := r) (z := zb) (hr.fresh s.next (Nat.le_refl _)))
            refine ⟨_, _, _, hrun, Ext.move hr hs rfl hb i3 i1 i2 i4 i5 i6 ⟨by rw [foldl_put_size]; exact hzz, ?_, fun j u u' e e' => ?_, fun _ => rfl, fun t e => by cases e; rfl⟩,
              .slice (upd_self _ _ _ _) ⟨by show l + y.size ≤ c; omega, c3⟩ (by show l + y.size ≤ c; omega)⟩
            · rw [hall.1, foldl_put_size]
              simp only [List.size_toArray, List.length_append, hlen, o1]
              omega
            · have hj := (List.getElem?_eq_some_iff.1 e).1
              rw [hall.1] at hj
              simp only [List.size_toArray, List.length_append, hlen, o1] at hj
              refine hall.2 j u u' e ?_
              rw [foldl_put] at e'
              simp only [Nat.add_zero] at e'
              simp only [List.getElem?_toArray]
              by_cases hjl : j < l
              · rw [if_neg (by omega)] at e'
                rw [List.getElem?_append_left (by omega)]
                have ho := o2' j (olds[j]'(by omega)) (by simp)
                rw [add_addr] at ho
                simp only [World.cell?, hh, Nat.zero_add] at ho
                simp only [Option.isSome_none, Bool.false_eq_true, if_false] at ho
                rw [ho] at e'
                rw [← e']
                simp
              · rw [if_pos (by omega)] at e'
                rw [List.getElem?_append_right (by omega), o1]
                exact e'
      · cases h
    · cases h
  · cases h

/-! Where a slice's elements begin. -/

noncomputable def sliceDataA (x : AV) : Option AV :=
  match x with
  | .slice none _ _ => some (.ptr none)
  | .slice (some a) _ cap => cond (Nat.blt 0 cap.low) (some (.ptr (some a))) none
  | _ => none

theorem sliceDataA_run {P : Program} {ρ : BMap} {ts : Array TypeId} {ty : TypeId} {x v : AV} {x' : Value} (h : sliceDataA x = some v) (hx : VR ρ x x') (w : World) :
    ∃ v', (Builtin.unsafeSliceData_ ts ty #[x']).run P w = .ok v' w ∧ VR ρ v v' := by
  unfold sliceDataA at h
  split at h
  · cases h
    cases hx
    exact ⟨_, Lib.run_unsafeSliceData_nil w ts ty 0 0, .ptrNil⟩
  · replace h := cond_some h; obtain ⟨h0, h⟩ := h
    cases h
    have h0 := blt_lt h0
    cases hx with
    | slice hb hc hl =>
      have := Cap.ok_low hc
      exact ⟨_, Lib.run_unsafeSliceData_row w ts ty _ _ _ (by omega), .ptr hb⟩
  · cases h

/-! A string over bytes: the bytes are frozen, their block goes out of use. -/

noncomputable def byteOf (v : AV) : Option UInt8 :=
  match v with
  | .int .u8 (.ofNat k) => cond (Nat.blt k 256) (some (UInt8.ofNat k)) none
  | _ => none

theorem byteOf_vr {ρ : BMap} {v : AV} {v' : Value} {b : UInt8} (h : byteOf v = some b) (hv : VR ρ v v') : v' = .int .u8 b.toNat := by
  unfold byteOf at h
  split at h
  · rename_i k
    replace h := cond_some h; obtain ⟨h0, h⟩ := h
    cases h
    cases hv
    have h0 := blt_lt h0
    have e : (UInt8.ofNat k).toNat = k := by rw [UInt8.toNat_ofNat']; exact Nat.mod_eq_of_lt h0
    rw [e]; rfl
  · cases h

noncomputable def unsafeStrA (P : Program) (s : St) (pt : TypeId) (p n : AV) : Option (AV × St) :=
  match n with
  | .int .i64 (.ofNat k) => cond (Nat.beq k 0) (match p with | .ptr _ => some (.str ⟨#[]⟩, s) | _ => none)
      (match P.underlying pt, p with
       | some (.pointer e), .ptr (some (b, o)) => cond (Nat.beq o 0) (cond (Nat.ble k room) (
           match s.get b with
           | some (.cells cs true (some e')) => cond (Nat.beq e' e) (cond (Nat.beq (P.cellsOf e) 1) (ob (ltake cs k) fun l => ob (lmapO byteOf l) fun bs => some (.str ⟨bs.toArray⟩, s.set b .dead)) none) none
           | _ => none) none) none
       | _, _ => none)
  | _ => none

theorem freeze_heap (w : World) (r n : Nat) (arr : Array Value) (e : TypeId) (hn : n ≠ 0) (hh : w.heap[r]? = some (.cells arr e (0, 0))) :
    (∃ fz, (w.freeze ⟨r, 0, none⟩ n).heap[r]? = some (.cells arr e fz)) ∧ (∀ k, k ≠ r → (w.freeze ⟨r, 0, none⟩ n).heap[k]? = w.heap[k]?) ∧ (w.freeze ⟨r, 0, none⟩ n).heap.size = w.heap.size ∧
      (w.freeze ⟨r, 0, none⟩ n).os = w.os ∧ (w.freeze ⟨r, 0, none⟩ n).tape = w.tape ∧ (w.freeze ⟨r, 0, none⟩ n).output = w.output := by
  unfold World.freeze
  rw [if_neg hn]
  refine ⟨?_, fun k hk => ?_, by simp, rfl, rfl, rfl⟩
  · simp only [Array.getElem?_modify, if_true, hh, Option.map_some]
    exact ⟨_, rfl⟩
  · simp only [Array.getElem?_modify]
    rw [if_neg (by exact fun e => hk e.symm)]

theorem unsafeStrA_run {P : Program} {ρ : BMap} {s s' : St} {w : World} {pt it ty : TypeId} {p n v : AV} {p' n' : Value} (h : unsafeStrA P s pt p n = some (v, s')) (hr : HR ρ s w) (hp : VR ρ p p') (hn : VR ρ n n') :
    ∃ v' w', (Builtin.unsafeString_ #[pt, it] ty #[p', n']).run P w = .ok v' w' ∧ Ext ρ s w ρ s' w' ∧ VR ρ v v' := by
  unfold unsafeStrA at h
  split at h
  · rename_i k
    cases hn
    by_cases hk : k = 0
    · subst hk
      rw [beq_yes rfl] at h
      dsimp only [cond_true] at h
      split at h
      · cases h
        cases hp with
        | ptrNil => exact ⟨_, w, Lib.run_unsafeString_none w pt it ty none, .refl hr, .str _⟩
        | ptr hb => exact ⟨_, w, Lib.run_unsafeString_none w pt it ty _, .refl hr, .str _⟩
      · cases h
    · rw [beq_no hk] at h
      dsimp only [cond_false] at h
      split at h
      · rename_i e b o hu
        replace h := cond_some h; obtain ⟨ho, h⟩ := h
        replace h := cond_some h; obtain ⟨hroom, h⟩ := h
        have ho := Nat.eq_of_beq_eq_true ho
        have hroom := Nat.le_of_ble_eq_true hroom
        unfold room at hroom
        subst ho
        split at h
        · rename_i cs e' hs
          replace h := cond_some h; obtain ⟨he, h⟩ := h
          replace h := cond_some h; obtain ⟨hc1, h⟩ := h
          have he := Nat.eq_of_beq_eq_true he
          have hc1 := Nat.eq_of_beq_eq_true hc1
          subst he
          replace h := ob_some h; obtain ⟨l, hl, h⟩ := h
          replace h := ob_some h; obtain ⟨bs, hbs, h⟩ := h
          cases h
          cases hp with
          | ptr hb =>
            rename_i r z
            obtain ⟨arr, elem', fz, hh, hzz, hlen2, hv, hfz, hty⟩ := hr.cells hs hb
            have hfz := hfz rfl
            have hty := hty _ rfl
            subst hfz; subst hty
            obtain ⟨t1, t2⟩ := ltake_eq _ _ _ hl
            have hbl : bs.length = k := by rw [lmapO_len hbs, t2]
            have hkc : k ≤ cs.length := by
              have := congrArg List.length t1
              rw [t2, List.length_take] at this; omega
            have hcell : ∀ j x, bs[j]? = some x → w.cell? ((⟨r, 0, none⟩ : Addr).add j) = some (.int .u8 x.toNat) := by
              intro j x hx
              have hj : j < k := by rw [← hbl]; exact (List.getElem?_eq_some_iff.1 hx).1
              obtain ⟨bb, hb1, hb2⟩ := lmapO_get hbs j l[j] (by simp)
              rw [hx] at hb2; cases hb2
              have hj2 : j < arr.size := by omega
              have e1 : cs[j]? = some l[j] := by
                have h1 : l[j]? = some l[j] := by simp
                have h2 : l[j]? = ((cs.take k))[j]? := congrArg (fun q => q[j]?) t1
                rw [List.getElem?_take, if_pos hj] at h2
                rw [← h2]; exact h1
              have := byteOf_vr hb1 (hv j _ arr[j] e1 (by simp))
              rw [add_addr]
              simp only [World.cell?, hh, Nat.zero_add]
              simp [this, hj2]
            have hrun := Lib.run_unsafeString_row (P := P) w pt it ty elem' hu hc1 r arr.size (by simp [World.shape?, hh]) bs (by intro e; subst e; simp at hbl; exact hk hbl.symm) (by omega) (by omega) hcell
            rw [hbl] at hrun
            obtain ⟨⟨fz, f1⟩, f2, f3, f4, f5, f6⟩ := freeze_heap w r k arr elem' hk hh
            exact ⟨_, _, hrun, Ext.write hr hs rfl hb f3 f1 f2 f4 f5 f6 trivial, .str _⟩
        · cases h
      · cases h
  · cases h

/-! A slice that is made. -/

noncomputable def makeSliceA (P : Program) (t : TypeId) (n c : AV) : Option New :=
  match P.underlying t, n, c with
  | some (.slice elem), .int .i64 (.ofNat n), .int .i64 (.ofNat c) =>
    ob (P.info? elem) fun i => ob i.zero fun z => ob (cv z) fun a => ob a.cells fun zero => cond (Nat.beq (llen zero) i.size) (cond (Nat.ble n c) (cond (Nat.ble c 16777216) (cond (Nat.ble (Nat.mul c i.size) 16777216) (cond (Nat.ble (Nat.mul i.bytes c) room)
      (some ⟨.cells (lrep zero c) true, fun id => .slice (some (id, 0)) n (.exact c)⟩) none) none) none) none) none
  | _, _, _ => none

theorem makeSliceA_run {P : Program} {ρ : BMap} {w : World} {t : TypeId} {n c : AV} {n' c' : Value} {nw : New} (h : makeSliceA P t n c = some nw) (hn : VR ρ n n') (hc : VR ρ c c') : MakeR P (Instr.makeSlice t n' c') nw ρ w := by
  unfold makeSliceA at h
  split at h
  · rename_i elem n c hu
    replace h := ob_some h; obtain ⟨i, hi, h⟩ := h
    replace h := ob_some h; obtain ⟨z, hz, h⟩ := h
    replace h := ob_some h; obtain ⟨a, ha, h⟩ := h
    replace h := ob_some h; obtain ⟨zero, hzero, h⟩ := h
    replace h := cond_some h; obtain ⟨h1, h⟩ := h
    replace h := cond_some h; obtain ⟨h2, h⟩ := h
    replace h := cond_some h; obtain ⟨h3, h⟩ := h
    replace h := cond_some h; obtain ⟨h4, h⟩ := h
    replace h := cond_some h; obtain ⟨h5, h⟩ := h
    cases h
    have h1 := Nat.eq_of_beq_eq_true h1
    have h2 := Nat.le_of_ble_eq_true h2
    have h3 := Nat.le_of_ble_eq_true h3
    have h5 : i.bytes * c ≤ room := Nat.le_of_ble_eq_true h5
    unfold room at h5
    cases hn; cases hc
    have hzc := AV.cells_vr (cv_vr ρ ha) hzero
    have hsz : z.cells.size = i.size := by rw [← hzc.1, ← llen_eq]; exact h1
    have hv := zeros_vr hzc c
    have hb : (i.bytes : Int) * (Int.ofNat c) ≤ 281474976710656 := by
      have h : ((i.bytes * c : Nat) : Int) ≤ 281474976710656 := by omega
      rwa [Int.natCast_mul] at h
    have hrun := run_make (P := P) w t elem i z hu hi hz .i64 .i64 (Int.ofNat n) (Int.ofNat c) (by simp) (by simpa using h2) hb (by simp; omega)
    have hm : madeCells z.cells ((Int.ofNat c).toNat * i.size) = (Array.range (c * z.cells.size)).map (z.cells[· % z.cells.size]!) := by
      rw [hsz]; simp [madeCells, hsz]
    rw [hm] at hrun
    exact ⟨_, _, _, _, hrun, rfl, rfl, rfl, rfl, fun id hid => ⟨cells_BR elem hv hid, .slice (upd_self _ _ _ _) rfl h2⟩⟩
  · cases h

/-- Append, of a slice or of a string. -/
noncomputable def appendAnyA (P : Program) (s : St) (t tx : TypeId) (x y : AV) : Option (AV × St) :=
  match y with
  | .str y => appendStrA P s t tx x y
  | _ => appendA P s t tx x y

theorem appendAnyA_run {P : Program} {ρ : BMap} {s s' : St} {w : World} {t tx ty : TypeId} {x y v : AV} {x' y' : Value} (h : appendAnyA P s t tx x y = some (v, s')) (hr : HR ρ s w) (hx : VR ρ x x') (hy : VR ρ y y') :
    EffR P (Builtin.append_ #[t, tx] ty #[x', y']) ρ s w v s' := by
  unfold appendAnyA at h
  split at h
  · cases hy
    exact .inl (appendStrA_run h hr hx)
  · exact appendA_run h hr hx hy

end Go.Proofs.Bx
