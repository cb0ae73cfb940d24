/- The walker over this program; and the one function of the library that it does not run: (*strings.Builder).copyCheck (a pointer turned into an unsafe.Pointer and back): a contract. -/
import Derived.Test.YtbbkhiapcclnpaaGreatDoorBxMemo2
import Derived.Test.YtbbkhiapcclnpaaGreatDoorProg
import Derived.KernelRfl
import Derived.WalkKit
import Derived.Lib.Builder
import Derived.Laws.Externs
set_option linter.unusedVariables false
set_option linter.unusedSimpArgs false
set_option linter.unusedSectionVars false
namespace Go.Proofs.YtbbkhiapcclnpaaGreatDoor
open Go Go.RowKit Go.Proofs.Bx

theorem mixed : Tryz.prog.follows .mixedOrders = true := by kernel_rfl

/-- Where a row of e's stands, an e stands at its head. -/
theorem liesAt_self {P : Program} {e : TypeId} (hc : P.cellsOf e ≠ 0) (count : Nat) (hn : 1 ≤ count) : liesAt P P.depth e count 0 e 1 = true := by
  have hd : P.depth = (2 * (P.types.size + Made.depth) + 1) + 1 := rfl
  rw [hd]
  simp only [liesAt, Bool.or_eq_true]
  left
  rw [hd]
  simp [rowAt, hc, hn, sameLayout]

theorem enters_fn {P : Program} {f : FuncId} {fn : Func} (hf : P.funcs[f]? = some fn) (hname : (fn.name == "runtime.NumGoroutine") = false) (hb : fn.body.isSome = true) (args : Array Value) (w : World) : (callFunc f args).run P w = .ok (.enter f args) w := by
  obtain ⟨c, hc⟩ := Option.isSome_iff_exists.1 hb
  have h1 : fn.name ≠ "runtime.NumGoroutine" := by simpa using hname
  simp [callFunc, hf, h1, hc, mark]

theorem size72 : (Tryz.prog.info? 72).map (·.size) = some 2 := by kernel_rfl
theorem cells72 : Tryz.prog.cellsOf 72 = 2 := by kernel_rfl

set_option maxHeartbeats 1000000 in
set_option maxRecDepth 100000 in
/-- copyCheck at a fresh builder: it keeps its own address. -/
theorem copyCheck_fresh (b n : Nat) (w : World) (h0 : w.cell? ⟨b, 0, none⟩ = some (.pointer none)) (hsh : w.shape? b = some (72, n)) (hn : 2 ≤ n) (hfz : w.frozen? ⟨b, 0, none⟩ = false) :
    Calls Tryz.prog 43 #[.pointer (some ⟨b, 0, none⟩)] w fun e w' => e = .returned (.tuple #[]) ∧ w' = w.setCell ⟨b, 0, none⟩ (.pointer (some ⟨b, 0, none⟩)) := by
  obtain ⟨j, hj, hjs⟩ := Option.map_eq_some_iff.1 size72
  go_enter Tryz.func43, Tryz.ntmps43
  go_wp2
  rw [Lib.run_to_unsafe w ⟨b, 0, none⟩ Tryz.underlying69 Tryz.underlying127 hj (by rw [hjs]; decide) hsh (by show 0 < n; omega)]
  simp only [Result.andThen]
  rw [Oper.upon_value]
  go_wp2
  rw [run_callFunc_extern Tryz.func63 (by kernel_rfl) (by kernel_rfl) (by kernel_rfl) (e := Extern.AbiNoEscape.same) (by kernel_rfl)]
  rw [Lib.run_noEscape]
  simp only [Result.andThen]
  rw [Oper.upon_value]
  go_wp2
  rw [Lib.run_from_unsafe w ⟨b, 0, none⟩ Tryz.underlying127 Tryz.underlying69 hj hsh (liesAt_self (by rw [cells72]; decide) _ (by rw [cells72]; omega))]
  simp only [Result.andThen]
  rw [Oper.upon_value]
  go_wp2
  go_end0
  exact ⟨rfl, rfl⟩

set_option maxHeartbeats 1000000 in
set_option maxRecDepth 100000 in
/-- copyCheck at a builder that keeps its own address: nothing turns. -/
theorem copyCheck_used (b : Nat) (w : World) (h0 : w.cell? ⟨b, 0, none⟩ = some (.pointer (some ⟨b, 0, none⟩))) :
    Calls Tryz.prog 43 #[.pointer (some ⟨b, 0, none⟩)] w fun e w' => e = .returned (.tuple #[]) ∧ w' = w := by
  obtain ⟨j, hj, _⟩ := Option.map_eq_some_iff.1 size72
  go_enter Tryz.func43, Tryz.ntmps43
  go_wp2
  rw [Lib.run_neq_ptr_same w _ Tryz.underlying69 hj]
  go_wp2
  go_end0
  exact ⟨rfl, rfl⟩

/-- copyCheck, in the walker's words. -/
noncomputable def copyA (args : List AV) (s : St) : Option (AV × St) :=
  match args with
  | [.ptr (some (b, 0))] => match s.get b with
    | some (.cells [.ptr none, _] true (some t)) => cond (Nat.beq t 72) (ob (putA s b 0 [.ptr (some (b, 0))]) fun s' => some (.tuple [], s')) none
    | some (.cells [.ptr (some (c, 0)), _] true _) => cond (Nat.beq c b) (some (.tuple [], s)) none
    | _ => none
  | _ => none

theorem copy_sound : CallSound Tryz.prog (onlyF 43 copyA) := by
  have open_ : ∀ {g : Tgt} {args : List AV} {s s' : St} {v : AV}, onlyF 43 copyA g args s = some (v, s') → g = .fn 43 ∧ copyA args s = some (v, s') := by
    intro g args s s' v h
    obtain ⟨e, h⟩ := cond_some h
    exact ⟨isFn_ok e, h⟩
  refine ⟨fun {g args s s' v ρ w args'} h hr ha => ?_, fun {g args s s' v w args'} h => ?_, fun {i args s s' v ρ w args' l z} h _ _ _ _ _ => by cases (open_ h).1⟩
  · obtain ⟨hg, h3⟩ := open_ h
    cases hg
    clear h
    have h := h3
    clear h3
    unfold copyA at h
    split at h
    · rename_i b
      obtain ⟨u, us, rfl, hu, hus⟩ := VRs.cons_inv ha
      have : us = #[] := Array.eq_empty_of_size_eq_zero (by rw [← hus.1]; rfl)
      subst this
      cases hu with
      | ptr hb =>
        rename_i r z
        split at h
        · rename_i x t hs
          replace h := cond_some h; obtain ⟨ht, h⟩ := h
          have ht := Nat.eq_of_beq_eq_true ht
          subst ht
          replace h := ob_some h; obtain ⟨s2, hput, h⟩ := h
          cases h
          obtain ⟨arr, elem, fz, hh, hz, hlen, hv, hfz, hty⟩ := hr.cells hs hb
          have hfz := hfz rfl
          have hty := hty _ rfl
          subst hfz; subst hty
          have hlen : 2 ≤ arr.size := hlen
          have hv0 := hv 0 _ arr[0] rfl (by simp)
          have e0 : arr[0] = .pointer none := by
            generalize arr[0] = q at hv0
            cases hv0; rfl
          have h0 : w.cell? ⟨r, 0, none⟩ = some (.pointer none) := by
            simp only [World.cell?, hh]
            simp [← e0]
          have hn1 : VRs ρ [.ptr (some (b, 0))] ([.pointer (some ⟨r, 0, none⟩)] : List Value).toArray := (VRs.nil ρ).push (.ptr hb)
          obtain ⟨_, p2⟩ := putA_run (P := Tryz.prog) (vs := [.pointer (some ⟨r, 0, none⟩)]) hput hr hb hn1 (by intro v hv; simp at hv; subst hv; rfl)
          refine (copyCheck_fresh r arr.size w h0 (by simp [World.shape?, hh]) hlen (by simp [World.frozen?, hh])).mono ?_
          rintro e w' ⟨rfl, rfl⟩
          exact ⟨ρ, p2, .tuple rfl (fun i v v' e => by simp at e)⟩
        · rename_i c x ty hs
          replace h := cond_some h; obtain ⟨hc, h⟩ := h
          have hc := Nat.eq_of_beq_eq_true hc
          subst hc
          cases h
          obtain ⟨arr, elem, fz, hh, hz, hlen, hv, hfz, hty⟩ := hr.cells hs hb
          have hlen : 2 ≤ arr.size := hlen
          have hv0 := hv 0 _ arr[0] rfl (by simp)
          have e0 : arr[0] = .pointer (some ⟨r, 0, none⟩) := by
            generalize arr[0] = q at hv0
            cases hv0 with
            | ptr hb' => rw [hb] at hb'; cases hb'; rfl
          have h0 : w.cell? ⟨r, 0, none⟩ = some (.pointer (some ⟨r, 0, none⟩)) := by
            simp only [World.cell?, hh]
            simp [← e0]
          refine (copyCheck_used r w h0).mono ?_
          rintro e w' ⟨rfl, rfl⟩
          exact ⟨ρ, .refl hr, .tuple rfl (fun i v v' e => by simp at e)⟩
        · cases h
    · cases h
  · obtain ⟨hg, _⟩ := open_ h
    cases hg
    exact enters_fn Tryz.func43 (by kernel_rfl) (by kernel_rfl) _ _

noncomputable def mm0 : CallK := onlyF 43 copyA
theorem mm0_sound : CallSound Tryz.prog mm0 := copy_sound

end Go.Proofs.YtbbkhiapcclnpaaGreatDoor
