/- The calls of law MemoNil where there is no memo. -/
import Derived.Test.YtbbkhiapcclnpaaGreatDoorWorks
import Derived.Test.YtbbkhiapcclnpaaGreatDoorDeep
set_option linter.unusedVariables false
set_option linter.unusedSimpArgs false
set_option linter.unusedSectionVars false
set_option maxRecDepth 100000
namespace Go.Proofs.YtbbkhiapcclnpaaGreatDoor
open Go Go.RowKit Go.Proofs.Bx

noncomputable def u5 : AV := .agg (List.replicate 5 .undef)

theorem r6 : resIs (KK (.fn 6) [.ptr none, .slice none 0 (.exact 0), u5] ⟨.nil, 0⟩) (.tuple [.agg [.int .u8 0, .int .i64 0, .str ⟨#[]⟩, .slice none 0 (.exact 0), .slice none 0 (.exact 0)], .int .i64 2]) = true := by decide +kernel
theorem r7 : resIs (KK (.fn 7) [.ptr none, .slice none 0 (.exact 0), u5] ⟨.nil, 0⟩) (.tuple [.agg [.int .i64 0, .int .i64 0, .int .i64 0, .int .i64 0, .int .i64 0], .int .i64 2]) = true := by decide +kernel
theorem r8 : resIs (KK (.fn 8) [.ptr none, .ptr none, .int .i64 0] ⟨.nil, 0⟩) (.tuple [.ptr none, .int .i64 2]) = true := by decide +kernel
theorem r9 : resIs (KK (.fn 9) [.ptr none, .slice none 0 (.exact 0), u5, u5] ⟨.nil, 0⟩) (.int .i64 2) = true := by decide +kernel
theorem r10 : resIs (KK (.fn 10) [.ptr none] ⟨.nil, 0⟩) (.int .i64 0) = true := by decide +kernel

theorem c6 (a : Array Value) (ha : a.size = 5) (w : World) : Calls Tryz.prog 6 #[.pointer none, .slice none 0 0, .agg a] w fun e w' => e = .returned (.tuple #[.agg #[.int .u8 0, .int .i64 0, .string ⟨#[]⟩, .slice none 0 0, .slice none 0 0], .int .i64 2]) ∧ Below w.heap.size w w' := by
  have hv : VRs (fun _ => none) [.ptr none, .slice none 0 (.exact 0), u5] #[.pointer none, .slice none 0 0, .agg a] := (((VRs.nil _).push .ptrNil).push .sliceNil).push (undefs_vr _ a 5 ha)
  refine (call_any KK_sound r6 hv w).mono fun e w' ⟨⟨v', ρ', he, hr⟩, hb⟩ => ⟨?_, hb⟩
  cases hr with
  | tuple h1 g1 =>
    obtain ⟨y, ys, rfl, hy, hys⟩ := VRs.cons_inv (ρ := ρ') ⟨h1, g1⟩
    rw [he, atomVals_ok (us := [.int .i64 2]) rfl hys]
    cases hy with
    | agg h2 g2 => rw [atomVals_ok (us := [.int .u8 0, .int .i64 0, .string ⟨#[]⟩, .slice none 0 0, .slice none 0 0]) rfl ⟨h2, g2⟩]; rfl

theorem c7 (a : Array Value) (ha : a.size = 5) (w : World) : Calls Tryz.prog 7 #[.pointer none, .slice none 0 0, .agg a] w fun e w' => e = .returned (.tuple #[.agg #[.int .i64 0, .int .i64 0, .int .i64 0, .int .i64 0, .int .i64 0], .int .i64 2]) ∧ Below w.heap.size w w' := by
  have hv : VRs (fun _ => none) [.ptr none, .slice none 0 (.exact 0), u5] #[.pointer none, .slice none 0 0, .agg a] := (((VRs.nil _).push .ptrNil).push .sliceNil).push (undefs_vr _ a 5 ha)
  refine (call_any KK_sound r7 hv w).mono fun e w' ⟨⟨v', ρ', he, hr⟩, hb⟩ => ⟨?_, hb⟩
  cases hr with
  | tuple h1 g1 =>
    obtain ⟨y, ys, rfl, hy, hys⟩ := VRs.cons_inv (ρ := ρ') ⟨h1, g1⟩
    rw [he, atomVals_ok (us := [.int .i64 2]) rfl hys]
    cases hy with
    | agg h2 g2 => rw [atomVals_ok (us := [.int .i64 0, .int .i64 0, .int .i64 0, .int .i64 0, .int .i64 0]) rfl ⟨h2, g2⟩]; rfl

theorem c8 (w : World) : Calls Tryz.prog 8 #[.pointer none, .pointer none, .int .i64 0] w fun e w' => e = .returned (.tuple #[.pointer none, .int .i64 2]) ∧ Below w.heap.size w w' := by
  have hv : VRs (fun _ => none) [.ptr none, .ptr none, .int .i64 0] #[.pointer none, .pointer none, .int .i64 0] := (((VRs.nil _).push .ptrNil).push .ptrNil).push (.int _ _)
  refine (call_any KK_sound r8 hv w).mono fun e w' ⟨⟨v', ρ', he, hr⟩, hb⟩ => ⟨?_, hb⟩
  cases hr with
  | tuple h1 g1 => rw [he, atomVals_ok (us := [.pointer none, .int .i64 2]) rfl ⟨h1, g1⟩]

theorem c9 (a b : Array Value) (ha : a.size = 5) (hb : b.size = 5) (w : World) : Calls Tryz.prog 9 #[.pointer none, .slice none 0 0, .agg a, .agg b] w fun e w' => e = .returned (.int .i64 2) ∧ Below w.heap.size w w' := by
  have hv : VRs (fun _ => none) [.ptr none, .slice none 0 (.exact 0), u5, u5] #[.pointer none, .slice none 0 0, .agg a, .agg b] := ((((VRs.nil _).push .ptrNil).push .sliceNil).push (undefs_vr _ a 5 ha)).push (undefs_vr _ b 5 hb)
  refine (call_any KK_sound r9 hv w).mono fun e w' ⟨⟨v', ρ', he, hr⟩, hb⟩ => ⟨?_, hb⟩
  rw [he, atomVal_ok (u := .int .i64 2) rfl hr]

theorem c10 (w : World) : Calls Tryz.prog 10 #[.pointer none] w fun e w' => e = .returned (.int .i64 0) ∧ Below w.heap.size w w' := by
  have hv : VRs (fun _ => none) [.ptr none] #[.pointer none] := (VRs.nil _).push .ptrNil
  refine (call_any KK_sound r10 hv w).mono fun e w' ⟨⟨v', ρ', he, hr⟩, hb⟩ => ⟨?_, hb⟩
  rw [he, atomVal_ok (u := .int .i64 0) rfl hr]

end Go.Proofs.YtbbkhiapcclnpaaGreatDoor
