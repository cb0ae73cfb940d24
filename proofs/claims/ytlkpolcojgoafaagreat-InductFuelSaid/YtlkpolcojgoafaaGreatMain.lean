/- InductFuel: whichever block and engine, however much fuel: the law's function returns true. No condition beyond the row's own. -/
import Derived.Test.YtlkpolcojgoafaaGreatR
import Derived.Test.YtlkpolcojgoafaaGreatRows
import Derived.ProofKit
import Derived.Carry
set_option linter.unusedVariables false
set_option linter.unusedSimpArgs false
set_option linter.unusedSectionVars false
namespace Go.Proofs.YtlkpolcojgoafaaGreat
open Go Go.RowKit Go.Proofs.Bx

/-- A run of which the two numbers' remainders alone were known, and of the fuel nothing. -/
theorem run_any {w e : Nat} (h : resIs (KK (.fn 3) [.res .u8 3 w, .res .u8 3 e, .symk .u16 0] ⟨.nil, 0⟩) (.bool true) = true)
    {a b f : Int} (a0 : 0 ≤ a) (a1 : a ≤ 255) (b0 : 0 ≤ b) (b1 : b ≤ 255) (f0 : 0 ≤ f) (f1 : f ≤ 65535)
    (ha : a % ((3 : Nat) : Int) = (w : Int)) (hb : b % ((3 : Nat) : Int) = (e : Int)) (W : World) :
    Calls Tryz.prog 3 #[.int .u8 a, .int .u8 b, .int .u16 f] W fun e W' => e = .returned (.bool true) ∧ Below W.heap.size W W' := by
  letI : Sym := ⟨f⟩
  have hf : VR (fun _ => none) (.symk .u16 0) (.int .u16 f) := VR.symk (k := .u16) (m := 0) (by show ((0 : Nat) : Int) ≤ f; omega) (by show f ≤ 65535; exact f1)
  have hv : VRs (fun _ => none) [.res .u8 3 w, .res .u8 3 e, .symk .u16 0] #[.int .u8 a, .int .u8 b, .int .u16 f] :=
    (((VRs.nil _).push (.res a0 a1 ha)).push (.res b0 b1 hb)).push hf
  refine (call_any (KK_sound _) h hv W).mono fun e W' ⟨⟨v', ρ', he, hr⟩, hw⟩ => ⟨?_, hw⟩
  cases hr
  exact he

theorem law_any (a b f : Int) (a0 : 0 ≤ a) (a1 : a ≤ 255) (b0 : 0 ≤ b) (b1 : b ≤ 255) (f0 : 0 ≤ f) (f1 : f ≤ 65535) (W : World) :
    Calls Tryz.prog 3 #[.int .u8 a, .int .u8 b, .int .u16 f] W fun e W' => e = .returned (.bool true) ∧ Below W.heap.size W W' := by
  have ha : a % 3 = 0 ∨ a % 3 = 1 ∨ a % 3 = 2 := by omega
  have hb : b % 3 = 0 ∨ b % 3 = 1 ∨ b % 3 = 2 := by omega
  rcases ha with ha | ha | ha
  · rcases hb with hb | hb | hb
    · exact run_any run_0_0 a0 a1 b0 b1 f0 f1 ha hb W
    · exact run_any run_0_1 a0 a1 b0 b1 f0 f1 ha hb W
    · exact run_any run_0_2 a0 a1 b0 b1 f0 f1 ha hb W
  · rcases hb with hb | hb | hb
    · exact run_any run_1_0 a0 a1 b0 b1 f0 f1 ha hb W
    · exact run_any run_1_1 a0 a1 b0 b1 f0 f1 ha hb W
    · exact run_any run_1_2 a0 a1 b0 b1 f0 f1 ha hb W
  · rcases hb with hb | hb | hb
    · exact run_any run_2_0 a0 a1 b0 b1 f0 f1 ha hb W
    · exact run_any run_2_1 a0 a1 b0 b1 f0 f1 ha hb W
    · exact run_any run_2_2 a0 a1 b0 b1 f0 f1 ha hb W

end Go.Proofs.YtlkpolcojgoafaaGreat
