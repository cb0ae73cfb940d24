/- What is remembered at level 5. -/
import Derived.Test.YthfppcmphkljkaaGreatM5a
set_option linter.unusedVariables false
set_option linter.unusedSimpArgs false
set_option linter.unusedSectionVars false
namespace Go.Proofs.YthfppcmphkljkaaGreat
open Go Go.Proofs.Bx

noncomputable def book5 : Book := [(84, b5_84_0), (85, b5_85_0), (86, b5_86_0), (87, b5_87_0), (287, b5_287_0 ++ (b5_287_1 ++ (b5_287_2 ++ (b5_287_3 ++ (b5_287_4)))))]

noncomputable def mm5 : CallK := orK (bookK book5) mm4

theorem book5_ok : book5.Ok (callM Tryz.prog mm4 1000 1000 300) := by
  intro x hx
  simp only [book5, List.mem_cons, List.not_mem_nil, or_false] at hx
  rcases hx with rfl | rfl | rfl | rfl | rfl
  · exact b5_84_0_ok
  · exact b5_85_0_ok
  · exact b5_86_0_ok
  · exact b5_87_0_ok
  · exact okAll_append (okAll_append (okAll_append (okAll_append (b5_287_4_ok) b5_287_3_ok) b5_287_2_ok) b5_287_1_ok) b5_287_0_ok

theorem mm5_sound (S : Sym) : @CallSound S Tryz.prog mm5 := orK_sound (bookK_sound (fun S => callM_sound mixed (mm4_sound S) 1000 1000 300) book5_ok) (mm4_sound S)

end Go.Proofs.YthfppcmphkljkaaGreat
