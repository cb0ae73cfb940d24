/- What is remembered at level 8. -/
import Derived.Test.YthfppcmphkljkaaGreatM8a
import Derived.Test.YthfppcmphkljkaaGreatM8b
set_option linter.unusedVariables false
set_option linter.unusedSimpArgs false
set_option linter.unusedSectionVars false
namespace Go.Proofs.YthfppcmphkljkaaGreat
open Go Go.Proofs.Bx

noncomputable def book8 : Book := [(45, b8_45_0 ++ (b8_45_1 ++ (b8_45_2))), (15, b8_15_0 ++ (b8_15_1 ++ (b8_15_2 ++ (b8_15_3 ++ (b8_15_4 ++ (b8_15_5))))))]

noncomputable def mm8 : CallK := orK (bookK book8) mm7

theorem book8_ok : book8.Ok (callM Tryz.prog mm7 1000 1000 300) := by
  intro x hx
  simp only [book8, List.mem_cons, List.not_mem_nil, or_false] at hx
  rcases hx with rfl | rfl
  · exact okAll_append (okAll_append (b8_45_2_ok) b8_45_1_ok) b8_45_0_ok
  · exact okAll_append (okAll_append (okAll_append (okAll_append (okAll_append (b8_15_5_ok) b8_15_4_ok) b8_15_3_ok) b8_15_2_ok) b8_15_1_ok) b8_15_0_ok

theorem mm8_sound (S : Sym) : @CallSound S Tryz.prog mm8 := orK_sound (bookK_sound (fun S => callM_sound mixed (mm7_sound S) 1000 1000 300) book8_ok) (mm7_sound S)

end Go.Proofs.YthfppcmphkljkaaGreat
