/- What is remembered at level 10. -/
import Derived.Test.YthfppcmphkljkaaGreatM10a
set_option linter.unusedVariables false
set_option linter.unusedSimpArgs false
set_option linter.unusedSectionVars false
namespace Go.Proofs.YthfppcmphkljkaaGreat
open Go Go.Proofs.Bx

noncomputable def book10 : Book := [(13, b10_13_0), (14, b10_14_0), (8, b10_8_0 ++ (b10_8_1 ++ (b10_8_2 ++ (b10_8_3 ++ (b10_8_4 ++ (b10_8_5)))))), (11, b10_11_0)]

noncomputable def mm10 : CallK := orK (bookK book10) mm9

theorem book10_ok : book10.Ok (callM Tryz.prog mm9 1000 1000 300) := by
  intro x hx
  simp only [book10, List.mem_cons, List.not_mem_nil, or_false] at hx
  rcases hx with rfl | rfl | rfl | rfl
  · exact b10_13_0_ok
  · exact b10_14_0_ok
  · exact okAll_append (okAll_append (okAll_append (okAll_append (okAll_append (b10_8_5_ok) b10_8_4_ok) b10_8_3_ok) b10_8_2_ok) b10_8_1_ok) b10_8_0_ok
  · exact b10_11_0_ok

theorem mm10_sound (S : Sym) : @CallSound S Tryz.prog mm10 := orK_sound (bookK_sound (fun S => callM_sound mixed (mm9_sound S) 1000 1000 300) book10_ok) (mm9_sound S)

end Go.Proofs.YthfppcmphkljkaaGreat
