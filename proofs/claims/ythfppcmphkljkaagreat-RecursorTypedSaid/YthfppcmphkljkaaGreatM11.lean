/- What is remembered at level 11. -/
import Derived.Test.YthfppcmphkljkaaGreatM11a
import Derived.Test.YthfppcmphkljkaaGreatM11b
set_option linter.unusedVariables false
set_option linter.unusedSimpArgs false
set_option linter.unusedSectionVars false
namespace Go.Proofs.YthfppcmphkljkaaGreat
open Go Go.Proofs.Bx

noncomputable def book11 : Book := [(7, b11_7_0 ++ (b11_7_1 ++ (b11_7_2 ++ (b11_7_3 ++ (b11_7_4 ++ (b11_7_5 ++ (b11_7_6 ++ (b11_7_7 ++ (b11_7_8 ++ (b11_7_9 ++ (b11_7_10 ++ (b11_7_11)))))))))))), (9, b11_9_0 ++ (b11_9_1 ++ (b11_9_2 ++ (b11_9_3 ++ (b11_9_4 ++ (b11_9_5))))))]

noncomputable def mm11 : CallK := orK (bookK book11) mm10

theorem book11_ok : book11.Ok (callM Tryz.prog mm10 1000 1000 300) := by
  intro x hx
  simp only [book11, List.mem_cons, List.not_mem_nil, or_false] at hx
  rcases hx with rfl | rfl
  · exact okAll_append (okAll_append (okAll_append (okAll_append (okAll_append (okAll_append (okAll_append (okAll_append (okAll_append (okAll_append (okAll_append (b11_7_11_ok) b11_7_10_ok) b11_7_9_ok) b11_7_8_ok) b11_7_7_ok) b11_7_6_ok) b11_7_5_ok) b11_7_4_ok) b11_7_3_ok) b11_7_2_ok) b11_7_1_ok) b11_7_0_ok
  · exact okAll_append (okAll_append (okAll_append (okAll_append (okAll_append (b11_9_5_ok) b11_9_4_ok) b11_9_3_ok) b11_9_2_ok) b11_9_1_ok) b11_9_0_ok

theorem mm11_sound (S : Sym) : @CallSound S Tryz.prog mm11 := orK_sound (bookK_sound (fun S => callM_sound mixed (mm10_sound S) 1000 1000 300) book11_ok) (mm10_sound S)

end Go.Proofs.YthfppcmphkljkaaGreat
