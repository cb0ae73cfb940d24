/- What is remembered at level 4. -/
import Derived.Test.YthfppcmphkljkaaGreatM4a
import Derived.Test.YthfppcmphkljkaaGreatM4b
import Derived.Test.YthfppcmphkljkaaGreatM4c
set_option linter.unusedVariables false
set_option linter.unusedSimpArgs false
set_option linter.unusedSectionVars false
namespace Go.Proofs.YthfppcmphkljkaaGreat
open Go Go.Proofs.Bx

noncomputable def book4 : Book := [(116, b4_116_0 ++ (b4_116_1 ++ (b4_116_2 ++ (b4_116_3 ++ (b4_116_4 ++ (b4_116_5 ++ (b4_116_6 ++ (b4_116_7 ++ (b4_116_8 ++ (b4_116_9 ++ (b4_116_10 ++ (b4_116_11 ++ (b4_116_12))))))))))))), (119, b4_119_0 ++ (b4_119_1 ++ (b4_119_2 ++ (b4_119_3 ++ (b4_119_4 ++ (b4_119_5 ++ (b4_119_6 ++ (b4_119_7 ++ (b4_119_8))))))))), (166, b4_166_0), (288, b4_288_0 ++ (b4_288_1 ++ (b4_288_2 ++ (b4_288_3 ++ (b4_288_4 ++ (b4_288_5 ++ (b4_288_6)))))))]

noncomputable def mm4 : CallK := orK (bookK book4) mm3

theorem book4_ok : book4.Ok (callM Tryz.prog mm3 1000 1000 300) := by
  intro x hx
  simp only [book4, List.mem_cons, List.not_mem_nil, or_false] at hx
  rcases hx with rfl | rfl | rfl | rfl
  · exact okAll_append (okAll_append (okAll_append (okAll_append (okAll_append (okAll_append (okAll_append (okAll_append (okAll_append (okAll_append (okAll_append (okAll_append (b4_116_12_ok) b4_116_11_ok) b4_116_10_ok) b4_116_9_ok) b4_116_8_ok) b4_116_7_ok) b4_116_6_ok) b4_116_5_ok) b4_116_4_ok) b4_116_3_ok) b4_116_2_ok) b4_116_1_ok) b4_116_0_ok
  · exact okAll_append (okAll_append (okAll_append (okAll_append (okAll_append (okAll_append (okAll_append (okAll_append (b4_119_8_ok) b4_119_7_ok) b4_119_6_ok) b4_119_5_ok) b4_119_4_ok) b4_119_3_ok) b4_119_2_ok) b4_119_1_ok) b4_119_0_ok
  · exact b4_166_0_ok
  · exact okAll_append (okAll_append (okAll_append (okAll_append (okAll_append (okAll_append (b4_288_6_ok) b4_288_5_ok) b4_288_4_ok) b4_288_3_ok) b4_288_2_ok) b4_288_1_ok) b4_288_0_ok

theorem mm4_sound (S : Sym) : @CallSound S Tryz.prog mm4 := orK_sound (bookK_sound (fun S => callM_sound mixed (mm3_sound S) 1000 1000 300) book4_ok) (mm3_sound S)

end Go.Proofs.YthfppcmphkljkaaGreat
