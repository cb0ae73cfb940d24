/- What is remembered at level 7. -/
import Derived.Test.YthfppcmphkljkaaGreatM7a
import Derived.Test.YthfppcmphkljkaaGreatM7b
import Derived.Test.YthfppcmphkljkaaGreatM7c
import Derived.Test.YthfppcmphkljkaaGreatM7d
set_option linter.unusedVariables false
set_option linter.unusedSimpArgs false
set_option linter.unusedSectionVars false
namespace Go.Proofs.YthfppcmphkljkaaGreat
open Go Go.Proofs.Bx

noncomputable def book7 : Book := [(21, b7_21_0 ++ (b7_21_1)), (74, b7_74_0), (47, b7_47_0 ++ (b7_47_1 ++ (b7_47_2 ++ (b7_47_3 ++ (b7_47_4))))), (231, b7_231_0 ++ (b7_231_1 ++ (b7_231_2 ++ (b7_231_3 ++ (b7_231_4))))), (234, b7_234_0 ++ (b7_234_1 ++ (b7_234_2 ++ (b7_234_3 ++ (b7_234_4 ++ (b7_234_5 ++ (b7_234_6 ++ (b7_234_7 ++ (b7_234_8 ++ (b7_234_9 ++ (b7_234_10 ++ (b7_234_11 ++ (b7_234_12 ++ (b7_234_13 ++ (b7_234_14 ++ (b7_234_15 ++ (b7_234_16 ++ (b7_234_17 ++ (b7_234_18 ++ (b7_234_19 ++ (b7_234_20 ++ (b7_234_21))))))))))))))))))))))]

noncomputable def mm7 : CallK := orK (bookK book7) mm6

theorem book7_ok : book7.Ok (callM Tryz.prog mm6 1000 1000 300) := by
  intro x hx
  simp only [book7, List.mem_cons, List.not_mem_nil, or_false] at hx
  rcases hx with rfl | rfl | rfl | rfl | rfl
  · exact okAll_append (b7_21_1_ok) b7_21_0_ok
  · exact b7_74_0_ok
  · exact okAll_append (okAll_append (okAll_append (okAll_append (b7_47_4_ok) b7_47_3_ok) b7_47_2_ok) b7_47_1_ok) b7_47_0_ok
  · exact okAll_append (okAll_append (okAll_append (okAll_append (b7_231_4_ok) b7_231_3_ok) b7_231_2_ok) b7_231_1_ok) b7_231_0_ok
  · exact okAll_append (okAll_append (okAll_append (okAll_append (okAll_append (okAll_append (okAll_append (okAll_append (okAll_append (okAll_append (okAll_append (okAll_append (okAll_append (okAll_append (okAll_append (okAll_append (okAll_append (okAll_append (okAll_append (okAll_append (okAll_append (b7_234_21_ok) b7_234_20_ok) b7_234_19_ok) b7_234_18_ok) b7_234_17_ok) b7_234_16_ok) b7_234_15_ok) b7_234_14_ok) b7_234_13_ok) b7_234_12_ok) b7_234_11_ok) b7_234_10_ok) b7_234_9_ok) b7_234_8_ok) b7_234_7_ok) b7_234_6_ok) b7_234_5_ok) b7_234_4_ok) b7_234_3_ok) b7_234_2_ok) b7_234_1_ok) b7_234_0_ok

theorem mm7_sound (S : Sym) : @CallSound S Tryz.prog mm7 := orK_sound (bookK_sound (fun S => callM_sound mixed (mm6_sound S) 1000 1000 300) book7_ok) (mm6_sound S)

end Go.Proofs.YthfppcmphkljkaaGreat
