/- What is remembered at level 9. -/
import Derived.Test.YthfppcmphkljkaaGreatM9a
import Derived.Test.YthfppcmphkljkaaGreatM9b
import Derived.Test.YthfppcmphkljkaaGreatM9c
import Derived.Test.YthfppcmphkljkaaGreatM9d
import Derived.Test.YthfppcmphkljkaaGreatM9e
import Derived.Test.YthfppcmphkljkaaGreatM9f
import Derived.Test.YthfppcmphkljkaaGreatM9g
import Derived.Test.YthfppcmphkljkaaGreatM9h
set_option linter.unusedVariables false
set_option linter.unusedSimpArgs false
set_option linter.unusedSectionVars false
namespace Go.Proofs.YthfppcmphkljkaaGreat
open Go Go.Proofs.Bx

noncomputable def book9 : Book := [(226, b9_226_0 ++ (b9_226_1 ++ (b9_226_2 ++ (b9_226_3)))), (55, b9_55_0 ++ (b9_55_1 ++ (b9_55_2 ++ (b9_55_3 ++ (b9_55_4 ++ (b9_55_5 ++ (b9_55_6 ++ (b9_55_7 ++ (b9_55_8 ++ (b9_55_9 ++ (b9_55_10 ++ (b9_55_11 ++ (b9_55_12 ++ (b9_55_13 ++ (b9_55_14 ++ (b9_55_15 ++ (b9_55_16 ++ (b9_55_17 ++ (b9_55_18 ++ (b9_55_19 ++ (b9_55_20 ++ (b9_55_21 ++ (b9_55_22 ++ (b9_55_23 ++ (b9_55_24 ++ (b9_55_25 ++ (b9_55_26 ++ (b9_55_27 ++ (b9_55_28 ++ (b9_55_29 ++ (b9_55_30 ++ (b9_55_31 ++ (b9_55_32))))))))))))))))))))))))))))))))), (56, b9_56_0 ++ (b9_56_1 ++ (b9_56_2 ++ (b9_56_3 ++ (b9_56_4 ++ (b9_56_5 ++ (b9_56_6 ++ (b9_56_7 ++ (b9_56_8 ++ (b9_56_9 ++ (b9_56_10 ++ (b9_56_11 ++ (b9_56_12 ++ (b9_56_13 ++ (b9_56_14 ++ (b9_56_15 ++ (b9_56_16 ++ (b9_56_17 ++ (b9_56_18 ++ (b9_56_19 ++ (b9_56_20 ++ (b9_56_21 ++ (b9_56_22 ++ (b9_56_23 ++ (b9_56_24 ++ (b9_56_25 ++ (b9_56_26 ++ (b9_56_27 ++ (b9_56_28 ++ (b9_56_29 ++ (b9_56_30 ++ (b9_56_31 ++ (b9_56_32 ++ (b9_56_33))))))))))))))))))))))))))))))))))]

noncomputable def mm9 : CallK := orK (bookK book9) mm8

theorem book9_ok : book9.Ok (callM Tryz.prog mm8 1000 1000 300) := by
  intro x hx
  simp only [book9, List.mem_cons, List.not_mem_nil, or_false] at hx
  rcases hx with rfl | rfl | rfl
  · exact okAll_append (okAll_append (okAll_append (b9_226_3_ok) b9_226_2_ok) b9_226_1_ok) b9_226_0_ok
  · exact okAll_append (okAll_append (okAll_append (okAll_append (okAll_append (okAll_append (okAll_append (okAll_append (okAll_append (okAll_append (okAll_append (okAll_append (okAll_append (okAll_append (okAll_append (okAll_append (okAll_append (okAll_append (okAll_append (okAll_append (okAll_append (okAll_append (okAll_append (okAll_append (okAll_append (okAll_append (okAll_append (okAll_append (okAll_append (okAll_append (okAll_append (okAll_append (b9_55_32_ok) b9_55_31_ok) b9_55_30_ok) b9_55_29_ok) b9_55_28_ok) b9_55_27_ok) b9_55_26_ok) b9_55_25_ok) b9_55_24_ok) b9_55_23_ok) b9_55_22_ok) b9_55_21_ok) b9_55_20_ok) b9_55_19_ok) b9_55_18_ok) b9_55_17_ok) b9_55_16_ok) b9_55_15_ok) b9_55_14_ok) b9_55_13_ok) b9_55_12_ok) b9_55_11_ok) b9_55_10_ok) b9_55_9_ok) b9_55_8_ok) b9_55_7_ok) b9_55_6_ok) b9_55_5_ok) b9_55_4_ok) b9_55_3_ok) b9_55_2_ok) b9_55_1_ok) b9_55_0_ok
  · exact okAll_append (okAll_append (okAll_append (okAll_append (okAll_append (okAll_append (okAll_append (okAll_append (okAll_append (okAll_append (okAll_append (okAll_append (okAll_append (okAll_append (okAll_append (okAll_append (okAll_append (okAll_append (okAll_append (okAll_append (okAll_append (okAll_append (okAll_append (okAll_append (okAll_append (okAll_append (okAll_append (okAll_append (okAll_append (okAll_append (okAll_append (okAll_append (okAll_append (b9_56_33_ok) b9_56_32_ok) b9_56_31_ok) b9_56_30_ok) b9_56_29_ok) b9_56_28_ok) b9_56_27_ok) b9_56_26_ok) b9_56_25_ok) b9_56_24_ok) b9_56_23_ok) b9_56_22_ok) b9_56_21_ok) b9_56_20_ok) b9_56_19_ok) b9_56_18_ok) b9_56_17_ok) b9_56_16_ok) b9_56_15_ok) b9_56_14_ok) b9_56_13_ok) b9_56_12_ok) b9_56_11_ok) b9_56_10_ok) b9_56_9_ok) b9_56_8_ok) b9_56_7_ok) b9_56_6_ok) b9_56_5_ok) b9_56_4_ok) b9_56_3_ok) b9_56_2_ok) b9_56_1_ok) b9_56_0_ok

theorem mm9_sound (S : Sym) : @CallSound S Tryz.prog mm9 := orK_sound (bookK_sound (fun S => callM_sound mixed (mm8_sound S) 1000 1000 300) book9_ok) (mm8_sound S)

end Go.Proofs.YthfppcmphkljkaaGreat
