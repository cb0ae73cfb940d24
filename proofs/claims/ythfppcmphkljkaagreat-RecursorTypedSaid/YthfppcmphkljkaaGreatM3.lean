/- What is remembered at level 3. -/
import Derived.Test.YthfppcmphkljkaaGreatM3a
import Derived.Test.YthfppcmphkljkaaGreatM3b
import Derived.Test.YthfppcmphkljkaaGreatM3c
set_option linter.unusedVariables false
set_option linter.unusedSimpArgs false
set_option linter.unusedSectionVars false
namespace Go.Proofs.YthfppcmphkljkaaGreat
open Go Go.Proofs.Bx

noncomputable def book3 : Book := [(34, b3_34_0 ++ (b3_34_1 ++ (b3_34_2 ++ (b3_34_3 ++ (b3_34_4 ++ (b3_34_5 ++ (b3_34_6 ++ (b3_34_7 ++ (b3_34_8 ++ (b3_34_9 ++ (b3_34_10 ++ (b3_34_11 ++ (b3_34_12 ++ (b3_34_13 ++ (b3_34_14 ++ (b3_34_15 ++ (b3_34_16 ++ (b3_34_17 ++ (b3_34_18 ++ (b3_34_19 ++ (b3_34_20 ++ (b3_34_21))))))))))))))))))))))]

noncomputable def mm3 : CallK := orK (bookK book3) mm2

theorem book3_ok : book3.Ok (callM Tryz.prog mm2 1000 1000 300) := by
  intro x hx
  simp only [book3, List.mem_cons, List.not_mem_nil, or_false] at hx
  rcases hx with rfl
  · exact okAll_append (okAll_append (okAll_append (okAll_append (okAll_append (okAll_append (okAll_append (okAll_append (okAll_append (okAll_append (okAll_append (okAll_append (okAll_append (okAll_append (okAll_append (okAll_append (okAll_append (okAll_append (okAll_append (okAll_append (okAll_append (b3_34_21_ok) b3_34_20_ok) b3_34_19_ok) b3_34_18_ok) b3_34_17_ok) b3_34_16_ok) b3_34_15_ok) b3_34_14_ok) b3_34_13_ok) b3_34_12_ok) b3_34_11_ok) b3_34_10_ok) b3_34_9_ok) b3_34_8_ok) b3_34_7_ok) b3_34_6_ok) b3_34_5_ok) b3_34_4_ok) b3_34_3_ok) b3_34_2_ok) b3_34_1_ok) b3_34_0_ok

theorem mm3_sound (S : Sym) : @CallSound S Tryz.prog mm3 := orK_sound (bookK_sound (fun S => callM_sound mixed (mm2_sound S) 1000 1000 300) book3_ok) (mm2_sound S)

end Go.Proofs.YthfppcmphkljkaaGreat
