/- What is remembered at level 4. -/
import Derived.Test.YtlkpolcojgoafaaGreatM4a
import Derived.Test.YtlkpolcojgoafaaGreatM4b
import Derived.Test.YtlkpolcojgoafaaGreatM4c
set_option linter.unusedVariables false
set_option linter.unusedSimpArgs false
set_option linter.unusedSectionVars false
namespace Go.Proofs.YtlkpolcojgoafaaGreat
open Go Go.Proofs.Bx

noncomputable def book4 : Book := [(66, b4_66_0 ++ (b4_66_1 ++ (b4_66_2 ++ (b4_66_3 ++ (b4_66_4 ++ (b4_66_5 ++ (b4_66_6 ++ (b4_66_7 ++ (b4_66_8 ++ (b4_66_9 ++ (b4_66_10 ++ (b4_66_11 ++ (b4_66_12 ++ (b4_66_13 ++ (b4_66_14 ++ (b4_66_15)))))))))))))))), (69, b4_69_0 ++ (b4_69_1 ++ (b4_69_2 ++ (b4_69_3 ++ (b4_69_4 ++ (b4_69_5 ++ (b4_69_6 ++ (b4_69_7 ++ (b4_69_8 ++ (b4_69_9)))))))))), (86, b4_86_0), (341, b4_341_0)]

noncomputable def mm4 : CallK := orK (bookK book4) mm3

theorem book4_ok : book4.Ok (callM Tryz.prog mm3 1000 1000 300) := by
  intro x hx
  simp only [book4, List.mem_cons, List.not_mem_nil, or_false] at hx
  rcases hx with rfl | rfl | rfl | rfl
  · exact okAll_append (okAll_append (okAll_append (okAll_append (okAll_append (okAll_append (okAll_append (okAll_append (okAll_append (okAll_append (okAll_append (okAll_append (okAll_append (okAll_append (okAll_append (b4_66_15_ok) b4_66_14_ok) b4_66_13_ok) b4_66_12_ok) b4_66_11_ok) b4_66_10_ok) b4_66_9_ok) b4_66_8_ok) b4_66_7_ok) b4_66_6_ok) b4_66_5_ok) b4_66_4_ok) b4_66_3_ok) b4_66_2_ok) b4_66_1_ok) b4_66_0_ok
  · exact okAll_append (okAll_append (okAll_append (okAll_append (okAll_append (okAll_append (okAll_append (okAll_append (okAll_append (b4_69_9_ok) b4_69_8_ok) b4_69_7_ok) b4_69_6_ok) b4_69_5_ok) b4_69_4_ok) b4_69_3_ok) b4_69_2_ok) b4_69_1_ok) b4_69_0_ok
  · exact b4_86_0_ok
  · exact b4_341_0_ok

theorem mm4_sound (S : Sym) : @CallSound S Tryz.prog mm4 := orK_sound (bookK_sound (fun S => callM_sound mixed (mm3_sound S) 1000 1000 300) book4_ok) (mm3_sound S)

end Go.Proofs.YtlkpolcojgoafaaGreat
