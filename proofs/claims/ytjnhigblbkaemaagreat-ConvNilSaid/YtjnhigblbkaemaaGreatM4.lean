/- What is remembered at level 4. -/
import Derived.Test.YtjnhigblbkaemaaGreatM4a
set_option linter.unusedVariables false
set_option linter.unusedSimpArgs false
set_option linter.unusedSectionVars false
namespace Go.Proofs.YtjnhigblbkaemaaGreat
open Go Go.Proofs.Bx

noncomputable def book4 : Book := [(79, b4_79_0 ++ (b4_79_1 ++ (b4_79_2 ++ (b4_79_3 ++ (b4_79_4))))), (82, b4_82_0 ++ (b4_82_1 ++ (b4_82_2)))]

noncomputable def mm4 : CallK := orK (bookK book4) mm3

theorem book4_ok : book4.Ok (callM Tryz.prog mm3 1000 1000 300) := by
  intro x hx
  simp only [book4, List.mem_cons, List.not_mem_nil, or_false] at hx
  rcases hx with rfl | rfl
  · exact okAll_append (okAll_append (okAll_append (okAll_append (b4_79_4_ok) b4_79_3_ok) b4_79_2_ok) b4_79_1_ok) b4_79_0_ok
  · exact okAll_append (okAll_append (b4_82_2_ok) b4_82_1_ok) b4_82_0_ok

theorem mm4_sound : CallSound Tryz.prog mm4 := orK_sound (bookK_sound (callM_sound mixed mm3_sound 1000 1000 300) book4_ok) mm3_sound

end Go.Proofs.YtjnhigblbkaemaaGreat
