/- What is remembered at level 4. -/
import Derived.Test.YtbbkhiapcclnpaaGreatDoorM4a
set_option linter.unusedVariables false
set_option linter.unusedSimpArgs false
set_option linter.unusedSectionVars false
namespace Go.Proofs.YtbbkhiapcclnpaaGreatDoor
open Go Go.Proofs.Bx

noncomputable def book4 : Book := [(95, b4_95_0 ++ (b4_95_1 ++ (b4_95_2 ++ (b4_95_3 ++ (b4_95_4))))), (98, b4_98_0 ++ (b4_98_1 ++ (b4_98_2)))]

noncomputable def mm4 : CallK := orK (bookK book4) mm3

theorem book4_ok : book4.Ok (callM Tryz.prog mm3 1000 1000 300) := by
  intro x hx
  simp only [book4, List.mem_cons, List.not_mem_nil, or_false] at hx
  rcases hx with rfl | rfl
  · exact okAll_append (okAll_append (okAll_append (okAll_append (b4_95_4_ok) b4_95_3_ok) b4_95_2_ok) b4_95_1_ok) b4_95_0_ok
  · exact okAll_append (okAll_append (b4_98_2_ok) b4_98_1_ok) b4_98_0_ok

theorem mm4_sound : CallSound Tryz.prog mm4 := orK_sound (bookK_sound (callM_sound mixed mm3_sound 1000 1000 300) book4_ok) mm3_sound

end Go.Proofs.YtbbkhiapcclnpaaGreatDoor
