/- What is remembered at level 5. -/
import Derived.Test.YtbbkhiapcclnpaaGreatDoorM5a
set_option linter.unusedVariables false
set_option linter.unusedSimpArgs false
set_option linter.unusedSectionVars false
namespace Go.Proofs.YtbbkhiapcclnpaaGreatDoor
open Go Go.Proofs.Bx

noncomputable def book5 : Book := [(46, b5_46_0), (47, b5_47_0), (48, b5_48_0), (49, b5_49_0), (189, b5_189_0)]

noncomputable def mm5 : CallK := orK (bookK book5) mm4

theorem book5_ok : book5.Ok (callM Tryz.prog mm4 1000 1000 300) := by
  intro x hx
  simp only [book5, List.mem_cons, List.not_mem_nil, or_false] at hx
  rcases hx with rfl | rfl | rfl | rfl | rfl
  · exact b5_46_0_ok
  · exact b5_47_0_ok
  · exact b5_48_0_ok
  · exact b5_49_0_ok
  · exact b5_189_0_ok

theorem mm5_sound : CallSound Tryz.prog mm5 := orK_sound (bookK_sound (callM_sound mixed mm4_sound 1000 1000 300) book5_ok) mm4_sound

end Go.Proofs.YtbbkhiapcclnpaaGreatDoor
