/- What is remembered at level 1. -/
import Derived.Test.YtbbkhiapcclnpaaGreatDoorM1a
set_option linter.unusedVariables false
set_option linter.unusedSimpArgs false
set_option linter.unusedSectionVars false
namespace Go.Proofs.YtbbkhiapcclnpaaGreatDoor
open Go Go.Proofs.Bx

noncomputable def book1 : Book := [(61, b1_61_0), (57, b1_57_0), (60, b1_60_0), (204, b1_204_0)]

noncomputable def mm1 : CallK := orK (bookK book1) mm0

theorem book1_ok : book1.Ok (callM Tryz.prog mm0 1000 1000 300) := by
  intro x hx
  simp only [book1, List.mem_cons, List.not_mem_nil, or_false] at hx
  rcases hx with rfl | rfl | rfl | rfl
  · exact b1_61_0_ok
  · exact b1_57_0_ok
  · exact b1_60_0_ok
  · exact b1_204_0_ok

theorem mm1_sound : CallSound Tryz.prog mm1 := orK_sound (bookK_sound (callM_sound mixed mm0_sound 1000 1000 300) book1_ok) mm0_sound

end Go.Proofs.YtbbkhiapcclnpaaGreatDoor
