/- What is remembered at level 3. -/
import Derived.Test.YtbbkhiapcclnpaaGreatDoorM3a
set_option linter.unusedVariables false
set_option linter.unusedSimpArgs false
set_option linter.unusedSectionVars false
namespace Go.Proofs.YtbbkhiapcclnpaaGreatDoor
open Go Go.Proofs.Bx

noncomputable def book3 : Book := [(25, b3_25_0 ++ (b3_25_1))]

noncomputable def mm3 : CallK := orK (bookK book3) mm2

theorem book3_ok : book3.Ok (callM Tryz.prog mm2 1000 1000 300) := by
  intro x hx
  simp only [book3, List.mem_cons, List.not_mem_nil, or_false] at hx
  rcases hx with rfl
  · exact okAll_append (b3_25_1_ok) b3_25_0_ok

theorem mm3_sound : CallSound Tryz.prog mm3 := orK_sound (bookK_sound (callM_sound mixed mm2_sound 1000 1000 300) book3_ok) mm2_sound

end Go.Proofs.YtbbkhiapcclnpaaGreatDoor
