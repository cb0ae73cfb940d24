/- What is remembered at level 5. -/
import Derived.Test.YtjnhigblbkaemaaGreatM5a
set_option linter.unusedVariables false
set_option linter.unusedSimpArgs false
set_option linter.unusedSectionVars false
namespace Go.Proofs.YtjnhigblbkaemaaGreat
open Go Go.Proofs.Bx

noncomputable def book5 : Book := [(28, b5_28_0), (29, b5_29_0), (30, b5_30_0), (31, b5_31_0), (147, b5_147_0)]

noncomputable def mm5 : CallK := orK (bookK book5) mm4

theorem book5_ok : book5.Ok (callM Tryz.prog mm4 1000 1000 300) := by
  intro x hx
  simp only [book5, List.mem_cons, List.not_mem_nil, or_false] at hx
  rcases hx with rfl | rfl | rfl | rfl | rfl
  · exact b5_28_0_ok
  · exact b5_29_0_ok
  · exact b5_30_0_ok
  · exact b5_31_0_ok
  · exact b5_147_0_ok

theorem mm5_sound : CallSound Tryz.prog mm5 := orK_sound (bookK_sound (callM_sound mixed mm4_sound 1000 1000 300) book5_ok) mm4_sound

end Go.Proofs.YtjnhigblbkaemaaGreat
