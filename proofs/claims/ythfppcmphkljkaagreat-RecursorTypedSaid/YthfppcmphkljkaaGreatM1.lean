/- What is remembered at level 1. -/
import Derived.Test.YthfppcmphkljkaaGreatM1a
set_option linter.unusedVariables false
set_option linter.unusedSimpArgs false
set_option linter.unusedSectionVars false
namespace Go.Proofs.YthfppcmphkljkaaGreat
open Go Go.Proofs.Bx

noncomputable def book1 : Book := [(110, b1_110_0), (152, b1_152_0), (155, b1_155_0), (263, b1_263_0), (137, b1_137_0), (142, b1_142_0), (339, b1_339_0), (373, b1_373_0), (230, b1_230_0), (237, b1_237_0)]

noncomputable def mm1 : CallK := orK (bookK book1) mm0

theorem book1_ok : book1.Ok (callM Tryz.prog mm0 1000 1000 300) := by
  intro x hx
  simp only [book1, List.mem_cons, List.not_mem_nil, or_false] at hx
  rcases hx with rfl | rfl | rfl | rfl | rfl | rfl | rfl | rfl | rfl | rfl
  · exact b1_110_0_ok
  · exact b1_152_0_ok
  · exact b1_155_0_ok
  · exact b1_263_0_ok
  · exact b1_137_0_ok
  · exact b1_142_0_ok
  · exact b1_339_0_ok
  · exact b1_373_0_ok
  · exact b1_230_0_ok
  · exact b1_237_0_ok

theorem mm1_sound (S : Sym) : @CallSound S Tryz.prog mm1 := orK_sound (bookK_sound (fun S => callM_sound mixed (mm0_sound S) 1000 1000 300) book1_ok) (mm0_sound S)

end Go.Proofs.YthfppcmphkljkaaGreat
