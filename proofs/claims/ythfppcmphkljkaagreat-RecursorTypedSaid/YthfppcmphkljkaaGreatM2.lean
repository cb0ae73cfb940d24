/- What is remembered at level 2. -/
import Derived.Test.YthfppcmphkljkaaGreatM2a
set_option linter.unusedVariables false
set_option linter.unusedSimpArgs false
set_option linter.unusedSectionVars false
namespace Go.Proofs.YthfppcmphkljkaaGreat
open Go Go.Proofs.Bx

noncomputable def book2 : Book := [(83, b2_83_0), (227, b2_227_0)]

noncomputable def mm2 : CallK := orK (bookK book2) mm1

theorem book2_ok : book2.Ok (callM Tryz.prog mm1 1000 1000 300) := by
  intro x hx
  simp only [book2, List.mem_cons, List.not_mem_nil, or_false] at hx
  rcases hx with rfl | rfl
  · exact b2_83_0_ok
  · exact b2_227_0_ok

theorem mm2_sound (S : Sym) : @CallSound S Tryz.prog mm2 := orK_sound (bookK_sound (fun S => callM_sound mixed (mm1_sound S) 1000 1000 300) book2_ok) (mm1_sound S)

end Go.Proofs.YthfppcmphkljkaaGreat
