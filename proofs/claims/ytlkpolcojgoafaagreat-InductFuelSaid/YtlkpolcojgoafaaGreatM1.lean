/- What is remembered at level 1. -/
import Derived.Test.YtlkpolcojgoafaaGreatM1a
set_option linter.unusedVariables false
set_option linter.unusedSimpArgs false
set_option linter.unusedSectionVars false
namespace Go.Proofs.YtlkpolcojgoafaaGreat
open Go Go.Proofs.Bx

noncomputable def book1 : Book := [(60, b1_60_0), (185, b1_185_0), (107, b1_107_0), (162, b1_162_0), (316, b1_316_0), (303, b1_303_0), (322, b1_322_0), (301, b1_301_0)]

noncomputable def mm1 : CallK := orK (bookK book1) mm0

theorem book1_ok : book1.Ok (callM Tryz.prog mm0 1000 1000 300) := by
  intro x hx
  simp only [book1, List.mem_cons, List.not_mem_nil, or_false] at hx
  rcases hx with rfl | rfl | rfl | rfl | rfl | rfl | rfl | rfl
  · exact b1_60_0_ok
  · exact b1_185_0_ok
  · exact b1_107_0_ok
  · exact b1_162_0_ok
  · exact b1_316_0_ok
  · exact b1_303_0_ok
  · exact b1_322_0_ok
  · exact b1_301_0_ok

theorem mm1_sound (S : Sym) : @CallSound S Tryz.prog mm1 := orK_sound (bookK_sound (fun S => callM_sound mixed (mm0_sound S) 1000 1000 300) book1_ok) (mm0_sound S)

end Go.Proofs.YtlkpolcojgoafaaGreat
