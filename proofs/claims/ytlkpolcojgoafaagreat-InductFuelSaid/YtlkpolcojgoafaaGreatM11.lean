/- What is remembered at level 11. -/
import Derived.Test.YtlkpolcojgoafaaGreatM11a
set_option linter.unusedVariables false
set_option linter.unusedSimpArgs false
set_option linter.unusedSectionVars false
namespace Go.Proofs.YtlkpolcojgoafaaGreat
open Go Go.Proofs.Bx

noncomputable def book11 : Book := [(5, b11_5_0), (7, b11_7_0), (9, b11_9_0)]

noncomputable def mm11 : CallK := orK (bookK book11) mm10

theorem book11_ok : book11.Ok (callM Tryz.prog mm10 1000 1000 300) := by
  intro x hx
  simp only [book11, List.mem_cons, List.not_mem_nil, or_false] at hx
  rcases hx with rfl | rfl | rfl
  · exact b11_5_0_ok
  · exact b11_7_0_ok
  · exact b11_9_0_ok

theorem mm11_sound (S : Sym) : @CallSound S Tryz.prog mm11 := orK_sound (bookK_sound (fun S => callM_sound mixed (mm10_sound S) 1000 1000 300) book11_ok) (mm10_sound S)

end Go.Proofs.YtlkpolcojgoafaaGreat
