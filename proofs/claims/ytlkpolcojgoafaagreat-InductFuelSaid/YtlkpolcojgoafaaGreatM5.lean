/- What is remembered at level 5. -/
import Derived.Test.YtlkpolcojgoafaaGreatM5a
set_option linter.unusedVariables false
set_option linter.unusedSimpArgs false
set_option linter.unusedSectionVars false
namespace Go.Proofs.YtlkpolcojgoafaaGreat
open Go Go.Proofs.Bx

noncomputable def book5 : Book := [(35, b5_35_0), (36, b5_36_0), (37, b5_37_0), (38, b5_38_0), (249, b5_249_0)]

noncomputable def mm5 : CallK := orK (bookK book5) mm4

theorem book5_ok : book5.Ok (callM Tryz.prog mm4 1000 1000 300) := by
  intro x hx
  simp only [book5, List.mem_cons, List.not_mem_nil, or_false] at hx
  rcases hx with rfl | rfl | rfl | rfl | rfl
  · exact b5_35_0_ok
  · exact b5_36_0_ok
  · exact b5_37_0_ok
  · exact b5_38_0_ok
  · exact b5_249_0_ok

theorem mm5_sound (S : Sym) : @CallSound S Tryz.prog mm5 := orK_sound (bookK_sound (fun S => callM_sound mixed (mm4_sound S) 1000 1000 300) book5_ok) (mm4_sound S)

end Go.Proofs.YtlkpolcojgoafaaGreat
