/- What is remembered at level 9. -/
import Derived.Test.YtlkpolcojgoafaaGreatM9a
set_option linter.unusedVariables false
set_option linter.unusedSimpArgs false
set_option linter.unusedSectionVars false
namespace Go.Proofs.YtlkpolcojgoafaaGreat
open Go Go.Proofs.Bx

noncomputable def book9 : Book := [(251, b9_251_0), (77, b9_77_0), (78, b9_78_0)]

noncomputable def mm9 : CallK := orK (bookK book9) mm8

theorem book9_ok : book9.Ok (callM Tryz.prog mm8 1000 1000 300) := by
  intro x hx
  simp only [book9, List.mem_cons, List.not_mem_nil, or_false] at hx
  rcases hx with rfl | rfl | rfl
  · exact b9_251_0_ok
  · exact b9_77_0_ok
  · exact b9_78_0_ok

theorem mm9_sound (S : Sym) : @CallSound S Tryz.prog mm9 := orK_sound (bookK_sound (fun S => callM_sound mixed (mm8_sound S) 1000 1000 300) book9_ok) (mm8_sound S)

end Go.Proofs.YtlkpolcojgoafaaGreat
