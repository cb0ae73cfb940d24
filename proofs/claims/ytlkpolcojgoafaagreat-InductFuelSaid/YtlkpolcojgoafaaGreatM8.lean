/- What is remembered at level 8. -/
import Derived.Test.YtlkpolcojgoafaaGreatM8a
set_option linter.unusedVariables false
set_option linter.unusedSimpArgs false
set_option linter.unusedSectionVars false
namespace Go.Proofs.YtlkpolcojgoafaaGreat
open Go Go.Proofs.Bx

noncomputable def book8 : Book := [(4, b8_4_0), (55, b8_55_0 ++ (b8_55_1 ++ (b8_55_2 ++ (b8_55_3 ++ (b8_55_4 ++ (b8_55_5)))))), (27, b8_27_0)]

noncomputable def mm8 : CallK := orK (bookK book8) mm7

theorem book8_ok : book8.Ok (callM Tryz.prog mm7 1000 1000 300) := by
  intro x hx
  simp only [book8, List.mem_cons, List.not_mem_nil, or_false] at hx
  rcases hx with rfl | rfl | rfl
  · exact b8_4_0_ok
  · exact okAll_append (okAll_append (okAll_append (okAll_append (okAll_append (b8_55_5_ok) b8_55_4_ok) b8_55_3_ok) b8_55_2_ok) b8_55_1_ok) b8_55_0_ok
  · exact b8_27_0_ok

theorem mm8_sound (S : Sym) : @CallSound S Tryz.prog mm8 := orK_sound (bookK_sound (fun S => callM_sound mixed (mm7_sound S) 1000 1000 300) book8_ok) (mm7_sound S)

end Go.Proofs.YtlkpolcojgoafaaGreat
