/- What is remembered at level 7. -/
import Derived.Test.YtlkpolcojgoafaaGreatM7a
set_option linter.unusedVariables false
set_option linter.unusedSimpArgs false
set_option linter.unusedSectionVars false
namespace Go.Proofs.YtlkpolcojgoafaaGreat
open Go Go.Proofs.Bx

noncomputable def book7 : Book := [(19, b7_19_0 ++ (b7_19_1 ++ (b7_19_2 ++ (b7_19_3 ++ (b7_19_4))))), (247, b7_247_0 ++ (b7_247_1)), (319, b7_319_0)]

noncomputable def mm7 : CallK := orK (bookK book7) mm6

theorem book7_ok : book7.Ok (callM Tryz.prog mm6 1000 1000 300) := by
  intro x hx
  simp only [book7, List.mem_cons, List.not_mem_nil, or_false] at hx
  rcases hx with rfl | rfl | rfl
  · exact okAll_append (okAll_append (okAll_append (okAll_append (b7_19_4_ok) b7_19_3_ok) b7_19_2_ok) b7_19_1_ok) b7_19_0_ok
  · exact okAll_append (b7_247_1_ok) b7_247_0_ok
  · exact b7_319_0_ok

theorem mm7_sound (S : Sym) : @CallSound S Tryz.prog mm7 := orK_sound (bookK_sound (fun S => callM_sound mixed (mm6_sound S) 1000 1000 300) book7_ok) (mm6_sound S)

end Go.Proofs.YtlkpolcojgoafaaGreat
