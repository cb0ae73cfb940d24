/- What is remembered at level 3. -/
import Derived.Test.YtlkpolcojgoafaaGreatM3a
set_option linter.unusedVariables false
set_option linter.unusedSimpArgs false
set_option linter.unusedSectionVars false
namespace Go.Proofs.YtlkpolcojgoafaaGreat
open Go Go.Proofs.Bx

noncomputable def book3 : Book := [(85, b3_85_0 ++ (b3_85_1 ++ (b3_85_2 ++ (b3_85_3 ++ (b3_85_4 ++ (b3_85_5 ++ (b3_85_6)))))))]

noncomputable def mm3 : CallK := orK (bookK book3) mm2

theorem book3_ok : book3.Ok (callM Tryz.prog mm2 1000 1000 300) := by
  intro x hx
  simp only [book3, List.mem_cons, List.not_mem_nil, or_false] at hx
  rcases hx with rfl
  · exact okAll_append (okAll_append (okAll_append (okAll_append (okAll_append (okAll_append (b3_85_6_ok) b3_85_5_ok) b3_85_4_ok) b3_85_3_ok) b3_85_2_ok) b3_85_1_ok) b3_85_0_ok

theorem mm3_sound (S : Sym) : @CallSound S Tryz.prog mm3 := orK_sound (bookK_sound (fun S => callM_sound mixed (mm2_sound S) 1000 1000 300) book3_ok) (mm2_sound S)

end Go.Proofs.YtlkpolcojgoafaaGreat
