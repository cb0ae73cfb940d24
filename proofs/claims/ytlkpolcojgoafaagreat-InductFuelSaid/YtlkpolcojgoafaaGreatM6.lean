/- What is remembered at level 6. -/
import Derived.Test.YtlkpolcojgoafaaGreatM6a
set_option linter.unusedVariables false
set_option linter.unusedSimpArgs false
set_option linter.unusedSectionVars false
namespace Go.Proofs.YtlkpolcojgoafaaGreat
open Go Go.Proofs.Bx

noncomputable def book6 : Book := [(57, b6_57_0 ++ (b6_57_1 ++ (b6_57_2 ++ (b6_57_3 ++ (b6_57_4 ++ (b6_57_5 ++ (b6_57_6 ++ (b6_57_7 ++ (b6_57_8 ++ (b6_57_9 ++ (b6_57_10)))))))))))]

noncomputable def mm6 : CallK := orK (bookK book6) mm5

theorem book6_ok : book6.Ok (callM Tryz.prog mm5 1000 1000 300) := by
  intro x hx
  simp only [book6, List.mem_cons, List.not_mem_nil, or_false] at hx
  rcases hx with rfl
  · exact okAll_append (okAll_append (okAll_append (okAll_append (okAll_append (okAll_append (okAll_append (okAll_append (okAll_append (okAll_append (b6_57_10_ok) b6_57_9_ok) b6_57_8_ok) b6_57_7_ok) b6_57_6_ok) b6_57_5_ok) b6_57_4_ok) b6_57_3_ok) b6_57_2_ok) b6_57_1_ok) b6_57_0_ok

theorem mm6_sound (S : Sym) : @CallSound S Tryz.prog mm6 := orK_sound (bookK_sound (fun S => callM_sound mixed (mm5_sound S) 1000 1000 300) book6_ok) (mm5_sound S)

end Go.Proofs.YtlkpolcojgoafaaGreat
