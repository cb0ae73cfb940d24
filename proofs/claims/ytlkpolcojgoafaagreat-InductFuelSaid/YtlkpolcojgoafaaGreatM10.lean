/- What is remembered at level 10. -/
import Derived.Test.YtlkpolcojgoafaaGreatM10a
import Derived.Test.YtlkpolcojgoafaaGreatM10b
set_option linter.unusedVariables false
set_option linter.unusedSimpArgs false
set_option linter.unusedSectionVars false
namespace Go.Proofs.YtlkpolcojgoafaaGreat
open Go Go.Proofs.Bx

noncomputable def book10 : Book := [(6, b10_6_0 ++ (b10_6_1 ++ (b10_6_2 ++ (b10_6_3 ++ (b10_6_4 ++ (b10_6_5 ++ (b10_6_6 ++ (b10_6_7 ++ (b10_6_8 ++ (b10_6_9 ++ (b10_6_10 ++ (b10_6_11))))))))))))]

noncomputable def mm10 : CallK := orK (bookK book10) mm9

theorem book10_ok : book10.Ok (callM Tryz.prog mm9 1000 1000 300) := by
  intro x hx
  simp only [book10, List.mem_cons, List.not_mem_nil, or_false] at hx
  rcases hx with rfl
  · exact okAll_append (okAll_append (okAll_append (okAll_append (okAll_append (okAll_append (okAll_append (okAll_append (okAll_append (okAll_append (okAll_append (b10_6_11_ok) b10_6_10_ok) b10_6_9_ok) b10_6_8_ok) b10_6_7_ok) b10_6_6_ok) b10_6_5_ok) b10_6_4_ok) b10_6_3_ok) b10_6_2_ok) b10_6_1_ok) b10_6_0_ok

theorem mm10_sound (S : Sym) : @CallSound S Tryz.prog mm10 := orK_sound (bookK_sound (fun S => callM_sound mixed (mm9_sound S) 1000 1000 300) book10_ok) (mm9_sound S)

end Go.Proofs.YtlkpolcojgoafaaGreat
