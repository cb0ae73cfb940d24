/- What is remembered at level 6. -/
import Derived.Test.YthfppcmphkljkaaGreatM6a
import Derived.Test.YthfppcmphkljkaaGreatM6b
set_option linter.unusedVariables false
set_option linter.unusedSimpArgs false
set_option linter.unusedSectionVars false
namespace Go.Proofs.YthfppcmphkljkaaGreat
open Go Go.Proofs.Bx

noncomputable def book6 : Book := [(58, b6_58_0 ++ (b6_58_1 ++ (b6_58_2))), (135, b6_135_0 ++ (b6_135_1 ++ (b6_135_2 ++ (b6_135_3)))), (160, b6_160_0 ++ (b6_160_1 ++ (b6_160_2 ++ (b6_160_3)))), (80, b6_80_0 ++ (b6_80_1 ++ (b6_80_2 ++ (b6_80_3 ++ (b6_80_4 ++ (b6_80_5 ++ (b6_80_6 ++ (b6_80_7))))))))]

noncomputable def mm6 : CallK := orK (bookK book6) mm5

theorem book6_ok : book6.Ok (callM Tryz.prog mm5 1000 1000 300) := by
  intro x hx
  simp only [book6, List.mem_cons, List.not_mem_nil, or_false] at hx
  rcases hx with rfl | rfl | rfl | rfl
  · exact okAll_append (okAll_append (b6_58_2_ok) b6_58_1_ok) b6_58_0_ok
  · exact okAll_append (okAll_append (okAll_append (b6_135_3_ok) b6_135_2_ok) b6_135_1_ok) b6_135_0_ok
  · exact okAll_append (okAll_append (okAll_append (b6_160_3_ok) b6_160_2_ok) b6_160_1_ok) b6_160_0_ok
  · exact okAll_append (okAll_append (okAll_append (okAll_append (okAll_append (okAll_append (okAll_append (b6_80_7_ok) b6_80_6_ok) b6_80_5_ok) b6_80_4_ok) b6_80_3_ok) b6_80_2_ok) b6_80_1_ok) b6_80_0_ok

theorem mm6_sound (S : Sym) : @CallSound S Tryz.prog mm6 := orK_sound (bookK_sound (fun S => callM_sound mixed (mm5_sound S) 1000 1000 300) book6_ok) (mm5_sound S)

end Go.Proofs.YthfppcmphkljkaaGreat
