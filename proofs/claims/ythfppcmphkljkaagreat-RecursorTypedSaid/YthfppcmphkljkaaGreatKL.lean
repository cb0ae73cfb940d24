/- The walker with all that is remembered, and what infer says in the longest runs. -/
import Derived.Test.YthfppcmphkljkaaGreatM11
set_option linter.unusedVariables false
set_option linter.unusedSimpArgs false
set_option linter.unusedSectionVars false
namespace Go.Proofs.YthfppcmphkljkaaGreat
open Go Go.Proofs.Bx

noncomputable def KL : CallK := callM Tryz.prog mm11 1000 1000 300
theorem KL_sound (S : Sym) : @CallSound S Tryz.prog KL := callM_sound mixed (mm11_sound S) 1000 1000 300

end Go.Proofs.YthfppcmphkljkaaGreat
