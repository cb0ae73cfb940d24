/- The walker with all that is remembered. -/
import Derived.Test.YthfppcmphkljkaaGreatM10
set_option linter.unusedVariables false
set_option linter.unusedSimpArgs false
set_option linter.unusedSectionVars false
namespace Go.Proofs.YthfppcmphkljkaaGreat
open Go Go.Proofs.Bx

noncomputable def KK : CallK := callM Tryz.prog mm10 1000 1000 300
theorem KK_sound (S : Sym) : @CallSound S Tryz.prog KK := callM_sound mixed (mm10_sound S) 1000 1000 300

end Go.Proofs.YthfppcmphkljkaaGreat
