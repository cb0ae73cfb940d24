/- The law's function, run: the longest runs (the indexed block's second constructor), each engine. -/
import Derived.Test.YthfppcmphkljkaaGreatKL
set_option linter.unusedVariables false
set_option linter.unusedSimpArgs false
set_option linter.unusedSectionVars false
set_option maxRecDepth 100000
namespace Go.Proofs.YthfppcmphkljkaaGreat
open Go Go.RowKit Go.Proofs.Bx

theorem run_1_0_1_0 : resIs (KL (.fn 3) [.res .u8 3 1, .res .u8 1 0, .res .u8 2 1, .res .u8 3 0] ⟨.nil, 0⟩) (.bool true) = true := by decide +kernel

theorem run_1_0_1_1 : resIs (KL (.fn 3) [.res .u8 3 1, .res .u8 1 0, .res .u8 2 1, .res .u8 3 1] ⟨.nil, 0⟩) (.bool true) = true := by decide +kernel

theorem run_1_0_1_2 : resIs (KL (.fn 3) [.res .u8 3 1, .res .u8 1 0, .res .u8 2 1, .res .u8 3 2] ⟨.nil, 0⟩) (.bool true) = true := by decide +kernel

end Go.Proofs.YthfppcmphkljkaaGreat
