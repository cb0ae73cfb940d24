/- The law's function, run: engine 1, each block and constructor of the sample. -/
import Derived.Test.YthfppcmphkljkaaGreatKK
set_option linter.unusedVariables false
set_option linter.unusedSimpArgs false
set_option linter.unusedSectionVars false
set_option maxRecDepth 100000
namespace Go.Proofs.YthfppcmphkljkaaGreat
open Go Go.RowKit Go.Proofs.Bx

theorem run_0_0_0_1 : resIs (KK (.fn 3) [.res .u8 3 0, .res .u8 2 0, .res .u8 1 0, .res .u8 3 1] ⟨.nil, 0⟩) (.bool true) = true := by decide +kernel

theorem run_0_1_0_1 : resIs (KK (.fn 3) [.res .u8 3 0, .res .u8 2 1, .res .u8 2 0, .res .u8 3 1] ⟨.nil, 0⟩) (.bool true) = true := by decide +kernel

theorem run_0_1_1_1 : resIs (KK (.fn 3) [.res .u8 3 0, .res .u8 2 1, .res .u8 2 1, .res .u8 3 1] ⟨.nil, 0⟩) (.bool true) = true := by decide +kernel

theorem run_1_0_0_1 : resIs (KK (.fn 3) [.res .u8 3 1, .res .u8 1 0, .res .u8 2 0, .res .u8 3 1] ⟨.nil, 0⟩) (.bool true) = true := by decide +kernel

theorem run_2_0_0_1 : resIs (KK (.fn 3) [.res .u8 3 2, .res .u8 1 0, .res .u8 2 0, .res .u8 3 1] ⟨.nil, 0⟩) (.bool true) = true := by decide +kernel

theorem run_2_0_1_1 : resIs (KK (.fn 3) [.res .u8 3 2, .res .u8 1 0, .res .u8 2 1, .res .u8 3 1] ⟨.nil, 0⟩) (.bool true) = true := by decide +kernel

end Go.Proofs.YthfppcmphkljkaaGreat
