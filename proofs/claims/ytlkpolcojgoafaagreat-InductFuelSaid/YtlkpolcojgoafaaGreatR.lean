/- The law's function, run: each block of the sample, each engine, any fuel. -/
import Derived.Test.YtlkpolcojgoafaaGreatKK
set_option linter.unusedVariables false
set_option linter.unusedSimpArgs false
set_option linter.unusedSectionVars false
set_option maxRecDepth 100000
namespace Go.Proofs.YtlkpolcojgoafaaGreat
open Go Go.RowKit Go.Proofs.Bx

theorem run_0_0 : resIs (KK (.fn 3) [.res .u8 3 0, .res .u8 3 0, .symk .u16 0] ⟨.nil, 0⟩) (.bool true) = true := by decide +kernel

theorem run_0_1 : resIs (KK (.fn 3) [.res .u8 3 0, .res .u8 3 1, .symk .u16 0] ⟨.nil, 0⟩) (.bool true) = true := by decide +kernel

theorem run_0_2 : resIs (KK (.fn 3) [.res .u8 3 0, .res .u8 3 2, .symk .u16 0] ⟨.nil, 0⟩) (.bool true) = true := by decide +kernel

theorem run_1_0 : resIs (KK (.fn 3) [.res .u8 3 1, .res .u8 3 0, .symk .u16 0] ⟨.nil, 0⟩) (.bool true) = true := by decide +kernel

theorem run_1_1 : resIs (KK (.fn 3) [.res .u8 3 1, .res .u8 3 1, .symk .u16 0] ⟨.nil, 0⟩) (.bool true) = true := by decide +kernel

theorem run_1_2 : resIs (KK (.fn 3) [.res .u8 3 1, .res .u8 3 2, .symk .u16 0] ⟨.nil, 0⟩) (.bool true) = true := by decide +kernel

theorem run_2_0 : resIs (KK (.fn 3) [.res .u8 3 2, .res .u8 3 0, .symk .u16 0] ⟨.nil, 0⟩) (.bool true) = true := by decide +kernel

theorem run_2_1 : resIs (KK (.fn 3) [.res .u8 3 2, .res .u8 3 1, .symk .u16 0] ⟨.nil, 0⟩) (.bool true) = true := by decide +kernel

theorem run_2_2 : resIs (KK (.fn 3) [.res .u8 3 2, .res .u8 3 2, .symk .u16 0] ⟨.nil, 0⟩) (.bool true) = true := by decide +kernel

end Go.Proofs.YtlkpolcojgoafaaGreat
