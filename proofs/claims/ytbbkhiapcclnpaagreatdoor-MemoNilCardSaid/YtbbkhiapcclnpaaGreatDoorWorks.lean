/- The chapter's example holds: works() of law 19 returns true, whatever the memory. -/
import Derived.Test.YtbbkhiapcclnpaaGreatDoorM5
set_option linter.unusedVariables false
set_option linter.unusedSimpArgs false
set_option linter.unusedSectionVars false
set_option maxRecDepth 100000
namespace Go.Proofs.YtbbkhiapcclnpaaGreatDoor
open Go Go.RowKit Go.Proofs.Bx

noncomputable def KK : CallK := callM Tryz.prog mm5 1000 1000 300
theorem KK_sound : CallSound Tryz.prog KK := callM_sound mixed mm5_sound 1000 1000 300

theorem works_runs : isTrue (KK (.fn 5) [] ⟨.nil, 0⟩) = true := by decide +kernel

theorem works_any (w : World) : Calls Tryz.prog 5 #[] w fun e w' => e = .returned (.bool true) ∧ Below w.heap.size w w' := true_any KK_sound works_runs w

end Go.Proofs.YtbbkhiapcclnpaaGreatDoor
