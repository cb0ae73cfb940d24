/- The closed facts of the row, one by one. -/
import Derived.Test.YthfppcmphkljkaaGreatRows
import Derived.ProofKit
set_option linter.unusedVariables false
set_option linter.unusedSimpArgs false
set_option linter.unusedSectionVars false
namespace Go.Proofs.YthfppcmphkljkaaGreat
open Go.ChangeShapes Go.WideShapes Go.ChangeAt Go.RowKit

set_option maxRecDepth 100000 in
set_option maxHeartbeats 4000000 in
theorem closed : joinedFacts Tryz.checked.prog 3 Tryz.f3 Rows.recursorTypedSpec Rows.recursorTypedRow = true := by
  unfold joinedFacts
  repeat' first
    | with_reducible refine Bool.and_eq_true_iff.mpr ⟨?_, ?_⟩
    | as_aux_lemma => kernel_rfl

end Go.Proofs.YthfppcmphkljkaaGreat
