/- The walker over this program. -/
import Derived.Test.YtjnhigblbkaemaaGreatBxMemo2
import Derived.Test.YtjnhigblbkaemaaGreatProg
import Derived.KernelRfl
set_option linter.unusedVariables false
set_option linter.unusedSimpArgs false
set_option linter.unusedSectionVars false
namespace Go.Proofs.YtjnhigblbkaemaaGreat
open Go Go.Proofs.Bx

theorem mixed : Tryz.prog.follows .mixedOrders = true := by kernel_rfl

noncomputable def mm0 : CallK := noK
theorem mm0_sound : CallSound Tryz.prog mm0 := noK_sound _

end Go.Proofs.YtjnhigblbkaemaaGreat
