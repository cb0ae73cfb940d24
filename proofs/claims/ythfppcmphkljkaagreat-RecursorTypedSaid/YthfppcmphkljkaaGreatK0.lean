/- The walker over this program. -/
import Derived.Test.YthfppcmphkljkaaGreatBxC
import Derived.Test.YthfppcmphkljkaaGreatProg
import Derived.KernelRfl
set_option linter.unusedVariables false
set_option linter.unusedSimpArgs false
set_option linter.unusedSectionVars false
namespace Go.Proofs.YthfppcmphkljkaaGreat
open Go Go.Proofs.Bx

theorem mixed : Tryz.prog.follows .mixedOrders = true := by kernel_rfl

noncomputable def mm0 : CallK := noK
theorem mm0_sound (S : Sym) : @CallSound S Tryz.prog mm0 := noK_sound _

end Go.Proofs.YthfppcmphkljkaaGreat
