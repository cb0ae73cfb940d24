/- Runs of functions in small memories (printed by a program), level 2. -/
import Derived.Test.YtlkpolcojgoafaaGreatM1
import Derived.Test.YtlkpolcojgoafaaGreatStr
set_option linter.unusedVariables false
set_option linter.unusedSimpArgs false
set_option linter.unusedSectionVars false
set_option maxRecDepth 100000
namespace Go.Proofs.YtlkpolcojgoafaaGreat
open Go Go.Proofs.Bx Go.Proofs.Bx.Sh

/-- batten/term.node. -/
noncomputable def b2_134_0 : List Memo := [
  ⟨134,[(g (t 1 0 c37 (eF 0) z []))],[r [i0,j0,j0,j0,j0]],bt,[],26⟩,
  ⟨134,[(g (tC c0 []))],[],bt,[],24⟩,
  ⟨134,[(g (tP (eB 0) []))],[n],bt,[],15⟩,
  ⟨134,[(g (t 1 0 c37 (eF 0) z []))],[r [i0,i0,j0,j0,j0]],bt,[],26⟩,
  ⟨134,[(g (tQ (eB 0) []))],[n],bt,[],15⟩,
  ⟨134,[(g (tV 0 []))],[],bt,[],14⟩,
  ⟨134,[(g (tC c1 []))],[],bt,[],24⟩,
  ⟨134,[(g (tV 2 []))],[],bt,[],14⟩,
  ⟨134,[(g (tV 3 []))],[],bt,[],14⟩,
  ⟨134,[(g (tC c2 []))],[],bt,[],24⟩,
  ⟨134,[(g (tV 1 []))],[],bt,[],14⟩,
  ⟨134,[(g (tL (eB 0) []))],[n],bt,[],15⟩,
  ⟨134,[(g (t 3 0 c3 (eF 0) z []))],[r [i0,i0,j0,j0,j0]],bt,[],36⟩,
  ⟨134,[(g (tC c4 []))],[],bt,[],24⟩,
  ⟨134,[(g (tC c5 []))],[],bt,[],24⟩,
  ⟨134,[(g (tV 4 []))],[],bt,[],14⟩,
  ⟨134,[(g (t 8 0 c4 z (eF 0) []))],[n],bt,[],29⟩,
  ⟨134,[(g (t 8 1 c4 z (eF 0) []))],[n],bt,[],29⟩,
  ⟨134,[(g (tC c7 []))],[],bt,[],24⟩,
  ⟨134,[(g (tC c8 []))],[],bt,[],24⟩,
  ⟨134,[(g (tC c9 []))],[],bt,[],24⟩,
  ⟨134,[(g (tV 5 []))],[],bt,[],14⟩,
  ⟨134,[(g (t 3 0 c10 (eF 0) z []))],[r [i0,i0,j0,j0,j0]],bt,[],36⟩,
  ⟨134,[(g (t 3 0 c3 (eF 0) z []))],[r [i0,j0,j0,j0,j0]],bt,[],36⟩,
  ⟨134,[(g (tC c14 []))],[],bt,[],24⟩,
  ⟨134,[(g (tC c20 []))],[],bt,[],24⟩,
  ⟨134,[(g (tC c21 []))],[],bt,[],24⟩,
  ⟨134,[(g (t 1 0 c37 (eF 0) z []))],[r [i1,j0,j0,j0,j0]],bt,[],26⟩,
  ⟨134,[(g (t 1 0 c37 (a 0 0 1 1 40 5) z []))],[r [i0,j0,j0,j0,j0]],bt,[],26⟩,
  ⟨134,[(g (tP (aA 0) []))],[n],bt,[],15⟩,
  ⟨134,[(g (tC c22 []))],[],bt,[],24⟩,
  ⟨134,[(g (tC c23 []))],[],bt,[],24⟩,
  ⟨134,[(g (tV 6 []))],[],bt,[],14⟩,
  ⟨134,[(g (tC c24 []))],[],bt,[],24⟩,
  ⟨134,[(g (t 3 0 c25 (a 0 0 1 1 40 5) z []))],[r [i0,i0,j0,j0,j0]],bt,[],36⟩,
  ⟨134,[(g (t 3 0 c26 (a 0 0 1 1 40 5) z []))],[r [i0,i0,j0,j0,j0]],bt,[],36⟩,
  ⟨134,[(g (t 3 0 c3 (a 0 0 1 1 40 5) z []))],[r [i0,i0,j0,j0,j0]],bt,[],36⟩,
  ⟨134,[(g (tQ (aA 0) []))],[n],bt,[],15⟩,
  ⟨134,[(g (t 3 0 c10 (a 0 0 1 1 40 5) z []))],[r [i0,i0,j0,j0,j0]],bt,[],36⟩,
  ⟨134,[(g (tC c27 []))],[],bt,[],24⟩,
  ⟨134,[(g (tC c29 []))],[],bt,[],24⟩,
  ⟨134,[(g (tC c30 []))],[],bt,[],24⟩,
  ⟨134,[(g (tC c31 []))],[],bt,[],24⟩,
  ⟨134,[(g (t 3 0 c32 (a 0 0 1 1 40 5) z []))],[r [i0,i0,j0,j0,j0]],bt,[],36⟩,
  ⟨134,[(g (tC c33 []))],[],bt,[],24⟩,
  ⟨134,[(g (tC c34 []))],[],bt,[],24⟩,
  ⟨134,[(g (tC c35 []))],[],bt,[],24⟩,
  ⟨134,[(g (t 3 0 c36 (a 0 0 1 1 40 5) z []))],[r [i0,i0,j0,j0,j0]],bt,[],36⟩]

theorem b2_134_0_ok : okAll (callM Tryz.prog mm1 1000 1000 300) 134 b2_134_0 = true := by decide +kernel

end Go.Proofs.YtlkpolcojgoafaaGreat
