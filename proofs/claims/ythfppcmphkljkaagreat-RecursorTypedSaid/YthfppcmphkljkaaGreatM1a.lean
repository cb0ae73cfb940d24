/- Runs of functions in small memories (printed by a program), level 1. -/
import Derived.Test.YthfppcmphkljkaaGreatK0
import Derived.Test.YthfppcmphkljkaaGreatStr
set_option linter.unusedVariables false
set_option linter.unusedSimpArgs false
set_option linter.unusedSectionVars false
set_option maxRecDepth 100000
namespace Go.Proofs.YthfppcmphkljkaaGreat
open Go Go.Proofs.Bx Go.Proofs.Bx.Sh

/-- batten/term.Name. -/
noncomputable def b1_110_0 : List Memo := [
  ⟨110,[c0],[],bt,[],1⟩,
  ⟨110,[c1],[],bt,[],1⟩,
  ⟨110,[c2],[],bt,[],1⟩,
  ⟨110,[c3],[],bt,[],1⟩,
  ⟨110,[c4],[],bt,[],1⟩,
  ⟨110,[c5],[],bt,[],1⟩,
  ⟨110,[c6],[],bt,[],1⟩,
  ⟨110,[c7],[],bt,[],1⟩,
  ⟨110,[c8],[],bt,[],1⟩,
  ⟨110,[c9],[],bt,[],1⟩,
  ⟨110,[c10],[],bt,[],1⟩,
  ⟨110,[c11],[],bt,[],1⟩,
  ⟨110,[c12],[],bt,[],1⟩,
  ⟨110,[c13],[],bt,[],1⟩,
  ⟨110,[c14],[],bt,[],1⟩,
  ⟨110,[c15],[],bt,[],1⟩,
  ⟨110,[c16],[],bt,[],1⟩,
  ⟨110,[c17],[],bt,[],1⟩,
  ⟨110,[c18],[],bt,[],1⟩,
  ⟨110,[c19],[],bt,[],1⟩,
  ⟨110,[c20],[],bt,[],1⟩,
  ⟨110,[c21],[],bt,[],1⟩,
  ⟨110,[c22],[],bt,[],1⟩,
  ⟨110,[c23],[],bt,[],1⟩,
  ⟨110,[c24],[],bt,[],1⟩,
  ⟨110,[c25],[],bt,[],1⟩,
  ⟨110,[c26],[],bt,[],1⟩,
  ⟨110,[c27],[],bt,[],1⟩,
  ⟨110,[c28],[],bt,[],1⟩,
  ⟨110,[c29],[],bt,[],1⟩,
  ⟨110,[c30],[],bt,[],1⟩,
  ⟨110,[c31],[],bt,[],1⟩,
  ⟨110,[c32],[],bt,[],1⟩,
  ⟨110,[c33],[],bt,[],1⟩,
  ⟨110,[c34],[],bt,[],1⟩]

theorem b1_110_0_ok : okAll (callM Tryz.prog mm0 1000 1000 300) 110 b1_110_0 = true := by decide +kernel

/-- batten/term.kids. -/
noncomputable def b1_152_0 : List Memo := [
  ⟨152,[(u 1)],[],(v [i0,bt]),[],0⟩,
  ⟨152,[(u 3)],[],(v [i0,bt]),[],0⟩,
  ⟨152,[(u 6)],[],(v [(i 2),bt]),[],0⟩,
  ⟨152,[(u 4)],[],(v [(i 2),bt]),[],0⟩,
  ⟨152,[(u 2)],[],(v [i0,bt]),[],0⟩,
  ⟨152,[(u 5)],[],(v [(i 2),bt]),[],0⟩,
  ⟨152,[(u 8)],[],(v [i1,bt]),[],0⟩]

theorem b1_152_0_ok : okAll (callM Tryz.prog mm0 1000 1000 300) 152 b1_152_0 = true := by decide +kernel

/-- batten/level.May. -/
noncomputable def b1_155_0 : List Memo := [
  ⟨155,[(g [i0,j0,j0,j0,j0])],[],bt,[],10⟩,
  ⟨155,[(g [i0,i0,j0,j0,j0])],[],bt,[],10⟩,
  ⟨155,[(g [i0,i1,j0,j0,j0])],[],bt,[],10⟩,
  ⟨155,[(g [i1,j0,j0,j0,j0])],[],bt,[],10⟩]

theorem b1_155_0_ok : okAll (callM Tryz.prog mm0 1000 1000 300) 155 b1_155_0 = true := by decide +kernel

/-- batten/term.binds. -/
noncomputable def b1_263_0 : List Memo := [
  ⟨263,[(g (tP (eB 0) [])),i0],[n],i0,[],2⟩,
  ⟨263,[(g (tP (eB 0) [])),i1],[n],i1,[],2⟩,
  ⟨263,[(g (tQ (eB 0) [])),x],[n],i0,[],2⟩,
  ⟨263,[(g (tL (eB 0) [])),i0],[n],i0,[],2⟩,
  ⟨263,[(g (tL (eB 0) [])),i1],[n],i1,[],2⟩,
  ⟨263,[(g (t 8 0 c4 z (eF 0) [])),x],[n],i0,[],2⟩,
  ⟨263,[(g (t 8 1 c4 z (eF 0) [])),x],[n],i0,[],2⟩,
  ⟨263,[(g (tP (aA 0) [])),i0],[n],i0,[],2⟩,
  ⟨263,[(g (tP (aA 0) [])),i1],[n],i1,[],2⟩,
  ⟨263,[(g (tQ (aA 0) [])),x],[n],i0,[],2⟩,
  ⟨263,[(g (tL (aA 0) [])),i0],[n],i0,[],2⟩,
  ⟨263,[(g (tL (aA 0) [])),i1],[n],i1,[],2⟩]

theorem b1_263_0_ok : okAll (callM Tryz.prog mm0 1000 1000 300) 263 b1_263_0 = true := by decide +kernel

/-- batten/battenref03.Name. -/
noncomputable def b1_137_0 : List Memo := [
  ⟨137,[c20],[],bt,[],0⟩,
  ⟨137,[c21],[],bt,[],0⟩,
  ⟨137,[c22],[],bt,[],0⟩,
  ⟨137,[c23],[],bt,[],0⟩,
  ⟨137,[c24],[],bt,[],0⟩,
  ⟨137,[c25],[],bt,[],0⟩,
  ⟨137,[c26],[],bt,[],0⟩,
  ⟨137,[c0],[],bt,[],0⟩,
  ⟨137,[c27],[],bt,[],0⟩,
  ⟨137,[c1],[],bt,[],0⟩,
  ⟨137,[c2],[],bt,[],0⟩,
  ⟨137,[c28],[],bt,[],0⟩,
  ⟨137,[c29],[],bt,[],0⟩,
  ⟨137,[c30],[],bt,[],0⟩,
  ⟨137,[c31],[],bt,[],0⟩,
  ⟨137,[c32],[],bt,[],0⟩,
  ⟨137,[c33],[],bt,[],0⟩,
  ⟨137,[c34],[],bt,[],0⟩]

theorem b1_137_0_ok : okAll (callM Tryz.prog mm0 1000 1000 300) 137 b1_137_0 = true := by decide +kernel

/-- batten/battenref03.Binds. -/
noncomputable def b1_142_0 : List Memo := [
  ⟨142,[(g (tP (eB 0) [])),i0],[n],i0,[],2⟩,
  ⟨142,[(g (tP (eB 0) [])),i1],[n],i1,[],2⟩,
  ⟨142,[(g (tL (eB 0) [])),i0],[n],i0,[],2⟩,
  ⟨142,[(g (tL (eB 0) [])),i1],[n],i1,[],2⟩,
  ⟨142,[(g (tQ (eB 0) [])),x],[n],i0,[],2⟩,
  ⟨142,[(g (tL (aA 0) [])),i0],[n],i0,[],2⟩,
  ⟨142,[(g (tP (aA 0) [])),i0],[n],i0,[],2⟩,
  ⟨142,[(g (tP (aA 0) [])),i1],[n],i1,[],2⟩,
  ⟨142,[(g (tQ (aA 0) [])),x],[n],i0,[],2⟩,
  ⟨142,[(g (tL (aA 0) [])),i1],[n],i1,[],2⟩]

theorem b1_142_0_ok : okAll (callM Tryz.prog mm0 1000 1000 300) 142 b1_142_0 = true := by decide +kernel

/-- batten/subst.binds. -/
noncomputable def b1_339_0 : List Memo := [
  ⟨339,[(g (tP (eB 0) [])),i0],[n],i0,[],2⟩,
  ⟨339,[(g (tP (eB 0) [])),i1],[n],i1,[],2⟩,
  ⟨339,[(g (tP (aA 0) [])),i0],[n],i0,[],2⟩,
  ⟨339,[(g (tP (aA 0) [])),i1],[n],i1,[],2⟩,
  ⟨339,[(g (tQ (aA 0) [])),x],[n],i0,[],2⟩,
  ⟨339,[(g (tQ (eB 0) [])),x],[n],i0,[],2⟩]

theorem b1_339_0_ok : okAll (callM Tryz.prog mm0 1000 1000 300) 339 b1_339_0 = true := by decide +kernel

/-- batten/level.Inst. -/
noncomputable def b1_373_0 : List Memo := [
  ⟨373,[(g [i0,j0,j0,j0,j0]),z],[],(v [(g [i0,j0,j0,j0,j0]),i0]),[],34⟩,
  ⟨373,[(g [i0,i0,j0,j0,j0]),(a 0 0 1 1 40 5)],[r [i0,i0,j0,j0,j0]],(v [(g [i0,i0,j0,j0,j0]),i0]),[],65⟩,
  ⟨373,[(g [i0,j0,j0,j0,j0]),(a 0 0 1 1 40 5)],[r [i0,i0,j0,j0,j0]],(v [(g [i0,j0,j0,j0,j0]),i0]),[],46⟩]

theorem b1_373_0_ok : okAll (callM Tryz.prog mm0 1000 1000 300) 373 b1_373_0 = true := by decide +kernel

/-- batten/level.Succ. -/
noncomputable def b1_230_0 : List Memo := [
  ⟨230,[(g [i0,i0,j0,j0,j0])],[],(v [(g [i0,i1,j0,j0,j0]),i0]),[],33⟩,
  ⟨230,[(g [i0,j0,j0,j0,j0])],[],(v [(g [i1,j0,j0,j0,j0]),i0]),[],33⟩]

theorem b1_230_0_ok : okAll (callM Tryz.prog mm0 1000 1000 300) 230 b1_230_0 = true := by decide +kernel

/-- batten/level.Max. -/
noncomputable def b1_237_0 : List Memo := [
  ⟨237,[(g [i0,j0,j0,j0,j0]),(g [i0,i1,j0,j0,j0])],[],(v [(g [i0,i1,j0,j0,j0]),i0]),[],44⟩,
  ⟨237,[(g [i0,i0,j0,j0,j0]),(g [i0,i0,j0,j0,j0])],[],(v [(g [i0,i0,j0,j0,j0]),i0]),[],44⟩,
  ⟨237,[(g [i0,j0,j0,j0,j0]),(g [i0,i0,j0,j0,j0])],[],(v [(g [i0,i0,j0,j0,j0]),i0]),[],44⟩,
  ⟨237,[(g [i0,i1,j0,j0,j0]),(g [i0,i0,j0,j0,j0])],[],(v [(g [i0,i1,j0,j0,j0]),i0]),[],44⟩,
  ⟨237,[(g [i0,i1,j0,j0,j0]),(g [i0,i1,j0,j0,j0])],[],(v [(g [i0,i1,j0,j0,j0]),i0]),[],44⟩,
  ⟨237,[(g [i1,j0,j0,j0,j0]),(g [i0,i1,j0,j0,j0])],[],(v [(g [i0,i1,j0,j0,j0]),i0]),[],44⟩,
  ⟨237,[(g [i0,j0,j0,j0,j0]),(g [i0,j0,j0,j0,j0])],[],(v [(g [i0,j0,j0,j0,j0]),i0]),[],44⟩]

theorem b1_237_0_ok : okAll (callM Tryz.prog mm0 1000 1000 300) 237 b1_237_0 = true := by decide +kernel

end Go.Proofs.YthfppcmphkljkaaGreat
