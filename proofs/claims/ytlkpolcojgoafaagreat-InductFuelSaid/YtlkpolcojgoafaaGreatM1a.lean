/- Runs of functions in small memories (printed by a program), level 1. -/
import Derived.Test.YtlkpolcojgoafaaGreatK0
import Derived.Test.YtlkpolcojgoafaaGreatStr
set_option linter.unusedVariables false
set_option linter.unusedSimpArgs false
set_option linter.unusedSectionVars false
set_option maxRecDepth 100000
namespace Go.Proofs.YtlkpolcojgoafaaGreat
open Go Go.Proofs.Bx Go.Proofs.Bx.Sh

/-- batten/term.Name. -/
noncomputable def b1_60_0 : List Memo := [
  ⟨60,[c0],[],bt,[],1⟩,
  ⟨60,[c1],[],bt,[],1⟩,
  ⟨60,[c2],[],bt,[],1⟩,
  ⟨60,[c3],[],bt,[],1⟩,
  ⟨60,[c4],[],bt,[],1⟩,
  ⟨60,[c5],[],bt,[],1⟩,
  ⟨60,[c6],[],bt,[],1⟩,
  ⟨60,[c7],[],bt,[],1⟩,
  ⟨60,[c8],[],bt,[],1⟩,
  ⟨60,[c9],[],bt,[],1⟩,
  ⟨60,[c10],[],bt,[],1⟩,
  ⟨60,[c11],[],bt,[],1⟩,
  ⟨60,[c12],[],bt,[],1⟩,
  ⟨60,[c13],[],bt,[],1⟩,
  ⟨60,[c14],[],bt,[],1⟩,
  ⟨60,[c15],[],bt,[],1⟩,
  ⟨60,[c16],[],bt,[],1⟩,
  ⟨60,[c17],[],bt,[],1⟩,
  ⟨60,[c18],[],bt,[],1⟩,
  ⟨60,[c19],[],bt,[],1⟩,
  ⟨60,[c20],[],bt,[],1⟩,
  ⟨60,[c21],[],bt,[],1⟩,
  ⟨60,[c22],[],bt,[],1⟩,
  ⟨60,[c23],[],bt,[],1⟩,
  ⟨60,[c24],[],bt,[],1⟩,
  ⟨60,[c25],[],bt,[],1⟩,
  ⟨60,[c26],[],bt,[],1⟩,
  ⟨60,[c27],[],bt,[],1⟩,
  ⟨60,[c28],[],bt,[],1⟩,
  ⟨60,[c29],[],bt,[],1⟩,
  ⟨60,[c30],[],bt,[],1⟩,
  ⟨60,[c31],[],bt,[],1⟩,
  ⟨60,[c32],[],bt,[],1⟩,
  ⟨60,[c33],[],bt,[],1⟩,
  ⟨60,[c34],[],bt,[],1⟩,
  ⟨60,[c35],[],bt,[],1⟩,
  ⟨60,[c36],[],bt,[],1⟩]

theorem b1_60_0_ok : okAll (callM Tryz.prog mm0 1000 1000 300) 60 b1_60_0 = true := by decide +kernel

/-- batten/term.kids. -/
noncomputable def b1_185_0 : List Memo := [
  ⟨185,[(u 1)],[],(v [i0,bt]),[],0⟩,
  ⟨185,[(u 3)],[],(v [i0,bt]),[],0⟩,
  ⟨185,[(u 6)],[],(v [(i 2),bt]),[],0⟩,
  ⟨185,[(u 4)],[],(v [(i 2),bt]),[],0⟩,
  ⟨185,[(u 2)],[],(v [i0,bt]),[],0⟩,
  ⟨185,[(u 5)],[],(v [(i 2),bt]),[],0⟩,
  ⟨185,[(u 8)],[],(v [i1,bt]),[],0⟩]

theorem b1_185_0_ok : okAll (callM Tryz.prog mm0 1000 1000 300) 185 b1_185_0 = true := by decide +kernel

/-- batten/level.May. -/
noncomputable def b1_107_0 : List Memo := [
  ⟨107,[(g [i0,j0,j0,j0,j0])],[],bt,[],10⟩,
  ⟨107,[(g [i0,i0,j0,j0,j0])],[],bt,[],10⟩,
  ⟨107,[(g [i1,j0,j0,j0,j0])],[],bt,[],10⟩]

theorem b1_107_0_ok : okAll (callM Tryz.prog mm0 1000 1000 300) 107 b1_107_0 = true := by decide +kernel

/-- batten/term.binds. -/
noncomputable def b1_162_0 : List Memo := [
  ⟨162,[(g (tP (eB 0) [])),i0],[n],i0,[],2⟩,
  ⟨162,[(g (tP (eB 0) [])),i1],[n],i1,[],2⟩,
  ⟨162,[(g (tQ (eB 0) [])),x],[n],i0,[],2⟩,
  ⟨162,[(g (tL (eB 0) [])),i0],[n],i0,[],2⟩,
  ⟨162,[(g (tL (eB 0) [])),i1],[n],i1,[],2⟩,
  ⟨162,[(g (t 8 0 c4 z (eF 0) [])),x],[n],i0,[],2⟩,
  ⟨162,[(g (t 8 1 c4 z (eF 0) [])),x],[n],i0,[],2⟩,
  ⟨162,[(g (tP (aA 0) [])),i0],[n],i0,[],2⟩,
  ⟨162,[(g (tP (aA 0) [])),i1],[n],i1,[],2⟩,
  ⟨162,[(g (tQ (aA 0) [])),x],[n],i0,[],2⟩]

theorem b1_162_0_ok : okAll (callM Tryz.prog mm0 1000 1000 300) 162 b1_162_0 = true := by decide +kernel

/-- batten/level.Succ. -/
noncomputable def b1_316_0 : List Memo := [
  ⟨316,[(g [i0,j0,j0,j0,j0])],[],(v [(g [i1,j0,j0,j0,j0]),i0]),[],33⟩]

theorem b1_316_0_ok : okAll (callM Tryz.prog mm0 1000 1000 300) 316 b1_316_0 = true := by decide +kernel

/-- batten/level.Inst. -/
noncomputable def b1_303_0 : List Memo := [
  ⟨303,[(g [i0,j0,j0,j0,j0]),z],[],(v [(g [i0,j0,j0,j0,j0]),i0]),[],34⟩]

theorem b1_303_0_ok : okAll (callM Tryz.prog mm0 1000 1000 300) 303 b1_303_0 = true := by decide +kernel

/-- batten/level.Max. -/
noncomputable def b1_322_0 : List Memo := [
  ⟨322,[(g [i0,j0,j0,j0,j0]),(g [i0,j0,j0,j0,j0])],[],(v [(g [i0,j0,j0,j0,j0]),i0]),[],44⟩,
  ⟨322,[(g [i1,j0,j0,j0,j0]),(g [i1,j0,j0,j0,j0])],[],(v [(g [i1,j0,j0,j0,j0]),i0]),[],44⟩,
  ⟨322,[(g [i1,j0,j0,j0,j0]),(g [i0,j0,j0,j0,j0])],[],(v [(g [i1,j0,j0,j0,j0]),i0]),[],44⟩,
  ⟨322,[(g [i0,j0,j0,j0,j0]),(g [i1,j0,j0,j0,j0])],[],(v [(g [i1,j0,j0,j0,j0]),i0]),[],44⟩]

theorem b1_322_0_ok : okAll (callM Tryz.prog mm0 1000 1000 300) 322 b1_322_0 = true := by decide +kernel

/-- batten/subst.binds. -/
noncomputable def b1_301_0 : List Memo := [
  ⟨301,[(g (tP (eB 0) [])),i0],[n],i0,[],2⟩,
  ⟨301,[(g (tP (eB 0) [])),i1],[n],i1,[],2⟩,
  ⟨301,[(g (tP (aA 0) [])),i0],[n],i0,[],2⟩,
  ⟨301,[(g (tP (aA 0) [])),i1],[n],i1,[],2⟩,
  ⟨301,[(g (tQ (eB 0) [])),x],[n],i0,[],2⟩,
  ⟨301,[(g (tQ (aA 0) [])),x],[n],i0,[],2⟩]

theorem b1_301_0_ok : okAll (callM Tryz.prog mm0 1000 1000 300) 301 b1_301_0 = true := by decide +kernel

end Go.Proofs.YtlkpolcojgoafaaGreat
