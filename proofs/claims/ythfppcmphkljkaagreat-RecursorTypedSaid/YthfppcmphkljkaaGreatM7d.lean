/- Runs of functions in small memories (printed by a program), level 7. -/
import Derived.Test.YthfppcmphkljkaaGreatM6
import Derived.Test.YthfppcmphkljkaaGreatStr
set_option linter.unusedVariables false
set_option linter.unusedSimpArgs false
set_option linter.unusedSectionVars false
set_option maxRecDepth 100000
namespace Go.Proofs.YthfppcmphkljkaaGreat
open Go Go.Proofs.Bx Go.Proofs.Bx.Sh

/-- batten/subst.Inst. -/
noncomputable def b7_234_20 : List Memo := [
  ⟨234,[(g (tP (aA 0) [])),(eF 1)],[r (tQ (aA 2) (tP (aA 3) [])),r (tV 3 []),r (tV 0 (tC c32 [])),r (tP (aA 4) (tP (aA 5) [])),r (tP (aA 6) (tP (aA 7) [])),r (tC c31 (tQ (aA 8) [])),r (tC c0 (tC c31 [])),r (tP (aA 9) (tQ (aA 10) [])),r (tV 3 (tV 0 [])),r (tC c0 (tQ (aA 11) [])),r (tV 3 (tQ (aA 12) [])),r (tV 3 (tQ (aA 13) [])),r (tC c33 (tV 1 [])),r (tV 1 (tV 0 []))],(v [(g (tP (aA 2359) [])),i0]),[(1932,q (tV 3 (tC c32 []))),(2015,q (tC c0 (tC c31 []))),(2161,q (tV 1 (tV 0 []))),(2162,q (tV 6 (tQ (aA 2161) []))),(2163,q (tC c0 (tQ (aA 2162) []))),(2258,q (tC c33 (tV 1 []))),(2259,q (tV 6 (tQ (aA 2258) []))),(2260,q (tP (aA 2163) (tQ (aA 2259) []))),(2261,q (tP (aA 2015) (tP (aA 2260) []))),(2356,q (tV 6 (tV 0 []))),(2357,q (tC c31 (tQ (aA 2356) []))),(2358,q (tP (aA 2261) (tP (aA 2357) []))),(2359,q (tQ (aA 1932) (tP (aA 2358) [])))],2856⟩,
  ⟨234,[(g (tP (aA 0) [])),(eF 1)],[r (tP (aA 2) (tP (aA 3) [])),r (tV 2 []),r (tP (aA 4) (tP (aA 5) [])),r (tC c31 (tQ (aA 6) [])),r (tC c0 (tC c31 [])),r (tP (aA 7) (tQ (aA 8) [])),r (tV 6 (tV 0 [])),r (tC c0 (tQ (aA 9) [])),r (tV 6 (tQ (aA 10) [])),r (tV 6 (tQ (aA 11) [])),r (tC c33 (tV 1 [])),r (tV 1 (tV 0 []))],(v [(g (tP (aA 1957) [])),i0]),[(1635,q (tC c0 (tC c31 []))),(1774,q (tV 1 (tV 0 []))),(1775,q (tV 5 (tQ (aA 1774) []))),(1776,q (tC c0 (tQ (aA 1775) []))),(1864,q (tC c33 (tV 1 []))),(1865,q (tV 5 (tQ (aA 1864) []))),(1866,q (tP (aA 1776) (tQ (aA 1865) []))),(1867,q (tP (aA 1635) (tP (aA 1866) []))),(1955,q (tV 5 (tV 0 []))),(1956,q (tC c31 (tQ (aA 1955) []))),(1957,q (tP (aA 1867) (tP (aA 1956) [])))],2380⟩,
  ⟨234,[(g (tP (aA 0) [])),(eF 1)],[r (tC c31 (tQ (aA 2) [])),r (tV 1 []),r (tV 5 (tV 0 []))],(v [(g (tP (aA 426) [])),i0]),[(425,q (tV 4 (tV 0 []))),(426,q (tC c31 (tQ (aA 425) [])))],521⟩,
  ⟨234,[(g (tQ (aA 0) [])),(eF 1)],[r (tV 4 (tV 0 [])),r (tQ (eB 2) []),r (tC c33 (tV 0 []))],(v [(g (tQ (aA 365) [])),i0]),[(364,q (tC c33 (tV 0 []))),(365,q (tV 3 (tQ (aA 364) [])))],460⟩,
  ⟨234,[(g (tP (aA 0) [])),(eF 1)],[r (tP (aA 2) (tQ (aA 3) [])),r (tV 0 []),r (tC c0 (tQ (aA 4) [])),r (tV 5 (tQ (aA 5) [])),r (tV 5 (tQ (aA 6) [])),r (tC c33 (tV 1 [])),r (tV 1 (tV 0 []))],(v [(g (tP (aA 1124) [])),i0]),[(1025,q (tV 1 (tV 0 []))),(1026,q (tV 4 (tQ (aA 1025) []))),(1027,q (tC c0 (tQ (aA 1026) []))),(1122,q (tC c33 (tV 1 []))),(1123,q (tV 4 (tQ (aA 1122) []))),(1124,q (tP (aA 1027) (tQ (aA 1123) [])))],1357⟩]

theorem b7_234_20_ok : okAll (callM Tryz.prog mm6 1000 1000 300) 234 b7_234_20 = true := by decide +kernel

/-- batten/subst.Inst. -/
noncomputable def b7_234_21 : List Memo := [
  ⟨234,[(g (tP (aA 0) [])),(eF 1)],[r (tQ (aA 2) (tP (aA 3) [])),r (tV 4 []),r (tV 0 (tC c32 [])),r (tP (aA 4) (tP (aA 5) [])),r (tP (aA 6) (tP (aA 7) [])),r (tC c31 (tQ (aA 8) [])),r (tC c0 (tC c31 [])),r (tP (aA 9) (tQ (aA 10) [])),r (tV 3 (tV 0 [])),r (tC c0 (tQ (aA 11) [])),r (tV 3 (tQ (aA 12) [])),r (tV 3 (tQ (aA 13) [])),r (tC c33 (tV 1 [])),r (tV 1 (tV 0 []))],(v [(g (tP (aA 2359) [])),i0]),[(1932,q (tV 4 (tC c32 []))),(2015,q (tC c0 (tC c31 []))),(2161,q (tV 1 (tV 0 []))),(2162,q (tV 7 (tQ (aA 2161) []))),(2163,q (tC c0 (tQ (aA 2162) []))),(2258,q (tC c33 (tV 1 []))),(2259,q (tV 7 (tQ (aA 2258) []))),(2260,q (tP (aA 2163) (tQ (aA 2259) []))),(2261,q (tP (aA 2015) (tP (aA 2260) []))),(2356,q (tV 7 (tV 0 []))),(2357,q (tC c31 (tQ (aA 2356) []))),(2358,q (tP (aA 2261) (tP (aA 2357) []))),(2359,q (tQ (aA 1932) (tP (aA 2358) [])))],2856⟩,
  ⟨234,[(g (tP (aA 0) [])),(eF 1)],[r (tP (aA 2) (tP (aA 3) [])),r (tV 3 []),r (tP (aA 4) (tP (aA 5) [])),r (tC c31 (tQ (aA 6) [])),r (tC c0 (tC c31 [])),r (tP (aA 7) (tQ (aA 8) [])),r (tV 7 (tV 0 [])),r (tC c0 (tQ (aA 9) [])),r (tV 7 (tQ (aA 10) [])),r (tV 7 (tQ (aA 11) [])),r (tC c33 (tV 1 [])),r (tV 1 (tV 0 []))],(v [(g (tP (aA 1957) [])),i0]),[(1635,q (tC c0 (tC c31 []))),(1774,q (tV 1 (tV 0 []))),(1775,q (tV 6 (tQ (aA 1774) []))),(1776,q (tC c0 (tQ (aA 1775) []))),(1864,q (tC c33 (tV 1 []))),(1865,q (tV 6 (tQ (aA 1864) []))),(1866,q (tP (aA 1776) (tQ (aA 1865) []))),(1867,q (tP (aA 1635) (tP (aA 1866) []))),(1955,q (tV 6 (tV 0 []))),(1956,q (tC c31 (tQ (aA 1955) []))),(1957,q (tP (aA 1867) (tP (aA 1956) [])))],2380⟩,
  ⟨234,[(g (tP (aA 0) [])),(eF 1)],[r (tC c31 (tQ (aA 2) [])),r (tV 2 []),r (tV 6 (tV 0 []))],(v [(g (tP (aA 426) [])),i0]),[(425,q (tV 5 (tV 0 []))),(426,q (tC c31 (tQ (aA 425) [])))],521⟩,
  ⟨234,[(g (tQ (aA 0) [])),(eF 1)],[r (tV 5 (tV 0 [])),r (tQ (aA 2) []),r (tV 1 (tV 0 []))],(v [(g (tQ (aA 357) [])),i0]),[(356,q (tV 1 (tV 0 []))),(357,q (tV 4 (tQ (aA 356) [])))],442⟩,
  ⟨234,[(g (tQ (aA 0) [])),(eF 1)],[r (tV 4 (tQ (aA 2) [])),r (tL (aA 3) []),r (tC c33 (tV 1 [])),r (tC c0 (tQ (aA 4) [])),r (tQ (aA 5) (tQ (aA 6) [])),r (tQ (aA 7) (tV 2 [])),r (tV 1 (tV 0 [])),r (tQ (aA 8) (tV 3 [])),r (t 3 0 c34 (a 9 0 1 1 40 5) z (tV 4 [])),r [i0,i0,j0,j0,j0]],(v [(g (tQ (aA 812) [])),i0]),[(811,q (tC c33 (tV 0 []))),(812,q (tV 3 (tQ (aA 811) [])))],907⟩]

theorem b7_234_21_ok : okAll (callM Tryz.prog mm6 1000 1000 300) 234 b7_234_21 = true := by decide +kernel

end Go.Proofs.YthfppcmphkljkaaGreat
