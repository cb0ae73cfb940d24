/- Runs of functions in small memories (printed by a program), level 3. -/
import Derived.Test.YthfppcmphkljkaaGreatM2
import Derived.Test.YthfppcmphkljkaaGreatStr
set_option linter.unusedVariables false
set_option linter.unusedSimpArgs false
set_option linter.unusedSectionVars false
set_option maxRecDepth 100000
namespace Go.Proofs.YthfppcmphkljkaaGreat
open Go Go.Proofs.Bx Go.Proofs.Bx.Sh

/-- batten/term.May. -/
noncomputable def b3_34_0 : List Memo := [
  ⟨34,[(g (t 1 0 c35 (eF 0) z []))],[r [i0,j0,j0,j0,j0]],bt,[],30⟩,
  ⟨34,[(g (tC c0 []))],[],bt,[],28⟩,
  ⟨34,[(g (tP (eB 0) []))],[r (tC c0 (tC c0 []))],bt,[],71⟩,
  ⟨34,[(g (tP (eB 0) []))],[r (tP (eB 1) (tP (eB 2) [])),r (tC c0 (t 1 0 c35 (eF 3) z [])),r (tQ (eB 4) (tP (eB 5) [])),r [i0,i0,j0,j0,j0],r (tV 0 (tC c1 [])),r (tP (eB 6) (tP (eB 7) [])),r (tC c0 (tP (eB 8) [])),r (tC c0 (tQ (eB 9) [])),r (tQ (eB 10) (tQ (eB 11) [])),r (tV 3 (tV 0 [])),r (tV 2 (tV 0 [])),r (tV 3 (tQ (eB 12) [])),r (tC c2 (tV 1 []))],bt,[],476⟩,
  ⟨34,[(g (tL (eB 0) []))],[r (tP (eB 1) (tL (eB 2) [])),r (tC c0 (t 1 0 c35 (eF 3) z [])),r (tQ (eB 4) (tL (eB 5) [])),r [i0,i0,j0,j0,j0],r (tV 0 (tC c1 [])),r (tP (eB 6) (tV 1 [])),r (tC c0 (tP (eB 7) [])),r (tQ (eB 8) (tQ (eB 9) [])),r (tV 2 (tV 0 [])),r (tV 3 (tQ (eB 10) [])),r (tC c2 (tV 1 []))],bt,[],400⟩,
  ⟨34,[(g (tL (eB 0) []))],[r (tP (eB 1) (tL (eB 2) [])),r (tC c0 (t 1 0 c35 (eF 3) z [])),r (tQ (eB 4) (tL (eB 5) [])),r [i0,i0,j0,j0,j0],r (tV 0 (tC c1 [])),r (tP (eB 6) (tL (eB 7) [])),r (tC c0 (tP (eB 8) [])),r (tC c0 (tQ (eB 9) [])),r (tQ (eB 10) (tQ (eB 11) [])),r (tQ (eB 12) (tQ (eB 13) [])),r (tV 2 (tV 0 [])),r (tV 3 (tQ (eB 14) [])),r (tV 1 (tV 0 [])),r (tQ (eB 15) (tV 0 [])),r (tC c2 (tV 1 [])),r (tQ (eB 16) (tV 1 [])),r (tQ (eB 17) (tV 2 [])),r (t 3 0 c3 (eF 18) z (tV 3 [])),r [i0,i0,j0,j0,j0]],bt,[],663⟩,
  ⟨34,[(g (tP (eB 0) []))],[r (t 1 0 c35 (eF 1) z (tP (eB 2) [])),r [i0,j0,j0,j0,j0],r (t 1 0 c35 (eF 3) z (t 1 0 c35 (eF 4) z [])),r [i0,j0,j0,j0,j0],r [i0,j0,j0,j0,j0]],bt,[],120⟩,
  ⟨34,[(g (tP (eB 0) []))],[r (t 1 0 c35 (eF 1) z (tP (eB 2) [])),r [i0,j0,j0,j0,j0],r (t 1 0 c35 (eF 3) z (tP (eB 4) [])),r [i0,j0,j0,j0,j0],r (tV 1 (tP (eB 5) [])),r (tV 1 (tQ (eB 6) [])),r (tQ (eB 7) (tV 2 [])),r (tC c4 (tV 3 []))],bt,[],250⟩,
  ⟨34,[(g (tP (eB 0) []))],[r (t 1 0 c35 (eF 1) z (tP (eB 2) [])),r [i0,j0,j0,j0,j0],r (t 1 0 c35 (eF 3) z (tP (eB 4) [])),r [i0,j0,j0,j0,j0],r (tP (eB 5) (tP (eB 6) [])),r (tQ (eB 7) (t 1 0 c35 (eF 8) z [])),r (tP (eB 9) (tP (eB 10) [])),r (tQ (eB 11) (tV 0 [])),r [i0,i0,j0,j0,j0],r (tV 2 (tP (eB 12) [])),r (tQ (eB 13) (tQ (eB 14) [])),r (tC c4 (tV 1 [])),r (tV 2 (tQ (eB 15) [])),r (tQ (eB 16) (tV 2 [])),r (tV 2 (tV 0 [])),r (tV 2 (tQ (eB 17) [])),r (tC c4 (tV 3 [])),r (tQ (eB 18) (tV 0 [])),r (tQ (eB 19) (tV 1 [])),r (tQ (eB 20) (tV 3 [])),r (tC c5 (tV 4 []))],bt,[],678⟩,
  ⟨34,[(g (tL (eB 0) []))],[r (t 1 0 c35 (eF 1) z (tL (eB 2) [])),r [i0,j0,j0,j0,j0],r (t 1 0 c35 (eF 3) z (tL (eB 4) [])),r [i0,j0,j0,j0,j0],r (tP (eB 5) (tL (eB 6) [])),r (tQ (eB 7) (t 1 0 c35 (eF 8) z [])),r (tP (eB 9) (tL (eB 10) [])),r (tQ (eB 11) (tV 0 [])),r [i0,i0,j0,j0,j0],r (tV 2 (tP (eB 12) [])),r (tQ (eB 13) (tQ (eB 14) [])),r (tC c4 (tV 1 [])),r (tV 2 (tQ (eB 15) [])),r (tQ (eB 16) (tV 2 [])),r (tQ (eB 17) (t 8 1 c4 z (eF 18) [])),r (tV 2 (tQ (eB 19) [])),r (tC c4 (tV 3 [])),r (tV 1 (t 8 0 c4 z (eF 20) [])),r (tV 0 []),r (tQ (eB 21) (tV 0 [])),r (tV 0 []),r (tQ (eB 22) (tV 1 [])),r (tQ (eB 23) (tV 3 [])),r (tC c5 (tV 4 []))],bt,[],773⟩,
  ⟨34,[(g (tP (eB 0) []))],[r (t 1 0 c35 (eF 1) z (t 1 0 c35 (eF 2) z [])),r [i0,j0,j0,j0,j0],r [i0,j0,j0,j0,j0]],bt,[],75⟩,
  ⟨34,[(g (tP (eB 0) []))],[r (t 1 0 c35 (eF 1) z (tQ (eB 2) [])),r [i0,j0,j0,j0,j0],r (tC c7 (tV 0 []))],bt,[],106⟩,
  ⟨34,[(g (tP (eB 0) []))],[r (t 1 0 c35 (eF 1) z (tP (eB 2) [])),r [i0,j0,j0,j0,j0],r (tV 0 (tP (eB 3) [])),r (tQ (eB 4) (tQ (eB 5) [])),r (tC c7 (tV 1 [])),r (tC c7 (tV 2 []))],bt,[],215⟩,
  ⟨34,[(g (tP (eB 0) []))],[r (t 1 0 c35 (eF 1) z (tP (eB 2) [])),r [i0,j0,j0,j0,j0],r (tP (eB 3) (tP (eB 4) [])),r (tQ (eB 5) (t 1 0 c35 (eF 6) z [])),r (tQ (eB 7) (tP (eB 8) [])),r (tC c7 (tV 0 [])),r [i0,i0,j0,j0,j0],r (tV 0 (tQ (eB 9) [])),r (tP (eB 10) (tP (eB 11) [])),r (tC c8 (tV 1 [])),r (tV 2 (tP (eB 12) [])),r (tQ (eB 13) (tQ (eB 14) [])),r (tQ (eB 15) (tP (eB 16) [])),r (tC c7 (tV 3 [])),r (tV 3 (tV 0 [])),r (tC c7 (tV 3 [])),r (tQ (eB 17) (tQ (eB 18) [])),r (tV 3 (tV 0 [])),r (tV 4 (tQ (eB 19) [])),r (tQ (eB 20) (tV 1 [])),r (tQ (eB 21) (tV 2 [])),r (tC c9 (tV 5 []))],bt,[],752⟩]

theorem b3_34_0_ok : okAll (callM Tryz.prog mm2 1000 1000 300) 34 b3_34_0 = true := by decide +kernel

/-- batten/term.May. -/
noncomputable def b3_34_1 : List Memo := [
  ⟨34,[(g (tL (eB 0) []))],[r (t 1 0 c35 (eF 1) z (tL (eB 2) [])),r [i0,j0,j0,j0,j0],r (tP (eB 3) (tL (eB 4) [])),r (tQ (eB 5) (t 1 0 c35 (eF 6) z [])),r (tQ (eB 7) (tL (eB 8) [])),r (tC c7 (tV 0 [])),r [i0,i0,j0,j0,j0],r (tV 0 (tQ (eB 9) [])),r (tP (eB 10) (tV 1 [])),r (tC c8 (tV 1 [])),r (tV 2 (tP (eB 11) [])),r (tQ (eB 12) (tP (eB 13) [])),r (tC c7 (tV 3 [])),r (tQ (eB 14) (tQ (eB 15) [])),r (tV 3 (tV 0 [])),r (tV 4 (tQ (eB 16) [])),r (tQ (eB 17) (tV 1 [])),r (tQ (eB 18) (tV 2 [])),r (tC c9 (tV 5 []))],bt,[],643⟩,
  ⟨34,[(g (tL (eB 0) []))],[r (t 1 0 c35 (eF 1) z (tL (eB 2) [])),r [i0,j0,j0,j0,j0],r (tP (eB 3) (tL (eB 4) [])),r (tQ (eB 5) (t 1 0 c35 (eF 6) z [])),r (tQ (eB 7) (tL (eB 8) [])),r (tC c7 (tV 0 [])),r [i0,i0,j0,j0,j0],r (tV 0 (tQ (eB 9) [])),r (tP (eB 10) (tL (eB 11) [])),r (tC c8 (tV 1 [])),r (tV 2 (tP (eB 12) [])),r (tV 3 (tL (eB 13) [])),r (tQ (eB 14) (tP (eB 15) [])),r (tQ (eB 16) (tQ (eB 17) [])),r (tC c7 (tV 3 [])),r (tQ (eB 18) (tQ (eB 19) [])),r (tC c7 (tV 4 [])),r (tQ (eB 20) (tQ (eB 21) [])),r (tV 3 (tV 0 [])),r (tV 4 (tQ (eB 22) [])),r (tQ (eB 23) (tV 0 [])),r (tQ (eB 24) (tV 0 [])),r (tQ (eB 25) (tV 1 [])),r (tV 2 (tV 1 [])),r (tQ (eB 26) (tV 2 [])),r (tQ (eB 27) (tV 2 [])),r (tQ (eB 28) (tV 3 [])),r (tC c9 (tV 5 [])),r (tQ (eB 29) (tV 4 [])),r (t 3 0 c10 (eF 30) z (tV 5 [])),r [i0,i0,j0,j0,j0]],bt,[],1038⟩,
  ⟨34,[(g (tQ (eB 0) []))],[r (tQ (eB 1) (tC c0 [])),r (tC c4 (tC c0 []))],bt,[],114⟩,
  ⟨34,[(g (tP (eB 0) []))],[r (tC c0 (tP (eB 1) [])),r (tC c0 (tC c0 []))],bt,[],114⟩,
  ⟨34,[(g (tL (eB 0) []))],[r (tC c0 (tL (eB 1) [])),r (tC c0 (tQ (eB 2) [])),r (tQ (eB 3) (tV 0 [])),r (tQ (eB 4) (tL (eB 5) [])),r (tQ (eB 6) (tV 1 [])),r (tC c0 (tL (eB 7) [])),r (t 3 0 c3 (eF 8) z (tL (eB 9) [])),r (tC c0 (tQ (eB 10) [])),r [i0,j0,j0,j0,j0],r (tC c0 (tC c0 [])),r (tC c2 (tV 0 []))],bt,[],440⟩,
  ⟨34,[(g (tQ (eB 0) []))],[r (tC c2 (tC c1 []))],bt,[],71⟩,
  ⟨34,[(g (tL (eB 0) []))],[r (tC c0 (tQ (eB 1) [])),r (tQ (eB 2) (tV 0 [])),r (tC c14 (tV 0 []))],bt,[],137⟩,
  ⟨34,[(g (tP (eB 0) []))],[r (t 1 0 c35 (eF 1) z (tP (eB 2) [])),r [i0,i0,j0,j0,j0],r (tV 0 (tV 1 []))],bt,[],96⟩,
  ⟨34,[(g (tL (eB 0) []))],[r (t 1 0 c35 (eF 1) z (tL (eB 2) [])),r [i0,i0,j0,j0,j0],r (tV 0 (tV 0 []))],bt,[],96⟩,
  ⟨34,[(g (tP (eB 0) []))],[r (t 1 0 c35 (eF 1) z (tP (eB 2) [])),r [i0,j0,j0,j0,j0],r (t 1 0 c35 (eF 3) z (tP (eB 4) [])),r [i0,j0,j0,j0,j0],r (tQ (eB 5) (tQ (eB 6) [])),r (tQ (eB 7) (tV 0 [])),r (tQ (eB 8) (tV 2 [])),r (tC c4 (tV 1 [])),r (tC c4 (tV 1 []))],bt,[],293⟩,
  ⟨34,[(g (tL (eB 0) []))],[r (t 1 0 c35 (eF 1) z (tL (eB 2) [])),r [i0,j0,j0,j0,j0],r (t 1 0 c35 (eF 3) z (tL (eB 4) [])),r [i0,j0,j0,j0,j0],r (tQ (eB 5) (tQ (eB 6) [])),r (tQ (eB 7) (tV 0 [])),r (tQ (eB 8) (t 8 0 c4 z (eF 9) [])),r (tC c4 (tV 1 [])),r (tQ (eB 10) (t 8 1 c4 z (eF 11) [])),r (tV 0 []),r (tQ (eB 12) (tV 2 [])),r (tV 0 []),r (tC c5 (tV 1 []))],bt,[],421⟩,
  ⟨34,[(g (tQ (eB 0) []))],[r (tC c2 (tQ (eB 1) [])),r (tC c2 (tC c1 []))],bt,[],114⟩,
  ⟨34,[(g (tP (eB 0) []))],[r (tC c20 (tC c21 []))],bt,[],71⟩,
  ⟨34,[(g (tC c20 []))],[],bt,[],28⟩,
  ⟨34,[(g (tP (eB 0) []))],[r (tC c21 (tP (eB 1) [])),r (tC c20 (tC c20 []))],bt,[],114⟩,
  ⟨34,[(g (tC c21 []))],[],bt,[],28⟩,
  ⟨34,[(g (tP (aA 0) []))],[r (tC c20 (tC c21 []))],bt,[],71⟩,
  ⟨34,[(g (tV 0 []))],[],bt,[],18⟩,
  ⟨34,[(g (tP (aA 0) []))],[r (tC c21 (tP (aA 1) [])),r (tC c20 (tC c20 []))],bt,[],114⟩,
  ⟨34,[(g (tV 1 []))],[],bt,[],18⟩,
  ⟨34,[(g (tP (eB 0) []))],[r (tP (eB 1) (tP (eB 2) [])),r (tC c21 (t 1 0 c35 (eF 3) z [])),r (tP (eB 4) (tP (eB 5) [])),r [i0,i0,j0,j0,j0],r (tC c20 (t 1 0 c35 (eF 6) z [])),r (tP (eB 7) (tP (eB 8) [])),r [i0,i0,j0,j0,j0],r (tC c20 (tP (eB 9) [])),r (tQ (eB 10) (tP (eB 11) [])),r (tQ (eB 12) (tQ (eB 13) [])),r (tV 1 (tC c23 [])),r (tP (eB 14) (tP (eB 15) [])),r (tV 1 (tV 0 [])),r (tV 3 (tQ (eB 16) [])),r (tC c21 (tP (eB 17) [])),r (tC c21 (tQ (eB 18) [])),r (tC c22 (tV 1 [])),r (tC c20 (tP (eB 19) [])),r (tV 5 (tV 0 [])),r (tQ (eB 20) (tP (eB 21) [])),r (tV 5 (tV 1 [])),r (tQ (eB 22) (tQ (eB 23) [])),r (tV 5 (tV 1 [])),r (tV 6 (tQ (eB 24) [])),r (tQ (eB 25) (tV 2 [])),r (tC c24 (tV 3 []))],bt,[],924⟩]

theorem b3_34_1_ok : okAll (callM Tryz.prog mm2 1000 1000 300) 34 b3_34_1 = true := by decide +kernel

/-- batten/term.May. -/
noncomputable def b3_34_2 : List Memo := [
  ⟨34,[(g (tL (eB 0) []))],[r (tP (eB 1) (tL (eB 2) [])),r (tC c21 (t 1 0 c35 (eF 3) z [])),r (tP (eB 4) (tL (eB 5) [])),r [i0,i0,j0,j0,j0],r (tC c20 (t 1 0 c35 (eF 6) z [])),r (tP (eB 7) (tL (eB 8) [])),r [i0,i0,j0,j0,j0],r (tC c20 (tP (eB 9) [])),r (tQ (eB 10) (tL (eB 11) [])),r (tQ (eB 12) (tQ (eB 13) [])),r (tV 1 (tC c23 [])),r (tP (eB 14) (tL (eB 15) [])),r (tV 1 (tV 0 [])),r (tV 3 (tQ (eB 16) [])),r (tC c21 (tP (eB 17) [])),r (tC c20 (tQ (eB 18) [])),r (tC c22 (tV 1 [])),r (tC c20 (tP (eB 19) [])),r (tQ (eB 20) (tQ (eB 21) [])),r (tQ (eB 22) (tP (eB 23) [])),r (tV 3 (tV 0 [])),r (tQ (eB 24) (tV 0 [])),r (tV 5 (tV 1 [])),r (tQ (eB 25) (tQ (eB 26) [])),r (tQ (eB 27) (tV 1 [])),r (tV 5 (tV 1 [])),r (tV 6 (tQ (eB 28) [])),r (tQ (eB 29) (tV 2 [])),r (tQ (eB 30) (tV 2 [])),r (tQ (eB 31) (tV 3 [])),r (tC c24 (tV 3 [])),r (tQ (eB 32) (tV 4 [])),r (t 3 0 c25 (a 33 0 1 1 40 5) z (tV 5 [])),r [i0,i0,j0,j0,j0]],bt,[],1177⟩,
  ⟨34,[(g (tP (eB 0) []))],[r (tP (eB 1) (tP (eB 2) [])),r (tC c21 (t 1 0 c35 (eF 3) z [])),r (tP (eB 4) (tP (eB 5) [])),r [i0,i0,j0,j0,j0],r (tC c20 (t 1 0 c35 (eF 6) z [])),r (tP (eB 7) (tP (eB 8) [])),r [i0,i0,j0,j0,j0],r (tC c20 (tP (eB 9) [])),r (tQ (eB 10) (tP (eB 11) [])),r (tQ (eB 12) (tQ (eB 13) [])),r (tV 1 (tC c23 [])),r (tP (eB 14) (tP (eB 15) [])),r (tV 1 (tV 0 [])),r (tV 3 (tQ (eB 16) [])),r (tC c21 (tP (eB 17) [])),r (tC c20 (tQ (eB 18) [])),r (tC c22 (tV 1 [])),r (tC c20 (tP (eB 19) [])),r (tV 4 (tV 0 [])),r (tQ (eB 20) (tP (eB 21) [])),r (tV 5 (tV 1 [])),r (tQ (eB 22) (tQ (eB 23) [])),r (tV 5 (tV 1 [])),r (tV 6 (tQ (eB 24) [])),r (tQ (eB 25) (tV 2 [])),r (tC c24 (tV 3 []))],bt,[],924⟩,
  ⟨34,[(g (tL (eB 0) []))],[r (tP (eB 1) (tL (eB 2) [])),r (tC c21 (t 1 0 c35 (eF 3) z [])),r (tP (eB 4) (tL (eB 5) [])),r [i0,i0,j0,j0,j0],r (tC c20 (t 1 0 c35 (eF 6) z [])),r (tP (eB 7) (tL (eB 8) [])),r [i0,i0,j0,j0,j0],r (tC c20 (tP (eB 9) [])),r (tQ (eB 10) (tL (eB 11) [])),r (tQ (eB 12) (tQ (eB 13) [])),r (tV 1 (tC c23 [])),r (tP (eB 14) (tV 1 [])),r (tV 1 (tV 0 [])),r (tV 3 (tQ (eB 15) [])),r (tC c21 (tP (eB 16) [])),r (tC c22 (tV 1 [])),r (tC c20 (tP (eB 17) [])),r (tQ (eB 18) (tP (eB 19) [])),r (tV 5 (tV 1 [])),r (tQ (eB 20) (tQ (eB 21) [])),r (tV 5 (tV 1 [])),r (tV 6 (tQ (eB 22) [])),r (tQ (eB 23) (tV 2 [])),r (tC c24 (tV 3 []))],bt,[],848⟩,
  ⟨34,[(g (tL (eB 0) []))],[r (tP (eB 1) (tL (eB 2) [])),r (tC c21 (t 1 0 c35 (eF 3) z [])),r (tP (eB 4) (tL (eB 5) [])),r [i0,i0,j0,j0,j0],r (tC c20 (t 1 0 c35 (eF 6) z [])),r (tP (eB 7) (tL (eB 8) [])),r [i0,i0,j0,j0,j0],r (tC c20 (tP (eB 9) [])),r (tQ (eB 10) (tL (eB 11) [])),r (tQ (eB 12) (tQ (eB 13) [])),r (tV 1 (tC c23 [])),r (tP (eB 14) (tL (eB 15) [])),r (tV 1 (tV 0 [])),r (tV 3 (tQ (eB 16) [])),r (tC c21 (tP (eB 17) [])),r (tC c21 (tL (eB 18) [])),r (tC c22 (tV 1 [])),r (tC c20 (tP (eB 19) [])),r (tC c20 (tQ (eB 20) [])),r (tQ (eB 21) (tP (eB 22) [])),r (tQ (eB 23) (tQ (eB 24) [])),r (tV 5 (tV 1 [])),r (tQ (eB 25) (tQ (eB 26) [])),r (tQ (eB 27) (tQ (eB 28) [])),r (tQ (eB 29) (tV 0 [])),r (tV 5 (tV 1 [])),r (tV 6 (tQ (eB 30) [])),r (tQ (eB 31) (tV 0 [])),r (tQ (eB 32) (tV 1 [])),r (tQ (eB 33) (tV 2 [])),r (tQ (eB 34) (tV 2 [])),r (tV 2 (tV 1 [])),r (tQ (eB 35) (tV 2 [])),r (tQ (eB 36) (tV 3 [])),r (tC c24 (tV 3 [])),r (tQ (eB 37) (tV 3 [])),r (tQ (eB 38) (tV 4 [])),r (tQ (eB 39) (tV 4 [])),r (tQ (eB 40) (tV 5 [])),r (tQ (eB 41) (tV 5 [])),r (t 3 0 c25 (a 42 0 1 1 40 5) z (tV 6 [])),r (t 3 0 c26 (a 43 0 1 1 40 5) z (tV 6 [])),r [i0,i0,j0,j0,j0],r [i0,i0,j0,j0,j0]],bt,[],1506⟩,
  ⟨34,[(g (t 1 0 c35 (a 0 0 1 1 40 5) z []))],[r [i0,j0,j0,j0,j0]],bt,[],30⟩,
  ⟨34,[(g (t 1 0 c35 (eF 0) z []))],[r [i0,i1,j0,j0,j0]],bt,[],30⟩,
  ⟨34,[(g (tP (eB 0) []))],[r (tC c20 (t 1 0 c35 (eF 1) z [])),r [i0,i0,j0,j0,j0]],bt,[],73⟩,
  ⟨34,[(g (tP (aA 0) []))],[r (tC c20 (t 1 0 c35 (eF 1) z [])),r [i0,i0,j0,j0,j0]],bt,[],73⟩,
  ⟨34,[(g (t 1 0 c35 (eF 0) z []))],[r [i0,i0,j0,j0,j0]],bt,[],30⟩,
  ⟨34,[(g (tP (eB 0) []))],[r (tC c21 (t 1 0 c35 (eF 1) z [])),r [i0,i0,j0,j0,j0]],bt,[],73⟩,
  ⟨34,[(g (tP (aA 0) []))],[r (tC c21 (t 1 0 c35 (eF 1) z [])),r [i0,i0,j0,j0,j0]],bt,[],73⟩,
  ⟨34,[(g (tC c22 []))],[],bt,[],28⟩,
  ⟨34,[(g (tQ (eB 0) []))],[r (tC c22 (tV 1 []))],bt,[],61⟩]

theorem b3_34_2_ok : okAll (callM Tryz.prog mm2 1000 1000 300) 34 b3_34_2 = true := by decide +kernel

/-- batten/term.May. -/
noncomputable def b3_34_3 : List Memo := [
  ⟨34,[(g (tC c23 []))],[],bt,[],28⟩,
  ⟨34,[(g (tC c24 []))],[],bt,[],28⟩,
  ⟨34,[(g (tP (aA 0) []))],[r (tC c20 (tC c20 []))],bt,[],71⟩,
  ⟨34,[(g (tV 3 []))],[],bt,[],18⟩,
  ⟨34,[(g (tV 2 []))],[],bt,[],18⟩,
  ⟨34,[(g (tQ (eB 0) []))],[r (tQ (eB 1) (tV 2 [])),r (tC c24 (tV 3 []))],bt,[],94⟩,
  ⟨34,[(g (tP (eB 0) []))],[r (tC c20 (tP (eB 1) [])),r (tQ (eB 2) (tQ (eB 3) [])),r (tV 1 (tV 0 [])),r (tV 3 (tQ (eB 4) [])),r (tC c22 (tV 1 []))],bt,[],203⟩,
  ⟨34,[(g (tQ (eB 0) []))],[r (tV 1 (tC c23 []))],bt,[],61⟩,
  ⟨34,[(g (tP (eB 0) []))],[r (tC c21 (tP (eB 1) [])),r (tC c20 (tP (eB 2) [])),r (tQ (eB 3) (tP (eB 4) [])),r (tV 5 (tV 1 [])),r (tQ (eB 5) (tQ (eB 6) [])),r (tV 5 (tV 1 [])),r (tV 6 (tQ (eB 7) [])),r (tQ (eB 8) (tV 2 [])),r (tC c24 (tV 3 []))],bt,[],345⟩,
  ⟨34,[(g (tQ (eB 0) []))],[r (tQ (eB 1) (tQ (eB 2) [])),r (tQ (eB 3) (tV 1 [])),r (tC c22 (tV 0 [])),r (tQ (eB 4) (tV 2 [])),r (tQ (eB 5) (tV 3 [])),r (tQ (eB 6) (tV 4 [])),r (t 3 0 c26 (a 7 0 1 1 40 5) z (tV 5 [])),r [i0,i0,j0,j0,j0]],bt,[],281⟩,
  ⟨34,[(g (t 3 0 c26 (a 0 0 1 1 40 5) z []))],[r [i0,i0,j0,j0,j0]],bt,[],40⟩,
  ⟨34,[(g (tP (aA 0) []))],[r (tP (aA 1) (tP (aA 2) [])),r (tC c21 (t 1 0 c35 (a 3 0 1 1 40 5) z [])),r (tP (aA 4) (tP (aA 5) [])),r [i0,i0,j0,j0,j0],r (tC c20 (t 1 0 c35 (a 6 0 1 1 40 5) z [])),r (tP (aA 7) (tP (aA 8) [])),r [i0,i0,j0,j0,j0],r (tC c20 (tP (aA 9) [])),r (tQ (aA 10) (tP (aA 11) [])),r (tQ (aA 12) (tQ (aA 13) [])),r (tV 1 (tC c23 [])),r (tP (aA 14) (tP (aA 15) [])),r (tV 1 (tV 0 [])),r (tV 3 (tQ (aA 16) [])),r (tC c21 (tP (aA 17) [])),r (tC c21 (tQ (aA 18) [])),r (tC c22 (tV 1 [])),r (tC c20 (tP (aA 19) [])),r (tV 5 (tV 0 [])),r (tQ (aA 20) (tP (aA 21) [])),r (tV 5 (tV 1 [])),r (tQ (aA 22) (tQ (aA 23) [])),r (tV 5 (tV 1 [])),r (tV 6 (tQ (aA 24) [])),r (tQ (aA 25) (tV 2 [])),r (tC c24 (tV 3 []))],bt,[],924⟩,
  ⟨34,[(g (tP (aA 0) []))],[r (tC c21 (t 1 0 c35 (a 1 0 1 1 40 5) z [])),r [i0,i0,j0,j0,j0]],bt,[],73⟩,
  ⟨34,[(g (tP (aA 0) []))],[r (tP (aA 1) (tP (aA 2) [])),r (tC c20 (t 1 0 c35 (a 3 0 1 1 40 5) z [])),r (tP (aA 4) (tP (aA 5) [])),r [i0,i0,j0,j0,j0],r (tC c20 (tP (aA 6) [])),r (tQ (aA 7) (tP (aA 8) [])),r (tQ (aA 9) (tQ (aA 10) [])),r (tV 1 (tC c23 [])),r (tP (aA 11) (tP (aA 12) [])),r (tV 1 (tV 0 [])),r (tV 3 (tQ (aA 13) [])),r (tC c21 (tP (aA 14) [])),r (tC c21 (tQ (aA 15) [])),r (tC c22 (tV 1 [])),r (tC c20 (tP (aA 16) [])),r (tV 5 (tV 0 [])),r (tQ (aA 17) (tP (aA 18) [])),r (tV 5 (tV 1 [])),r (tQ (aA 19) (tQ (aA 20) [])),r (tV 5 (tV 1 [])),r (tV 6 (tQ (aA 21) [])),r (tQ (aA 22) (tV 2 [])),r (tC c24 (tV 3 []))],bt,[],836⟩,
  ⟨34,[(g (tV 5 []))],[],bt,[],18⟩,
  ⟨34,[(g (tP (aA 0) []))],[r (tP (aA 1) (tP (aA 2) [])),r (tC c20 (t 1 0 c35 (a 3 0 1 1 40 5) z [])),r (tP (aA 4) (tP (aA 5) [])),r [i0,i0,j0,j0,j0],r (tC c20 (tP (aA 6) [])),r (tQ (aA 7) (tP (aA 8) [])),r (tQ (aA 9) (tQ (aA 10) [])),r (tV 1 (tC c23 [])),r (tP (aA 11) (tP (aA 12) [])),r (tV 1 (tV 0 [])),r (tV 8 (tQ (aA 13) [])),r (tC c21 (tP (aA 14) [])),r (tC c21 (tQ (aA 15) [])),r (tC c22 (tV 1 [])),r (tC c20 (tP (aA 16) [])),r (tV 10 (tV 0 [])),r (tQ (aA 17) (tP (aA 18) [])),r (tV 10 (tV 1 [])),r (tQ (aA 19) (tQ (aA 20) [])),r (tV 5 (tV 1 [])),r (tV 6 (tQ (aA 21) [])),r (tQ (aA 22) (tV 2 [])),r (tC c24 (tV 3 []))],bt,[],836⟩,
  ⟨34,[(g (tP (aA 0) []))],[r (tC c20 (t 1 0 c35 (a 1 0 1 1 40 5) z [])),r [i0,i0,j0,j0,j0]],bt,[],73⟩,
  ⟨34,[(g (tP (aA 0) []))],[r (tP (aA 1) (tP (aA 2) [])),r (tC c20 (tP (aA 3) [])),r (tQ (aA 4) (tP (aA 5) [])),r (tQ (aA 6) (tQ (aA 7) [])),r (tV 1 (tC c23 [])),r (tP (aA 8) (tP (aA 9) [])),r (tV 1 (tV 0 [])),r (tV 8 (tQ (aA 10) [])),r (tC c21 (tP (aA 11) [])),r (tC c21 (tQ (aA 12) [])),r (tC c22 (tV 1 [])),r (tC c20 (tP (aA 13) [])),r (tV 10 (tV 0 [])),r (tQ (aA 14) (tP (aA 15) [])),r (tV 10 (tV 1 [])),r (tQ (aA 16) (tQ (aA 17) [])),r (tV 5 (tV 1 [])),r (tV 6 (tQ (aA 18) [])),r (tQ (aA 19) (tV 2 [])),r (tC c24 (tV 3 []))],bt,[],748⟩,
  ⟨34,[(g (tV 4 []))],[],bt,[],18⟩]

theorem b3_34_3_ok : okAll (callM Tryz.prog mm2 1000 1000 300) 34 b3_34_3 = true := by decide +kernel

/-- batten/term.May. -/
noncomputable def b3_34_4 : List Memo := [
  ⟨34,[(g (tP (aA 0) []))],[r (tP (aA 1) (tP (aA 2) [])),r (tC c20 (tP (aA 3) [])),r (tQ (aA 4) (tP (aA 5) [])),r (tQ (aA 6) (tQ (aA 7) [])),r (tV 5 (tC c23 [])),r (tP (aA 8) (tP (aA 9) [])),r (tV 5 (tV 0 [])),r (tV 7 (tQ (aA 10) [])),r (tC c21 (tP (aA 11) [])),r (tC c21 (tQ (aA 12) [])),r (tC c22 (tV 1 [])),r (tC c20 (tP (aA 13) [])),r (tV 9 (tV 0 [])),r (tQ (aA 14) (tP (aA 15) [])),r (tV 9 (tV 1 [])),r (tQ (aA 16) (tQ (aA 17) [])),r (tV 9 (tV 1 [])),r (tV 10 (tQ (aA 18) [])),r (tQ (aA 19) (tV 2 [])),r (tC c24 (tV 3 []))],bt,[],748⟩,
  ⟨34,[(g (tP (aA 0) []))],[r (tC c20 (tP (aA 1) [])),r (tQ (aA 2) (tQ (aA 3) [])),r (tV 5 (tV 0 [])),r (tV 7 (tQ (aA 4) [])),r (tC c22 (tV 1 []))],bt,[],203⟩,
  ⟨34,[(g (tP (aA 0) []))],[r (tQ (aA 1) (tP (aA 2) [])),r (tV 5 (tC c23 [])),r (tP (aA 3) (tP (aA 4) [])),r (tC c21 (tP (aA 5) [])),r (tC c21 (tQ (aA 6) [])),r (tC c20 (tP (aA 7) [])),r (tV 9 (tV 0 [])),r (tQ (aA 8) (tP (aA 9) [])),r (tV 9 (tV 1 [])),r (tQ (aA 10) (tQ (aA 11) [])),r (tV 9 (tV 1 [])),r (tV 10 (tQ (aA 12) [])),r (tQ (aA 13) (tV 2 [])),r (tC c24 (tV 3 []))],bt,[],530⟩,
  ⟨34,[(g (tP (aA 0) []))],[r (tQ (aA 1) (tP (aA 2) [])),r (tV 4 (tC c23 [])),r (tP (aA 3) (tP (aA 4) [])),r (tC c21 (tP (aA 5) [])),r (tC c21 (tQ (aA 6) [])),r (tC c20 (tP (aA 7) [])),r (tV 8 (tV 0 [])),r (tQ (aA 8) (tP (aA 9) [])),r (tV 8 (tV 1 [])),r (tQ (aA 10) (tQ (aA 11) [])),r (tV 8 (tV 1 [])),r (tV 9 (tQ (aA 12) [])),r (tQ (aA 13) (tV 2 [])),r (tC c24 (tV 3 []))],bt,[],530⟩,
  ⟨34,[(g (tQ (aA 0) []))],[r (tV 4 (tC c23 []))],bt,[],61⟩,
  ⟨34,[(g (tP (aA 0) []))],[r (tP (aA 1) (tP (aA 2) [])),r (tC c21 (tP (aA 3) [])),r (tC c21 (tQ (aA 4) [])),r (tC c20 (tP (aA 5) [])),r (tV 8 (tV 0 [])),r (tQ (aA 6) (tP (aA 7) [])),r (tV 8 (tV 1 [])),r (tQ (aA 8) (tQ (aA 9) [])),r (tV 8 (tV 1 [])),r (tV 9 (tQ (aA 10) [])),r (tQ (aA 11) (tV 2 [])),r (tC c24 (tV 3 []))],bt,[],454⟩,
  ⟨34,[(g (tP (aA 0) []))],[r (tP (aA 1) (tP (aA 2) [])),r (tC c21 (tP (aA 3) [])),r (tC c21 (tQ (aA 4) [])),r (tC c20 (tP (aA 5) [])),r (tV 7 (tV 0 [])),r (tQ (aA 6) (tP (aA 7) [])),r (tV 7 (tV 1 [])),r (tQ (aA 8) (tQ (aA 9) [])),r (tV 7 (tV 1 [])),r (tV 8 (tQ (aA 10) [])),r (tQ (aA 11) (tV 2 [])),r (tC c24 (tV 3 []))],bt,[],454⟩,
  ⟨34,[(g (tP (aA 0) []))],[r (tC c21 (tP (aA 1) [])),r (tC c20 (tP (aA 2) [])),r (tQ (aA 3) (tP (aA 4) [])),r (tV 7 (tV 1 [])),r (tQ (aA 5) (tQ (aA 6) [])),r (tV 7 (tV 1 [])),r (tV 8 (tQ (aA 7) [])),r (tQ (aA 8) (tV 2 [])),r (tC c24 (tV 3 []))],bt,[],345⟩,
  ⟨34,[(g (tP (aA 0) []))],[r (tC c21 (tQ (aA 1) [])),r (tV 7 (tV 0 []))],bt,[],94⟩,
  ⟨34,[(g (tP (aA 0) []))],[r (tC c21 (tQ (aA 1) [])),r (tV 6 (tV 0 []))],bt,[],94⟩,
  ⟨34,[(g (tQ (aA 0) []))],[r (tV 6 (tV 0 []))],bt,[],51⟩,
  ⟨34,[(g (tQ (eB 0) []))],[r (tC c22 (tV 0 []))],bt,[],61⟩,
  ⟨34,[(g (tQ (aA 0) []))],[r (tV 5 (tQ (aA 1) [])),r (tC c22 (tV 0 []))],bt,[],94⟩,
  ⟨34,[(g (tQ (aA 0) []))],[r (tQ (aA 1) (tQ (aA 2) [])),r (tV 3 (tV 0 [])),r (tQ (aA 3) (tV 0 [])),r (tQ (aA 4) (tV 1 [])),r (tQ (aA 5) (tV 2 [])),r (tQ (aA 6) (tV 3 [])),r (tQ (aA 7) (tV 4 [])),r (t 3 0 c25 (a 8 0 1 1 40 5) z (tV 5 [])),r [i0,i0,j0,j0,j0]],bt,[],304⟩,
  ⟨34,[(g (tP (aA 0) []))],[r (tQ (aA 1) (tQ (aA 2) [])),r (tV 5 (tV 0 [])),r (tV 7 (tQ (aA 3) [])),r (tC c22 (tV 1 []))],bt,[],160⟩,
  ⟨34,[(g (tP (aA 0) []))],[r (tQ (aA 1) (tQ (aA 2) [])),r (tV 4 (tV 0 [])),r (tV 6 (tQ (aA 3) [])),r (tC c22 (tV 1 []))],bt,[],160⟩,
  ⟨34,[(g (t 3 0 c25 (a 0 0 1 1 40 5) z []))],[r [i0,i0,j0,j0,j0]],bt,[],40⟩]

theorem b3_34_4_ok : okAll (callM Tryz.prog mm2 1000 1000 300) 34 b3_34_4 = true := by decide +kernel

/-- batten/term.May. -/
noncomputable def b3_34_5 : List Memo := [
  ⟨34,[(g (tP (aA 0) []))],[r (tP (aA 1) (tP (aA 2) [])),r (tC c21 (t 1 0 c35 (a 3 0 1 1 40 5) z [])),r (tP (aA 4) (tP (aA 5) [])),r [i0,i0,j0,j0,j0],r (tC c20 (t 1 0 c35 (a 6 0 1 1 40 5) z [])),r (tP (aA 7) (tP (aA 8) [])),r [i0,i0,j0,j0,j0],r (tC c20 (tP (aA 9) [])),r (tQ (aA 10) (tP (aA 11) [])),r (tQ (aA 12) (tQ (aA 13) [])),r (tV 1 (tC c23 [])),r (tP (aA 14) (tP (aA 15) [])),r (tV 1 (tV 0 [])),r (tV 3 (tQ (aA 16) [])),r (tC c21 (tP (aA 17) [])),r (tC c20 (tQ (aA 18) [])),r (tC c22 (tV 1 [])),r (tC c20 (tP (aA 19) [])),r (tV 4 (tV 0 [])),r (tQ (aA 20) (tP (aA 21) [])),r (tV 5 (tV 1 [])),r (tQ (aA 22) (tQ (aA 23) [])),r (tV 5 (tV 1 [])),r (tV 6 (tQ (aA 24) [])),r (tQ (aA 25) (tV 2 [])),r (tC c24 (tV 3 []))],bt,[],924⟩,
  ⟨34,[(g (tP (aA 0) []))],[r (tP (aA 1) (tP (aA 2) [])),r (tC c20 (t 1 0 c35 (a 3 0 1 1 40 5) z [])),r (tP (aA 4) (tP (aA 5) [])),r [i0,i0,j0,j0,j0],r (tC c20 (tP (aA 6) [])),r (tQ (aA 7) (tP (aA 8) [])),r (tQ (aA 9) (tQ (aA 10) [])),r (tV 1 (tC c23 [])),r (tP (aA 11) (tP (aA 12) [])),r (tV 1 (tV 0 [])),r (tV 3 (tQ (aA 13) [])),r (tC c21 (tP (aA 14) [])),r (tC c20 (tQ (aA 15) [])),r (tC c22 (tV 1 [])),r (tC c20 (tP (aA 16) [])),r (tV 4 (tV 0 [])),r (tQ (aA 17) (tP (aA 18) [])),r (tV 5 (tV 1 [])),r (tQ (aA 19) (tQ (aA 20) [])),r (tV 5 (tV 1 [])),r (tV 6 (tQ (aA 21) [])),r (tQ (aA 22) (tV 2 [])),r (tC c24 (tV 3 []))],bt,[],836⟩,
  ⟨34,[(g (tP (aA 0) []))],[r (tP (aA 1) (tP (aA 2) [])),r (tC c20 (t 1 0 c35 (a 3 0 1 1 40 5) z [])),r (tP (aA 4) (tP (aA 5) [])),r [i0,i0,j0,j0,j0],r (tC c20 (tP (aA 6) [])),r (tQ (aA 7) (tP (aA 8) [])),r (tQ (aA 9) (tQ (aA 10) [])),r (tV 1 (tC c23 [])),r (tP (aA 11) (tP (aA 12) [])),r (tV 1 (tV 0 [])),r (tV 8 (tQ (aA 13) [])),r (tC c21 (tP (aA 14) [])),r (tC c20 (tQ (aA 15) [])),r (tC c22 (tV 1 [])),r (tC c20 (tP (aA 16) [])),r (tV 4 (tV 0 [])),r (tQ (aA 17) (tP (aA 18) [])),r (tV 10 (tV 1 [])),r (tQ (aA 19) (tQ (aA 20) [])),r (tV 5 (tV 1 [])),r (tV 6 (tQ (aA 21) [])),r (tQ (aA 22) (tV 2 [])),r (tC c24 (tV 3 []))],bt,[],836⟩,
  ⟨34,[(g (tP (aA 0) []))],[r (tP (aA 1) (tP (aA 2) [])),r (tC c20 (tP (aA 3) [])),r (tQ (aA 4) (tP (aA 5) [])),r (tQ (aA 6) (tQ (aA 7) [])),r (tV 1 (tC c23 [])),r (tP (aA 8) (tP (aA 9) [])),r (tV 1 (tV 0 [])),r (tV 8 (tQ (aA 10) [])),r (tC c21 (tP (aA 11) [])),r (tC c20 (tQ (aA 12) [])),r (tC c22 (tV 1 [])),r (tC c20 (tP (aA 13) [])),r (tV 4 (tV 0 [])),r (tQ (aA 14) (tP (aA 15) [])),r (tV 10 (tV 1 [])),r (tQ (aA 16) (tQ (aA 17) [])),r (tV 5 (tV 1 [])),r (tV 6 (tQ (aA 18) [])),r (tQ (aA 19) (tV 2 [])),r (tC c24 (tV 3 []))],bt,[],748⟩,
  ⟨34,[(g (tP (aA 0) []))],[r (tP (aA 1) (tP (aA 2) [])),r (tC c20 (tP (aA 3) [])),r (tQ (aA 4) (tP (aA 5) [])),r (tQ (aA 6) (tQ (aA 7) [])),r (tV 5 (tC c23 [])),r (tP (aA 8) (tP (aA 9) [])),r (tV 5 (tV 0 [])),r (tV 7 (tQ (aA 10) [])),r (tC c21 (tP (aA 11) [])),r (tC c20 (tQ (aA 12) [])),r (tC c22 (tV 1 [])),r (tC c20 (tP (aA 13) [])),r (tV 8 (tV 0 [])),r (tQ (aA 14) (tP (aA 15) [])),r (tV 9 (tV 1 [])),r (tQ (aA 16) (tQ (aA 17) [])),r (tV 9 (tV 1 [])),r (tV 10 (tQ (aA 18) [])),r (tQ (aA 19) (tV 2 [])),r (tC c24 (tV 3 []))],bt,[],748⟩,
  ⟨34,[(g (tP (aA 0) []))],[r (tQ (aA 1) (tP (aA 2) [])),r (tV 5 (tC c23 [])),r (tP (aA 3) (tP (aA 4) [])),r (tC c21 (tP (aA 5) [])),r (tC c20 (tQ (aA 6) [])),r (tC c20 (tP (aA 7) [])),r (tV 8 (tV 0 [])),r (tQ (aA 8) (tP (aA 9) [])),r (tV 9 (tV 1 [])),r (tQ (aA 10) (tQ (aA 11) [])),r (tV 9 (tV 1 [])),r (tV 10 (tQ (aA 12) [])),r (tQ (aA 13) (tV 2 [])),r (tC c24 (tV 3 []))],bt,[],530⟩]

theorem b3_34_5_ok : okAll (callM Tryz.prog mm2 1000 1000 300) 34 b3_34_5 = true := by decide +kernel

/-- batten/term.May. -/
noncomputable def b3_34_6 : List Memo := [
  ⟨34,[(g (tP (aA 0) []))],[r (tQ (aA 1) (tP (aA 2) [])),r (tV 4 (tC c23 [])),r (tP (aA 3) (tP (aA 4) [])),r (tC c21 (tP (aA 5) [])),r (tC c20 (tQ (aA 6) [])),r (tC c20 (tP (aA 7) [])),r (tV 7 (tV 0 [])),r (tQ (aA 8) (tP (aA 9) [])),r (tV 8 (tV 1 [])),r (tQ (aA 10) (tQ (aA 11) [])),r (tV 8 (tV 1 [])),r (tV 9 (tQ (aA 12) [])),r (tQ (aA 13) (tV 2 [])),r (tC c24 (tV 3 []))],bt,[],530⟩,
  ⟨34,[(g (tP (aA 0) []))],[r (tP (aA 1) (tP (aA 2) [])),r (tC c21 (tP (aA 3) [])),r (tC c20 (tQ (aA 4) [])),r (tC c20 (tP (aA 5) [])),r (tV 7 (tV 0 [])),r (tQ (aA 6) (tP (aA 7) [])),r (tV 8 (tV 1 [])),r (tQ (aA 8) (tQ (aA 9) [])),r (tV 8 (tV 1 [])),r (tV 9 (tQ (aA 10) [])),r (tQ (aA 11) (tV 2 [])),r (tC c24 (tV 3 []))],bt,[],454⟩,
  ⟨34,[(g (tP (aA 0) []))],[r (tP (aA 1) (tP (aA 2) [])),r (tC c21 (tP (aA 3) [])),r (tC c20 (tQ (aA 4) [])),r (tC c20 (tP (aA 5) [])),r (tV 6 (tV 0 [])),r (tQ (aA 6) (tP (aA 7) [])),r (tV 7 (tV 1 [])),r (tQ (aA 8) (tQ (aA 9) [])),r (tV 7 (tV 1 [])),r (tV 8 (tQ (aA 10) [])),r (tQ (aA 11) (tV 2 [])),r (tC c24 (tV 3 []))],bt,[],454⟩,
  ⟨34,[(g (tP (aA 0) []))],[r (tC c20 (tQ (aA 1) [])),r (tV 6 (tV 0 []))],bt,[],94⟩,
  ⟨34,[(g (tP (aA 0) []))],[r (tC c20 (tQ (aA 1) [])),r (tV 5 (tV 0 []))],bt,[],94⟩,
  ⟨34,[(g (tQ (aA 0) []))],[r (tV 5 (tV 0 []))],bt,[],51⟩,
  ⟨34,[(g (tQ (aA 0) []))],[r (tV 4 (tV 0 []))],bt,[],51⟩,
  ⟨34,[(g (tQ (aA 0) []))],[r (tV 6 (tQ (aA 1) [])),r (tC c22 (tV 1 []))],bt,[],94⟩,
  ⟨34,[(g (tQ (aA 0) []))],[r (tQ (aA 1) (tV 0 [])),r (tQ (aA 2) (tV 1 [])),r (tQ (aA 3) (tV 2 [])),r (tQ (aA 4) (tV 3 [])),r (tQ (aA 5) (tV 4 [])),r (t 3 0 c25 (a 6 0 1 1 40 5) z (tV 5 [])),r [i0,i0,j0,j0,j0]],bt,[],238⟩,
  ⟨34,[(g (tP (aA 0) []))],[r (tC c0 (tC c0 []))],bt,[],71⟩,
  ⟨34,[(g (tL (eB 0) []))],[r (tP (eB 1) (tL (eB 2) [])),r (tC c0 (t 1 0 c35 (eF 3) z [])),r (tQ (eB 4) (tL (eB 5) [])),r [i0,i0,j0,j0,j0],r (tV 0 (tC c1 [])),r (tP (eB 6) (tL (eB 7) [])),r (tC c0 (tP (eB 8) [])),r (tC c0 (tQ (eB 9) [])),r (tQ (eB 10) (tQ (eB 11) [])),r (tQ (eB 12) (tQ (eB 13) [])),r (tV 2 (tV 0 [])),r (tV 3 (tQ (eB 14) [])),r (tV 1 (tV 0 [])),r (tQ (eB 15) (tV 0 [])),r (tC c2 (tV 1 [])),r (tQ (eB 16) (tV 1 [])),r (tQ (eB 17) (tV 2 [])),r (t 3 0 c3 (a 18 0 1 1 40 5) z (tV 3 [])),r [i0,i0,j0,j0,j0]],bt,[],663⟩,
  ⟨34,[(g (tP (eB 0) []))],[r (t 1 0 c35 (eF 1) z (tP (eB 2) [])),r [i0,j0,j0,j0,j0],r (t 1 0 c35 (eF 1) z (t 1 0 c35 (eF 1) z []))],bt,[],118⟩,
  ⟨34,[(g (tP (eB 0) []))],[r (t 1 0 c35 (eF 1) z (tP (eB 2) [])),r [i0,j0,j0,j0,j0],r (t 1 0 c35 (eF 1) z (tP (eB 3) [])),r (tV 1 (tP (eB 4) [])),r (tV 1 (tQ (eB 5) [])),r (tQ (eB 6) (tV 2 [])),r (tC c4 (tV 3 []))],bt,[],249⟩,
  ⟨34,[(g (tQ (eB 0) []))],[r (tQ (eB 1) (tV 2 [])),r (tC c4 (tV 3 []))],bt,[],94⟩,
  ⟨34,[(g (tP (eB 0) []))],[r (tV 1 (tP (eB 1) [])),r (tV 1 (tQ (eB 2) [])),r (tQ (eB 3) (tV 2 [])),r (tC c4 (tV 3 []))],bt,[],160⟩,
  ⟨34,[(g (tP (aA 0) []))],[r (tV 2 (tP (aA 1) [])),r (tV 2 (tQ (aA 2) [])),r (tQ (aA 3) (tV 3 [])),r (tC c4 (tV 4 []))],bt,[],160⟩,
  ⟨34,[(g (tQ (aA 0) []))],[r (tQ (aA 1) (tV 3 [])),r (tC c4 (tV 4 []))],bt,[],94⟩,
  ⟨34,[(g (tP (eB 0) []))],[r (t 1 0 c35 (eF 1) z (tP (eB 2) [])),r [i0,j0,j0,j0,j0],r (t 1 0 c35 (eF 1) z (tP (eB 3) [])),r (tP (eB 4) (tP (eB 5) [])),r (tQ (eB 6) (t 1 0 c35 (eF 7) z [])),r (tP (eB 8) (tP (eB 9) [])),r (tQ (eB 10) (tV 0 [])),r [i0,i0,j0,j0,j0],r (tV 2 (tP (eB 11) [])),r (tQ (eB 12) (tQ (eB 13) [])),r (tC c4 (tV 1 [])),r (tV 2 (tQ (eB 14) [])),r (tQ (eB 15) (tV 2 [])),r (tV 2 (tV 0 [])),r (tV 2 (tQ (eB 16) [])),r (tC c4 (tV 3 [])),r (tQ (eB 17) (tV 0 [])),r (tQ (eB 18) (tV 1 [])),r (tQ (eB 19) (tV 3 [])),r (tC c5 (tV 4 []))],bt,[],677⟩]

theorem b3_34_6_ok : okAll (callM Tryz.prog mm2 1000 1000 300) 34 b3_34_6 = true := by decide +kernel

/-- batten/term.May. -/
noncomputable def b3_34_7 : List Memo := [
  ⟨34,[(g (tL (eB 0) []))],[r (t 1 0 c35 (eF 1) z (tL (eB 2) [])),r [i0,j0,j0,j0,j0],r (t 1 0 c35 (eF 1) z (tL (eB 3) [])),r (tP (eB 4) (tL (eB 5) [])),r (tQ (eB 6) (t 1 0 c35 (eF 7) z [])),r (tP (eB 8) (tL (eB 9) [])),r (tQ (eB 10) (tV 0 [])),r [i0,i0,j0,j0,j0],r (tV 2 (tP (eB 11) [])),r (tQ (eB 12) (tQ (eB 13) [])),r (tC c4 (tV 1 [])),r (tV 2 (tQ (eB 14) [])),r (tQ (eB 15) (tV 2 [])),r (tQ (eB 16) (t 8 1 c4 z (eF 17) [])),r (tV 2 (tQ (eB 18) [])),r (tC c4 (tV 3 [])),r (tV 1 (t 8 0 c4 z (eF 19) [])),r (tV 0 []),r (tQ (eB 20) (tV 0 [])),r (tV 0 []),r (tQ (eB 21) (tV 1 [])),r (tQ (eB 22) (tV 3 [])),r (tC c5 (tV 4 []))],bt,[],772⟩,
  ⟨34,[(g (tP (eB 0) []))],[r (t 1 0 c35 (eF 1) z (t 1 0 c35 (eF 1) z [])),r [i0,j0,j0,j0,j0]],bt,[],74⟩,
  ⟨34,[(g (tQ (eB 0) []))],[r (tC c7 (tV 0 []))],bt,[],61⟩,
  ⟨34,[(g (tQ (eB 0) []))],[r (tC c7 (tV 2 []))],bt,[],61⟩,
  ⟨34,[(g (tQ (eB 0) []))],[r (tC c7 (tV 1 []))],bt,[],61⟩,
  ⟨34,[(g (tQ (aA 0) []))],[r (tC c7 (tV 1 []))],bt,[],61⟩,
  ⟨34,[(g (tP (eB 0) []))],[r (tV 0 (tP (eB 1) [])),r (tQ (eB 2) (tQ (eB 3) [])),r (tC c7 (tV 1 [])),r (tC c7 (tV 2 []))],bt,[],170⟩,
  ⟨34,[(g (tP (aA 0) []))],[r (tV 2 (tP (aA 1) [])),r (tQ (aA 2) (tQ (aA 3) [])),r (tC c7 (tV 3 [])),r (tC c7 (tV 4 []))],bt,[],170⟩,
  ⟨34,[(g (tQ (aA 0) []))],[r (tC c7 (tV 3 []))],bt,[],61⟩,
  ⟨34,[(g (tQ (aA 0) []))],[r (tC c7 (tV 4 []))],bt,[],61⟩,
  ⟨34,[(g (tQ (aA 0) []))],[r (tC c7 (tV 5 []))],bt,[],61⟩,
  ⟨34,[(g (tP (aA 0) []))],[r (tV 3 (tP (aA 1) [])),r (tQ (aA 2) (tQ (aA 3) [])),r (tC c7 (tV 4 [])),r (tC c7 (tV 5 []))],bt,[],170⟩,
  ⟨34,[(g (tP (eB 0) []))],[r (t 1 0 c35 (eF 1) z (tP (eB 2) [])),r [i0,j0,j0,j0,j0],r (tP (eB 3) (tP (eB 4) [])),r (tQ (eB 5) (t 1 0 c35 (eF 6) z [])),r (tQ (eB 7) (tP (eB 8) [])),r (tC c7 (tV 0 [])),r [i0,i0,j0,j0,j0],r (tV 0 (tQ (eB 9) [])),r (tP (eB 10) (tP (eB 11) [])),r (tC c8 (tV 1 [])),r (tV 2 (tP (eB 12) [])),r (tQ (eB 13) (tQ (eB 14) [])),r (tQ (aA 15) (tP (eB 16) [])),r (tC c7 (tV 3 [])),r (tV 3 (tV 0 [])),r (tC c7 (tV 3 [])),r (tQ (eB 17) (tQ (eB 18) [])),r (tV 3 (tV 0 [])),r (tV 4 (tQ (eB 19) [])),r (tQ (eB 20) (tV 1 [])),r (tQ (eB 21) (tV 2 [])),r (tC c9 (tV 5 []))],bt,[],752⟩,
  ⟨34,[(g (tL (eB 0) []))],[r (t 1 0 c35 (eF 1) z (tL (eB 2) [])),r [i0,j0,j0,j0,j0],r (tP (eB 3) (tL (eB 4) [])),r (tQ (eB 5) (t 1 0 c35 (eF 6) z [])),r (tQ (eB 7) (tL (eB 8) [])),r (tC c7 (tV 0 [])),r [i0,i0,j0,j0,j0],r (tV 0 (tQ (eB 9) [])),r (tP (eB 10) (tV 1 [])),r (tC c8 (tV 1 [])),r (tV 2 (tP (eB 11) [])),r (tQ (aA 12) (tP (eB 13) [])),r (tC c7 (tV 3 [])),r (tQ (eB 14) (tQ (eB 15) [])),r (tV 3 (tV 0 [])),r (tV 4 (tQ (eB 16) [])),r (tQ (eB 17) (tV 1 [])),r (tQ (eB 18) (tV 2 [])),r (tC c9 (tV 5 []))],bt,[],643⟩,
  ⟨34,[(g (tL (eB 0) []))],[r (t 1 0 c35 (eF 1) z (tL (eB 2) [])),r [i0,j0,j0,j0,j0],r (tP (eB 3) (tL (eB 4) [])),r (tQ (eB 5) (t 1 0 c35 (eF 6) z [])),r (tQ (eB 7) (tL (eB 8) [])),r (tC c7 (tV 0 [])),r [i0,i0,j0,j0,j0],r (tV 0 (tQ (eB 9) [])),r (tP (eB 10) (tL (eB 11) [])),r (tC c8 (tV 1 [])),r (tV 2 (tP (eB 12) [])),r (tV 3 (tL (eB 13) [])),r (tQ (aA 14) (tP (eB 15) [])),r (tQ (aA 16) (tQ (eB 17) [])),r (tC c7 (tV 3 [])),r (tQ (eB 18) (tQ (eB 19) [])),r (tC c7 (tV 4 [])),r (tQ (eB 20) (tQ (eB 21) [])),r (tV 3 (tV 0 [])),r (tV 4 (tQ (eB 22) [])),r (tQ (eB 23) (tV 0 [])),r (tQ (eB 24) (tV 0 [])),r (tQ (eB 25) (tV 1 [])),r (tV 2 (tV 1 [])),r (tQ (eB 26) (tV 2 [])),r (tQ (eB 27) (tV 2 [])),r (tQ (eB 28) (tV 3 [])),r (tC c9 (tV 5 [])),r (tQ (eB 29) (tV 4 [])),r (t 3 0 c10 (a 30 0 1 1 40 5) z (tV 5 [])),r [i0,i0,j0,j0,j0]],bt,[],1038⟩,
  ⟨34,[(g (tQ (eB 0) []))],[r (tQ (eB 1) (tC c23 [])),r (tQ (eB 2) (tV 0 [])),r (tQ (eB 3) (tV 1 [])),r (tQ (eB 4) (tV 2 [])),r (tQ (eB 5) (tV 3 [])),r (t 3 0 c25 (a 6 0 1 1 40 5) z (tV 4 [])),r [i0,i0,j0,j0,j0]],bt,[],248⟩]

theorem b3_34_7_ok : okAll (callM Tryz.prog mm2 1000 1000 300) 34 b3_34_7 = true := by decide +kernel

/-- batten/term.May. -/
noncomputable def b3_34_8 : List Memo := [
  ⟨34,[(g (tP (aA 0) []))],[r (tP (aA 1) (tP (aA 2) [])),r (tC c20 (t 1 0 c35 (a 3 0 1 1 40 5) z [])),r (tP (aA 4) (tP (aA 5) [])),r [i0,i0,j0,j0,j0],r (tC c20 (tP (aA 6) [])),r (tQ (aA 7) (tP (aA 8) [])),r (tQ (aA 9) (tQ (aA 10) [])),r (tV 1 (tC c23 [])),r (tP (aA 11) (tP (aA 12) [])),r (tV 1 (tV 0 [])),r (tV 7 (tQ (aA 13) [])),r (tC c21 (tP (aA 14) [])),r (tC c20 (tQ (aA 15) [])),r (tC c22 (tV 1 [])),r (tC c20 (tP (aA 16) [])),r (tV 4 (tV 0 [])),r (tQ (aA 17) (tP (aA 18) [])),r (tV 9 (tV 1 [])),r (tQ (aA 19) (tQ (aA 20) [])),r (tV 5 (tV 1 [])),r (tV 6 (tQ (aA 21) [])),r (tQ (aA 22) (tV 2 [])),r (tC c24 (tV 3 []))],bt,[],836⟩,
  ⟨34,[(g (tP (aA 0) []))],[r (tP (aA 1) (tP (aA 2) [])),r (tC c20 (tP (aA 3) [])),r (tQ (aA 4) (tP (aA 5) [])),r (tQ (aA 6) (tQ (aA 7) [])),r (tV 1 (tC c23 [])),r (tP (aA 8) (tP (aA 9) [])),r (tV 1 (tV 0 [])),r (tV 7 (tQ (aA 10) [])),r (tC c21 (tP (aA 11) [])),r (tC c20 (tQ (aA 12) [])),r (tC c22 (tV 1 [])),r (tC c20 (tP (aA 13) [])),r (tV 4 (tV 0 [])),r (tQ (aA 14) (tP (aA 15) [])),r (tV 9 (tV 1 [])),r (tQ (aA 16) (tQ (aA 17) [])),r (tV 5 (tV 1 [])),r (tV 6 (tQ (aA 18) [])),r (tQ (aA 19) (tV 2 [])),r (tC c24 (tV 3 []))],bt,[],748⟩,
  ⟨34,[(g (tP (aA 0) []))],[r (tP (aA 1) (tP (aA 2) [])),r (tC c20 (tP (aA 3) [])),r (tQ (aA 4) (tP (aA 5) [])),r (tQ (aA 6) (tQ (aA 7) [])),r (tV 4 (tC c23 [])),r (tP (aA 8) (tP (aA 9) [])),r (tV 4 (tV 0 [])),r (tV 6 (tQ (aA 10) [])),r (tC c21 (tP (aA 11) [])),r (tC c20 (tQ (aA 12) [])),r (tC c22 (tV 1 [])),r (tC c20 (tP (aA 13) [])),r (tV 7 (tV 0 [])),r (tQ (aA 14) (tP (aA 15) [])),r (tV 8 (tV 1 [])),r (tQ (aA 16) (tQ (aA 17) [])),r (tV 8 (tV 1 [])),r (tV 9 (tQ (aA 18) [])),r (tQ (aA 19) (tV 2 [])),r (tC c24 (tV 3 []))],bt,[],748⟩,
  ⟨34,[(g (tP (aA 0) []))],[r (tC c20 (tP (aA 1) [])),r (tQ (aA 2) (tQ (aA 3) [])),r (tV 4 (tV 0 [])),r (tV 6 (tQ (aA 4) [])),r (tC c22 (tV 1 []))],bt,[],203⟩,
  ⟨34,[(g (tP (aA 0) []))],[r (tQ (aA 1) (tP (aA 2) [])),r (tV 3 (tC c23 [])),r (tP (aA 3) (tP (aA 4) [])),r (tC c21 (tP (aA 5) [])),r (tC c20 (tQ (aA 6) [])),r (tC c20 (tP (aA 7) [])),r (tV 6 (tV 0 [])),r (tQ (aA 8) (tP (aA 9) [])),r (tV 7 (tV 1 [])),r (tQ (aA 10) (tQ (aA 11) [])),r (tV 7 (tV 1 [])),r (tV 8 (tQ (aA 12) [])),r (tQ (aA 13) (tV 2 [])),r (tC c24 (tV 3 []))],bt,[],530⟩,
  ⟨34,[(g (tQ (aA 0) []))],[r (tV 3 (tC c23 []))],bt,[],61⟩,
  ⟨34,[(g (tP (aA 0) []))],[r (tP (aA 1) (tP (aA 2) [])),r (tC c21 (tP (aA 3) [])),r (tC c20 (tQ (aA 4) [])),r (tC c20 (tP (aA 5) [])),r (tV 5 (tV 0 [])),r (tQ (aA 6) (tP (aA 7) [])),r (tV 6 (tV 1 [])),r (tQ (aA 8) (tQ (aA 9) [])),r (tV 6 (tV 1 [])),r (tV 7 (tQ (aA 10) [])),r (tQ (aA 11) (tV 2 [])),r (tC c24 (tV 3 []))],bt,[],454⟩,
  ⟨34,[(g (tP (aA 0) []))],[r (tC c21 (tP (aA 1) [])),r (tC c20 (tP (aA 2) [])),r (tQ (aA 3) (tP (aA 4) [])),r (tV 6 (tV 1 [])),r (tQ (aA 5) (tQ (aA 6) [])),r (tV 6 (tV 1 [])),r (tV 7 (tQ (aA 7) [])),r (tQ (aA 8) (tV 2 [])),r (tC c24 (tV 3 []))],bt,[],345⟩,
  ⟨34,[(g (tP (aA 0) []))],[r (tC c20 (tQ (aA 1) [])),r (tV 4 (tV 0 []))],bt,[],94⟩,
  ⟨34,[(g (tQ (eB 0) []))],[r (tQ (eB 1) (tQ (eB 2) [])),r (tQ (eB 3) (tV 2 [])),r (tQ (eB 4) (tV 0 [])),r (tQ (eB 5) (tV 3 [])),r (tC c24 (tV 1 [])),r (tQ (eB 6) (tV 4 [])),r (tQ (eB 7) (tV 5 [])),r (t 3 0 c25 (a 8 0 1 1 40 5) z (tV 6 [])),r [i0,i0,j0,j0,j0]],bt,[],314⟩,
  ⟨34,[(g (tV 6 []))],[],bt,[],18⟩]

theorem b3_34_8_ok : okAll (callM Tryz.prog mm2 1000 1000 300) 34 b3_34_8 = true := by decide +kernel

end Go.Proofs.YthfppcmphkljkaaGreat
