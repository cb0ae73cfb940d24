/- Runs of functions in small memories (printed by a program), level 3. -/
import Derived.Test.YthfppcmphkljkaaGreatM2
import Derived.Test.YthfppcmphkljkaaGreatStr
set_option linter.unusedVariables false
set_option linter.unusedSimpArgs false
set_option linter.unusedSectionVars false
set_option maxRecDepth 100000
namespace Go.Proofs.YthfppcmphkljkaaGreat
open Go Go.Proofs.Bx Go.Proofs.Bx.Sh

/-- batten/term.May. -/
noncomputable def b3_34_9 : List Memo := [
  ⟨34,[(g (tP (aA 0) []))],[r (tP (aA 1) (tP (aA 2) [])),r (tC c20 (t 1 0 c35 (a 3 0 1 1 40 5) z [])),r (tP (aA 4) (tP (aA 5) [])),r [i0,i0,j0,j0,j0],r (tC c20 (tP (aA 6) [])),r (tQ (aA 7) (tP (aA 8) [])),r (tQ (aA 9) (tQ (aA 10) [])),r (tV 1 (tC c23 [])),r (tP (aA 11) (tP (aA 12) [])),r (tV 1 (tV 0 [])),r (tV 9 (tQ (aA 13) [])),r (tC c21 (tP (aA 14) [])),r (tC c20 (tQ (aA 15) [])),r (tC c22 (tV 1 [])),r (tC c20 (tP (aA 16) [])),r (tV 4 (tV 0 [])),r (tQ (aA 17) (tP (aA 18) [])),r (tV 11 (tV 1 [])),r (tQ (aA 19) (tQ (aA 20) [])),r (tV 5 (tV 1 [])),r (tV 6 (tQ (aA 21) [])),r (tQ (aA 22) (tV 2 [])),r (tC c24 (tV 3 []))],bt,[],836⟩,
  ⟨34,[(g (tP (aA 0) []))],[r (tP (aA 1) (tP (aA 2) [])),r (tC c20 (tP (aA 3) [])),r (tQ (aA 4) (tP (aA 5) [])),r (tQ (aA 6) (tQ (aA 7) [])),r (tV 1 (tC c23 [])),r (tP (aA 8) (tP (aA 9) [])),r (tV 1 (tV 0 [])),r (tV 9 (tQ (aA 10) [])),r (tC c21 (tP (aA 11) [])),r (tC c20 (tQ (aA 12) [])),r (tC c22 (tV 1 [])),r (tC c20 (tP (aA 13) [])),r (tV 4 (tV 0 [])),r (tQ (aA 14) (tP (aA 15) [])),r (tV 11 (tV 1 [])),r (tQ (aA 16) (tQ (aA 17) [])),r (tV 5 (tV 1 [])),r (tV 6 (tQ (aA 18) [])),r (tQ (aA 19) (tV 2 [])),r (tC c24 (tV 3 []))],bt,[],748⟩,
  ⟨34,[(g (tP (aA 0) []))],[r (tP (aA 1) (tP (aA 2) [])),r (tC c20 (tP (aA 3) [])),r (tQ (aA 4) (tP (aA 5) [])),r (tQ (aA 6) (tQ (aA 7) [])),r (tV 6 (tC c23 [])),r (tP (aA 8) (tP (aA 9) [])),r (tV 6 (tV 0 [])),r (tV 8 (tQ (aA 10) [])),r (tC c21 (tP (aA 11) [])),r (tC c20 (tQ (aA 12) [])),r (tC c22 (tV 1 [])),r (tC c20 (tP (aA 13) [])),r (tV 9 (tV 0 [])),r (tQ (aA 14) (tP (aA 15) [])),r (tV 10 (tV 1 [])),r (tQ (aA 16) (tQ (aA 17) [])),r (tV 10 (tV 1 [])),r (tV 11 (tQ (aA 18) [])),r (tQ (aA 19) (tV 2 [])),r (tC c24 (tV 3 []))],bt,[],748⟩,
  ⟨34,[(g (tP (aA 0) []))],[r (tC c20 (tP (aA 1) [])),r (tQ (aA 2) (tQ (aA 3) [])),r (tV 6 (tV 0 [])),r (tV 8 (tQ (aA 4) [])),r (tC c22 (tV 1 []))],bt,[],203⟩,
  ⟨34,[(g (tP (aA 0) []))],[r (tQ (aA 1) (tP (aA 2) [])),r (tV 6 (tC c23 [])),r (tP (aA 3) (tP (aA 4) [])),r (tC c21 (tP (aA 5) [])),r (tC c20 (tQ (aA 6) [])),r (tC c20 (tP (aA 7) [])),r (tV 9 (tV 0 [])),r (tQ (aA 8) (tP (aA 9) [])),r (tV 10 (tV 1 [])),r (tQ (aA 10) (tQ (aA 11) [])),r (tV 10 (tV 1 [])),r (tV 11 (tQ (aA 12) [])),r (tQ (aA 13) (tV 2 [])),r (tC c24 (tV 3 []))],bt,[],530⟩,
  ⟨34,[(g (tQ (aA 0) []))],[r (tV 5 (tC c23 []))],bt,[],61⟩,
  ⟨34,[(g (tP (aA 0) []))],[r (tP (aA 1) (tP (aA 2) [])),r (tC c21 (tP (aA 3) [])),r (tC c20 (tQ (aA 4) [])),r (tC c20 (tP (aA 5) [])),r (tV 8 (tV 0 [])),r (tQ (aA 6) (tP (aA 7) [])),r (tV 9 (tV 1 [])),r (tQ (aA 8) (tQ (aA 9) [])),r (tV 9 (tV 1 [])),r (tV 10 (tQ (aA 10) [])),r (tQ (aA 11) (tV 2 [])),r (tC c24 (tV 3 []))],bt,[],454⟩,
  ⟨34,[(g (tP (aA 0) []))],[r (tC c21 (tP (aA 1) [])),r (tC c20 (tP (aA 2) [])),r (tQ (aA 3) (tP (aA 4) [])),r (tV 8 (tV 1 [])),r (tQ (aA 5) (tQ (aA 6) [])),r (tV 8 (tV 1 [])),r (tV 9 (tQ (aA 7) [])),r (tQ (aA 8) (tV 2 [])),r (tC c24 (tV 3 []))],bt,[],345⟩,
  ⟨34,[(g (tP (aA 0) []))],[r (tC c20 (tQ (aA 1) [])),r (tV 7 (tV 0 []))],bt,[],94⟩,
  ⟨34,[(g (tQ (eB 0) []))],[r (tQ (eB 1) (tV 0 [])),r (tC c24 (tV 1 []))],bt,[],94⟩,
  ⟨34,[(g (tQ (aA 0) []))],[r (tV 5 (tQ (aA 1) [])),r (tQ (aA 2) (tV 0 [])),r (tC c24 (tV 1 []))],bt,[],127⟩]

theorem b3_34_9_ok : okAll (callM Tryz.prog mm2 1000 1000 300) 34 b3_34_9 = true := by decide +kernel

/-- batten/term.May. -/
noncomputable def b3_34_10 : List Memo := [
  ⟨34,[(g (tQ (aA 0) []))],[r (tQ (aA 1) (tQ (aA 2) [])),r (tQ (aA 3) (tQ (aA 4) [])),r (tQ (aA 5) (tV 0 [])),r (tQ (aA 6) (tV 0 [])),r (tQ (aA 7) (tV 1 [])),r (tQ (aA 8) (tV 2 [])),r (tV 2 (tV 1 [])),r (tQ (aA 9) (tV 2 [])),r (tQ (aA 10) (tV 3 [])),r (tQ (aA 11) (tV 3 [])),r (tQ (aA 12) (tV 4 [])),r (tQ (aA 13) (tV 4 [])),r (tQ (aA 14) (tV 5 [])),r (tQ (aA 15) (tV 5 [])),r (t 3 0 c25 (a 16 0 1 1 40 5) z (tV 6 [])),r (t 3 0 c26 (a 17 0 1 1 40 5) z (tV 6 [])),r [i0,i0,j0,j0,j0],r [i0,i0,j0,j0,j0]],bt,[],590⟩,
  ⟨34,[(g (tP (aA 0) []))],[r (tC c20 (tP (aA 1) [])),r (tQ (aA 2) (tP (aA 3) [])),r (tV 8 (tV 1 [])),r (tQ (aA 4) (tQ (aA 5) [])),r (tV 8 (tV 1 [])),r (tV 9 (tQ (aA 6) [])),r (tQ (aA 7) (tV 2 [])),r (tC c24 (tV 3 []))],bt,[],302⟩,
  ⟨34,[(g (tP (aA 0) []))],[r (tC c20 (tP (aA 1) [])),r (tQ (aA 2) (tP (aA 3) [])),r (tV 7 (tV 2 [])),r (tQ (aA 4) (tQ (aA 5) [])),r (tV 7 (tV 1 [])),r (tV 8 (tQ (aA 6) [])),r (tQ (aA 7) (tV 2 [])),r (tC c24 (tV 4 []))],bt,[],302⟩,
  ⟨34,[(g (tP (aA 0) []))],[r (tQ (aA 1) (tP (aA 2) [])),r (tV 7 (tV 2 [])),r (tQ (aA 3) (tQ (aA 4) [])),r (tV 7 (tV 1 [])),r (tV 8 (tQ (aA 5) [])),r (tQ (aA 6) (tV 2 [])),r (tC c24 (tV 4 []))],bt,[],259⟩,
  ⟨34,[(g (tP (aA 0) []))],[r (tQ (aA 1) (tP (aA 2) [])),r (tV 6 (tV 1 [])),r (tQ (aA 3) (tQ (aA 4) [])),r (tV 6 (tV 1 [])),r (tV 7 (tQ (aA 5) [])),r (tQ (aA 6) (tV 2 [])),r (tC c24 (tV 3 []))],bt,[],259⟩,
  ⟨34,[(g (tP (aA 0) []))],[r (tP (aA 1) (tP (aA 2) [])),r (tC c20 (t 1 0 c35 (a 3 0 1 1 40 5) z [])),r (tP (aA 4) (tP (aA 5) [])),r [i0,i0,j0,j0,j0],r (tC c20 (tP (aA 6) [])),r (tQ (aA 7) (tP (aA 8) [])),r (tQ (aA 9) (tQ (aA 10) [])),r (tV 1 (tC c23 [])),r (tP (aA 11) (tP (aA 12) [])),r (tV 1 (tV 0 [])),r (tV 9 (tQ (aA 13) [])),r (tC c21 (tP (aA 14) [])),r (tC c21 (tQ (aA 15) [])),r (tC c22 (tV 1 [])),r (tC c20 (tP (aA 16) [])),r (tV 11 (tV 0 [])),r (tQ (aA 17) (tP (aA 18) [])),r (tV 11 (tV 1 [])),r (tQ (aA 19) (tQ (aA 20) [])),r (tV 5 (tV 1 [])),r (tV 6 (tQ (aA 21) [])),r (tQ (aA 22) (tV 2 [])),r (tC c24 (tV 3 []))],bt,[],836⟩,
  ⟨34,[(g (tP (aA 0) []))],[r (tP (aA 1) (tP (aA 2) [])),r (tC c20 (tP (aA 3) [])),r (tQ (aA 4) (tP (aA 5) [])),r (tQ (aA 6) (tQ (aA 7) [])),r (tV 1 (tC c23 [])),r (tP (aA 8) (tP (aA 9) [])),r (tV 1 (tV 0 [])),r (tV 9 (tQ (aA 10) [])),r (tC c21 (tP (aA 11) [])),r (tC c21 (tQ (aA 12) [])),r (tC c22 (tV 1 [])),r (tC c20 (tP (aA 13) [])),r (tV 11 (tV 0 [])),r (tQ (aA 14) (tP (aA 15) [])),r (tV 11 (tV 1 [])),r (tQ (aA 16) (tQ (aA 17) [])),r (tV 5 (tV 1 [])),r (tV 6 (tQ (aA 18) [])),r (tQ (aA 19) (tV 2 [])),r (tC c24 (tV 3 []))],bt,[],748⟩,
  ⟨34,[(g (tP (aA 0) []))],[r (tP (aA 1) (tP (aA 2) [])),r (tC c20 (tP (aA 3) [])),r (tQ (aA 4) (tP (aA 5) [])),r (tQ (aA 6) (tQ (aA 7) [])),r (tV 6 (tC c23 [])),r (tP (aA 8) (tP (aA 9) [])),r (tV 6 (tV 0 [])),r (tV 8 (tQ (aA 10) [])),r (tC c21 (tP (aA 11) [])),r (tC c21 (tQ (aA 12) [])),r (tC c22 (tV 1 [])),r (tC c20 (tP (aA 13) [])),r (tV 10 (tV 0 [])),r (tQ (aA 14) (tP (aA 15) [])),r (tV 10 (tV 1 [])),r (tQ (aA 16) (tQ (aA 17) [])),r (tV 10 (tV 1 [])),r (tV 11 (tQ (aA 18) [])),r (tQ (aA 19) (tV 2 [])),r (tC c24 (tV 3 []))],bt,[],748⟩,
  ⟨34,[(g (tP (aA 0) []))],[r (tQ (aA 1) (tP (aA 2) [])),r (tV 6 (tC c23 [])),r (tP (aA 3) (tP (aA 4) [])),r (tC c21 (tP (aA 5) [])),r (tC c21 (tQ (aA 6) [])),r (tC c20 (tP (aA 7) [])),r (tV 10 (tV 0 [])),r (tQ (aA 8) (tP (aA 9) [])),r (tV 10 (tV 1 [])),r (tQ (aA 10) (tQ (aA 11) [])),r (tV 10 (tV 1 [])),r (tV 11 (tQ (aA 12) [])),r (tQ (aA 13) (tV 2 [])),r (tC c24 (tV 3 []))],bt,[],530⟩]

theorem b3_34_10_ok : okAll (callM Tryz.prog mm2 1000 1000 300) 34 b3_34_10 = true := by decide +kernel

/-- batten/term.May. -/
noncomputable def b3_34_11 : List Memo := [
  ⟨34,[(g (tP (aA 0) []))],[r (tP (aA 1) (tP (aA 2) [])),r (tC c21 (tP (aA 3) [])),r (tC c21 (tQ (aA 4) [])),r (tC c20 (tP (aA 5) [])),r (tV 9 (tV 0 [])),r (tQ (aA 6) (tP (aA 7) [])),r (tV 9 (tV 1 [])),r (tQ (aA 8) (tQ (aA 9) [])),r (tV 9 (tV 1 [])),r (tV 10 (tQ (aA 10) [])),r (tQ (aA 11) (tV 2 [])),r (tC c24 (tV 3 []))],bt,[],454⟩,
  ⟨34,[(g (tP (aA 0) []))],[r (tC c21 (tQ (aA 1) [])),r (tV 8 (tV 0 []))],bt,[],94⟩,
  ⟨34,[(g (tQ (aA 0) []))],[r (tV 7 (tV 0 []))],bt,[],51⟩,
  ⟨34,[(g (tQ (aA 0) []))],[r (tV 6 (tV 1 []))],bt,[],51⟩,
  ⟨34,[(g (tP (aA 0) []))],[r (tQ (aA 1) (tQ (aA 2) [])),r (tV 6 (tV 1 [])),r (tV 7 (tQ (aA 3) [])),r (tQ (aA 4) (tV 2 [])),r (tC c24 (tV 3 []))],bt,[],193⟩,
  ⟨34,[(g (tQ (aA 0) []))],[r (tQ (aA 1) (tV 1 [])),r (tQ (aA 2) (tV 2 [])),r (tQ (aA 3) (tV 3 [])),r (tQ (aA 4) (tV 4 [])),r (tQ (aA 5) (tV 5 [])),r (t 3 0 c26 (a 6 0 1 1 40 5) z (tV 6 [])),r [i0,i0,j0,j0,j0]],bt,[],238⟩,
  ⟨34,[(g (tP (aA 0) []))],[r (tQ (aA 1) (tQ (aA 2) [])),r (tV 5 (tV 0 [])),r (tV 6 (tQ (aA 3) [])),r (tQ (aA 4) (tV 1 [])),r (tC c24 (tV 2 []))],bt,[],193⟩,
  ⟨34,[(g (tQ (aA 0) []))],[r (tV 6 (tQ (aA 1) [])),r (tQ (aA 2) (tV 1 [])),r (tC c24 (tV 2 []))],bt,[],127⟩,
  ⟨34,[(g (tQ (aA 0) []))],[r (tQ (aA 1) (tV 0 [])),r (tQ (aA 2) (tV 2 [])),r (tQ (aA 3) (tV 3 [])),r (tQ (aA 4) (tV 4 [])),r (tQ (aA 5) (tV 5 [])),r (t 3 0 c25 (a 6 0 1 1 40 5) z (tV 6 [])),r [i0,i0,j0,j0,j0]],bt,[],238⟩,
  ⟨34,[(g (tP (eB 0) []))],[r (t 1 0 c35 (eF 1) z (tP (eB 2) [])),r [i0,j0,j0,j0,j0],r (tC c0 (t 1 0 c35 (eF 1) z []))],bt,[],117⟩,
  ⟨34,[(g (tP (eB 0) []))],[r (t 1 0 c35 (eF 1) z (tQ (eB 2) [])),r [i0,j0,j0,j0,j0],r (tQ (eB 3) (tC c1 [])),r (tC c27 (tV 0 []))],bt,[],149⟩,
  ⟨34,[(g (tP (eB 0) []))],[r (t 1 0 c35 (eF 1) z (tP (eB 2) [])),r [i0,j0,j0,j0,j0],r (tV 0 (tP (eB 3) [])),r (tC c0 (tP (eB 4) [])),r (tQ (eB 5) (tQ (eB 6) [])),r (tQ (eB 7) (tV 0 [])),r (tQ (eB 8) (tQ (eB 9) [])),r (tC c27 (tV 2 [])),r (tC c27 (tV 3 [])),r (tC c2 (tV 1 []))],bt,[],367⟩,
  ⟨34,[(g (tQ (eB 0) []))],[r (tQ (eB 1) (tC c1 [])),r (tC c27 (tV 0 []))],bt,[],104⟩,
  ⟨34,[(g (tQ (eB 0) []))],[r (tQ (eB 1) (tQ (eB 2) [])),r (tC c27 (tV 3 [])),r (tC c2 (tV 1 []))],bt,[],137⟩,
  ⟨34,[(g (tQ (eB 0) []))],[r (tQ (eB 1) (tV 0 [])),r (tC c27 (tV 2 []))],bt,[],94⟩,
  ⟨34,[(g (tP (eB 0) []))],[r (tC c0 (t 1 0 c35 (eF 1) z [])),r [i0,j0,j0,j0,j0]],bt,[],73⟩,
  ⟨34,[(g (tP (aA 0) []))],[r (tC c0 (t 1 0 c35 (eF 1) z [])),r [i0,j0,j0,j0,j0]],bt,[],73⟩,
  ⟨34,[(g (tQ (aA 0) []))],[r (tQ (aA 1) (tC c1 [])),r (tC c27 (tV 1 []))],bt,[],104⟩,
  ⟨34,[(g (tP (eB 0) []))],[r (tV 0 (tP (eB 1) [])),r (tC c0 (tP (eB 2) [])),r (tQ (eB 3) (tQ (eB 4) [])),r (tQ (eB 5) (tV 0 [])),r (tQ (eB 6) (tQ (eB 7) [])),r (tC c27 (tV 2 [])),r (tC c27 (tV 3 [])),r (tC c2 (tV 1 []))],bt,[],322⟩,
  ⟨34,[(g (tP (aA 0) []))],[r (tV 2 (tP (aA 1) [])),r (tC c0 (tP (aA 2) [])),r (tQ (aA 3) (tQ (aA 4) [])),r (tQ (aA 5) (tV 0 [])),r (tQ (aA 6) (tQ (aA 7) [])),r (tC c27 (tV 4 [])),r (tC c27 (tV 5 [])),r (tC c2 (tV 1 []))],bt,[],322⟩,
  ⟨34,[(g (tQ (aA 0) []))],[r (tQ (aA 1) (tV 0 [])),r (tC c27 (tV 4 []))],bt,[],94⟩,
  ⟨34,[(g (tQ (aA 0) []))],[r (tQ (aA 1) (tV 1 [])),r (tC c27 (tV 5 []))],bt,[],94⟩,
  ⟨34,[(g (tQ (aA 0) []))],[r (tQ (aA 1) (tQ (aA 2) [])),r (tC c27 (tV 5 [])),r (tC c2 (tV 1 []))],bt,[],137⟩,
  ⟨34,[(g (tQ (aA 0) []))],[r (tQ (aA 1) (tQ (aA 2) [])),r (tC c27 (tV 6 [])),r (tC c2 (tV 2 []))],bt,[],137⟩,
  ⟨34,[(g (tQ (aA 0) []))],[r (tQ (aA 1) (tC c1 [])),r (tC c27 (tV 3 []))],bt,[],104⟩,
  ⟨34,[(g (tP (aA 0) []))],[r (tV 3 (tP (aA 1) [])),r (tC c0 (tP (aA 2) [])),r (tQ (aA 3) (tQ (aA 4) [])),r (tQ (aA 5) (tV 0 [])),r (tQ (aA 6) (tQ (aA 7) [])),r (tC c27 (tV 5 [])),r (tC c27 (tV 6 [])),r (tC c2 (tV 1 []))],bt,[],322⟩,
  ⟨34,[(g (tQ (aA 0) []))],[r (tQ (aA 1) (tV 0 [])),r (tC c27 (tV 5 []))],bt,[],94⟩,
  ⟨34,[(g (tQ (aA 0) []))],[r (tQ (aA 1) (tV 1 [])),r (tC c27 (tV 6 []))],bt,[],94⟩]

theorem b3_34_11_ok : okAll (callM Tryz.prog mm2 1000 1000 300) 34 b3_34_11 = true := by decide +kernel

/-- batten/term.May. -/
noncomputable def b3_34_12 : List Memo := [
  ⟨34,[(g (tP (eB 0) []))],[r (t 1 0 c35 (eF 1) z (tP (eB 2) [])),r [i0,j0,j0,j0,j0],r (tP (eB 3) (tP (eB 4) [])),r (tC c0 (tP (eB 5) [])),r (tQ (eB 6) (tP (eB 7) [])),r (tQ (eB 8) (t 1 0 c35 (eF 9) z [])),r (tQ (eB 10) (tQ (eB 11) [])),r (tP (eB 12) (tP (eB 13) [])),r (tQ (eB 14) (tV 0 [])),r [i0,i0,j0,j0,j0],r (tV 0 (tC c1 [])),r (tC c28 (tV 1 [])),r (tV 2 (tP (eB 15) [])),r (tC c0 (tP (eB 16) [])),r (tC c27 (tV 1 [])),r (tC c0 (tP (eB 17) [])),r (tQ (eB 18) (tQ (eB 19) [])),r (tQ (aA 20) (tP (eB 21) [])),r (tQ (eB 22) (tV 0 [])),r (tQ (eB 23) (tV 0 [])),r (tQ (aA 24) (tV 0 [])),r (tQ (eB 25) (tQ (eB 26) [])),r (tC c27 (tV 4 [])),r (tV 4 (tV 1 [])),r (tC c27 (tV 4 [])),r (tQ (eB 27) (tV 0 [])),r (tQ (eB 28) (tQ (eB 29) [])),r (tV 4 (tV 1 [])),r (tV 5 (tQ (aA 30) [])),r (tQ (eB 31) (tV 1 [])),r (tC c2 (tV 2 [])),r (tQ (eB 32) (tV 2 [])),r (tQ (eB 33) (tV 3 [])),r (tC c29 (tV 6 []))],bt,[],1198⟩,
  ⟨34,[(g (tL (eB 0) []))],[r (t 1 0 c35 (eF 1) z (tL (eB 2) [])),r [i0,j0,j0,j0,j0],r (tP (eB 3) (tL (eB 4) [])),r (tC c0 (tP (eB 5) [])),r (tQ (eB 6) (tL (eB 7) [])),r (tQ (eB 8) (t 1 0 c35 (eF 9) z [])),r (tQ (eB 10) (tQ (eB 11) [])),r (tP (eB 12) (tV 1 [])),r (tQ (eB 13) (tV 0 [])),r [i0,i0,j0,j0,j0],r (tV 0 (tC c1 [])),r (tC c28 (tV 1 [])),r (tV 2 (tP (eB 14) [])),r (tC c27 (tV 1 [])),r (tC c0 (tP (eB 15) [])),r (tQ (aA 16) (tP (eB 17) [])),r (tQ (aA 18) (tV 0 [])),r (tQ (eB 19) (tQ (eB 20) [])),r (tC c27 (tV 4 [])),r (tQ (eB 21) (tV 0 [])),r (tQ (eB 22) (tQ (eB 23) [])),r (tV 4 (tV 1 [])),r (tV 5 (tQ (aA 24) [])),r (tQ (eB 25) (tV 1 [])),r (tC c2 (tV 2 [])),r (tQ (eB 26) (tV 2 [])),r (tQ (eB 27) (tV 3 [])),r (tC c29 (tV 6 []))],bt,[],980⟩,
  ⟨34,[(g (tL (eB 0) []))],[r (t 1 0 c35 (eF 1) z (tL (eB 2) [])),r [i0,j0,j0,j0,j0],r (tP (eB 3) (tL (eB 4) [])),r (tC c0 (tP (eB 5) [])),r (tQ (eB 6) (tL (eB 7) [])),r (tQ (eB 8) (t 1 0 c35 (eF 9) z [])),r (tQ (eB 10) (tQ (eB 11) [])),r (tP (eB 12) (tL (eB 13) [])),r (tQ (eB 14) (tV 0 [])),r [i0,i0,j0,j0,j0],r (tV 0 (tC c1 [])),r (tC c28 (tV 1 [])),r (tV 2 (tP (eB 15) [])),r (tV 3 (tL (eB 16) [])),r (tC c27 (tV 1 [])),r (tC c0 (tP (eB 17) [])),r (tC c0 (tL (eB 18) [])),r (tQ (aA 19) (tP (eB 20) [])),r (tQ (aA 21) (tQ (eB 22) [])),r (tQ (aA 23) (tV 0 [])),r (tQ (eB 24) (tQ (eB 25) [])),r (tQ (aA 26) (tV 0 [])),r (tQ (eB 27) (tQ (eB 28) [])),r (tC c27 (tV 4 [])),r (tQ (eB 29) (tV 0 [])),r (tQ (eB 30) (tQ (eB 31) [])),r (tC c27 (tV 5 [])),r (tQ (eB 32) (tV 0 [])),r (tQ (eB 33) (tV 0 [])),r (tV 4 (tV 1 [])),r (tV 5 (tQ (aA 34) [])),r (tQ (eB 35) (tV 1 [])),r (tQ (eB 36) (tV 1 [])),r (tQ (eB 37) (tV 1 [])),r (tC c2 (tV 2 [])),r (tQ (eB 38) (tV 2 [])),r (tV 3 (tV 2 [])),r (tQ (eB 39) (tV 3 [])),r (tQ (eB 40) (tV 3 [])),r (tQ (eB 41) (tV 4 [])),r (tC c29 (tV 6 [])),r (tQ (eB 42) (tV 5 [])),r (t 3 0 c30 (a 43 0 1 1 40 5) z (tV 6 [])),r [i0,i0,j0,j0,j0]],bt,[],1517⟩,
  ⟨34,[(g (t 1 0 c35 (eF 0) z []))],[r [i1,j0,j0,j0,j0]],bt,[],30⟩,
  ⟨34,[(g (tC c27 []))],[],bt,[],28⟩,
  ⟨34,[(g (tP (aA 0) []))],[r (t 1 0 c35 (a 1 0 1 1 40 5) z (tP (aA 2) [])),r [i0,j0,j0,j0,j0],r (tC c0 (t 1 0 c35 (a 3 0 1 1 40 5) z [])),r [i0,j0,j0,j0,j0]],bt,[],118⟩,
  ⟨34,[(g (tP (aA 0) []))],[r (tC c0 (t 1 0 c35 (a 1 0 1 1 40 5) z [])),r [i0,j0,j0,j0,j0]],bt,[],73⟩,
  ⟨34,[(g (tP (eB 0) []))],[r (tC c0 (tP (eB 1) [])),r (tQ (eB 2) (t 1 0 c35 (eF 3) z [])),r (tQ (eB 4) (tV 0 [])),r [i0,i0,j0,j0,j0],r (tC c27 (tV 1 []))],bt,[],182⟩,
  ⟨34,[(g (tP (aA 0) []))],[r (tC c0 (tP (aA 1) [])),r (tQ (aA 2) (t 1 0 c35 (eF 3) z [])),r (tQ (aA 4) (tV 0 [])),r [i0,i0,j0,j0,j0],r (tC c27 (tV 2 []))],bt,[],182⟩,
  ⟨34,[(g (tC c1 []))],[],bt,[],28⟩,
  ⟨34,[(g (tP (aA 0) []))],[r (tQ (aA 1) (t 1 0 c35 (eF 2) z [])),r (tQ (aA 3) (tV 0 [])),r [i0,i0,j0,j0,j0],r (tC c27 (tV 2 []))],bt,[],139⟩,
  ⟨34,[(g (tP (aA 0) []))],[r (tQ (aA 1) (t 1 0 c35 (eF 2) z [])),r (tQ (aA 3) (tC c1 [])),r [i0,i0,j0,j0,j0],r (tC c27 (tV 1 []))],bt,[],149⟩,
  ⟨34,[(g (tC c28 []))],[],bt,[],28⟩,
  ⟨34,[(g (tP (aA 0) []))],[r (t 1 0 c35 (a 1 0 1 1 40 5) z (tQ (aA 2) [])),r [i0,j0,j0,j0,j0],r (tQ (aA 3) (tC c1 [])),r (tC c27 (tV 0 []))],bt,[],149⟩,
  ⟨34,[(g (tQ (aA 0) []))],[r (tQ (aA 1) (tC c1 [])),r (tC c27 (tV 0 []))],bt,[],104⟩]

theorem b3_34_12_ok : okAll (callM Tryz.prog mm2 1000 1000 300) 34 b3_34_12 = true := by decide +kernel

/-- batten/term.May. -/
noncomputable def b3_34_13 : List Memo := [
  ⟨34,[(g (tQ (eB 0) []))],[r (tC c28 (tV 1 []))],bt,[],61⟩,
  ⟨34,[(g (tP (aA 0) []))],[r (tC c0 (tP (aA 1) [])),r (tQ (aA 2) (t 1 0 c35 (eF 3) z [])),r (tQ (aA 4) (tV 0 [])),r [i0,i0,j0,j0,j0],r (tC c27 (tV 6 []))],bt,[],182⟩,
  ⟨34,[(g (tP (aA 0) []))],[r (tQ (aA 1) (t 1 0 c35 (eF 2) z [])),r (tQ (aA 3) (tV 0 [])),r [i0,i0,j0,j0,j0],r (tC c27 (tV 6 []))],bt,[],139⟩,
  ⟨34,[(g (tP (aA 0) []))],[r (tQ (aA 1) (t 1 0 c35 (eF 2) z [])),r (tQ (aA 3) (tV 1 [])),r [i0,i0,j0,j0,j0],r (tC c27 (tV 5 []))],bt,[],139⟩,
  ⟨34,[(g (tP (aA 0) []))],[r (tC c0 (tP (aA 1) [])),r (tQ (aA 2) (t 1 0 c35 (eF 3) z [])),r (tQ (aA 4) (tV 0 [])),r [i0,i0,j0,j0,j0],r (tC c27 (tV 7 []))],bt,[],182⟩,
  ⟨34,[(g (tC c2 []))],[],bt,[],28⟩,
  ⟨34,[(g (tP (aA 0) []))],[r (tQ (aA 1) (t 1 0 c35 (eF 2) z [])),r (tQ (aA 3) (tV 0 [])),r [i0,i0,j0,j0,j0],r (tC c27 (tV 7 []))],bt,[],139⟩,
  ⟨34,[(g (tQ (aA 0) []))],[r (tC c2 (tV 2 []))],bt,[],61⟩,
  ⟨34,[(g (tP (aA 0) []))],[r (tQ (aA 1) (t 1 0 c35 (eF 2) z [])),r (tQ (aA 3) (tQ (aA 4) [])),r [i0,i0,j0,j0,j0],r (tC c27 (tV 6 [])),r (tC c2 (tV 2 []))],bt,[],182⟩,
  ⟨34,[(g (tC c29 []))],[],bt,[],28⟩,
  ⟨34,[(g (tP (aA 0) []))],[r (t 1 0 c35 (a 1 0 1 1 40 5) z (tP (aA 2) [])),r [i0,j0,j0,j0,j0],r (tV 0 (tP (aA 3) [])),r (tC c0 (tP (aA 4) [])),r (tQ (aA 5) (tQ (aA 6) [])),r (tQ (aA 7) (tV 0 [])),r (tQ (aA 8) (tQ (aA 9) [])),r (tC c27 (tV 2 [])),r (tC c27 (tV 3 [])),r (tC c2 (tV 1 []))],bt,[],367⟩,
  ⟨34,[(g (tP (aA 0) []))],[r (tV 0 (tP (aA 1) [])),r (tC c0 (tP (aA 2) [])),r (tQ (aA 3) (tQ (aA 4) [])),r (tQ (aA 5) (tV 0 [])),r (tQ (aA 6) (tQ (aA 7) [])),r (tC c27 (tV 2 [])),r (tC c27 (tV 3 [])),r (tC c2 (tV 1 []))],bt,[],322⟩,
  ⟨34,[(g (tP (aA 0) []))],[r (tV 6 (tP (aA 1) [])),r (tC c0 (tP (aA 2) [])),r (tQ (aA 3) (tQ (aA 4) [])),r (tQ (aA 5) (tV 0 [])),r (tQ (aA 6) (tQ (aA 7) [])),r (tC c27 (tV 8 [])),r (tC c27 (tV 9 [])),r (tC c2 (tV 1 []))],bt,[],322⟩,
  ⟨34,[(g (tP (aA 0) []))],[r (tC c0 (tP (aA 1) [])),r (tQ (aA 2) (tQ (aA 3) [])),r (tQ (aA 4) (tV 0 [])),r (tQ (aA 5) (tQ (aA 6) [])),r (tC c27 (tV 8 [])),r (tC c27 (tV 9 [])),r (tC c2 (tV 1 []))],bt,[],289⟩,
  ⟨34,[(g (tP (aA 0) []))],[r (tC c0 (tP (aA 1) [])),r (tQ (aA 2) (tQ (aA 3) [])),r (tQ (aA 4) (tV 0 [])),r (tQ (aA 5) (tQ (aA 6) [])),r (tC c27 (tV 7 [])),r (tC c27 (tV 8 [])),r (tC c2 (tV 1 []))],bt,[],289⟩,
  ⟨34,[(g (tP (aA 0) []))],[r (tQ (aA 1) (tQ (aA 2) [])),r (tQ (aA 3) (tV 0 [])),r (tQ (aA 4) (tQ (aA 5) [])),r (tC c27 (tV 7 [])),r (tC c27 (tV 8 [])),r (tC c2 (tV 1 []))],bt,[],246⟩,
  ⟨34,[(g (tP (aA 0) []))],[r (tQ (aA 1) (tQ (aA 2) [])),r (tQ (aA 3) (tV 2 [])),r (tQ (aA 4) (tQ (aA 5) [])),r (tC c27 (tV 6 [])),r (tC c27 (tV 7 [])),r (tC c2 (tV 3 []))],bt,[],246⟩,
  ⟨34,[(g (tQ (aA 0) []))],[r (tQ (aA 1) (tV 2 [])),r (tC c27 (tV 6 []))],bt,[],94⟩,
  ⟨34,[(g (tQ (aA 0) []))],[r (tQ (aA 1) (tQ (aA 2) [])),r (tC c27 (tV 7 [])),r (tC c2 (tV 3 []))],bt,[],137⟩,
  ⟨34,[(g (tQ (eB 0) []))],[r (tQ (eB 1) (tV 1 [])),r (tQ (eB 2) (tV 2 [])),r (tQ (eB 3) (tV 3 [])),r (tC c29 (tV 6 []))],bt,[],160⟩,
  ⟨34,[(g (tQ (eB 0) []))],[r (tQ (eB 1) (tV 0 [])),r (tC c27 (tV 4 []))],bt,[],94⟩,
  ⟨34,[(g (tQ (eB 0) []))],[r (tQ (eB 1) (tQ (eB 2) [])),r (tV 0 (tC c1 [])),r (tC c28 (tV 1 []))],bt,[],137⟩,
  ⟨34,[(g (tP (eB 0) []))],[r (tV 2 (tP (eB 1) [])),r (tC c0 (tP (eB 2) [])),r (tQ (aA 3) (tP (eB 4) [])),r (tQ (aA 5) (tV 0 [])),r (tQ (eB 6) (tQ (eB 7) [])),r (tC c27 (tV 4 [])),r (tQ (eB 8) (tV 0 [])),r (tQ (eB 9) (tQ (eB 10) [])),r (tV 4 (tV 1 [])),r (tV 5 (tQ (aA 11) [])),r (tQ (eB 12) (tV 1 [])),r (tC c2 (tV 2 [])),r (tQ (eB 13) (tV 2 [])),r (tQ (eB 14) (tV 3 [])),r (tC c29 (tV 6 []))],bt,[],553⟩,
  ⟨34,[(g (tQ (eB 0) []))],[r (tQ (eB 1) (tQ (eB 2) [])),r (tQ (eB 3) (tC c1 [])),r (tC c28 (tV 3 [])),r (tQ (eB 4) (tV 0 [])),r (tQ (eB 5) (tV 1 [])),r (tQ (eB 6) (tV 2 [])),r (t 3 0 c30 (a 7 0 1 1 40 5) z (tV 3 [])),r [i0,i0,j0,j0,j0]],bt,[],291⟩,
  ⟨34,[(g (t 3 0 c30 (a 0 0 1 1 40 5) z []))],[r [i0,i0,j0,j0,j0]],bt,[],40⟩]

theorem b3_34_13_ok : okAll (callM Tryz.prog mm2 1000 1000 300) 34 b3_34_13 = true := by decide +kernel

/-- batten/term.May. -/
noncomputable def b3_34_14 : List Memo := [
  ⟨34,[(g (tP (aA 0) []))],[r (t 1 0 c35 (a 1 0 1 1 40 5) z (tP (aA 2) [])),r [i0,j0,j0,j0,j0],r (tP (aA 3) (tP (aA 4) [])),r (tC c0 (tP (aA 5) [])),r (tQ (aA 6) (tP (aA 7) [])),r (tQ (aA 8) (t 1 0 c35 (a 9 0 1 1 40 5) z [])),r (tQ (aA 10) (tQ (aA 11) [])),r (tP (aA 12) (tP (aA 13) [])),r (tQ (aA 14) (tV 0 [])),r [i0,i0,j0,j0,j0],r (tV 0 (tC c1 [])),r (tC c28 (tV 1 [])),r (tV 2 (tP (aA 15) [])),r (tC c0 (tP (aA 16) [])),r (tC c27 (tV 1 [])),r (tC c0 (tP (aA 17) [])),r (tQ (aA 18) (tQ (aA 19) [])),r (tQ (aA 20) (tP (aA 21) [])),r (tQ (aA 22) (tV 0 [])),r (tQ (aA 23) (tV 0 [])),r (tQ (aA 24) (tV 0 [])),r (tQ (aA 25) (tQ (aA 26) [])),r (tC c27 (tV 4 [])),r (tV 4 (tV 1 [])),r (tC c27 (tV 4 [])),r (tQ (aA 27) (tV 0 [])),r (tQ (aA 28) (tQ (aA 29) [])),r (tV 4 (tV 1 [])),r (tV 5 (tQ (aA 30) [])),r (tQ (aA 31) (tV 1 [])),r (tC c2 (tV 2 [])),r (tQ (aA 32) (tV 2 [])),r (tQ (aA 33) (tV 3 [])),r (tC c29 (tV 6 []))],bt,[],1198⟩,
  ⟨34,[(g (tP (aA 0) []))],[r (tP (aA 1) (tP (aA 2) [])),r (tC c0 (tP (aA 3) [])),r (tQ (aA 4) (tP (aA 5) [])),r (tQ (aA 6) (t 1 0 c35 (a 7 0 1 1 40 5) z [])),r (tQ (aA 8) (tQ (aA 9) [])),r (tP (aA 10) (tP (aA 11) [])),r (tQ (aA 12) (tV 0 [])),r [i0,i0,j0,j0,j0],r (tV 0 (tC c1 [])),r (tC c28 (tV 1 [])),r (tV 2 (tP (aA 13) [])),r (tC c0 (tP (aA 14) [])),r (tC c27 (tV 1 [])),r (tC c0 (tP (aA 15) [])),r (tQ (aA 16) (tQ (aA 17) [])),r (tQ (aA 18) (tP (aA 19) [])),r (tQ (aA 20) (tV 0 [])),r (tQ (aA 21) (tV 0 [])),r (tQ (aA 22) (tV 0 [])),r (tQ (aA 23) (tQ (aA 24) [])),r (tC c27 (tV 4 [])),r (tV 4 (tV 1 [])),r (tC c27 (tV 4 [])),r (tQ (aA 25) (tV 0 [])),r (tQ (aA 26) (tQ (aA 27) [])),r (tV 4 (tV 1 [])),r (tV 5 (tQ (aA 28) [])),r (tQ (aA 29) (tV 1 [])),r (tC c2 (tV 2 [])),r (tQ (aA 30) (tV 2 [])),r (tQ (aA 31) (tV 3 [])),r (tC c29 (tV 6 []))],bt,[],1153⟩,
  ⟨34,[(g (tP (aA 0) []))],[r (tP (aA 1) (tP (aA 2) [])),r (tC c0 (tP (aA 3) [])),r (tQ (aA 4) (tP (aA 5) [])),r (tQ (aA 6) (t 1 0 c35 (a 7 0 1 1 40 5) z [])),r (tQ (aA 8) (tQ (aA 9) [])),r (tP (aA 10) (tP (aA 11) [])),r (tQ (aA 12) (tV 0 [])),r [i0,i0,j0,j0,j0],r (tV 0 (tC c1 [])),r (tC c28 (tV 4 [])),r (tV 5 (tP (aA 13) [])),r (tC c0 (tP (aA 14) [])),r (tC c27 (tV 4 [])),r (tC c0 (tP (aA 15) [])),r (tQ (aA 16) (tQ (aA 17) [])),r (tQ (aA 18) (tP (aA 19) [])),r (tQ (aA 20) (tV 0 [])),r (tQ (aA 21) (tV 0 [])),r (tQ (aA 22) (tV 0 [])),r (tQ (aA 23) (tQ (aA 24) [])),r (tC c27 (tV 7 [])),r (tV 4 (tV 1 [])),r (tC c27 (tV 7 [])),r (tQ (aA 25) (tV 0 [])),r (tQ (aA 26) (tQ (aA 27) [])),r (tV 4 (tV 1 [])),r (tV 5 (tQ (aA 28) [])),r (tQ (aA 29) (tV 1 [])),r (tC c2 (tV 2 [])),r (tQ (aA 30) (tV 2 [])),r (tQ (aA 31) (tV 3 [])),r (tC c29 (tV 9 []))],bt,[],1153⟩,
  ⟨34,[(g (tP (aA 0) []))],[r (tC c0 (tP (aA 1) [])),r (tQ (aA 2) (t 1 0 c35 (eF 3) z [])),r (tQ (aA 4) (tV 0 [])),r [i0,i0,j0,j0,j0],r (tC c27 (tV 4 []))],bt,[],182⟩,
  ⟨34,[(g (tP (aA 0) []))],[r (tC c0 (tP (aA 1) [])),r (tQ (aA 2) (t 1 0 c35 (a 3 0 1 1 40 5) z [])),r (tQ (aA 4) (tV 0 [])),r [i0,i0,j0,j0,j0],r (tC c27 (tV 4 []))],bt,[],182⟩]

theorem b3_34_14_ok : okAll (callM Tryz.prog mm2 1000 1000 300) 34 b3_34_14 = true := by decide +kernel

/-- batten/term.May. -/
noncomputable def b3_34_15 : List Memo := [
  ⟨34,[(g (tP (aA 0) []))],[r (tQ (aA 1) (tP (aA 2) [])),r (tQ (aA 3) (tQ (aA 4) [])),r (tP (aA 5) (tP (aA 6) [])),r (tV 0 (tC c1 [])),r (tC c28 (tV 4 [])),r (tV 5 (tP (aA 7) [])),r (tC c0 (tP (aA 8) [])),r (tC c0 (tP (aA 9) [])),r (tQ (aA 10) (tQ (aA 11) [])),r (tQ (aA 12) (tP (aA 13) [])),r (tQ (aA 14) (tV 0 [])),r (tQ (aA 15) (tV 0 [])),r (tQ (aA 16) (tV 0 [])),r (tQ (aA 17) (tQ (aA 18) [])),r (tC c27 (tV 7 [])),r (tV 4 (tV 1 [])),r (tC c27 (tV 7 [])),r (tQ (aA 19) (tV 0 [])),r (tQ (aA 20) (tQ (aA 21) [])),r (tV 4 (tV 1 [])),r (tV 5 (tQ (aA 22) [])),r (tQ (aA 23) (tV 1 [])),r (tC c2 (tV 2 [])),r (tQ (aA 24) (tV 2 [])),r (tQ (aA 25) (tV 3 [])),r (tC c29 (tV 9 []))],bt,[],956⟩,
  ⟨34,[(g (tP (aA 0) []))],[r (tQ (aA 1) (tP (aA 2) [])),r (tQ (aA 3) (tQ (aA 4) [])),r (tP (aA 5) (tP (aA 6) [])),r (tV 2 (tC c1 [])),r (tC c28 (tV 3 [])),r (tV 4 (tP (aA 7) [])),r (tC c0 (tP (aA 8) [])),r (tC c0 (tP (aA 9) [])),r (tQ (aA 10) (tQ (aA 11) [])),r (tQ (aA 12) (tP (aA 13) [])),r (tQ (aA 14) (tV 0 [])),r (tQ (aA 15) (tV 0 [])),r (tQ (aA 16) (tV 0 [])),r (tQ (aA 17) (tQ (aA 18) [])),r (tC c27 (tV 6 [])),r (tV 6 (tV 1 [])),r (tC c27 (tV 6 [])),r (tQ (aA 19) (tV 0 [])),r (tQ (aA 20) (tQ (aA 21) [])),r (tV 6 (tV 1 [])),r (tV 7 (tQ (aA 22) [])),r (tQ (aA 23) (tV 1 [])),r (tC c2 (tV 2 [])),r (tQ (aA 24) (tV 2 [])),r (tQ (aA 25) (tV 3 [])),r (tC c29 (tV 8 []))],bt,[],956⟩,
  ⟨34,[(g (tQ (aA 0) []))],[r (tQ (aA 1) (tQ (aA 2) [])),r (tV 2 (tC c1 [])),r (tC c28 (tV 3 []))],bt,[],137⟩,
  ⟨34,[(g (tP (aA 0) []))],[r (tP (aA 1) (tP (aA 2) [])),r (tV 4 (tP (aA 3) [])),r (tC c0 (tP (aA 4) [])),r (tC c0 (tP (aA 5) [])),r (tQ (aA 6) (tQ (aA 7) [])),r (tQ (aA 8) (tP (aA 9) [])),r (tQ (aA 10) (tV 0 [])),r (tQ (aA 11) (tV 0 [])),r (tQ (aA 12) (tV 0 [])),r (tQ (aA 13) (tQ (aA 14) [])),r (tC c27 (tV 6 [])),r (tV 6 (tV 1 [])),r (tC c27 (tV 6 [])),r (tQ (aA 15) (tV 0 [])),r (tQ (aA 16) (tQ (aA 17) [])),r (tV 6 (tV 1 [])),r (tV 7 (tQ (aA 18) [])),r (tQ (aA 19) (tV 1 [])),r (tC c2 (tV 2 [])),r (tQ (aA 20) (tV 2 [])),r (tQ (aA 21) (tV 3 [])),r (tC c29 (tV 8 []))],bt,[],804⟩,
  ⟨34,[(g (tP (aA 0) []))],[r (tP (aA 1) (tP (aA 2) [])),r (tV 3 (tP (aA 3) [])),r (tC c0 (tP (aA 4) [])),r (tC c0 (tP (aA 5) [])),r (tQ (aA 6) (tQ (aA 7) [])),r (tQ (aA 8) (tP (aA 9) [])),r (tQ (aA 10) (tV 0 [])),r (tQ (aA 11) (tV 0 [])),r (tQ (aA 12) (tV 0 [])),r (tQ (aA 13) (tQ (aA 14) [])),r (tC c27 (tV 5 [])),r (tV 5 (tV 1 [])),r (tC c27 (tV 5 [])),r (tQ (aA 15) (tV 0 [])),r (tQ (aA 16) (tQ (aA 17) [])),r (tV 5 (tV 1 [])),r (tV 6 (tQ (aA 18) [])),r (tQ (aA 19) (tV 1 [])),r (tC c2 (tV 2 [])),r (tQ (aA 20) (tV 2 [])),r (tQ (aA 21) (tV 3 [])),r (tC c29 (tV 7 []))],bt,[],804⟩,
  ⟨34,[(g (tP (aA 0) []))],[r (tV 3 (tP (aA 1) [])),r (tC c0 (tP (aA 2) [])),r (tQ (aA 3) (tP (aA 4) [])),r (tQ (aA 5) (tV 0 [])),r (tQ (aA 6) (tQ (aA 7) [])),r (tC c27 (tV 5 [])),r (tQ (aA 8) (tV 0 [])),r (tQ (aA 9) (tQ (aA 10) [])),r (tV 5 (tV 1 [])),r (tV 6 (tQ (aA 11) [])),r (tQ (aA 12) (tV 1 [])),r (tC c2 (tV 2 [])),r (tQ (aA 13) (tV 2 [])),r (tQ (aA 14) (tV 3 [])),r (tC c29 (tV 7 []))],bt,[],553⟩,
  ⟨34,[(g (tP (aA 0) []))],[r (tC c0 (tP (aA 1) [])),r (tQ (aA 2) (tQ (aA 3) [])),r (tQ (aA 4) (tV 0 [])),r (tQ (aA 5) (tV 0 [])),r (tC c27 (tV 5 [])),r (tV 5 (tV 1 []))],bt,[],236⟩]

theorem b3_34_15_ok : okAll (callM Tryz.prog mm2 1000 1000 300) 34 b3_34_15 = true := by decide +kernel

/-- batten/term.May. -/
noncomputable def b3_34_16 : List Memo := [
  ⟨34,[(g (tP (aA 0) []))],[r (tC c0 (tP (aA 1) [])),r (tQ (aA 2) (tQ (aA 3) [])),r (tQ (aA 4) (tV 0 [])),r (tQ (aA 5) (tV 0 [])),r (tC c27 (tV 4 [])),r (tV 4 (tV 1 []))],bt,[],236⟩,
  ⟨34,[(g (tP (aA 0) []))],[r (tQ (aA 1) (tQ (aA 2) [])),r (tQ (aA 3) (tV 0 [])),r (tQ (aA 4) (tV 0 [])),r (tC c27 (tV 4 [])),r (tV 4 (tV 1 []))],bt,[],193⟩,
  ⟨34,[(g (tP (aA 0) []))],[r (tQ (aA 1) (tQ (aA 2) [])),r (tQ (aA 3) (tC c1 [])),r (tQ (aA 4) (tV 0 [])),r (tC c27 (tV 3 [])),r (tV 3 (tC c1 []))],bt,[],213⟩,
  ⟨34,[(g (tQ (aA 0) []))],[r (tQ (aA 1) (tV 0 [])),r (tV 3 (tC c1 []))],bt,[],94⟩,
  ⟨34,[(g (tQ (eB 0) []))],[r (tC c28 (tV 3 []))],bt,[],61⟩,
  ⟨34,[(g (tQ (eB 0) []))],[r (tQ (eB 1) (tQ (eB 2) [])),r (tQ (eB 3) (tQ (aA 4) [])),r (tQ (eB 5) (tV 0 [])),r (tQ (eB 6) (tV 3 [])),r (tC c2 (tV 1 [])),r (tQ (eB 7) (tV 1 [])),r (tQ (eB 8) (tV 4 [])),r (tQ (eB 9) (tV 2 [])),r (tQ (eB 10) (tV 5 [])),r (tC c29 (tV 6 [])),r (t 3 0 c30 (a 11 0 1 1 40 5) z (tV 6 [])),r [i0,i0,j0,j0,j0]],bt,[],423⟩,
  ⟨34,[(g (tP (aA 0) []))],[r (tP (aA 1) (tP (aA 2) [])),r (tC c0 (tP (aA 3) [])),r (tQ (aA 4) (tP (aA 5) [])),r (tQ (aA 6) (t 1 0 c35 (a 7 0 1 1 40 5) z [])),r (tQ (aA 8) (tQ (aA 9) [])),r (tP (aA 10) (tP (aA 11) [])),r (tQ (aA 12) (tV 0 [])),r [i0,i0,j0,j0,j0],r (tV 0 (tC c1 [])),r (tC c28 (tV 7 [])),r (tV 8 (tP (aA 13) [])),r (tC c0 (tP (aA 14) [])),r (tC c27 (tV 7 [])),r (tC c0 (tP (aA 15) [])),r (tQ (aA 16) (tQ (aA 17) [])),r (tQ (aA 18) (tP (aA 19) [])),r (tQ (aA 20) (tV 0 [])),r (tQ (aA 21) (tV 0 [])),r (tQ (aA 22) (tV 0 [])),r (tQ (aA 23) (tQ (aA 24) [])),r (tC c27 (tV 10 [])),r (tV 4 (tV 1 [])),r (tC c27 (tV 10 [])),r (tQ (aA 25) (tV 0 [])),r (tQ (aA 26) (tQ (aA 27) [])),r (tV 4 (tV 1 [])),r (tV 5 (tQ (aA 28) [])),r (tQ (aA 29) (tV 1 [])),r (tC c2 (tV 2 [])),r (tQ (aA 30) (tV 2 [])),r (tQ (aA 31) (tV 3 [])),r (tC c29 (tV 12 []))],bt,[],1153⟩,
  ⟨34,[(g (tP (aA 0) []))],[r (tC c0 (tP (aA 1) [])),r (tQ (aA 2) (t 1 0 c35 (a 3 0 1 1 40 5) z [])),r (tQ (aA 4) (tV 0 [])),r [i0,i0,j0,j0,j0],r (tC c27 (tV 7 []))],bt,[],182⟩,
  ⟨34,[(g (tP (aA 0) []))],[r (tQ (aA 1) (tP (aA 2) [])),r (tQ (aA 3) (tQ (aA 4) [])),r (tP (aA 5) (tP (aA 6) [])),r (tV 0 (tC c1 [])),r (tC c28 (tV 7 [])),r (tV 8 (tP (aA 7) [])),r (tC c0 (tP (aA 8) [])),r (tC c0 (tP (aA 9) [])),r (tQ (aA 10) (tQ (aA 11) [])),r (tQ (aA 12) (tP (aA 13) [])),r (tQ (aA 14) (tV 0 [])),r (tQ (aA 15) (tV 0 [])),r (tQ (aA 16) (tV 0 [])),r (tQ (aA 17) (tQ (aA 18) [])),r (tC c27 (tV 10 [])),r (tV 4 (tV 1 [])),r (tC c27 (tV 10 [])),r (tQ (aA 19) (tV 0 [])),r (tQ (aA 20) (tQ (aA 21) [])),r (tV 4 (tV 1 [])),r (tV 5 (tQ (aA 22) [])),r (tQ (aA 23) (tV 1 [])),r (tC c2 (tV 2 [])),r (tQ (aA 24) (tV 2 [])),r (tQ (aA 25) (tV 3 [])),r (tC c29 (tV 12 []))],bt,[],956⟩,
  ⟨34,[(g (tP (aA 0) []))],[r (tQ (aA 1) (tP (aA 2) [])),r (tQ (aA 3) (tQ (aA 4) [])),r (tP (aA 5) (tP (aA 6) [])),r (tV 5 (tC c1 [])),r (tC c28 (tV 6 [])),r (tV 7 (tP (aA 7) [])),r (tC c0 (tP (aA 8) [])),r (tC c0 (tP (aA 9) [])),r (tQ (aA 10) (tQ (aA 11) [])),r (tQ (aA 12) (tP (aA 13) [])),r (tQ (aA 14) (tV 0 [])),r (tQ (aA 15) (tV 0 [])),r (tQ (aA 16) (tV 0 [])),r (tQ (aA 17) (tQ (aA 18) [])),r (tC c27 (tV 9 [])),r (tV 9 (tV 1 [])),r (tC c27 (tV 9 [])),r (tQ (aA 19) (tV 0 [])),r (tQ (aA 20) (tQ (aA 21) [])),r (tV 9 (tV 1 [])),r (tV 10 (tQ (aA 22) [])),r (tQ (aA 23) (tV 1 [])),r (tC c2 (tV 2 [])),r (tQ (aA 24) (tV 2 [])),r (tQ (aA 25) (tV 3 [])),r (tC c29 (tV 11 []))],bt,[],956⟩,
  ⟨34,[(g (tQ (aA 0) []))],[r (tQ (aA 1) (tQ (aA 2) [])),r (tV 5 (tC c1 [])),r (tC c28 (tV 6 []))],bt,[],137⟩]

theorem b3_34_16_ok : okAll (callM Tryz.prog mm2 1000 1000 300) 34 b3_34_16 = true := by decide +kernel

/-- batten/term.May. -/
noncomputable def b3_34_17 : List Memo := [
  ⟨34,[(g (tP (aA 0) []))],[r (tP (aA 1) (tP (aA 2) [])),r (tV 7 (tP (aA 3) [])),r (tC c0 (tP (aA 4) [])),r (tC c0 (tP (aA 5) [])),r (tQ (aA 6) (tQ (aA 7) [])),r (tQ (aA 8) (tP (aA 9) [])),r (tQ (aA 10) (tV 0 [])),r (tQ (aA 11) (tV 0 [])),r (tQ (aA 12) (tV 0 [])),r (tQ (aA 13) (tQ (aA 14) [])),r (tC c27 (tV 9 [])),r (tV 9 (tV 1 [])),r (tC c27 (tV 9 [])),r (tQ (aA 15) (tV 0 [])),r (tQ (aA 16) (tQ (aA 17) [])),r (tV 9 (tV 1 [])),r (tV 10 (tQ (aA 18) [])),r (tQ (aA 19) (tV 1 [])),r (tC c2 (tV 2 [])),r (tQ (aA 20) (tV 2 [])),r (tQ (aA 21) (tV 3 [])),r (tC c29 (tV 11 []))],bt,[],804⟩,
  ⟨34,[(g (tP (aA 0) []))],[r (tP (aA 1) (tP (aA 2) [])),r (tV 6 (tP (aA 3) [])),r (tC c0 (tP (aA 4) [])),r (tC c0 (tP (aA 5) [])),r (tQ (aA 6) (tQ (aA 7) [])),r (tQ (aA 8) (tP (aA 9) [])),r (tQ (aA 10) (tV 0 [])),r (tQ (aA 11) (tV 0 [])),r (tQ (aA 12) (tV 0 [])),r (tQ (aA 13) (tQ (aA 14) [])),r (tC c27 (tV 8 [])),r (tV 8 (tV 1 [])),r (tC c27 (tV 8 [])),r (tQ (aA 15) (tV 0 [])),r (tQ (aA 16) (tQ (aA 17) [])),r (tV 8 (tV 1 [])),r (tV 9 (tQ (aA 18) [])),r (tQ (aA 19) (tV 1 [])),r (tC c2 (tV 2 [])),r (tQ (aA 20) (tV 2 [])),r (tQ (aA 21) (tV 3 [])),r (tC c29 (tV 10 []))],bt,[],804⟩,
  ⟨34,[(g (tP (aA 0) []))],[r (tV 6 (tP (aA 1) [])),r (tC c0 (tP (aA 2) [])),r (tQ (aA 3) (tP (aA 4) [])),r (tQ (aA 5) (tV 0 [])),r (tQ (aA 6) (tQ (aA 7) [])),r (tC c27 (tV 8 [])),r (tQ (aA 8) (tV 0 [])),r (tQ (aA 9) (tQ (aA 10) [])),r (tV 8 (tV 1 [])),r (tV 9 (tQ (aA 11) [])),r (tQ (aA 12) (tV 1 [])),r (tC c2 (tV 2 [])),r (tQ (aA 13) (tV 2 [])),r (tQ (aA 14) (tV 3 [])),r (tC c29 (tV 10 []))],bt,[],553⟩,
  ⟨34,[(g (tP (aA 0) []))],[r (tC c0 (tP (aA 1) [])),r (tQ (aA 2) (tQ (aA 3) [])),r (tQ (aA 4) (tV 0 [])),r (tQ (aA 5) (tV 0 [])),r (tC c27 (tV 8 [])),r (tV 8 (tV 1 []))],bt,[],236⟩,
  ⟨34,[(g (tP (aA 0) []))],[r (tC c0 (tP (aA 1) [])),r (tQ (aA 2) (tQ (aA 3) [])),r (tQ (aA 4) (tV 0 [])),r (tQ (aA 5) (tV 0 [])),r (tC c27 (tV 7 [])),r (tV 7 (tV 1 []))],bt,[],236⟩,
  ⟨34,[(g (tP (aA 0) []))],[r (tQ (aA 1) (tQ (aA 2) [])),r (tQ (aA 3) (tV 0 [])),r (tQ (aA 4) (tV 0 [])),r (tC c27 (tV 7 [])),r (tV 7 (tV 1 []))],bt,[],193⟩,
  ⟨34,[(g (tQ (aA 0) []))],[r (tC c2 (tV 1 []))],bt,[],61⟩,
  ⟨34,[(g (tP (aA 0) []))],[r (tQ (aA 1) (tQ (aA 2) [])),r (tQ (aA 3) (tQ (aA 4) [])),r (tQ (aA 5) (tV 0 [])),r (tC c27 (tV 6 [])),r (tC c2 (tV 1 [])),r (tV 6 (tQ (aA 6) [])),r (tC c2 (tV 2 []))],bt,[],279⟩,
  ⟨34,[(g (tP (aA 0) []))],[r (tQ (aA 1) (tQ (aA 2) [])),r (tQ (aA 3) (tV 1 [])),r (tQ (aA 4) (tQ (aA 5) [])),r (tC c27 (tV 6 [])),r (tC c27 (tV 7 [])),r (tC c2 (tV 2 []))],bt,[],246⟩,
  ⟨34,[(g (tQ (aA 0) []))],[r (tQ (aA 1) (tQ (aA 2) [])),r (tC c27 (tV 7 [])),r (tC c2 (tV 2 []))],bt,[],137⟩,
  ⟨34,[(g (tQ (aA 0) []))],[r (tQ (aA 1) (tQ (aA 2) [])),r (tC c27 (tV 6 [])),r (tC c2 (tV 1 []))],bt,[],137⟩,
  ⟨34,[(g (tQ (aA 0) []))],[r (tQ (aA 1) (tV 0 [])),r (tV 6 (tQ (aA 2) [])),r (tC c2 (tV 2 []))],bt,[],127⟩,
  ⟨34,[(g (tQ (eB 0) []))],[r (tQ (eB 1) (tV 0 [])),r (tQ (eB 2) (tV 1 [])),r (tQ (eB 3) (tV 2 [])),r (tC c29 (tV 6 []))],bt,[],160⟩,
  ⟨34,[(g (tQ (aA 0) []))],[r (tQ (aA 1) (tQ (aA 2) [])),r (tV 5 (tQ (aA 3) [])),r (tQ (aA 4) (tV 0 [])),r (tC c2 (tV 1 [])),r (tQ (aA 5) (tV 1 [])),r (tQ (aA 6) (tV 2 [])),r (tC c29 (tV 6 []))],bt,[],269⟩,
  ⟨34,[(g (tQ (aA 0) []))],[r (tQ (aA 1) (tQ (aA 2) [])),r (tQ (aA 3) (tV 0 [])),r (tQ (aA 4) (tV 0 [])),r (tQ (aA 5) (tV 1 [])),r (tQ (aA 6) (tV 1 [])),r (tV 3 (tV 2 [])),r (tQ (aA 7) (tV 3 [])),r (tQ (aA 8) (tV 4 [])),r (tQ (aA 9) (tV 5 [])),r (t 3 0 c30 (a 10 0 1 1 40 5) z (tV 6 [])),r [i0,i0,j0,j0,j0]],bt,[],370⟩]

theorem b3_34_17_ok : okAll (callM Tryz.prog mm2 1000 1000 300) 34 b3_34_17 = true := by decide +kernel

end Go.Proofs.YthfppcmphkljkaaGreat
