/- Runs of functions in small memories (printed by a program), level 4. -/
import Derived.Test.YthfppcmphkljkaaGreatM3
import Derived.Test.YthfppcmphkljkaaGreatStr
set_option linter.unusedVariables false
set_option linter.unusedSimpArgs false
set_option linter.unusedSectionVars false
set_option maxRecDepth 100000
namespace Go.Proofs.YthfppcmphkljkaaGreat
open Go Go.Proofs.Bx Go.Proofs.Bx.Sh

/-- batten/term.Free. -/
noncomputable def b4_166_0 : List Memo := [
  ⟨166,[(g (t 1 0 c35 (eF 0) z []))],[r [i0,j0,j0,j0,j0]],i0,[],34⟩,
  ⟨166,[(g (tP (eB 0) []))],[r (tC c20 (tC c21 []))],i0,[],101⟩,
  ⟨166,[(g (tC c20 []))],[],i0,[],32⟩,
  ⟨166,[(g (tP (eB 0) []))],[r (tC c21 (tP (eB 1) [])),r (tC c20 (tC c20 []))],i0,[],170⟩,
  ⟨166,[(g (tC c0 []))],[],i0,[],32⟩,
  ⟨166,[(g (tP (eB 0) []))],[r (tC c0 (tC c0 []))],i0,[],101⟩,
  ⟨166,[(g (tP (eB 0) []))],[r (t 1 0 c35 (eF 1) z (tP (eB 2) [])),r [i0,j0,j0,j0,j0],r (t 1 0 c35 (eF 1) z (t 1 0 c35 (eF 1) z []))],i0,[],174⟩,
  ⟨166,[(g (tP (eB 0) []))],[r (t 1 0 c35 (eF 1) z (tP (eB 2) [])),r [i0,j0,j0,j0,j0],r (t 1 0 c35 (eF 1) z (tP (eB 3) [])),r (tV 1 (tP (eB 4) [])),r (tV 1 (tQ (eB 5) [])),r (tQ (eB 6) (tV 2 [])),r (tC c4 (tV 3 []))],i0,[],409⟩,
  ⟨166,[(g (tP (eB 0) []))],[r (t 1 0 c35 (eF 1) z (t 1 0 c35 (eF 1) z [])),r [i0,j0,j0,j0,j0]],i0,[],104⟩,
  ⟨166,[(g (tP (eB 0) []))],[r (t 1 0 c35 (eF 1) z (tQ (eB 2) [])),r [i0,j0,j0,j0,j0],r (tC c7 (tV 0 []))],i0,[],162⟩,
  ⟨166,[(g (tP (eB 0) []))],[r (t 1 0 c35 (eF 1) z (tP (eB 2) [])),r [i0,j0,j0,j0,j0],r (tV 0 (tP (eB 3) [])),r (tQ (eB 4) (tQ (eB 5) [])),r (tC c7 (tV 1 [])),r (tC c7 (tV 2 []))],i0,[],349⟩,
  ⟨166,[(g (tP (eB 0) []))],[r (t 1 0 c35 (eF 1) z (tP (eB 2) [])),r [i0,j0,j0,j0,j0],r (tC c0 (t 1 0 c35 (eF 1) z []))],i0,[],173⟩,
  ⟨166,[(g (tP (eB 0) []))],[r (t 1 0 c35 (eF 1) z (tQ (eB 2) [])),r [i0,j0,j0,j0,j0],r (tQ (eB 3) (tC c1 [])),r (tC c27 (tV 0 []))],i0,[],231⟩,
  ⟨166,[(g (tP (eB 0) []))],[r (t 1 0 c35 (eF 1) z (tP (eB 2) [])),r [i0,j0,j0,j0,j0],r (tV 0 (tP (eB 3) [])),r (tC c0 (tP (eB 4) [])),r (tQ (eB 5) (tQ (eB 6) [])),r (tQ (eB 7) (tV 0 [])),r (tQ (eB 8) (tQ (eB 9) [])),r (tC c27 (tV 2 [])),r (tC c27 (tV 3 [])),r (tC c2 (tV 1 []))],i0,[],605⟩,
  ⟨166,[(g (tC c31 []))],[],i0,[],32⟩,
  ⟨166,[(g (tP (eB 0) []))],[r (tP (eB 1) (tC c31 [])),r (tC c0 (tC c31 []))],i0,[],170⟩]

theorem b4_166_0_ok : okAll (callM Tryz.prog mm3 1000 1000 300) 166 b4_166_0 = true := by decide +kernel

/-- batten/term.Size. -/
noncomputable def b4_288_0 : List Memo := [
  ⟨288,[(g (tV 0 []))],[],i1,[],22⟩,
  ⟨288,[(g (t 1 0 c35 (eF 0) z []))],[r [i0,i0,j0,j0,j0]],i1,[],34⟩,
  ⟨288,[(g (tV 1 []))],[],i1,[],22⟩,
  ⟨288,[(g (tC c21 []))],[],i1,[],32⟩,
  ⟨288,[(g (tQ (eB 0) []))],[r (tC c22 (tV 1 []))],(i 3),[],91⟩,
  ⟨288,[(g (tC c23 []))],[],i1,[],32⟩,
  ⟨288,[(g (tV 3 []))],[],i1,[],22⟩,
  ⟨288,[(g (tP (aA 0) []))],[r (tC c20 (tC c20 []))],(i 3),[],101⟩,
  ⟨288,[(g (tV 2 []))],[],i1,[],22⟩,
  ⟨288,[(g (tC c20 []))],[],i1,[],32⟩,
  ⟨288,[(g (tQ (eB 0) []))],[r (tQ (eB 1) (tV 2 [])),r (tC c24 (tV 3 []))],(i 5),[],150⟩,
  ⟨288,[(g (tV 5 []))],[],i1,[],22⟩,
  ⟨288,[(g (tP (aA 0) []))],[r (tP (aA 1) (tP (aA 2) [])),r (tC c20 (t 1 0 c35 (a 3 0 1 1 40 5) z [])),r (tP (aA 4) (tP (aA 5) [])),r [i0,i0,j0,j0,j0],r (tC c20 (tP (aA 6) [])),r (tQ (aA 7) (tP (aA 8) [])),r (tQ (aA 9) (tQ (aA 10) [])),r (tV 1 (tC c23 [])),r (tP (aA 11) (tP (aA 12) [])),r (tV 1 (tV 0 [])),r (tV 3 (tQ (aA 13) [])),r (tC c21 (tP (aA 14) [])),r (tC c21 (tQ (aA 15) [])),r (tC c22 (tV 1 [])),r (tC c20 (tP (aA 16) [])),r (tV 5 (tV 0 [])),r (tQ (aA 17) (tP (aA 18) [])),r (tV 5 (tV 1 [])),r (tQ (aA 19) (tQ (aA 20) [])),r (tV 5 (tV 1 [])),r (tV 6 (tQ (aA 21) [])),r (tQ (aA 22) (tV 2 [])),r (tC c24 (tV 3 []))],(i 45),[],1412⟩,
  ⟨288,[(g (tV 4 []))],[],i1,[],22⟩,
  ⟨288,[(g (tP (aA 0) []))],[r (tP (aA 1) (tP (aA 2) [])),r (tC c20 (tP (aA 3) [])),r (tQ (aA 4) (tP (aA 5) [])),r (tQ (aA 6) (tQ (aA 7) [])),r (tV 1 (tC c23 [])),r (tP (aA 8) (tP (aA 9) [])),r (tV 1 (tV 0 [])),r (tV 8 (tQ (aA 10) [])),r (tC c21 (tP (aA 11) [])),r (tC c21 (tQ (aA 12) [])),r (tC c22 (tV 1 [])),r (tC c20 (tP (aA 13) [])),r (tV 10 (tV 0 [])),r (tQ (aA 14) (tP (aA 15) [])),r (tV 10 (tV 1 [])),r (tQ (aA 16) (tQ (aA 17) [])),r (tV 5 (tV 1 [])),r (tV 6 (tQ (aA 18) [])),r (tQ (aA 19) (tV 2 [])),r (tC c24 (tV 3 []))],(i 41),[],1272⟩,
  ⟨288,[(g (tP (aA 0) []))],[r (tQ (aA 1) (tP (aA 2) [])),r (tV 5 (tC c23 [])),r (tP (aA 3) (tP (aA 4) [])),r (tC c21 (tP (aA 5) [])),r (tC c21 (tQ (aA 6) [])),r (tC c20 (tP (aA 7) [])),r (tV 9 (tV 0 [])),r (tQ (aA 8) (tP (aA 9) [])),r (tV 9 (tV 1 [])),r (tQ (aA 10) (tQ (aA 11) [])),r (tV 9 (tV 1 [])),r (tV 10 (tQ (aA 12) [])),r (tQ (aA 13) (tV 2 [])),r (tC c24 (tV 3 []))],(i 29),[],898⟩,
  ⟨288,[(g (tP (aA 0) []))],[r (tP (aA 1) (tP (aA 2) [])),r (tC c21 (tP (aA 3) [])),r (tC c21 (tQ (aA 4) [])),r (tC c20 (tP (aA 5) [])),r (tV 8 (tV 0 [])),r (tQ (aA 6) (tP (aA 7) [])),r (tV 8 (tV 1 [])),r (tQ (aA 8) (tQ (aA 9) [])),r (tV 8 (tV 1 [])),r (tV 9 (tQ (aA 10) [])),r (tQ (aA 11) (tV 2 [])),r (tC c24 (tV 3 []))],(i 25),[],770⟩,
  ⟨288,[(g (tP (aA 0) []))],[r (tC c21 (tQ (aA 1) [])),r (tV 7 (tV 0 []))],(i 5),[],150⟩,
  ⟨288,[(g (tQ (eB 0) []))],[r (tC c22 (tV 0 []))],(i 3),[],91⟩,
  ⟨288,[(g (tQ (aA 0) []))],[r (tV 6 (tV 0 []))],(i 3),[],81⟩,
  ⟨288,[(g (tP (aA 0) []))],[r (tQ (aA 1) (tQ (aA 2) [])),r (tV 5 (tV 0 [])),r (tV 7 (tQ (aA 3) [])),r (tC c22 (tV 1 []))],(i 9),[],268⟩,
  ⟨288,[(g (tP (aA 0) []))],[r (tP (aA 1) (tP (aA 2) [])),r (tC c20 (t 1 0 c35 (a 3 0 1 1 40 5) z [])),r (tP (aA 4) (tP (aA 5) [])),r [i0,i0,j0,j0,j0],r (tC c20 (tP (aA 6) [])),r (tQ (aA 7) (tP (aA 8) [])),r (tQ (aA 9) (tQ (aA 10) [])),r (tV 1 (tC c23 [])),r (tP (aA 11) (tP (aA 12) [])),r (tV 1 (tV 0 [])),r (tV 3 (tQ (aA 13) [])),r (tC c21 (tP (aA 14) [])),r (tC c20 (tQ (aA 15) [])),r (tC c22 (tV 1 [])),r (tC c20 (tP (aA 16) [])),r (tV 4 (tV 0 [])),r (tQ (aA 17) (tP (aA 18) [])),r (tV 5 (tV 1 [])),r (tQ (aA 19) (tQ (aA 20) [])),r (tV 5 (tV 1 [])),r (tV 6 (tQ (aA 21) [])),r (tQ (aA 22) (tV 2 [])),r (tC c24 (tV 3 []))],(i 45),[],1412⟩]

theorem b4_288_0_ok : okAll (callM Tryz.prog mm3 1000 1000 300) 288 b4_288_0 = true := by decide +kernel

/-- batten/term.Size. -/
noncomputable def b4_288_1 : List Memo := [
  ⟨288,[(g (tP (aA 0) []))],[r (tP (aA 1) (tP (aA 2) [])),r (tC c20 (tP (aA 3) [])),r (tQ (aA 4) (tP (aA 5) [])),r (tQ (aA 6) (tQ (aA 7) [])),r (tV 1 (tC c23 [])),r (tP (aA 8) (tP (aA 9) [])),r (tV 1 (tV 0 [])),r (tV 8 (tQ (aA 10) [])),r (tC c21 (tP (aA 11) [])),r (tC c20 (tQ (aA 12) [])),r (tC c22 (tV 1 [])),r (tC c20 (tP (aA 13) [])),r (tV 4 (tV 0 [])),r (tQ (aA 14) (tP (aA 15) [])),r (tV 10 (tV 1 [])),r (tQ (aA 16) (tQ (aA 17) [])),r (tV 5 (tV 1 [])),r (tV 6 (tQ (aA 18) [])),r (tQ (aA 19) (tV 2 [])),r (tC c24 (tV 3 []))],(i 41),[],1272⟩,
  ⟨288,[(g (tP (aA 0) []))],[r (tQ (aA 1) (tP (aA 2) [])),r (tV 5 (tC c23 [])),r (tP (aA 3) (tP (aA 4) [])),r (tC c21 (tP (aA 5) [])),r (tC c20 (tQ (aA 6) [])),r (tC c20 (tP (aA 7) [])),r (tV 8 (tV 0 [])),r (tQ (aA 8) (tP (aA 9) [])),r (tV 9 (tV 1 [])),r (tQ (aA 10) (tQ (aA 11) [])),r (tV 9 (tV 1 [])),r (tV 10 (tQ (aA 12) [])),r (tQ (aA 13) (tV 2 [])),r (tC c24 (tV 3 []))],(i 29),[],898⟩,
  ⟨288,[(g (tP (aA 0) []))],[r (tP (aA 1) (tP (aA 2) [])),r (tC c21 (tP (aA 3) [])),r (tC c20 (tQ (aA 4) [])),r (tC c20 (tP (aA 5) [])),r (tV 7 (tV 0 [])),r (tQ (aA 6) (tP (aA 7) [])),r (tV 8 (tV 1 [])),r (tQ (aA 8) (tQ (aA 9) [])),r (tV 8 (tV 1 [])),r (tV 9 (tQ (aA 10) [])),r (tQ (aA 11) (tV 2 [])),r (tC c24 (tV 3 []))],(i 25),[],770⟩,
  ⟨288,[(g (tP (aA 0) []))],[r (tC c20 (tQ (aA 1) [])),r (tV 6 (tV 0 []))],(i 5),[],150⟩,
  ⟨288,[(g (tQ (aA 0) []))],[r (tV 5 (tV 0 []))],(i 3),[],81⟩,
  ⟨288,[(g (tQ (aA 0) []))],[r (tQ (aA 1) (tV 0 [])),r (tQ (aA 2) (tV 1 [])),r (tQ (aA 3) (tV 2 [])),r (tQ (aA 4) (tV 3 [])),r (tQ (aA 5) (tV 4 [])),r (t 3 0 c25 (a 6 0 1 1 40 5) z (tV 5 [])),r [i0,i0,j0,j0,j0]],(i 13),[],398⟩,
  ⟨288,[(g (tQ (aA 0) []))],[r (tV 6 (tQ (aA 1) [])),r (tC c22 (tV 1 []))],(i 5),[],150⟩,
  ⟨288,[(g (tP (aA 0) []))],[r (tP (aA 1) (tP (aA 2) [])),r (tC c20 (tP (aA 3) [])),r (tQ (aA 4) (tP (aA 5) [])),r (tQ (aA 6) (tQ (aA 7) [])),r (tV 1 (tC c23 [])),r (tP (aA 8) (tP (aA 9) [])),r (tV 1 (tV 0 [])),r (tV 7 (tQ (aA 10) [])),r (tC c21 (tP (aA 11) [])),r (tC c20 (tQ (aA 12) [])),r (tC c22 (tV 1 [])),r (tC c20 (tP (aA 13) [])),r (tV 4 (tV 0 [])),r (tQ (aA 14) (tP (aA 15) [])),r (tV 9 (tV 1 [])),r (tQ (aA 16) (tQ (aA 17) [])),r (tV 5 (tV 1 [])),r (tV 6 (tQ (aA 18) [])),r (tQ (aA 19) (tV 2 [])),r (tC c24 (tV 3 []))],(i 41),[],1272⟩,
  ⟨288,[(g (tP (aA 0) []))],[r (tQ (aA 1) (tP (aA 2) [])),r (tV 4 (tC c23 [])),r (tP (aA 3) (tP (aA 4) [])),r (tC c21 (tP (aA 5) [])),r (tC c20 (tQ (aA 6) [])),r (tC c20 (tP (aA 7) [])),r (tV 7 (tV 0 [])),r (tQ (aA 8) (tP (aA 9) [])),r (tV 8 (tV 1 [])),r (tQ (aA 10) (tQ (aA 11) [])),r (tV 8 (tV 1 [])),r (tV 9 (tQ (aA 12) [])),r (tQ (aA 13) (tV 2 [])),r (tC c24 (tV 3 []))],(i 29),[],898⟩,
  ⟨288,[(g (tP (aA 0) []))],[r (tP (aA 1) (tP (aA 2) [])),r (tC c21 (tP (aA 3) [])),r (tC c20 (tQ (aA 4) [])),r (tC c20 (tP (aA 5) [])),r (tV 6 (tV 0 [])),r (tQ (aA 6) (tP (aA 7) [])),r (tV 7 (tV 1 [])),r (tQ (aA 8) (tQ (aA 9) [])),r (tV 7 (tV 1 [])),r (tV 8 (tQ (aA 10) [])),r (tQ (aA 11) (tV 2 [])),r (tC c24 (tV 3 []))],(i 25),[],770⟩,
  ⟨288,[(g (tP (aA 0) []))],[r (tC c20 (tQ (aA 1) [])),r (tV 5 (tV 0 []))],(i 5),[],150⟩,
  ⟨288,[(g (tQ (aA 0) []))],[r (tV 4 (tV 0 []))],(i 3),[],81⟩,
  ⟨288,[(g (tV 6 []))],[],i1,[],22⟩]

theorem b4_288_1_ok : okAll (callM Tryz.prog mm3 1000 1000 300) 288 b4_288_1 = true := by decide +kernel

/-- batten/term.Size. -/
noncomputable def b4_288_2 : List Memo := [
  ⟨288,[(g (tP (aA 0) []))],[r (tP (aA 1) (tP (aA 2) [])),r (tC c20 (tP (aA 3) [])),r (tQ (aA 4) (tP (aA 5) [])),r (tQ (aA 6) (tQ (aA 7) [])),r (tV 1 (tC c23 [])),r (tP (aA 8) (tP (aA 9) [])),r (tV 1 (tV 0 [])),r (tV 9 (tQ (aA 10) [])),r (tC c21 (tP (aA 11) [])),r (tC c20 (tQ (aA 12) [])),r (tC c22 (tV 1 [])),r (tC c20 (tP (aA 13) [])),r (tV 4 (tV 0 [])),r (tQ (aA 14) (tP (aA 15) [])),r (tV 11 (tV 1 [])),r (tQ (aA 16) (tQ (aA 17) [])),r (tV 5 (tV 1 [])),r (tV 6 (tQ (aA 18) [])),r (tQ (aA 19) (tV 2 [])),r (tC c24 (tV 3 []))],(i 41),[],1272⟩,
  ⟨288,[(g (tP (aA 0) []))],[r (tQ (aA 1) (tP (aA 2) [])),r (tV 6 (tC c23 [])),r (tP (aA 3) (tP (aA 4) [])),r (tC c21 (tP (aA 5) [])),r (tC c20 (tQ (aA 6) [])),r (tC c20 (tP (aA 7) [])),r (tV 9 (tV 0 [])),r (tQ (aA 8) (tP (aA 9) [])),r (tV 10 (tV 1 [])),r (tQ (aA 10) (tQ (aA 11) [])),r (tV 10 (tV 1 [])),r (tV 11 (tQ (aA 12) [])),r (tQ (aA 13) (tV 2 [])),r (tC c24 (tV 3 []))],(i 29),[],898⟩,
  ⟨288,[(g (tP (aA 0) []))],[r (tP (aA 1) (tP (aA 2) [])),r (tC c21 (tP (aA 3) [])),r (tC c20 (tQ (aA 4) [])),r (tC c20 (tP (aA 5) [])),r (tV 8 (tV 0 [])),r (tQ (aA 6) (tP (aA 7) [])),r (tV 9 (tV 1 [])),r (tQ (aA 8) (tQ (aA 9) [])),r (tV 9 (tV 1 [])),r (tV 10 (tQ (aA 10) [])),r (tQ (aA 11) (tV 2 [])),r (tC c24 (tV 3 []))],(i 25),[],770⟩,
  ⟨288,[(g (tP (aA 0) []))],[r (tC c20 (tQ (aA 1) [])),r (tV 7 (tV 0 []))],(i 5),[],150⟩,
  ⟨288,[(g (tQ (eB 0) []))],[r (tQ (eB 1) (tV 0 [])),r (tC c24 (tV 1 []))],(i 5),[],150⟩,
  ⟨288,[(g (tP (aA 0) []))],[r (tC c20 (tP (aA 1) [])),r (tQ (aA 2) (tP (aA 3) [])),r (tV 8 (tV 1 [])),r (tQ (aA 4) (tQ (aA 5) [])),r (tV 8 (tV 1 [])),r (tV 9 (tQ (aA 6) [])),r (tQ (aA 7) (tV 2 [])),r (tC c24 (tV 3 []))],(i 17),[],514⟩,
  ⟨288,[(g (tP (aA 0) []))],[r (tQ (aA 1) (tP (aA 2) [])),r (tV 7 (tV 2 [])),r (tQ (aA 3) (tQ (aA 4) [])),r (tV 7 (tV 1 [])),r (tV 8 (tQ (aA 5) [])),r (tQ (aA 6) (tV 2 [])),r (tC c24 (tV 4 []))],(i 15),[],445⟩,
  ⟨288,[(g (tP (aA 0) []))],[r (tP (aA 1) (tP (aA 2) [])),r (tC c20 (tP (aA 3) [])),r (tQ (aA 4) (tP (aA 5) [])),r (tQ (aA 6) (tQ (aA 7) [])),r (tV 1 (tC c23 [])),r (tP (aA 8) (tP (aA 9) [])),r (tV 1 (tV 0 [])),r (tV 9 (tQ (aA 10) [])),r (tC c21 (tP (aA 11) [])),r (tC c21 (tQ (aA 12) [])),r (tC c22 (tV 1 [])),r (tC c20 (tP (aA 13) [])),r (tV 11 (tV 0 [])),r (tQ (aA 14) (tP (aA 15) [])),r (tV 11 (tV 1 [])),r (tQ (aA 16) (tQ (aA 17) [])),r (tV 5 (tV 1 [])),r (tV 6 (tQ (aA 18) [])),r (tQ (aA 19) (tV 2 [])),r (tC c24 (tV 3 []))],(i 41),[],1272⟩,
  ⟨288,[(g (tP (aA 0) []))],[r (tQ (aA 1) (tP (aA 2) [])),r (tV 6 (tC c23 [])),r (tP (aA 3) (tP (aA 4) [])),r (tC c21 (tP (aA 5) [])),r (tC c21 (tQ (aA 6) [])),r (tC c20 (tP (aA 7) [])),r (tV 10 (tV 0 [])),r (tQ (aA 8) (tP (aA 9) [])),r (tV 10 (tV 1 [])),r (tQ (aA 10) (tQ (aA 11) [])),r (tV 10 (tV 1 [])),r (tV 11 (tQ (aA 12) [])),r (tQ (aA 13) (tV 2 [])),r (tC c24 (tV 3 []))],(i 29),[],898⟩,
  ⟨288,[(g (tP (aA 0) []))],[r (tP (aA 1) (tP (aA 2) [])),r (tC c21 (tP (aA 3) [])),r (tC c21 (tQ (aA 4) [])),r (tC c20 (tP (aA 5) [])),r (tV 9 (tV 0 [])),r (tQ (aA 6) (tP (aA 7) [])),r (tV 9 (tV 1 [])),r (tQ (aA 8) (tQ (aA 9) [])),r (tV 9 (tV 1 [])),r (tV 10 (tQ (aA 10) [])),r (tQ (aA 11) (tV 2 [])),r (tC c24 (tV 3 []))],(i 25),[],770⟩,
  ⟨288,[(g (tP (aA 0) []))],[r (tC c21 (tQ (aA 1) [])),r (tV 8 (tV 0 []))],(i 5),[],150⟩,
  ⟨288,[(g (tQ (aA 0) []))],[r (tV 7 (tV 0 []))],(i 3),[],81⟩]

theorem b4_288_2_ok : okAll (callM Tryz.prog mm3 1000 1000 300) 288 b4_288_2 = true := by decide +kernel

/-- batten/term.Size. -/
noncomputable def b4_288_3 : List Memo := [
  ⟨288,[(g (tQ (aA 0) []))],[r (tQ (aA 1) (tV 1 [])),r (tQ (aA 2) (tV 2 [])),r (tQ (aA 3) (tV 3 [])),r (tQ (aA 4) (tV 4 [])),r (tQ (aA 5) (tV 5 [])),r (t 3 0 c26 (a 6 0 1 1 40 5) z (tV 6 [])),r [i0,i0,j0,j0,j0]],(i 13),[],398⟩,
  ⟨288,[(g (tP (aA 0) []))],[r (tQ (aA 1) (tQ (aA 2) [])),r (tV 6 (tV 1 [])),r (tV 7 (tQ (aA 3) [])),r (tQ (aA 4) (tV 2 [])),r (tC c24 (tV 3 []))],(i 11),[],327⟩,
  ⟨288,[(g (tQ (aA 0) []))],[r (tQ (aA 1) (tV 0 [])),r (tQ (aA 2) (tV 2 [])),r (tQ (aA 3) (tV 3 [])),r (tQ (aA 4) (tV 4 [])),r (tQ (aA 5) (tV 5 [])),r (t 3 0 c25 (a 6 0 1 1 40 5) z (tV 6 [])),r [i0,i0,j0,j0,j0]],(i 13),[],398⟩,
  ⟨288,[(g (tQ (aA 0) []))],[r (tV 6 (tQ (aA 1) [])),r (tQ (aA 2) (tV 1 [])),r (tC c24 (tV 2 []))],(i 7),[],209⟩,
  ⟨288,[(g (tP (aA 0) []))],[r (tC c0 (t 1 0 c35 (a 1 0 1 1 40 5) z [])),r [i0,j0,j0,j0,j0]],(i 3),[],103⟩,
  ⟨288,[(g (t 1 0 c35 (a 0 0 1 1 40 5) z []))],[r [i0,j0,j0,j0,j0]],i1,[],34⟩,
  ⟨288,[(g (tC c1 []))],[],i1,[],32⟩,
  ⟨288,[(g (tP (aA 0) []))],[r (tQ (aA 1) (t 1 0 c35 (eF 2) z [])),r (tQ (aA 3) (tV 0 [])),r [i0,i0,j0,j0,j0],r (tC c27 (tV 2 []))],(i 7),[],221⟩,
  ⟨288,[(g (tQ (aA 0) []))],[r (tQ (aA 1) (tC c1 [])),r (tC c27 (tV 0 []))],(i 5),[],160⟩,
  ⟨288,[(g (tQ (eB 0) []))],[r (tC c28 (tV 1 []))],(i 3),[],91⟩,
  ⟨288,[(g (tP (aA 0) []))],[r (tQ (aA 1) (t 1 0 c35 (eF 2) z [])),r (tQ (aA 3) (tV 0 [])),r [i0,i0,j0,j0,j0],r (tC c27 (tV 6 []))],(i 7),[],221⟩,
  ⟨288,[(g (tC c0 []))],[],i1,[],32⟩,
  ⟨288,[(g (tQ (aA 0) []))],[r (tC c2 (tV 2 []))],(i 3),[],91⟩,
  ⟨288,[(g (tP (aA 0) []))],[r (tQ (aA 1) (t 1 0 c35 (eF 2) z [])),r (tQ (aA 3) (tV 0 [])),r [i0,i0,j0,j0,j0],r (tC c27 (tV 7 []))],(i 7),[],221⟩,
  ⟨288,[(g (tP (aA 0) []))],[r (tV 0 (tP (aA 1) [])),r (tC c0 (tP (aA 2) [])),r (tQ (aA 3) (tQ (aA 4) [])),r (tQ (aA 5) (tV 0 [])),r (tQ (aA 6) (tQ (aA 7) [])),r (tC c27 (tV 2 [])),r (tC c27 (tV 3 [])),r (tC c2 (tV 1 []))],(i 17),[],534⟩,
  ⟨288,[(g (tP (aA 0) []))],[r (tC c0 (tP (aA 1) [])),r (tQ (aA 2) (tQ (aA 3) [])),r (tQ (aA 4) (tV 0 [])),r (tQ (aA 5) (tQ (aA 6) [])),r (tC c27 (tV 8 [])),r (tC c27 (tV 9 [])),r (tC c2 (tV 1 []))],(i 15),[],475⟩,
  ⟨288,[(g (tP (aA 0) []))],[r (tQ (aA 1) (tQ (aA 2) [])),r (tQ (aA 3) (tV 0 [])),r (tQ (aA 4) (tQ (aA 5) [])),r (tC c27 (tV 7 [])),r (tC c27 (tV 8 [])),r (tC c2 (tV 1 []))],(i 13),[],406⟩,
  ⟨288,[(g (tQ (aA 0) []))],[r (tQ (aA 1) (tQ (aA 2) [])),r (tC c27 (tV 7 [])),r (tC c2 (tV 3 []))],(i 7),[],219⟩,
  ⟨288,[(g (tQ (eB 0) []))],[r (tQ (eB 1) (tV 1 [])),r (tQ (eB 2) (tV 2 [])),r (tQ (eB 3) (tV 3 [])),r (tC c29 (tV 6 []))],(i 9),[],268⟩,
  ⟨288,[(g (tP (aA 0) []))],[r (tP (aA 1) (tP (aA 2) [])),r (tC c0 (tP (aA 3) [])),r (tQ (aA 4) (tP (aA 5) [])),r (tQ (aA 6) (t 1 0 c35 (a 7 0 1 1 40 5) z [])),r (tQ (aA 8) (tQ (aA 9) [])),r (tP (aA 10) (tP (aA 11) [])),r (tQ (aA 12) (tV 0 [])),r [i0,i0,j0,j0,j0],r (tV 0 (tC c1 [])),r (tC c28 (tV 1 [])),r (tV 2 (tP (aA 13) [])),r (tC c0 (tP (aA 14) [])),r (tC c27 (tV 1 [])),r (tC c0 (tP (aA 15) [])),r (tQ (aA 16) (tQ (aA 17) [])),r (tQ (aA 18) (tP (aA 19) [])),r (tQ (aA 20) (tV 0 [])),r (tQ (aA 21) (tV 0 [])),r (tQ (aA 22) (tV 0 [])),r (tQ (aA 23) (tQ (aA 24) [])),r (tC c27 (tV 4 [])),r (tV 4 (tV 1 [])),r (tC c27 (tV 4 [])),r (tQ (aA 25) (tV 0 [])),r (tQ (aA 26) (tQ (aA 27) [])),r (tV 4 (tV 1 [])),r (tV 5 (tQ (aA 28) [])),r (tQ (aA 29) (tV 1 [])),r (tC c2 (tV 2 [])),r (tQ (aA 30) (tV 2 [])),r (tQ (aA 31) (tV 3 [])),r (tC c29 (tV 6 []))],(i 63),[],1963⟩]

theorem b4_288_3_ok : okAll (callM Tryz.prog mm3 1000 1000 300) 288 b4_288_3 = true := by decide +kernel

/-- batten/term.Size. -/
noncomputable def b4_288_4 : List Memo := [
  ⟨288,[(g (tP (aA 0) []))],[r (tQ (aA 1) (tP (aA 2) [])),r (tQ (aA 3) (tQ (aA 4) [])),r (tP (aA 5) (tP (aA 6) [])),r (tV 0 (tC c1 [])),r (tC c28 (tV 4 [])),r (tV 5 (tP (aA 7) [])),r (tC c0 (tP (aA 8) [])),r (tC c0 (tP (aA 9) [])),r (tQ (aA 10) (tQ (aA 11) [])),r (tQ (aA 12) (tP (aA 13) [])),r (tQ (aA 14) (tV 0 [])),r (tQ (aA 15) (tV 0 [])),r (tQ (aA 16) (tV 0 [])),r (tQ (aA 17) (tQ (aA 18) [])),r (tC c27 (tV 7 [])),r (tV 4 (tV 1 [])),r (tC c27 (tV 7 [])),r (tQ (aA 19) (tV 0 [])),r (tQ (aA 20) (tQ (aA 21) [])),r (tV 4 (tV 1 [])),r (tV 5 (tQ (aA 22) [])),r (tQ (aA 23) (tV 1 [])),r (tC c2 (tV 2 [])),r (tQ (aA 24) (tV 2 [])),r (tQ (aA 25) (tV 3 [])),r (tC c29 (tV 9 []))],(i 53),[],1636⟩,
  ⟨288,[(g (tP (aA 0) []))],[r (tP (aA 1) (tP (aA 2) [])),r (tV 4 (tP (aA 3) [])),r (tC c0 (tP (aA 4) [])),r (tC c0 (tP (aA 5) [])),r (tQ (aA 6) (tQ (aA 7) [])),r (tQ (aA 8) (tP (aA 9) [])),r (tQ (aA 10) (tV 0 [])),r (tQ (aA 11) (tV 0 [])),r (tQ (aA 12) (tV 0 [])),r (tQ (aA 13) (tQ (aA 14) [])),r (tC c27 (tV 6 [])),r (tV 6 (tV 1 [])),r (tC c27 (tV 6 [])),r (tQ (aA 15) (tV 0 [])),r (tQ (aA 16) (tQ (aA 17) [])),r (tV 6 (tV 1 [])),r (tV 7 (tQ (aA 18) [])),r (tQ (aA 19) (tV 1 [])),r (tC c2 (tV 2 [])),r (tQ (aA 20) (tV 2 [])),r (tQ (aA 21) (tV 3 [])),r (tC c29 (tV 8 []))],(i 45),[],1380⟩,
  ⟨288,[(g (tP (aA 0) []))],[r (tC c0 (tP (aA 1) [])),r (tQ (aA 2) (tQ (aA 3) [])),r (tQ (aA 4) (tV 0 [])),r (tQ (aA 5) (tV 0 [])),r (tC c27 (tV 5 [])),r (tV 5 (tV 1 []))],(i 13),[],396⟩,
  ⟨288,[(g (tP (aA 0) []))],[r (tQ (aA 1) (tQ (aA 2) [])),r (tQ (aA 3) (tV 0 [])),r (tQ (aA 4) (tV 0 [])),r (tC c27 (tV 4 [])),r (tV 4 (tV 1 []))],(i 11),[],327⟩,
  ⟨288,[(g (tQ (eB 0) []))],[r (tC c28 (tV 3 []))],(i 3),[],91⟩,
  ⟨288,[(g (tQ (aA 0) []))],[r (tQ (aA 1) (tV 0 [])),r (tV 3 (tC c1 []))],(i 5),[],150⟩,
  ⟨288,[(g (tP (aA 0) []))],[r (tQ (aA 1) (tP (aA 2) [])),r (tQ (aA 3) (tQ (aA 4) [])),r (tP (aA 5) (tP (aA 6) [])),r (tV 0 (tC c1 [])),r (tC c28 (tV 7 [])),r (tV 8 (tP (aA 7) [])),r (tC c0 (tP (aA 8) [])),r (tC c0 (tP (aA 9) [])),r (tQ (aA 10) (tQ (aA 11) [])),r (tQ (aA 12) (tP (aA 13) [])),r (tQ (aA 14) (tV 0 [])),r (tQ (aA 15) (tV 0 [])),r (tQ (aA 16) (tV 0 [])),r (tQ (aA 17) (tQ (aA 18) [])),r (tC c27 (tV 10 [])),r (tV 4 (tV 1 [])),r (tC c27 (tV 10 [])),r (tQ (aA 19) (tV 0 [])),r (tQ (aA 20) (tQ (aA 21) [])),r (tV 4 (tV 1 [])),r (tV 5 (tQ (aA 22) [])),r (tQ (aA 23) (tV 1 [])),r (tC c2 (tV 2 [])),r (tQ (aA 24) (tV 2 [])),r (tQ (aA 25) (tV 3 [])),r (tC c29 (tV 12 []))],(i 53),[],1636⟩,
  ⟨288,[(g (tP (aA 0) []))],[r (tP (aA 1) (tP (aA 2) [])),r (tV 7 (tP (aA 3) [])),r (tC c0 (tP (aA 4) [])),r (tC c0 (tP (aA 5) [])),r (tQ (aA 6) (tQ (aA 7) [])),r (tQ (aA 8) (tP (aA 9) [])),r (tQ (aA 10) (tV 0 [])),r (tQ (aA 11) (tV 0 [])),r (tQ (aA 12) (tV 0 [])),r (tQ (aA 13) (tQ (aA 14) [])),r (tC c27 (tV 9 [])),r (tV 9 (tV 1 [])),r (tC c27 (tV 9 [])),r (tQ (aA 15) (tV 0 [])),r (tQ (aA 16) (tQ (aA 17) [])),r (tV 9 (tV 1 [])),r (tV 10 (tQ (aA 18) [])),r (tQ (aA 19) (tV 1 [])),r (tC c2 (tV 2 [])),r (tQ (aA 20) (tV 2 [])),r (tQ (aA 21) (tV 3 [])),r (tC c29 (tV 11 []))],(i 45),[],1380⟩,
  ⟨288,[(g (tP (aA 0) []))],[r (tC c0 (tP (aA 1) [])),r (tQ (aA 2) (tQ (aA 3) [])),r (tQ (aA 4) (tV 0 [])),r (tQ (aA 5) (tV 0 [])),r (tC c27 (tV 8 [])),r (tV 8 (tV 1 []))],(i 13),[],396⟩,
  ⟨288,[(g (tQ (aA 0) []))],[r (tC c2 (tV 1 []))],(i 3),[],91⟩]

theorem b4_288_4_ok : okAll (callM Tryz.prog mm3 1000 1000 300) 288 b4_288_4 = true := by decide +kernel

/-- batten/term.Size. -/
noncomputable def b4_288_5 : List Memo := [
  ⟨288,[(g (tP (aA 0) []))],[r (tQ (aA 1) (tQ (aA 2) [])),r (tQ (aA 3) (tV 0 [])),r (tQ (aA 4) (tV 0 [])),r (tC c27 (tV 7 [])),r (tV 7 (tV 1 []))],(i 11),[],327⟩,
  ⟨288,[(g (tQ (aA 0) []))],[r (tQ (aA 1) (tQ (aA 2) [])),r (tC c27 (tV 7 [])),r (tC c2 (tV 2 []))],(i 7),[],219⟩,
  ⟨288,[(g (tQ (eB 0) []))],[r (tQ (eB 1) (tV 0 [])),r (tQ (eB 2) (tV 1 [])),r (tQ (eB 3) (tV 2 [])),r (tC c29 (tV 6 []))],(i 9),[],268⟩,
  ⟨288,[(g (tQ (aA 0) []))],[r (tQ (aA 1) (tV 0 [])),r (tV 6 (tQ (aA 2) [])),r (tC c2 (tV 2 []))],(i 7),[],209⟩,
  ⟨288,[(g (tP (aA 0) []))],[r (tC c0 (tP (aA 1) [])),r (tQ (aA 2) (tP (aA 3) [])),r (tQ (aA 4) (tV 0 [])),r (tQ (aA 5) (tQ (aA 6) [])),r (tC c27 (tV 8 [])),r (tQ (aA 7) (tV 0 [])),r (tQ (aA 8) (tQ (aA 9) [])),r (tV 8 (tV 1 [])),r (tV 9 (tQ (aA 10) [])),r (tQ (aA 11) (tV 1 [])),r (tC c2 (tV 2 [])),r (tQ (aA 12) (tV 2 [])),r (tQ (aA 13) (tV 3 [])),r (tC c29 (tV 10 []))],(i 29),[],888⟩,
  ⟨288,[(g (tP (aA 0) []))],[r (tQ (aA 1) (tP (aA 2) [])),r (tQ (aA 3) (tV 0 [])),r (tQ (aA 4) (tQ (aA 5) [])),r (tC c27 (tV 7 [])),r (tQ (aA 6) (tV 0 [])),r (tQ (aA 7) (tQ (aA 8) [])),r (tV 7 (tV 1 [])),r (tV 8 (tQ (aA 9) [])),r (tQ (aA 10) (tV 1 [])),r (tC c2 (tV 2 [])),r (tQ (aA 11) (tV 2 [])),r (tQ (aA 12) (tV 5 [])),r (tC c29 (tV 9 []))],(i 27),[],819⟩,
  ⟨288,[(g (tP (aA 0) []))],[r (tQ (aA 1) (tQ (aA 2) [])),r (tQ (aA 3) (tV 0 [])),r (tQ (aA 4) (tQ (aA 5) [])),r (tV 6 (tV 2 [])),r (tV 7 (tQ (aA 6) [])),r (tQ (aA 7) (tV 1 [])),r (tC c2 (tV 3 [])),r (tQ (aA 8) (tV 3 [])),r (tQ (aA 9) (tV 4 [])),r (tC c29 (tV 8 []))],(i 21),[],632⟩,
  ⟨288,[(g (tQ (aA 0) []))],[r (tQ (aA 1) (tV 0 [])),r (tV 6 (tV 2 []))],(i 5),[],140⟩,
  ⟨288,[(g (tQ (aA 0) []))],[r (tQ (aA 1) (tV 0 [])),r (tQ (aA 2) (tV 1 [])),r (tQ (aA 3) (tV 3 [])),r (tQ (aA 4) (tV 4 [])),r (tQ (aA 5) (tV 5 [])),r (t 3 0 c30 (a 6 0 1 1 40 5) z (tV 6 [])),r [i0,i0,j0,j0,j0]],(i 13),[],398⟩,
  ⟨288,[(g (tQ (aA 0) []))],[r (tQ (aA 1) (tQ (aA 2) [])),r (tV 6 (tQ (aA 3) [])),r (tQ (aA 4) (tV 1 [])),r (tC c2 (tV 2 [])),r (tQ (aA 5) (tV 2 [])),r (tQ (aA 6) (tV 3 [])),r (tC c29 (tV 7 []))],(i 15),[],455⟩,
  ⟨288,[(g (tC c32 []))],[],i1,[],32⟩,
  ⟨288,[(g (tC c31 []))],[],i1,[],32⟩,
  ⟨288,[(g (tQ (eB 0) []))],[r (tV 1 (tV 0 []))],(i 3),[],81⟩,
  ⟨288,[(g (tQ (eB 0) []))],[r (tC c33 (tV 1 []))],(i 3),[],91⟩,
  ⟨288,[(g (tP (aA 0) []))],[r (tQ (aA 1) (tP (aA 2) [])),r (tV 0 (tC c32 [])),r (tP (aA 3) (tP (aA 4) [])),r (tP (aA 5) (tP (aA 6) [])),r (tC c31 (tQ (aA 7) [])),r (tC c0 (tC c31 [])),r (tP (aA 8) (tQ (aA 9) [])),r (tV 3 (tV 0 [])),r (tC c0 (tQ (aA 10) [])),r (tV 3 (tQ (aA 11) [])),r (tV 3 (tQ (aA 12) [])),r (tC c33 (tV 1 [])),r (tV 1 (tV 0 []))],(i 27),[],849⟩,
  ⟨288,[(g (tP (aA 0) []))],[r (tP (aA 1) (tP (aA 2) [])),r (tP (aA 3) (tP (aA 4) [])),r (tC c31 (tQ (aA 5) [])),r (tC c0 (tC c31 [])),r (tP (aA 6) (tQ (aA 7) [])),r (tV 5 (tV 0 [])),r (tC c0 (tQ (aA 8) [])),r (tV 5 (tQ (aA 9) [])),r (tV 5 (tQ (aA 10) [])),r (tC c33 (tV 1 [])),r (tV 1 (tV 0 []))],(i 23),[],721⟩,
  ⟨288,[(g (tP (aA 0) []))],[r (tC c31 (tQ (aA 1) [])),r (tV 4 (tV 0 []))],(i 5),[],150⟩,
  ⟨288,[(g (tQ (aA 0) []))],[r (tV 3 (tV 0 []))],(i 3),[],81⟩,
  ⟨288,[(g (tP (aA 0) []))],[r (tP (aA 1) (tP (aA 2) [])),r (tP (aA 3) (tP (aA 4) [])),r (tC c31 (tQ (aA 5) [])),r (tC c0 (tC c31 [])),r (tP (aA 6) (tQ (aA 7) [])),r (tV 6 (tV 0 [])),r (tC c0 (tQ (aA 8) [])),r (tV 6 (tQ (aA 9) [])),r (tV 6 (tQ (aA 10) [])),r (tC c33 (tV 1 [])),r (tV 1 (tV 0 []))],(i 23),[],721⟩,
  ⟨288,[(g (tP (aA 0) []))],[r (tC c31 (tQ (aA 1) [])),r (tV 5 (tV 0 []))],(i 5),[],150⟩,
  ⟨288,[(g (tQ (eB 0) []))],[r (tC c33 (tV 0 []))],(i 3),[],91⟩]

theorem b4_288_5_ok : okAll (callM Tryz.prog mm3 1000 1000 300) 288 b4_288_5 = true := by decide +kernel

/-- batten/term.Size. -/
noncomputable def b4_288_6 : List Memo := [
  ⟨288,[(g (tP (aA 0) []))],[r (tP (aA 1) (tQ (aA 2) [])),r (tC c0 (tQ (aA 3) [])),r (tV 5 (tQ (aA 4) [])),r (tV 5 (tQ (aA 5) [])),r (tC c33 (tV 1 [])),r (tV 1 (tV 0 []))],(i 13),[],396⟩,
  ⟨288,[(g (tP (aA 0) []))],[r (tP (aA 1) (tP (aA 2) [])),r (tP (aA 3) (tP (aA 4) [])),r (tC c31 (tQ (aA 5) [])),r (tC c0 (tC c31 [])),r (tP (aA 6) (tQ (aA 7) [])),r (tV 7 (tV 0 [])),r (tC c0 (tQ (aA 8) [])),r (tV 7 (tQ (aA 9) [])),r (tV 7 (tQ (aA 10) [])),r (tC c33 (tV 1 [])),r (tV 1 (tV 0 []))],(i 23),[],721⟩,
  ⟨288,[(g (tP (aA 0) []))],[r (tC c31 (tQ (aA 1) [])),r (tV 6 (tV 0 []))],(i 5),[],150⟩,
  ⟨288,[(g (tQ (aA 0) []))],[r (tV 1 (tV 0 []))],(i 3),[],81⟩,
  ⟨288,[(g (tL (aA 0) []))],[r (tC c0 (tQ (aA 1) [])),r (tQ (aA 2) (tQ (aA 3) [])),r (tQ (aA 4) (tV 2 [])),r (tV 1 (tV 0 [])),r (tQ (aA 5) (tV 3 [])),r (t 3 0 c34 (a 6 0 1 1 40 5) z (tV 4 [])),r [i0,i0,j0,j0,j0]],(i 13),[],408⟩,
  ⟨288,[(g (tQ (aA 0) []))],[r (tV 4 (tQ (aA 1) [])),r (tC c33 (tV 1 []))],(i 5),[],150⟩]

theorem b4_288_6_ok : okAll (callM Tryz.prog mm3 1000 1000 300) 288 b4_288_6 = true := by decide +kernel

end Go.Proofs.YthfppcmphkljkaaGreat
