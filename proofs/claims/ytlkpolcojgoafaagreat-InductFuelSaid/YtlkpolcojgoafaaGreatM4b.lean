/- Runs of functions in small memories (printed by a program), level 4. -/
import Derived.Test.YtlkpolcojgoafaaGreatM3
import Derived.Test.YtlkpolcojgoafaaGreatStr
set_option linter.unusedVariables false
set_option linter.unusedSimpArgs false
set_option linter.unusedSectionVars false
set_option maxRecDepth 100000
namespace Go.Proofs.YtlkpolcojgoafaaGreat
open Go Go.Proofs.Bx Go.Proofs.Bx.Sh

/-- batten/env.closed. -/
noncomputable def b4_66_11 : List Memo := [
  ⟨66,[(g (tL (eB 0) [])),i1],[r (t 1 0 c37 (eF 1) z (tL (eB 2) [])),r [i0,j0,j0,j0,j0],r (tP (eB 3) (tL (eB 4) [])),r (tQ (eB 5) (t 1 0 c37 (eF 6) z [])),r (tQ (eB 7) (tL (eB 8) [])),r (tC c7 (tV 0 [])),r [i0,i0,j0,j0,j0],r (tV 0 (tQ (eB 9) [])),r (tP (eB 10) (tV 1 [])),r (tC c8 (tV 1 [])),r (tV 2 (tP (eB 11) [])),r (tQ (aA 12) (tP (eB 13) [])),r (tC c7 (tV 3 [])),r (tQ (eB 14) (tQ (eB 15) [])),r (tV 3 (tV 0 [])),r (tV 4 (tQ (eB 16) [])),r (tQ (eB 17) (tV 1 [])),r (tQ (eB 18) (tV 2 [])),r (tC c9 (tV 5 []))],i0,[],1820⟩,
  ⟨66,[(g (tL (eB 0) [])),i1],[r (t 1 0 c37 (eF 1) z (tL (eB 2) [])),r [i0,j0,j0,j0,j0],r (tP (eB 3) (tL (eB 4) [])),r (tQ (eB 5) (t 1 0 c37 (eF 6) z [])),r (tQ (eB 7) (tL (eB 8) [])),r (tC c7 (tV 0 [])),r [i0,i0,j0,j0,j0],r (tV 0 (tQ (eB 9) [])),r (tP (eB 10) (tL (eB 11) [])),r (tC c8 (tV 1 [])),r (tV 2 (tP (eB 12) [])),r (tV 3 (tL (eB 13) [])),r (tQ (aA 14) (tP (eB 15) [])),r (tQ (aA 16) (tQ (eB 17) [])),r (tC c7 (tV 3 [])),r (tQ (eB 18) (tQ (eB 19) [])),r (tC c7 (tV 4 [])),r (tQ (eB 20) (tQ (eB 21) [])),r (tV 3 (tV 0 [])),r (tV 4 (tQ (eB 22) [])),r (tQ (eB 23) (tV 0 [])),r (tQ (eB 24) (tV 0 [])),r (tQ (eB 25) (tV 1 [])),r (tV 2 (tV 1 [])),r (tQ (eB 26) (tV 2 [])),r (tQ (eB 27) (tV 2 [])),r (tQ (eB 28) (tV 3 [])),r (tC c9 (tV 5 [])),r (tQ (eB 29) (tV 4 [])),r (t 3 0 c10 (a 30 0 1 1 40 5) z (tV 5 [])),r [i0,i0,j0,j0,j0]],i0,[],2951⟩,
  ⟨66,[(g (tP (eB 0) [])),i0],[r (t 1 0 c37 (eF 1) z (tP (eB 2) [])),r [i0,j0,j0,j0,j0],r (tC c0 (t 1 0 c37 (eF 1) z []))],i0,[],304⟩]

theorem b4_66_11_ok : okAll (callM Tryz.prog mm3 1000 1000 300) 66 b4_66_11 = true := by decide +kernel

/-- batten/env.closed. -/
noncomputable def b4_66_12 : List Memo := [
  ⟨66,[(g (tP (eB 0) [])),i0],[r (t 1 0 c37 (eF 1) z (tQ (eB 2) [])),r [i0,j0,j0,j0,j0],r (tQ (eB 3) (tC c1 [])),r (tC c29 (tV 0 []))],i0,[],398⟩,
  ⟨66,[(g (tP (eB 0) [])),i0],[r (t 1 0 c37 (eF 1) z (tP (eB 2) [])),r [i0,j0,j0,j0,j0],r (tV 0 (tP (eB 3) [])),r (tC c0 (tP (eB 4) [])),r (tQ (eB 5) (tQ (eB 6) [])),r (tQ (eB 7) (tV 0 [])),r (tQ (eB 8) (tQ (eB 9) [])),r (tC c29 (tV 2 [])),r (tC c29 (tV 3 [])),r (tC c2 (tV 1 []))],i0,[],1020⟩,
  ⟨66,[(g (tP (eB 0) [])),i1],[r (t 1 0 c37 (eF 1) z (tP (eB 2) [])),r [i0,j0,j0,j0,j0],r (tP (eB 3) (tP (eB 4) [])),r (tC c0 (tP (eB 5) [])),r (tQ (eB 6) (tP (eB 7) [])),r (tQ (eB 8) (t 1 0 c37 (eF 9) z [])),r (tQ (eB 10) (tQ (eB 11) [])),r (tP (eB 12) (tP (eB 13) [])),r (tQ (eB 14) (tV 0 [])),r [i0,i0,j0,j0,j0],r (tV 0 (tC c1 [])),r (tC c30 (tV 1 [])),r (tV 2 (tP (eB 15) [])),r (tC c0 (tP (eB 16) [])),r (tC c29 (tV 1 [])),r (tC c0 (tP (eB 17) [])),r (tQ (eB 18) (tQ (eB 19) [])),r (tQ (aA 20) (tP (eB 21) [])),r (tQ (eB 22) (tV 0 [])),r (tQ (eB 23) (tV 0 [])),r (tQ (aA 24) (tV 0 [])),r (tQ (eB 25) (tQ (eB 26) [])),r (tC c29 (tV 4 [])),r (tV 4 (tV 1 [])),r (tC c29 (tV 4 [])),r (tQ (eB 27) (tV 0 [])),r (tQ (eB 28) (tQ (eB 29) [])),r (tV 4 (tV 1 [])),r (tV 5 (tQ (aA 30) [])),r (tQ (eB 31) (tV 1 [])),r (tC c2 (tV 2 [])),r (tQ (eB 32) (tV 2 [])),r (tQ (eB 33) (tV 3 [])),r (tC c31 (tV 6 []))],i0,[],3395⟩]

theorem b4_66_12_ok : okAll (callM Tryz.prog mm3 1000 1000 300) 66 b4_66_12 = true := by decide +kernel

/-- batten/env.closed. -/
noncomputable def b4_66_13 : List Memo := [
  ⟨66,[(g (tL (eB 0) [])),i1],[r (t 1 0 c37 (eF 1) z (tL (eB 2) [])),r [i0,j0,j0,j0,j0],r (tP (eB 3) (tL (eB 4) [])),r (tC c0 (tP (eB 5) [])),r (tQ (eB 6) (tL (eB 7) [])),r (tQ (eB 8) (t 1 0 c37 (eF 9) z [])),r (tQ (eB 10) (tQ (eB 11) [])),r (tP (eB 12) (tV 1 [])),r (tQ (eB 13) (tV 0 [])),r [i0,i0,j0,j0,j0],r (tV 0 (tC c1 [])),r (tC c30 (tV 1 [])),r (tV 2 (tP (eB 14) [])),r (tC c29 (tV 1 [])),r (tC c0 (tP (eB 15) [])),r (tQ (aA 16) (tP (eB 17) [])),r (tQ (aA 18) (tV 0 [])),r (tQ (eB 19) (tQ (eB 20) [])),r (tC c29 (tV 4 [])),r (tQ (eB 21) (tV 0 [])),r (tQ (eB 22) (tQ (eB 23) [])),r (tV 4 (tV 1 [])),r (tV 5 (tQ (aA 24) [])),r (tQ (eB 25) (tV 1 [])),r (tC c2 (tV 2 [])),r (tQ (eB 26) (tV 2 [])),r (tQ (eB 27) (tV 3 [])),r (tC c31 (tV 6 []))],i0,[],2773⟩]

theorem b4_66_13_ok : okAll (callM Tryz.prog mm3 1000 1000 300) 66 b4_66_13 = true := by decide +kernel

/-- batten/env.closed. -/
noncomputable def b4_66_14 : List Memo := [
  ⟨66,[(g (tL (eB 0) [])),i1],[r (t 1 0 c37 (eF 1) z (tL (eB 2) [])),r [i0,j0,j0,j0,j0],r (tP (eB 3) (tL (eB 4) [])),r (tC c0 (tP (eB 5) [])),r (tQ (eB 6) (tL (eB 7) [])),r (tQ (eB 8) (t 1 0 c37 (eF 9) z [])),r (tQ (eB 10) (tQ (eB 11) [])),r (tP (eB 12) (tL (eB 13) [])),r (tQ (eB 14) (tV 0 [])),r [i0,i0,j0,j0,j0],r (tV 0 (tC c1 [])),r (tC c30 (tV 1 [])),r (tV 2 (tP (eB 15) [])),r (tV 3 (tL (eB 16) [])),r (tC c29 (tV 1 [])),r (tC c0 (tP (eB 17) [])),r (tC c0 (tL (eB 18) [])),r (tQ (aA 19) (tP (eB 20) [])),r (tQ (aA 21) (tQ (eB 22) [])),r (tQ (aA 23) (tV 0 [])),r (tQ (eB 24) (tQ (eB 25) [])),r (tQ (aA 26) (tV 0 [])),r (tQ (eB 27) (tQ (eB 28) [])),r (tC c29 (tV 4 [])),r (tQ (eB 29) (tV 0 [])),r (tQ (eB 30) (tQ (eB 31) [])),r (tC c29 (tV 5 [])),r (tQ (eB 32) (tV 0 [])),r (tQ (eB 33) (tV 0 [])),r (tV 4 (tV 1 [])),r (tV 5 (tQ (aA 34) [])),r (tQ (eB 35) (tV 1 [])),r (tQ (eB 36) (tV 1 [])),r (tQ (eB 37) (tV 1 [])),r (tC c2 (tV 2 [])),r (tQ (eB 38) (tV 2 [])),r (tV 3 (tV 2 [])),r (tQ (eB 39) (tV 3 [])),r (tQ (eB 40) (tV 3 [])),r (tQ (eB 41) (tV 4 [])),r (tC c31 (tV 6 [])),r (tQ (eB 42) (tV 5 [])),r (t 3 0 c32 (a 43 0 1 1 40 5) z (tV 6 [])),r [i0,i0,j0,j0,j0]],i0,[],4312⟩,
  ⟨66,[(g (tC c33 [])),i0],[],i0,[],63⟩,
  ⟨66,[(g (tP (eB 0) [])),i0],[r (tP (eB 1) (tC c33 [])),r (tC c0 (tC c33 []))],i0,[],297⟩]

theorem b4_66_14_ok : okAll (callM Tryz.prog mm3 1000 1000 300) 66 b4_66_14 = true := by decide +kernel

/-- batten/env.closed. -/
noncomputable def b4_66_15 : List Memo := [
  ⟨66,[(g (tP (eB 0) [])),i1],[r (tP (eB 1) (tP (eB 2) [])),r (tC c33 (t 1 0 c37 (eF 3) z [])),r (tQ (eB 4) (tP (eB 5) [])),r [i0,i0,j0,j0,j0],r (tV 0 (tC c34 [])),r (tP (eB 6) (tP (eB 7) [])),r (tP (aA 8) (tP (eB 9) [])),r (tC c33 (tQ (eB 10) [])),r (tC c0 (tC c33 [])),r (tP (eB 11) (tQ (eB 12) [])),r (tV 3 (tV 0 [])),r (tC c0 (tQ (eB 13) [])),r (tV 3 (tQ (eB 14) [])),r (tV 3 (tQ (eB 15) [])),r (tC c35 (tV 1 [])),r (tV 1 (tV 0 []))],i0,[],1662⟩,
  ⟨66,[(g (tL (eB 0) [])),i1],[r (tP (eB 1) (tL (eB 2) [])),r (tC c33 (t 1 0 c37 (eF 3) z [])),r (tQ (eB 4) (tL (eB 5) [])),r [i0,i0,j0,j0,j0],r (tV 0 (tC c34 [])),r (tP (eB 6) (tV 1 [])),r (tP (aA 7) (tP (eB 8) [])),r (tC c0 (tC c33 [])),r (tP (eB 9) (tQ (eB 10) [])),r (tC c0 (tQ (eB 11) [])),r (tV 3 (tQ (eB 12) [])),r (tV 3 (tQ (eB 13) [])),r (tC c35 (tV 1 [])),r (tV 1 (tV 0 []))],i0,[],1448⟩,
  ⟨66,[(g (tL (eB 0) [])),i1],[r (tP (eB 1) (tL (eB 2) [])),r (tC c33 (t 1 0 c37 (eF 3) z [])),r (tQ (eB 4) (tL (eB 5) [])),r [i0,i0,j0,j0,j0],r (tV 0 (tC c34 [])),r (tP (eB 6) (tL (eB 7) [])),r (tP (aA 8) (tP (eB 9) [])),r (tP (aA 10) (tQ (eB 11) [])),r (tC c0 (tC c33 [])),r (tP (eB 12) (tQ (eB 13) [])),r (tC c0 (tC c33 [])),r (tQ (eB 14) (tL (eB 15) [])),r (tC c0 (tQ (eB 16) [])),r (tV 3 (tQ (eB 17) [])),r (tV 1 (tV 0 [])),r (tC c0 (tQ (eB 18) [])),r (tV 3 (tQ (eB 19) [])),r (tC c35 (tV 1 [])),r (tQ (eB 20) (tQ (eB 21) [])),r (tV 1 (tV 0 [])),r (tQ (eB 22) (tV 2 [])),r (tV 1 (tV 0 [])),r (tQ (eB 23) (tV 3 [])),r (t 3 0 c36 (a 24 0 1 1 40 5) z (tV 4 [])),r [i0,i0,j0,j0,j0]],i0,[],2522⟩]

theorem b4_66_15_ok : okAll (callM Tryz.prog mm3 1000 1000 300) 66 b4_66_15 = true := by decide +kernel

/-- batten/term.Names. -/
noncomputable def b4_69_0 : List Memo := [
  ⟨69,[(g (t 1 0 c37 (eF 0) z []))],[r [i0,j0,j0,j0,j0]],z,[],34⟩,
  ⟨69,[(g (tC c0 []))],[],(a 33 0 1 1 16 1),[(33,q [c0])],34⟩,
  ⟨69,[(g (tP (eB 0) []))],[r (tC c0 (tC c0 []))],(a 104 0 1 2 16 1),[(104,q [c0,c37])],130⟩,
  ⟨69,[(g (tP (eB 0) []))],[r (tP (eB 1) (tP (eB 2) [])),r (tC c0 (t 1 0 c37 (eF 3) z [])),r (tQ (eB 4) (tP (eB 5) [])),r [i0,i0,j0,j0,j0],r (tV 0 (tC c1 [])),r (tP (eB 6) (tP (eB 7) [])),r (tC c0 (tP (eB 8) [])),r (tC c0 (tQ (eB 9) [])),r (tQ (eB 10) (tQ (eB 11) [])),r (tV 3 (tV 0 [])),r (tV 2 (tV 0 [])),r (tV 3 (tQ (eB 12) [])),r (tC c2 (tV 1 []))],(a 762 0 3 5 16 1),[(762,q [c0,c2,c1,c37,c37])],1034⟩,
  ⟨69,[(g (tL (eB 0) []))],[r (tP (eB 1) (tL (eB 2) [])),r (tC c0 (t 1 0 c37 (eF 3) z [])),r (tQ (eB 4) (tL (eB 5) [])),r [i0,i0,j0,j0,j0],r (tV 0 (tC c1 [])),r (tP (eB 6) (tV 1 [])),r (tC c0 (tP (eB 7) [])),r (tQ (eB 8) (tQ (eB 9) [])),r (tV 2 (tV 0 [])),r (tV 3 (tQ (eB 10) [])),r (tC c2 (tV 1 []))],(a 645 0 3 4 16 1),[(645,q [c0,c2,c1,c37])],813⟩,
  ⟨69,[(g (tL (eB 0) []))],[r (tP (eB 1) (tL (eB 2) [])),r (tC c0 (t 1 0 c37 (eF 3) z [])),r (tQ (eB 4) (tL (eB 5) [])),r [i0,i0,j0,j0,j0],r (tV 0 (tC c1 [])),r (tP (eB 6) (tL (eB 7) [])),r (tC c0 (tP (eB 8) [])),r (tC c0 (tQ (eB 9) [])),r (tQ (eB 10) (tQ (eB 11) [])),r (tQ (eB 12) (tQ (eB 13) [])),r (tV 2 (tV 0 [])),r (tV 3 (tQ (eB 14) [])),r (tV 1 (tV 0 [])),r (tQ (eB 15) (tV 0 [])),r (tC c2 (tV 1 [])),r (tQ (eB 16) (tV 1 [])),r (tQ (eB 17) (tV 2 [])),r (t 3 0 c3 (eF 18) z (tV 3 [])),r [i0,i0,j0,j0,j0]],(a 1068 0 4 6 16 1),[(1068,q [c0,c3,c2,c1,c37,c37])],1444⟩,
  ⟨69,[(g (tP (eB 0) []))],[r (t 1 0 c37 (eF 1) z (tP (eB 2) [])),r [i0,j0,j0,j0,j0],r (t 1 0 c37 (eF 3) z (t 1 0 c37 (eF 4) z [])),r [i0,j0,j0,j0,j0],r [i0,j0,j0,j0,j0]],z,[],176⟩,
  ⟨69,[(g (tP (eB 0) []))],[r (t 1 0 c37 (eF 1) z (tP (eB 2) [])),r [i0,j0,j0,j0,j0],r (t 1 0 c37 (eF 3) z (tP (eB 4) [])),r [i0,j0,j0,j0,j0],r (tV 1 (tP (eB 5) [])),r (tV 1 (tQ (eB 6) [])),r (tQ (eB 7) (tV 2 [])),r (tC c4 (tV 3 []))],(a 385 0 1 1 16 1),[(385,q [c4])],412⟩,
  ⟨69,[(g (tP (eB 0) []))],[r (t 1 0 c37 (eF 1) z (tP (eB 2) [])),r [i0,j0,j0,j0,j0],r (t 1 0 c37 (eF 3) z (tP (eB 4) [])),r [i0,j0,j0,j0,j0],r (tP (eB 5) (tP (eB 6) [])),r (tQ (eB 7) (t 1 0 c37 (eF 8) z [])),r (tP (eB 9) (tP (eB 10) [])),r (tQ (eB 11) (tV 0 [])),r [i0,i0,j0,j0,j0],r (tV 2 (tP (eB 12) [])),r (tQ (eB 13) (tQ (eB 14) [])),r (tC c4 (tV 1 [])),r (tV 2 (tQ (eB 15) [])),r (tQ (eB 16) (tV 2 [])),r (tV 2 (tV 0 [])),r (tV 2 (tQ (eB 17) [])),r (tC c4 (tV 3 [])),r (tQ (eB 18) (tV 0 [])),r (tQ (eB 19) (tV 1 [])),r (tQ (eB 20) (tV 3 [])),r (tC c5 (tV 4 []))],(a 1090 0 2 3 16 1),[(1090,q [c4,c5,c37])],1239⟩]

theorem b4_69_0_ok : okAll (callM Tryz.prog mm3 1000 1000 300) 69 b4_69_0 = true := by decide +kernel

/-- batten/term.Names. -/
noncomputable def b4_69_1 : List Memo := [
  ⟨69,[(g (tL (eB 0) []))],[r (t 1 0 c37 (eF 1) z (tL (eB 2) [])),r [i0,j0,j0,j0,j0],r (t 1 0 c37 (eF 3) z (tL (eB 4) [])),r [i0,j0,j0,j0,j0],r (tP (eB 5) (tL (eB 6) [])),r (tQ (eB 7) (t 1 0 c37 (eF 8) z [])),r (tP (eB 9) (tL (eB 10) [])),r (tQ (eB 11) (tV 0 [])),r [i0,i0,j0,j0,j0],r (tV 2 (tP (eB 12) [])),r (tQ (eB 13) (tQ (eB 14) [])),r (tC c4 (tV 1 [])),r (tV 2 (tQ (eB 15) [])),r (tQ (eB 16) (tV 2 [])),r (tQ (eB 17) (t 8 1 c4 z (eF 18) [])),r (tV 2 (tQ (eB 19) [])),r (tC c4 (tV 3 [])),r (tV 1 (t 8 0 c4 z (eF 20) [])),r (tV 0 []),r (tQ (eB 21) (tV 0 [])),r (tV 0 []),r (tQ (eB 22) (tV 1 [])),r (tQ (eB 23) (tV 3 [])),r (tC c5 (tV 4 []))],(a 1293 0 2 5 16 1),[(1293,q [c4,c5,c37,c37,c37])],1506⟩,
  ⟨69,[(g (tP (eB 0) []))],[r (t 1 0 c37 (eF 1) z (t 1 0 c37 (eF 2) z [])),r [i0,j0,j0,j0,j0],r [i0,j0,j0,j0,j0]],z,[],105⟩,
  ⟨69,[(g (tP (eB 0) []))],[r (t 1 0 c37 (eF 1) z (tQ (eB 2) [])),r [i0,j0,j0,j0,j0],r (tC c7 (tV 0 []))],(a 150 0 1 1 16 1),[(150,q [c7])],164⟩,
  ⟨69,[(g (tP (eB 0) []))],[r (t 1 0 c37 (eF 1) z (tP (eB 2) [])),r [i0,j0,j0,j0,j0],r (tV 0 (tP (eB 3) [])),r (tQ (eB 4) (tQ (eB 5) [])),r (tC c7 (tV 1 [])),r (tC c7 (tV 2 []))],(a 339 0 1 2 16 1),[(339,q [c7,c37])],378⟩,
  ⟨69,[(g (tP (eB 0) []))],[r (t 1 0 c37 (eF 1) z (tP (eB 2) [])),r [i0,j0,j0,j0,j0],r (tP (eB 3) (tP (eB 4) [])),r (tQ (eB 5) (t 1 0 c37 (eF 6) z [])),r (tQ (eB 7) (tP (eB 8) [])),r (tC c7 (tV 0 [])),r [i0,i0,j0,j0,j0],r (tV 0 (tQ (eB 9) [])),r (tP (eB 10) (tP (eB 11) [])),r (tC c8 (tV 1 [])),r (tV 2 (tP (eB 12) [])),r (tQ (eB 13) (tQ (eB 14) [])),r (tQ (eB 15) (tP (eB 16) [])),r (tC c7 (tV 3 [])),r (tV 3 (tV 0 [])),r (tC c7 (tV 3 [])),r (tQ (eB 17) (tQ (eB 18) [])),r (tV 3 (tV 0 [])),r (tV 4 (tQ (eB 19) [])),r (tQ (eB 20) (tV 1 [])),r (tQ (eB 21) (tV 2 [])),r (tC c9 (tV 5 []))],(a 1233 0 3 5 16 1),[(1233,q [c7,c9,c8,c37,c37])],1518⟩,
  ⟨69,[(g (tL (eB 0) []))],[r (t 1 0 c37 (eF 1) z (tL (eB 2) [])),r [i0,j0,j0,j0,j0],r (tP (eB 3) (tL (eB 4) [])),r (tQ (eB 5) (t 1 0 c37 (eF 6) z [])),r (tQ (eB 7) (tL (eB 8) [])),r (tC c7 (tV 0 [])),r [i0,i0,j0,j0,j0],r (tV 0 (tQ (eB 9) [])),r (tP (eB 10) (tV 1 [])),r (tC c8 (tV 1 [])),r (tV 2 (tP (eB 11) [])),r (tQ (eB 12) (tP (eB 13) [])),r (tC c7 (tV 3 [])),r (tQ (eB 14) (tQ (eB 15) [])),r (tV 3 (tV 0 [])),r (tV 4 (tQ (eB 16) [])),r (tQ (eB 17) (tV 1 [])),r (tQ (eB 18) (tV 2 [])),r (tC c9 (tV 5 []))],(a 1044 0 3 4 16 1),[(1044,q [c7,c9,c8,c37])],1238⟩]

theorem b4_69_1_ok : okAll (callM Tryz.prog mm3 1000 1000 300) 69 b4_69_1 = true := by decide +kernel

/-- batten/term.Names. -/
noncomputable def b4_69_2 : List Memo := [
  ⟨69,[(g (tL (eB 0) []))],[r (t 1 0 c37 (eF 1) z (tL (eB 2) [])),r [i0,j0,j0,j0,j0],r (tP (eB 3) (tL (eB 4) [])),r (tQ (eB 5) (t 1 0 c37 (eF 6) z [])),r (tQ (eB 7) (tL (eB 8) [])),r (tC c7 (tV 0 [])),r [i0,i0,j0,j0,j0],r (tV 0 (tQ (eB 9) [])),r (tP (eB 10) (tL (eB 11) [])),r (tC c8 (tV 1 [])),r (tV 2 (tP (eB 12) [])),r (tV 3 (tL (eB 13) [])),r (tQ (eB 14) (tP (eB 15) [])),r (tQ (eB 16) (tQ (eB 17) [])),r (tC c7 (tV 3 [])),r (tQ (eB 18) (tQ (eB 19) [])),r (tC c7 (tV 4 [])),r (tQ (eB 20) (tQ (eB 21) [])),r (tV 3 (tV 0 [])),r (tV 4 (tQ (eB 22) [])),r (tQ (eB 23) (tV 0 [])),r (tQ (eB 24) (tV 0 [])),r (tQ (eB 25) (tV 1 [])),r (tV 2 (tV 1 [])),r (tQ (eB 26) (tV 2 [])),r (tQ (eB 27) (tV 2 [])),r (tQ (eB 28) (tV 3 [])),r (tC c9 (tV 5 [])),r (tQ (eB 29) (tV 4 [])),r (t 3 0 c10 (eF 30) z (tV 5 [])),r [i0,i0,j0,j0,j0]],(a 1716 0 4 6 16 1),[(1716,q [c7,c9,c8,c10,c37,c37])],2039⟩,
  ⟨69,[(g (tQ (eB 0) []))],[r (tQ (eB 1) (tC c0 [])),r (tC c4 (tC c0 []))],(a 175 0 2 3 16 1),[(175,q [c0,c4,c37])],292⟩,
  ⟨69,[(g (tP (eB 0) []))],[r (tC c0 (tP (eB 1) [])),r (tC c0 (tC c0 []))],(a 175 0 1 3 16 1),[(175,q [c0,c37,c37])],226⟩,
  ⟨69,[(g (tL (eB 0) []))],[r (tC c0 (tL (eB 1) [])),r (tC c0 (tQ (eB 2) [])),r (tQ (eB 3) (tV 0 [])),r (tQ (eB 4) (tL (eB 5) [])),r (tQ (eB 6) (tV 1 [])),r (tC c0 (tL (eB 7) [])),r (t 3 0 c3 (eF 8) z (tL (eB 9) [])),r (tC c0 (tQ (eB 10) [])),r [i0,j0,j0,j0,j0],r (tC c0 (tC c0 [])),r (tC c2 (tV 0 []))],(a 693 0 3 8 16 1),[(693,q [c0,c3,c2,c37,c37,c37,c37,c37])],1027⟩,
  ⟨69,[(g (tQ (eB 0) []))],[r (tC c2 (tC c1 []))],(a 104 0 2 2 16 1),[(104,q [c2,c1])],130⟩,
  ⟨69,[(g (tL (eB 0) []))],[r (tC c0 (tQ (eB 1) [])),r (tQ (eB 2) (tV 0 [])),r (tC c14 (tV 0 []))],(a 196 0 2 2 16 1),[(196,q [c0,c14])],248⟩,
  ⟨69,[(g (tP (eB 0) []))],[r (t 1 0 c37 (eF 1) z (tP (eB 2) [])),r [i0,i0,j0,j0,j0],r (tV 0 (tV 1 []))],z,[],152⟩,
  ⟨69,[(g (tL (eB 0) []))],[r (t 1 0 c37 (eF 1) z (tL (eB 2) [])),r [i0,i0,j0,j0,j0],r (tV 0 (tV 0 []))],z,[],152⟩,
  ⟨69,[(g (tP (eB 0) []))],[r (t 1 0 c37 (eF 1) z (tP (eB 2) [])),r [i0,j0,j0,j0,j0],r (t 1 0 c37 (eF 3) z (tP (eB 4) [])),r [i0,j0,j0,j0,j0],r (tQ (eB 5) (tQ (eB 6) [])),r (tQ (eB 7) (tV 0 [])),r (tQ (eB 8) (tV 2 [])),r (tC c4 (tV 1 [])),r (tC c4 (tV 1 []))],(a 456 0 1 2 16 1),[(456,q [c4,c37])],508⟩,
  ⟨69,[(g (tL (eB 0) []))],[r (t 1 0 c37 (eF 1) z (tL (eB 2) [])),r [i0,j0,j0,j0,j0],r (t 1 0 c37 (eF 3) z (tL (eB 4) [])),r [i0,j0,j0,j0,j0],r (tQ (eB 5) (tQ (eB 6) [])),r (tQ (eB 7) (tV 0 [])),r (tQ (eB 8) (t 8 0 c4 z (eF 9) [])),r (tC c4 (tV 1 [])),r (tQ (eB 10) (t 8 1 c4 z (eF 11) [])),r (tV 0 []),r (tQ (eB 12) (tV 2 [])),r (tV 0 []),r (tC c5 (tV 1 []))],(a 679 0 2 4 16 1),[(679,q [c4,c5,c37,c37])],834⟩,
  ⟨69,[(g (tQ (eB 0) []))],[r (tC c2 (tQ (eB 1) [])),r (tC c2 (tC c1 []))],(a 175 0 2 3 16 1),[(175,q [c2,c1,c37])],226⟩,
  ⟨69,[(g (tP (eB 0) []))],[r (tC c20 (tC c21 []))],(a 104 0 2 2 16 1),[(104,q [c20,c21])],130⟩,
  ⟨69,[(g (tC c20 []))],[],(a 33 0 1 1 16 1),[(33,q [c20])],34⟩]

theorem b4_69_2_ok : okAll (callM Tryz.prog mm3 1000 1000 300) 69 b4_69_2 = true := by decide +kernel

/-- batten/term.Names. -/
noncomputable def b4_69_3 : List Memo := [
  ⟨69,[(g (tP (eB 0) []))],[r (tC c21 (tP (eB 1) [])),r (tC c20 (tC c20 []))],(a 175 0 2 3 16 1),[(175,q [c20,c21,c37])],292⟩,
  ⟨69,[(g (tP (eB 0) []))],[r (tP (eB 1) (tP (eB 2) [])),r (tC c21 (t 1 0 c37 (eF 3) z [])),r (tP (eB 4) (tP (eB 5) [])),r [i0,i0,j0,j0,j0],r (tC c20 (t 1 0 c37 (eF 6) z [])),r (tP (eB 7) (tP (eB 8) [])),r [i0,i0,j0,j0,j0],r (tC c20 (tP (eB 9) [])),r (tQ (eB 10) (tP (eB 11) [])),r (tQ (eB 12) (tQ (eB 13) [])),r (tV 1 (tC c23 [])),r (tP (eB 14) (tP (eB 15) [])),r (tV 1 (tV 0 [])),r (tV 3 (tQ (eB 16) [])),r (tC c21 (tP (eB 17) [])),r (tC c21 (tQ (eB 18) [])),r (tC c22 (tV 1 [])),r (tC c20 (tP (eB 19) [])),r (tV 5 (tV 0 [])),r (tQ (eB 20) (tP (eB 21) [])),r (tV 5 (tV 1 [])),r (tQ (eB 22) (tQ (eB 23) [])),r (tV 5 (tV 1 [])),r (tV 6 (tQ (eB 24) [])),r (tQ (eB 25) (tV 2 [])),r (tC c24 (tV 3 []))],(a 1530 0 5 9 16 1),[(1530,q [c20,c24,c23,c21,c22,c37,c37,c37,c37])],2232⟩,
  ⟨69,[(g (tL (eB 0) []))],[r (tP (eB 1) (tL (eB 2) [])),r (tC c21 (t 1 0 c37 (eF 3) z [])),r (tP (eB 4) (tL (eB 5) [])),r [i0,i0,j0,j0,j0],r (tC c20 (t 1 0 c37 (eF 6) z [])),r (tP (eB 7) (tL (eB 8) [])),r [i0,i0,j0,j0,j0],r (tC c20 (tP (eB 9) [])),r (tQ (eB 10) (tL (eB 11) [])),r (tQ (eB 12) (tQ (eB 13) [])),r (tV 1 (tC c23 [])),r (tP (eB 14) (tL (eB 15) [])),r (tV 1 (tV 0 [])),r (tV 3 (tQ (eB 16) [])),r (tC c21 (tP (eB 17) [])),r (tC c20 (tQ (eB 18) [])),r (tC c22 (tV 1 [])),r (tC c20 (tP (eB 19) [])),r (tQ (eB 20) (tQ (eB 21) [])),r (tQ (eB 22) (tP (eB 23) [])),r (tV 3 (tV 0 [])),r (tQ (eB 24) (tV 0 [])),r (tV 5 (tV 1 [])),r (tQ (eB 25) (tQ (eB 26) [])),r (tQ (eB 27) (tV 1 [])),r (tV 5 (tV 1 [])),r (tV 6 (tQ (eB 28) [])),r (tQ (eB 29) (tV 2 [])),r (tQ (eB 30) (tV 2 [])),r (tQ (eB 31) (tV 3 [])),r (tC c24 (tV 3 [])),r (tQ (eB 32) (tV 4 [])),r (t 3 0 c25 (a 33 0 1 1 40 5) z (tV 5 [])),r [i0,i0,j0,j0,j0]],(a 1928 0 6 10 16 1),[(1928,q [c20,c24,c23,c25,c21,c22,c37,c37,c37,c37])],2925⟩]

theorem b4_69_3_ok : okAll (callM Tryz.prog mm3 1000 1000 300) 69 b4_69_3 = true := by decide +kernel

/-- batten/term.Names. -/
noncomputable def b4_69_4 : List Memo := [
  ⟨69,[(g (tP (eB 0) []))],[r (tP (eB 1) (tP (eB 2) [])),r (tC c21 (t 1 0 c37 (eF 3) z [])),r (tP (eB 4) (tP (eB 5) [])),r [i0,i0,j0,j0,j0],r (tC c20 (t 1 0 c37 (eF 6) z [])),r (tP (eB 7) (tP (eB 8) [])),r [i0,i0,j0,j0,j0],r (tC c20 (tP (eB 9) [])),r (tQ (eB 10) (tP (eB 11) [])),r (tQ (eB 12) (tQ (eB 13) [])),r (tV 1 (tC c23 [])),r (tP (eB 14) (tP (eB 15) [])),r (tV 1 (tV 0 [])),r (tV 3 (tQ (eB 16) [])),r (tC c21 (tP (eB 17) [])),r (tC c20 (tQ (eB 18) [])),r (tC c22 (tV 1 [])),r (tC c20 (tP (eB 19) [])),r (tV 4 (tV 0 [])),r (tQ (eB 20) (tP (eB 21) [])),r (tV 5 (tV 1 [])),r (tQ (eB 22) (tQ (eB 23) [])),r (tV 5 (tV 1 [])),r (tV 6 (tQ (eB 24) [])),r (tQ (eB 25) (tV 2 [])),r (tC c24 (tV 3 []))],(a 1530 0 5 9 16 1),[(1530,q [c20,c24,c23,c21,c22,c37,c37,c37,c37])],2364⟩,
  ⟨69,[(g (tL (eB 0) []))],[r (tP (eB 1) (tL (eB 2) [])),r (tC c21 (t 1 0 c37 (eF 3) z [])),r (tP (eB 4) (tL (eB 5) [])),r [i0,i0,j0,j0,j0],r (tC c20 (t 1 0 c37 (eF 6) z [])),r (tP (eB 7) (tL (eB 8) [])),r [i0,i0,j0,j0,j0],r (tC c20 (tP (eB 9) [])),r (tQ (eB 10) (tL (eB 11) [])),r (tQ (eB 12) (tQ (eB 13) [])),r (tV 1 (tC c23 [])),r (tP (eB 14) (tV 1 [])),r (tV 1 (tV 0 [])),r (tV 3 (tQ (eB 15) [])),r (tC c21 (tP (eB 16) [])),r (tC c22 (tV 1 [])),r (tC c20 (tP (eB 17) [])),r (tQ (eB 18) (tP (eB 19) [])),r (tV 5 (tV 1 [])),r (tQ (eB 20) (tQ (eB 21) [])),r (tV 5 (tV 1 [])),r (tV 6 (tQ (eB 22) [])),r (tQ (eB 23) (tV 2 [])),r (tC c24 (tV 3 []))],(a 1400 0 5 8 16 1),[(1400,q [c20,c24,c23,c21,c22,c37,c37,c37])],2044⟩]

theorem b4_69_4_ok : okAll (callM Tryz.prog mm3 1000 1000 300) 69 b4_69_4 = true := by decide +kernel

end Go.Proofs.YtlkpolcojgoafaaGreat
