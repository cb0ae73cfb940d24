/- Runs of functions in small memories (printed by a program), level 4. -/
import Derived.Test.YtlkpolcojgoafaaGreatM3
import Derived.Test.YtlkpolcojgoafaaGreatStr
set_option linter.unusedVariables false
set_option linter.unusedSimpArgs false
set_option linter.unusedSectionVars false
set_option maxRecDepth 100000
namespace Go.Proofs.YtlkpolcojgoafaaGreat
open Go Go.Proofs.Bx Go.Proofs.Bx.Sh

/-- batten/term.Names. -/
noncomputable def b4_69_5 : List Memo := [
  ⟨69,[(g (tL (eB 0) []))],[r (tP (eB 1) (tL (eB 2) [])),r (tC c21 (t 1 0 c37 (eF 3) z [])),r (tP (eB 4) (tL (eB 5) [])),r [i0,i0,j0,j0,j0],r (tC c20 (t 1 0 c37 (eF 6) z [])),r (tP (eB 7) (tL (eB 8) [])),r [i0,i0,j0,j0,j0],r (tC c20 (tP (eB 9) [])),r (tQ (eB 10) (tL (eB 11) [])),r (tQ (eB 12) (tQ (eB 13) [])),r (tV 1 (tC c23 [])),r (tP (eB 14) (tL (eB 15) [])),r (tV 1 (tV 0 [])),r (tV 3 (tQ (eB 16) [])),r (tC c21 (tP (eB 17) [])),r (tC c21 (tL (eB 18) [])),r (tC c22 (tV 1 [])),r (tC c20 (tP (eB 19) [])),r (tC c20 (tQ (eB 20) [])),r (tQ (eB 21) (tP (eB 22) [])),r (tQ (eB 23) (tQ (eB 24) [])),r (tV 5 (tV 1 [])),r (tQ (eB 25) (tQ (eB 26) [])),r (tQ (eB 27) (tQ (eB 28) [])),r (tQ (eB 29) (tV 0 [])),r (tV 5 (tV 1 [])),r (tV 6 (tQ (eB 30) [])),r (tQ (eB 31) (tV 0 [])),r (tQ (eB 32) (tV 1 [])),r (tQ (eB 33) (tV 2 [])),r (tQ (eB 34) (tV 2 [])),r (tV 2 (tV 1 [])),r (tQ (eB 35) (tV 2 [])),r (tQ (eB 36) (tV 3 [])),r (tC c24 (tV 3 [])),r (tQ (eB 37) (tV 3 [])),r (tQ (eB 38) (tV 4 [])),r (tQ (eB 39) (tV 4 [])),r (tQ (eB 40) (tV 5 [])),r (tQ (eB 41) (tV 5 [])),r (t 3 0 c25 (a 42 0 1 1 40 5) z (tV 6 [])),r (t 3 0 c26 (a 43 0 1 1 40 5) z (tV 6 [])),r [i0,i0,j0,j0,j0],r [i0,i0,j0,j0,j0]],(a 2495 0 7 12 16 1),[(2495,q [c20,c24,c23,c25,c21,c22,c26,c37,c37,c37,c37,c37])],3674⟩,
  ⟨69,[(g (tL (eB 0) []))],[r (tP (eB 1) (tL (eB 2) [])),r (tC c0 (t 1 0 c37 (eF 3) z [])),r (tQ (eB 4) (tL (eB 5) [])),r [i0,i0,j0,j0,j0],r (tV 0 (tC c1 [])),r (tP (eB 6) (tL (eB 7) [])),r (tC c0 (tP (eB 8) [])),r (tC c0 (tQ (eB 9) [])),r (tQ (eB 10) (tQ (eB 11) [])),r (tQ (eB 12) (tQ (eB 13) [])),r (tV 2 (tV 0 [])),r (tV 3 (tQ (eB 14) [])),r (tV 1 (tV 0 [])),r (tQ (eB 15) (tV 0 [])),r (tC c2 (tV 1 [])),r (tQ (eB 16) (tV 1 [])),r (tQ (eB 17) (tV 2 [])),r (t 3 0 c3 (a 18 0 1 1 40 5) z (tV 3 [])),r [i0,i0,j0,j0,j0]],(a 1068 0 4 6 16 1),[(1068,q [c0,c3,c2,c1,c37,c37])],1444⟩,
  ⟨69,[(g (tP (eB 0) []))],[r (t 1 0 c37 (eF 1) z (tP (eB 2) [])),r [i0,j0,j0,j0,j0],r (t 1 0 c37 (eF 1) z (t 1 0 c37 (eF 1) z []))],z,[],174⟩,
  ⟨69,[(g (tP (eB 0) []))],[r (t 1 0 c37 (eF 1) z (tP (eB 2) [])),r [i0,j0,j0,j0,j0],r (t 1 0 c37 (eF 1) z (tP (eB 3) [])),r (tV 1 (tP (eB 4) [])),r (tV 1 (tQ (eB 5) [])),r (tQ (eB 6) (tV 2 [])),r (tC c4 (tV 3 []))],(a 384 0 1 1 16 1),[(384,q [c4])],411⟩]

theorem b4_69_5_ok : okAll (callM Tryz.prog mm3 1000 1000 300) 69 b4_69_5 = true := by decide +kernel

/-- batten/term.Names. -/
noncomputable def b4_69_6 : List Memo := [
  ⟨69,[(g (tP (eB 0) []))],[r (t 1 0 c37 (eF 1) z (tP (eB 2) [])),r [i0,j0,j0,j0,j0],r (t 1 0 c37 (eF 1) z (tP (eB 3) [])),r (tP (eB 4) (tP (eB 5) [])),r (tQ (eB 6) (t 1 0 c37 (eF 7) z [])),r (tP (eB 8) (tP (eB 9) [])),r (tQ (eB 10) (tV 0 [])),r [i0,i0,j0,j0,j0],r (tV 2 (tP (eB 11) [])),r (tQ (eB 12) (tQ (eB 13) [])),r (tC c4 (tV 1 [])),r (tV 2 (tQ (eB 14) [])),r (tQ (eB 15) (tV 2 [])),r (tV 2 (tV 0 [])),r (tV 2 (tQ (eB 16) [])),r (tC c4 (tV 3 [])),r (tQ (eB 17) (tV 0 [])),r (tQ (eB 18) (tV 1 [])),r (tQ (eB 19) (tV 3 [])),r (tC c5 (tV 4 []))],(a 1089 0 2 3 16 1),[(1089,q [c4,c5,c37])],1238⟩,
  ⟨69,[(g (tL (eB 0) []))],[r (t 1 0 c37 (eF 1) z (tL (eB 2) [])),r [i0,j0,j0,j0,j0],r (t 1 0 c37 (eF 1) z (tL (eB 3) [])),r (tP (eB 4) (tL (eB 5) [])),r (tQ (eB 6) (t 1 0 c37 (eF 7) z [])),r (tP (eB 8) (tL (eB 9) [])),r (tQ (eB 10) (tV 0 [])),r [i0,i0,j0,j0,j0],r (tV 2 (tP (eB 11) [])),r (tQ (eB 12) (tQ (eB 13) [])),r (tC c4 (tV 1 [])),r (tV 2 (tQ (eB 14) [])),r (tQ (eB 15) (tV 2 [])),r (tQ (eB 16) (t 8 1 c4 z (eF 17) [])),r (tV 2 (tQ (eB 18) [])),r (tC c4 (tV 3 [])),r (tV 1 (t 8 0 c4 z (eF 19) [])),r (tV 0 []),r (tQ (eB 20) (tV 0 [])),r (tV 0 []),r (tQ (eB 21) (tV 1 [])),r (tQ (eB 22) (tV 3 [])),r (tC c5 (tV 4 []))],(a 1292 0 2 5 16 1),[(1292,q [c4,c5,c37,c37,c37])],1505⟩,
  ⟨69,[(g (tP (eB 0) []))],[r (t 1 0 c37 (eF 1) z (t 1 0 c37 (eF 1) z [])),r [i0,j0,j0,j0,j0]],z,[],104⟩,
  ⟨69,[(g (tP (eB 0) []))],[r (t 1 0 c37 (eF 1) z (tP (eB 2) [])),r [i0,j0,j0,j0,j0],r (tP (eB 3) (tP (eB 4) [])),r (tQ (eB 5) (t 1 0 c37 (eF 6) z [])),r (tQ (eB 7) (tP (eB 8) [])),r (tC c7 (tV 0 [])),r [i0,i0,j0,j0,j0],r (tV 0 (tQ (eB 9) [])),r (tP (eB 10) (tP (eB 11) [])),r (tC c8 (tV 1 [])),r (tV 2 (tP (eB 12) [])),r (tQ (eB 13) (tQ (eB 14) [])),r (tQ (aA 15) (tP (eB 16) [])),r (tC c7 (tV 3 [])),r (tV 3 (tV 0 [])),r (tC c7 (tV 3 [])),r (tQ (eB 17) (tQ (eB 18) [])),r (tV 3 (tV 0 [])),r (tV 4 (tQ (eB 19) [])),r (tQ (eB 20) (tV 1 [])),r (tQ (eB 21) (tV 2 [])),r (tC c9 (tV 5 []))],(a 1233 0 3 5 16 1),[(1233,q [c7,c9,c8,c37,c37])],1518⟩,
  ⟨69,[(g (tL (eB 0) []))],[r (t 1 0 c37 (eF 1) z (tL (eB 2) [])),r [i0,j0,j0,j0,j0],r (tP (eB 3) (tL (eB 4) [])),r (tQ (eB 5) (t 1 0 c37 (eF 6) z [])),r (tQ (eB 7) (tL (eB 8) [])),r (tC c7 (tV 0 [])),r [i0,i0,j0,j0,j0],r (tV 0 (tQ (eB 9) [])),r (tP (eB 10) (tV 1 [])),r (tC c8 (tV 1 [])),r (tV 2 (tP (eB 11) [])),r (tQ (aA 12) (tP (eB 13) [])),r (tC c7 (tV 3 [])),r (tQ (eB 14) (tQ (eB 15) [])),r (tV 3 (tV 0 [])),r (tV 4 (tQ (eB 16) [])),r (tQ (eB 17) (tV 1 [])),r (tQ (eB 18) (tV 2 [])),r (tC c9 (tV 5 []))],(a 1044 0 3 4 16 1),[(1044,q [c7,c9,c8,c37])],1238⟩]

theorem b4_69_6_ok : okAll (callM Tryz.prog mm3 1000 1000 300) 69 b4_69_6 = true := by decide +kernel

/-- batten/term.Names. -/
noncomputable def b4_69_7 : List Memo := [
  ⟨69,[(g (tL (eB 0) []))],[r (t 1 0 c37 (eF 1) z (tL (eB 2) [])),r [i0,j0,j0,j0,j0],r (tP (eB 3) (tL (eB 4) [])),r (tQ (eB 5) (t 1 0 c37 (eF 6) z [])),r (tQ (eB 7) (tL (eB 8) [])),r (tC c7 (tV 0 [])),r [i0,i0,j0,j0,j0],r (tV 0 (tQ (eB 9) [])),r (tP (eB 10) (tL (eB 11) [])),r (tC c8 (tV 1 [])),r (tV 2 (tP (eB 12) [])),r (tV 3 (tL (eB 13) [])),r (tQ (aA 14) (tP (eB 15) [])),r (tQ (aA 16) (tQ (eB 17) [])),r (tC c7 (tV 3 [])),r (tQ (eB 18) (tQ (eB 19) [])),r (tC c7 (tV 4 [])),r (tQ (eB 20) (tQ (eB 21) [])),r (tV 3 (tV 0 [])),r (tV 4 (tQ (eB 22) [])),r (tQ (eB 23) (tV 0 [])),r (tQ (eB 24) (tV 0 [])),r (tQ (eB 25) (tV 1 [])),r (tV 2 (tV 1 [])),r (tQ (eB 26) (tV 2 [])),r (tQ (eB 27) (tV 2 [])),r (tQ (eB 28) (tV 3 [])),r (tC c9 (tV 5 [])),r (tQ (eB 29) (tV 4 [])),r (t 3 0 c10 (a 30 0 1 1 40 5) z (tV 5 [])),r [i0,i0,j0,j0,j0]],(a 1716 0 4 6 16 1),[(1716,q [c7,c9,c8,c10,c37,c37])],2039⟩,
  ⟨69,[(g (tP (eB 0) []))],[r (t 1 0 c37 (eF 1) z (tP (eB 2) [])),r [i0,j0,j0,j0,j0],r (tC c0 (t 1 0 c37 (eF 1) z []))],(a 161 0 1 1 16 1),[(161,q [c0])],175⟩,
  ⟨69,[(g (tP (eB 0) []))],[r (t 1 0 c37 (eF 1) z (tQ (eB 2) [])),r [i0,j0,j0,j0,j0],r (tQ (eB 3) (tC c1 [])),r (tC c29 (tV 0 []))],(a 234 0 2 2 16 1),[(234,q [c1,c29])],293⟩,
  ⟨69,[(g (tP (eB 0) []))],[r (t 1 0 c37 (eF 1) z (tP (eB 2) [])),r [i0,j0,j0,j0,j0],r (tV 0 (tP (eB 3) [])),r (tC c0 (tP (eB 4) [])),r (tQ (eB 5) (tQ (eB 6) [])),r (tQ (eB 7) (tV 0 [])),r (tQ (eB 8) (tQ (eB 9) [])),r (tC c29 (tV 2 [])),r (tC c29 (tV 3 [])),r (tC c2 (tV 1 []))],(a 599 0 3 4 16 1),[(599,q [c0,c2,c29,c37])],754⟩,
  ⟨69,[(g (tP (eB 0) []))],[r (t 1 0 c37 (eF 1) z (tP (eB 2) [])),r [i0,j0,j0,j0,j0],r (tP (eB 3) (tP (eB 4) [])),r (tC c0 (tP (eB 5) [])),r (tQ (eB 6) (tP (eB 7) [])),r (tQ (eB 8) (t 1 0 c37 (eF 9) z [])),r (tQ (eB 10) (tQ (eB 11) [])),r (tP (eB 12) (tP (eB 13) [])),r (tQ (eB 14) (tV 0 [])),r [i0,i0,j0,j0,j0],r (tV 0 (tC c1 [])),r (tC c30 (tV 1 [])),r (tV 2 (tP (eB 15) [])),r (tC c0 (tP (eB 16) [])),r (tC c29 (tV 1 [])),r (tC c0 (tP (eB 17) [])),r (tQ (eB 18) (tQ (eB 19) [])),r (tQ (aA 20) (tP (eB 21) [])),r (tQ (eB 22) (tV 0 [])),r (tQ (eB 23) (tV 0 [])),r (tQ (aA 24) (tV 0 [])),r (tQ (eB 25) (tQ (eB 26) [])),r (tC c29 (tV 4 [])),r (tV 4 (tV 1 [])),r (tC c29 (tV 4 [])),r (tQ (eB 27) (tV 0 [])),r (tQ (eB 28) (tQ (eB 29) [])),r (tV 4 (tV 1 [])),r (tV 5 (tQ (aA 30) [])),r (tQ (eB 31) (tV 1 [])),r (tC c2 (tV 2 [])),r (tQ (eB 32) (tV 2 [])),r (tQ (eB 33) (tV 3 [])),r (tC c31 (tV 6 []))],(a 1962 0 6 10 16 1),[(1962,q [c0,c2,c1,c29,c31,c30,c37,c37,c37,c37])],2873⟩]

theorem b4_69_7_ok : okAll (callM Tryz.prog mm3 1000 1000 300) 69 b4_69_7 = true := by decide +kernel

/-- batten/term.Names. -/
noncomputable def b4_69_8 : List Memo := [
  ⟨69,[(g (tL (eB 0) []))],[r (t 1 0 c37 (eF 1) z (tL (eB 2) [])),r [i0,j0,j0,j0,j0],r (tP (eB 3) (tL (eB 4) [])),r (tC c0 (tP (eB 5) [])),r (tQ (eB 6) (tL (eB 7) [])),r (tQ (eB 8) (t 1 0 c37 (eF 9) z [])),r (tQ (eB 10) (tQ (eB 11) [])),r (tP (eB 12) (tV 1 [])),r (tQ (eB 13) (tV 0 [])),r [i0,i0,j0,j0,j0],r (tV 0 (tC c1 [])),r (tC c30 (tV 1 [])),r (tV 2 (tP (eB 14) [])),r (tC c29 (tV 1 [])),r (tC c0 (tP (eB 15) [])),r (tQ (aA 16) (tP (eB 17) [])),r (tQ (aA 18) (tV 0 [])),r (tQ (eB 19) (tQ (eB 20) [])),r (tC c29 (tV 4 [])),r (tQ (eB 21) (tV 0 [])),r (tQ (eB 22) (tQ (eB 23) [])),r (tV 4 (tV 1 [])),r (tV 5 (tQ (aA 24) [])),r (tQ (eB 25) (tV 1 [])),r (tC c2 (tV 2 [])),r (tQ (eB 26) (tV 2 [])),r (tQ (eB 27) (tV 3 [])),r (tC c31 (tV 6 []))],(a 1610 0 6 8 16 1),[(1610,q [c0,c2,c1,c29,c31,c30,c37,c37])],2181⟩,
  ⟨69,[(g (tL (eB 0) []))],[r (t 1 0 c37 (eF 1) z (tL (eB 2) [])),r [i0,j0,j0,j0,j0],r (tP (eB 3) (tL (eB 4) [])),r (tC c0 (tP (eB 5) [])),r (tQ (eB 6) (tL (eB 7) [])),r (tQ (eB 8) (t 1 0 c37 (eF 9) z [])),r (tQ (eB 10) (tQ (eB 11) [])),r (tP (eB 12) (tL (eB 13) [])),r (tQ (eB 14) (tV 0 [])),r [i0,i0,j0,j0,j0],r (tV 0 (tC c1 [])),r (tC c30 (tV 1 [])),r (tV 2 (tP (eB 15) [])),r (tV 3 (tL (eB 16) [])),r (tC c29 (tV 1 [])),r (tC c0 (tP (eB 17) [])),r (tC c0 (tL (eB 18) [])),r (tQ (aA 19) (tP (eB 20) [])),r (tQ (aA 21) (tQ (eB 22) [])),r (tQ (aA 23) (tV 0 [])),r (tQ (eB 24) (tQ (eB 25) [])),r (tQ (aA 26) (tV 0 [])),r (tQ (eB 27) (tQ (eB 28) [])),r (tC c29 (tV 4 [])),r (tQ (eB 29) (tV 0 [])),r (tQ (eB 30) (tQ (eB 31) [])),r (tC c29 (tV 5 [])),r (tQ (eB 32) (tV 0 [])),r (tQ (eB 33) (tV 0 [])),r (tV 4 (tV 1 [])),r (tV 5 (tQ (aA 34) [])),r (tQ (eB 35) (tV 1 [])),r (tQ (eB 36) (tV 1 [])),r (tQ (eB 37) (tV 1 [])),r (tC c2 (tV 2 [])),r (tQ (eB 38) (tV 2 [])),r (tV 3 (tV 2 [])),r (tQ (eB 39) (tV 3 [])),r (tQ (eB 40) (tV 3 [])),r (tQ (eB 41) (tV 4 [])),r (tC c31 (tV 6 [])),r (tQ (eB 42) (tV 5 [])),r (t 3 0 c32 (a 43 0 1 1 40 5) z (tV 6 [])),r [i0,i0,j0,j0,j0]],(a 2530 0 7 11 16 1),[(2530,q [c0,c2,c1,c29,c31,c30,c32,c37,c37,c37,c37])],3453⟩,
  ⟨69,[(g (tC c33 []))],[],(a 33 0 1 1 16 1),[(33,q [c33])],34⟩,
  ⟨69,[(g (tP (eB 0) []))],[r (tP (eB 1) (tC c33 [])),r (tC c0 (tC c33 []))],(a 175 0 2 3 16 1),[(175,q [c0,c33,c37])],226⟩]

theorem b4_69_8_ok : okAll (callM Tryz.prog mm3 1000 1000 300) 69 b4_69_8 = true := by decide +kernel

/-- batten/term.Names. -/
noncomputable def b4_69_9 : List Memo := [
  ⟨69,[(g (tP (eB 0) []))],[r (tP (eB 1) (tP (eB 2) [])),r (tC c33 (t 1 0 c37 (eF 3) z [])),r (tQ (eB 4) (tP (eB 5) [])),r [i0,i0,j0,j0,j0],r (tV 0 (tC c34 [])),r (tP (eB 6) (tP (eB 7) [])),r (tP (aA 8) (tP (eB 9) [])),r (tC c33 (tQ (eB 10) [])),r (tC c0 (tC c33 [])),r (tP (eB 11) (tQ (eB 12) [])),r (tV 3 (tV 0 [])),r (tC c0 (tQ (eB 13) [])),r (tV 3 (tQ (eB 14) [])),r (tV 3 (tQ (eB 15) [])),r (tC c35 (tV 1 [])),r (tV 1 (tV 0 []))],(a 963 0 4 7 16 1),[(963,q [c0,c33,c35,c34,c37,c37,c37])],1450⟩,
  ⟨69,[(g (tL (eB 0) []))],[r (tP (eB 1) (tL (eB 2) [])),r (tC c33 (t 1 0 c37 (eF 3) z [])),r (tQ (eB 4) (tL (eB 5) [])),r [i0,i0,j0,j0,j0],r (tV 0 (tC c34 [])),r (tP (eB 6) (tV 1 [])),r (tP (aA 7) (tP (eB 8) [])),r (tC c0 (tC c33 [])),r (tP (eB 9) (tQ (eB 10) [])),r (tC c0 (tQ (eB 11) [])),r (tV 3 (tQ (eB 12) [])),r (tV 3 (tQ (eB 13) [])),r (tC c35 (tV 1 [])),r (tV 1 (tV 0 []))],(a 846 0 4 6 16 1),[(846,q [c0,c33,c35,c34,c37,c37])],1229⟩,
  ⟨69,[(g (tL (eB 0) []))],[r (tP (eB 1) (tL (eB 2) [])),r (tC c33 (t 1 0 c37 (eF 3) z [])),r (tQ (eB 4) (tL (eB 5) [])),r [i0,i0,j0,j0,j0],r (tV 0 (tC c34 [])),r (tP (eB 6) (tL (eB 7) [])),r (tP (aA 8) (tP (eB 9) [])),r (tP (aA 10) (tQ (eB 11) [])),r (tC c0 (tC c33 [])),r (tP (eB 12) (tQ (eB 13) [])),r (tC c0 (tC c33 [])),r (tQ (eB 14) (tL (eB 15) [])),r (tC c0 (tQ (eB 16) [])),r (tV 3 (tQ (eB 17) [])),r (tV 1 (tV 0 [])),r (tC c0 (tQ (eB 18) [])),r (tV 3 (tQ (eB 19) [])),r (tC c35 (tV 1 [])),r (tQ (eB 20) (tQ (eB 21) [])),r (tV 1 (tV 0 [])),r (tQ (eB 22) (tV 2 [])),r (tV 1 (tV 0 [])),r (tQ (eB 23) (tV 3 [])),r (t 3 0 c36 (a 24 0 1 1 40 5) z (tV 4 [])),r [i0,i0,j0,j0,j0]],(a 1444 0 5 10 16 1),[(1444,q [c0,c33,c35,c36,c34,c37,c37,c37,c37,c37])],2375⟩]

theorem b4_69_9_ok : okAll (callM Tryz.prog mm3 1000 1000 300) 69 b4_69_9 = true := by decide +kernel

/-- batten/term.Free. -/
noncomputable def b4_86_0 : List Memo := [
  ⟨86,[(g (t 1 0 c37 (eF 0) z []))],[r [i0,j0,j0,j0,j0]],i0,[],34⟩,
  ⟨86,[(g (tP (eB 0) []))],[r (tC c20 (tC c21 []))],i0,[],101⟩,
  ⟨86,[(g (tC c20 []))],[],i0,[],32⟩,
  ⟨86,[(g (tP (eB 0) []))],[r (tC c21 (tP (eB 1) [])),r (tC c20 (tC c20 []))],i0,[],170⟩,
  ⟨86,[(g (tC c0 []))],[],i0,[],32⟩,
  ⟨86,[(g (tP (eB 0) []))],[r (tC c0 (tC c0 []))],i0,[],101⟩,
  ⟨86,[(g (tP (eB 0) []))],[r (t 1 0 c37 (eF 1) z (tP (eB 2) [])),r [i0,j0,j0,j0,j0],r (t 1 0 c37 (eF 1) z (t 1 0 c37 (eF 1) z []))],i0,[],174⟩,
  ⟨86,[(g (tP (eB 0) []))],[r (t 1 0 c37 (eF 1) z (tP (eB 2) [])),r [i0,j0,j0,j0,j0],r (t 1 0 c37 (eF 1) z (tP (eB 3) [])),r (tV 1 (tP (eB 4) [])),r (tV 1 (tQ (eB 5) [])),r (tQ (eB 6) (tV 2 [])),r (tC c4 (tV 3 []))],i0,[],409⟩,
  ⟨86,[(g (tP (eB 0) []))],[r (t 1 0 c37 (eF 1) z (t 1 0 c37 (eF 1) z [])),r [i0,j0,j0,j0,j0]],i0,[],104⟩,
  ⟨86,[(g (tP (eB 0) []))],[r (t 1 0 c37 (eF 1) z (tQ (eB 2) [])),r [i0,j0,j0,j0,j0],r (tC c7 (tV 0 []))],i0,[],162⟩,
  ⟨86,[(g (tP (eB 0) []))],[r (t 1 0 c37 (eF 1) z (tP (eB 2) [])),r [i0,j0,j0,j0,j0],r (tV 0 (tP (eB 3) [])),r (tQ (eB 4) (tQ (eB 5) [])),r (tC c7 (tV 1 [])),r (tC c7 (tV 2 []))],i0,[],349⟩,
  ⟨86,[(g (tP (eB 0) []))],[r (t 1 0 c37 (eF 1) z (tC c27 [])),r [i0,j0,j0,j0,j0]],i0,[],103⟩,
  ⟨86,[(g (tP (eB 0) []))],[r (t 1 0 c37 (eF 1) z (tP (eB 2) [])),r [i0,j0,j0,j0,j0],r (tC c0 (t 1 0 c37 (eF 1) z []))],i0,[],173⟩,
  ⟨86,[(g (tP (eB 0) []))],[r (t 1 0 c37 (eF 1) z (tQ (eB 2) [])),r [i0,j0,j0,j0,j0],r (tQ (eB 3) (tC c1 [])),r (tC c29 (tV 0 []))],i0,[],231⟩,
  ⟨86,[(g (tP (eB 0) []))],[r (t 1 0 c37 (eF 1) z (tP (eB 2) [])),r [i0,j0,j0,j0,j0],r (tV 0 (tP (eB 3) [])),r (tC c0 (tP (eB 4) [])),r (tQ (eB 5) (tQ (eB 6) [])),r (tQ (eB 7) (tV 0 [])),r (tQ (eB 8) (tQ (eB 9) [])),r (tC c29 (tV 2 [])),r (tC c29 (tV 3 [])),r (tC c2 (tV 1 []))],i0,[],605⟩,
  ⟨86,[(g (tC c33 []))],[],i0,[],32⟩,
  ⟨86,[(g (tP (eB 0) []))],[r (tP (eB 1) (tC c33 [])),r (tC c0 (tC c33 []))],i0,[],170⟩]

theorem b4_86_0_ok : okAll (callM Tryz.prog mm3 1000 1000 300) 86 b4_86_0 = true := by decide +kernel

/-- batten/term.Size. -/
noncomputable def b4_341_0 : List Memo := [
  ⟨341,[(g (tV 3 []))],[],i1,[],22⟩,
  ⟨341,[(g (tP (aA 0) []))],[r (t 1 0 c37 (a 1 0 1 1 40 5) z (t 1 0 c37 (a 2 0 1 1 40 5) z [])),r [i0,j0,j0,j0,j0],r [i0,j0,j0,j0,j0]],(i 3),[],105⟩,
  ⟨341,[(g (tV 2 []))],[],i1,[],22⟩,
  ⟨341,[(g (t 1 0 c37 (a 0 0 1 1 40 5) z []))],[r [i0,j0,j0,j0,j0]],i1,[],34⟩,
  ⟨341,[(g (tV 0 []))],[],i1,[],22⟩,
  ⟨341,[(g (tV 1 []))],[],i1,[],22⟩,
  ⟨341,[(g (tP (aA 0) []))],[r (tC c0 (t 1 0 c37 (a 1 0 1 1 40 5) z [])),r [i0,j0,j0,j0,j0]],(i 3),[],103⟩,
  ⟨341,[(g (tC c1 []))],[],i1,[],32⟩,
  ⟨341,[(g (tC c0 []))],[],i1,[],32⟩,
  ⟨341,[(g (tQ (eB 0) []))],[r (tC c2 (tV 1 []))],(i 3),[],91⟩]

theorem b4_341_0_ok : okAll (callM Tryz.prog mm3 1000 1000 300) 341 b4_341_0 = true := by decide +kernel

end Go.Proofs.YtlkpolcojgoafaaGreat
