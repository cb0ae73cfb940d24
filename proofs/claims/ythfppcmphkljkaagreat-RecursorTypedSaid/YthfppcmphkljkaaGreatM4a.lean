/- Runs of functions in small memories (printed by a program), level 4. -/
import Derived.Test.YthfppcmphkljkaaGreatM3
import Derived.Test.YthfppcmphkljkaaGreatStr
set_option linter.unusedVariables false
set_option linter.unusedSimpArgs false
set_option linter.unusedSectionVars false
set_option maxRecDepth 100000
namespace Go.Proofs.YthfppcmphkljkaaGreat
open Go Go.Proofs.Bx Go.Proofs.Bx.Sh

/-- batten/env.closed. -/
noncomputable def b4_116_0 : List Memo := [
  ⟨116,[(g (t 1 0 c35 (eF 0) z [])),i0],[r [i0,j0,j0,j0,j0]],i0,[],67⟩,
  ⟨116,[(g (tC c0 [])),i0],[],i0,[],63⟩,
  ⟨116,[(g (tP (eB 0) [])),i0],[r (tC c0 (tC c0 []))],i0,[],180⟩,
  ⟨116,[(g (tP (eB 0) [])),i1],[r (tP (eB 1) (tP (eB 2) [])),r (tC c0 (t 1 0 c35 (eF 3) z [])),r (tQ (eB 4) (tP (eB 5) [])),r [i0,i0,j0,j0,j0],r (tV 0 (tC c1 [])),r (tP (eB 6) (tP (eB 7) [])),r (tC c0 (tP (eB 8) [])),r (tC c0 (tQ (eB 9) [])),r (tQ (eB 10) (tQ (eB 11) [])),r (tV 3 (tV 0 [])),r (tV 2 (tV 0 [])),r (tV 3 (tQ (eB 12) [])),r (tC c2 (tV 1 []))],i0,[],1331⟩,
  ⟨116,[(g (tL (eB 0) [])),i1],[r (tP (eB 1) (tL (eB 2) [])),r (tC c0 (t 1 0 c35 (eF 3) z [])),r (tQ (eB 4) (tL (eB 5) [])),r [i0,i0,j0,j0,j0],r (tV 0 (tC c1 [])),r (tP (eB 6) (tV 1 [])),r (tC c0 (tP (eB 7) [])),r (tQ (eB 8) (tQ (eB 9) [])),r (tV 2 (tV 0 [])),r (tV 3 (tQ (eB 10) [])),r (tC c2 (tV 1 []))],i0,[],1117⟩,
  ⟨116,[(g (tL (eB 0) [])),i1],[r (tP (eB 1) (tL (eB 2) [])),r (tC c0 (t 1 0 c35 (eF 3) z [])),r (tQ (eB 4) (tL (eB 5) [])),r [i0,i0,j0,j0,j0],r (tV 0 (tC c1 [])),r (tP (eB 6) (tL (eB 7) [])),r (tC c0 (tP (eB 8) [])),r (tC c0 (tQ (eB 9) [])),r (tQ (eB 10) (tQ (eB 11) [])),r (tQ (eB 12) (tQ (eB 13) [])),r (tV 2 (tV 0 [])),r (tV 3 (tQ (eB 14) [])),r (tV 1 (tV 0 [])),r (tQ (eB 15) (tV 0 [])),r (tC c2 (tV 1 [])),r (tQ (eB 16) (tV 1 [])),r (tQ (eB 17) (tV 2 [])),r (t 3 0 c3 (eF 18) z (tV 3 [])),r [i0,i0,j0,j0,j0]],i0,[],1860⟩,
  ⟨116,[(g (tP (eB 0) [])),i0],[r (t 1 0 c35 (eF 1) z (tP (eB 2) [])),r [i0,j0,j0,j0,j0],r (t 1 0 c35 (eF 3) z (t 1 0 c35 (eF 4) z [])),r [i0,j0,j0,j0,j0],r [i0,j0,j0,j0,j0]],i0,[],309⟩]

theorem b4_116_0_ok : okAll (callM Tryz.prog mm3 1000 1000 300) 116 b4_116_0 = true := by decide +kernel

/-- batten/env.closed. -/
noncomputable def b4_116_1 : List Memo := [
  ⟨116,[(g (tP (eB 0) [])),i0],[r (t 1 0 c35 (eF 1) z (tP (eB 2) [])),r [i0,j0,j0,j0,j0],r (t 1 0 c35 (eF 3) z (tP (eB 4) [])),r [i0,j0,j0,j0,j0],r (tV 1 (tP (eB 5) [])),r (tV 1 (tQ (eB 6) [])),r (tQ (eB 7) (tV 2 [])),r (tC c4 (tV 3 []))],i0,[],693⟩,
  ⟨116,[(g (tP (eB 0) [])),i1],[r (t 1 0 c35 (eF 1) z (tP (eB 2) [])),r [i0,j0,j0,j0,j0],r (t 1 0 c35 (eF 3) z (tP (eB 4) [])),r [i0,j0,j0,j0,j0],r (tP (eB 5) (tP (eB 6) [])),r (tQ (eB 7) (t 1 0 c35 (eF 8) z [])),r (tP (eB 9) (tP (eB 10) [])),r (tQ (eB 11) (tV 0 [])),r [i0,i0,j0,j0,j0],r (tV 2 (tP (eB 12) [])),r (tQ (eB 13) (tQ (eB 14) [])),r (tC c4 (tV 1 [])),r (tV 2 (tQ (eB 15) [])),r (tQ (eB 16) (tV 2 [])),r (tV 2 (tV 0 [])),r (tV 2 (tQ (eB 17) [])),r (tC c4 (tV 3 [])),r (tQ (eB 18) (tV 0 [])),r (tQ (eB 19) (tV 1 [])),r (tQ (eB 20) (tV 3 [])),r (tC c5 (tV 4 []))],i0,[],1921⟩,
  ⟨116,[(g (tL (eB 0) [])),i1],[r (t 1 0 c35 (eF 1) z (tL (eB 2) [])),r [i0,j0,j0,j0,j0],r (t 1 0 c35 (eF 3) z (tL (eB 4) [])),r [i0,j0,j0,j0,j0],r (tP (eB 5) (tL (eB 6) [])),r (tQ (eB 7) (t 1 0 c35 (eF 8) z [])),r (tP (eB 9) (tL (eB 10) [])),r (tQ (eB 11) (tV 0 [])),r [i0,i0,j0,j0,j0],r (tV 2 (tP (eB 12) [])),r (tQ (eB 13) (tQ (eB 14) [])),r (tC c4 (tV 1 [])),r (tV 2 (tQ (eB 15) [])),r (tQ (eB 16) (tV 2 [])),r (tQ (eB 17) (t 8 1 c4 z (eF 18) [])),r (tV 2 (tQ (eB 19) [])),r (tC c4 (tV 3 [])),r (tV 1 (t 8 0 c4 z (eF 20) [])),r (tV 0 []),r (tQ (eB 21) (tV 0 [])),r (tV 0 []),r (tQ (eB 22) (tV 1 [])),r (tQ (eB 23) (tV 3 [])),r (tC c5 (tV 4 []))],i0,[],2172⟩,
  ⟨116,[(g (tP (eB 0) [])),i0],[r (t 1 0 c35 (eF 1) z (t 1 0 c35 (eF 2) z [])),r [i0,j0,j0,j0,j0],r [i0,j0,j0,j0,j0]],i0,[],188⟩]

theorem b4_116_1_ok : okAll (callM Tryz.prog mm3 1000 1000 300) 116 b4_116_1 = true := by decide +kernel

/-- batten/env.closed. -/
noncomputable def b4_116_2 : List Memo := [
  ⟨116,[(g (tP (eB 0) [])),i0],[r (t 1 0 c35 (eF 1) z (tQ (eB 2) [])),r [i0,j0,j0,j0,j0],r (tC c7 (tV 0 []))],i0,[],281⟩,
  ⟨116,[(g (tP (eB 0) [])),i0],[r (t 1 0 c35 (eF 1) z (tP (eB 2) [])),r [i0,j0,j0,j0,j0],r (tV 0 (tP (eB 3) [])),r (tQ (eB 4) (tQ (eB 5) [])),r (tC c7 (tV 1 [])),r (tC c7 (tV 2 []))],i0,[],592⟩,
  ⟨116,[(g (tP (eB 0) [])),i1],[r (t 1 0 c35 (eF 1) z (tP (eB 2) [])),r [i0,j0,j0,j0,j0],r (tP (eB 3) (tP (eB 4) [])),r (tQ (eB 5) (t 1 0 c35 (eF 6) z [])),r (tQ (eB 7) (tP (eB 8) [])),r (tC c7 (tV 0 [])),r [i0,i0,j0,j0,j0],r (tV 0 (tQ (eB 9) [])),r (tP (eB 10) (tP (eB 11) [])),r (tC c8 (tV 1 [])),r (tV 2 (tP (eB 12) [])),r (tQ (eB 13) (tQ (eB 14) [])),r (tQ (eB 15) (tP (eB 16) [])),r (tC c7 (tV 3 [])),r (tV 3 (tV 0 [])),r (tC c7 (tV 3 [])),r (tQ (eB 17) (tQ (eB 18) [])),r (tV 3 (tV 0 [])),r (tV 4 (tQ (eB 19) [])),r (tQ (eB 20) (tV 1 [])),r (tQ (eB 21) (tV 2 [])),r (tC c9 (tV 5 []))],i0,[],2131⟩,
  ⟨116,[(g (tL (eB 0) [])),i1],[r (t 1 0 c35 (eF 1) z (tL (eB 2) [])),r [i0,j0,j0,j0,j0],r (tP (eB 3) (tL (eB 4) [])),r (tQ (eB 5) (t 1 0 c35 (eF 6) z [])),r (tQ (eB 7) (tL (eB 8) [])),r (tC c7 (tV 0 [])),r [i0,i0,j0,j0,j0],r (tV 0 (tQ (eB 9) [])),r (tP (eB 10) (tV 1 [])),r (tC c8 (tV 1 [])),r (tV 2 (tP (eB 11) [])),r (tQ (eB 12) (tP (eB 13) [])),r (tC c7 (tV 3 [])),r (tQ (eB 14) (tQ (eB 15) [])),r (tV 3 (tV 0 [])),r (tV 4 (tQ (eB 16) [])),r (tQ (eB 17) (tV 1 [])),r (tQ (eB 18) (tV 2 [])),r (tC c9 (tV 5 []))],i0,[],1820⟩]

theorem b4_116_2_ok : okAll (callM Tryz.prog mm3 1000 1000 300) 116 b4_116_2 = true := by decide +kernel

/-- batten/env.closed. -/
noncomputable def b4_116_3 : List Memo := [
  ⟨116,[(g (tL (eB 0) [])),i1],[r (t 1 0 c35 (eF 1) z (tL (eB 2) [])),r [i0,j0,j0,j0,j0],r (tP (eB 3) (tL (eB 4) [])),r (tQ (eB 5) (t 1 0 c35 (eF 6) z [])),r (tQ (eB 7) (tL (eB 8) [])),r (tC c7 (tV 0 [])),r [i0,i0,j0,j0,j0],r (tV 0 (tQ (eB 9) [])),r (tP (eB 10) (tL (eB 11) [])),r (tC c8 (tV 1 [])),r (tV 2 (tP (eB 12) [])),r (tV 3 (tL (eB 13) [])),r (tQ (eB 14) (tP (eB 15) [])),r (tQ (eB 16) (tQ (eB 17) [])),r (tC c7 (tV 3 [])),r (tQ (eB 18) (tQ (eB 19) [])),r (tC c7 (tV 4 [])),r (tQ (eB 20) (tQ (eB 21) [])),r (tV 3 (tV 0 [])),r (tV 4 (tQ (eB 22) [])),r (tQ (eB 23) (tV 0 [])),r (tQ (eB 24) (tV 0 [])),r (tQ (eB 25) (tV 1 [])),r (tV 2 (tV 1 [])),r (tQ (eB 26) (tV 2 [])),r (tQ (eB 27) (tV 2 [])),r (tQ (eB 28) (tV 3 [])),r (tC c9 (tV 5 [])),r (tQ (eB 29) (tV 4 [])),r (t 3 0 c10 (eF 30) z (tV 5 [])),r [i0,i0,j0,j0,j0]],i0,[],2951⟩,
  ⟨116,[(g (tQ (eB 0) [])),i0],[r (tQ (eB 1) (tC c0 [])),r (tC c4 (tC c0 []))],i0,[],297⟩,
  ⟨116,[(g (tP (eB 0) [])),i0],[r (tC c0 (tP (eB 1) [])),r (tC c0 (tC c0 []))],i0,[],297⟩,
  ⟨116,[(g (tL (eB 0) [])),i0],[r (tC c0 (tL (eB 1) [])),r (tC c0 (tQ (eB 2) [])),r (tQ (eB 3) (tV 0 [])),r (tQ (eB 4) (tL (eB 5) [])),r (tQ (eB 6) (tV 1 [])),r (tC c0 (tL (eB 7) [])),r (t 3 0 c3 (eF 8) z (tL (eB 9) [])),r (tC c0 (tQ (eB 10) [])),r [i0,j0,j0,j0,j0],r (tC c0 (tC c0 [])),r (tC c2 (tV 0 []))],i0,[],1197⟩,
  ⟨116,[(g (tQ (eB 0) [])),i0],[r (tC c2 (tC c1 []))],i0,[],180⟩,
  ⟨116,[(g (tL (eB 0) [])),i0],[r (tC c0 (tQ (eB 1) [])),r (tQ (eB 2) (tV 0 [])),r (tC c14 (tV 0 []))],i0,[],374⟩,
  ⟨116,[(g (tP (eB 0) [])),i1],[r (t 1 0 c35 (eF 1) z (tP (eB 2) [])),r [i0,i0,j0,j0,j0],r (tV 0 (tV 1 []))],i0,[],261⟩]

theorem b4_116_3_ok : okAll (callM Tryz.prog mm3 1000 1000 300) 116 b4_116_3 = true := by decide +kernel

/-- batten/env.closed. -/
noncomputable def b4_116_4 : List Memo := [
  ⟨116,[(g (tL (eB 0) [])),i1],[r (t 1 0 c35 (eF 1) z (tL (eB 2) [])),r [i0,i0,j0,j0,j0],r (tV 0 (tV 0 []))],i0,[],261⟩,
  ⟨116,[(g (tP (eB 0) [])),i0],[r (t 1 0 c35 (eF 1) z (tP (eB 2) [])),r [i0,j0,j0,j0,j0],r (t 1 0 c35 (eF 3) z (tP (eB 4) [])),r [i0,j0,j0,j0,j0],r (tQ (eB 5) (tQ (eB 6) [])),r (tQ (eB 7) (tV 0 [])),r (tQ (eB 8) (tV 2 [])),r (tC c4 (tV 1 [])),r (tC c4 (tV 1 []))],i0,[],810⟩,
  ⟨116,[(g (tL (eB 0) [])),i0],[r (t 1 0 c35 (eF 1) z (tL (eB 2) [])),r [i0,j0,j0,j0,j0],r (t 1 0 c35 (eF 3) z (tL (eB 4) [])),r [i0,j0,j0,j0,j0],r (tQ (eB 5) (tQ (eB 6) [])),r (tQ (eB 7) (tV 0 [])),r (tQ (eB 8) (t 8 0 c4 z (eF 9) [])),r (tC c4 (tV 1 [])),r (tQ (eB 10) (t 8 1 c4 z (eF 11) [])),r (tV 0 []),r (tQ (eB 12) (tV 2 [])),r (tV 0 []),r (tC c5 (tV 1 []))],i0,[],1158⟩,
  ⟨116,[(g (tQ (eB 0) [])),i0],[r (tC c2 (tQ (eB 1) [])),r (tC c2 (tC c1 []))],i0,[],297⟩,
  ⟨116,[(g (tP (eB 0) [])),i0],[r (tC c20 (tC c21 []))],i0,[],180⟩,
  ⟨116,[(g (tC c20 [])),i0],[],i0,[],63⟩,
  ⟨116,[(g (tP (eB 0) [])),i0],[r (tC c21 (tP (eB 1) [])),r (tC c20 (tC c20 []))],i0,[],297⟩]

theorem b4_116_4_ok : okAll (callM Tryz.prog mm3 1000 1000 300) 116 b4_116_4 = true := by decide +kernel

/-- batten/env.closed. -/
noncomputable def b4_116_5 : List Memo := [
  ⟨116,[(g (tP (eB 0) [])),i1],[r (tP (eB 1) (tP (eB 2) [])),r (tC c21 (t 1 0 c35 (eF 3) z [])),r (tP (eB 4) (tP (eB 5) [])),r [i0,i0,j0,j0,j0],r (tC c20 (t 1 0 c35 (eF 6) z [])),r (tP (eB 7) (tP (eB 8) [])),r [i0,i0,j0,j0,j0],r (tC c20 (tP (eB 9) [])),r (tQ (eB 10) (tP (eB 11) [])),r (tQ (eB 12) (tQ (eB 13) [])),r (tV 1 (tC c23 [])),r (tP (eB 14) (tP (eB 15) [])),r (tV 1 (tV 0 [])),r (tV 3 (tQ (eB 16) [])),r (tC c21 (tP (eB 17) [])),r (tC c21 (tQ (eB 18) [])),r (tC c22 (tV 1 [])),r (tC c20 (tP (eB 19) [])),r (tV 5 (tV 0 [])),r (tQ (eB 20) (tP (eB 21) [])),r (tV 5 (tV 1 [])),r (tQ (eB 22) (tQ (eB 23) [])),r (tV 5 (tV 1 [])),r (tV 6 (tQ (eB 24) [])),r (tQ (eB 25) (tV 2 [])),r (tC c24 (tV 3 []))],i0,[],2599⟩]

theorem b4_116_5_ok : okAll (callM Tryz.prog mm3 1000 1000 300) 116 b4_116_5 = true := by decide +kernel

/-- batten/env.closed. -/
noncomputable def b4_116_6 : List Memo := [
  ⟨116,[(g (tL (eB 0) [])),i1],[r (tP (eB 1) (tL (eB 2) [])),r (tC c21 (t 1 0 c35 (eF 3) z [])),r (tP (eB 4) (tL (eB 5) [])),r [i0,i0,j0,j0,j0],r (tC c20 (t 1 0 c35 (eF 6) z [])),r (tP (eB 7) (tL (eB 8) [])),r [i0,i0,j0,j0,j0],r (tC c20 (tP (eB 9) [])),r (tQ (eB 10) (tL (eB 11) [])),r (tQ (eB 12) (tQ (eB 13) [])),r (tV 1 (tC c23 [])),r (tP (eB 14) (tL (eB 15) [])),r (tV 1 (tV 0 [])),r (tV 3 (tQ (eB 16) [])),r (tC c21 (tP (eB 17) [])),r (tC c20 (tQ (eB 18) [])),r (tC c22 (tV 1 [])),r (tC c20 (tP (eB 19) [])),r (tQ (eB 20) (tQ (eB 21) [])),r (tQ (eB 22) (tP (eB 23) [])),r (tV 3 (tV 0 [])),r (tQ (eB 24) (tV 0 [])),r (tV 5 (tV 1 [])),r (tQ (eB 25) (tQ (eB 26) [])),r (tQ (eB 27) (tV 1 [])),r (tV 5 (tV 1 [])),r (tV 6 (tQ (eB 28) [])),r (tQ (eB 29) (tV 2 [])),r (tQ (eB 30) (tV 2 [])),r (tQ (eB 31) (tV 3 [])),r (tC c24 (tV 3 [])),r (tQ (eB 32) (tV 4 [])),r (t 3 0 c25 (a 33 0 1 1 40 5) z (tV 5 [])),r [i0,i0,j0,j0,j0]],i0,[],3322⟩]

theorem b4_116_6_ok : okAll (callM Tryz.prog mm3 1000 1000 300) 116 b4_116_6 = true := by decide +kernel

/-- batten/env.closed. -/
noncomputable def b4_116_7 : List Memo := [
  ⟨116,[(g (tP (eB 0) [])),i1],[r (tP (eB 1) (tP (eB 2) [])),r (tC c21 (t 1 0 c35 (eF 3) z [])),r (tP (eB 4) (tP (eB 5) [])),r [i0,i0,j0,j0,j0],r (tC c20 (t 1 0 c35 (eF 6) z [])),r (tP (eB 7) (tP (eB 8) [])),r [i0,i0,j0,j0,j0],r (tC c20 (tP (eB 9) [])),r (tQ (eB 10) (tP (eB 11) [])),r (tQ (eB 12) (tQ (eB 13) [])),r (tV 1 (tC c23 [])),r (tP (eB 14) (tP (eB 15) [])),r (tV 1 (tV 0 [])),r (tV 3 (tQ (eB 16) [])),r (tC c21 (tP (eB 17) [])),r (tC c20 (tQ (eB 18) [])),r (tC c22 (tV 1 [])),r (tC c20 (tP (eB 19) [])),r (tV 4 (tV 0 [])),r (tQ (eB 20) (tP (eB 21) [])),r (tV 5 (tV 1 [])),r (tQ (eB 22) (tQ (eB 23) [])),r (tV 5 (tV 1 [])),r (tV 6 (tQ (eB 24) [])),r (tQ (eB 25) (tV 2 [])),r (tC c24 (tV 3 []))],i0,[],2599⟩,
  ⟨116,[(g (tL (eB 0) [])),i1],[r (tP (eB 1) (tL (eB 2) [])),r (tC c21 (t 1 0 c35 (eF 3) z [])),r (tP (eB 4) (tL (eB 5) [])),r [i0,i0,j0,j0,j0],r (tC c20 (t 1 0 c35 (eF 6) z [])),r (tP (eB 7) (tL (eB 8) [])),r [i0,i0,j0,j0,j0],r (tC c20 (tP (eB 9) [])),r (tQ (eB 10) (tL (eB 11) [])),r (tQ (eB 12) (tQ (eB 13) [])),r (tV 1 (tC c23 [])),r (tP (eB 14) (tV 1 [])),r (tV 1 (tV 0 [])),r (tV 3 (tQ (eB 15) [])),r (tC c21 (tP (eB 16) [])),r (tC c22 (tV 1 [])),r (tC c20 (tP (eB 17) [])),r (tQ (eB 18) (tP (eB 19) [])),r (tV 5 (tV 1 [])),r (tQ (eB 20) (tQ (eB 21) [])),r (tV 5 (tV 1 [])),r (tV 6 (tQ (eB 22) [])),r (tQ (eB 23) (tV 2 [])),r (tC c24 (tV 3 []))],i0,[],2385⟩]

theorem b4_116_7_ok : okAll (callM Tryz.prog mm3 1000 1000 300) 116 b4_116_7 = true := by decide +kernel

/-- batten/env.closed. -/
noncomputable def b4_116_8 : List Memo := [
  ⟨116,[(g (tL (eB 0) [])),i1],[r (tP (eB 1) (tL (eB 2) [])),r (tC c21 (t 1 0 c35 (eF 3) z [])),r (tP (eB 4) (tL (eB 5) [])),r [i0,i0,j0,j0,j0],r (tC c20 (t 1 0 c35 (eF 6) z [])),r (tP (eB 7) (tL (eB 8) [])),r [i0,i0,j0,j0,j0],r (tC c20 (tP (eB 9) [])),r (tQ (eB 10) (tL (eB 11) [])),r (tQ (eB 12) (tQ (eB 13) [])),r (tV 1 (tC c23 [])),r (tP (eB 14) (tL (eB 15) [])),r (tV 1 (tV 0 [])),r (tV 3 (tQ (eB 16) [])),r (tC c21 (tP (eB 17) [])),r (tC c21 (tL (eB 18) [])),r (tC c22 (tV 1 [])),r (tC c20 (tP (eB 19) [])),r (tC c20 (tQ (eB 20) [])),r (tQ (eB 21) (tP (eB 22) [])),r (tQ (eB 23) (tQ (eB 24) [])),r (tV 5 (tV 1 [])),r (tQ (eB 25) (tQ (eB 26) [])),r (tQ (eB 27) (tQ (eB 28) [])),r (tQ (eB 29) (tV 0 [])),r (tV 5 (tV 1 [])),r (tV 6 (tQ (eB 30) [])),r (tQ (eB 31) (tV 0 [])),r (tQ (eB 32) (tV 1 [])),r (tQ (eB 33) (tV 2 [])),r (tQ (eB 34) (tV 2 [])),r (tV 2 (tV 1 [])),r (tQ (eB 35) (tV 2 [])),r (tQ (eB 36) (tV 3 [])),r (tC c24 (tV 3 [])),r (tQ (eB 37) (tV 3 [])),r (tQ (eB 38) (tV 4 [])),r (tQ (eB 39) (tV 4 [])),r (tQ (eB 40) (tV 5 [])),r (tQ (eB 41) (tV 5 [])),r (t 3 0 c25 (a 42 0 1 1 40 5) z (tV 6 [])),r (t 3 0 c26 (a 43 0 1 1 40 5) z (tV 6 [])),r [i0,i0,j0,j0,j0],r [i0,i0,j0,j0,j0]],i0,[],4259⟩,
  ⟨116,[(g (tP (eB 0) [])),i0],[r (t 1 0 c35 (eF 1) z (tP (eB 2) [])),r [i0,j0,j0,j0,j0],r (tC c0 (t 1 0 c35 (eF 1) z []))],i0,[],304⟩,
  ⟨116,[(g (tP (eB 0) [])),i0],[r (t 1 0 c35 (eF 1) z (tQ (eB 2) [])),r [i0,j0,j0,j0,j0],r (tQ (eB 3) (tC c1 [])),r (tC c27 (tV 0 []))],i0,[],398⟩]

theorem b4_116_8_ok : okAll (callM Tryz.prog mm3 1000 1000 300) 116 b4_116_8 = true := by decide +kernel

/-- batten/env.closed. -/
noncomputable def b4_116_9 : List Memo := [
  ⟨116,[(g (tP (eB 0) [])),i0],[r (t 1 0 c35 (eF 1) z (tP (eB 2) [])),r [i0,j0,j0,j0,j0],r (tV 0 (tP (eB 3) [])),r (tC c0 (tP (eB 4) [])),r (tQ (eB 5) (tQ (eB 6) [])),r (tQ (eB 7) (tV 0 [])),r (tQ (eB 8) (tQ (eB 9) [])),r (tC c27 (tV 2 [])),r (tC c27 (tV 3 [])),r (tC c2 (tV 1 []))],i0,[],1020⟩,
  ⟨116,[(g (tP (eB 0) [])),i1],[r (t 1 0 c35 (eF 1) z (tP (eB 2) [])),r [i0,j0,j0,j0,j0],r (tP (eB 3) (tP (eB 4) [])),r (tC c0 (tP (eB 5) [])),r (tQ (eB 6) (tP (eB 7) [])),r (tQ (eB 8) (t 1 0 c35 (eF 9) z [])),r (tQ (eB 10) (tQ (eB 11) [])),r (tP (eB 12) (tP (eB 13) [])),r (tQ (eB 14) (tV 0 [])),r [i0,i0,j0,j0,j0],r (tV 0 (tC c1 [])),r (tC c28 (tV 1 [])),r (tV 2 (tP (eB 15) [])),r (tC c0 (tP (eB 16) [])),r (tC c27 (tV 1 [])),r (tC c0 (tP (eB 17) [])),r (tQ (eB 18) (tQ (eB 19) [])),r (tQ (aA 20) (tP (eB 21) [])),r (tQ (eB 22) (tV 0 [])),r (tQ (eB 23) (tV 0 [])),r (tQ (aA 24) (tV 0 [])),r (tQ (eB 25) (tQ (eB 26) [])),r (tC c27 (tV 4 [])),r (tV 4 (tV 1 [])),r (tC c27 (tV 4 [])),r (tQ (eB 27) (tV 0 [])),r (tQ (eB 28) (tQ (eB 29) [])),r (tV 4 (tV 1 [])),r (tV 5 (tQ (aA 30) [])),r (tQ (eB 31) (tV 1 [])),r (tC c2 (tV 2 [])),r (tQ (eB 32) (tV 2 [])),r (tQ (eB 33) (tV 3 [])),r (tC c29 (tV 6 []))],i0,[],3395⟩]

theorem b4_116_9_ok : okAll (callM Tryz.prog mm3 1000 1000 300) 116 b4_116_9 = true := by decide +kernel

/-- batten/env.closed. -/
noncomputable def b4_116_10 : List Memo := [
  ⟨116,[(g (tL (eB 0) [])),i1],[r (t 1 0 c35 (eF 1) z (tL (eB 2) [])),r [i0,j0,j0,j0,j0],r (tP (eB 3) (tL (eB 4) [])),r (tC c0 (tP (eB 5) [])),r (tQ (eB 6) (tL (eB 7) [])),r (tQ (eB 8) (t 1 0 c35 (eF 9) z [])),r (tQ (eB 10) (tQ (eB 11) [])),r (tP (eB 12) (tV 1 [])),r (tQ (eB 13) (tV 0 [])),r [i0,i0,j0,j0,j0],r (tV 0 (tC c1 [])),r (tC c28 (tV 1 [])),r (tV 2 (tP (eB 14) [])),r (tC c27 (tV 1 [])),r (tC c0 (tP (eB 15) [])),r (tQ (aA 16) (tP (eB 17) [])),r (tQ (aA 18) (tV 0 [])),r (tQ (eB 19) (tQ (eB 20) [])),r (tC c27 (tV 4 [])),r (tQ (eB 21) (tV 0 [])),r (tQ (eB 22) (tQ (eB 23) [])),r (tV 4 (tV 1 [])),r (tV 5 (tQ (aA 24) [])),r (tQ (eB 25) (tV 1 [])),r (tC c2 (tV 2 [])),r (tQ (eB 26) (tV 2 [])),r (tQ (eB 27) (tV 3 [])),r (tC c29 (tV 6 []))],i0,[],2773⟩]

theorem b4_116_10_ok : okAll (callM Tryz.prog mm3 1000 1000 300) 116 b4_116_10 = true := by decide +kernel

end Go.Proofs.YthfppcmphkljkaaGreat
