/- Runs of functions in small memories (printed by a program), level 7. -/
import Derived.Test.YthfppcmphkljkaaGreatM6
import Derived.Test.YthfppcmphkljkaaGreatStr
set_option linter.unusedVariables false
set_option linter.unusedSimpArgs false
set_option linter.unusedSectionVars false
set_option maxRecDepth 100000
namespace Go.Proofs.YthfppcmphkljkaaGreat
open Go Go.Proofs.Bx Go.Proofs.Bx.Sh

/-- batten/battenref20.Of. -/
noncomputable def b7_21_0 : List Memo := [
  ⟨21,[(g ((u 4)::(i0::(c35::(t 0 0 c35 z z (t 0 0 c35 z z (i0::((eB 0)::[]))))))))],[r (c21::(t 1 0 c35 (eF 1) z ((eF 2)::(c20::(t 1 0 c35 (eF 1) z ((eB 3)::[])))))),r [i0,j0,j0,j0,j0],r (c22::(tP (eB 4) [])),r (c23::(tC c20 (c24::(tP (eB 5) [])))),r (tC c20 (tC c21 [])),r (tC c21 (tP (eB 6) [])),r (tC c20 (tC c20 []))],(v [(a 1601 0 2 2 72 7),i0]),[(1267,q [i1,i0]),(1282,q [(a 1267 0 1 1 16 2)]),(1584,q [i0,i0,i1,i0]),(1599,q [z,(a 1584 0 2 2 16 2)]),(1601,q [i0,i0,j0,j0,j0,j0,(a 1282 0 1 1 24 1),i0,i0,j0,j0,j0,j0,(a 1599 0 2 2 24 1)])],1602⟩]

theorem b7_21_0_ok : okAll (callM Tryz.prog mm6 1000 1000 300) 21 b7_21_0 = true := by decide +kernel

/-- batten/battenref20.Of. -/
noncomputable def b7_21_1 : List Memo := [
  ⟨21,[(g ((u 4)::(i0::(c35::(t 0 0 c35 z z (t 0 0 c35 z z (i1::((eF 0)::[]))))))))],[r (c27::(tP (eB 1) ((eB 2)::[]))),r (t 1 0 c35 (eF 3) z (tP (eB 4) [])),r (c28::(tP (eB 5) (c29::(tP (eB 6) [])))),r [i0,j0,j0,j0,j0],r (tC c0 (t 1 0 c35 (eF 3) z [])),r (t 1 0 c35 (eF 3) z (tQ (eB 7) [])),r (t 1 0 c35 (eF 3) z (tP (eB 8) [])),r (tQ (eB 9) (tC c1 [])),r (tV 0 (tP (eB 10) [])),r (tC c27 (tV 0 [])),r (tC c0 (tP (eB 11) [])),r (tQ (eB 12) (tQ (eB 13) [])),r (tQ (eB 14) (tV 0 [])),r (tQ (eB 15) (tQ (eB 16) [])),r (tC c27 (tV 2 [])),r (tC c27 (tV 3 [])),r (tC c2 (tV 1 []))],(v [(a 2490 0 1 1 72 7),i0]),[(2438,q [j0,i0,j0,i0,i0,i0]),(2488,q [z,(a 2438 0 3 3 16 2)]),(2490,q [i1,i0,j0,j0,j0,j0,(a 2488 0 2 2 24 1)])],2491⟩,
  ⟨21,[(g ((u 4)::(i0::(c35::(t 0 0 c35 z z (t 0 0 c35 z z (i0::((eF 0)::[]))))))))],[r (c31::(t 1 0 c35 (eF 1) z ((eB 2)::[]))),r [i0,j0,j0,j0,j0],r (c32::(tC c31 (c33::(tP (eB 3) [])))),r (tP (eB 4) (tC c31 [])),r (tC c0 (tC c31 []))],(v [(a 857 0 1 1 72 7),i0]),[(840,q [i0,i1]),(855,q [z,(a 840 0 1 1 16 2)]),(857,q [i0,i0,j0,j0,j0,j0,(a 855 0 2 2 24 1)])],858⟩]

theorem b7_21_1_ok : okAll (callM Tryz.prog mm6 1000 1000 300) 21 b7_21_1 = true := by decide +kernel

/-- batten/battenref04.Lift. -/
noncomputable def b7_74_0 : List Memo := [
  ⟨74,[(g (t 1 0 c35 (eF 0) z [])),x,x],[n],(g (t 1 0 c35 (eF 0) z [])),[],5⟩,
  ⟨74,[(g (tP (eB 0) [])),i0,x],[r (tC c20 (tC c21 []))],(g (tP (aA 46) [])),[(46,q (tC c20 (tC c21 [])))],49⟩,
  ⟨74,[(g (tC c20 [])),x,x],[],(g (tC c20 [])),[],4⟩,
  ⟨74,[(g (tC c21 [])),x,x],[],(g (tC c21 [])),[],4⟩,
  ⟨74,[(g (tP (eB 0) [])),i0,x],[r (tC c21 (tP (eB 1) [])),r (tC c20 (tC c20 []))],(g (tP (aA 91) [])),[(88,q (tC c20 (tC c20 []))),(91,q (tC c21 (tP (aA 88) [])))],94⟩,
  ⟨74,[(g (tP (eB 0) [])),i0,x],[r (tC c0 (t 1 0 c35 (eF 1) z [])),n],(g (tP (aA 47) [])),[(47,q (tC c0 (t 1 0 c35 (eF 1) z [])))],50⟩,
  ⟨74,[(g (tQ (eB 0) [])),i0,i1],[r (tQ (eB 1) (tC c1 [])),r (tC c27 (tV 0 []))],(g (tQ (aA 89) [])),[(64,q (tC c27 (tV 1 []))),(89,q (tQ (aA 64) (tC c1 [])))],92⟩,
  ⟨74,[(g (tQ (aA 0) [])),i0,i0],[r (tQ (aA 1) (tC c1 [])),r (tC c27 (tV 1 []))],(g (tQ (aA 89) [])),[(64,q (tC c27 (tV 1 []))),(89,q (tQ (aA 64) (tC c1 [])))],92⟩,
  ⟨74,[(g (tP (eB 0) [])),i0,(i 2)],[r (tV 0 (tP (eB 1) [])),r (tC c0 (tP (eB 2) [])),r (tQ (eB 3) (tQ (eB 4) [])),r (tQ (eB 5) (tV 0 [])),r (tQ (eB 6) (tQ (eB 7) [])),r (tC c27 (tV 2 [])),r (tC c27 (tV 3 [])),r (tC c2 (tV 1 []))],(g (tP (aA 351) [])),[(169,q (tC c27 (tV 4 []))),(192,q (tQ (aA 169) (tV 0 []))),(275,q (tC c27 (tV 5 []))),(339,q (tC c2 (tV 1 []))),(342,q (tQ (aA 275) (tQ (aA 339) []))),(345,q (tQ (aA 192) (tQ (aA 342) []))),(348,q (tC c0 (tP (aA 345) []))),(351,q (tV 2 (tP (aA 348) [])))],354⟩,
  ⟨74,[(g (tQ (aA 0) [])),i0,i1],[r (tQ (aA 1) (tV 0 [])),r (tC c27 (tV 4 []))],(g (tQ (aA 87) [])),[(64,q (tC c27 (tV 5 []))),(87,q (tQ (aA 64) (tV 1 [])))],90⟩,
  ⟨74,[(g (tQ (aA 0) [])),i0,i1],[r (tQ (aA 1) (tQ (aA 2) [])),r (tC c27 (tV 5 [])),r (tC c2 (tV 1 []))],(g (tQ (aA 132) [])),[(65,q (tC c27 (tV 6 []))),(129,q (tC c2 (tV 2 []))),(132,q (tQ (aA 65) (tQ (aA 129) [])))],135⟩,
  ⟨74,[(g (tQ (eB 0) [])),i0,(i 3)],[r (tQ (eB 1) (tC c1 [])),r (tC c27 (tV 0 []))],(g (tQ (aA 89) [])),[(64,q (tC c27 (tV 3 []))),(89,q (tQ (aA 64) (tC c1 [])))],92⟩,
  ⟨74,[(g (tP (eB 0) [])),i0,(i 3)],[r (tV 0 (tP (eB 1) [])),r (tC c0 (tP (eB 2) [])),r (tQ (eB 3) (tQ (eB 4) [])),r (tQ (eB 5) (tV 0 [])),r (tQ (eB 6) (tQ (eB 7) [])),r (tC c27 (tV 2 [])),r (tC c27 (tV 3 [])),r (tC c2 (tV 1 []))],(g (tP (aA 351) [])),[(169,q (tC c27 (tV 5 []))),(192,q (tQ (aA 169) (tV 0 []))),(275,q (tC c27 (tV 6 []))),(339,q (tC c2 (tV 1 []))),(342,q (tQ (aA 275) (tQ (aA 339) []))),(345,q (tQ (aA 192) (tQ (aA 342) []))),(348,q (tC c0 (tP (aA 345) []))),(351,q (tV 3 (tP (aA 348) [])))],354⟩,
  ⟨74,[(g (tQ (aA 0) [])),i0,i1],[r (tQ (aA 1) (tV 0 [])),r (tC c27 (tV 5 []))],(g (tQ (aA 87) [])),[(64,q (tC c27 (tV 6 []))),(87,q (tQ (aA 64) (tV 1 [])))],90⟩,
  ⟨74,[(g (tC c31 [])),x,x],[],(g (tC c31 [])),[],4⟩,
  ⟨74,[(g (tP (eB 0) [])),i0,x],[r (tP (eB 1) (tC c31 [])),r (tC c0 (tC c31 []))],(g (tP (aA 91) [])),[(66,q (tC c0 (tC c31 []))),(91,q (tP (aA 66) (tC c31 [])))],94⟩,
  ⟨74,[(g (tP (aA 0) [])),i0,x],[r (tC c0 (tC c31 []))],(g (tP (aA 46) [])),[(46,q (tC c0 (tC c31 [])))],49⟩]

theorem b7_74_0_ok : okAll (callM Tryz.prog mm6 1000 1000 300) 74 b7_74_0 = true := by decide +kernel

/-- batten/positive.Of. -/
noncomputable def b7_47_0 : List Memo := [
  ⟨47,[(g ((u 4)::(i0::(c35::(t 0 0 c35 z z (t 0 0 c35 z z (i0::((eB 0)::[]))))))))],[r (c21::(t 1 0 c35 (eF 1) z ((eF 2)::(c20::(t 1 0 c35 (eF 1) z ((eB 3)::[])))))),r [i0,j0,j0,j0,j0],r (c22::(tP (eB 4) [])),r (c23::(tC c20 (c24::(tP (eB 5) [])))),r (tC c20 (tC c21 [])),r (tC c21 (tP (eB 6) [])),r (tC c20 (tC c20 []))],(v [(a 2560 0 2 2 72 7),i0]),[(2084,q [i1,i0]),(2086,q [(a 2084 0 1 1 16 2)]),(2556,q [i0,i0,i1,i0]),(2558,q [z,(a 2556 0 2 2 16 2)]),(2560,q [i0,i0,j0,j0,j0,j0,(a 2086 0 1 1 24 1),i0,i0,j0,j0,j0,j0,(a 2558 0 2 2 24 1)])],2561⟩]

theorem b7_47_0_ok : okAll (callM Tryz.prog mm6 1000 1000 300) 47 b7_47_0 = true := by decide +kernel

/-- batten/positive.Of. -/
noncomputable def b7_47_1 : List Memo := [
  ⟨47,[(g ((u 4)::(i0::(c35::(t 0 0 c35 z z (t 0 0 c35 z z (i0::((eF 0)::[]))))))))],[r (c0::(t 1 0 c35 (eF 1) z ((eB 2)::[]))),r [i0,j0,j0,j0,j0],r (c1::(tC c0 (c2::(tP (eB 3) [])))),r (tC c0 (tC c0 []))],(v [(a 1302 0 1 1 72 7),i0]),[(1298,q [i0,i0]),(1300,q [z,(a 1298 0 1 1 16 2)]),(1302,q [i0,i0,j0,j0,j0,j0,(a 1300 0 2 2 24 1)])],1303⟩,
  ⟨47,[(g ((u 4)::(i0::(c35::(t 0 0 c35 z z (t 0 0 c35 z z ((i 2)::((eF 0)::[]))))))))],[r (c4::(tP (eB 1) ((eF 2)::[]))),r (t 1 0 c35 (eF 3) z (tP (eB 4) [])),r (c5::(tP (eB 5) [])),r [i0,j0,j0,j0,j0],r (t 1 0 c35 (eF 3) z (t 1 0 c35 (eF 3) z [])),r (t 1 0 c35 (eF 3) z (tP (eB 6) [])),r (t 1 0 c35 (eF 3) z (tP (eB 7) [])),r (tV 1 (tP (eB 8) [])),r (tV 1 (tQ (eB 9) [])),r (tQ (eB 10) (tV 2 [])),r (tC c4 (tV 3 []))],(v [(a 2166 0 1 1 72 7),i0]),[(2162,q [j0,i0,j0,i0]),(2164,q [(a 2162 0 2 2 16 2)]),(2166,q [i0,i0,j0,j0,j0,j0,(a 2164 0 1 1 24 1)])],2167⟩]

theorem b7_47_1_ok : okAll (callM Tryz.prog mm6 1000 1000 300) 47 b7_47_1 = true := by decide +kernel

/-- batten/positive.Of. -/
noncomputable def b7_47_2 : List Memo := [
  ⟨47,[(g ((u 4)::(i0::(c35::(t 0 0 c35 z z (t 0 0 c35 z z (i1::((eF 0)::[]))))))))],[r (c7::(tP (eB 1) ((eB 2)::[]))),r (t 1 0 c35 (eF 3) z (t 1 0 c35 (eF 3) z [])),r (c8::(tP (eB 4) (c9::(tP (eB 5) [])))),r [i0,j0,j0,j0,j0],r (t 1 0 c35 (eF 3) z (tQ (eB 6) [])),r (t 1 0 c35 (eF 3) z (tP (eB 7) [])),r (tC c7 (tV 0 [])),r (tV 0 (tP (eB 8) [])),r (tQ (eB 9) (tQ (eB 10) [])),r (tC c7 (tV 1 [])),r (tC c7 (tV 2 []))],(v [(a 2491 0 1 1 72 7),i0]),[(2487,q [j0,i0,i0,i0]),(2489,q [z,(a 2487 0 2 2 16 2)]),(2491,q [i0,i0,j0,j0,j0,j0,(a 2489 0 2 2 24 1)])],2492⟩]

theorem b7_47_2_ok : okAll (callM Tryz.prog mm6 1000 1000 300) 47 b7_47_2 = true := by decide +kernel

/-- batten/positive.Of. -/
noncomputable def b7_47_3 : List Memo := [
  ⟨47,[(g ((u 4)::(i0::(c35::(t 0 0 c35 z z (t 0 0 c35 z z (i1::((eF 0)::[]))))))))],[r (c27::(tP (eB 1) ((eB 2)::[]))),r (t 1 0 c35 (eF 3) z (tP (eB 4) [])),r (c28::(tP (eB 5) (c29::(tP (eB 6) [])))),r [i0,j0,j0,j0,j0],r (tC c0 (t 1 0 c35 (eF 3) z [])),r (t 1 0 c35 (eF 3) z (tQ (eB 7) [])),r (t 1 0 c35 (eF 3) z (tP (eB 8) [])),r (tQ (eB 9) (tC c1 [])),r (tV 0 (tP (eB 10) [])),r (tC c27 (tV 0 [])),r (tC c0 (tP (eB 11) [])),r (tQ (eB 12) (tQ (eB 13) [])),r (tQ (eB 14) (tV 0 [])),r (tQ (eB 15) (tQ (eB 16) [])),r (tC c27 (tV 2 [])),r (tC c27 (tV 3 [])),r (tC c2 (tV 1 []))],(v [(a 3638 0 1 1 72 7),i0]),[(3634,q [j0,i0,j0,i0,i0,i0]),(3636,q [z,(a 3634 0 3 3 16 2)]),(3638,q [i1,i0,j0,j0,j0,j0,(a 3636 0 2 2 24 1)])],3639⟩]

theorem b7_47_3_ok : okAll (callM Tryz.prog mm6 1000 1000 300) 47 b7_47_3 = true := by decide +kernel

/-- batten/positive.Of. -/
noncomputable def b7_47_4 : List Memo := [
  ⟨47,[(g ((u 4)::(i0::(c35::(t 0 0 c35 z z (t 0 0 c35 z z (i0::((eF 0)::[]))))))))],[r (c31::(t 1 0 c35 (eF 1) z ((eB 2)::[]))),r [i0,j0,j0,j0,j0],r (c32::(tC c31 (c33::(tP (eB 3) [])))),r (tP (eB 4) (tC c31 [])),r (tC c0 (tC c31 []))],(v [(a 1390 0 1 1 72 7),i0]),[(1386,q [i0,i1]),(1388,q [z,(a 1386 0 1 1 16 2)]),(1390,q [i0,i0,j0,j0,j0,j0,(a 1388 0 2 2 24 1)])],1391⟩]

theorem b7_47_4_ok : okAll (callM Tryz.prog mm6 1000 1000 300) 47 b7_47_4 = true := by decide +kernel

/-- batten/subst.Lift. -/
noncomputable def b7_231_0 : List Memo := [
  ⟨231,[(g (t 1 0 c35 (eF 0) z [])),i0,i0],[r [i0,j0,j0,j0,j0]],(v [(g (t 1 0 c35 (eF 0) z [])),i0]),[],72⟩,
  ⟨231,[(g (t 1 0 c35 (eF 0) z [])),i0,i1],[r [i0,j0,j0,j0,j0]],(v [(g (t 1 0 c35 (eF 0) z [])),i0]),[],72⟩,
  ⟨231,[(g (tP (eB 0) [])),i0,(i 2)],[r (tC c20 (tC c21 []))],(v [(g (tP (aA 149) [])),i0]),[(149,q (tC c20 (tC c21 [])))],222⟩,
  ⟨231,[(g (tC c20 [])),i0,i1],[],(v [(g (tC c20 [])),i0]),[],69⟩,
  ⟨231,[(g (tV 0 [])),i0,i0],[],(v [(g (tV 0 [])),i0]),[],53⟩,
  ⟨231,[(g (tC c21 [])),i0,i1],[],(v [(g (tC c21 [])),i0]),[],69⟩,
  ⟨231,[(g (tC c20 [])),i0,(i 3)],[],(v [(g (tC c20 [])),i0]),[],69⟩,
  ⟨231,[(g (tC c20 [])),i0,i0],[],(v [(g (tC c20 [])),i0]),[],69⟩,
  ⟨231,[(g (tP (eB 0) [])),i0,(i 4)],[r (tC c21 (tP (eB 1) [])),r (tC c20 (tC c20 []))],(v [(g (tP (aA 260) [])),i0]),[(259,q (tC c20 (tC c20 []))),(260,q (tC c21 (tP (aA 259) [])))],375⟩,
  ⟨231,[(g (tC c21 [])),i0,(i 2)],[],(v [(g (tC c21 [])),i0]),[],69⟩,
  ⟨231,[(g (tV 1 [])),i0,i0],[],(v [(g (tV 1 [])),i0]),[],53⟩,
  ⟨231,[(g (tC c20 [])),i0,(i 2)],[],(v [(g (tC c20 [])),i0]),[],69⟩,
  ⟨231,[(g (t 1 0 c35 (eF 0) z [])),i0,(i 5)],[r [i0,j0,j0,j0,j0]],(v [(g (t 1 0 c35 (eF 0) z [])),i0]),[],72⟩,
  ⟨231,[(g (tP (eB 0) [])),i0,(i 5)],[r (tC c20 (tC c21 []))],(v [(g (tP (aA 149) [])),i0]),[(149,q (tC c20 (tC c21 [])))],222⟩,
  ⟨231,[(g (tC c20 [])),i0,(i 5)],[],(v [(g (tC c20 [])),i0]),[],69⟩,
  ⟨231,[(g (tP (eB 0) [])),i0,(i 5)],[r (tC c21 (tP (eB 1) [])),r (tC c20 (tC c20 []))],(v [(g (tP (aA 260) [])),i0]),[(259,q (tC c20 (tC c20 []))),(260,q (tC c21 (tP (aA 259) [])))],375⟩,
  ⟨231,[(g (tP (eB 0) [])),i0,(i 2)],[r (tC c20 (t 1 0 c35 (eF 1) z [])),r [i0,i0,j0,j0,j0]],(v [(g (tP (aA 151) [])),i0]),[(151,q (tC c20 (t 1 0 c35 (eF 1) z [])))],225⟩,
  ⟨231,[(g (tP (eB 0) [])),i0,(i 4)],[r (tC c21 (t 1 0 c35 (eF 1) z [])),r [i0,i0,j0,j0,j0]],(v [(g (tP (aA 151) [])),i0]),[(151,q (tC c21 (t 1 0 c35 (eF 1) z [])))],225⟩,
  ⟨231,[(g (tP (eB 0) [])),i0,(i 6)],[r (tC c21 (t 1 0 c35 (eF 1) z [])),r [i0,i0,j0,j0,j0]],(v [(g (tP (aA 151) [])),i0]),[(151,q (tC c21 (t 1 0 c35 (eF 1) z [])))],225⟩,
  ⟨231,[(g (tP (eB 0) [])),i0,(i 6)],[r (tC c20 (t 1 0 c35 (eF 1) z [])),r [i0,i0,j0,j0,j0]],(v [(g (tP (aA 151) [])),i0]),[(151,q (tC c20 (t 1 0 c35 (eF 1) z [])))],225⟩,
  ⟨231,[(g (tP (eB 0) [])),i0,(i 7)],[r (tC c20 (t 1 0 c35 (eF 1) z [])),r [i0,i0,j0,j0,j0]],(v [(g (tP (aA 151) [])),i0]),[(151,q (tC c20 (t 1 0 c35 (eF 1) z [])))],225⟩,
  ⟨231,[(g (tC c21 [])),i0,(i 4)],[],(v [(g (tC c21 [])),i0]),[],69⟩,
  ⟨231,[(g (tP (eB 0) [])),i0,(i 5)],[r (tC c20 (t 1 0 c35 (eF 1) z [])),r [i0,i0,j0,j0,j0]],(v [(g (tP (aA 151) [])),i0]),[(151,q (tC c20 (t 1 0 c35 (eF 1) z [])))],225⟩,
  ⟨231,[(g (tP (eB 0) [])),i0,(i 4)],[r (tC c20 (tP (eB 1) [])),r (tQ (eB 2) (tQ (eB 3) [])),r (tV 1 (tV 0 [])),r (tV 3 (tQ (eB 4) [])),r (tC c22 (tV 1 []))],(v [(g (tP (aA 569) [])),i0]),[(478,q (tV 5 (tV 0 []))),(566,q (tC c22 (tV 1 []))),(567,q (tV 7 (tQ (aA 566) []))),(568,q (tQ (aA 478) (tQ (aA 567) []))),(569,q (tC c20 (tP (aA 568) [])))],770⟩,
  ⟨231,[(g (tQ (eB 0) [])),i0,(i 3)],[r (tV 1 (tC c23 []))],(v [(g (tQ (aA 143) [])),i0]),[(143,q (tV 4 (tC c23 [])))],206⟩,
  ⟨231,[(g (tP (eB 0) [])),i0,(i 2)],[r (tC c21 (tP (eB 1) [])),r (tC c20 (tP (eB 2) [])),r (tQ (eB 3) (tP (eB 4) [])),r (tV 5 (tV 1 [])),r (tQ (eB 5) (tQ (eB 6) [])),r (tV 5 (tV 1 [])),r (tV 6 (tQ (eB 7) [])),r (tQ (eB 8) (tV 2 [])),r (tC c24 (tV 3 []))],(v [(g (tP (aA 995) [])),i0]),[(795,q (tV 7 (tV 1 []))),(866,q (tV 7 (tV 1 []))),(970,q (tC c24 (tV 3 []))),(990,q (tQ (aA 970) (tV 2 []))),(991,q (tV 8 (tQ (aA 990) []))),(992,q (tQ (aA 866) (tQ (aA 991) []))),(993,q (tQ (aA 795) (tP (aA 992) []))),(994,q (tC c20 (tP (aA 993) []))),(995,q (tC c21 (tP (aA 994) [])))],1334⟩,
  ⟨231,[(g (tC c0 [])),i0,i1],[],(v [(g (tC c0 [])),i0]),[],69⟩,
  ⟨231,[(g (tC c0 [])),i0,i0],[],(v [(g (tC c0 [])),i0]),[],69⟩,
  ⟨231,[(g (tP (eB 0) [])),i0,(i 2)],[r (tC c0 (tC c0 []))],(v [(g (tP (aA 149) [])),i0]),[(149,q (tC c0 (tC c0 [])))],222⟩,
  ⟨231,[(g (t 1 0 c35 (eF 0) z [])),i0,(i 3)],[r [i0,j0,j0,j0,j0]],(v [(g (t 1 0 c35 (eF 0) z [])),i0]),[],72⟩,
  ⟨231,[(g (tC c0 [])),i0,(i 3)],[],(v [(g (tC c0 [])),i0]),[],69⟩,
  ⟨231,[(g (tP (eB 0) [])),i0,(i 3)],[r (tC c0 (tC c0 []))],(v [(g (tP (aA 149) [])),i0]),[(149,q (tC c0 (tC c0 [])))],222⟩,
  ⟨231,[(g (tP (eB 0) [])),i0,i1],[r (tV 1 (tP (eB 1) [])),r (tV 1 (tQ (eB 2) [])),r (tQ (eB 3) (tV 2 [])),r (tC c4 (tV 3 []))],(v [(g (tP (aA 458) [])),i0]),[(436,q (tC c4 (tV 4 []))),(456,q (tQ (aA 436) (tV 3 []))),(457,q (tV 2 (tQ (aA 456) []))),(458,q (tV 2 (tP (aA 457) [])))],617⟩,
  ⟨231,[(g (tQ (aA 0) [])),i0,i0],[r (tQ (aA 1) (tV 3 [])),r (tC c4 (tV 4 []))],(v [(g (tQ (aA 248) [])),i0]),[(228,q (tC c4 (tV 4 []))),(248,q (tQ (aA 228) (tV 3 [])))],343⟩,
  ⟨231,[(g (t 1 0 c35 (eF 0) z [])),i0,(i 2)],[r [i0,j0,j0,j0,j0]],(v [(g (t 1 0 c35 (eF 0) z [])),i0]),[],72⟩,
  ⟨231,[(g (tQ (eB 0) [])),i0,i1],[r (tC c7 (tV 0 []))],(v [(g (tQ (aA 143) [])),i0]),[(143,q (tC c7 (tV 1 [])))],206⟩,
  ⟨231,[(g (tQ (aA 0) [])),i0,i0],[r (tC c7 (tV 1 []))],(v [(g (tQ (aA 143) [])),i0]),[(143,q (tC c7 (tV 1 [])))],206⟩]

theorem b7_231_0_ok : okAll (callM Tryz.prog mm6 1000 1000 300) 231 b7_231_0 = true := by decide +kernel

/-- batten/subst.Lift. -/
noncomputable def b7_231_1 : List Memo := [
  ⟨231,[(g (tP (eB 0) [])),i0,(i 2)],[r (tV 0 (tP (eB 1) [])),r (tQ (eB 2) (tQ (eB 3) [])),r (tC c7 (tV 1 [])),r (tC c7 (tV 2 []))],(v [(g (tP (aA 464) [])),i0]),[(409,q (tC c7 (tV 3 []))),(462,q (tC c7 (tV 4 []))),(463,q (tQ (aA 409) (tQ (aA 462) []))),(464,q (tV 2 (tP (aA 463) [])))],633⟩,
  ⟨231,[(g (tQ (aA 0) [])),i0,i1],[r (tC c7 (tV 3 []))],(v [(g (tQ (aA 143) [])),i0]),[(143,q (tC c7 (tV 4 [])))],206⟩,
  ⟨231,[(g (tQ (aA 0) [])),i0,i1],[r (tC c7 (tV 4 []))],(v [(g (tQ (aA 143) [])),i0]),[(143,q (tC c7 (tV 5 [])))],206⟩,
  ⟨231,[(g (tQ (eB 0) [])),i0,(i 3)],[r (tC c7 (tV 0 []))],(v [(g (tQ (aA 143) [])),i0]),[(143,q (tC c7 (tV 3 [])))],206⟩,
  ⟨231,[(g (tP (eB 0) [])),i0,(i 3)],[r (tV 0 (tP (eB 1) [])),r (tQ (eB 2) (tQ (eB 3) [])),r (tC c7 (tV 1 [])),r (tC c7 (tV 2 []))],(v [(g (tP (aA 464) [])),i0]),[(409,q (tC c7 (tV 4 []))),(462,q (tC c7 (tV 5 []))),(463,q (tQ (aA 409) (tQ (aA 462) []))),(464,q (tV 3 (tP (aA 463) [])))],633⟩,
  ⟨231,[(g (tP (eB 0) [])),i0,(i 5)],[r (tC c21 (t 1 0 c35 (eF 1) z [])),r [i0,i0,j0,j0,j0]],(v [(g (tP (aA 151) [])),i0]),[(151,q (tC c21 (t 1 0 c35 (eF 1) z [])))],225⟩,
  ⟨231,[(g (tP (eB 0) [])),i0,(i 4)],[r (tC c20 (t 1 0 c35 (eF 1) z [])),r [i0,i0,j0,j0,j0]],(v [(g (tP (aA 151) [])),i0]),[(151,q (tC c20 (t 1 0 c35 (eF 1) z [])))],225⟩,
  ⟨231,[(g (tP (eB 0) [])),i0,(i 3)],[r (tC c20 (tP (eB 1) [])),r (tQ (eB 2) (tQ (eB 3) [])),r (tV 1 (tV 0 [])),r (tV 3 (tQ (eB 4) [])),r (tC c22 (tV 1 []))],(v [(g (tP (aA 569) [])),i0]),[(478,q (tV 4 (tV 0 []))),(566,q (tC c22 (tV 1 []))),(567,q (tV 6 (tQ (aA 566) []))),(568,q (tQ (aA 478) (tQ (aA 567) []))),(569,q (tC c20 (tP (aA 568) [])))],770⟩,
  ⟨231,[(g (tQ (eB 0) [])),i0,(i 2)],[r (tV 1 (tC c23 []))],(v [(g (tQ (aA 143) [])),i0]),[(143,q (tV 3 (tC c23 [])))],206⟩,
  ⟨231,[(g (tP (eB 0) [])),i0,i1],[r (tC c21 (tP (eB 1) [])),r (tC c20 (tP (eB 2) [])),r (tQ (eB 3) (tP (eB 4) [])),r (tV 5 (tV 1 [])),r (tQ (eB 5) (tQ (eB 6) [])),r (tV 5 (tV 1 [])),r (tV 6 (tQ (eB 7) [])),r (tQ (eB 8) (tV 2 [])),r (tC c24 (tV 3 []))],(v [(g (tP (aA 995) [])),i0]),[(795,q (tV 6 (tV 1 []))),(866,q (tV 6 (tV 1 []))),(970,q (tC c24 (tV 3 []))),(990,q (tQ (aA 970) (tV 2 []))),(991,q (tV 7 (tQ (aA 990) []))),(992,q (tQ (aA 866) (tQ (aA 991) []))),(993,q (tQ (aA 795) (tP (aA 992) []))),(994,q (tC c20 (tP (aA 993) []))),(995,q (tC c21 (tP (aA 994) [])))],1334⟩,
  ⟨231,[(g (tP (eB 0) [])),i0,(i 7)],[r (tC c21 (t 1 0 c35 (eF 1) z [])),r [i0,i0,j0,j0,j0]],(v [(g (tP (aA 151) [])),i0]),[(151,q (tC c21 (t 1 0 c35 (eF 1) z [])))],225⟩,
  ⟨231,[(g (tP (eB 0) [])),i0,(i 5)],[r (tC c20 (tP (eB 1) [])),r (tQ (eB 2) (tQ (eB 3) [])),r (tV 1 (tV 0 [])),r (tV 3 (tQ (eB 4) [])),r (tC c22 (tV 1 []))],(v [(g (tP (aA 569) [])),i0]),[(478,q (tV 6 (tV 0 []))),(566,q (tC c22 (tV 1 []))),(567,q (tV 8 (tQ (aA 566) []))),(568,q (tQ (aA 478) (tQ (aA 567) []))),(569,q (tC c20 (tP (aA 568) [])))],770⟩,
  ⟨231,[(g (tQ (eB 0) [])),i0,(i 4)],[r (tV 1 (tC c23 []))],(v [(g (tQ (aA 143) [])),i0]),[(143,q (tV 5 (tC c23 [])))],206⟩,
  ⟨231,[(g (tP (eB 0) [])),i0,(i 3)],[r (tC c21 (tP (eB 1) [])),r (tC c20 (tP (eB 2) [])),r (tQ (eB 3) (tP (eB 4) [])),r (tV 5 (tV 1 [])),r (tQ (eB 5) (tQ (eB 6) [])),r (tV 5 (tV 1 [])),r (tV 6 (tQ (eB 7) [])),r (tQ (eB 8) (tV 2 [])),r (tC c24 (tV 3 []))],(v [(g (tP (aA 995) [])),i0]),[(795,q (tV 8 (tV 1 []))),(866,q (tV 8 (tV 1 []))),(970,q (tC c24 (tV 3 []))),(990,q (tQ (aA 970) (tV 2 []))),(991,q (tV 9 (tQ (aA 990) []))),(992,q (tQ (aA 866) (tQ (aA 991) []))),(993,q (tQ (aA 795) (tP (aA 992) []))),(994,q (tC c20 (tP (aA 993) []))),(995,q (tC c21 (tP (aA 994) [])))],1334⟩,
  ⟨231,[(g (tP (eB 0) [])),i0,i0],[r (tC c0 (t 1 0 c35 (eF 1) z [])),r [i0,j0,j0,j0,j0]],(v [(g (tP (aA 151) [])),i0]),[(151,q (tC c0 (t 1 0 c35 (eF 1) z [])))],225⟩,
  ⟨231,[(g (tQ (eB 0) [])),i0,i1],[r (tQ (eB 1) (tC c1 [])),r (tC c27 (tV 0 []))],(v [(g (tQ (aA 254) [])),i0]),[(236,q (tC c27 (tV 1 []))),(254,q (tQ (aA 236) (tC c1 [])))],359⟩]

theorem b7_231_1_ok : okAll (callM Tryz.prog mm6 1000 1000 300) 231 b7_231_1 = true := by decide +kernel

/-- batten/subst.Lift. -/
noncomputable def b7_231_2 : List Memo := [
  ⟨231,[(g (tQ (aA 0) [])),i0,i0],[r (tQ (aA 1) (tC c1 [])),r (tC c27 (tV 1 []))],(v [(g (tQ (aA 254) [])),i0]),[(236,q (tC c27 (tV 1 []))),(254,q (tQ (aA 236) (tC c1 [])))],359⟩,
  ⟨231,[(g (tP (eB 0) [])),i0,(i 2)],[r (tV 0 (tP (eB 1) [])),r (tC c0 (tP (eB 2) [])),r (tQ (eB 3) (tQ (eB 4) [])),r (tQ (eB 5) (tV 0 [])),r (tQ (eB 6) (tQ (eB 7) [])),r (tC c27 (tV 2 [])),r (tC c27 (tV 3 [])),r (tC c2 (tV 1 []))],(v [(g (tP (aA 896) [])),i0]),[(750,q (tC c27 (tV 4 []))),(770,q (tQ (aA 750) (tV 0 []))),(839,q (tC c27 (tV 5 []))),(892,q (tC c2 (tV 1 []))),(893,q (tQ (aA 839) (tQ (aA 892) []))),(894,q (tQ (aA 770) (tQ (aA 893) []))),(895,q (tC c0 (tP (aA 894) []))),(896,q (tV 2 (tP (aA 895) [])))],1213⟩,
  ⟨231,[(g (tQ (aA 0) [])),i0,i1],[r (tQ (aA 1) (tV 0 [])),r (tC c27 (tV 4 []))],(v [(g (tQ (aA 248) [])),i0]),[(228,q (tC c27 (tV 5 []))),(248,q (tQ (aA 228) (tV 1 [])))],343⟩,
  ⟨231,[(g (tQ (aA 0) [])),i0,i1],[r (tQ (aA 1) (tQ (aA 2) [])),r (tC c27 (tV 5 [])),r (tC c2 (tV 1 []))],(v [(g (tQ (aA 359) [])),i0]),[(305,q (tC c27 (tV 6 []))),(358,q (tC c2 (tV 2 []))),(359,q (tQ (aA 305) (tQ (aA 358) [])))],496⟩,
  ⟨231,[(g (tP (eB 0) [])),i0,(i 3)],[r (tC c0 (t 1 0 c35 (eF 1) z [])),r [i0,j0,j0,j0,j0]],(v [(g (tP (aA 151) [])),i0]),[(151,q (tC c0 (t 1 0 c35 (eF 1) z [])))],225⟩,
  ⟨231,[(g (tQ (eB 0) [])),i0,(i 3)],[r (tQ (eB 1) (tC c1 [])),r (tC c27 (tV 0 []))],(v [(g (tQ (aA 254) [])),i0]),[(236,q (tC c27 (tV 3 []))),(254,q (tQ (aA 236) (tC c1 [])))],359⟩,
  ⟨231,[(g (tP (eB 0) [])),i0,(i 3)],[r (tV 0 (tP (eB 1) [])),r (tC c0 (tP (eB 2) [])),r (tQ (eB 3) (tQ (eB 4) [])),r (tQ (eB 5) (tV 0 [])),r (tQ (eB 6) (tQ (eB 7) [])),r (tC c27 (tV 2 [])),r (tC c27 (tV 3 [])),r (tC c2 (tV 1 []))],(v [(g (tP (aA 896) [])),i0]),[(750,q (tC c27 (tV 5 []))),(770,q (tQ (aA 750) (tV 0 []))),(839,q (tC c27 (tV 6 []))),(892,q (tC c2 (tV 1 []))),(893,q (tQ (aA 839) (tQ (aA 892) []))),(894,q (tQ (aA 770) (tQ (aA 893) []))),(895,q (tC c0 (tP (aA 894) []))),(896,q (tV 3 (tP (aA 895) [])))],1213⟩,
  ⟨231,[(g (tQ (aA 0) [])),i0,i1],[r (tQ (aA 1) (tV 0 [])),r (tC c27 (tV 5 []))],(v [(g (tQ (aA 248) [])),i0]),[(228,q (tC c27 (tV 6 []))),(248,q (tQ (aA 228) (tV 1 [])))],343⟩,
  ⟨231,[(g (tP (eB 0) [])),i0,i1],[r (tC c0 (tP (eB 1) [])),r (tQ (eB 2) (t 1 0 c35 (eF 3) z [])),r (tQ (eB 4) (tV 0 [])),r [i0,i0,j0,j0,j0],r (tC c27 (tV 1 []))],(v [(g (tP (aA 472) [])),i0]),[(433,q (tC c27 (tV 2 []))),(453,q (tQ (aA 433) (tV 0 []))),(471,q (tQ (aA 453) (t 1 0 c35 (eF 3) z []))),(472,q (tC c0 (tP (aA 471) [])))],652⟩,
  ⟨231,[(g (tP (eB 0) [])),i0,(i 5)],[r (tC c0 (tP (eB 1) [])),r (tQ (eB 2) (t 1 0 c35 (eF 3) z [])),r (tQ (eB 4) (tV 0 [])),r [i0,i0,j0,j0,j0],r (tC c27 (tV 1 []))],(v [(g (tP (aA 472) [])),i0]),[(433,q (tC c27 (tV 6 []))),(453,q (tQ (aA 433) (tV 0 []))),(471,q (tQ (aA 453) (t 1 0 c35 (eF 3) z []))),(472,q (tC c0 (tP (aA 471) [])))],652⟩,
  ⟨231,[(g (tC c0 [])),i0,(i 2)],[],(v [(g (tC c0 [])),i0]),[],69⟩,
  ⟨231,[(g (tP (eB 0) [])),i0,(i 6)],[r (tC c0 (tP (eB 1) [])),r (tQ (eB 2) (t 1 0 c35 (eF 3) z [])),r (tQ (eB 4) (tV 0 [])),r [i0,i0,j0,j0,j0],r (tC c27 (tV 1 []))],(v [(g (tP (aA 472) [])),i0]),[(433,q (tC c27 (tV 7 []))),(453,q (tQ (aA 433) (tV 0 []))),(471,q (tQ (aA 453) (t 1 0 c35 (eF 3) z []))),(472,q (tC c0 (tP (aA 471) [])))],652⟩,
  ⟨231,[(g (t 1 0 c35 (eF 0) z [])),i0,(i 7)],[r [i0,j0,j0,j0,j0]],(v [(g (t 1 0 c35 (eF 0) z [])),i0]),[],72⟩,
  ⟨231,[(g (tV 2 [])),i0,(i 4)],[],(v [(g (tV 6 [])),i0]),[],53⟩,
  ⟨231,[(g (tQ (aA 0) [])),i0,(i 2)],[r (tQ (aA 1) (tV 0 [])),r (tC c27 (tV 4 []))],(v [(g (tQ (aA 248) [])),i0]),[(228,q (tC c27 (tV 6 []))),(248,q (tQ (aA 228) (tV 2 [])))],343⟩,
  ⟨231,[(g (tQ (eB 0) [])),i0,i1],[r (tQ (eB 1) (tV 0 [])),r (tC c27 (tV 4 []))],(v [(g (tQ (aA 248) [])),i0]),[(228,q (tC c27 (tV 5 []))),(248,q (tQ (aA 228) (tV 1 [])))],343⟩,
  ⟨231,[(g (t 1 0 c35 (eF 0) z [])),i0,(i 4)],[r [i0,j0,j0,j0,j0]],(v [(g (t 1 0 c35 (eF 0) z [])),i0]),[],72⟩]

theorem b7_231_2_ok : okAll (callM Tryz.prog mm6 1000 1000 300) 231 b7_231_2 = true := by decide +kernel

end Go.Proofs.YthfppcmphkljkaaGreat
