/- Runs of functions in small memories (printed by a program), level 7. -/
import Derived.Test.YtlkpolcojgoafaaGreatM6
import Derived.Test.YtlkpolcojgoafaaGreatStr
set_option linter.unusedVariables false
set_option linter.unusedSimpArgs false
set_option linter.unusedSectionVars false
set_option maxRecDepth 100000
namespace Go.Proofs.YtlkpolcojgoafaaGreat
open Go Go.Proofs.Bx Go.Proofs.Bx.Sh

/-- batten/positive.Of. -/
noncomputable def b7_19_0 : List Memo := [
  ⟨19,[(g ((u 4)::(i0::(c37::(t 0 0 c37 z z (t 0 0 c37 z z (i0::((eB 0)::[]))))))))],[r (c21::(t 1 0 c37 (eF 1) z ((eF 2)::(c20::(t 1 0 c37 (eF 1) z ((eB 3)::[])))))),r [i0,j0,j0,j0,j0],r (c22::(tP (eB 4) [])),r (c23::(tC c20 (c24::(tP (eB 5) [])))),r (tC c20 (tC c21 [])),r (tC c21 (tP (eB 6) [])),r (tC c20 (tC c20 []))],(v [(a 2560 0 2 2 72 7),i0]),[(2084,q [i1,i0]),(2086,q [(a 2084 0 1 1 16 2)]),(2556,q [i0,i0,i1,i0]),(2558,q [z,(a 2556 0 2 2 16 2)]),(2560,q [i0,i0,j0,j0,j0,j0,(a 2086 0 1 1 24 1),i0,i0,j0,j0,j0,j0,(a 2558 0 2 2 24 1)])],2561⟩]

theorem b7_19_0_ok : okAll (callM Tryz.prog mm6 1000 1000 300) 19 b7_19_0 = true := by decide +kernel

/-- batten/positive.Of. -/
noncomputable def b7_19_1 : List Memo := [
  ⟨19,[(g ((u 4)::(i0::(c37::(t 0 0 c37 z z (t 0 0 c37 z z (i0::((eF 0)::[]))))))))],[r (c0::(t 1 0 c37 (eF 1) z ((eB 2)::[]))),r [i0,j0,j0,j0,j0],r (c1::(tC c0 (c2::(tP (eB 3) [])))),r (tC c0 (tC c0 []))],(v [(a 1302 0 1 1 72 7),i0]),[(1298,q [i0,i0]),(1300,q [z,(a 1298 0 1 1 16 2)]),(1302,q [i0,i0,j0,j0,j0,j0,(a 1300 0 2 2 24 1)])],1303⟩,
  ⟨19,[(g ((u 4)::(i0::(c37::(t 0 0 c37 z z (t 0 0 c37 z z ((i 2)::((eF 0)::[]))))))))],[r (c4::(tP (eB 1) ((eF 2)::[]))),r (t 1 0 c37 (eF 3) z (tP (eB 4) [])),r (c5::(tP (eB 5) [])),r [i0,j0,j0,j0,j0],r (t 1 0 c37 (eF 3) z (t 1 0 c37 (eF 3) z [])),r (t 1 0 c37 (eF 3) z (tP (eB 6) [])),r (t 1 0 c37 (eF 3) z (tP (eB 7) [])),r (tV 1 (tP (eB 8) [])),r (tV 1 (tQ (eB 9) [])),r (tQ (eB 10) (tV 2 [])),r (tC c4 (tV 3 []))],(v [(a 2166 0 1 1 72 7),i0]),[(2162,q [j0,i0,j0,i0]),(2164,q [(a 2162 0 2 2 16 2)]),(2166,q [i0,i0,j0,j0,j0,j0,(a 2164 0 1 1 24 1)])],2167⟩]

theorem b7_19_1_ok : okAll (callM Tryz.prog mm6 1000 1000 300) 19 b7_19_1 = true := by decide +kernel

/-- batten/positive.Of. -/
noncomputable def b7_19_2 : List Memo := [
  ⟨19,[(g ((u 4)::(i0::(c37::(t 0 0 c37 z z (t 0 0 c37 z z (i1::((eF 0)::[]))))))))],[r (c7::(tP (eB 1) ((eB 2)::[]))),r (t 1 0 c37 (eF 3) z (t 1 0 c37 (eF 3) z [])),r (c8::(tP (eB 4) (c9::(tP (eB 5) [])))),r [i0,j0,j0,j0,j0],r (t 1 0 c37 (eF 3) z (tQ (eB 6) [])),r (t 1 0 c37 (eF 3) z (tP (eB 7) [])),r (tC c7 (tV 0 [])),r (tV 0 (tP (eB 8) [])),r (tQ (eB 9) (tQ (eB 10) [])),r (tC c7 (tV 1 [])),r (tC c7 (tV 2 []))],(v [(a 2491 0 1 1 72 7),i0]),[(2487,q [j0,i0,i0,i0]),(2489,q [z,(a 2487 0 2 2 16 2)]),(2491,q [i0,i0,j0,j0,j0,j0,(a 2489 0 2 2 24 1)])],2492⟩,
  ⟨19,[(g ((u 4)::(i0::(c37::(t 0 0 c37 z z (t 0 0 c37 z z (i0::((eF 0)::[]))))))))],[r (c27::(t 1 0 c37 (eF 1) z ((eF 2)::[]))),r [i0,j0,j0,j0,j0],r (c28::(tP (eB 3) [])),r (t 1 0 c37 (eF 4) z (tC c27 [])),r [i0,j0,j0,j0,j0]],(v [(a 845 0 1 1 72 7),i0]),[(841,q [j0,i0]),(843,q [(a 841 0 1 1 16 2)]),(845,q [i0,i0,j0,j0,j0,j0,(a 843 0 1 1 24 1)])],846⟩]

theorem b7_19_2_ok : okAll (callM Tryz.prog mm6 1000 1000 300) 19 b7_19_2 = true := by decide +kernel

/-- batten/positive.Of. -/
noncomputable def b7_19_3 : List Memo := [
  ⟨19,[(g ((u 4)::(i0::(c37::(t 0 0 c37 z z (t 0 0 c37 z z (i1::((eF 0)::[]))))))))],[r (c29::(tP (eB 1) ((eB 2)::[]))),r (t 1 0 c37 (eF 3) z (tP (eB 4) [])),r (c30::(tP (eB 5) (c31::(tP (eB 6) [])))),r [i0,j0,j0,j0,j0],r (tC c0 (t 1 0 c37 (eF 3) z [])),r (t 1 0 c37 (eF 3) z (tQ (eB 7) [])),r (t 1 0 c37 (eF 3) z (tP (eB 8) [])),r (tQ (eB 9) (tC c1 [])),r (tV 0 (tP (eB 10) [])),r (tC c29 (tV 0 [])),r (tC c0 (tP (eB 11) [])),r (tQ (eB 12) (tQ (eB 13) [])),r (tQ (eB 14) (tV 0 [])),r (tQ (eB 15) (tQ (eB 16) [])),r (tC c29 (tV 2 [])),r (tC c29 (tV 3 [])),r (tC c2 (tV 1 []))],(v [(a 3638 0 1 1 72 7),i0]),[(3634,q [j0,i0,j0,i0,i0,i0]),(3636,q [z,(a 3634 0 3 3 16 2)]),(3638,q [i1,i0,j0,j0,j0,j0,(a 3636 0 2 2 24 1)])],3639⟩]

theorem b7_19_3_ok : okAll (callM Tryz.prog mm6 1000 1000 300) 19 b7_19_3 = true := by decide +kernel

/-- batten/positive.Of. -/
noncomputable def b7_19_4 : List Memo := [
  ⟨19,[(g ((u 4)::(i0::(c37::(t 0 0 c37 z z (t 0 0 c37 z z (i0::((eF 0)::[]))))))))],[r (c33::(t 1 0 c37 (eF 1) z ((eB 2)::[]))),r [i0,j0,j0,j0,j0],r (c34::(tC c33 (c35::(tP (eB 3) [])))),r (tP (eB 4) (tC c33 [])),r (tC c0 (tC c33 []))],(v [(a 1390 0 1 1 72 7),i0]),[(1386,q [i0,i1]),(1388,q [z,(a 1386 0 1 1 16 2)]),(1390,q [i0,i0,j0,j0,j0,j0,(a 1388 0 2 2 24 1)])],1391⟩]

theorem b7_19_4_ok : okAll (callM Tryz.prog mm6 1000 1000 300) 19 b7_19_4 = true := by decide +kernel

/-- batten/subst.Lift. -/
noncomputable def b7_247_0 : List Memo := [
  ⟨247,[(g (t 1 0 c37 (eF 0) z [])),i0,i0],[r [i0,j0,j0,j0,j0]],(v [(g (t 1 0 c37 (eF 0) z [])),i0]),[],72⟩,
  ⟨247,[(g (t 1 0 c37 (eF 0) z [])),i0,i1],[r [i0,j0,j0,j0,j0]],(v [(g (t 1 0 c37 (eF 0) z [])),i0]),[],72⟩,
  ⟨247,[(g (tP (eB 0) [])),i0,(i 2)],[r (tC c20 (tC c21 []))],(v [(g (tP (aA 149) [])),i0]),[(149,q (tC c20 (tC c21 [])))],222⟩,
  ⟨247,[(g (tC c20 [])),i0,i1],[],(v [(g (tC c20 [])),i0]),[],69⟩,
  ⟨247,[(g (tV 0 [])),i0,i0],[],(v [(g (tV 0 [])),i0]),[],53⟩,
  ⟨247,[(g (tC c21 [])),i0,i1],[],(v [(g (tC c21 [])),i0]),[],69⟩,
  ⟨247,[(g (tC c20 [])),i0,(i 3)],[],(v [(g (tC c20 [])),i0]),[],69⟩,
  ⟨247,[(g (tC c20 [])),i0,i0],[],(v [(g (tC c20 [])),i0]),[],69⟩,
  ⟨247,[(g (tP (eB 0) [])),i0,(i 4)],[r (tC c21 (tP (eB 1) [])),r (tC c20 (tC c20 []))],(v [(g (tP (aA 260) [])),i0]),[(259,q (tC c20 (tC c20 []))),(260,q (tC c21 (tP (aA 259) [])))],375⟩,
  ⟨247,[(g (tC c21 [])),i0,(i 2)],[],(v [(g (tC c21 [])),i0]),[],69⟩,
  ⟨247,[(g (tV 1 [])),i0,i0],[],(v [(g (tV 1 [])),i0]),[],53⟩,
  ⟨247,[(g (tC c20 [])),i0,(i 2)],[],(v [(g (tC c20 [])),i0]),[],69⟩,
  ⟨247,[(g (t 1 0 c37 (eF 0) z [])),i0,(i 5)],[r [i0,j0,j0,j0,j0]],(v [(g (t 1 0 c37 (eF 0) z [])),i0]),[],72⟩,
  ⟨247,[(g (tP (eB 0) [])),i0,(i 5)],[r (tC c20 (tC c21 []))],(v [(g (tP (aA 149) [])),i0]),[(149,q (tC c20 (tC c21 [])))],222⟩,
  ⟨247,[(g (tC c20 [])),i0,(i 5)],[],(v [(g (tC c20 [])),i0]),[],69⟩,
  ⟨247,[(g (tP (eB 0) [])),i0,(i 5)],[r (tC c21 (tP (eB 1) [])),r (tC c20 (tC c20 []))],(v [(g (tP (aA 260) [])),i0]),[(259,q (tC c20 (tC c20 []))),(260,q (tC c21 (tP (aA 259) [])))],375⟩,
  ⟨247,[(g (tC c0 [])),i0,i1],[],(v [(g (tC c0 [])),i0]),[],69⟩,
  ⟨247,[(g (tC c0 [])),i0,i0],[],(v [(g (tC c0 [])),i0]),[],69⟩,
  ⟨247,[(g (tP (eB 0) [])),i0,(i 2)],[r (tC c0 (tC c0 []))],(v [(g (tP (aA 149) [])),i0]),[(149,q (tC c0 (tC c0 [])))],222⟩,
  ⟨247,[(g (t 1 0 c37 (eF 0) z [])),i0,(i 3)],[r [i0,j0,j0,j0,j0]],(v [(g (t 1 0 c37 (eF 0) z [])),i0]),[],72⟩,
  ⟨247,[(g (tC c0 [])),i0,(i 3)],[],(v [(g (tC c0 [])),i0]),[],69⟩,
  ⟨247,[(g (tP (eB 0) [])),i0,(i 3)],[r (tC c0 (tC c0 []))],(v [(g (tP (aA 149) [])),i0]),[(149,q (tC c0 (tC c0 [])))],222⟩,
  ⟨247,[(g (t 1 0 c37 (eF 0) z [])),i0,(i 2)],[r [i0,j0,j0,j0,j0]],(v [(g (t 1 0 c37 (eF 0) z [])),i0]),[],72⟩,
  ⟨247,[(g (t 1 0 c37 (eF 0) z [])),i0,(i 4)],[r [i0,j0,j0,j0,j0]],(v [(g (t 1 0 c37 (eF 0) z [])),i0]),[],72⟩,
  ⟨247,[(g (tP (eB 0) [])),i0,i1],[r (tV 1 (tP (eB 1) [])),r (tV 1 (tQ (eB 2) [])),r (tQ (eB 3) (tV 2 [])),r (tC c4 (tV 3 []))],(v [(g (tP (aA 458) [])),i0]),[(436,q (tC c4 (tV 4 []))),(456,q (tQ (aA 436) (tV 3 []))),(457,q (tV 2 (tQ (aA 456) []))),(458,q (tV 2 (tP (aA 457) [])))],617⟩,
  ⟨247,[(g (tQ (aA 0) [])),i0,i0],[r (tQ (aA 1) (tV 3 [])),r (tC c4 (tV 4 []))],(v [(g (tQ (aA 248) [])),i0]),[(228,q (tC c4 (tV 4 []))),(248,q (tQ (aA 228) (tV 3 [])))],343⟩,
  ⟨247,[(g (tQ (eB 0) [])),i0,i1],[r (tC c7 (tV 0 []))],(v [(g (tQ (aA 143) [])),i0]),[(143,q (tC c7 (tV 1 [])))],206⟩,
  ⟨247,[(g (tQ (aA 0) [])),i0,i0],[r (tC c7 (tV 1 []))],(v [(g (tQ (aA 143) [])),i0]),[(143,q (tC c7 (tV 1 [])))],206⟩,
  ⟨247,[(g (tP (eB 0) [])),i0,(i 2)],[r (tV 0 (tP (eB 1) [])),r (tQ (eB 2) (tQ (eB 3) [])),r (tC c7 (tV 1 [])),r (tC c7 (tV 2 []))],(v [(g (tP (aA 464) [])),i0]),[(409,q (tC c7 (tV 3 []))),(462,q (tC c7 (tV 4 []))),(463,q (tQ (aA 409) (tQ (aA 462) []))),(464,q (tV 2 (tP (aA 463) [])))],633⟩,
  ⟨247,[(g (tQ (aA 0) [])),i0,i1],[r (tC c7 (tV 3 []))],(v [(g (tQ (aA 143) [])),i0]),[(143,q (tC c7 (tV 4 [])))],206⟩,
  ⟨247,[(g (tQ (aA 0) [])),i0,i1],[r (tC c7 (tV 4 []))],(v [(g (tQ (aA 143) [])),i0]),[(143,q (tC c7 (tV 5 [])))],206⟩,
  ⟨247,[(g (tQ (eB 0) [])),i0,(i 3)],[r (tC c7 (tV 0 []))],(v [(g (tQ (aA 143) [])),i0]),[(143,q (tC c7 (tV 3 [])))],206⟩,
  ⟨247,[(g (tP (eB 0) [])),i0,(i 3)],[r (tV 0 (tP (eB 1) [])),r (tQ (eB 2) (tQ (eB 3) [])),r (tC c7 (tV 1 [])),r (tC c7 (tV 2 []))],(v [(g (tP (aA 464) [])),i0]),[(409,q (tC c7 (tV 4 []))),(462,q (tC c7 (tV 5 []))),(463,q (tQ (aA 409) (tQ (aA 462) []))),(464,q (tV 3 (tP (aA 463) [])))],633⟩,
  ⟨247,[(g (tC c0 [])),i0,(i 2)],[],(v [(g (tC c0 [])),i0]),[],69⟩,
  ⟨247,[(g (tP (eB 0) [])),i0,i0],[r (tC c0 (t 1 0 c37 (eF 1) z [])),r [i0,j0,j0,j0,j0]],(v [(g (tP (aA 151) [])),i0]),[(151,q (tC c0 (t 1 0 c37 (eF 1) z [])))],225⟩,
  ⟨247,[(g (tQ (eB 0) [])),i0,i1],[r (tQ (eB 1) (tC c1 [])),r (tC c29 (tV 0 []))],(v [(g (tQ (aA 254) [])),i0]),[(236,q (tC c29 (tV 1 []))),(254,q (tQ (aA 236) (tC c1 [])))],359⟩,
  ⟨247,[(g (tQ (aA 0) [])),i0,i0],[r (tQ (aA 1) (tC c1 [])),r (tC c29 (tV 1 []))],(v [(g (tQ (aA 254) [])),i0]),[(236,q (tC c29 (tV 1 []))),(254,q (tQ (aA 236) (tC c1 [])))],359⟩]

theorem b7_247_0_ok : okAll (callM Tryz.prog mm6 1000 1000 300) 247 b7_247_0 = true := by decide +kernel

/-- batten/subst.Lift. -/
noncomputable def b7_247_1 : List Memo := [
  ⟨247,[(g (tP (eB 0) [])),i0,(i 2)],[r (tV 0 (tP (eB 1) [])),r (tC c0 (tP (eB 2) [])),r (tQ (eB 3) (tQ (eB 4) [])),r (tQ (eB 5) (tV 0 [])),r (tQ (eB 6) (tQ (eB 7) [])),r (tC c29 (tV 2 [])),r (tC c29 (tV 3 [])),r (tC c2 (tV 1 []))],(v [(g (tP (aA 896) [])),i0]),[(750,q (tC c29 (tV 4 []))),(770,q (tQ (aA 750) (tV 0 []))),(839,q (tC c29 (tV 5 []))),(892,q (tC c2 (tV 1 []))),(893,q (tQ (aA 839) (tQ (aA 892) []))),(894,q (tQ (aA 770) (tQ (aA 893) []))),(895,q (tC c0 (tP (aA 894) []))),(896,q (tV 2 (tP (aA 895) [])))],1213⟩,
  ⟨247,[(g (tQ (aA 0) [])),i0,i1],[r (tQ (aA 1) (tV 0 [])),r (tC c29 (tV 4 []))],(v [(g (tQ (aA 248) [])),i0]),[(228,q (tC c29 (tV 5 []))),(248,q (tQ (aA 228) (tV 1 [])))],343⟩,
  ⟨247,[(g (tQ (aA 0) [])),i0,i1],[r (tQ (aA 1) (tQ (aA 2) [])),r (tC c29 (tV 5 [])),r (tC c2 (tV 1 []))],(v [(g (tQ (aA 359) [])),i0]),[(305,q (tC c29 (tV 6 []))),(358,q (tC c2 (tV 2 []))),(359,q (tQ (aA 305) (tQ (aA 358) [])))],496⟩,
  ⟨247,[(g (tP (eB 0) [])),i0,(i 3)],[r (tC c0 (t 1 0 c37 (eF 1) z [])),r [i0,j0,j0,j0,j0]],(v [(g (tP (aA 151) [])),i0]),[(151,q (tC c0 (t 1 0 c37 (eF 1) z [])))],225⟩,
  ⟨247,[(g (tQ (eB 0) [])),i0,(i 3)],[r (tQ (eB 1) (tC c1 [])),r (tC c29 (tV 0 []))],(v [(g (tQ (aA 254) [])),i0]),[(236,q (tC c29 (tV 3 []))),(254,q (tQ (aA 236) (tC c1 [])))],359⟩,
  ⟨247,[(g (tP (eB 0) [])),i0,(i 3)],[r (tV 0 (tP (eB 1) [])),r (tC c0 (tP (eB 2) [])),r (tQ (eB 3) (tQ (eB 4) [])),r (tQ (eB 5) (tV 0 [])),r (tQ (eB 6) (tQ (eB 7) [])),r (tC c29 (tV 2 [])),r (tC c29 (tV 3 [])),r (tC c2 (tV 1 []))],(v [(g (tP (aA 896) [])),i0]),[(750,q (tC c29 (tV 5 []))),(770,q (tQ (aA 750) (tV 0 []))),(839,q (tC c29 (tV 6 []))),(892,q (tC c2 (tV 1 []))),(893,q (tQ (aA 839) (tQ (aA 892) []))),(894,q (tQ (aA 770) (tQ (aA 893) []))),(895,q (tC c0 (tP (aA 894) []))),(896,q (tV 3 (tP (aA 895) [])))],1213⟩,
  ⟨247,[(g (tQ (aA 0) [])),i0,i1],[r (tQ (aA 1) (tV 0 [])),r (tC c29 (tV 5 []))],(v [(g (tQ (aA 248) [])),i0]),[(228,q (tC c29 (tV 6 []))),(248,q (tQ (aA 228) (tV 1 [])))],343⟩,
  ⟨247,[(g (tC c33 [])),i0,i1],[],(v [(g (tC c33 [])),i0]),[],69⟩,
  ⟨247,[(g (tC c33 [])),i0,i0],[],(v [(g (tC c33 [])),i0]),[],69⟩,
  ⟨247,[(g (tP (eB 0) [])),i0,(i 2)],[r (tP (eB 1) (tC c33 [])),r (tC c0 (tC c33 []))],(v [(g (tP (aA 260) [])),i0]),[(242,q (tC c0 (tC c33 []))),(260,q (tP (aA 242) (tC c33 [])))],375⟩,
  ⟨247,[(g (tP (aA 0) [])),i0,i1],[r (tC c0 (tC c33 []))],(v [(g (tP (aA 149) [])),i0]),[(149,q (tC c0 (tC c33 [])))],222⟩,
  ⟨247,[(g (tV 0 [])),i0,i1],[],(v [(g (tV 1 [])),i0]),[],53⟩,
  ⟨247,[(g (tC c33 [])),i0,(i 3)],[],(v [(g (tC c33 [])),i0]),[],69⟩,
  ⟨247,[(g (tP (eB 0) [])),i0,(i 3)],[r (tP (eB 1) (tC c33 [])),r (tC c0 (tC c33 []))],(v [(g (tP (aA 260) [])),i0]),[(242,q (tC c0 (tC c33 []))),(260,q (tP (aA 242) (tC c33 [])))],375⟩]

theorem b7_247_1_ok : okAll (callM Tryz.prog mm6 1000 1000 300) 247 b7_247_1 = true := by decide +kernel

/-- batten/subst.Inst. -/
noncomputable def b7_319_0 : List Memo := [
  ⟨319,[(g (tP (aA 0) [])),(eF 1)],[r (t 1 0 c37 (a 2 0 1 1 40 5) z (t 1 0 c37 (a 3 0 1 1 40 5) z [])),r (tV 3 []),r [i0,j0,j0,j0,j0],r [i0,j0,j0,j0,j0]],(v [(g (tP (aA 285) [])),i0]),[(285,q (t 1 0 c37 (a 2 0 1 1 40 5) z (t 1 0 c37 (a 3 0 1 1 40 5) z [])))],360⟩,
  ⟨319,[(g (t 1 0 c37 (a 0 0 1 1 40 5) z [])),(eF 1)],[r [i0,j0,j0,j0,j0],r (tV 2 [])],(v [(g (t 1 0 c37 (a 0 0 1 1 40 5) z [])),i0]),[],135⟩,
  ⟨319,[(g (t 1 0 c37 (a 0 0 1 1 40 5) z [])),(eF 1)],[r [i0,j0,j0,j0,j0],r (tV 0 [])],(v [(g (t 1 0 c37 (a 0 0 1 1 40 5) z [])),i0]),[],135⟩,
  ⟨319,[(g (t 1 0 c37 (a 0 0 1 1 40 5) z [])),(eF 1)],[r [i0,j0,j0,j0,j0],r (tV 1 [])],(v [(g (t 1 0 c37 (a 0 0 1 1 40 5) z [])),i0]),[],135⟩,
  ⟨319,[(g (tP (aA 0) [])),(eF 1)],[r (tC c0 (t 1 0 c37 (a 2 0 1 1 40 5) z [])),r (tV 0 []),r [i0,j0,j0,j0,j0]],(v [(g (tP (aA 282) [])),i0]),[(282,q (tC c0 (t 1 0 c37 (a 2 0 1 1 40 5) z [])))],356⟩,
  ⟨319,[(g (t 1 0 c37 (a 0 0 1 1 40 5) z [])),(eF 1)],[r [i0,j0,j0,j0,j0],r (tC c1 [])],(v [(g (t 1 0 c37 (a 0 0 1 1 40 5) z [])),i0]),[],145⟩,
  ⟨319,[(g (tP (aA 0) [])),(eF 1)],[r (tC c0 (t 1 0 c37 (a 2 0 1 1 40 5) z [])),r (tV 2 []),r [i0,j0,j0,j0,j0]],(v [(g (tP (aA 282) [])),i0]),[(282,q (tC c0 (t 1 0 c37 (a 2 0 1 1 40 5) z [])))],356⟩,
  ⟨319,[(g (tP (aA 0) [])),(eF 1)],[r (tC c0 (t 1 0 c37 (a 2 0 1 1 40 5) z [])),r (tV 3 []),r [i0,j0,j0,j0,j0]],(v [(g (tP (aA 282) [])),i0]),[(282,q (tC c0 (t 1 0 c37 (a 2 0 1 1 40 5) z [])))],356⟩,
  ⟨319,[(g (tC c0 [])),(eF 0)],[r (tV 1 [])],(v [(g (tC c0 [])),i0]),[],131⟩,
  ⟨319,[(g (t 1 0 c37 (a 0 0 1 1 40 5) z [])),(eF 1)],[r [i0,j0,j0,j0,j0],r (tQ (eB 2) []),r (tC c2 (tV 1 []))],(v [(g (t 1 0 c37 (a 0 0 1 1 40 5) z [])),i0]),[],204⟩]

theorem b7_319_0_ok : okAll (callM Tryz.prog mm6 1000 1000 300) 319 b7_319_0 = true := by decide +kernel

end Go.Proofs.YtlkpolcojgoafaaGreat
