/- Runs of functions in small memories (printed by a program), level 3. -/
import Derived.Test.YthfppcmphkljkaaGreatM2
import Derived.Test.YthfppcmphkljkaaGreatStr
set_option linter.unusedVariables false
set_option linter.unusedSimpArgs false
set_option linter.unusedSectionVars false
set_option maxRecDepth 100000
namespace Go.Proofs.YthfppcmphkljkaaGreat
open Go Go.Proofs.Bx Go.Proofs.Bx.Sh

/-- batten/term.May. -/
noncomputable def b3_34_18 : List Memo := [
  ⟨34,[(g (tP (aA 0) []))],[r (tC c0 (tP (aA 1) [])),r (tQ (aA 2) (tP (aA 3) [])),r (tQ (aA 4) (tV 0 [])),r (tQ (aA 5) (tQ (aA 6) [])),r (tC c27 (tV 8 [])),r (tQ (aA 7) (tV 0 [])),r (tQ (aA 8) (tQ (aA 9) [])),r (tV 8 (tV 1 [])),r (tV 9 (tQ (aA 10) [])),r (tQ (aA 11) (tV 1 [])),r (tC c2 (tV 2 [])),r (tQ (aA 12) (tV 2 [])),r (tQ (aA 13) (tV 3 [])),r (tC c29 (tV 10 []))],bt,[],520⟩,
  ⟨34,[(g (tP (aA 0) []))],[r (tC c0 (tP (aA 1) [])),r (tQ (aA 2) (tP (aA 3) [])),r (tQ (aA 4) (tV 0 [])),r (tQ (aA 5) (tQ (aA 6) [])),r (tC c27 (tV 7 [])),r (tQ (aA 7) (tV 0 [])),r (tQ (aA 8) (tQ (aA 9) [])),r (tV 7 (tV 1 [])),r (tV 8 (tQ (aA 10) [])),r (tQ (aA 11) (tV 1 [])),r (tC c2 (tV 2 [])),r (tQ (aA 12) (tV 2 [])),r (tQ (aA 13) (tV 5 [])),r (tC c29 (tV 9 []))],bt,[],520⟩,
  ⟨34,[(g (tP (aA 0) []))],[r (tQ (aA 1) (tP (aA 2) [])),r (tQ (aA 3) (tV 0 [])),r (tQ (aA 4) (tQ (aA 5) [])),r (tC c27 (tV 7 [])),r (tQ (aA 6) (tV 0 [])),r (tQ (aA 7) (tQ (aA 8) [])),r (tV 7 (tV 1 [])),r (tV 8 (tQ (aA 9) [])),r (tQ (aA 10) (tV 1 [])),r (tC c2 (tV 2 [])),r (tQ (aA 11) (tV 2 [])),r (tQ (aA 12) (tV 5 [])),r (tC c29 (tV 9 []))],bt,[],477⟩,
  ⟨34,[(g (tP (aA 0) []))],[r (tQ (aA 1) (tP (aA 2) [])),r (tQ (aA 3) (tV 1 [])),r (tQ (aA 4) (tQ (aA 5) [])),r (tC c27 (tV 6 [])),r (tQ (aA 6) (tV 0 [])),r (tQ (aA 7) (tQ (aA 8) [])),r (tV 6 (tV 2 [])),r (tV 7 (tQ (aA 9) [])),r (tQ (aA 10) (tV 1 [])),r (tC c2 (tV 3 [])),r (tQ (aA 11) (tV 3 [])),r (tQ (aA 12) (tV 4 [])),r (tC c29 (tV 8 []))],bt,[],477⟩,
  ⟨34,[(g (tP (aA 0) []))],[r (tQ (aA 1) (tQ (aA 2) [])),r (tQ (aA 3) (tV 0 [])),r (tQ (aA 4) (tQ (aA 5) [])),r (tV 6 (tV 2 [])),r (tV 7 (tQ (aA 6) [])),r (tQ (aA 7) (tV 1 [])),r (tC c2 (tV 3 [])),r (tQ (aA 8) (tV 3 [])),r (tQ (aA 9) (tV 4 [])),r (tC c29 (tV 8 []))],bt,[],368⟩,
  ⟨34,[(g (tP (aA 0) []))],[r (tQ (aA 1) (tQ (aA 2) [])),r (tQ (aA 3) (tV 0 [])),r (tQ (aA 4) (tQ (aA 5) [])),r (tV 5 (tV 1 [])),r (tV 6 (tQ (aA 6) [])),r (tQ (aA 7) (tV 1 [])),r (tC c2 (tV 2 [])),r (tQ (aA 8) (tV 2 [])),r (tQ (aA 9) (tV 3 [])),r (tC c29 (tV 7 []))],bt,[],368⟩,
  ⟨34,[(g (tP (aA 0) []))],[r (tQ (aA 1) (tQ (aA 2) [])),r (tQ (aA 3) (tV 1 [])),r (tQ (aA 4) (tV 0 [])),r (tC c27 (tV 6 [])),r (tV 6 (tV 2 []))],bt,[],193⟩,
  ⟨34,[(g (tQ (aA 0) []))],[r (tQ (aA 1) (tV 0 [])),r (tV 6 (tV 2 []))],bt,[],84⟩,
  ⟨34,[(g (tQ (aA 0) []))],[r (tQ (aA 1) (tV 0 [])),r (tV 5 (tV 1 []))],bt,[],84⟩,
  ⟨34,[(g (tQ (aA 0) []))],[r (tQ (aA 1) (tQ (aA 2) [])),r (tV 6 (tQ (aA 3) [])),r (tQ (aA 4) (tV 1 [])),r (tC c2 (tV 2 [])),r (tQ (aA 5) (tV 2 [])),r (tQ (aA 6) (tV 3 [])),r (tC c29 (tV 7 []))],bt,[],269⟩,
  ⟨34,[(g (tQ (aA 0) []))],[r (tQ (aA 1) (tV 0 [])),r (tQ (aA 2) (tV 1 [])),r (tQ (aA 3) (tV 3 [])),r (tQ (aA 4) (tV 4 [])),r (tQ (aA 5) (tV 5 [])),r (t 3 0 c30 (a 6 0 1 1 40 5) z (tV 6 [])),r [i0,i0,j0,j0,j0]],bt,[],238⟩,
  ⟨34,[(g (tC c31 []))],[],bt,[],28⟩,
  ⟨34,[(g (tP (eB 0) []))],[r (tP (eB 1) (tC c31 [])),r (tC c0 (tC c31 []))],bt,[],114⟩,
  ⟨34,[(g (tP (aA 0) []))],[r (tP (aA 1) (tC c31 [])),r (tC c0 (tC c31 []))],bt,[],114⟩,
  ⟨34,[(g (tP (aA 0) []))],[r (tC c0 (tC c31 []))],bt,[],71⟩,
  ⟨34,[(g (tP (eB 0) []))],[r (tP (eB 1) (tP (eB 2) [])),r (tC c31 (t 1 0 c35 (eF 3) z [])),r (tQ (eB 4) (tP (eB 5) [])),r [i0,i0,j0,j0,j0],r (tV 0 (tC c32 [])),r (tP (eB 6) (tP (eB 7) [])),r (tP (aA 8) (tP (eB 9) [])),r (tC c31 (tQ (eB 10) [])),r (tC c0 (tC c31 [])),r (tP (eB 11) (tQ (eB 12) [])),r (tV 3 (tV 0 [])),r (tC c0 (tQ (eB 13) [])),r (tV 3 (tQ (eB 14) [])),r (tV 3 (tQ (eB 15) [])),r (tC c33 (tV 1 [])),r (tV 1 (tV 0 []))],bt,[],595⟩]

theorem b3_34_18_ok : okAll (callM Tryz.prog mm2 1000 1000 300) 34 b3_34_18 = true := by decide +kernel

/-- batten/term.May. -/
noncomputable def b3_34_19 : List Memo := [
  ⟨34,[(g (tL (eB 0) []))],[r (tP (eB 1) (tL (eB 2) [])),r (tC c31 (t 1 0 c35 (eF 3) z [])),r (tQ (eB 4) (tL (eB 5) [])),r [i0,i0,j0,j0,j0],r (tV 0 (tC c32 [])),r (tP (eB 6) (tV 1 [])),r (tP (aA 7) (tP (eB 8) [])),r (tC c0 (tC c31 [])),r (tP (eB 9) (tQ (eB 10) [])),r (tC c0 (tQ (eB 11) [])),r (tV 3 (tQ (eB 12) [])),r (tV 3 (tQ (eB 13) [])),r (tC c33 (tV 1 [])),r (tV 1 (tV 0 []))],bt,[],519⟩,
  ⟨34,[(g (tL (eB 0) []))],[r (tP (eB 1) (tL (eB 2) [])),r (tC c31 (t 1 0 c35 (eF 3) z [])),r (tQ (eB 4) (tL (eB 5) [])),r [i0,i0,j0,j0,j0],r (tV 0 (tC c32 [])),r (tP (eB 6) (tL (eB 7) [])),r (tP (aA 8) (tP (eB 9) [])),r (tP (aA 10) (tQ (eB 11) [])),r (tC c0 (tC c31 [])),r (tP (eB 12) (tQ (eB 13) [])),r (tC c0 (tC c31 [])),r (tQ (eB 14) (tL (eB 15) [])),r (tC c0 (tQ (eB 16) [])),r (tV 3 (tQ (eB 17) [])),r (tV 1 (tV 0 [])),r (tC c0 (tQ (eB 18) [])),r (tV 3 (tQ (eB 19) [])),r (tC c33 (tV 1 [])),r (tQ (eB 20) (tQ (eB 21) [])),r (tV 1 (tV 0 [])),r (tQ (eB 22) (tV 2 [])),r (tV 1 (tV 0 [])),r (tQ (eB 23) (tV 3 [])),r (t 3 0 c34 (a 24 0 1 1 40 5) z (tV 4 [])),r [i0,i0,j0,j0,j0]],bt,[],901⟩,
  ⟨34,[(g (tP (eB 0) []))],[r (tC c31 (t 1 0 c35 (eF 1) z [])),r [i0,i0,j0,j0,j0]],bt,[],73⟩,
  ⟨34,[(g (tP (aA 0) []))],[r (tC c31 (t 1 0 c35 (eF 1) z [])),r [i0,i0,j0,j0,j0]],bt,[],73⟩,
  ⟨34,[(g (tC c32 []))],[],bt,[],28⟩,
  ⟨34,[(g (tQ (eB 0) []))],[r (tV 1 (tV 0 []))],bt,[],51⟩,
  ⟨34,[(g (tC c33 []))],[],bt,[],28⟩,
  ⟨34,[(g (tQ (eB 0) []))],[r (tC c33 (tV 1 []))],bt,[],61⟩,
  ⟨34,[(g (tQ (eB 0) []))],[r (tV 0 (tC c32 []))],bt,[],61⟩,
  ⟨34,[(g (tP (eB 0) []))],[r (tP (aA 1) (tP (eB 2) [])),r (tC c0 (tC c31 [])),r (tP (eB 3) (tQ (eB 4) [])),r (tC c0 (tQ (eB 5) [])),r (tV 3 (tQ (eB 6) [])),r (tV 3 (tQ (eB 7) [])),r (tC c33 (tV 1 [])),r (tV 1 (tV 0 []))],bt,[],322⟩,
  ⟨34,[(g (tQ (eB 0) []))],[r (tQ (eB 1) (tC c32 [])),r (tQ (eB 2) (tV 0 [])),r (tQ (eB 3) (tV 1 [])),r (t 3 0 c34 (a 4 0 1 1 40 5) z (tV 2 [])),r [i0,i0,j0,j0,j0]],bt,[],182⟩,
  ⟨34,[(g (t 3 0 c34 (a 0 0 1 1 40 5) z []))],[r [i0,i0,j0,j0,j0]],bt,[],40⟩,
  ⟨34,[(g (tP (aA 0) []))],[r (tP (aA 1) (tP (aA 2) [])),r (tC c31 (t 1 0 c35 (a 3 0 1 1 40 5) z [])),r (tQ (aA 4) (tP (aA 5) [])),r [i0,i0,j0,j0,j0],r (tV 0 (tC c32 [])),r (tP (aA 6) (tP (aA 7) [])),r (tP (aA 8) (tP (aA 9) [])),r (tC c31 (tQ (aA 10) [])),r (tC c0 (tC c31 [])),r (tP (aA 11) (tQ (aA 12) [])),r (tV 3 (tV 0 [])),r (tC c0 (tQ (aA 13) [])),r (tV 3 (tQ (aA 14) [])),r (tV 3 (tQ (aA 15) [])),r (tC c33 (tV 1 [])),r (tV 1 (tV 0 []))],bt,[],595⟩,
  ⟨34,[(g (tP (aA 0) []))],[r (tC c31 (t 1 0 c35 (a 1 0 1 1 40 5) z [])),r [i0,i0,j0,j0,j0]],bt,[],73⟩,
  ⟨34,[(g (tP (aA 0) []))],[r (tQ (aA 1) (tP (aA 2) [])),r (tV 0 (tC c32 [])),r (tP (aA 3) (tP (aA 4) [])),r (tP (aA 5) (tP (aA 6) [])),r (tC c31 (tQ (aA 7) [])),r (tC c0 (tC c31 [])),r (tP (aA 8) (tQ (aA 9) [])),r (tV 3 (tV 0 [])),r (tC c0 (tQ (aA 10) [])),r (tV 3 (tQ (aA 11) [])),r (tV 3 (tQ (aA 12) [])),r (tC c33 (tV 1 [])),r (tV 1 (tV 0 []))],bt,[],507⟩,
  ⟨34,[(g (tP (aA 0) []))],[r (tQ (aA 1) (tP (aA 2) [])),r (tV 2 (tC c32 [])),r (tP (aA 3) (tP (aA 4) [])),r (tP (aA 5) (tP (aA 6) [])),r (tC c31 (tQ (aA 7) [])),r (tC c0 (tC c31 [])),r (tP (aA 8) (tQ (aA 9) [])),r (tV 5 (tV 0 [])),r (tC c0 (tQ (aA 10) [])),r (tV 5 (tQ (aA 11) [])),r (tV 5 (tQ (aA 12) [])),r (tC c33 (tV 1 [])),r (tV 1 (tV 0 []))],bt,[],507⟩,
  ⟨34,[(g (tQ (aA 0) []))],[r (tV 2 (tC c32 []))],bt,[],61⟩,
  ⟨34,[(g (tP (aA 0) []))],[r (tP (aA 1) (tP (aA 2) [])),r (tP (aA 3) (tP (aA 4) [])),r (tC c31 (tQ (aA 5) [])),r (tC c0 (tC c31 [])),r (tP (aA 6) (tQ (aA 7) [])),r (tV 5 (tV 0 [])),r (tC c0 (tQ (aA 8) [])),r (tV 5 (tQ (aA 9) [])),r (tV 5 (tQ (aA 10) [])),r (tC c33 (tV 1 [])),r (tV 1 (tV 0 []))],bt,[],431⟩,
  ⟨34,[(g (tP (aA 0) []))],[r (tP (aA 1) (tP (aA 2) [])),r (tP (aA 3) (tP (aA 4) [])),r (tC c31 (tQ (aA 5) [])),r (tC c0 (tC c31 [])),r (tP (aA 6) (tQ (aA 7) [])),r (tV 4 (tV 0 [])),r (tC c0 (tQ (aA 8) [])),r (tV 4 (tQ (aA 9) [])),r (tV 4 (tQ (aA 10) [])),r (tC c33 (tV 1 [])),r (tV 1 (tV 0 []))],bt,[],431⟩]

theorem b3_34_19_ok : okAll (callM Tryz.prog mm2 1000 1000 300) 34 b3_34_19 = true := by decide +kernel

/-- batten/term.May. -/
noncomputable def b3_34_20 : List Memo := [
  ⟨34,[(g (tP (aA 0) []))],[r (tP (aA 1) (tP (aA 2) [])),r (tC c0 (tC c31 [])),r (tP (aA 3) (tQ (aA 4) [])),r (tC c0 (tQ (aA 5) [])),r (tV 4 (tQ (aA 6) [])),r (tV 4 (tQ (aA 7) [])),r (tC c33 (tV 1 [])),r (tV 1 (tV 0 []))],bt,[],322⟩,
  ⟨34,[(g (tP (aA 0) []))],[r (tC c31 (tQ (aA 1) [])),r (tV 4 (tV 0 []))],bt,[],94⟩,
  ⟨34,[(g (tP (aA 0) []))],[r (tC c31 (tQ (aA 1) [])),r (tV 3 (tV 0 []))],bt,[],94⟩,
  ⟨34,[(g (tQ (aA 0) []))],[r (tV 3 (tV 0 []))],bt,[],51⟩,
  ⟨34,[(g (tQ (eB 0) []))],[r (tQ (eB 1) (tQ (eB 2) [])),r (tQ (eB 3) (tV 1 [])),r (tC c33 (tV 0 [])),r (tQ (eB 4) (tV 2 [])),r (t 3 0 c34 (a 5 0 1 1 40 5) z (tV 3 [])),r [i0,i0,j0,j0,j0]],bt,[],215⟩,
  ⟨34,[(g (tP (aA 0) []))],[r (tQ (aA 1) (tP (aA 2) [])),r (tV 3 (tC c32 [])),r (tP (aA 3) (tP (aA 4) [])),r (tP (aA 5) (tP (aA 6) [])),r (tC c31 (tQ (aA 7) [])),r (tC c0 (tC c31 [])),r (tP (aA 8) (tQ (aA 9) [])),r (tV 6 (tV 0 [])),r (tC c0 (tQ (aA 10) [])),r (tV 6 (tQ (aA 11) [])),r (tV 6 (tQ (aA 12) [])),r (tC c33 (tV 1 [])),r (tV 1 (tV 0 []))],bt,[],507⟩,
  ⟨34,[(g (tQ (aA 0) []))],[r (tV 3 (tC c32 []))],bt,[],61⟩,
  ⟨34,[(g (tP (aA 0) []))],[r (tP (aA 1) (tP (aA 2) [])),r (tP (aA 3) (tP (aA 4) [])),r (tC c31 (tQ (aA 5) [])),r (tC c0 (tC c31 [])),r (tP (aA 6) (tQ (aA 7) [])),r (tV 6 (tV 0 [])),r (tC c0 (tQ (aA 8) [])),r (tV 6 (tQ (aA 9) [])),r (tV 6 (tQ (aA 10) [])),r (tC c33 (tV 1 [])),r (tV 1 (tV 0 []))],bt,[],431⟩,
  ⟨34,[(g (tP (aA 0) []))],[r (tP (aA 1) (tP (aA 2) [])),r (tC c0 (tC c31 [])),r (tP (aA 3) (tQ (aA 4) [])),r (tC c0 (tQ (aA 5) [])),r (tV 5 (tQ (aA 6) [])),r (tV 5 (tQ (aA 7) [])),r (tC c33 (tV 1 [])),r (tV 1 (tV 0 []))],bt,[],322⟩,
  ⟨34,[(g (tP (aA 0) []))],[r (tC c31 (tQ (aA 1) [])),r (tV 5 (tV 0 []))],bt,[],94⟩,
  ⟨34,[(g (tQ (eB 0) []))],[r (tC c33 (tV 0 []))],bt,[],61⟩,
  ⟨34,[(g (tQ (aA 0) []))],[r (tV 3 (tQ (aA 1) [])),r (tC c33 (tV 0 []))],bt,[],94⟩,
  ⟨34,[(g (tQ (aA 0) []))],[r (tQ (aA 1) (tL (aA 2) [])),r (tV 1 (tV 0 [])),r (tC c0 (tQ (aA 3) [])),r (tQ (aA 4) (tQ (aA 5) [])),r (tQ (aA 6) (tV 2 [])),r (tV 1 (tV 0 [])),r (tQ (aA 7) (tV 3 [])),r (t 3 0 c34 (a 8 0 1 1 40 5) z (tV 4 [])),r [i0,i0,j0,j0,j0]],bt,[],314⟩,
  ⟨34,[(g (tP (aA 0) []))],[r (tP (aA 1) (tQ (aA 2) [])),r (tC c0 (tQ (aA 3) [])),r (tV 5 (tQ (aA 4) [])),r (tV 5 (tQ (aA 5) [])),r (tC c33 (tV 1 [])),r (tV 1 (tV 0 []))],bt,[],236⟩,
  ⟨34,[(g (tP (aA 0) []))],[r (tP (aA 1) (tQ (aA 2) [])),r (tC c0 (tQ (aA 3) [])),r (tV 4 (tQ (aA 4) [])),r (tV 4 (tQ (aA 5) [])),r (tC c33 (tV 1 [])),r (tV 1 (tV 0 []))],bt,[],236⟩,
  ⟨34,[(g (tP (aA 0) []))],[r (tQ (aA 1) (tP (aA 2) [])),r (tV 4 (tC c32 [])),r (tP (aA 3) (tP (aA 4) [])),r (tP (aA 5) (tP (aA 6) [])),r (tC c31 (tQ (aA 7) [])),r (tC c0 (tC c31 [])),r (tP (aA 8) (tQ (aA 9) [])),r (tV 7 (tV 0 [])),r (tC c0 (tQ (aA 10) [])),r (tV 7 (tQ (aA 11) [])),r (tV 7 (tQ (aA 12) [])),r (tC c33 (tV 1 [])),r (tV 1 (tV 0 []))],bt,[],507⟩,
  ⟨34,[(g (tQ (aA 0) []))],[r (tV 4 (tC c32 []))],bt,[],61⟩,
  ⟨34,[(g (tP (aA 0) []))],[r (tP (aA 1) (tP (aA 2) [])),r (tP (aA 3) (tP (aA 4) [])),r (tC c31 (tQ (aA 5) [])),r (tC c0 (tC c31 [])),r (tP (aA 6) (tQ (aA 7) [])),r (tV 7 (tV 0 [])),r (tC c0 (tQ (aA 8) [])),r (tV 7 (tQ (aA 9) [])),r (tV 7 (tQ (aA 10) [])),r (tC c33 (tV 1 [])),r (tV 1 (tV 0 []))],bt,[],431⟩,
  ⟨34,[(g (tP (aA 0) []))],[r (tP (aA 1) (tP (aA 2) [])),r (tC c0 (tC c31 [])),r (tP (aA 3) (tQ (aA 4) [])),r (tC c0 (tQ (aA 5) [])),r (tV 6 (tQ (aA 6) [])),r (tV 6 (tQ (aA 7) [])),r (tC c33 (tV 1 [])),r (tV 1 (tV 0 []))],bt,[],322⟩,
  ⟨34,[(g (tP (aA 0) []))],[r (tC c31 (tQ (aA 1) [])),r (tV 6 (tV 0 []))],bt,[],94⟩,
  ⟨34,[(g (tQ (aA 0) []))],[r (tV 1 (tV 0 []))],bt,[],51⟩,
  ⟨34,[(g (tQ (aA 0) []))],[r (tV 4 (tQ (aA 1) [])),r (tV 1 (tV 0 []))],bt,[],84⟩,
  ⟨34,[(g (tP (eB 0) []))],[r (tC c0 (tQ (aA 1) [])),r (tV 4 (tQ (aA 2) [])),r (tV 1 (tV 0 []))],bt,[],127⟩]

theorem b3_34_20_ok : okAll (callM Tryz.prog mm2 1000 1000 300) 34 b3_34_20 = true := by decide +kernel

/-- batten/term.May. -/
noncomputable def b3_34_21 : List Memo := [
  ⟨34,[(g (tP (aA 0) []))],[r (tC c0 (tQ (aA 1) [])),r (tV 4 (tQ (aA 2) [])),r (tV 1 (tV 0 []))],bt,[],127⟩,
  ⟨34,[(g (tQ (aA 0) []))],[r (tV 4 (tQ (aA 1) [])),r (tC c33 (tV 1 []))],bt,[],94⟩,
  ⟨34,[(g (tL (aA 0) []))],[r (tC c0 (tQ (aA 1) [])),r (tQ (aA 2) (tQ (aA 3) [])),r (tQ (aA 4) (tV 2 [])),r (tV 1 (tV 0 [])),r (tQ (aA 5) (tV 3 [])),r (t 3 0 c34 (a 6 0 1 1 40 5) z (tV 4 [])),r [i0,i0,j0,j0,j0]],bt,[],248⟩]

theorem b3_34_21_ok : okAll (callM Tryz.prog mm2 1000 1000 300) 34 b3_34_21 = true := by decide +kernel

end Go.Proofs.YthfppcmphkljkaaGreat
