/- Runs of functions in small memories (printed by a program), level 9. -/
import Derived.Test.YtlkpolcojgoafaaGreatM8
import Derived.Test.YtlkpolcojgoafaaGreatStr
set_option linter.unusedVariables false
set_option linter.unusedSimpArgs false
set_option linter.unusedSectionVars false
set_option maxRecDepth 100000
namespace Go.Proofs.YtlkpolcojgoafaaGreat
open Go Go.Proofs.Bx Go.Proofs.Bx.Sh

/-- batten/reduce.Head. -/
noncomputable def b9_251_0 : List Memo := [
  ⟨251,[(p 0 0),(g (t 1 0 c37 (eF 1) z [])),(y (Int.ofNat 0) 0)],[n,r [i1,j0,j0,j0,j0]],(v [(g (t 1 0 c37 (eF 1) z [])),(y (Int.ofNat 0) 0),i0]),[],237⟩,
  ⟨251,[(p 0 0),(g (t 1 0 c37 (a 1 0 1 1 40 5) z [])),(y (Int.ofNat 0) 0)],[n,r [i0,j0,j0,j0,j0]],(v [(g (t 1 0 c37 (a 1 0 1 1 40 5) z [])),(y (Int.ofNat 0) 0),i0]),[],237⟩,
  ⟨251,[(p 0 0),(g (t 1 0 c37 (eF 1) z [])),(y (Int.ofNat 0) 0)],[n,r [i0,j0,j0,j0,j0]],(v [(g (t 1 0 c37 (eF 1) z [])),(y (Int.ofNat 0) 0),i0]),[],237⟩,
  ⟨251,[(p 0 0),(g (tP (aA 1) [])),(y (Int.ofNat 0) 0)],[n,r (t 1 0 c37 (a 2 0 1 1 40 5) z (tP (aA 3) [])),r [i0,j0,j0,j0,j0],r (t 1 0 c37 (a 4 0 1 1 40 5) z (t 1 0 c37 (a 5 0 1 1 40 5) z [])),r [i0,j0,j0,j0,j0],r [i0,j0,j0,j0,j0]],(v [(g (tP (aA 1) [])),(y (Int.ofNat 0) 0),i0]),[],757⟩,
  ⟨251,[(p 0 0),(g (tP (aA 1) [])),(y (Int.ofNat 0) 0)],[n,r (t 1 0 c37 (a 2 0 1 1 40 5) z (t 1 0 c37 (a 3 0 1 1 40 5) z [])),r [i0,j0,j0,j0,j0],r [i0,j0,j0,j0,j0]],(v [(g (tP (aA 1) [])),(y (Int.ofNat 0) 0),i0]),[],497⟩,
  ⟨251,[(p 0 0),(g (tP (aA 1) [])),(y (Int.ofNat 0) 0)],[n,r (t 1 0 c37 (a 2 0 1 1 40 5) z (tP (aA 3) [])),r [i0,j0,j0,j0,j0],r (tC c0 (t 1 0 c37 (a 4 0 1 1 40 5) z [])),r [i0,j0,j0,j0,j0]],(v [(g (tP (aA 1) [])),(y (Int.ofNat 0) 0),i0]),[],750⟩,
  ⟨251,[(p 0 0),(g (tP (aA 1) [])),(y (Int.ofNat 0) 0)],[n,r (tC c0 (t 1 0 c37 (a 2 0 1 1 40 5) z [])),r [i0,j0,j0,j0,j0]],(v [(g (tP (aA 1) [])),(y (Int.ofNat 0) 0),i0]),[],490⟩,
  ⟨251,[(p 0 0),(g (tP (aA 1) [])),(y (Int.ofNat 0) 0)],[n,r (tC c0 (tC c0 []))],(v [(g (tP (aA 1) [])),(y (Int.ofNat 0) 0),i0]),[],483⟩]

theorem b9_251_0_ok : okAll (callM Tryz.prog mm8 1000 1000 300) 251 b9_251_0 = true := by decide +kernel

/-- batten/equal.Alike. -/
noncomputable def b9_77_0 : List Memo := [
  ⟨77,[(p 0 0),(g (t 1 0 c37 (eF 1) z [])),(g (t 1 0 c37 (a 2 0 1 1 40 5) z [])),(y (Int.ofNat 0) 0)],[n,r [i0,j0,j0,j0,j0],r [i0,j0,j0,j0,j0]],(v [(u 1),(y (Int.ofNat 0) 0),i0]),[],233⟩,
  ⟨77,[(p 0 0),(g (tC c0 [])),(g (tC c0 [])),(y (Int.ofNat 0) 0)],[r [(.map (some 1)),(a 2 0 21 21 16 1)],some (.mapR [(c0,(g ((u 4)::(c0::(i0::(t 1 0 c37 (eF 3) z (t 0 0 c37 z z (i0::(c0::(c0::(i0::(i0::(i0::(i0::(i0::(i0::(z::((i 2)::(bf::[])))))))))))))))))),0),(c1,x,1),(c2,x,2),(c3,x,3),(c4,x,4),(c5,x,5),(c6,x,6),(c7,x,7),(c8,x,8),(c9,x,9),(c10,x,10),(c11,x,11),(c12,x,12),(c13,x,13),(c14,x,14),(c15,x,15),(c16,x,16),(c17,x,17),(c18,x,18),(c19,x,19),(c29,x,20)] 21),n,n],(v [(u 1),(y (Int.ofNat 0) 0),i0]),[],403⟩]

theorem b9_77_0_ok : okAll (callM Tryz.prog mm8 1000 1000 300) 77 b9_77_0 = true := by decide +kernel

/-- batten/lazy.Alike. -/
noncomputable def b9_78_0 : List Memo := [
  ⟨78,[(p 0 0),(g (t 1 0 c37 (eF 1) z [])),(g (t 1 0 c37 (a 2 0 1 1 40 5) z [])),(y (Int.ofNat 0) 0)],[n,r [i0,j0,j0,j0,j0],r [i0,j0,j0,j0,j0]],(v [(u 1),(y (Int.ofNat 0) 0),i0]),[],271⟩,
  ⟨78,[(p 0 0),(g (tC c0 [])),(g (tC c0 [])),(y (Int.ofNat 0) 0)],[r [(.map (some 1)),(a 2 0 21 21 16 1)],some (.mapR [(c0,(g ((u 4)::(c0::(i0::(t 1 0 c37 (eF 3) z (t 0 0 c37 z z (i0::(c0::(c0::(i0::(i0::(i0::(i0::(i0::(i0::(z::((i 2)::(bf::[])))))))))))))))))),0),(c1,x,1),(c2,x,2),(c3,x,3),(c4,x,4),(c5,x,5),(c6,x,6),(c7,x,7),(c8,x,8),(c9,x,9),(c10,x,10),(c11,x,11),(c12,x,12),(c13,x,13),(c14,x,14),(c15,x,15),(c16,x,16),(c17,x,17),(c18,x,18),(c19,x,19),(c29,x,20)] 21),n,n],(v [(u 1),(y (Int.ofNat 0) 0),i0]),[],537⟩]

theorem b9_78_0_ok : okAll (callM Tryz.prog mm8 1000 1000 300) 78 b9_78_0 = true := by decide +kernel

end Go.Proofs.YtlkpolcojgoafaaGreat
