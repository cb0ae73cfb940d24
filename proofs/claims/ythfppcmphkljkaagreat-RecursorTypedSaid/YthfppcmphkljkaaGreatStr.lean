/- The strings that come up. -/
import Derived.Test.YthfppcmphkljkaaGreatBxC
set_option linter.unusedVariables false
set_option linter.unusedSimpArgs false
set_option linter.unusedSectionVars false
namespace Go.Proofs.YthfppcmphkljkaaGreat
open Go Go.Proofs.Bx

noncomputable def c0 : AV := Sh.s [78]
noncomputable def c1 : AV := Sh.s [78, 46, 122, 101, 114, 111]
noncomputable def c2 : AV := Sh.s [78, 46, 115, 117, 99, 99]
noncomputable def c3 : AV := Sh.s [78, 46, 114, 101, 99]
noncomputable def c4 : AV := Sh.s [80, 97, 105, 114]
noncomputable def c5 : AV := Sh.s [80, 97, 105, 114, 46, 109, 107]
noncomputable def c6 : AV := Sh.s [80, 97, 105, 114, 46, 114, 101, 99]
noncomputable def c7 : AV := Sh.s [76, 105, 115, 116]
noncomputable def c8 : AV := Sh.s [76, 105, 115, 116, 46, 110, 105, 108]
noncomputable def c9 : AV := Sh.s [76, 105, 115, 116, 46, 99, 111, 110, 115]
noncomputable def c10 : AV := Sh.s [76, 105, 115, 116, 46, 114, 101, 99]
noncomputable def c11 : AV := Sh.s [97]
noncomputable def c12 : AV := Sh.s [102]
noncomputable def c13 : AV := Sh.s [112]
noncomputable def c14 : AV := Sh.s [97, 100, 100]
noncomputable def c15 : AV := Sh.s [111, 110, 101]
noncomputable def c16 : AV := Sh.s [100, 111, 117, 98, 108, 101]
noncomputable def c17 : AV := Sh.s [105, 100]
noncomputable def c18 : AV := Sh.s [115, 119, 97, 112]
noncomputable def c19 : AV := Sh.s [116, 104, 109]
noncomputable def c20 : AV := Sh.s [70, 111, 114, 101, 115, 116]
noncomputable def c21 : AV := Sh.s [84, 114, 101, 101]
noncomputable def c22 : AV := Sh.s [84, 114, 101, 101, 46, 111, 102]
noncomputable def c23 : AV := Sh.s [70, 111, 114, 101, 115, 116, 46, 110, 111, 110, 101]
noncomputable def c24 : AV := Sh.s [70, 111, 114, 101, 115, 116, 46, 109, 111, 114, 101]
noncomputable def c25 : AV := Sh.s [70, 111, 114, 101, 115, 116, 46, 114, 101, 99]
noncomputable def c26 : AV := Sh.s [84, 114, 101, 101, 46, 114, 101, 99]
noncomputable def c27 : AV := Sh.s [86, 101, 99]
noncomputable def c28 : AV := Sh.s [86, 101, 99, 46, 110, 105, 108]
noncomputable def c29 : AV := Sh.s [86, 101, 99, 46, 99, 111, 110, 115]
noncomputable def c30 : AV := Sh.s [86, 101, 99, 46, 114, 101, 99]
noncomputable def c31 : AV := Sh.s [79, 114, 100]
noncomputable def c32 : AV := Sh.s [79, 114, 100, 46, 122, 101, 114, 111]
noncomputable def c33 : AV := Sh.s [79, 114, 100, 46, 108, 105, 109]
noncomputable def c34 : AV := Sh.s [79, 114, 100, 46, 114, 101, 99]
noncomputable def c35 : AV := Sh.s []

/-- Shorter words for what comes up often. -/
noncomputable def tV (n : Nat) (l : List AV) : List AV := Sh.t 2 n c35 Sh.z Sh.z l
noncomputable def tC (c : AV) (l : List AV) : List AV := Sh.t 3 0 c Sh.z Sh.z l
noncomputable def tP (x : AV) (l : List AV) : List AV := Sh.t 6 0 c35 Sh.z x l
noncomputable def tQ (x : AV) (l : List AV) : List AV := Sh.t 4 0 c35 Sh.z x l
noncomputable def tL (x : AV) (l : List AV) : List AV := Sh.t 5 0 c35 Sh.z x l
noncomputable def aA (b : Nat) : AV := Sh.a b 0 2 2 80 5
noncomputable def eB (b : Nat) : AV := Sh.e b 0 2 2
noncomputable def eF (b : Nat) : AV := Sh.e b 0 1 1
noncomputable def i0 : AV := Sh.i 0
noncomputable def i1 : AV := Sh.i 1
noncomputable def j0 : AV := Sh.j 0
noncomputable def bt : AV := .bool true
noncomputable def bf : AV := .bool false

end Go.Proofs.YthfppcmphkljkaaGreat
