/- RecursorTyped: whichever block, type, constructor and engine: the law's function returns true. No condition beyond the row's own. -/
import Derived.Test.YthfppcmphkljkaaGreatR0
import Derived.Test.YthfppcmphkljkaaGreatR1
import Derived.Test.YthfppcmphkljkaaGreatR2
import Derived.Test.YthfppcmphkljkaaGreatR3
import Derived.Test.YthfppcmphkljkaaGreatRows
import Derived.ProofKit
import Derived.Carry
set_option linter.unusedVariables false
set_option linter.unusedSimpArgs false
set_option linter.unusedSectionVars false
namespace Go.Proofs.YthfppcmphkljkaaGreat
open Go Go.RowKit Go.Proofs.Bx

/-- A run of which the arguments' remainders alone were known. -/
theorem run_any {w m1 x m2 c e : Nat} (h : resIs (KK (.fn 3) [.res .u8 3 w, .res .u8 m1 x, .res .u8 m2 c, .res .u8 3 e] ⟨.nil, 0⟩) (.bool true) = true)
    {a b g d : Int} (a0 : 0 ≤ a) (a1 : a ≤ 255) (b0 : 0 ≤ b) (b1 : b ≤ 255) (g0 : 0 ≤ g) (g1 : g ≤ 255) (d0 : 0 ≤ d) (d1 : d ≤ 255)
    (ha : a % ((3 : Nat) : Int) = (w : Int)) (hb : b % (m1 : Int) = (x : Int)) (hg : g % (m2 : Int) = (c : Int)) (hd : d % ((3 : Nat) : Int) = (e : Int)) (W : World) :
    Calls Tryz.prog 3 #[.int .u8 a, .int .u8 b, .int .u8 g, .int .u8 d] W fun e W' => e = .returned (.bool true) ∧ Below W.heap.size W W' := by
  letI : Sym := ⟨0⟩
  have hv : VRs (fun _ => none) [.res .u8 3 w, .res .u8 m1 x, .res .u8 m2 c, .res .u8 3 e] #[.int .u8 a, .int .u8 b, .int .u8 g, .int .u8 d] :=
    ((((VRs.nil _).push (.res a0 a1 ha)).push (.res b0 b1 hb)).push (.res g0 g1 hg)).push (.res d0 d1 hd)
  refine (call_any (KK_sound _) h hv W).mono fun e W' ⟨⟨v', ρ', he, hr⟩, hw⟩ => ⟨?_, hw⟩
  cases hr
  exact he

/-- A run of which the arguments' remainders alone were known. -/
theorem run_anyL {w m1 x m2 c e : Nat} (h : resIs (KL (.fn 3) [.res .u8 3 w, .res .u8 m1 x, .res .u8 m2 c, .res .u8 3 e] ⟨.nil, 0⟩) (.bool true) = true)
    {a b g d : Int} (a0 : 0 ≤ a) (a1 : a ≤ 255) (b0 : 0 ≤ b) (b1 : b ≤ 255) (g0 : 0 ≤ g) (g1 : g ≤ 255) (d0 : 0 ≤ d) (d1 : d ≤ 255)
    (ha : a % ((3 : Nat) : Int) = (w : Int)) (hb : b % (m1 : Int) = (x : Int)) (hg : g % (m2 : Int) = (c : Int)) (hd : d % ((3 : Nat) : Int) = (e : Int)) (W : World) :
    Calls Tryz.prog 3 #[.int .u8 a, .int .u8 b, .int .u8 g, .int .u8 d] W fun e W' => e = .returned (.bool true) ∧ Below W.heap.size W W' := by
  letI : Sym := ⟨0⟩
  have hv : VRs (fun _ => none) [.res .u8 3 w, .res .u8 m1 x, .res .u8 m2 c, .res .u8 3 e] #[.int .u8 a, .int .u8 b, .int .u8 g, .int .u8 d] :=
    ((((VRs.nil _).push (.res a0 a1 ha)).push (.res b0 b1 hb)).push (.res g0 g1 hg)).push (.res d0 d1 hd)
  refine (call_any (KL_sound _) h hv W).mono fun e W' ⟨⟨v', ρ', he, hr⟩, hw⟩ => ⟨?_, hw⟩
  cases hr
  exact he

theorem law_any (a b g d : Int) (a0 : 0 ≤ a) (a1 : a ≤ 255) (b0 : 0 ≤ b) (b1 : b ≤ 255) (g0 : 0 ≤ g) (g1 : g ≤ 255) (d0 : 0 ≤ d) (d1 : d ≤ 255) (W : World) :
    Calls Tryz.prog 3 #[.int .u8 a, .int .u8 b, .int .u8 g, .int .u8 d] W fun e W' => e = .returned (.bool true) ∧ Below W.heap.size W W' := by
  have ha : a % 3 = 0 ∨ a % 3 = 1 ∨ a % 3 = 2 := by omega
  have hd : d % 3 = 0 ∨ d % 3 = 1 ∨ d % 3 = 2 := by omega
  have hb : b % 2 = 0 ∨ b % 2 = 1 := by omega
  have hg : g % 2 = 0 ∨ g % 2 = 1 := by omega
  have hb1 : b % 1 = 0 := by omega
  have hg1 : g % 1 = 0 := by omega
  rcases ha with ha | ha | ha
  · rcases hb with hb | hb
    · rcases hd with hd | hd | hd
      · exact run_any run_0_0_0_0 a0 a1 b0 b1 g0 g1 d0 d1 ha hb hg1 hd W
      · exact run_any run_0_0_0_1 a0 a1 b0 b1 g0 g1 d0 d1 ha hb hg1 hd W
      · exact run_any run_0_0_0_2 a0 a1 b0 b1 g0 g1 d0 d1 ha hb hg1 hd W
    · rcases hg with hg | hg
      · rcases hd with hd | hd | hd
        · exact run_any run_0_1_0_0 a0 a1 b0 b1 g0 g1 d0 d1 ha hb hg hd W
        · exact run_any run_0_1_0_1 a0 a1 b0 b1 g0 g1 d0 d1 ha hb hg hd W
        · exact run_any run_0_1_0_2 a0 a1 b0 b1 g0 g1 d0 d1 ha hb hg hd W
      · rcases hd with hd | hd | hd
        · exact run_any run_0_1_1_0 a0 a1 b0 b1 g0 g1 d0 d1 ha hb hg hd W
        · exact run_any run_0_1_1_1 a0 a1 b0 b1 g0 g1 d0 d1 ha hb hg hd W
        · exact run_any run_0_1_1_2 a0 a1 b0 b1 g0 g1 d0 d1 ha hb hg hd W
  · rcases hg with hg | hg
    · rcases hd with hd | hd | hd
      · exact run_any run_1_0_0_0 a0 a1 b0 b1 g0 g1 d0 d1 ha hb1 hg hd W
      · exact run_any run_1_0_0_1 a0 a1 b0 b1 g0 g1 d0 d1 ha hb1 hg hd W
      · exact run_any run_1_0_0_2 a0 a1 b0 b1 g0 g1 d0 d1 ha hb1 hg hd W
    · rcases hd with hd | hd | hd
      · exact run_anyL run_1_0_1_0 a0 a1 b0 b1 g0 g1 d0 d1 ha hb1 hg hd W
      · exact run_anyL run_1_0_1_1 a0 a1 b0 b1 g0 g1 d0 d1 ha hb1 hg hd W
      · exact run_anyL run_1_0_1_2 a0 a1 b0 b1 g0 g1 d0 d1 ha hb1 hg hd W
  · rcases hg with hg | hg
    · rcases hd with hd | hd | hd
      · exact run_any run_2_0_0_0 a0 a1 b0 b1 g0 g1 d0 d1 ha hb1 hg hd W
      · exact run_any run_2_0_0_1 a0 a1 b0 b1 g0 g1 d0 d1 ha hb1 hg hd W
      · exact run_any run_2_0_0_2 a0 a1 b0 b1 g0 g1 d0 d1 ha hb1 hg hd W
    · rcases hd with hd | hd | hd
      · exact run_any run_2_0_1_0 a0 a1 b0 b1 g0 g1 d0 d1 ha hb1 hg hd W
      · exact run_any run_2_0_1_1 a0 a1 b0 b1 g0 g1 d0 d1 ha hb1 hg hd W
      · exact run_any run_2_0_1_2 a0 a1 b0 b1 g0 g1 d0 d1 ha hb1 hg hd W

end Go.Proofs.YthfppcmphkljkaaGreat
