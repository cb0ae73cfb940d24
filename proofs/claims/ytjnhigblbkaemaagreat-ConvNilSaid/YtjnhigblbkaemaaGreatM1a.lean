/- Runs of functions in small memories (printed by tools/emit.py), level 1. -/
import Derived.Test.YtjnhigblbkaemaaGreatK0
set_option linter.unusedVariables false
set_option linter.unusedSimpArgs false
set_option linter.unusedSectionVars false
set_option maxRecDepth 100000
namespace Go.Proofs.YtjnhigblbkaemaaGreat
open Go Go.Proofs.Bx

/-- batten/term.Name. -/
noncomputable def b1_41_0 : List Memo := [
  { f := 41, args := [(.str ⟨#[78]⟩)], bs := [], res := (.bool true), outs := [], next := 1 },
  { f := 41, args := [(.str ⟨#[78, 46, 122, 101, 114, 111]⟩)], bs := [], res := (.bool true), outs := [], next := 1 },
  { f := 41, args := [(.str ⟨#[78, 46, 115, 117, 99, 99]⟩)], bs := [], res := (.bool true), outs := [], next := 1 },
  { f := 41, args := [(.str ⟨#[78, 46, 114, 101, 99]⟩)], bs := [], res := (.bool true), outs := [], next := 1 },
  { f := 41, args := [(.str ⟨#[80, 97, 105, 114]⟩)], bs := [], res := (.bool true), outs := [], next := 1 },
  { f := 41, args := [(.str ⟨#[80, 97, 105, 114, 46, 109, 107]⟩)], bs := [], res := (.bool true), outs := [], next := 1 },
  { f := 41, args := [(.str ⟨#[80, 97, 105, 114, 46, 114, 101, 99]⟩)], bs := [], res := (.bool true), outs := [], next := 1 },
  { f := 41, args := [(.str ⟨#[76, 105, 115, 116]⟩)], bs := [], res := (.bool true), outs := [], next := 1 },
  { f := 41, args := [(.str ⟨#[76, 105, 115, 116, 46, 110, 105, 108]⟩)], bs := [], res := (.bool true), outs := [], next := 1 },
  { f := 41, args := [(.str ⟨#[76, 105, 115, 116, 46, 99, 111, 110, 115]⟩)], bs := [], res := (.bool true), outs := [], next := 1 },
  { f := 41, args := [(.str ⟨#[76, 105, 115, 116, 46, 114, 101, 99]⟩)], bs := [], res := (.bool true), outs := [], next := 1 },
  { f := 41, args := [(.str ⟨#[97]⟩)], bs := [], res := (.bool true), outs := [], next := 1 },
  { f := 41, args := [(.str ⟨#[102]⟩)], bs := [], res := (.bool true), outs := [], next := 1 },
  { f := 41, args := [(.str ⟨#[112]⟩)], bs := [], res := (.bool true), outs := [], next := 1 },
  { f := 41, args := [(.str ⟨#[97, 100, 100]⟩)], bs := [], res := (.bool true), outs := [], next := 1 },
  { f := 41, args := [(.str ⟨#[111, 110, 101]⟩)], bs := [], res := (.bool true), outs := [], next := 1 },
  { f := 41, args := [(.str ⟨#[100, 111, 117, 98, 108, 101]⟩)], bs := [], res := (.bool true), outs := [], next := 1 },
  { f := 41, args := [(.str ⟨#[105, 100]⟩)], bs := [], res := (.bool true), outs := [], next := 1 },
  { f := 41, args := [(.str ⟨#[115, 119, 97, 112]⟩)], bs := [], res := (.bool true), outs := [], next := 1 },
  { f := 41, args := [(.str ⟨#[116, 104, 109]⟩)], bs := [], res := (.bool true), outs := [], next := 1 }]

theorem b1_41_0_ok : okAll (callM Tryz.prog mm0 1000 1000 300) 41 b1_41_0 = true := by decide +kernel

/-- batten/term.kids. -/
noncomputable def b1_37_0 : List Memo := [
  { f := 37, args := [(.int .u8 (Int.ofNat 1))], bs := [], res := (.tuple [(.int .i64 (Int.ofNat 0)), (.bool true)]), outs := [], next := 0 },
  { f := 37, args := [(.int .u8 (Int.ofNat 3))], bs := [], res := (.tuple [(.int .i64 (Int.ofNat 0)), (.bool true)]), outs := [], next := 0 },
  { f := 37, args := [(.int .u8 (Int.ofNat 6))], bs := [], res := (.tuple [(.int .i64 (Int.ofNat 2)), (.bool true)]), outs := [], next := 0 },
  { f := 37, args := [(.int .u8 (Int.ofNat 4))], bs := [], res := (.tuple [(.int .i64 (Int.ofNat 2)), (.bool true)]), outs := [], next := 0 },
  { f := 37, args := [(.int .u8 (Int.ofNat 2))], bs := [], res := (.tuple [(.int .i64 (Int.ofNat 0)), (.bool true)]), outs := [], next := 0 },
  { f := 37, args := [(.int .u8 (Int.ofNat 5))], bs := [], res := (.tuple [(.int .i64 (Int.ofNat 2)), (.bool true)]), outs := [], next := 0 },
  { f := 37, args := [(.int .u8 (Int.ofNat 8))], bs := [], res := (.tuple [(.int .i64 (Int.ofNat 1)), (.bool true)]), outs := [], next := 0 }]

theorem b1_37_0_ok : okAll (callM Tryz.prog mm0 1000 1000 300) 37 b1_37_0 = true := by decide +kernel

/-- batten/level.May. -/
noncomputable def b1_40_0 : List Memo := [
  { f := 40, args := [(.agg [(.int .i64 (Int.ofNat 0)), (.int .i64 (Int.negSucc 0)), (.int .i64 (Int.negSucc 0)), (.int .i64 (Int.negSucc 0)), (.int .i64 (Int.negSucc 0))])], bs := [], res := (.bool true), outs := [], next := 10 },
  { f := 40, args := [(.agg [(.int .i64 (Int.ofNat 0)), (.int .i64 (Int.ofNat 0)), (.int .i64 (Int.negSucc 0)), (.int .i64 (Int.negSucc 0)), (.int .i64 (Int.negSucc 0))])], bs := [], res := (.bool true), outs := [], next := 10 }]

theorem b1_40_0_ok : okAll (callM Tryz.prog mm0 1000 1000 300) 40 b1_40_0 = true := by decide +kernel

/-- batten/term.binds. -/
noncomputable def b1_167_0 : List Memo := [
  { f := 167, args := [(.agg [(.int .u8 (Int.ofNat 6)), .undef, .undef, .undef, .undef]), (.int .i64 (Int.ofNat 0))], bs := [], res := (.int .i64 (Int.ofNat 0)), outs := [], next := 1 },
  { f := 167, args := [(.agg [(.int .u8 (Int.ofNat 6)), .undef, .undef, .undef, .undef]), (.int .i64 (Int.ofNat 1))], bs := [], res := (.int .i64 (Int.ofNat 1)), outs := [], next := 1 },
  { f := 167, args := [(.agg [(.int .u8 (Int.ofNat 4)), .undef, .undef, .undef, .undef]), .undef], bs := [], res := (.int .i64 (Int.ofNat 0)), outs := [], next := 1 },
  { f := 167, args := [(.agg [(.int .u8 (Int.ofNat 5)), .undef, .undef, .undef, .undef]), (.int .i64 (Int.ofNat 0))], bs := [], res := (.int .i64 (Int.ofNat 0)), outs := [], next := 1 },
  { f := 167, args := [(.agg [(.int .u8 (Int.ofNat 5)), .undef, .undef, .undef, .undef]), (.int .i64 (Int.ofNat 1))], bs := [], res := (.int .i64 (Int.ofNat 1)), outs := [], next := 1 },
  { f := 167, args := [(.agg [(.int .u8 (Int.ofNat 8)), .undef, .undef, .undef, .undef]), .undef], bs := [], res := (.int .i64 (Int.ofNat 0)), outs := [], next := 1 }]

theorem b1_167_0_ok : okAll (callM Tryz.prog mm0 1000 1000 300) 167 b1_167_0 = true := by decide +kernel

end Go.Proofs.YtjnhigblbkaemaaGreat
