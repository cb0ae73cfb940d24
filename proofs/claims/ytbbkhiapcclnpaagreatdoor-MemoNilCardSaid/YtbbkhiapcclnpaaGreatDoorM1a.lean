/- Runs of functions in small memories (printed by tools/emit.py), level 1. -/
import Derived.Test.YtbbkhiapcclnpaaGreatDoorK0
set_option linter.unusedVariables false
set_option linter.unusedSimpArgs false
set_option linter.unusedSectionVars false
set_option maxRecDepth 100000
namespace Go.Proofs.YtbbkhiapcclnpaaGreatDoor
open Go Go.Proofs.Bx

/-- batten/term.Name. -/
noncomputable def b1_61_0 : List Memo := [
  { f := 61, args := [(.str ⟨#[78]⟩)], bs := [], res := (.bool true), outs := [], next := 1 },
  { f := 61, args := [(.str ⟨#[78, 46, 122, 101, 114, 111]⟩)], bs := [], res := (.bool true), outs := [], next := 1 },
  { f := 61, args := [(.str ⟨#[78, 46, 115, 117, 99, 99]⟩)], bs := [], res := (.bool true), outs := [], next := 1 },
  { f := 61, args := [(.str ⟨#[78, 46, 114, 101, 99]⟩)], bs := [], res := (.bool true), outs := [], next := 1 },
  { f := 61, args := [(.str ⟨#[80, 97, 105, 114]⟩)], bs := [], res := (.bool true), outs := [], next := 1 },
  { f := 61, args := [(.str ⟨#[80, 97, 105, 114, 46, 109, 107]⟩)], bs := [], res := (.bool true), outs := [], next := 1 },
  { f := 61, args := [(.str ⟨#[80, 97, 105, 114, 46, 114, 101, 99]⟩)], bs := [], res := (.bool true), outs := [], next := 1 },
  { f := 61, args := [(.str ⟨#[76, 105, 115, 116]⟩)], bs := [], res := (.bool true), outs := [], next := 1 },
  { f := 61, args := [(.str ⟨#[76, 105, 115, 116, 46, 110, 105, 108]⟩)], bs := [], res := (.bool true), outs := [], next := 1 },
  { f := 61, args := [(.str ⟨#[76, 105, 115, 116, 46, 99, 111, 110, 115]⟩)], bs := [], res := (.bool true), outs := [], next := 1 },
  { f := 61, args := [(.str ⟨#[76, 105, 115, 116, 46, 114, 101, 99]⟩)], bs := [], res := (.bool true), outs := [], next := 1 },
  { f := 61, args := [(.str ⟨#[97]⟩)], bs := [], res := (.bool true), outs := [], next := 1 },
  { f := 61, args := [(.str ⟨#[102]⟩)], bs := [], res := (.bool true), outs := [], next := 1 },
  { f := 61, args := [(.str ⟨#[112]⟩)], bs := [], res := (.bool true), outs := [], next := 1 },
  { f := 61, args := [(.str ⟨#[97, 100, 100]⟩)], bs := [], res := (.bool true), outs := [], next := 1 },
  { f := 61, args := [(.str ⟨#[111, 110, 101]⟩)], bs := [], res := (.bool true), outs := [], next := 1 },
  { f := 61, args := [(.str ⟨#[100, 111, 117, 98, 108, 101]⟩)], bs := [], res := (.bool true), outs := [], next := 1 },
  { f := 61, args := [(.str ⟨#[105, 100]⟩)], bs := [], res := (.bool true), outs := [], next := 1 },
  { f := 61, args := [(.str ⟨#[115, 119, 97, 112]⟩)], bs := [], res := (.bool true), outs := [], next := 1 },
  { f := 61, args := [(.str ⟨#[116, 104, 109]⟩)], bs := [], res := (.bool true), outs := [], next := 1 }]

theorem b1_61_0_ok : okAll (callM Tryz.prog mm0 1000 1000 300) 61 b1_61_0 = true := by decide +kernel

/-- batten/term.kids. -/
noncomputable def b1_57_0 : List Memo := [
  { f := 57, args := [(.int .u8 (Int.ofNat 1))], bs := [], res := (.tuple [(.int .i64 (Int.ofNat 0)), (.bool true)]), outs := [], next := 0 },
  { f := 57, args := [(.int .u8 (Int.ofNat 3))], bs := [], res := (.tuple [(.int .i64 (Int.ofNat 0)), (.bool true)]), outs := [], next := 0 },
  { f := 57, args := [(.int .u8 (Int.ofNat 6))], bs := [], res := (.tuple [(.int .i64 (Int.ofNat 2)), (.bool true)]), outs := [], next := 0 },
  { f := 57, args := [(.int .u8 (Int.ofNat 4))], bs := [], res := (.tuple [(.int .i64 (Int.ofNat 2)), (.bool true)]), outs := [], next := 0 },
  { f := 57, args := [(.int .u8 (Int.ofNat 2))], bs := [], res := (.tuple [(.int .i64 (Int.ofNat 0)), (.bool true)]), outs := [], next := 0 },
  { f := 57, args := [(.int .u8 (Int.ofNat 5))], bs := [], res := (.tuple [(.int .i64 (Int.ofNat 2)), (.bool true)]), outs := [], next := 0 },
  { f := 57, args := [(.int .u8 (Int.ofNat 8))], bs := [], res := (.tuple [(.int .i64 (Int.ofNat 1)), (.bool true)]), outs := [], next := 0 }]

theorem b1_57_0_ok : okAll (callM Tryz.prog mm0 1000 1000 300) 57 b1_57_0 = true := by decide +kernel

/-- batten/level.May. -/
noncomputable def b1_60_0 : List Memo := [
  { f := 60, args := [(.agg [(.int .i64 (Int.ofNat 0)), (.int .i64 (Int.negSucc 0)), (.int .i64 (Int.negSucc 0)), (.int .i64 (Int.negSucc 0)), (.int .i64 (Int.negSucc 0))])], bs := [], res := (.bool true), outs := [], next := 10 },
  { f := 60, args := [(.agg [(.int .i64 (Int.ofNat 0)), (.int .i64 (Int.ofNat 0)), (.int .i64 (Int.negSucc 0)), (.int .i64 (Int.negSucc 0)), (.int .i64 (Int.negSucc 0))])], bs := [], res := (.bool true), outs := [], next := 10 }]

theorem b1_60_0_ok : okAll (callM Tryz.prog mm0 1000 1000 300) 60 b1_60_0 = true := by decide +kernel

/-- batten/term.binds. -/
noncomputable def b1_204_0 : List Memo := [
  { f := 204, args := [(.agg [(.int .u8 (Int.ofNat 6)), (.int .i64 (Int.ofNat 0)), (.str ⟨#[]⟩), (.slice none 0 (.exact 0)), (.slice (some (0, 0)) 2 (.exact 2))]), (.int .i64 (Int.ofNat 0))], bs := [none], res := (.int .i64 (Int.ofNat 0)), outs := [], next := 2 },
  { f := 204, args := [(.agg [(.int .u8 (Int.ofNat 6)), (.int .i64 (Int.ofNat 0)), (.str ⟨#[]⟩), (.slice none 0 (.exact 0)), (.slice (some (0, 0)) 2 (.exact 2))]), (.int .i64 (Int.ofNat 1))], bs := [none], res := (.int .i64 (Int.ofNat 1)), outs := [], next := 2 },
  { f := 204, args := [(.agg [(.int .u8 (Int.ofNat 4)), (.int .i64 (Int.ofNat 0)), (.str ⟨#[]⟩), (.slice none 0 (.exact 0)), (.slice (some (0, 0)) 2 (.exact 2))]), .undef], bs := [none], res := (.int .i64 (Int.ofNat 0)), outs := [], next := 2 },
  { f := 204, args := [(.agg [(.int .u8 (Int.ofNat 5)), (.int .i64 (Int.ofNat 0)), (.str ⟨#[]⟩), (.slice none 0 (.exact 0)), (.slice (some (0, 0)) 2 (.exact 2))]), (.int .i64 (Int.ofNat 0))], bs := [none], res := (.int .i64 (Int.ofNat 0)), outs := [], next := 2 },
  { f := 204, args := [(.agg [(.int .u8 (Int.ofNat 5)), (.int .i64 (Int.ofNat 0)), (.str ⟨#[]⟩), (.slice none 0 (.exact 0)), (.slice (some (0, 0)) 2 (.exact 2))]), (.int .i64 (Int.ofNat 1))], bs := [none], res := (.int .i64 (Int.ofNat 1)), outs := [], next := 2 },
  { f := 204, args := [(.agg [(.int .u8 (Int.ofNat 8)), (.int .i64 (Int.ofNat 0)), (.str ⟨#[80, 97, 105, 114]⟩), (.slice none 0 (.exact 0)), (.slice (some (0, 0)) 1 (.exact 1))]), .undef], bs := [none], res := (.int .i64 (Int.ofNat 0)), outs := [], next := 2 },
  { f := 204, args := [(.agg [(.int .u8 (Int.ofNat 8)), (.int .i64 (Int.ofNat 1)), (.str ⟨#[80, 97, 105, 114]⟩), (.slice none 0 (.exact 0)), (.slice (some (0, 0)) 1 (.exact 1))]), .undef], bs := [none], res := (.int .i64 (Int.ofNat 0)), outs := [], next := 2 }]

theorem b1_204_0_ok : okAll (callM Tryz.prog mm0 1000 1000 300) 204 b1_204_0 = true := by decide +kernel

end Go.Proofs.YtbbkhiapcclnpaaGreatDoor
