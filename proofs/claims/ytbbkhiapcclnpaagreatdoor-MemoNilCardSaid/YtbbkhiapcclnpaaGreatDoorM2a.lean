/- Runs of functions in small memories (printed by tools/emit.py), level 2. -/
import Derived.Test.YtbbkhiapcclnpaaGreatDoorM1
set_option linter.unusedVariables false
set_option linter.unusedSimpArgs false
set_option linter.unusedSectionVars false
set_option maxRecDepth 100000
namespace Go.Proofs.YtbbkhiapcclnpaaGreatDoor
open Go Go.Proofs.Bx

/-- batten/term.node. -/
noncomputable def b2_40_0 : List Memo := [
  { f := 40, args := [(.agg [(.int .u8 (Int.ofNat 1)), (.int .i64 (Int.ofNat 0)), (.str ⟨#[]⟩), (.slice (some (0, 0)) 1 (.exact 1)), (.slice none 0 (.exact 0))])], bs := [some (.cells [(.int .i64 (Int.ofNat 0)), (.int .i64 (Int.negSucc 0)), (.int .i64 (Int.negSucc 0)), (.int .i64 (Int.negSucc 0)), (.int .i64 (Int.negSucc 0))] false)], res := (.bool true), outs := [], next := 26 },
  { f := 40, args := [(.agg [(.int .u8 (Int.ofNat 3)), (.int .i64 (Int.ofNat 0)), (.str ⟨#[78]⟩), (.slice none 0 (.exact 0)), (.slice none 0 (.exact 0))])], bs := [], res := (.bool true), outs := [], next := 24 },
  { f := 40, args := [(.agg [(.int .u8 (Int.ofNat 6)), (.int .i64 (Int.ofNat 0)), (.str ⟨#[]⟩), (.slice none 0 (.exact 0)), (.slice (some (0, 0)) 2 (.exact 2))])], bs := [none], res := (.bool true), outs := [], next := 15 },
  { f := 40, args := [(.agg [(.int .u8 (Int.ofNat 1)), (.int .i64 (Int.ofNat 0)), (.str ⟨#[]⟩), (.slice (some (0, 0)) 1 (.exact 1)), (.slice none 0 (.exact 0))])], bs := [some (.cells [(.int .i64 (Int.ofNat 0)), (.int .i64 (Int.ofNat 0)), (.int .i64 (Int.negSucc 0)), (.int .i64 (Int.negSucc 0)), (.int .i64 (Int.negSucc 0))] false)], res := (.bool true), outs := [], next := 26 },
  { f := 40, args := [(.agg [(.int .u8 (Int.ofNat 4)), (.int .i64 (Int.ofNat 0)), (.str ⟨#[]⟩), (.slice none 0 (.exact 0)), (.slice (some (0, 0)) 2 (.exact 2))])], bs := [none], res := (.bool true), outs := [], next := 15 },
  { f := 40, args := [(.agg [(.int .u8 (Int.ofNat 2)), (.int .i64 (Int.ofNat 0)), (.str ⟨#[]⟩), (.slice none 0 (.exact 0)), (.slice none 0 (.exact 0))])], bs := [], res := (.bool true), outs := [], next := 14 },
  { f := 40, args := [(.agg [(.int .u8 (Int.ofNat 3)), (.int .i64 (Int.ofNat 0)), (.str ⟨#[78, 46, 122, 101, 114, 111]⟩), (.slice none 0 (.exact 0)), (.slice none 0 (.exact 0))])], bs := [], res := (.bool true), outs := [], next := 24 },
  { f := 40, args := [(.agg [(.int .u8 (Int.ofNat 2)), (.int .i64 (Int.ofNat 2)), (.str ⟨#[]⟩), (.slice none 0 (.exact 0)), (.slice none 0 (.exact 0))])], bs := [], res := (.bool true), outs := [], next := 14 },
  { f := 40, args := [(.agg [(.int .u8 (Int.ofNat 2)), (.int .i64 (Int.ofNat 3)), (.str ⟨#[]⟩), (.slice none 0 (.exact 0)), (.slice none 0 (.exact 0))])], bs := [], res := (.bool true), outs := [], next := 14 },
  { f := 40, args := [(.agg [(.int .u8 (Int.ofNat 3)), (.int .i64 (Int.ofNat 0)), (.str ⟨#[78, 46, 115, 117, 99, 99]⟩), (.slice none 0 (.exact 0)), (.slice none 0 (.exact 0))])], bs := [], res := (.bool true), outs := [], next := 24 },
  { f := 40, args := [(.agg [(.int .u8 (Int.ofNat 2)), (.int .i64 (Int.ofNat 1)), (.str ⟨#[]⟩), (.slice none 0 (.exact 0)), (.slice none 0 (.exact 0))])], bs := [], res := (.bool true), outs := [], next := 14 },
  { f := 40, args := [(.agg [(.int .u8 (Int.ofNat 5)), (.int .i64 (Int.ofNat 0)), (.str ⟨#[]⟩), (.slice none 0 (.exact 0)), (.slice (some (0, 0)) 2 (.exact 2))])], bs := [none], res := (.bool true), outs := [], next := 15 },
  { f := 40, args := [(.agg [(.int .u8 (Int.ofNat 3)), (.int .i64 (Int.ofNat 0)), (.str ⟨#[78, 46, 114, 101, 99]⟩), (.slice (some (0, 0)) 1 (.exact 1)), (.slice none 0 (.exact 0))])], bs := [some (.cells [(.int .i64 (Int.ofNat 0)), (.int .i64 (Int.ofNat 0)), (.int .i64 (Int.negSucc 0)), (.int .i64 (Int.negSucc 0)), (.int .i64 (Int.negSucc 0))] false)], res := (.bool true), outs := [], next := 36 },
  { f := 40, args := [(.agg [(.int .u8 (Int.ofNat 3)), (.int .i64 (Int.ofNat 0)), (.str ⟨#[80, 97, 105, 114]⟩), (.slice none 0 (.exact 0)), (.slice none 0 (.exact 0))])], bs := [], res := (.bool true), outs := [], next := 24 },
  { f := 40, args := [(.agg [(.int .u8 (Int.ofNat 3)), (.int .i64 (Int.ofNat 0)), (.str ⟨#[80, 97, 105, 114, 46, 109, 107]⟩), (.slice none 0 (.exact 0)), (.slice none 0 (.exact 0))])], bs := [], res := (.bool true), outs := [], next := 24 },
  { f := 40, args := [(.agg [(.int .u8 (Int.ofNat 2)), (.int .i64 (Int.ofNat 4)), (.str ⟨#[]⟩), (.slice none 0 (.exact 0)), (.slice none 0 (.exact 0))])], bs := [], res := (.bool true), outs := [], next := 14 },
  { f := 40, args := [(.agg [(.int .u8 (Int.ofNat 8)), (.int .i64 (Int.ofNat 0)), (.str ⟨#[80, 97, 105, 114]⟩), (.slice none 0 (.exact 0)), (.slice (some (0, 0)) 1 (.exact 1))])], bs := [none], res := (.bool true), outs := [], next := 29 },
  { f := 40, args := [(.agg [(.int .u8 (Int.ofNat 8)), (.int .i64 (Int.ofNat 1)), (.str ⟨#[80, 97, 105, 114]⟩), (.slice none 0 (.exact 0)), (.slice (some (0, 0)) 1 (.exact 1))])], bs := [none], res := (.bool true), outs := [], next := 29 },
  { f := 40, args := [(.agg [(.int .u8 (Int.ofNat 3)), (.int .i64 (Int.ofNat 0)), (.str ⟨#[76, 105, 115, 116]⟩), (.slice none 0 (.exact 0)), (.slice none 0 (.exact 0))])], bs := [], res := (.bool true), outs := [], next := 24 },
  { f := 40, args := [(.agg [(.int .u8 (Int.ofNat 3)), (.int .i64 (Int.ofNat 0)), (.str ⟨#[76, 105, 115, 116, 46, 110, 105, 108]⟩), (.slice none 0 (.exact 0)), (.slice none 0 (.exact 0))])], bs := [], res := (.bool true), outs := [], next := 24 },
  { f := 40, args := [(.agg [(.int .u8 (Int.ofNat 3)), (.int .i64 (Int.ofNat 0)), (.str ⟨#[76, 105, 115, 116, 46, 99, 111, 110, 115]⟩), (.slice none 0 (.exact 0)), (.slice none 0 (.exact 0))])], bs := [], res := (.bool true), outs := [], next := 24 },
  { f := 40, args := [(.agg [(.int .u8 (Int.ofNat 2)), (.int .i64 (Int.ofNat 5)), (.str ⟨#[]⟩), (.slice none 0 (.exact 0)), (.slice none 0 (.exact 0))])], bs := [], res := (.bool true), outs := [], next := 14 },
  { f := 40, args := [(.agg [(.int .u8 (Int.ofNat 3)), (.int .i64 (Int.ofNat 0)), (.str ⟨#[76, 105, 115, 116, 46, 114, 101, 99]⟩), (.slice (some (0, 0)) 1 (.exact 1)), (.slice none 0 (.exact 0))])], bs := [some (.cells [(.int .i64 (Int.ofNat 0)), (.int .i64 (Int.ofNat 0)), (.int .i64 (Int.negSucc 0)), (.int .i64 (Int.negSucc 0)), (.int .i64 (Int.negSucc 0))] false)], res := (.bool true), outs := [], next := 36 },
  { f := 40, args := [(.agg [(.int .u8 (Int.ofNat 3)), (.int .i64 (Int.ofNat 0)), (.str ⟨#[78, 46, 114, 101, 99]⟩), (.slice (some (0, 0)) 1 (.exact 1)), (.slice none 0 (.exact 0))])], bs := [some (.cells [(.int .i64 (Int.ofNat 0)), (.int .i64 (Int.negSucc 0)), (.int .i64 (Int.negSucc 0)), (.int .i64 (Int.negSucc 0)), (.int .i64 (Int.negSucc 0))] false)], res := (.bool true), outs := [], next := 36 },
  { f := 40, args := [(.agg [(.int .u8 (Int.ofNat 3)), (.int .i64 (Int.ofNat 0)), (.str ⟨#[97, 100, 100]⟩), (.slice none 0 (.exact 0)), (.slice none 0 (.exact 0))])], bs := [], res := (.bool true), outs := [], next := 24 },
  { f := 40, args := [(.agg [(.int .u8 (Int.ofNat 3)), (.int .i64 (Int.ofNat 0)), (.str ⟨#[102]⟩), (.slice none 0 (.exact 0)), (.slice none 0 (.exact 0))])], bs := [], res := (.bool true), outs := [], next := 24 },
  { f := 40, args := [(.agg [(.int .u8 (Int.ofNat 1)), (.int .i64 (Int.ofNat 0)), (.str ⟨#[]⟩), (.slice (some (0, 0)) 1 (.atLeast 1 40 5)), (.slice none 0 (.exact 0))])], bs := [some (.cells [(.int .i64 (Int.ofNat 0)), (.int .i64 (Int.negSucc 0)), (.int .i64 (Int.negSucc 0)), (.int .i64 (Int.negSucc 0)), (.int .i64 (Int.negSucc 0))] false)], res := (.bool true), outs := [], next := 26 },
  { f := 40, args := [(.agg [(.int .u8 (Int.ofNat 6)), (.int .i64 (Int.ofNat 0)), (.str ⟨#[]⟩), (.slice none 0 (.exact 0)), (.slice (some (0, 0)) 2 (.atLeast 2 80 5))])], bs := [none], res := (.bool true), outs := [], next := 15 }]

theorem b2_40_0_ok : okAll (callM Tryz.prog mm1 1000 1000 300) 40 b2_40_0 = true := by decide +kernel

end Go.Proofs.YtbbkhiapcclnpaaGreatDoor
