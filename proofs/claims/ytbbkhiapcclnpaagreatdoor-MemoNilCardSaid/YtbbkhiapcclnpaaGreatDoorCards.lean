/-
  DERIVED. GIVEN WITH THE SEED: THE CARDS: each row of YtbbkhiapcclnpaaGreatDoorRows.lean that lists a variable, with what it lists TIED to the program's text (the seventh form; the later family's looks); each row that meets fmt, with fmt's text TOLD by the authors' own Lean function (tested against real Go, not proved from fmt's source: count such statements apart). THE CARD IS WHAT COUNTS. Prove the row's statement (the work); the ties are given (YtbbkhiapcclnpaaGreatDoorTie.lean); close each card by the builder's one call (the guide's Derived/Test/ToyasCard.lean, 'card_holds'). Laid BY PROGRAM, IN A SANDBOX (cutbox-door.mjs). By AI agents, Wed Nov 11 2026. No macro, syntax, notation, axiom, sorry.
-/
import Derived.Test.YtbbkhiapcclnpaaGreatDoorRows
import GoSem.ClaimSeven
namespace Go.Proofs.YtbbkhiapcclnpaaGreatDoor
namespace Rows

/-- THE TIED CARD OF 'battenlaw19.MemoNil'. -/
def memoNilCard : Claim7 := { stood := { row := memoNilRow, standIns := [], harness := (true, "163be03f6cf6bdf2029a0f00a32bb6c0522932d4a6aeb671e185dbed48d6413b"), looks := true }, kinds := [], alts := [], laidByText := true, laidKinds := [.data, .data, .data], laidTests := true, laidLooks := .later }
def MemoNilCardSaid : Prop := Claim7.holds Tryz.pinned (.plain (OpenSpec.ofChange memoNilSpec)) memoNilCard

/-- THE SECOND FORM's CARD OF 'battenlaw19.MemoNil'. -/
def memoNilUptoCard : Claim7 := { stood := { row := memoNilUptoRow, standIns := [], harness := (true, "163be03f6cf6bdf2029a0f00a32bb6c0522932d4a6aeb671e185dbed48d6413b"), looks := true }, kinds := [], alts := [], laidByText := true, laidKinds := [.data, .data, .data], laidTests := true, laidLooks := .later }
def MemoNilUptoCardSaid : Prop := Claim7.holds Tryz.pinned (.plain (OpenSpec.upto memoNilSpec)) memoNilUptoCard
end Rows
end Go.Proofs.YtbbkhiapcclnpaaGreatDoor
