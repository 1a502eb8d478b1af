/-
  DERIVED. GIVEN WITH THE SEED: THE CARDS: each row of YtlmldmeclgfoeaaGreatDoorRows.lean that lists a variable, with what it lists TIED to the program's text (the seventh form; the later family's looks); each row that meets fmt, with fmt's text TOLD by the authors' own Lean function (tested against real Go, not proved from fmt's source: count such statements apart). THE CARD IS WHAT COUNTS. Prove the row's statement (the work); the ties are given (YtlmldmeclgfoeaaGreatDoorTie.lean); close each card by the builder's one call (the guide's Derived/Test/ToyasCard.lean, 'card_holds'). Laid BY PROGRAM, IN A SANDBOX (cutbox-door.mjs). By AI agents, Wed Nov 11 2026. No macro, syntax, notation, axiom, sorry.
-/
import Derived.Test.YtlmldmeclgfoeaaGreatDoorRows
import GoSem.ClaimSeven
namespace Go.Proofs.YtlmldmeclgfoeaaGreatDoor
namespace Rows

/-- THE TIED CARD OF 'clavigerlaw22.CurveTells'. -/
def curveTellsCard : Claim7 := { stood := { row := curveTellsRow, standIns := [], harness := (true, "b5bcab4e203063d2a4254bef43c4e20a02f46cf345acc08bbab996c6a4231d8d"), looks := true }, kinds := [], alts := [], laidByText := true, laidKinds := [.data, .data, .data, .data, .sentinel, .sentinel, .pinned], laidTests := true, laidLooks := .later }
def CurveTellsCardSaid : Prop := Claim7.holds Tryz.pinned (.plain (OpenSpec.ofChange curveTellsSpec)) curveTellsCard

/-- THE SECOND FORM's CARD OF 'clavigerlaw22.CurveTells'. -/
def curveTellsUptoCard : Claim7 := { stood := { row := curveTellsUptoRow, standIns := [], harness := (true, "b5bcab4e203063d2a4254bef43c4e20a02f46cf345acc08bbab996c6a4231d8d"), looks := true }, kinds := [], alts := [], laidByText := true, laidKinds := [.data, .data, .data, .data, .sentinel, .sentinel, .pinned], laidTests := true, laidLooks := .later }
def CurveTellsUptoCardSaid : Prop := Claim7.holds Tryz.pinned (.plain (OpenSpec.upto curveTellsSpec)) curveTellsUptoCard
end Rows
end Go.Proofs.YtlmldmeclgfoeaaGreatDoor
