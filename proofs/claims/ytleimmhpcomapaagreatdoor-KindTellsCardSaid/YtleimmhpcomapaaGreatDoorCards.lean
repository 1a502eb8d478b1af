/-
  DERIVED. GIVEN WITH THE SEED: THE CARDS: each row of YtleimmhpcomapaaGreatDoorRows.lean that lists a variable, with what it lists TIED to the program's text (the seventh form; the later family's looks); each row that meets fmt, with fmt's text TOLD by the authors' own Lean function (tested against real Go, not proved from fmt's source: count such statements apart). THE CARD IS WHAT COUNTS. Prove the row's statement (the work); the ties are given (YtleimmhpcomapaaGreatDoorTie.lean); close each card by the builder's one call (the guide's Derived/Test/ToyasCard.lean, 'card_holds'). Laid BY PROGRAM, IN A SANDBOX (cutbox-door.mjs). By AI agents, Wed Nov 11 2026. No macro, syntax, notation, axiom, sorry.
-/
import Derived.Test.YtleimmhpcomapaaGreatDoorRows
import GoSem.ClaimSeven
namespace Go.Proofs.YtleimmhpcomapaaGreatDoor
namespace Rows

/-- THE TIED CARD OF 'clavigerlaw23.KindTells'. -/
def kindTellsCard : Claim7 := { stood := { row := kindTellsRow, standIns := [], harness := (true, "14cd974b5923af89426a3f73bcf26037b4eb4e2e6346803d5af076497f1979cb"), looks := true }, kinds := [], alts := [], laidByText := true, laidKinds := [.data, .data, .data, .data, .sentinel, .sentinel, .pinned], laidTests := true, laidLooks := .later }
def KindTellsCardSaid : Prop := Claim7.holds Tryz.pinned (.plain (OpenSpec.ofChange kindTellsSpec)) kindTellsCard

/-- THE SECOND FORM's CARD OF 'clavigerlaw23.KindTells'. -/
def kindTellsUptoCard : Claim7 := { stood := { row := kindTellsUptoRow, standIns := [], harness := (true, "14cd974b5923af89426a3f73bcf26037b4eb4e2e6346803d5af076497f1979cb"), looks := true }, kinds := [], alts := [], laidByText := true, laidKinds := [.data, .data, .data, .data, .sentinel, .sentinel, .pinned], laidTests := true, laidLooks := .later }
def KindTellsUptoCardSaid : Prop := Claim7.holds Tryz.pinned (.plain (OpenSpec.upto kindTellsSpec)) kindTellsUptoCard
end Rows
end Go.Proofs.YtleimmhpcomapaaGreatDoor
