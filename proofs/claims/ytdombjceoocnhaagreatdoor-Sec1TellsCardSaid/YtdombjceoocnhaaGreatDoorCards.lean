/-
  DERIVED. GIVEN WITH THE SEED: THE CARDS: each row of YtdombjceoocnhaaGreatDoorRows.lean that lists a variable, with what it lists TIED to the program's text (the seventh form; the later family's looks); each row that meets fmt, with fmt's text TOLD by the authors' own Lean function (tested against real Go, not proved from fmt's source: count such statements apart). THE CARD IS WHAT COUNTS. Prove the row's statement (the work); the ties are given (YtdombjceoocnhaaGreatDoorTie.lean); close each card by the builder's one call (the guide's Derived/Test/ToyasCard.lean, 'card_holds'). Laid BY PROGRAM, IN A SANDBOX (cutbox-door.mjs). By AI agents, Wed Nov 11 2026. No macro, syntax, notation, axiom, sorry.
-/
import Derived.Test.YtdombjceoocnhaaGreatDoorRows
import GoSem.ClaimSeven
namespace Go.Proofs.YtdombjceoocnhaaGreatDoor
namespace Rows

/-- THE TIED CARD OF 'clavigerlaw25.Sec1Tells'. -/
def sec1TellsCard : Claim7 := { stood := { row := sec1TellsRow, standIns := [], harness := (true, "7d985f8e3ebe68b0b049330a41791585831bdb68c4c4ba2536a316b60f11c03a"), looks := true }, kinds := [], alts := [], laidByText := true, laidKinds := [.data, .data, .data, .data, .sentinel, .sentinel, .pinned], laidTests := true, laidLooks := .later }
def Sec1TellsCardSaid : Prop := Claim7.holds Tryz.pinned (.plain (OpenSpec.ofChange sec1TellsSpec)) sec1TellsCard

/-- THE TIED CARD OF 'clavigerlaw25.Sec1Back'. -/
def sec1BackCard : Claim7 := { stood := { row := sec1BackRow, standIns := [], harness := (true, "7d985f8e3ebe68b0b049330a41791585831bdb68c4c4ba2536a316b60f11c03a"), looks := true }, kinds := [], alts := [], laidByText := true, laidKinds := [.data, .data, .data, .data, .sentinel, .sentinel, .pinned], laidTests := true, laidLooks := .later }
def Sec1BackCardSaid : Prop := Claim7.holds Tryz.pinned (.plain (OpenSpec.ofChange sec1BackSpec)) sec1BackCard

/-- THE SECOND FORM's CARD OF 'clavigerlaw25.Sec1Tells'. -/
def sec1TellsUptoCard : Claim7 := { stood := { row := sec1TellsUptoRow, standIns := [], harness := (true, "7d985f8e3ebe68b0b049330a41791585831bdb68c4c4ba2536a316b60f11c03a"), looks := true }, kinds := [], alts := [], laidByText := true, laidKinds := [.data, .data, .data, .data, .sentinel, .sentinel, .pinned], laidTests := true, laidLooks := .later }
def Sec1TellsUptoCardSaid : Prop := Claim7.holds Tryz.pinned (.plain (OpenSpec.upto sec1TellsSpec)) sec1TellsUptoCard

/-- THE SECOND FORM's CARD OF 'clavigerlaw25.Sec1Back'. -/
def sec1BackUptoCard : Claim7 := { stood := { row := sec1BackUptoRow, standIns := [], harness := (true, "7d985f8e3ebe68b0b049330a41791585831bdb68c4c4ba2536a316b60f11c03a"), looks := true }, kinds := [], alts := [], laidByText := true, laidKinds := [.data, .data, .data, .data, .sentinel, .sentinel, .pinned], laidTests := true, laidLooks := .later }
def Sec1BackUptoCardSaid : Prop := Claim7.holds Tryz.pinned (.plain (OpenSpec.upto sec1BackSpec)) sec1BackUptoCard
end Rows
end Go.Proofs.YtdombjceoocnhaaGreatDoor
