/-
  DERIVED. GIVEN WITH THE SEED: THE CARDS: each row of YtfcdabhalahieaaGreatDoorRows.lean that lists a variable, with what it lists TIED to the program's text (the seventh form; the later family's looks); each row that meets fmt, with fmt's text TOLD by the authors' own Lean function (tested against real Go, not proved from fmt's source: count such statements apart). THE CARD IS WHAT COUNTS. Prove the row's statement (the work); the ties are given (YtfcdabhalahieaaGreatDoorTie.lean); close each card by the builder's one call (the guide's Derived/Test/ToyasCard.lean, 'card_holds'). Laid BY PROGRAM, IN A SANDBOX (cutbox-door.mjs). By AI agents, Wed Nov 11 2026. No macro, syntax, notation, axiom, sorry.
-/
import Derived.Test.YtfcdabhalahieaaGreatDoorRows
import GoSem.ClaimSeven
namespace Go.Proofs.YtfcdabhalahieaaGreatDoor
namespace Rows

/-- THE TIED CARD OF 'clavigerlaw26.Pkcs8Tells'. -/
def pkcs8TellsCard : Claim7 := { stood := { row := pkcs8TellsRow, standIns := [], harness := (true, "851941027782f9d27a68878c3b5ccee7dd5637526c02a8a168fa8c138ff3c779"), looks := false }, kinds := [], alts := [], laidByText := true, laidKinds := [.data, .pinned], laidTests := true, laidLooks := .later }
def Pkcs8TellsCardSaid : Prop := Claim7.holds Tryz.pinned (.plain (OpenSpec.ofChange pkcs8TellsSpec)) pkcs8TellsCard

/-- THE SECOND FORM's CARD OF 'clavigerlaw26.Pkcs8Tells'. -/
def pkcs8TellsUptoCard : Claim7 := { stood := { row := pkcs8TellsUptoRow, standIns := [], harness := (true, "851941027782f9d27a68878c3b5ccee7dd5637526c02a8a168fa8c138ff3c779"), looks := false }, kinds := [], alts := [], laidByText := true, laidKinds := [.data, .pinned], laidTests := true, laidLooks := .later }
def Pkcs8TellsUptoCardSaid : Prop := Claim7.holds Tryz.pinned (.plain (OpenSpec.upto pkcs8TellsSpec)) pkcs8TellsUptoCard
end Rows
end Go.Proofs.YtfcdabhalahieaaGreatDoor
