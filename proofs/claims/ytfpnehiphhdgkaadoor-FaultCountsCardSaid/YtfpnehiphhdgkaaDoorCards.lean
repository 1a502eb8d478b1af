/-
  DERIVED. GIVEN WITH THE SEED: THE CARDS: each row of YtfpnehiphhdgkaaDoorRows.lean that lists a variable, with what it lists TIED to the program's text (the seventh form; the later family's looks); each row that meets fmt, with fmt's text TOLD by the authors' own Lean function (tested against real Go, not proved from fmt's source: count such statements apart). THE CARD IS WHAT COUNTS. Prove the row's statement (the work); the ties are given (YtfpnehiphhdgkaaDoorTie.lean); close each card by the builder's one call (the guide's Derived/Test/ToyasCard.lean, 'card_holds'). Laid BY PROGRAM, IN A SANDBOX (cutbox-door.mjs). By AI agents, Wed Nov 11 2026. No macro, syntax, notation, axiom, sorry.
-/
import Derived.Test.YtfpnehiphhdgkaaDoorRows
import GoSem.ClaimSeven
namespace Go.Proofs.YtfpnehiphhdgkaaDoor
namespace Rows

/-- THE TIED CARD OF 'clavigerlaw40.FaultFound'. -/
def faultFoundCard : Claim7 := { stood := { row := faultFoundRow, standIns := [], harness := (true, "64111623ca91d2835cbe02fbe31fe990f8ca83375adf64c5643bd5e4daa36943"), looks := false }, kinds := [], alts := [], laidByText := true, laidKinds := [.listed, .data], laidTests := true, laidLooks := .later }
def FaultFoundCardSaid : Prop := Claim7.holds Tryd.pinned (.plain (OpenSpec.ofChange faultFoundSpec)) faultFoundCard

/-- THE TIED CARD OF 'clavigerlaw40.FaultTells'. -/
def faultTellsCard : Claim7 := { stood := { row := faultTellsRow, standIns := [], harness := (true, "64111623ca91d2835cbe02fbe31fe990f8ca83375adf64c5643bd5e4daa36943"), looks := false }, kinds := [], alts := [], laidByText := true, laidKinds := [.listed, .data], laidTests := true, laidLooks := .later }
def FaultTellsCardSaid : Prop := Claim7.holds Tryd.pinned (.plain (OpenSpec.ofChange faultTellsSpec)) faultTellsCard

/-- THE TIED CARD OF 'clavigerlaw40.FaultCounts'. -/
def faultCountsCard : Claim7 := { stood := { row := faultCountsRow, standIns := [], harness := (true, "64111623ca91d2835cbe02fbe31fe990f8ca83375adf64c5643bd5e4daa36943"), looks := false }, kinds := [], alts := [], laidByText := true, laidKinds := [.listed, .data], laidTests := true, laidLooks := .later }
def FaultCountsCardSaid : Prop := Claim7.holds Tryd.pinned (.plain (OpenSpec.ofChange faultCountsSpec)) faultCountsCard

/-- THE SECOND FORM's CARD OF 'clavigerlaw40.FaultFound'. -/
def faultFoundUptoCard : Claim7 := { stood := { row := faultFoundUptoRow, standIns := [], harness := (true, "64111623ca91d2835cbe02fbe31fe990f8ca83375adf64c5643bd5e4daa36943"), looks := false }, kinds := [], alts := [], laidByText := true, laidKinds := [.listed, .data], laidTests := true, laidLooks := .later }
def FaultFoundUptoCardSaid : Prop := Claim7.holds Tryd.pinned (.plain (OpenSpec.upto faultFoundSpec)) faultFoundUptoCard

/-- THE SECOND FORM's CARD OF 'clavigerlaw40.FaultTells'. -/
def faultTellsUptoCard : Claim7 := { stood := { row := faultTellsUptoRow, standIns := [], harness := (true, "64111623ca91d2835cbe02fbe31fe990f8ca83375adf64c5643bd5e4daa36943"), looks := false }, kinds := [], alts := [], laidByText := true, laidKinds := [.listed, .data], laidTests := true, laidLooks := .later }
def FaultTellsUptoCardSaid : Prop := Claim7.holds Tryd.pinned (.plain (OpenSpec.upto faultTellsSpec)) faultTellsUptoCard

/-- THE SECOND FORM's CARD OF 'clavigerlaw40.FaultCounts'. -/
def faultCountsUptoCard : Claim7 := { stood := { row := faultCountsUptoRow, standIns := [], harness := (true, "64111623ca91d2835cbe02fbe31fe990f8ca83375adf64c5643bd5e4daa36943"), looks := false }, kinds := [], alts := [], laidByText := true, laidKinds := [.listed, .data], laidTests := true, laidLooks := .later }
def FaultCountsUptoCardSaid : Prop := Claim7.holds Tryd.pinned (.plain (OpenSpec.upto faultCountsSpec)) faultCountsUptoCard
end Rows
end Go.Proofs.YtfpnehiphhdgkaaDoor
