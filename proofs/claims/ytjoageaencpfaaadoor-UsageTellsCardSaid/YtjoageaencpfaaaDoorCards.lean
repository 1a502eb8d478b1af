/-
  DERIVED. GIVEN WITH THE SEED: THE CARDS: each row of YtjoageaencpfaaaDoorRows.lean that lists a variable, with what it lists TIED to the program's text (the seventh form; the later family's looks); each row that meets fmt, with fmt's text TOLD by the authors' own Lean function (tested against real Go, not proved from fmt's source: count such statements apart). THE CARD IS WHAT COUNTS. Prove the row's statement (the work); the ties are given (YtjoageaencpfaaaDoorTie.lean); close each card by the builder's one call (the guide's Derived/Test/ToyasCard.lean, 'card_holds'). Laid BY PROGRAM, IN A SANDBOX (cutbox-door.mjs). By AI agents, Wed Nov 11 2026. No macro, syntax, notation, axiom, sorry.
-/
import Derived.Test.YtjoageaencpfaaaDoorRows
import GoSem.ClaimSeven
namespace Go.Proofs.YtjoageaencpfaaaDoor
namespace Rows

/-- THE TIED CARD OF 'clavigerlaw41.UsageTells'. -/
def usageTellsCard : Claim7 := { stood := { row := usageTellsRow, standIns := [], harness := (true, "4443d5e3c9586367f64a94e370e45223906ce940c89b9ec9daea0ffe08196dc4"), looks := false }, kinds := [], alts := [], laidByText := true, laidKinds := [.listed, .data], laidTests := true, laidLooks := .later }
def UsageTellsCardSaid : Prop := Claim7.holds Tryd.pinned (.plain (OpenSpec.ofChange usageTellsSpec)) usageTellsCard

/-- THE TIED CARD OF 'clavigerlaw41.UsageGoes'. -/
def usageGoesCard : Claim7 := { stood := { row := usageGoesRow, standIns := [], harness := (true, "4443d5e3c9586367f64a94e370e45223906ce940c89b9ec9daea0ffe08196dc4"), looks := false }, kinds := [], alts := [], laidByText := true, laidKinds := [.listed, .data], laidTests := true, laidLooks := .later }
def UsageGoesCardSaid : Prop := Claim7.holds Tryd.pinned (.plain (OpenSpec.ofChange usageGoesSpec)) usageGoesCard

/-- THE SECOND FORM's CARD OF 'clavigerlaw41.UsageTells'. -/
def usageTellsUptoCard : Claim7 := { stood := { row := usageTellsUptoRow, standIns := [], harness := (true, "4443d5e3c9586367f64a94e370e45223906ce940c89b9ec9daea0ffe08196dc4"), looks := false }, kinds := [], alts := [], laidByText := true, laidKinds := [.listed, .data], laidTests := true, laidLooks := .later }
def UsageTellsUptoCardSaid : Prop := Claim7.holds Tryd.pinned (.plain (OpenSpec.upto usageTellsSpec)) usageTellsUptoCard

/-- THE SECOND FORM's CARD OF 'clavigerlaw41.UsageGoes'. -/
def usageGoesUptoCard : Claim7 := { stood := { row := usageGoesUptoRow, standIns := [], harness := (true, "4443d5e3c9586367f64a94e370e45223906ce940c89b9ec9daea0ffe08196dc4"), looks := false }, kinds := [], alts := [], laidByText := true, laidKinds := [.listed, .data], laidTests := true, laidLooks := .later }
def UsageGoesUptoCardSaid : Prop := Claim7.holds Tryd.pinned (.plain (OpenSpec.upto usageGoesSpec)) usageGoesUptoCard
end Rows
end Go.Proofs.YtjoageaencpfaaaDoor
