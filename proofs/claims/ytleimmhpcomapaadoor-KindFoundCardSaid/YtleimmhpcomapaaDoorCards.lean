/-
  DERIVED. GIVEN WITH THE SEED: THE CARDS: each row of YtleimmhpcomapaaDoorRows.lean that lists a variable, with what it lists TIED to the program's text (the seventh form; the later family's looks); each row that meets fmt, with fmt's text TOLD by the authors' own Lean function (tested against real Go, not proved from fmt's source: count such statements apart). THE CARD IS WHAT COUNTS. Prove the row's statement (the work); the ties are given (YtleimmhpcomapaaDoorTie.lean); close each card by the builder's one call (the guide's Derived/Test/ToyasCard.lean, 'card_holds'). Laid BY PROGRAM, IN A SANDBOX (cutbox-door.mjs). By AI agents, Wed Nov 11 2026. No macro, syntax, notation, axiom, sorry.
-/
import Derived.Test.YtleimmhpcomapaaDoorRows
import GoSem.ClaimSeven
namespace Go.Proofs.YtleimmhpcomapaaDoor
namespace Rows

/-- THE TIED CARD OF 'clavigerlaw23.KindChecks'. -/
def kindChecksCard : Claim7 := { stood := { row := kindChecksRow, standIns := [], harness := (true, "52cdd317dad5ea6dd8549d2d26f0ac9b991c7f2dad7c8621a84b2c2ea329d6e1"), looks := true }, kinds := [], alts := [], laidByText := true, laidKinds := [.data, .pinned], laidTests := true, laidLooks := .later }
def KindChecksCardSaid : Prop := Claim7.holds Tryd.pinned (.plain (OpenSpec.ofChange kindChecksSpec)) kindChecksCard

/-- THE TIED CARD OF 'clavigerlaw23.KindFound'. -/
def kindFoundCard : Claim7 := { stood := { row := kindFoundRow, standIns := [], harness := (true, "52cdd317dad5ea6dd8549d2d26f0ac9b991c7f2dad7c8621a84b2c2ea329d6e1"), looks := true }, kinds := [], alts := [], laidByText := true, laidKinds := [.data, .data, .data, .data, .sentinel, .sentinel, .pinned], laidTests := true, laidLooks := .later }
def KindFoundCardSaid : Prop := Claim7.holds Tryd.pinned (.plain (OpenSpec.ofChange kindFoundSpec)) kindFoundCard

/-- THE SECOND FORM's CARD OF 'clavigerlaw23.KindChecks'. -/
def kindChecksUptoCard : Claim7 := { stood := { row := kindChecksUptoRow, standIns := [], harness := (true, "52cdd317dad5ea6dd8549d2d26f0ac9b991c7f2dad7c8621a84b2c2ea329d6e1"), looks := true }, kinds := [], alts := [], laidByText := true, laidKinds := [.data, .pinned], laidTests := true, laidLooks := .later }
def KindChecksUptoCardSaid : Prop := Claim7.holds Tryd.pinned (.plain (OpenSpec.upto kindChecksSpec)) kindChecksUptoCard

/-- THE SECOND FORM's CARD OF 'clavigerlaw23.KindFound'. -/
def kindFoundUptoCard : Claim7 := { stood := { row := kindFoundUptoRow, standIns := [], harness := (true, "52cdd317dad5ea6dd8549d2d26f0ac9b991c7f2dad7c8621a84b2c2ea329d6e1"), looks := true }, kinds := [], alts := [], laidByText := true, laidKinds := [.data, .data, .data, .data, .sentinel, .sentinel, .pinned], laidTests := true, laidLooks := .later }
def KindFoundUptoCardSaid : Prop := Claim7.holds Tryd.pinned (.plain (OpenSpec.upto kindFoundSpec)) kindFoundUptoCard
end Rows
end Go.Proofs.YtleimmhpcomapaaDoor
