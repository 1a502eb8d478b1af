/-
  DERIVED. GIVEN WITH THE SEED: THE CARDS: each row of YtjkhfognncadbaaDoorRows.lean that lists a variable, with what it lists TIED to the program's text (the seventh form; the later family's looks); each row that meets fmt, with fmt's text TOLD by the authors' own Lean function (tested against real Go, not proved from fmt's source: count such statements apart). THE CARD IS WHAT COUNTS. Prove the row's statement (the work); the ties are given (YtjkhfognncadbaaDoorTie.lean); close each card by the builder's one call (the guide's Derived/Test/ToyasCard.lean, 'card_holds'). Laid BY PROGRAM, IN A SANDBOX (cutbox-door.mjs). By AI agents, Wed Nov 11 2026. No macro, syntax, notation, axiom, sorry.
-/
import Derived.Test.YtjkhfognncadbaaDoorRows
import GoSem.ClaimSeven
namespace Go.Proofs.YtjkhfognncadbaaDoor
namespace Rows

/-- THE TIED CARD OF 'clavigerlaw17.OidTells'. -/
def oidTellsCard : Claim7 := { stood := { row := oidTellsRow, standIns := [], harness := (true, "03312ae694902c2904720b533922308aa4318d05de1b1a17b2f27210faf96886"), looks := true }, kinds := [], alts := [], laidByText := true, laidKinds := [.data, .data, .data, .data, .sentinel, .sentinel, .pinned], laidTests := true, laidLooks := .later }
def OidTellsCardSaid : Prop := Claim7.holds Tryd.pinned (.plain (OpenSpec.ofChange oidTellsSpec)) oidTellsCard

/-- THE TIED CARD OF 'clavigerlaw17.OidBack'. -/
def oidBackCard : Claim7 := { stood := { row := oidBackRow, standIns := [], harness := (true, "03312ae694902c2904720b533922308aa4318d05de1b1a17b2f27210faf96886"), looks := true }, kinds := [], alts := [], laidByText := true, laidKinds := [.data, .data, .data, .data, .sentinel, .sentinel, .pinned], laidTests := true, laidLooks := .later }
def OidBackCardSaid : Prop := Claim7.holds Tryd.pinned (.plain (OpenSpec.ofChange oidBackSpec)) oidBackCard

/-- THE SECOND FORM's CARD OF 'clavigerlaw17.OidTells'. -/
def oidTellsUptoCard : Claim7 := { stood := { row := oidTellsUptoRow, standIns := [], harness := (true, "03312ae694902c2904720b533922308aa4318d05de1b1a17b2f27210faf96886"), looks := true }, kinds := [], alts := [], laidByText := true, laidKinds := [.data, .data, .data, .data, .sentinel, .sentinel, .pinned], laidTests := true, laidLooks := .later }
def OidTellsUptoCardSaid : Prop := Claim7.holds Tryd.pinned (.plain (OpenSpec.upto oidTellsSpec)) oidTellsUptoCard

/-- THE SECOND FORM's CARD OF 'clavigerlaw17.OidBack'. -/
def oidBackUptoCard : Claim7 := { stood := { row := oidBackUptoRow, standIns := [], harness := (true, "03312ae694902c2904720b533922308aa4318d05de1b1a17b2f27210faf96886"), looks := true }, kinds := [], alts := [], laidByText := true, laidKinds := [.data, .data, .data, .data, .sentinel, .sentinel, .pinned], laidTests := true, laidLooks := .later }
def OidBackUptoCardSaid : Prop := Claim7.holds Tryd.pinned (.plain (OpenSpec.upto oidBackSpec)) oidBackUptoCard
end Rows
end Go.Proofs.YtjkhfognncadbaaDoor
