/-
  DERIVED. GIVEN WITH THE SEED: THE CARDS: each row of YtnadhmahplbinaaDoorRows.lean that lists a variable, with what it lists TIED to the program's text (the seventh form; the later family's looks); each row that meets fmt, with fmt's text TOLD by the authors' own Lean function (tested against real Go, not proved from fmt's source: count such statements apart). THE CARD IS WHAT COUNTS. Prove the row's statement (the work); the ties are given (YtnadhmahplbinaaDoorTie.lean); close each card by the builder's one call (the guide's Derived/Test/ToyasCard.lean, 'card_holds'). Laid BY PROGRAM, IN A SANDBOX (cutbox-door.mjs). By AI agents, Wed Nov 11 2026. No macro, syntax, notation, axiom, sorry.
-/
import Derived.Test.YtnadhmahplbinaaDoorRows
import GoSem.ClaimSeven
namespace Go.Proofs.YtnadhmahplbinaaDoor
namespace Rows

/-- THE TIED CARD OF 'clavigerlaw19.TlvTells'. -/
def tlvTellsCard : Claim7 := { stood := { row := tlvTellsRow, standIns := [], harness := (true, "63fce7a920f68978646e194f1bcf6f764e2cfdfcfc5869b4bb3ba426ad6d9b66"), looks := false }, kinds := [], alts := [], laidByText := true, laidKinds := [.data, .pinned], laidTests := true, laidLooks := .later }
def TlvTellsCardSaid : Prop := Claim7.holds Tryd.pinned (.plain (OpenSpec.ofChange tlvTellsSpec)) tlvTellsCard

/-- THE TIED CARD OF 'clavigerlaw19.TlvNests'. -/
def tlvNestsCard : Claim7 := { stood := { row := tlvNestsRow, standIns := [], harness := (true, "63fce7a920f68978646e194f1bcf6f764e2cfdfcfc5869b4bb3ba426ad6d9b66"), looks := false }, kinds := [], alts := [], laidByText := true, laidKinds := [.data, .pinned], laidTests := true, laidLooks := .later }
def TlvNestsCardSaid : Prop := Claim7.holds Tryd.pinned (.plain (OpenSpec.ofChange tlvNestsSpec)) tlvNestsCard

/-- THE TIED CARD OF 'clavigerlaw19.TlvPieces'. -/
def tlvPiecesCard : Claim7 := { stood := { row := tlvPiecesRow, standIns := [], harness := (true, "63fce7a920f68978646e194f1bcf6f764e2cfdfcfc5869b4bb3ba426ad6d9b66"), looks := false }, kinds := [], alts := [], laidByText := true, laidKinds := [.data, .pinned], laidTests := true, laidLooks := .later }
def TlvPiecesCardSaid : Prop := Claim7.holds Tryd.pinned (.plain (OpenSpec.ofChange tlvPiecesSpec)) tlvPiecesCard

/-- THE SECOND FORM's CARD OF 'clavigerlaw19.TlvTells'. -/
def tlvTellsUptoCard : Claim7 := { stood := { row := tlvTellsUptoRow, standIns := [], harness := (true, "63fce7a920f68978646e194f1bcf6f764e2cfdfcfc5869b4bb3ba426ad6d9b66"), looks := false }, kinds := [], alts := [], laidByText := true, laidKinds := [.data, .pinned], laidTests := true, laidLooks := .later }
def TlvTellsUptoCardSaid : Prop := Claim7.holds Tryd.pinned (.plain (OpenSpec.upto tlvTellsSpec)) tlvTellsUptoCard

/-- THE SECOND FORM's CARD OF 'clavigerlaw19.TlvNests'. -/
def tlvNestsUptoCard : Claim7 := { stood := { row := tlvNestsUptoRow, standIns := [], harness := (true, "63fce7a920f68978646e194f1bcf6f764e2cfdfcfc5869b4bb3ba426ad6d9b66"), looks := false }, kinds := [], alts := [], laidByText := true, laidKinds := [.data, .pinned], laidTests := true, laidLooks := .later }
def TlvNestsUptoCardSaid : Prop := Claim7.holds Tryd.pinned (.plain (OpenSpec.upto tlvNestsSpec)) tlvNestsUptoCard

/-- THE SECOND FORM's CARD OF 'clavigerlaw19.TlvPieces'. -/
def tlvPiecesUptoCard : Claim7 := { stood := { row := tlvPiecesUptoRow, standIns := [], harness := (true, "63fce7a920f68978646e194f1bcf6f764e2cfdfcfc5869b4bb3ba426ad6d9b66"), looks := false }, kinds := [], alts := [], laidByText := true, laidKinds := [.data, .pinned], laidTests := true, laidLooks := .later }
def TlvPiecesUptoCardSaid : Prop := Claim7.holds Tryd.pinned (.plain (OpenSpec.upto tlvPiecesSpec)) tlvPiecesUptoCard
end Rows
end Go.Proofs.YtnadhmahplbinaaDoor
