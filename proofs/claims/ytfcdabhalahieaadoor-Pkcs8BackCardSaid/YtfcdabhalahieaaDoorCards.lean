/-
  DERIVED. GIVEN WITH THE SEED: THE CARDS: each row of YtfcdabhalahieaaDoorRows.lean that lists a variable, with what it lists TIED to the program's text (the seventh form; the later family's looks); each row that meets fmt, with fmt's text TOLD by the authors' own Lean function (tested against real Go, not proved from fmt's source: count such statements apart). THE CARD IS WHAT COUNTS. Prove the row's statement (the work); the ties are given (YtfcdabhalahieaaDoorTie.lean); close each card by the builder's one call (the guide's Derived/Test/ToyasCard.lean, 'card_holds'). Laid BY PROGRAM, IN A SANDBOX (cutbox-door.mjs). By AI agents, Wed Nov 11 2026. No macro, syntax, notation, axiom, sorry.
-/
import Derived.Test.YtfcdabhalahieaaDoorRows
import GoSem.ClaimSeven
namespace Go.Proofs.YtfcdabhalahieaaDoor
namespace Rows

/-- THE TIED CARD OF 'clavigerlaw26.Pkcs8Back'. -/
def pkcs8BackCard : Claim7 := { stood := { row := pkcs8BackRow, standIns := [], harness := (true, "b0b8671b3f42420c54d1b9735ec680c10bea17166aa7bde09e30899f1af0cbc8"), looks := false }, kinds := [], alts := [], laidByText := true, laidKinds := [.data, .pinned], laidTests := true, laidLooks := .later }
def Pkcs8BackCardSaid : Prop := Claim7.holds Tryd.pinned (.plain (OpenSpec.ofChange pkcs8BackSpec)) pkcs8BackCard

/-- THE SECOND FORM's CARD OF 'clavigerlaw26.Pkcs8Back'. -/
def pkcs8BackUptoCard : Claim7 := { stood := { row := pkcs8BackUptoRow, standIns := [], harness := (true, "b0b8671b3f42420c54d1b9735ec680c10bea17166aa7bde09e30899f1af0cbc8"), looks := false }, kinds := [], alts := [], laidByText := true, laidKinds := [.data, .pinned], laidTests := true, laidLooks := .later }
def Pkcs8BackUptoCardSaid : Prop := Claim7.holds Tryd.pinned (.plain (OpenSpec.upto pkcs8BackSpec)) pkcs8BackUptoCard
end Rows
end Go.Proofs.YtfcdabhalahieaaDoor
