/-
  DERIVED. GIVEN WITH THE SEED: THE CARDS: each row of YtlocmcemfjfhiaaDoorRows.lean that lists a variable, with what it lists TIED to the program's text (the seventh form; the later family's looks); each row that meets fmt, with fmt's text TOLD by the authors' own Lean function (tested against real Go, not proved from fmt's source: count such statements apart). THE CARD IS WHAT COUNTS. Prove the row's statement (the work); the ties are given (YtlocmcemfjfhiaaDoorTie.lean); close each card by the builder's one call (the guide's Derived/Test/ToyasCard.lean, 'card_holds'). Laid BY PROGRAM, IN A SANDBOX (cutbox-door.mjs). By AI agents, Wed Nov 11 2026. No macro, syntax, notation, axiom, sorry.
-/
import Derived.Test.YtlocmcemfjfhiaaDoorRows
import GoSem.ClaimSeven
namespace Go.Proofs.YtlocmcemfjfhiaaDoor
namespace Rows

/-- THE TIED CARD OF 'clavigerlaw01.OctetsCut'. -/
def octetsCutCard : Claim7 := { stood := { row := octetsCutRow, standIns := [], harness := (true, "41a773e3789a2d27f21c41dac4ac65149ec6ce200257d7773fc80144257516c0"), looks := false }, kinds := [], alts := [], laidByText := true, laidKinds := [.data, .pinned], laidTests := true, laidLooks := .later }
def OctetsCutCardSaid : Prop := Claim7.holds Tryd.pinned (.plain (OpenSpec.ofChange octetsCutSpec)) octetsCutCard

/-- THE TIED CARD OF 'clavigerlaw16.WholeTells'. -/
def wholeTellsCard : Claim7 := { stood := { row := wholeTellsRow, standIns := [], harness := (true, "41a773e3789a2d27f21c41dac4ac65149ec6ce200257d7773fc80144257516c0"), looks := false }, kinds := [], alts := [], laidByText := true, laidKinds := [.data, .pinned], laidTests := true, laidLooks := .later }
def WholeTellsCardSaid : Prop := Claim7.holds Tryd.pinned (.plain (OpenSpec.ofChange wholeTellsSpec)) wholeTellsCard

/-- THE TIED CARD OF 'clavigerlaw16.WholeBig'. -/
def wholeBigCard : Claim7 := { stood := { row := wholeBigRow, standIns := [], harness := (true, "41a773e3789a2d27f21c41dac4ac65149ec6ce200257d7773fc80144257516c0"), looks := false }, kinds := [], alts := [], laidByText := true, laidKinds := [.data, .pinned], laidTests := true, laidLooks := .later }
def WholeBigCardSaid : Prop := Claim7.holds Tryd.pinned (.plain (OpenSpec.ofChange wholeBigSpec)) wholeBigCard

/-- THE TIED CARD OF 'clavigerlaw16.WholeBack'. -/
def wholeBackCard : Claim7 := { stood := { row := wholeBackRow, standIns := [], harness := (true, "41a773e3789a2d27f21c41dac4ac65149ec6ce200257d7773fc80144257516c0"), looks := false }, kinds := [], alts := [], laidByText := true, laidKinds := [.data, .pinned], laidTests := true, laidLooks := .later }
def WholeBackCardSaid : Prop := Claim7.holds Tryd.pinned (.plain (OpenSpec.ofChange wholeBackSpec)) wholeBackCard

/-- THE TIED CARD OF 'clavigerlaw18.StrsTells'. -/
def strsTellsCard : Claim7 := { stood := { row := strsTellsRow, standIns := [], harness := (true, "41a773e3789a2d27f21c41dac4ac65149ec6ce200257d7773fc80144257516c0"), looks := false }, kinds := [], alts := [], laidByText := true, laidKinds := [.data, .pinned], laidTests := true, laidLooks := .later }
def StrsTellsCardSaid : Prop := Claim7.holds Tryd.pinned (.plain (OpenSpec.ofChange strsTellsSpec)) strsTellsCard

/-- THE TIED CARD OF 'clavigerlaw18.StrsRight'. -/
def strsRightCard : Claim7 := { stood := { row := strsRightRow, standIns := [], harness := (true, "41a773e3789a2d27f21c41dac4ac65149ec6ce200257d7773fc80144257516c0"), looks := false }, kinds := [], alts := [], laidByText := true, laidKinds := [.data, .pinned], laidTests := true, laidLooks := .later }
def StrsRightCardSaid : Prop := Claim7.holds Tryd.pinned (.plain (OpenSpec.ofChange strsRightSpec)) strsRightCard

/-- THE TIED CARD OF 'clavigerlaw18.StrsBack'. -/
def strsBackCard : Claim7 := { stood := { row := strsBackRow, standIns := [], harness := (true, "41a773e3789a2d27f21c41dac4ac65149ec6ce200257d7773fc80144257516c0"), looks := false }, kinds := [], alts := [], laidByText := true, laidKinds := [.data, .pinned], laidTests := true, laidLooks := .later }
def StrsBackCardSaid : Prop := Claim7.holds Tryd.pinned (.plain (OpenSpec.ofChange strsBackSpec)) strsBackCard

/-- THE SECOND FORM's CARD OF 'clavigerlaw01.OctetsCut'. -/
def octetsCutUptoCard : Claim7 := { stood := { row := octetsCutUptoRow, standIns := [], harness := (true, "41a773e3789a2d27f21c41dac4ac65149ec6ce200257d7773fc80144257516c0"), looks := false }, kinds := [], alts := [], laidByText := true, laidKinds := [.data, .pinned], laidTests := true, laidLooks := .later }
def OctetsCutUptoCardSaid : Prop := Claim7.holds Tryd.pinned (.plain (OpenSpec.upto octetsCutSpec)) octetsCutUptoCard

/-- THE SECOND FORM's CARD OF 'clavigerlaw16.WholeTells'. -/
def wholeTellsUptoCard : Claim7 := { stood := { row := wholeTellsUptoRow, standIns := [], harness := (true, "41a773e3789a2d27f21c41dac4ac65149ec6ce200257d7773fc80144257516c0"), looks := false }, kinds := [], alts := [], laidByText := true, laidKinds := [.data, .pinned], laidTests := true, laidLooks := .later }
def WholeTellsUptoCardSaid : Prop := Claim7.holds Tryd.pinned (.plain (OpenSpec.upto wholeTellsSpec)) wholeTellsUptoCard

/-- THE SECOND FORM's CARD OF 'clavigerlaw16.WholeBig'. -/
def wholeBigUptoCard : Claim7 := { stood := { row := wholeBigUptoRow, standIns := [], harness := (true, "41a773e3789a2d27f21c41dac4ac65149ec6ce200257d7773fc80144257516c0"), looks := false }, kinds := [], alts := [], laidByText := true, laidKinds := [.data, .pinned], laidTests := true, laidLooks := .later }
def WholeBigUptoCardSaid : Prop := Claim7.holds Tryd.pinned (.plain (OpenSpec.upto wholeBigSpec)) wholeBigUptoCard

/-- THE SECOND FORM's CARD OF 'clavigerlaw16.WholeBack'. -/
def wholeBackUptoCard : Claim7 := { stood := { row := wholeBackUptoRow, standIns := [], harness := (true, "41a773e3789a2d27f21c41dac4ac65149ec6ce200257d7773fc80144257516c0"), looks := false }, kinds := [], alts := [], laidByText := true, laidKinds := [.data, .pinned], laidTests := true, laidLooks := .later }
def WholeBackUptoCardSaid : Prop := Claim7.holds Tryd.pinned (.plain (OpenSpec.upto wholeBackSpec)) wholeBackUptoCard

/-- THE SECOND FORM's CARD OF 'clavigerlaw18.StrsTells'. -/
def strsTellsUptoCard : Claim7 := { stood := { row := strsTellsUptoRow, standIns := [], harness := (true, "41a773e3789a2d27f21c41dac4ac65149ec6ce200257d7773fc80144257516c0"), looks := false }, kinds := [], alts := [], laidByText := true, laidKinds := [.data, .pinned], laidTests := true, laidLooks := .later }
def StrsTellsUptoCardSaid : Prop := Claim7.holds Tryd.pinned (.plain (OpenSpec.upto strsTellsSpec)) strsTellsUptoCard

/-- THE SECOND FORM's CARD OF 'clavigerlaw18.StrsRight'. -/
def strsRightUptoCard : Claim7 := { stood := { row := strsRightUptoRow, standIns := [], harness := (true, "41a773e3789a2d27f21c41dac4ac65149ec6ce200257d7773fc80144257516c0"), looks := false }, kinds := [], alts := [], laidByText := true, laidKinds := [.data, .pinned], laidTests := true, laidLooks := .later }
def StrsRightUptoCardSaid : Prop := Claim7.holds Tryd.pinned (.plain (OpenSpec.upto strsRightSpec)) strsRightUptoCard

/-- THE SECOND FORM's CARD OF 'clavigerlaw18.StrsBack'. -/
def strsBackUptoCard : Claim7 := { stood := { row := strsBackUptoRow, standIns := [], harness := (true, "41a773e3789a2d27f21c41dac4ac65149ec6ce200257d7773fc80144257516c0"), looks := false }, kinds := [], alts := [], laidByText := true, laidKinds := [.data, .pinned], laidTests := true, laidLooks := .later }
def StrsBackUptoCardSaid : Prop := Claim7.holds Tryd.pinned (.plain (OpenSpec.upto strsBackSpec)) strsBackUptoCard
end Rows
end Go.Proofs.YtlocmcemfjfhiaaDoor
