/-
  NARROWER THAN 'FOR EVERY INPUT', by the rows' own cells (each row's printed sentence says how): OctetsCut: laid · WholeTells: laid · WholeBig: laid · WholeBack: laid · StrsTells: laid · StrsRight: laid · StrsBack: laid.
  DERIVED. THE GIVEN ROWS OF THIS SEAT. 7 by the template 'for every input the law returns true; each argument reads behind the call as it read before'; 0 by the template 'total and deterministic' (their statements: YtlocmcemfjfhiaaDoorTotals.lean).
  GIVEN WITH THE SEED: the statements are not yours to turn. If you find one false, say at which input.
  Laid BY PROGRAM, IN A SANDBOX (cutbox-rows.mjs): the forced cells as the released guide's own fill.sh prints them over the translation 337b83696337fd37… (all of the seat's roots in one cut). By AI agents, Wed Nov 11 2026. No macro, syntax, notation, axiom, sorry.
-/
import Derived.Test.YtlocmcemfjfhiaaDoorChecked
import GoSem.PinnedTables
import GoSem.Claim
import GoSem.ClaimJoined
import GoSem.ClaimMapViews
import Derived.JoinedTies
import Derived.KernelRfl
namespace Go.Proofs.YtlocmcemfjfhiaaDoor
/- THE CELL 'sum', in the pinned program and in every row, IS THE sha256 OF THE DUMP (.gsa) THAT YtlocmcemfjfhiaaDoorProg.lean LOADS. Nothing in Lean hashes anything: it is a label: what it is worth is what the hold of that sum in a sandbox is worth. -/
noncomputable def Tryd.pinned : Pinned := { name := "ytlocmcemfjfhiaadoor", sum := "337b83696337fd37bc28e9dbc670659d036558ec569db64c4a37afddd367edeb", checked := Tryd.checked }
namespace Rows
def none {H : Type} : Left H := { results := [], args := [] }

/- WHAT THE LISTED PACKAGE-LEVEL VARIABLES READ AS WHEN THE CALL BEGINS. Each datum BY PROGRAM (the guide's laid-datum.mjs) off the statement by which the dump's own 'gosem.cut.vars' lays the variable. In a bare row this is a premise. The card (YtlocmcemfjfhiaaDoorCards.lean) ties it to the program's text. -/
def laid_unicode_utf8_acceptRanges {H : Type} : DataW H := .agg [.agg [.lit (.int .u8 128), .lit (.int .u8 191)], .agg [.lit (.int .u8 160), .lit (.int .u8 191)], .agg [.lit (.int .u8 128), .lit (.int .u8 159)], .agg [.lit (.int .u8 144), .lit (.int .u8 191)], .agg [.lit (.int .u8 128), .lit (.int .u8 143)], .agg [.lit (.int .u8 0), .lit (.int .u8 0)], .agg [.lit (.int .u8 0), .lit (.int .u8 0)], .agg [.lit (.int .u8 0), .lit (.int .u8 0)], .agg [.lit (.int .u8 0), .lit (.int .u8 0)], .agg [.lit (.int .u8 0), .lit (.int .u8 0)], .agg [.lit (.int .u8 0), .lit (.int .u8 0)], .agg [.lit (.int .u8 0), .lit (.int .u8 0)], .agg [.lit (.int .u8 0), .lit (.int .u8 0)], .agg [.lit (.int .u8 0), .lit (.int .u8 0)], .agg [.lit (.int .u8 0), .lit (.int .u8 0)], .agg [.lit (.int .u8 0), .lit (.int .u8 0)]]
/-- One of Go's own tables, pinned by name: the form's constant. -/
def laid_unicode_utf8_first : DataW Unit := Go.Pinned.utf8First

/-- 'clavigerlaw01.OctetsCut': WHATEVER THE INPUT: true; the input reads as it did. -/
def octetsCutSpec : ChangeSpec := { name := "octetsCut", fn := fun _ => fun
  | [d1, d2, d3] => { results := [.lit (.bool true)], args := [d1, d2, d3] }
  | _ => none }
def octetsCutRow : OpenClaim := { program := "ytlocmcemfjfhiaadoor", sum := "337b83696337fd37bc28e9dbc670659d036558ec569db64c4a37afddd367edeb", func := "claviger/clavigerlaw01.OctetsCut", spec := "octetsCut", inPlace := ["internal/abi.NoEscape", "internal/bytealg.MakeNoZero", "internal/bytealg.IndexByteString", "internal/bytealg.IndexString"], named := ["unicode/utf8.first", "unicode/utf8.acceptRanges", "internal/bytealg.MaxLen"], apart := false, laid := [("unicode/utf8.acceptRanges", laid_unicode_utf8_acceptRanges), ("unicode/utf8.first", laid_unicode_utf8_first)] }
def OctetsCutSaid : Prop := octetsCutRow.holds Tryd.pinned (OpenSpec.ofChange octetsCutSpec)

/-- ITS FALSE NEIGHBOUR: 'it returns false'. Refute it at one input. -/
def octetsCutWrong : ChangeSpec := { name := "octetsCut", fn := fun _ => fun
  | [d1, d2, d3] => { results := [.lit (.bool false)], args := [d1, d2, d3] }
  | _ => none }
def OctetsCutWrongFalsely : Prop := octetsCutRow.holds Tryd.pinned (OpenSpec.ofChange octetsCutWrong)

/-- 'clavigerlaw16.WholeTells': WHATEVER THE INPUT: true; the input reads as it did. -/
def wholeTellsSpec : ChangeSpec := { name := "wholeTells", fn := fun _ => fun
  | [d1, d2] => { results := [.lit (.bool true)], args := [d1, d2] }
  | _ => none }
def wholeTellsRow : OpenClaim := { program := "ytlocmcemfjfhiaadoor", sum := "337b83696337fd37bc28e9dbc670659d036558ec569db64c4a37afddd367edeb", func := "claviger/clavigerlaw16.WholeTells", spec := "wholeTells", inPlace := ["internal/bytealg.IndexByteString", "internal/bytealg.IndexString"], named := ["unicode/utf8.first", "unicode/utf8.acceptRanges", "internal/bytealg.MaxLen"], apart := false, laid := [("unicode/utf8.acceptRanges", laid_unicode_utf8_acceptRanges), ("unicode/utf8.first", laid_unicode_utf8_first)] }
def WholeTellsSaid : Prop := wholeTellsRow.holds Tryd.pinned (OpenSpec.ofChange wholeTellsSpec)

/-- ITS FALSE NEIGHBOUR: 'it returns false'. Refute it at one input. -/
def wholeTellsWrong : ChangeSpec := { name := "wholeTells", fn := fun _ => fun
  | [d1, d2] => { results := [.lit (.bool false)], args := [d1, d2] }
  | _ => none }
def WholeTellsWrongFalsely : Prop := wholeTellsRow.holds Tryd.pinned (OpenSpec.ofChange wholeTellsWrong)

/-- 'clavigerlaw16.WholeBig': WHATEVER THE INPUT: true; the input reads as it did. -/
def wholeBigSpec : ChangeSpec := { name := "wholeBig", fn := fun _ => fun
  | [d1, d2] => { results := [.lit (.bool true)], args := [d1, d2] }
  | _ => none }
def wholeBigRow : OpenClaim := { program := "ytlocmcemfjfhiaadoor", sum := "337b83696337fd37bc28e9dbc670659d036558ec569db64c4a37afddd367edeb", func := "claviger/clavigerlaw16.WholeBig", spec := "wholeBig", inPlace := ["internal/bytealg.IndexByteString", "internal/bytealg.IndexString", "internal/abi.NoEscape", "internal/bytealg.MakeNoZero"], named := ["unicode/utf8.first", "unicode/utf8.acceptRanges", "internal/bytealg.MaxLen"], apart := false, laid := [("unicode/utf8.acceptRanges", laid_unicode_utf8_acceptRanges), ("unicode/utf8.first", laid_unicode_utf8_first)] }
def WholeBigSaid : Prop := wholeBigRow.holds Tryd.pinned (OpenSpec.ofChange wholeBigSpec)

/-- ITS FALSE NEIGHBOUR: 'it returns false'. Refute it at one input. -/
def wholeBigWrong : ChangeSpec := { name := "wholeBig", fn := fun _ => fun
  | [d1, d2] => { results := [.lit (.bool false)], args := [d1, d2] }
  | _ => none }
def WholeBigWrongFalsely : Prop := wholeBigRow.holds Tryd.pinned (OpenSpec.ofChange wholeBigWrong)

/-- 'clavigerlaw16.WholeBack': WHATEVER THE INPUT: true; the input reads as it did. -/
def wholeBackSpec : ChangeSpec := { name := "wholeBack", fn := fun _ => fun
  | [d1, d2, d3, d4] => { results := [.lit (.bool true)], args := [d1, d2, d3, d4] }
  | _ => none }
def wholeBackRow : OpenClaim := { program := "ytlocmcemfjfhiaadoor", sum := "337b83696337fd37bc28e9dbc670659d036558ec569db64c4a37afddd367edeb", func := "claviger/clavigerlaw16.WholeBack", spec := "wholeBack", inPlace := ["internal/bytealg.IndexByteString", "internal/bytealg.IndexString", "internal/abi.NoEscape", "internal/bytealg.MakeNoZero"], named := ["unicode/utf8.first", "unicode/utf8.acceptRanges", "internal/bytealg.MaxLen"], apart := false, laid := [("unicode/utf8.acceptRanges", laid_unicode_utf8_acceptRanges), ("unicode/utf8.first", laid_unicode_utf8_first)] }
def WholeBackSaid : Prop := wholeBackRow.holds Tryd.pinned (OpenSpec.ofChange wholeBackSpec)

/-- ITS FALSE NEIGHBOUR: 'it returns false'. Refute it at one input. -/
def wholeBackWrong : ChangeSpec := { name := "wholeBack", fn := fun _ => fun
  | [d1, d2, d3, d4] => { results := [.lit (.bool false)], args := [d1, d2, d3, d4] }
  | _ => none }
def WholeBackWrongFalsely : Prop := wholeBackRow.holds Tryd.pinned (OpenSpec.ofChange wholeBackWrong)

/-- 'clavigerlaw18.StrsTells': WHATEVER THE INPUT: true; the input reads as it did. -/
def strsTellsSpec : ChangeSpec := { name := "strsTells", fn := fun _ => fun
  | [d1, d2, d3] => { results := [.lit (.bool true)], args := [d1, d2, d3] }
  | _ => none }
def strsTellsRow : OpenClaim := { program := "ytlocmcemfjfhiaadoor", sum := "337b83696337fd37bc28e9dbc670659d036558ec569db64c4a37afddd367edeb", func := "claviger/clavigerlaw18.StrsTells", spec := "strsTells", inPlace := ["internal/bytealg.IndexByteString", "internal/bytealg.IndexString"], unfollowed := true, recurses := true, named := ["unicode/utf8.first", "unicode/utf8.acceptRanges", "internal/bytealg.MaxLen"], apart := false, laid := [("unicode/utf8.acceptRanges", laid_unicode_utf8_acceptRanges), ("unicode/utf8.first", laid_unicode_utf8_first)] }
def StrsTellsSaid : Prop := strsTellsRow.holds Tryd.pinned (OpenSpec.ofChange strsTellsSpec)

/-- ITS FALSE NEIGHBOUR: 'it returns false'. Refute it at one input. -/
def strsTellsWrong : ChangeSpec := { name := "strsTells", fn := fun _ => fun
  | [d1, d2, d3] => { results := [.lit (.bool false)], args := [d1, d2, d3] }
  | _ => none }
def StrsTellsWrongFalsely : Prop := strsTellsRow.holds Tryd.pinned (OpenSpec.ofChange strsTellsWrong)

/-- 'clavigerlaw18.StrsRight': WHATEVER THE INPUT: true; the input reads as it did. -/
def strsRightSpec : ChangeSpec := { name := "strsRight", fn := fun _ => fun
  | [d1, d2] => { results := [.lit (.bool true)], args := [d1, d2] }
  | _ => none }
def strsRightRow : OpenClaim := { program := "ytlocmcemfjfhiaadoor", sum := "337b83696337fd37bc28e9dbc670659d036558ec569db64c4a37afddd367edeb", func := "claviger/clavigerlaw18.StrsRight", spec := "strsRight", inPlace := ["internal/bytealg.IndexByteString", "internal/bytealg.IndexString"], unfollowed := true, recurses := true, named := ["unicode/utf8.first", "unicode/utf8.acceptRanges", "internal/bytealg.MaxLen"], apart := false, laid := [("unicode/utf8.acceptRanges", laid_unicode_utf8_acceptRanges), ("unicode/utf8.first", laid_unicode_utf8_first)] }
def StrsRightSaid : Prop := strsRightRow.holds Tryd.pinned (OpenSpec.ofChange strsRightSpec)

/-- ITS FALSE NEIGHBOUR: 'it returns false'. Refute it at one input. -/
def strsRightWrong : ChangeSpec := { name := "strsRight", fn := fun _ => fun
  | [d1, d2] => { results := [.lit (.bool false)], args := [d1, d2] }
  | _ => none }
def StrsRightWrongFalsely : Prop := strsRightRow.holds Tryd.pinned (OpenSpec.ofChange strsRightWrong)

/-- 'clavigerlaw18.StrsBack': WHATEVER THE INPUT: true; the input reads as it did. -/
def strsBackSpec : ChangeSpec := { name := "strsBack", fn := fun _ => fun
  | [d1, d2, d3, d4] => { results := [.lit (.bool true)], args := [d1, d2, d3, d4] }
  | _ => none }
def strsBackRow : OpenClaim := { program := "ytlocmcemfjfhiaadoor", sum := "337b83696337fd37bc28e9dbc670659d036558ec569db64c4a37afddd367edeb", func := "claviger/clavigerlaw18.StrsBack", spec := "strsBack", inPlace := ["internal/bytealg.IndexByteString", "internal/bytealg.IndexString"], unfollowed := true, recurses := true, named := ["unicode/utf8.first", "unicode/utf8.acceptRanges", "internal/bytealg.MaxLen"], apart := false, laid := [("unicode/utf8.acceptRanges", laid_unicode_utf8_acceptRanges), ("unicode/utf8.first", laid_unicode_utf8_first)] }
def StrsBackSaid : Prop := strsBackRow.holds Tryd.pinned (OpenSpec.ofChange strsBackSpec)

/-- ITS FALSE NEIGHBOUR: 'it returns false'. Refute it at one input. -/
def strsBackWrong : ChangeSpec := { name := "strsBack", fn := fun _ => fun
  | [d1, d2, d3, d4] => { results := [.lit (.bool false)], args := [d1, d2, d3, d4] }
  | _ => none }
def StrsBackWrongFalsely : Prop := strsBackRow.holds Tryd.pinned (OpenSpec.ofChange strsBackWrong)

/- THE SECOND FORM. 'bulk': how many values and letters a reading holds, each counted each time it is reached (what is shared counts as often as it is met; a slice's spare places count too). A statement '..UptoSaid' is the law's where the arguments, and the package variables that the reading takes, are together of bulk at most 1048576: NARROWER than '..Said'. Prove '..Said' where nothing that the law and all that it calls make is longer than what came in: it says more and counts as full. Else prove '..UptoSaid'. A law counts once. -/
mutual
def uptoBulk {H : Type} : DataW H → Nat
  | .lit (.string bytes) => bytes.length + 1
  | .lit _ => 1
  | .nil => 1
  | .ptr d => uptoBulk d + 1
  | .slice elems spare => uptoBulkAll elems + uptoBulkAll spare + 1
  | .agg parts => uptoBulkAll parts + 1
  | .iface _ d => uptoBulk d + 1
  | .map entries => uptoBulkEntries entries + 1
  | .held _ => 1
def uptoBulkAll {H : Type} : List (DataW H) → Nat
  | [] => 0
  | d :: r => uptoBulk d + uptoBulkAll r
def uptoBulkEntries {H : Type} : List (Lit × DataW H) → Nat
  | [] => 0
  | x :: r => uptoBulkEntry x + uptoBulkEntries r
def uptoBulkEntry {H : Type} : Lit × DataW H → Nat
  | (.string bytes, d) => bytes.length + uptoBulk d + 1
  | (_, d) => uptoBulk d + 1
 end
def uptoSmall : (H : Type) → List (DataW H) → Bool := fun _ ds => decide (uptoBulkAll ds ≤ 1048576)
def OpenSpec.upto (s : _root_.Go.ChangeSpec) : _root_.Go.OpenSpec := { _root_.Go.OpenSpec.ofChange s with cond := some uptoSmall }

/-- 'clavigerlaw01.OctetsCut', WHERE WHAT IT READS IS OF BULK AT MOST 1048576: true; the input reads as it did. -/
def octetsCutUptoRow : OpenClaim := { program := "ytlocmcemfjfhiaadoor", sum := "337b83696337fd37bc28e9dbc670659d036558ec569db64c4a37afddd367edeb", func := "claviger/clavigerlaw01.OctetsCut", spec := "octetsCut", inPlace := ["internal/abi.NoEscape", "internal/bytealg.MakeNoZero", "internal/bytealg.IndexByteString", "internal/bytealg.IndexString"], named := ["unicode/utf8.first", "unicode/utf8.acceptRanges", "internal/bytealg.MaxLen"], apart := false, laid := [("unicode/utf8.acceptRanges", laid_unicode_utf8_acceptRanges), ("unicode/utf8.first", laid_unicode_utf8_first)], narrowed := true }
def OctetsCutUptoSaid : Prop := octetsCutUptoRow.holds Tryd.pinned (OpenSpec.upto octetsCutSpec)

/-- 'clavigerlaw16.WholeTells', WHERE WHAT IT READS IS OF BULK AT MOST 1048576: true; the input reads as it did. -/
def wholeTellsUptoRow : OpenClaim := { program := "ytlocmcemfjfhiaadoor", sum := "337b83696337fd37bc28e9dbc670659d036558ec569db64c4a37afddd367edeb", func := "claviger/clavigerlaw16.WholeTells", spec := "wholeTells", inPlace := ["internal/bytealg.IndexByteString", "internal/bytealg.IndexString"], named := ["unicode/utf8.first", "unicode/utf8.acceptRanges", "internal/bytealg.MaxLen"], apart := false, laid := [("unicode/utf8.acceptRanges", laid_unicode_utf8_acceptRanges), ("unicode/utf8.first", laid_unicode_utf8_first)], narrowed := true }
def WholeTellsUptoSaid : Prop := wholeTellsUptoRow.holds Tryd.pinned (OpenSpec.upto wholeTellsSpec)

/-- 'clavigerlaw16.WholeBig', WHERE WHAT IT READS IS OF BULK AT MOST 1048576: true; the input reads as it did. -/
def wholeBigUptoRow : OpenClaim := { program := "ytlocmcemfjfhiaadoor", sum := "337b83696337fd37bc28e9dbc670659d036558ec569db64c4a37afddd367edeb", func := "claviger/clavigerlaw16.WholeBig", spec := "wholeBig", inPlace := ["internal/bytealg.IndexByteString", "internal/bytealg.IndexString", "internal/abi.NoEscape", "internal/bytealg.MakeNoZero"], named := ["unicode/utf8.first", "unicode/utf8.acceptRanges", "internal/bytealg.MaxLen"], apart := false, laid := [("unicode/utf8.acceptRanges", laid_unicode_utf8_acceptRanges), ("unicode/utf8.first", laid_unicode_utf8_first)], narrowed := true }
def WholeBigUptoSaid : Prop := wholeBigUptoRow.holds Tryd.pinned (OpenSpec.upto wholeBigSpec)

/-- 'clavigerlaw16.WholeBack', WHERE WHAT IT READS IS OF BULK AT MOST 1048576: true; the input reads as it did. -/
def wholeBackUptoRow : OpenClaim := { program := "ytlocmcemfjfhiaadoor", sum := "337b83696337fd37bc28e9dbc670659d036558ec569db64c4a37afddd367edeb", func := "claviger/clavigerlaw16.WholeBack", spec := "wholeBack", inPlace := ["internal/bytealg.IndexByteString", "internal/bytealg.IndexString", "internal/abi.NoEscape", "internal/bytealg.MakeNoZero"], named := ["unicode/utf8.first", "unicode/utf8.acceptRanges", "internal/bytealg.MaxLen"], apart := false, laid := [("unicode/utf8.acceptRanges", laid_unicode_utf8_acceptRanges), ("unicode/utf8.first", laid_unicode_utf8_first)], narrowed := true }
def WholeBackUptoSaid : Prop := wholeBackUptoRow.holds Tryd.pinned (OpenSpec.upto wholeBackSpec)

/-- 'clavigerlaw18.StrsTells', WHERE WHAT IT READS IS OF BULK AT MOST 1048576: true; the input reads as it did. -/
def strsTellsUptoRow : OpenClaim := { program := "ytlocmcemfjfhiaadoor", sum := "337b83696337fd37bc28e9dbc670659d036558ec569db64c4a37afddd367edeb", func := "claviger/clavigerlaw18.StrsTells", spec := "strsTells", inPlace := ["internal/bytealg.IndexByteString", "internal/bytealg.IndexString"], unfollowed := true, recurses := true, named := ["unicode/utf8.first", "unicode/utf8.acceptRanges", "internal/bytealg.MaxLen"], apart := false, laid := [("unicode/utf8.acceptRanges", laid_unicode_utf8_acceptRanges), ("unicode/utf8.first", laid_unicode_utf8_first)], narrowed := true }
def StrsTellsUptoSaid : Prop := strsTellsUptoRow.holds Tryd.pinned (OpenSpec.upto strsTellsSpec)

/-- 'clavigerlaw18.StrsRight', WHERE WHAT IT READS IS OF BULK AT MOST 1048576: true; the input reads as it did. -/
def strsRightUptoRow : OpenClaim := { program := "ytlocmcemfjfhiaadoor", sum := "337b83696337fd37bc28e9dbc670659d036558ec569db64c4a37afddd367edeb", func := "claviger/clavigerlaw18.StrsRight", spec := "strsRight", inPlace := ["internal/bytealg.IndexByteString", "internal/bytealg.IndexString"], unfollowed := true, recurses := true, named := ["unicode/utf8.first", "unicode/utf8.acceptRanges", "internal/bytealg.MaxLen"], apart := false, laid := [("unicode/utf8.acceptRanges", laid_unicode_utf8_acceptRanges), ("unicode/utf8.first", laid_unicode_utf8_first)], narrowed := true }
def StrsRightUptoSaid : Prop := strsRightUptoRow.holds Tryd.pinned (OpenSpec.upto strsRightSpec)

/-- 'clavigerlaw18.StrsBack', WHERE WHAT IT READS IS OF BULK AT MOST 1048576: true; the input reads as it did. -/
def strsBackUptoRow : OpenClaim := { program := "ytlocmcemfjfhiaadoor", sum := "337b83696337fd37bc28e9dbc670659d036558ec569db64c4a37afddd367edeb", func := "claviger/clavigerlaw18.StrsBack", spec := "strsBack", inPlace := ["internal/bytealg.IndexByteString", "internal/bytealg.IndexString"], unfollowed := true, recurses := true, named := ["unicode/utf8.first", "unicode/utf8.acceptRanges", "internal/bytealg.MaxLen"], apart := false, laid := [("unicode/utf8.acceptRanges", laid_unicode_utf8_acceptRanges), ("unicode/utf8.first", laid_unicode_utf8_first)], narrowed := true }
def StrsBackUptoSaid : Prop := strsBackUptoRow.holds Tryd.pinned (OpenSpec.upto strsBackSpec)

end Rows
end Go.Proofs.YtlocmcemfjfhiaaDoor
