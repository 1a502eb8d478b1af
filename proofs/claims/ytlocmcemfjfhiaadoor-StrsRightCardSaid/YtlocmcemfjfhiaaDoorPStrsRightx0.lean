-- laid by a program out of the translation and of templates; not trusted: Lean checks it
import Derived.Test.YtlocmcemfjfhiaaDoorProg
import Derived.Below
import Derived.Deep.Draws
import Derived.Deep.AppendLies
import Derived.Maps.AppendAt
import Derived.OwnWalk
import Derived.Laws.BytesArg
import Derived.Laws.MakeOwn
import Derived.Laws.OwnMore
import Derived.Deep.OwnRows
import Derived.Tactics
import Derived.Lib.ConvBytes
import Derived.Laws.Slices
import Derived.WalkKit
import Derived.KernelRfl
import Derived.RowKit3
import Derived.Deep.LoopGhost
import Derived.Deep.QuietTactic
import Derived.BigQuiet
import Derived.WideLaws
import Derived.Deep.DeepCutAuto
import Derived.Deep.CutBlock
import Derived.Deep.RegionHeld3
import Derived.Laws.Rows
import Derived.Lib.AppendStr
import Derived.ArgAppend
import Derived.Laws.IdiomCopy
import Derived.OrdersHeld
import Derived.Laws.BitsLemmas
import Derived.RowKit
import Derived.Test.YtlocmcemfjfhiaaDoorRows
import Derived.Test.YtlocmcemfjfhiaaDoorWWords
import Derived.Test.YtlocmcemfjfhiaaDoorWLast
import Derived.Test.YtlocmcemfjfhiaaDoorWTab
import Derived.Test.YtlocmcemfjfhiaaDoorWFour
import Derived.Test.YtlocmcemfjfhiaaDoorWQPut
import Derived.Test.YtlocmcemfjfhiaaDoorWApart
import Derived.Test.YtlocmcemfjfhiaaDoorWArr
import Derived.Test.YtlocmcemfjfhiaaDoorWZeros
import Derived.Test.YtlocmcemfjfhiaaDoorWFoot
import Derived.Test.YtlocmcemfjfhiaaDoorWKept
import Derived.Test.YtlocmcemfjfhiaaDoorWShare
import Derived.Test.YtlocmcemfjfhiaaDoorWN
import Derived.Test.YtlocmcemfjfhiaaDoorWFootNe
import Derived.Test.YtlocmcemfjfhiaaDoorWAt
import Derived.Test.YtlocmcemfjfhiaaDoorWEqStruct
import Derived.Test.YtlocmcemfjfhiaaDoorWRepsOne
import Derived.Test.YtlocmcemfjfhiaaDoorWInv
import Derived.Test.YtlocmcemfjfhiaaDoorWInvWords
import Derived.Test.YtlocmcemfjfhiaaDoorWGuard
import Derived.Test.YtlocmcemfjfhiaaDoorWNEv
import Derived.Test.YtlocmcemfjfhiaaDoorWMore
import Derived.Test.YtlocmcemfjfhiaaDoorWCap
import Derived.Test.YtlocmcemfjfhiaaDoorWX
import Derived.Test.YtlocmcemfjfhiaaDoorWB
namespace Go.Proofs.YtlocmcemfjfhiaaDoor.PStrsRight
open Go.RowKit Go.Proofs.YtlocmcemfjfhiaaDoorW.PrintWords Go.Proofs.YtlocmcemfjfhiaaDoorW.PrintLast Go.Proofs.YtlocmcemfjfhiaaDoorW.PrintMore
attribute [local go_sem] str_leq str_gtr str_geq max2_int min2_int max_two min_two max_three min_three max_four min_four   -- for this text's walks alone
set_option linter.unusedVariables false
set_option linter.unusedSimpArgs false



def errW : Option Int → Value
  | none => .nilIface
  | some c => .iface 0 (.int .i64 c)
theorem errW_none : errW none = .nilIface := rfl
theorem errW_some (c : Int) : errW (some c) = .iface 0 (.int .i64 c) := rfl

theorem info3 : (Tryd.prog.info? 3).map (fun i => (i.zero, i.size, i.bytes)) = some (some (.int .i64 0), 1, 8) := by kernel_rfl
theorem info5 : (Tryd.prog.info? 5).map (fun i => (i.zero, i.size, i.bytes)) = some (some (.int .u8 0), 1, 1) := by kernel_rfl
-- the values' own types

/-- The library's tables, as the row lists them, in a world from which this one has come. -/
def TB (w : World) : Prop := ∃ W, laidMetH Tryd.prog Rows.strsRightRow.laid W ∧ Below W.heap.size W w
theorem TB.of {w : World} (h : laidMetH Tryd.prog Rows.strsRightRow.laid w) : TB w := ⟨w, h, Below.refl _ _⟩
theorem TB.below {w w' : World} (h : TB w) (hb : Below w.heap.size w w') : TB w' := by
  obtain ⟨W, hW, hB⟩ := h
  exact ⟨W, hW, below_then hB hB.size hb⟩
end Go.Proofs.YtlocmcemfjfhiaaDoor.PStrsRight
