-- laid by a program out of the translation and of templates; not trusted: Lean checks it
import Derived.Test.YtjkhfognncadbaaDoorProg
import Derived.Below
import Derived.Deep.Draws
import Derived.Deep.AppendLies
import Derived.Maps.AppendAt
import Derived.OwnWalk
import Derived.Laws.BytesArg
import Derived.Laws.MakeOwn
import Derived.Laws.OwnMore
import Derived.Deep.OwnRows
import Derived.Tactics
import Derived.Lib.ConvBytes
import Derived.Laws.Slices
import Derived.WalkKit
import Derived.KernelRfl
import Derived.RowKit3
import Derived.Deep.LoopGhost
import Derived.Deep.QuietTactic
import Derived.BigQuiet
import Derived.WideLaws
import Derived.Deep.DeepCutAuto
import Derived.Deep.CutBlock
import Derived.Deep.RegionHeld3
import Derived.Laws.Rows
import Derived.Lib.AppendStr
import Derived.ArgAppend
import Derived.Laws.IdiomCopy
import Derived.OrdersHeld
import Derived.Laws.BitsLemmas
import Derived.RowKit
import Derived.Test.YtjkhfognncadbaaDoorRows
import Derived.Test.YtjkhfognncadbaaDoorWWords
import Derived.Test.YtjkhfognncadbaaDoorWLast
import Derived.Test.YtjkhfognncadbaaDoorWTab
import Derived.Test.YtjkhfognncadbaaDoorWFour
import Derived.Test.YtjkhfognncadbaaDoorWQPut
import Derived.Test.YtjkhfognncadbaaDoorWApart
import Derived.Test.YtjkhfognncadbaaDoorWArr
import Derived.Test.YtjkhfognncadbaaDoorWZeros
import Derived.Test.YtjkhfognncadbaaDoorWFoot
import Derived.Test.YtjkhfognncadbaaDoorWKept
import Derived.Test.YtjkhfognncadbaaDoorWShare
import Derived.Test.YtjkhfognncadbaaDoorWN
import Derived.Test.YtjkhfognncadbaaDoorWFootNe
import Derived.Test.YtjkhfognncadbaaDoorWAt
import Derived.Test.YtjkhfognncadbaaDoorWEqStruct
import Derived.Test.YtjkhfognncadbaaDoorWRepsOne
import Derived.Test.YtjkhfognncadbaaDoorWInv
import Derived.Test.YtjkhfognncadbaaDoorWInvWords
import Derived.Test.YtjkhfognncadbaaDoorWGuard
import Derived.Test.YtjkhfognncadbaaDoorWNEv
import Derived.Test.YtjkhfognncadbaaDoorWMore
import Derived.Test.YtjkhfognncadbaaDoorWCap
import Derived.Test.YtjkhfognncadbaaDoorWX
import Derived.Test.YtjkhfognncadbaaDoorWB
import Derived.Test.YtjkhfognncadbaaDoorWF
namespace Go.Proofs.YtjkhfognncadbaaDoor.POidBack
open Go.RowKit Go.Proofs.YtjkhfognncadbaaDoorW.PrintWords Go.Proofs.YtjkhfognncadbaaDoorW.PrintLast Go.Proofs.YtjkhfognncadbaaDoorW.PrintMore
attribute [local go_sem high] c_add c_eql c_neq
attribute [local go_sem] str_leq str_gtr str_geq max2_int min2_int max_two min_two max_three min_three max_four min_four   -- for this text's walks alone
set_option linter.unusedVariables false
set_option linter.unusedSimpArgs false



def errW : Option Int → Value
  | none => .nilIface
  | some c => .iface 0 (.int .i64 c)
theorem errW_none : errW none = .nilIface := rfl
theorem errW_some (c : Int) : errW (some c) = .iface 0 (.int .i64 c) := rfl

theorem info3 : (Tryd.prog.info? 3).map (fun i => (i.zero, i.size, i.bytes)) = some (some (.int .i64 0), 1, 8) := by kernel_rfl
theorem info9 : (Tryd.prog.info? 9).map (fun i => (i.zero, i.size, i.bytes)) = some (some (.string ⟨#[]⟩), 1, 16) := by kernel_rfl
-- the values' own types
def rd_L2 (xs : List (List Int)) (i : Int) : (List Int) := xs.getD i.toNat ([] : List Int)
theorem at_L2 {w : World} {A : Option Addr} {n : Nat} {xs : List (List Int)} (h : Kd.C (Kd.slice 3 (Kd.int .i64)) w A n xs) (i : Int) (h0 : 0 ≤ i) (h1 : i < n) : ∃ ad A0 c0, A = some ad ∧ w.cell? (ad.add i.toNat) = some (.slice A0 (rd_L2 xs i).length c0) ∧ (rd_L2 xs i).length ≤ c0 ∧ (Kd.int .i64).C w A0 (rd_L2 xs i).length (rd_L2 xs i) := by
  obtain ⟨ad, c, e, _, hK, hc0⟩ := Kd.C_get h ([] : List Int) i h0 h1
  have hc : ∀ j u, c[j]? = some u → w.cell? (ad.add (i.toNat * 1 + j)) = some u := hc0
  obtain ⟨A0, c0, rfl, l0, g0⟩ := hK
  exact ⟨ad, A0, c0, e, by have hq := hc 0 _ rfl; rwa [Nat.mul_one, Nat.add_zero] at hq, l0, g0⟩

def rd_L5 (xs : List (List ByteArray)) (i : Int) : (List ByteArray) := xs.getD i.toNat ([] : List ByteArray)
theorem at_L5 {w : World} {A : Option Addr} {n : Nat} {xs : List (List ByteArray)} (h : Kd.C (Kd.slice 9 Kd.string) w A n xs) (i : Int) (h0 : 0 ≤ i) (h1 : i < n) : ∃ ad A0 c0, A = some ad ∧ w.cell? (ad.add i.toNat) = some (.slice A0 (rd_L5 xs i).length c0) ∧ (rd_L5 xs i).length ≤ c0 ∧ Kd.string.C w A0 (rd_L5 xs i).length (rd_L5 xs i) := by
  obtain ⟨ad, c, e, _, hK, hc0⟩ := Kd.C_get h ([] : List ByteArray) i h0 h1
  have hc : ∀ j u, c[j]? = some u → w.cell? (ad.add (i.toNat * 1 + j)) = some u := hc0
  obtain ⟨A0, c0, rfl, l0, g0⟩ := hK
  exact ⟨ad, A0, c0, e, by have hq := hc 0 _ rfl; rwa [Nat.mul_one, Nat.add_zero] at hq, l0, g0⟩

/-- The library's tables, as the row lists them, in a world from which this one has come. -/
def TB (w : World) : Prop := ∃ W, laidMetH Tryd.prog Rows.oidBackRow.laid W ∧ Below W.heap.size W w
theorem TB.of {w : World} (h : laidMetH Tryd.prog Rows.oidBackRow.laid w) : TB w := ⟨w, h, Below.refl _ _⟩
theorem TB.below {w w' : World} (h : TB w) (hb : Below w.heap.size w w') : TB w' := by
  obtain ⟨W, hW, hB⟩ := h
  exact ⟨W, hW, below_then hB hB.size hb⟩
end Go.Proofs.YtjkhfognncadbaaDoor.POidBack
