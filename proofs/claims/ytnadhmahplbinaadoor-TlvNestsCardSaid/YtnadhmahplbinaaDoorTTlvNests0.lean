import Derived.Test.YtnadhmahplbinaaDoorRTlvNests2
import Derived.Test.YtnadhmahplbinaaDoorProg
import Derived.Test.YtnadhmahplbinaaDoorShelf
import Derived.Test.YtnadhmahplbinaaDoorRows
import Derived.Shelf.Unicode.ValidAny
import Derived.Lib.LaidU8T
import Derived.MakeChecks
set_option linter.unusedSectionVars false
set_option linter.unusedSimpArgs false
set_option linter.unusedVariables false
set_option linter.unusedVariables false
namespace Go.Rf.T
open Go Go.Rf Go.Proofs Go.RowKit Go.Proofs.YtnadhmahplbinaaDoor
def laidL := Rows.tlvNestsRow.laid
instance : Tabs := ⟨fun p w => ∃ W, laidMetH Tryd.prog laidL W ∧ ∀ b, b < W.heap.size → p b ∧ w.heap[b]? = W.heap[b]?, fun k h => let ⟨W, h1, h2⟩ := h; ⟨W, h1, fun b hb => ⟨k.pub b (h2 b hb).1, (k.same b (h2 b hb).1).trans (h2 b hb).2⟩⟩⟩
theorem hm : Tryd.prog.follows .mixedOrders = true := by kernel_rfl
structure S40 where
  f0 : Int
  f1 : Int
  f2 : Bool
  f3 : ByteArray
  f4 : List Int
 deriving Inhabited, DecidableEq
def z40 : S40 := ⟨0, 0, false, (⟨#[]⟩ : ByteArray), []⟩
def v40 (o : Nat) (s : S40) : V := .agg [I s.f0, I s.f1, B s.f2, S s.f3, .row (lvo o 3) 1 (List.map I s.f4)]
theorem v40.shr (o : Nat) (s : S40) : (v40 o s).shr = v40 0 s := aggS (shrC (rfl : V.shr (I s.f0) = I s.f0) (shrC (rfl : V.shr (I s.f1) = I s.f1) (shrC (rfl : V.shr (B s.f2) = B s.f2) (shrC (rfl : V.shr (S s.f3) = S s.f3) (shrC (shrM (lvo o 3) 1 I I s.f4 (fun _ => rfl)) (rfl : shrL [] = []))))))
def rd_T40 (l : List S40) (i : Int) : S40 := l.getD i.toNat z40
def span_whole.f (a0 : Nat) : Option (Bool) := if (fge a0 0) = true then (if (fle a0 4679241112349573120) = true then (if fiok a0 = true then (some (feq a0 (floatOfInt .f64 (fint a0)))) else (none)) else (some false)) else (some false)
theorem span_whole.con {a0 : Nat} {r : (Bool)} (H : span_whole.f a0 = some r) : Con Tryd.prog 32 [Fl a0] (B r) := by
  refine con_of_good Tryd.func32 rfl (by kernel_rfl) (by kernel_rfl) fun C hN hL => ?_
  unfold span_whole.f at H
  refine Good.seq ?_
  refine Good.reg hN [] .nil [] (by kernel_rfl) ?_
  refine Good.seq ?_
  rcases (ifC H).symm with ⟨c1, H⟩ | ⟨c1, H⟩
  · refine Good.reg hN [B false, B false] (.cons (Bool.eq_false_iff.2 c1) (.cons (rfl : false = false) .nil)) [] (by kernel_rfl) ?_
    obtain rfl := Option.some.inj H
    exact Good.ret (fin.doneR (by kernel_rfl))
  rcases (ifC H).symm with ⟨c2, H⟩ | ⟨c2, H⟩
  · refine Good.reg hN [B true, B false] (.cons c1 (.cons (Bool.eq_false_iff.2 c2) .nil)) [] (by kernel_rfl) ?_
    obtain rfl := Option.some.inj H
    exact Good.ret (fin.doneR (by kernel_rfl))
  obtain ⟨c3, H⟩ := ifS H
  refine Good.reg hN [B true, B true] (.cons c1 (.cons c2 (.cons c3 .nil))) [] (by kernel_rfl) ?_
  obtain rfl := Option.some.inj H
  exact Good.ret (fin.doneR (by kernel_rfl))
def span_May.f (a0 : (Nat × Nat)) : Option (Bool) := (span_whole.f a0.1).bind fun t4 => (if t4 = true then ((span_whole.f a0.2).bind fun t7 => (if t7 = true then (some (fle a0.1 a0.2)) else (some false))) else (some false))
theorem span_May.con {a0 : (Nat × Nat)} {r : (Bool)} (H : span_May.f a0 = some r) : Con Tryd.prog 22 [Cx a0] (B r) := by
  refine con_of_good Tryd.func22 rfl (by kernel_rfl) (by kernel_rfl) fun C hN hL => ?_
  unfold span_May.f at H
  refine Good.seq ?_
  refine Good.reg hN [] .nil [] (by kernel_rfl) ?_
  refine Good.seq ?_
  obtain ⟨t4, h5, H⟩ := bindS H
  rcases (ifC H).symm with ⟨c6, H⟩ | ⟨c6, H⟩
  · refine Good.reg hN [B t4, B false, B false] (.cons (span_whole.con h5).c (.cons (Bool.eq_false_iff.2 c6) (.cons (rfl : false = false) .nil))) [] (by kernel_rfl) ?_
    obtain rfl := Option.some.inj H
    exact Good.ret (fin.doneR (by kernel_rfl))
  obtain ⟨t7, h8, H⟩ := bindS H
  rcases ifC H with ⟨c9, H⟩ | ⟨c9, H⟩
  · refine Good.reg hN [B t4, B true, B t7, B true] (.cons (span_whole.con h5).c (.cons c6 (.cons (span_whole.con h8).c (.cons c9 .nil)))) [] (by kernel_rfl) ?_
    obtain rfl := Option.some.inj H
    exact Good.ret (fin.doneR (by kernel_rfl))
  refine Good.reg hN [B t4, B true, B t7, B false] (.cons (span_whole.con h5).c (.cons c6 (.cons (span_whole.con h8).c (.cons (Bool.eq_false_iff.2 c9) .nil)))) [] (by kernel_rfl) ?_
  obtain rfl := Option.some.inj H
  exact Good.ret (fin.doneR (by kernel_rfl))
def span_sure.f (a0 : (Nat × Nat)) : Option ((Nat × Nat)) := (span_May.f a0).bind fun t10 => (if t10 = true then (if fok a0.1 0 = true then (if fok a0.2 0 = true then (some (fadd a0.1 0, fadd a0.2 0)) else (none)) else (none)) else (some (0, 0)))
theorem span_sure.con {a0 : (Nat × Nat)} {r : ((Nat × Nat))} (H : span_sure.f a0 = some r) : Con Tryd.prog 21 [Cx a0] (Cx r) := by
  refine con_of_good Tryd.func21 rfl (by kernel_rfl) (by kernel_rfl) fun C hN hL => ?_
  unfold span_sure.f at H
  refine Good.seq ?_
  refine Good.reg hN [] .nil [] (by kernel_rfl) ?_
  refine Good.seq ?_
  refine Good.seq ?_
  obtain ⟨t10, h11, H⟩ := bindS H
  refine Good.reg hN [B t10] (.cons (span_May.con h11).c .nil) [] (by kernel_rfl) ?_
  rcases (ifC H).symm with ⟨c12, H⟩ | ⟨c12, H⟩
  · refine Good.condF (Bool.eq_false_iff.2 c12) (by kernel_rfl) ?_
    refine Good.skip ?_
    refine Good.seq ?_
    refine Good.reg hN [] .nil [] (by kernel_rfl) ?_
    obtain rfl := Option.some.inj H
    exact Good.ret (fin.doneR (by kernel_rfl))
  refine Good.condT c12 (by kernel_rfl) ?_
  refine Good.seq ?_
  obtain ⟨c13, H⟩ := ifS H
  obtain ⟨c14, H⟩ := ifS H
  refine Good.reg hN [] (.cons c13 (.cons c14 .nil)) [] (by kernel_rfl) ?_
  obtain rfl := Option.some.inj H
  exact Good.ret (fin.doneR (by kernel_rfl))
def span_Of.f (a0 : Int) (a1 : Int) : Option ((Nat × Nat)) := if (mn a0 a1) < 0 then (some (0, 0)) else (if (mx a0 a1) > 65552 then (some (0, 0)) else ((span_sure.f (floatOfInt .f64 a0, floatOfInt .f64 a1)).bind fun t17 => (some t17)))
theorem span_Of.con {a0 : Int} {a1 : Int} {r : ((Nat × Nat))} (H : span_Of.f a0 a1 = some r) : Con Tryd.prog 12 [I a0, I a1] (Cx r) := by
  refine con_of_good Tryd.func12 rfl (by kernel_rfl) (by kernel_rfl) fun C hN hL => ?_
  unfold span_Of.f at H
  refine Good.seq ?_
  refine Good.reg hN [] .nil [] (by kernel_rfl) ?_
  refine Good.seq ?_
  refine Good.seq ?_
  rcases ifC H with ⟨c15, H⟩ | ⟨c15, H⟩
  · refine Good.reg hN [B true] (.cons (decide_eq_true c15) .nil) [] (by kernel_rfl) ?_
    refine Good.cond true (by kernel_rfl) ?_
    refine Good.seq ?_
    refine Good.reg hN [] .nil [] (by kernel_rfl) ?_
    obtain rfl := Option.some.inj H
    exact Good.ret (fin.doneR (by kernel_rfl))
  refine Good.reg hN [B false] (.cons (decide_eq_false c15) .nil) [] (by kernel_rfl) ?_
  rcases ifC H with ⟨c16, H⟩ | ⟨c16, H⟩
  · refine Good.condT (decide_eq_true c16) (by kernel_rfl) ?_
    refine Good.seq ?_
    refine Good.reg hN [] .nil [] (by kernel_rfl) ?_
    obtain rfl := Option.some.inj H
    exact Good.ret (fin.doneR (by kernel_rfl))
  refine Good.condF (decide_eq_false c16) (by kernel_rfl) ?_
  refine Good.skip ?_
  refine Good.seq ?_
  obtain ⟨t17, h18, H⟩ := bindS H
  refine Good.reg hN [Cx t17] (.cons (span_sure.con h18).c .nil) [] (by kernel_rfl) ?_
  obtain rfl := Option.some.inj H
  exact Good.ret (fin.doneR (by kernel_rfl))
def head_Decode.l0 : Nat → ByteArray → Int → Int → Int → Int → Int → Int → Int → Bool → Int → Option (Int × Int × Bool × Int × Int × Int)
 | 0, _, _, _, _, _, _, _, _, _, _ => none
 | k + 1, x0, x6, x7, x8, x107, x108, x2000, x2001, x2002, x2003 => if x108 < x107 then (if 0 ≤ x6 then (if x6 < (x0.size : Int) then (head_Decode.l0 k x0 (wrap64 (x6 + 1)) x7 x8 x107 (wrap64 (x108 + 1)) x2000 x2001 x2002 (Go.bits .or .i64 (wrap64 (x2003 * 256)) (wrap64 (bt x0 x6)))) else (none)) else (none)) else (if 0 ≤ (wrap64 ((wrap64 (8 * x7)) - 8)) then (if x2003 ≥ (shl .i64 1 (wrap64 ((wrap64 (8 * x7)) - 8))) then (if x2003 ≥ 128 then (some (x2000, x2001, x2002, x2003, x6, 0)) else (some (0, 0, false, 0, 0, x8))) else (some (0, 0, false, 0, 0, x8))) else (none))
def head_Decode.g0_0 : Nat → Int → Option (Int × Int × Bool × Int × Int × Int)
 | 0, _ => none
 | k + 1, x8 => some (0, 0, false, 0, 0, x8)
def head_Decode.j1 : Nat → ByteArray → Int → Int → Bool → Int → Int → Bool → Int → Option (Int × Int × Bool × Int × Int × Int)
 | 0, _, _, _, _, _, _, _, _ => none
 | k + 1, x0, x6, x8, x77, x2000, x2001, x2002, x2003 => if x77 = true then (head_Decode.g0_0 k x8) else (if 0 ≤ x6 then (if x6 < (x0.size : Int) then (if (bt x0 x6) > 130 then (head_Decode.g0_0 k 4) else (if (bt x0 x6) < 128 then (some (x2000, x2001, x2002, wrap64 (bt x0 x6), wrap64 (x6 + 1), 0)) else (if (wrap64 ((wrap64 (x6 + 1)) + (wrap64 (Go.bits .and .u8 (bt x0 x6) 127)))) > (x0.size : Int) then (head_Decode.g0_0 k x8) else (head_Decode.l0 k x0 (wrap64 (x6 + 1)) (wrap64 (Go.bits .and .u8 (bt x0 x6) 127)) x8 (wrap64 (Go.bits .and .u8 (bt x0 x6) 127)) 0 x2000 x2001 x2002 x2003)))) else (none)) else (none))
def head_Decode.j5 : Nat → ByteArray → Int → Int → Bool → Int → Int → Bool → Int → Option (Int × Int × Bool × Int × Int × Int)
 | 0, _, _, _, _, _, _, _, _ => none
 | k + 1, x0, x6, x8, x77, x2000, x2001, x2002, x2003 => if x77 = true then (head_Decode.g0_0 k x8) else (if 0 ≤ x6 then (if x6 < (x0.size : Int) then (if (bt x0 x6) > 130 then (head_Decode.g0_0 k 4) else (if (bt x0 x6) < 128 then (some (x2000, x2001, x2002, wrap64 (bt x0 x6), wrap64 (x6 + 1), 0)) else (if (wrap64 ((wrap64 (x6 + 1)) + (wrap64 (Go.bits .and .u8 (bt x0 x6) 127)))) > (x0.size : Int) then (head_Decode.g0_0 k x8) else (head_Decode.l0 k x0 (wrap64 (x6 + 1)) (wrap64 (Go.bits .and .u8 (bt x0 x6) 127)) x8 (wrap64 (Go.bits .and .u8 (bt x0 x6) 127)) 0 x2000 x2001 x2002 x2003)))) else (none)) else (none))
def head_Decode.g0_1 : Nat → ByteArray → Int → Int → Int → Int → Bool → Int → Option (Int × Int × Bool × Int × Int × Int)
 | 0, _, _, _, _, _, _, _ => none
 | k + 1, x0, x6, x8, x2000, x2001, x2002, x2003 => if x6 ≥ (x0.size : Int) then (head_Decode.j5 k x0 x6 x8 true x2000 x2001 x2002 x2003) else (if 0 ≤ x6 then (if x6 < (x0.size : Int) then (head_Decode.j5 k x0 x6 x8 ((bt x0 x6) == 128) x2000 x2001 x2002 x2003) else (none)) else (none))
def head_Decode.j8 : Nat → ByteArray → Int → Int → Bool → Int → Int → Bool → Int → Option (Int × Int × Bool × Int × Int × Int)
 | 0, _, _, _, _, _, _, _, _ => none
 | k + 1, x0, x6, x8, x77, x2000, x2001, x2002, x2003 => if x77 = true then (head_Decode.g0_0 k x8) else (if 0 ≤ x6 then (if x6 < (x0.size : Int) then (if (bt x0 x6) > 130 then (head_Decode.g0_0 k 4) else (if (bt x0 x6) < 128 then (some (x2000, x2001, x2002, wrap64 (bt x0 x6), wrap64 (x6 + 1), 0)) else (if (wrap64 ((wrap64 (x6 + 1)) + (wrap64 (Go.bits .and .u8 (bt x0 x6) 127)))) > (x0.size : Int) then (head_Decode.g0_0 k x8) else (head_Decode.l0 k x0 (wrap64 (x6 + 1)) (wrap64 (Go.bits .and .u8 (bt x0 x6) 127)) x8 (wrap64 (Go.bits .and .u8 (bt x0 x6) 127)) 0 x2000 x2001 x2002 x2003)))) else (none)) else (none))
mutual
def head_Decode.g0_2 : Nat → ByteArray → Int → Int → Int → Int → Int → Bool → Int → Option (Int × Int × Bool × Int × Int × Int)
 | 0, _, _, _, _, _, _, _, _ => none
 | k + 1, x0, x6, x7, x8, x2000, x2001, x2002, x2003 => if x6 ≥ (x0.size : Int) then (head_Decode.j7 k x0 x6 x7 x8 true x2000 x2001 x2002 x2003) else (if x7 = 3 then (head_Decode.j7 k x0 x6 x7 x8 true x2000 x2001 x2002 x2003) else (if x7 = 0 then (if 0 ≤ x6 then (if x6 < (x0.size : Int) then (head_Decode.j7 k x0 x6 x7 x8 ((bt x0 x6) == 128) x2000 x2001 x2002 x2003) else (none)) else (none)) else (head_Decode.j7 k x0 x6 x7 x8 false x2000 x2001 x2002 x2003)))
def head_Decode.j7 : Nat → ByteArray → Int → Int → Int → Bool → Int → Int → Bool → Int → Option (Int × Int × Bool × Int × Int × Int)
 | 0, _, _, _, _, _, _, _, _, _ => none
 | k + 1, x0, x6, x7, x8, x45, x2000, x2001, x2002, x2003 => if x45 = true then (head_Decode.g0_0 k x8) else (if 0 ≤ x6 then (if x6 < (x0.size : Int) then (if 0 ≤ (wrap64 ((wrap64 (x6 + 1)) - 1)) then (if (wrap64 ((wrap64 (x6 + 1)) - 1)) < (x0.size : Int) then (if (bt x0 (wrap64 ((wrap64 (x6 + 1)) - 1))) ≥ 128 then (head_Decode.g0_2 k x0 (wrap64 (x6 + 1)) (wrap64 (x7 + 1)) x8 x2000 (Go.bits .or .i64 (wrap64 (x2001 * 128)) (wrap64 (Go.bits .and .u8 (bt x0 x6) 127))) x2002 x2003) else (if (Go.bits .or .i64 (wrap64 (x2001 * 128)) (wrap64 (Go.bits .and .u8 (bt x0 x6) 127))) < 31 then (head_Decode.g0_0 k x8) else (if (wrap64 (x6 + 1)) ≥ (x0.size : Int) then (head_Decode.j8 k x0 (wrap64 (x6 + 1)) x8 true x2000 (Go.bits .or .i64 (wrap64 (x2001 * 128)) (wrap64 (Go.bits .and .u8 (bt x0 x6) 127))) x2002 x2003) else (if 0 ≤ (wrap64 (x6 + 1)) then (if (wrap64 (x6 + 1)) < (x0.size : Int) then (head_Decode.j8 k x0 (wrap64 (x6 + 1)) x8 ((bt x0 (wrap64 (x6 + 1))) == 128) x2000 (Go.bits .or .i64 (wrap64 (x2001 * 128)) (wrap64 (Go.bits .and .u8 (bt x0 x6) 127))) x2002 x2003) else (none)) else (none))))) else (none)) else (none)) else (none)) else (none))
end
def head_Decode.j0 : Nat → ByteArray → Int → Int → Int → Bool → Int → Int → Bool → Int → Option (Int × Int × Bool × Int × Int × Int)
 | 0, _, _, _, _, _, _, _, _, _ => none
 | k + 1, x0, x6, x7, x8, x45, x2000, x2001, x2002, x2003 => if x45 = true then (head_Decode.g0_0 k x8) else (if 0 ≤ x6 then (if x6 < (x0.size : Int) then (if 0 ≤ (wrap64 ((wrap64 (x6 + 1)) - 1)) then (if (wrap64 ((wrap64 (x6 + 1)) - 1)) < (x0.size : Int) then (if (bt x0 (wrap64 ((wrap64 (x6 + 1)) - 1))) ≥ 128 then (head_Decode.g0_2 k x0 (wrap64 (x6 + 1)) (wrap64 (x7 + 1)) x8 x2000 (Go.bits .or .i64 (wrap64 (x2001 * 128)) (wrap64 (Go.bits .and .u8 (bt x0 x6) 127))) x2002 x2003) else (if (Go.bits .or .i64 (wrap64 (x2001 * 128)) (wrap64 (Go.bits .and .u8 (bt x0 x6) 127))) < 31 then (head_Decode.g0_0 k x8) else (if (wrap64 (x6 + 1)) ≥ (x0.size : Int) then (head_Decode.j1 k x0 (wrap64 (x6 + 1)) x8 true x2000 (Go.bits .or .i64 (wrap64 (x2001 * 128)) (wrap64 (Go.bits .and .u8 (bt x0 x6) 127))) x2002 x2003) else (if 0 ≤ (wrap64 (x6 + 1)) then (if (wrap64 (x6 + 1)) < (x0.size : Int) then (head_Decode.j1 k x0 (wrap64 (x6 + 1)) x8 ((bt x0 (wrap64 (x6 + 1))) == 128) x2000 (Go.bits .or .i64 (wrap64 (x2001 * 128)) (wrap64 (Go.bits .and .u8 (bt x0 x6) 127))) x2002 x2003) else (none)) else (none))))) else (none)) else (none)) else (none)) else (none))
def head_Decode.f (k : Nat) (a0 : ByteArray) : Option (Int × Int × Bool × Int × Int × Int) := if a0.toList = ([] : List UInt8) then (head_Decode.g0_0 k 5) else (if 0 < (a0.size : Int) then (if (wrap64 (Go.bits .and .u8 (bt a0 0) 31)) < 31 then (head_Decode.g0_1 k a0 1 5 (wrap64 ((bt a0 0) / 64)) (wrap64 (Go.bits .and .u8 (bt a0 0) 31)) ((Go.bits .and .u8 (bt a0 0) 32) != 0) 0) else (if 1 ≥ (a0.size : Int) then (head_Decode.j0 k a0 1 0 5 true (wrap64 ((bt a0 0) / 64)) 0 ((Go.bits .and .u8 (bt a0 0) 32) != 0) 0) else (if 1 < (a0.size : Int) then (head_Decode.j0 k a0 1 0 5 ((bt a0 1) == 128) (wrap64 ((bt a0 0) / 64)) 0 ((Go.bits .and .u8 (bt a0 0) 32) != 0) 0) else (none)))) else (none))
theorem head_Decode.con {k : Nat} {a0 : ByteArray} {r : (Int × Int × Bool × Int × Int × Int)} (H : head_Decode.f k a0 = some r) : Con Tryd.prog 23 [S a0] (.tup [.agg [I r.1, I r.2.1, B r.2.2.1, I r.2.2.2.1], I r.2.2.2.2.1, I r.2.2.2.2.2]) := by
  refine con_of_good Tryd.func23 rfl (by kernel_rfl) (by kernel_rfl) fun C hN hL => ?_
  unfold head_Decode.f at H
  refine Good.seq ?_
  refine Good.reg hN [] .nil [] (by kernel_rfl) ?_
  refine Good.scope [(0, _, fun n st => ∃ (x8 : Int) (x1000 : Int) (x1001 : Int) (x1002 : Bool) (x1003 : Int) (x2000 : Int) (x2001 : Int) (x2002 : Bool) (x2003 : Int), n ≤ k ∧ Wk C st ⟨[(2, .d (.ptr 0 0)), (8, .d (.v (I x8)))], [.cells [.v (I x1000), .v (I x1001), .v (B x1002), .v (I x1003)], .cells [.v (I x2000), .v (I x2001), .v (B x2002), .v (I x2003)]]⟩ ∧ head_Decode.g0_0 n x8 = some r), (1, _, fun n st => ∃ (x0 : ByteArray) (x6 : Int) (x8 : Int) (x1000 : Int) (x1001 : Int) (x1002 : Bool) (x1003 : Int) (x2000 : Int) (x2001 : Int) (x2002 : Bool) (x2003 : Int), n ≤ k ∧ Wk C st ⟨[(0, .d (.v (S x0))), (2, .d (.ptr 0 0)), (5, .d (.ptr 1 0)), (6, .d (.v (I x6))), (8, .d (.v (I x8)))], [.cells [.v (I x1000), .v (I x1001), .v (B x1002), .v (I x1003)], .cells [.v (I x2000), .v (I x2001), .v (B x2002), .v (I x2003)]]⟩ ∧ head_Decode.g0_1 n x0 x6 x8 x2000 x2001 x2002 x2003 = some r), (2, _, fun n st => ∃ (x0 : ByteArray) (x6 : Int) (x7 : Int) (x8 : Int) (x1000 : Int) (x1001 : Int) (x1002 : Bool) (x1003 : Int) (x2000 : Int) (x2001 : Int) (x2002 : Bool) (x2003 : Int), n ≤ k ∧ Wk C st ⟨[(0, .d (.v (S x0))), (2, .d (.ptr 0 0)), (5, .d (.ptr 1 0)), (6, .d (.v (I x6))), (7, .d (.v (I x7))), (8, .d (.v (I x8)))], [.cells [.v (I x1000), .v (I x1001), .v (B x1002), .v (I x1003)], .cells [.v (I x2000), .v (I x2001), .v (B x2002), .v (I x2003)]]⟩ ∧ head_Decode.g0_2 n x0 x6 x7 x8 x2000 x2001 x2002 x2003 = some r)] (.cons rfl (.cons rfl (.cons rfl .nil))) ?_ (.cons ?_ (.cons ?_ (.cons ?_ .nil)))
  · refine Good.seq ?_
    refine Good.reg hN [] .nil [] (by kernel_rfl) ?_
    refine Good.seq ?_
    refine Good.reg hN [] .nil [] (by kernel_rfl) ?_
    refine Good.seq ?_
    refine Good.seq ?_
    refine Good.reg hN [] (.cons (strV (rfl : a0.toList = a0.toList) (litL ([] : List UInt8))) .nil) [(10, .bool (a0.toList == ([] : List UInt8)))] (by kernel_rfl) ?_
    rcases ifC H with ⟨c19, H⟩ | ⟨c19, H⟩
    · refine Good.condT (beq_iff_eq.2 c19) (by kernel_rfl) ?_
      refine Good.goto ?_
      exact ⟨k, (by first | trivial | omega), 5, 0, 0, false, 0, 0, 0, false, 0, by omega, Wk.of [(2, 0), (8, 0)] (by kernel_rfl) (by kernel_rfl), H⟩
    refine Good.condF (beq_eq_false_iff_ne.2 c19) (by kernel_rfl) ?_
    refine Good.skip ?_
    refine Good.seq ?_
    obtain ⟨c20, H⟩ := ifS H
    refine Good.regDF hm hN (.q 0 [[]] (.q 1 [[]] (.q 2 [[]] (.q 3 [[]] (.q 4 [[]] (.q 5 [[]] (.q 6 [[]] (.q 7 [[]] (.q 8 [[]] (.q 9 [[]] (.q 10 [[]] (.q 11 [[]] (.q 12 [[]] (.e 13 .z)))))))))))))) [(0, none), (5, some (.pt [I 0, I 0, B false, I 0]))] (by kernel_rfl) (.cons (ptS (shrC (rfl : (V.shr (I 0)) = I 0) (shrC (rfl : (V.shr (I 0)) = I 0) (shrC (rfl : (V.shr (B false)) = B false) (shrC (rfl : (V.shr (I 0)) = I 0) (rfl : shrL [] = [])))))) .nil) [] [] (.cons (show (0 : Int) ≤ 0 by decide) (.cons c20 (.cons (show (0 : Int) ≤ 6 by decide) (.cons (show (0 : Int) ≤ 0 by decide) (.cons c20 (.cons (show (0 : Int) ≤ 0 by decide) (.cons c20 .nil))))))) (.cons (show (0 : Int) ≤ 0 by decide) (.cons c20 (.cons (show (0 : Int) ≤ 6 by decide) (.cons (show (0 : Int) ≤ 0 by decide) (.cons c20 (.cons (show (0 : Int) ≤ 0 by decide) (.cons c20 .nil))))))) [] [] (by kernel_rfl) (by kernel_rfl) ?_
    refine Good.seq ?_
    refine Good.reg hN [] .nil [] (by kernel_rfl) ?_
    refine Good.seq ?_
    refine Good.seq ?_
    refine Good.reg hN [] .nil [] (by kernel_rfl) ?_
    rcases ifC H with ⟨c21, H⟩ | ⟨c21, H⟩
    · refine Good.condT (decide_eq_true c21) (by kernel_rfl) ?_
      refine Good.goto ?_
      exact ⟨k, (by first | trivial | omega), a0, 1, 5, 0, 0, false, 0, wrap64 ((bt a0 0) / 64), wrap64 (Go.bits .and .u8 (bt a0 0) 31), ((Go.bits .and .u8 (bt a0 0) 32) != 0), 0, by omega, Wk.of [(0, 0), (2, 0), (5, 0), (6, 0), (8, 0)] (by kernel_rfl) (by kernel_rfl), H⟩
    refine Good.condF (decide_eq_false c21) (by kernel_rfl) ?_
    refine Good.skip ?_
    refine Good.seq ?_
    refine Good.reg hN [] .nil [] (by kernel_rfl) ?_
    refine Good.seq ?_
    refine Good.label ?_
    refine Good.seq ?_
    refine Good.seq ?_
    refine Good.cut (fun st => ∃ (x0 : ByteArray) (x6 : Int) (x7 : Int) (x8 : Int) (x45 : Bool) (x1000 : Int) (x1001 : Int) (x1002 : Bool) (x1003 : Int) (x2000 : Int) (x2001 : Int) (x2002 : Bool) (x2003 : Int), Wk C st ⟨[(0, .d (.v (S x0))), (2, .d (.ptr 0 0)), (5, .d (.ptr 1 0)), (6, .d (.v (I x6))), (7, .d (.v (I x7))), (8, .d (.v (I x8))), (45, .d (.v (B x45)))], [.cells [.v (I x1000), .v (I x1001), .v (B x1002), .v (I x1003)], .cells [.v (I x2000), .v (I x2001), .v (B x2002), .v (I x2003)]]⟩ ∧ head_Decode.j0 k x0 x6 x7 x8 x45 x2000 x2001 x2002 x2003 = some r) ?_ ?_
    · rcases ifC H with ⟨c22, H⟩ | ⟨c22, H⟩
      · refine Good.reg hN [B true, B true] (.cons (decide_eq_true c22) (.cons (rfl : true = true) .nil)) [] (by kernel_rfl) ?_
        exact ⟨a0, 1, 0, 5, true, 0, 0, false, 0, wrap64 ((bt a0 0) / 64), 0, ((Go.bits .and .u8 (bt a0 0) 32) != 0), 0, Wk.of [(0, 0), (2, 0), (5, 0), (6, 0), (7, 0), (8, 0), (45, 0)] (by kernel_rfl) (by kernel_rfl), H⟩
      obtain ⟨c23, H⟩ := ifS H
      refine Good.reg hN [B false, B false, B true] (.cons (decide_eq_false c22) (.cons (beq_eq_false_iff_ne.2 (show ¬ ((0 : Int) = 3) by decide)) (.cons (beq_iff_eq.2 (show (0 : Int) = 0 by decide)) (.cons (show (0 : Int) ≤ 1 by decide) (.cons c23 .nil))))) [] (by kernel_rfl) ?_
      exact ⟨a0, 1, 0, 5, ((bt a0 1) == 128), 0, 0, false, 0, wrap64 ((bt a0 0) / 64), 0, ((Go.bits .and .u8 (bt a0 0) 32) != 0), 0, Wk.of [(0, 0), (2, 0), (5, 0), (6, 0), (7, 0), (8, 0), (45, 0)] (by kernel_rfl) (by kernel_rfl), H⟩
    clear H
    rintro st ⟨x0, x6, x7, x8, x45, x1000, x1001, x1002, x1003, x2000, x2001, x2002, x2003, W, H⟩
    rcases k with _ | k
    · cases H
    refine W.good ?_
    rw [head_Decode.j0] at H
    rcases ifC H with ⟨c24, H⟩ | ⟨c24, H⟩
    · refine Good.condT c24 (by kernel_rfl) ?_
      refine Good.goto ?_
      exact ⟨k, (by first | trivial | omega), x8, x1000, x1001, x1002, x1003, x2000, x2001, x2002, x2003, by omega, Wk.of [(2, 0), (8, 0)] (by kernel_rfl) (by kernel_rfl), H⟩
    refine Good.condF (Bool.eq_false_iff.2 c24) (by kernel_rfl) ?_
    refine Good.skip ?_
    refine Good.seq ?_
    obtain ⟨c25, H⟩ := ifS H
    obtain ⟨c26, H⟩ := ifS H
    refine Good.regDF hm hN (.q 0 [[]] (.q 1 [[]] (.q 2 [[]] (.q 3 [[]] (.q 4 [[]] (.q 5 [[]] (.q 6 [[]] (.q 7 [[]] (.q 8 [[]] (.q 9 [[]] (.e 10 .z))))))))))) [(0, none), (5, some (.pt [I x2000, I x2001, B x2002, I x2003])), (6, none)] (by kernel_rfl) (.cons (ptS (shrC (rfl : (V.shr (I x2000)) = I x2000) (shrC (rfl : (V.shr (I x2001)) = I x2001) (shrC (rfl : (V.shr (B x2002)) = B x2002) (shrC (rfl : (V.shr (I x2003)) = I x2003) (rfl : shrL [] = [])))))) .nil) [] [] (.cons (show (0 : Int) ≤ 7 by decide) (.cons c25 (.cons c26 .nil))) (.cons (show (0 : Int) ≤ 7 by decide) (.cons c25 (.cons c26 .nil))) [] [] (by kernel_rfl) (by kernel_rfl) ?_
    refine Good.seq ?_
    refine Good.reg hN [] .nil [] (by kernel_rfl) ?_
    refine Good.seq ?_
    refine Good.reg hN [] .nil [] (by kernel_rfl) ?_
    refine Good.seq ?_
    refine Good.seq ?_
    obtain ⟨c27, H⟩ := ifS H
    obtain ⟨c28, H⟩ := ifS H
    refine Good.reg hN [] (.cons c27 (.cons c28 .nil)) [] (by kernel_rfl) ?_
    rcases ifC H with ⟨c29, H⟩ | ⟨c29, H⟩
    · refine Good.condT (decide_eq_true c29) (by kernel_rfl) ?_
      refine Good.goto ?_
      exact ⟨k, (by first | trivial | omega), x0, wrap64 (x6 + 1), wrap64 (x7 + 1), x8, x1000, x1001, x1002, x1003, x2000, Go.bits .or .i64 (wrap64 (x2001 * 128)) (wrap64 (Go.bits .and .u8 (bt x0 x6) 127)), x2002, x2003, by omega, Wk.of [(0, 0), (2, 0), (5, 0), (6, 0), (7, 0), (8, 0)] (by kernel_rfl) (by kernel_rfl), H⟩
    refine Good.condF (decide_eq_false c29) (by kernel_rfl) ?_
    refine Good.skip ?_
    refine Good.seq ?_
    refine Good.seq ?_
    refine Good.reg hN [] .nil [] (by kernel_rfl) ?_
    rcases ifC H with ⟨c30, H⟩ | ⟨c30, H⟩
    · refine Good.condT (decide_eq_true c30) (by kernel_rfl) ?_
      refine Good.goto ?_
      exact ⟨k, (by first | trivial | omega), x8, x1000, x1001, x1002, x1003, x2000, Go.bits .or .i64 (wrap64 (x2001 * 128)) (wrap64 (Go.bits .and .u8 (bt x0 x6) 127)), x2002, x2003, by omega, Wk.of [(2, 0), (8, 0)] (by kernel_rfl) (by kernel_rfl), H⟩
    refine Good.condF (decide_eq_false c30) (by kernel_rfl) ?_
    refine Good.skip ?_
    refine Good.seq ?_
    refine Good.label ?_
    refine Good.seq ?_
    refine Good.seq ?_
    refine Good.cut (fun st => ∃ (x0 : ByteArray) (x6 : Int) (x8 : Int) (x77 : Bool) (x1000 : Int) (x1001 : Int) (x1002 : Bool) (x1003 : Int) (x2000 : Int) (x2001 : Int) (x2002 : Bool) (x2003 : Int), Wk C st ⟨[(0, .d (.v (S x0))), (2, .d (.ptr 0 0)), (5, .d (.ptr 1 0)), (6, .d (.v (I x6))), (8, .d (.v (I x8))), (77, .d (.v (B x77)))], [.cells [.v (I x1000), .v (I x1001), .v (B x1002), .v (I x1003)], .cells [.v (I x2000), .v (I x2001), .v (B x2002), .v (I x2003)]]⟩ ∧ head_Decode.j1 k x0 x6 x8 x77 x2000 x2001 x2002 x2003 = some r) ?_ ?_
    · rcases ifC H with ⟨c31, H⟩ | ⟨c31, H⟩
      · refine Good.reg hN [B true] (.cons (decide_eq_true c31) .nil) [] (by kernel_rfl) ?_
        exact ⟨x0, wrap64 (x6 + 1), x8, true, x1000, x1001, x1002, x1003, x2000, Go.bits .or .i64 (wrap64 (x2001 * 128)) (wrap64 (Go.bits .and .u8 (bt x0 x6) 127)), x2002, x2003, Wk.of [(0, 0), (2, 0), (5, 0), (6, 0), (8, 0), (77, 0)] (by kernel_rfl) (by kernel_rfl), H⟩
      obtain ⟨c32, H⟩ := ifS H
      obtain ⟨c33, H⟩ := ifS H
      refine Good.reg hN [B false] (.cons (decide_eq_false c31) (.cons c32 (.cons c33 .nil))) [] (by kernel_rfl) ?_
      exact ⟨x0, wrap64 (x6 + 1), x8, ((bt x0 (wrap64 (x6 + 1))) == 128), x1000, x1001, x1002, x1003, x2000, Go.bits .or .i64 (wrap64 (x2001 * 128)) (wrap64 (Go.bits .and .u8 (bt x0 x6) 127)), x2002, x2003, Wk.of [(0, 0), (2, 0), (5, 0), (6, 0), (8, 0), (77, 0)] (by kernel_rfl) (by kernel_rfl), H⟩
    clear H
    rintro st ⟨x0, x6, x8, x77, x1000, x1001, x1002, x1003, x2000, x2001, x2002, x2003, W, H⟩
    rcases k with _ | k
    · cases H
    refine W.good ?_
    rw [head_Decode.j1] at H
    rcases ifC H with ⟨c34, H⟩ | ⟨c34, H⟩
    · refine Good.condT c34 (by kernel_rfl) ?_
      refine Good.goto ?_
      exact ⟨k, (by first | trivial | omega), x8, x1000, x1001, x1002, x1003, x2000, x2001, x2002, x2003, by omega, Wk.of [(2, 0), (8, 0)] (by kernel_rfl) (by kernel_rfl), H⟩
    refine Good.condF (Bool.eq_false_iff.2 c34) (by kernel_rfl) ?_
    refine Good.skip ?_
    refine Good.seq ?_
    refine Good.seq ?_
    obtain ⟨c35, H⟩ := ifS H
    obtain ⟨c36, H⟩ := ifS H
    refine Good.reg hN [] (.cons c35 (.cons c36 .nil)) [] (by kernel_rfl) ?_
    rcases ifC H with ⟨c37, H⟩ | ⟨c37, H⟩
    · refine Good.condT (decide_eq_true c37) (by kernel_rfl) ?_
      refine Good.seq ?_
      refine Good.reg hN [] .nil [] (by kernel_rfl) ?_
      refine Good.goto ?_
      exact ⟨k, (by first | trivial | omega), 4, x1000, x1001, x1002, x1003, x2000, x2001, x2002, x2003, by omega, Wk.of [(2, 0), (8, 0)] (by kernel_rfl) (by kernel_rfl), H⟩
    refine Good.condF (decide_eq_false c37) (by kernel_rfl) ?_
    refine Good.skip ?_
    refine Good.seq ?_
    refine Good.seq ?_
    refine Good.reg hN [] (.cons c35 (.cons c36 .nil)) [] (by kernel_rfl) ?_
    rcases ifC H with ⟨c38, H⟩ | ⟨c38, H⟩
    · refine Good.condT (decide_eq_true c38) (by kernel_rfl) ?_
      refine Good.seq ?_
      refine Good.reg hN [] (.cons c35 (.cons c36 .nil)) [] (by kernel_rfl) ?_
      refine Good.seq ?_
      refine Good.reg hN [] .nil [] (by kernel_rfl) ?_
      obtain rfl := Option.some.inj H
      exact Good.ret (fin.doneR (by kernel_rfl))
    refine Good.condF (decide_eq_false c38) (by kernel_rfl) ?_
    refine Good.skip ?_
    refine Good.seq ?_
    refine Good.reg hN [] (.cons c35 (.cons c36 .nil)) [] (by kernel_rfl) ?_
    refine Good.seq ?_
    refine Good.reg hN [] .nil [] (by kernel_rfl) ?_
    refine Good.seq ?_
    refine Good.seq ?_
    refine Good.reg hN [] .nil [] (by kernel_rfl) ?_
    rcases ifC H with ⟨c39, H⟩ | ⟨c39, H⟩
    · refine Good.condT (decide_eq_true c39) (by kernel_rfl) ?_
      refine Good.goto ?_
      exact ⟨k, (by first | trivial | omega), x8, x1000, x1001, x1002, x1003, x2000, x2001, x2002, x2003, by omega, Wk.of [(2, 0), (8, 0)] (by kernel_rfl) (by kernel_rfl), H⟩
    refine Good.condF (decide_eq_false c39) (by kernel_rfl) ?_
    refine Good.skip ?_
    refine Good.seq ?_
    refine Good.seq ?_
    refine Good.reg hN [] .nil [] (by kernel_rfl) ?_
    refine Good.block ?_
    refine Good.loopN (fun k' st => ∃ (x0 : ByteArray) (x6 : Int) (x7 : Int) (x8 : Int) (x107 : Int) (x108 : Int) (x1000 : Int) (x1001 : Int) (x1002 : Bool) (x1003 : Int) (x2000 : Int) (x2001 : Int) (x2002 : Bool) (x2003 : Int), k' ≤ k ∧ Wk C st ⟨[(0, .d (.v (S x0))), (2, .d (.ptr 0 0)), (5, .d (.ptr 1 0)), (6, .d (.v (I x6))), (7, .d (.v (I x7))), (8, .d (.v (I x8))), (107, .d (.v (I x107))), (108, .d (.v (I x108)))], [.cells [.v (I x1000), .v (I x1001), .v (B x1002), .v (I x1003)], .cells [.v (I x2000), .v (I x2001), .v (B x2002), .v (I x2003)]]⟩ ∧ head_Decode.l0 k' x0 x6 x7 x8 x107 x108 x2000 x2001 x2002 x2003 = some r) k ⟨x0, wrap64 (x6 + 1), wrap64 (Go.bits .and .u8 (bt x0 x6) 127), x8, wrap64 (Go.bits .and .u8 (bt x0 x6) 127), 0, x1000, x1001, x1002, x1003, x2000, x2001, x2002, x2003, Nat.le_refl _, Wk.of [(0, 0), (2, 0), (5, 0), (6, 0), (7, 0), (8, 0), (107, 0), (108, 0)] (by kernel_rfl) (by kernel_rfl), H⟩ fun k => ⟨fun st h => (by obtain ⟨_, _, _, _, _, _, _, _, _, _, _, _, _, _, _, _, H⟩ := h; cases H), ?_⟩
    clear H
    rintro st ⟨x0, x6, x7, x8, x107, x108, x1000, x1001, x1002, x1003, x2000, x2001, x2002, x2003, hk, W, H⟩
    refine W.good ?_
    rw [head_Decode.l0] at H
    refine Good.seq ?_
    refine Good.reg hN [] .nil [] (by kernel_rfl) ?_
    refine Good.seq ?_
    rcases ifC H with ⟨c40, H⟩ | ⟨c40, H⟩
    · refine Good.condT (decide_eq_true c40) (by kernel_rfl) ?_
      refine Good.skip ?_
      refine Good.seq ?_
      refine Good.block ?_
      refine Good.seq ?_
      obtain ⟨c41, H⟩ := ifS H
      obtain ⟨c42, H⟩ := ifS H
      refine Good.regDF hm hN (.q 0 [[]] (.q 1 [[]] (.q 2 [[]] (.q 3 [[]] (.q 4 [[]] (.q 5 [[]] (.q 6 [[]] (.q 7 [[]] (.q 8 [[]] (.e 9 .z)))))))))) [(0, none), (5, some (.pt [I x2000, I x2001, B x2002, I x2003])), (6, none)] (by kernel_rfl) (.cons (ptS (shrC (rfl : (V.shr (I x2000)) = I x2000) (shrC (rfl : (V.shr (I x2001)) = I x2001) (shrC (rfl : (V.shr (B x2002)) = B x2002) (shrC (rfl : (V.shr (I x2003)) = I x2003) (rfl : shrL [] = [])))))) .nil) [] [] (.cons (show (0 : Int) ≤ 8 by decide) (.cons c41 (.cons c42 .nil))) (.cons (show (0 : Int) ≤ 8 by decide) (.cons c41 (.cons c42 .nil))) [] [] (by kernel_rfl) (by kernel_rfl) ?_
      refine Good.reg hN [] .nil [] (by kernel_rfl) ?_
      refine Good.reg hN [] .nil [] (by kernel_rfl) ?_
      exact ⟨k, by omega, x0, wrap64 (x6 + 1), x7, x8, x107, wrap64 (x108 + 1), x1000, x1001, x1002, x1003, x2000, x2001, x2002, Go.bits .or .i64 (wrap64 (x2003 * 256)) (wrap64 (bt x0 x6)), by omega, Wk.of [(0, 0), (2, 0), (5, 0), (6, 0), (7, 0), (8, 0), (107, 0), (108, 0)] (by kernel_rfl) (by kernel_rfl), H⟩
    refine Good.condF (decide_eq_false c40) (by kernel_rfl) ?_
    refine Good.exit ?_
    refine Good.seq ?_
    refine Good.seq ?_
    obtain ⟨c43, H⟩ := ifS H
    rcases (ifC H).symm with ⟨c44, H⟩ | ⟨c44, H⟩
    · refine Good.regDF hm hN (.q 0 [] (.q 1 [] (.q 2 [] (.q 3 [] (.q 4 [] (.q 5 [] (.q 6 [] (.q 7 [] (.k 129 (.i 8 (.i 9 (.i 10 (.q 11 [] .z))))))))))))) [(5, some (.pt [I x2000, I x2001, B x2002, I x2003])), (7, none)] (by kernel_rfl) (.cons (ptS (shrC (rfl : (V.shr (I x2000)) = I x2000) (shrC (rfl : (V.shr (I x2001)) = I x2001) (shrC (rfl : (V.shr (B x2002)) = B x2002) (shrC (rfl : (V.shr (I x2003)) = I x2003) (rfl : shrL [] = [])))))) .nil) [B false] [] (.cons c43 (.cons (decide_eq_false c44) .nil)) (.cons c43 (.cons (decide_eq_false c44) .nil)) [] [] (by kernel_rfl) (by kernel_rfl) ?_
      refine Good.cond false (by kernel_rfl) ?_
      refine Good.skip ?_
      refine Good.seq ?_
      refine Good.label ?_
      refine Good.seq ?_
      refine Good.reg hN [] .nil [] (by kernel_rfl) ?_
      obtain rfl := Option.some.inj H
      exact Good.ret (fin.doneR (by kernel_rfl))
    refine Good.regDF hm hN (.q 0 [] (.q 1 [] (.q 2 [] (.q 3 [] (.q 4 [] (.q 5 [] (.q 6 [] (.q 7 [] (.k 129 (.q 8 [] (.q 9 [] (.q 10 [] (.q 11 [] .z))))))))))))) [(5, some (.pt [I x2000, I x2001, B x2002, I x2003])), (7, none)] (by kernel_rfl) (.cons (ptS (shrC (rfl : (V.shr (I x2000)) = I x2000) (shrC (rfl : (V.shr (I x2001)) = I x2001) (shrC (rfl : (V.shr (B x2002)) = B x2002) (shrC (rfl : (V.shr (I x2003)) = I x2003) (rfl : shrL [] = [])))))) .nil) [B true] [] (.cons c43 (.cons (decide_eq_true c44) .nil)) (.cons c43 (.cons (decide_eq_true c44) .nil)) [] [] (by kernel_rfl) (by kernel_rfl) ?_
    rcases ifC H with ⟨c45, H⟩ | ⟨c45, H⟩
    · refine Good.condT (decide_eq_true c45) (by kernel_rfl) ?_
      refine Good.seq ?_
      refine Good.reg hN [] .nil [] (by kernel_rfl) ?_
      obtain rfl := Option.some.inj H
      exact Good.ret (fin.doneR (by kernel_rfl))
    refine Good.condF (decide_eq_false c45) (by kernel_rfl) ?_
    refine Good.skip ?_
    refine Good.seq ?_
    refine Good.label ?_
    refine Good.seq ?_
    refine Good.reg hN [] .nil [] (by kernel_rfl) ?_
    obtain rfl := Option.some.inj H
    exact Good.ret (fin.doneR (by kernel_rfl))
  · clear H
    rintro n st ⟨x8, x1000, x1001, x1002, x1003, x2000, x2001, x2002, x2003, hn, W, H⟩
    rcases n with _ | k
    · cases H
    refine W.good ?_
    rw [head_Decode.g0_0] at H
    refine Good.seq ?_
    refine Good.skip ?_
    refine Good.seq ?_
    refine Good.reg hN [] .nil [] (by kernel_rfl) ?_
    obtain rfl := Option.some.inj H
    exact Good.ret (fin.doneR (by kernel_rfl))
  · clear H
    rintro n st ⟨x0, x6, x8, x1000, x1001, x1002, x1003, x2000, x2001, x2002, x2003, hn, W, H⟩
    rcases n with _ | k
    · cases H
    refine W.good ?_
    rw [head_Decode.g0_1] at H
    refine Good.seq ?_
    refine Good.skip ?_
    refine Good.seq ?_
    refine Good.seq ?_
    refine Good.cut (fun st => ∃ (x0 : ByteArray) (x6 : Int) (x8 : Int) (x77 : Bool) (x1000 : Int) (x1001 : Int) (x1002 : Bool) (x1003 : Int) (x2000 : Int) (x2001 : Int) (x2002 : Bool) (x2003 : Int), Wk C st ⟨[(0, .d (.v (S x0))), (2, .d (.ptr 0 0)), (5, .d (.ptr 1 0)), (6, .d (.v (I x6))), (8, .d (.v (I x8))), (77, .d (.v (B x77)))], [.cells [.v (I x1000), .v (I x1001), .v (B x1002), .v (I x1003)], .cells [.v (I x2000), .v (I x2001), .v (B x2002), .v (I x2003)]]⟩ ∧ head_Decode.j5 k x0 x6 x8 x77 x2000 x2001 x2002 x2003 = some r) ?_ ?_
    · rcases ifC H with ⟨c46, H⟩ | ⟨c46, H⟩
      · refine Good.reg hN [B true] (.cons (decide_eq_true c46) .nil) [] (by kernel_rfl) ?_
        exact ⟨x0, x6, x8, true, x1000, x1001, x1002, x1003, x2000, x2001, x2002, x2003, Wk.of [(0, 0), (2, 0), (5, 0), (6, 0), (8, 0), (77, 0)] (by kernel_rfl) (by kernel_rfl), H⟩
      obtain ⟨c47, H⟩ := ifS H
      obtain ⟨c48, H⟩ := ifS H
      refine Good.reg hN [B false] (.cons (decide_eq_false c46) (.cons c47 (.cons c48 .nil))) [] (by kernel_rfl) ?_
      exact ⟨x0, x6, x8, ((bt x0 x6) == 128), x1000, x1001, x1002, x1003, x2000, x2001, x2002, x2003, Wk.of [(0, 0), (2, 0), (5, 0), (6, 0), (8, 0), (77, 0)] (by kernel_rfl) (by kernel_rfl), H⟩
    clear H
    rintro st ⟨x0, x6, x8, x77, x1000, x1001, x1002, x1003, x2000, x2001, x2002, x2003, W, H⟩
    rcases k with _ | k
    · cases H
    refine W.good ?_
    rw [head_Decode.j5] at H
    rcases ifC H with ⟨c49, H⟩ | ⟨c49, H⟩
    · refine Good.condT c49 (by kernel_rfl) ?_
      refine Good.goto ?_
      exact ⟨k, (by first | trivial | omega), x8, x1000, x1001, x1002, x1003, x2000, x2001, x2002, x2003, by omega, Wk.of [(2, 0), (8, 0)] (by kernel_rfl) (by kernel_rfl), H⟩
    refine Good.condF (Bool.eq_false_iff.2 c49) (by kernel_rfl) ?_
    refine Good.skip ?_
    refine Good.seq ?_
    refine Good.seq ?_
    obtain ⟨c50, H⟩ := ifS H
    obtain ⟨c51, H⟩ := ifS H
    refine Good.reg hN [] (.cons c50 (.cons c51 .nil)) [] (by kernel_rfl) ?_
    rcases ifC H with ⟨c52, H⟩ | ⟨c52, H⟩
    · refine Good.condT (decide_eq_true c52) (by kernel_rfl) ?_
      refine Good.seq ?_
      refine Good.reg hN [] .nil [] (by kernel_rfl) ?_
      refine Good.goto ?_
      exact ⟨k, (by first | trivial | omega), 4, x1000, x1001, x1002, x1003, x2000, x2001, x2002, x2003, by omega, Wk.of [(2, 0), (8, 0)] (by kernel_rfl) (by kernel_rfl), H⟩
    refine Good.condF (decide_eq_false c52) (by kernel_rfl) ?_
    refine Good.skip ?_
    refine Good.seq ?_
    refine Good.seq ?_
    refine Good.reg hN [] (.cons c50 (.cons c51 .nil)) [] (by kernel_rfl) ?_
    rcases ifC H with ⟨c53, H⟩ | ⟨c53, H⟩
    · refine Good.condT (decide_eq_true c53) (by kernel_rfl) ?_
      refine Good.seq ?_
      refine Good.reg hN [] (.cons c50 (.cons c51 .nil)) [] (by kernel_rfl) ?_
      refine Good.seq ?_
      refine Good.reg hN [] .nil [] (by kernel_rfl) ?_
      obtain rfl := Option.some.inj H
      exact Good.ret (fin.doneR (by kernel_rfl))
    refine Good.condF (decide_eq_false c53) (by kernel_rfl) ?_
    refine Good.skip ?_
    refine Good.seq ?_
    refine Good.reg hN [] (.cons c50 (.cons c51 .nil)) [] (by kernel_rfl) ?_
    refine Good.seq ?_
    refine Good.reg hN [] .nil [] (by kernel_rfl) ?_
    refine Good.seq ?_
    refine Good.seq ?_
    refine Good.reg hN [] .nil [] (by kernel_rfl) ?_
    rcases ifC H with ⟨c54, H⟩ | ⟨c54, H⟩
    · refine Good.condT (decide_eq_true c54) (by kernel_rfl) ?_
      refine Good.goto ?_
      exact ⟨k, (by first | trivial | omega), x8, x1000, x1001, x1002, x1003, x2000, x2001, x2002, x2003, by omega, Wk.of [(2, 0), (8, 0)] (by kernel_rfl) (by kernel_rfl), H⟩
    refine Good.condF (decide_eq_false c54) (by kernel_rfl) ?_
    refine Good.skip ?_
    refine Good.seq ?_
    refine Good.seq ?_
    refine Good.reg hN [] .nil [] (by kernel_rfl) ?_
    refine Good.block ?_
    refine Good.loopN (fun k' st => ∃ (x0 : ByteArray) (x6 : Int) (x7 : Int) (x8 : Int) (x107 : Int) (x108 : Int) (x1000 : Int) (x1001 : Int) (x1002 : Bool) (x1003 : Int) (x2000 : Int) (x2001 : Int) (x2002 : Bool) (x2003 : Int), k' ≤ k ∧ Wk C st ⟨[(0, .d (.v (S x0))), (2, .d (.ptr 0 0)), (5, .d (.ptr 1 0)), (6, .d (.v (I x6))), (7, .d (.v (I x7))), (8, .d (.v (I x8))), (107, .d (.v (I x107))), (108, .d (.v (I x108)))], [.cells [.v (I x1000), .v (I x1001), .v (B x1002), .v (I x1003)], .cells [.v (I x2000), .v (I x2001), .v (B x2002), .v (I x2003)]]⟩ ∧ head_Decode.l0 k' x0 x6 x7 x8 x107 x108 x2000 x2001 x2002 x2003 = some r) k ⟨x0, wrap64 (x6 + 1), wrap64 (Go.bits .and .u8 (bt x0 x6) 127), x8, wrap64 (Go.bits .and .u8 (bt x0 x6) 127), 0, x1000, x1001, x1002, x1003, x2000, x2001, x2002, x2003, Nat.le_refl _, Wk.of [(0, 0), (2, 0), (5, 0), (6, 0), (7, 0), (8, 0), (107, 0), (108, 0)] (by kernel_rfl) (by kernel_rfl), H⟩ fun k => ⟨fun st h => (by obtain ⟨_, _, _, _, _, _, _, _, _, _, _, _, _, _, _, _, H⟩ := h; cases H), ?_⟩
    clear H
    rintro st ⟨x0, x6, x7, x8, x107, x108, x1000, x1001, x1002, x1003, x2000, x2001, x2002, x2003, hk, W, H⟩
    refine W.good ?_
    rw [head_Decode.l0] at H
    refine Good.seq ?_
    refine Good.reg hN [] .nil [] (by kernel_rfl) ?_
    refine Good.seq ?_
    rcases ifC H with ⟨c40, H⟩ | ⟨c40, H⟩
    · refine Good.condT (decide_eq_true c40) (by kernel_rfl) ?_
      refine Good.skip ?_
      refine Good.seq ?_
      refine Good.block ?_
      refine Good.seq ?_
      obtain ⟨c41, H⟩ := ifS H
      obtain ⟨c42, H⟩ := ifS H
      refine Good.regDF hm hN (.q 0 [[]] (.q 1 [[]] (.q 2 [[]] (.q 3 [[]] (.q 4 [[]] (.q 5 [[]] (.q 6 [[]] (.q 7 [[]] (.q 8 [[]] (.e 9 .z)))))))))) [(0, none), (5, some (.pt [I x2000, I x2001, B x2002, I x2003])), (6, none)] (by kernel_rfl) (.cons (ptS (shrC (rfl : (V.shr (I x2000)) = I x2000) (shrC (rfl : (V.shr (I x2001)) = I x2001) (shrC (rfl : (V.shr (B x2002)) = B x2002) (shrC (rfl : (V.shr (I x2003)) = I x2003) (rfl : shrL [] = [])))))) .nil) [] [] (.cons (show (0 : Int) ≤ 8 by decide) (.cons c41 (.cons c42 .nil))) (.cons (show (0 : Int) ≤ 8 by decide) (.cons c41 (.cons c42 .nil))) [] [] (by kernel_rfl) (by kernel_rfl) ?_
      refine Good.reg hN [] .nil [] (by kernel_rfl) ?_
      refine Good.reg hN [] .nil [] (by kernel_rfl) ?_
      exact ⟨k, by omega, x0, wrap64 (x6 + 1), x7, x8, x107, wrap64 (x108 + 1), x1000, x1001, x1002, x1003, x2000, x2001, x2002, Go.bits .or .i64 (wrap64 (x2003 * 256)) (wrap64 (bt x0 x6)), by omega, Wk.of [(0, 0), (2, 0), (5, 0), (6, 0), (7, 0), (8, 0), (107, 0), (108, 0)] (by kernel_rfl) (by kernel_rfl), H⟩
    refine Good.condF (decide_eq_false c40) (by kernel_rfl) ?_
    refine Good.exit ?_
    refine Good.seq ?_
    refine Good.seq ?_
    obtain ⟨c43, H⟩ := ifS H
    rcases (ifC H).symm with ⟨c44, H⟩ | ⟨c44, H⟩
    · refine Good.regDF hm hN (.q 0 [] (.q 1 [] (.q 2 [] (.q 3 [] (.q 4 [] (.q 5 [] (.q 6 [] (.q 7 [] (.k 129 (.i 8 (.i 9 (.i 10 (.q 11 [] .z))))))))))))) [(5, some (.pt [I x2000, I x2001, B x2002, I x2003])), (7, none)] (by kernel_rfl) (.cons (ptS (shrC (rfl : (V.shr (I x2000)) = I x2000) (shrC (rfl : (V.shr (I x2001)) = I x2001) (shrC (rfl : (V.shr (B x2002)) = B x2002) (shrC (rfl : (V.shr (I x2003)) = I x2003) (rfl : shrL [] = [])))))) .nil) [B false] [] (.cons c43 (.cons (decide_eq_false c44) .nil)) (.cons c43 (.cons (decide_eq_false c44) .nil)) [] [] (by kernel_rfl) (by kernel_rfl) ?_
      refine Good.cond false (by kernel_rfl) ?_
      refine Good.skip ?_
      refine Good.seq ?_
      refine Good.label ?_
      refine Good.seq ?_
      refine Good.reg hN [] .nil [] (by kernel_rfl) ?_
      obtain rfl := Option.some.inj H
      exact Good.ret (fin.doneR (by kernel_rfl))
    refine Good.regDF hm hN (.q 0 [] (.q 1 [] (.q 2 [] (.q 3 [] (.q 4 [] (.q 5 [] (.q 6 [] (.q 7 [] (.k 129 (.q 8 [] (.q 9 [] (.q 10 [] (.q 11 [] .z))))))))))))) [(5, some (.pt [I x2000, I x2001, B x2002, I x2003])), (7, none)] (by kernel_rfl) (.cons (ptS (shrC (rfl : (V.shr (I x2000)) = I x2000) (shrC (rfl : (V.shr (I x2001)) = I x2001) (shrC (rfl : (V.shr (B x2002)) = B x2002) (shrC (rfl : (V.shr (I x2003)) = I x2003) (rfl : shrL [] = [])))))) .nil) [B true] [] (.cons c43 (.cons (decide_eq_true c44) .nil)) (.cons c43 (.cons (decide_eq_true c44) .nil)) [] [] (by kernel_rfl) (by kernel_rfl) ?_
    rcases ifC H with ⟨c45, H⟩ | ⟨c45, H⟩
    · refine Good.condT (decide_eq_true c45) (by kernel_rfl) ?_
      refine Good.seq ?_
      refine Good.reg hN [] .nil [] (by kernel_rfl) ?_
      obtain rfl := Option.some.inj H
      exact Good.ret (fin.doneR (by kernel_rfl))
    refine Good.condF (decide_eq_false c45) (by kernel_rfl) ?_
    refine Good.skip ?_
    refine Good.seq ?_
    refine Good.label ?_
    refine Good.seq ?_
    refine Good.reg hN [] .nil [] (by kernel_rfl) ?_
    obtain rfl := Option.some.inj H
    exact Good.ret (fin.doneR (by kernel_rfl))
  · clear H
    rintro n st ⟨x0, x6, x7, x8, x1000, x1001, x1002, x1003, x2000, x2001, x2002, x2003, hn, W, H⟩
    rcases n with _ | k
    · cases H
    refine W.good ?_
    rw [head_Decode.g0_2] at H
    refine Good.seq ?_
    refine Good.skip ?_
    refine Good.seq ?_
    refine Good.seq ?_
    refine Good.cut (fun st => ∃ (x0 : ByteArray) (x6 : Int) (x7 : Int) (x8 : Int) (x45 : Bool) (x1000 : Int) (x1001 : Int) (x1002 : Bool) (x1003 : Int) (x2000 : Int) (x2001 : Int) (x2002 : Bool) (x2003 : Int), Wk C st ⟨[(0, .d (.v (S x0))), (2, .d (.ptr 0 0)), (5, .d (.ptr 1 0)), (6, .d (.v (I x6))), (7, .d (.v (I x7))), (8, .d (.v (I x8))), (45, .d (.v (B x45)))], [.cells [.v (I x1000), .v (I x1001), .v (B x1002), .v (I x1003)], .cells [.v (I x2000), .v (I x2001), .v (B x2002), .v (I x2003)]]⟩ ∧ head_Decode.j7 k x0 x6 x7 x8 x45 x2000 x2001 x2002 x2003 = some r) ?_ ?_
    · rcases ifC H with ⟨c55, H⟩ | ⟨c55, H⟩
      · refine Good.reg hN [B true, B true] (.cons (decide_eq_true c55) (.cons (rfl : true = true) .nil)) [] (by kernel_rfl) ?_
        exact ⟨x0, x6, x7, x8, true, x1000, x1001, x1002, x1003, x2000, x2001, x2002, x2003, Wk.of [(0, 0), (2, 0), (5, 0), (6, 0), (7, 0), (8, 0), (45, 0)] (by kernel_rfl) (by kernel_rfl), H⟩
      rcases ifC H with ⟨c56, H⟩ | ⟨c56, H⟩
      · refine Good.reg hN [B false, B true] (.cons (decide_eq_false c55) (.cons (beq_iff_eq.2 c56) .nil)) [] (by kernel_rfl) ?_
        exact ⟨x0, x6, x7, x8, true, x1000, x1001, x1002, x1003, x2000, x2001, x2002, x2003, Wk.of [(0, 0), (2, 0), (5, 0), (6, 0), (7, 0), (8, 0), (45, 0)] (by kernel_rfl) (by kernel_rfl), H⟩
      rcases (ifC H).symm with ⟨c57, H⟩ | ⟨c57, H⟩
      · refine Good.reg hN [B false, B false, B false] (.cons (decide_eq_false c55) (.cons (beq_eq_false_iff_ne.2 c56) (.cons (beq_eq_false_iff_ne.2 c57) .nil))) [] (by kernel_rfl) ?_
        exact ⟨x0, x6, x7, x8, false, x1000, x1001, x1002, x1003, x2000, x2001, x2002, x2003, Wk.of [(0, 0), (2, 0), (5, 0), (6, 0), (7, 0), (8, 0), (45, 0)] (by kernel_rfl) (by kernel_rfl), H⟩
      obtain ⟨c58, H⟩ := ifS H
      obtain ⟨c59, H⟩ := ifS H
      refine Good.reg hN [B false, B false, B true] (.cons (decide_eq_false c55) (.cons (beq_eq_false_iff_ne.2 c56) (.cons (beq_iff_eq.2 c57) (.cons c58 (.cons c59 .nil))))) [] (by kernel_rfl) ?_
      exact ⟨x0, x6, x7, x8, ((bt x0 x6) == 128), x1000, x1001, x1002, x1003, x2000, x2001, x2002, x2003, Wk.of [(0, 0), (2, 0), (5, 0), (6, 0), (7, 0), (8, 0), (45, 0)] (by kernel_rfl) (by kernel_rfl), H⟩
    clear H
    rintro st ⟨x0, x6, x7, x8, x45, x1000, x1001, x1002, x1003, x2000, x2001, x2002, x2003, W, H⟩
    rcases k with _ | k
    · cases H
    refine W.good ?_
    rw [head_Decode.j7] at H
    rcases ifC H with ⟨c60, H⟩ | ⟨c60, H⟩
    · refine Good.condT c60 (by kernel_rfl) ?_
      refine Good.goto ?_
      exact ⟨k, (by first | trivial | omega), x8, x1000, x1001, x1002, x1003, x2000, x2001, x2002, x2003, by omega, Wk.of [(2, 0), (8, 0)] (by kernel_rfl) (by kernel_rfl), H⟩
    refine Good.condF (Bool.eq_false_iff.2 c60) (by kernel_rfl) ?_
    refine Good.skip ?_
    refine Good.seq ?_
    obtain ⟨c61, H⟩ := ifS H
    obtain ⟨c62, H⟩ := ifS H
    refine Good.regDF hm hN (.q 0 [[]] (.q 1 [[]] (.q 2 [[]] (.q 3 [[]] (.q 4 [[]] (.q 5 [[]] (.q 6 [[]] (.q 7 [[]] (.q 8 [[]] (.q 9 [[]] (.e 10 .z))))))))))) [(0, none), (5, some (.pt [I x2000, I x2001, B x2002, I x2003])), (6, none)] (by kernel_rfl) (.cons (ptS (shrC (rfl : (V.shr (I x2000)) = I x2000) (shrC (rfl : (V.shr (I x2001)) = I x2001) (shrC (rfl : (V.shr (B x2002)) = B x2002) (shrC (rfl : (V.shr (I x2003)) = I x2003) (rfl : shrL [] = [])))))) .nil) [] [] (.cons (show (0 : Int) ≤ 7 by decide) (.cons c61 (.cons c62 .nil))) (.cons (show (0 : Int) ≤ 7 by decide) (.cons c61 (.cons c62 .nil))) [] [] (by kernel_rfl) (by kernel_rfl) ?_
    refine Good.seq ?_
    refine Good.reg hN [] .nil [] (by kernel_rfl) ?_
    refine Good.seq ?_
    refine Good.reg hN [] .nil [] (by kernel_rfl) ?_
    refine Good.seq ?_
    refine Good.seq ?_
    obtain ⟨c63, H⟩ := ifS H
    obtain ⟨c64, H⟩ := ifS H
    refine Good.reg hN [] (.cons c63 (.cons c64 .nil)) [] (by kernel_rfl) ?_
    rcases ifC H with ⟨c65, H⟩ | ⟨c65, H⟩
    · refine Good.condT (decide_eq_true c65) (by kernel_rfl) ?_
      refine Good.goto ?_
      exact ⟨k, (by first | trivial | omega), x0, wrap64 (x6 + 1), wrap64 (x7 + 1), x8, x1000, x1001, x1002, x1003, x2000, Go.bits .or .i64 (wrap64 (x2001 * 128)) (wrap64 (Go.bits .and .u8 (bt x0 x6) 127)), x2002, x2003, by omega, Wk.of [(0, 0), (2, 0), (5, 0), (6, 0), (7, 0), (8, 0)] (by kernel_rfl) (by kernel_rfl), H⟩
    refine Good.condF (decide_eq_false c65) (by kernel_rfl) ?_
    refine Good.skip ?_
    refine Good.seq ?_
    refine Good.seq ?_
    refine Good.reg hN [] .nil [] (by kernel_rfl) ?_
    rcases ifC H with ⟨c66, H⟩ | ⟨c66, H⟩
    · refine Good.condT (decide_eq_true c66) (by kernel_rfl) ?_
      refine Good.goto ?_
      exact ⟨k, (by first | trivial | omega), x8, x1000, x1001, x1002, x1003, x2000, Go.bits .or .i64 (wrap64 (x2001 * 128)) (wrap64 (Go.bits .and .u8 (bt x0 x6) 127)), x2002, x2003, by omega, Wk.of [(2, 0), (8, 0)] (by kernel_rfl) (by kernel_rfl), H⟩
    refine Good.condF (decide_eq_false c66) (by kernel_rfl) ?_
    refine Good.skip ?_
    refine Good.seq ?_
    refine Good.label ?_
    refine Good.seq ?_
    refine Good.seq ?_
    refine Good.cut (fun st => ∃ (x0 : ByteArray) (x6 : Int) (x8 : Int) (x77 : Bool) (x1000 : Int) (x1001 : Int) (x1002 : Bool) (x1003 : Int) (x2000 : Int) (x2001 : Int) (x2002 : Bool) (x2003 : Int), Wk C st ⟨[(0, .d (.v (S x0))), (2, .d (.ptr 0 0)), (5, .d (.ptr 1 0)), (6, .d (.v (I x6))), (8, .d (.v (I x8))), (77, .d (.v (B x77)))], [.cells [.v (I x1000), .v (I x1001), .v (B x1002), .v (I x1003)], .cells [.v (I x2000), .v (I x2001), .v (B x2002), .v (I x2003)]]⟩ ∧ head_Decode.j8 k x0 x6 x8 x77 x2000 x2001 x2002 x2003 = some r) ?_ ?_
    · rcases ifC H with ⟨c67, H⟩ | ⟨c67, H⟩
      · refine Good.reg hN [B true] (.cons (decide_eq_true c67) .nil) [] (by kernel_rfl) ?_
        exact ⟨x0, wrap64 (x6 + 1), x8, true, x1000, x1001, x1002, x1003, x2000, Go.bits .or .i64 (wrap64 (x2001 * 128)) (wrap64 (Go.bits .and .u8 (bt x0 x6) 127)), x2002, x2003, Wk.of [(0, 0), (2, 0), (5, 0), (6, 0), (8, 0), (77, 0)] (by kernel_rfl) (by kernel_rfl), H⟩
      obtain ⟨c68, H⟩ := ifS H
      obtain ⟨c69, H⟩ := ifS H
      refine Good.reg hN [B false] (.cons (decide_eq_false c67) (.cons c68 (.cons c69 .nil))) [] (by kernel_rfl) ?_
      exact ⟨x0, wrap64 (x6 + 1), x8, ((bt x0 (wrap64 (x6 + 1))) == 128), x1000, x1001, x1002, x1003, x2000, Go.bits .or .i64 (wrap64 (x2001 * 128)) (wrap64 (Go.bits .and .u8 (bt x0 x6) 127)), x2002, x2003, Wk.of [(0, 0), (2, 0), (5, 0), (6, 0), (8, 0), (77, 0)] (by kernel_rfl) (by kernel_rfl), H⟩
    clear H
    rintro st ⟨x0, x6, x8, x77, x1000, x1001, x1002, x1003, x2000, x2001, x2002, x2003, W, H⟩
    rcases k with _ | k
    · cases H
    refine W.good ?_
    rw [head_Decode.j8] at H
    rcases ifC H with ⟨c70, H⟩ | ⟨c70, H⟩
    · refine Good.condT c70 (by kernel_rfl) ?_
      refine Good.goto ?_
      exact ⟨k, (by first | trivial | omega), x8, x1000, x1001, x1002, x1003, x2000, x2001, x2002, x2003, by omega, Wk.of [(2, 0), (8, 0)] (by kernel_rfl) (by kernel_rfl), H⟩
    refine Good.condF (Bool.eq_false_iff.2 c70) (by kernel_rfl) ?_
    refine Good.skip ?_
    refine Good.seq ?_
    refine Good.seq ?_
    obtain ⟨c71, H⟩ := ifS H
    obtain ⟨c72, H⟩ := ifS H
    refine Good.reg hN [] (.cons c71 (.cons c72 .nil)) [] (by kernel_rfl) ?_
    rcases ifC H with ⟨c73, H⟩ | ⟨c73, H⟩
    · refine Good.condT (decide_eq_true c73) (by kernel_rfl) ?_
      refine Good.seq ?_
      refine Good.reg hN [] .nil [] (by kernel_rfl) ?_
      refine Good.goto ?_
      exact ⟨k, (by first | trivial | omega), 4, x1000, x1001, x1002, x1003, x2000, x2001, x2002, x2003, by omega, Wk.of [(2, 0), (8, 0)] (by kernel_rfl) (by kernel_rfl), H⟩
    refine Good.condF (decide_eq_false c73) (by kernel_rfl) ?_
    refine Good.skip ?_
    refine Good.seq ?_
    refine Good.seq ?_
    refine Good.reg hN [] (.cons c71 (.cons c72 .nil)) [] (by kernel_rfl) ?_
    rcases ifC H with ⟨c74, H⟩ | ⟨c74, H⟩
    · refine Good.condT (decide_eq_true c74) (by kernel_rfl) ?_
      refine Good.seq ?_
      refine Good.reg hN [] (.cons c71 (.cons c72 .nil)) [] (by kernel_rfl) ?_
      refine Good.seq ?_
      refine Good.reg hN [] .nil [] (by kernel_rfl) ?_
      obtain rfl := Option.some.inj H
      exact Good.ret (fin.doneR (by kernel_rfl))
    refine Good.condF (decide_eq_false c74) (by kernel_rfl) ?_
    refine Good.skip ?_
    refine Good.seq ?_
    refine Good.reg hN [] (.cons c71 (.cons c72 .nil)) [] (by kernel_rfl) ?_
    refine Good.seq ?_
    refine Good.reg hN [] .nil [] (by kernel_rfl) ?_
    refine Good.seq ?_
    refine Good.seq ?_
    refine Good.reg hN [] .nil [] (by kernel_rfl) ?_
    rcases ifC H with ⟨c75, H⟩ | ⟨c75, H⟩
    · refine Good.condT (decide_eq_true c75) (by kernel_rfl) ?_
      refine Good.goto ?_
      exact ⟨k, (by first | trivial | omega), x8, x1000, x1001, x1002, x1003, x2000, x2001, x2002, x2003, by omega, Wk.of [(2, 0), (8, 0)] (by kernel_rfl) (by kernel_rfl), H⟩
    refine Good.condF (decide_eq_false c75) (by kernel_rfl) ?_
    refine Good.skip ?_
    refine Good.seq ?_
    refine Good.seq ?_
    refine Good.reg hN [] .nil [] (by kernel_rfl) ?_
    refine Good.block ?_
    refine Good.loopN (fun k' st => ∃ (x0 : ByteArray) (x6 : Int) (x7 : Int) (x8 : Int) (x107 : Int) (x108 : Int) (x1000 : Int) (x1001 : Int) (x1002 : Bool) (x1003 : Int) (x2000 : Int) (x2001 : Int) (x2002 : Bool) (x2003 : Int), k' ≤ k ∧ Wk C st ⟨[(0, .d (.v (S x0))), (2, .d (.ptr 0 0)), (5, .d (.ptr 1 0)), (6, .d (.v (I x6))), (7, .d (.v (I x7))), (8, .d (.v (I x8))), (107, .d (.v (I x107))), (108, .d (.v (I x108)))], [.cells [.v (I x1000), .v (I x1001), .v (B x1002), .v (I x1003)], .cells [.v (I x2000), .v (I x2001), .v (B x2002), .v (I x2003)]]⟩ ∧ head_Decode.l0 k' x0 x6 x7 x8 x107 x108 x2000 x2001 x2002 x2003 = some r) k ⟨x0, wrap64 (x6 + 1), wrap64 (Go.bits .and .u8 (bt x0 x6) 127), x8, wrap64 (Go.bits .and .u8 (bt x0 x6) 127), 0, x1000, x1001, x1002, x1003, x2000, x2001, x2002, x2003, Nat.le_refl _, Wk.of [(0, 0), (2, 0), (5, 0), (6, 0), (7, 0), (8, 0), (107, 0), (108, 0)] (by kernel_rfl) (by kernel_rfl), H⟩ fun k => ⟨fun st h => (by obtain ⟨_, _, _, _, _, _, _, _, _, _, _, _, _, _, _, _, H⟩ := h; cases H), ?_⟩
    clear H
    rintro st ⟨x0, x6, x7, x8, x107, x108, x1000, x1001, x1002, x1003, x2000, x2001, x2002, x2003, hk, W, H⟩
    refine W.good ?_
    rw [head_Decode.l0] at H
    refine Good.seq ?_
    refine Good.reg hN [] .nil [] (by kernel_rfl) ?_
    refine Good.seq ?_
    rcases ifC H with ⟨c40, H⟩ | ⟨c40, H⟩
    · refine Good.condT (decide_eq_true c40) (by kernel_rfl) ?_
      refine Good.skip ?_
      refine Good.seq ?_
      refine Good.block ?_
      refine Good.seq ?_
      obtain ⟨c41, H⟩ := ifS H
      obtain ⟨c42, H⟩ := ifS H
      refine Good.regDF hm hN (.q 0 [[]] (.q 1 [[]] (.q 2 [[]] (.q 3 [[]] (.q 4 [[]] (.q 5 [[]] (.q 6 [[]] (.q 7 [[]] (.q 8 [[]] (.e 9 .z)))))))))) [(0, none), (5, some (.pt [I x2000, I x2001, B x2002, I x2003])), (6, none)] (by kernel_rfl) (.cons (ptS (shrC (rfl : (V.shr (I x2000)) = I x2000) (shrC (rfl : (V.shr (I x2001)) = I x2001) (shrC (rfl : (V.shr (B x2002)) = B x2002) (shrC (rfl : (V.shr (I x2003)) = I x2003) (rfl : shrL [] = [])))))) .nil) [] [] (.cons (show (0 : Int) ≤ 8 by decide) (.cons c41 (.cons c42 .nil))) (.cons (show (0 : Int) ≤ 8 by decide) (.cons c41 (.cons c42 .nil))) [] [] (by kernel_rfl) (by kernel_rfl) ?_
      refine Good.reg hN [] .nil [] (by kernel_rfl) ?_
      refine Good.reg hN [] .nil [] (by kernel_rfl) ?_
      exact ⟨k, by omega, x0, wrap64 (x6 + 1), x7, x8, x107, wrap64 (x108 + 1), x1000, x1001, x1002, x1003, x2000, x2001, x2002, Go.bits .or .i64 (wrap64 (x2003 * 256)) (wrap64 (bt x0 x6)), by omega, Wk.of [(0, 0), (2, 0), (5, 0), (6, 0), (7, 0), (8, 0), (107, 0), (108, 0)] (by kernel_rfl) (by kernel_rfl), H⟩
    refine Good.condF (decide_eq_false c40) (by kernel_rfl) ?_
    refine Good.exit ?_
    refine Good.seq ?_
    refine Good.seq ?_
    obtain ⟨c43, H⟩ := ifS H
    rcases (ifC H).symm with ⟨c44, H⟩ | ⟨c44, H⟩
    · refine Good.regDF hm hN (.q 0 [] (.q 1 [] (.q 2 [] (.q 3 [] (.q 4 [] (.q 5 [] (.q 6 [] (.q 7 [] (.k 129 (.i 8 (.i 9 (.i 10 (.q 11 [] .z))))))))))))) [(5, some (.pt [I x2000, I x2001, B x2002, I x2003])), (7, none)] (by kernel_rfl) (.cons (ptS (shrC (rfl : (V.shr (I x2000)) = I x2000) (shrC (rfl : (V.shr (I x2001)) = I x2001) (shrC (rfl : (V.shr (B x2002)) = B x2002) (shrC (rfl : (V.shr (I x2003)) = I x2003) (rfl : shrL [] = [])))))) .nil) [B false] [] (.cons c43 (.cons (decide_eq_false c44) .nil)) (.cons c43 (.cons (decide_eq_false c44) .nil)) [] [] (by kernel_rfl) (by kernel_rfl) ?_
      refine Good.cond false (by kernel_rfl) ?_
      refine Good.skip ?_
      refine Good.seq ?_
      refine Good.label ?_
      refine Good.seq ?_
      refine Good.reg hN [] .nil [] (by kernel_rfl) ?_
      obtain rfl := Option.some.inj H
      exact Good.ret (fin.doneR (by kernel_rfl))
    refine Good.regDF hm hN (.q 0 [] (.q 1 [] (.q 2 [] (.q 3 [] (.q 4 [] (.q 5 [] (.q 6 [] (.q 7 [] (.k 129 (.q 8 [] (.q 9 [] (.q 10 [] (.q 11 [] .z))))))))))))) [(5, some (.pt [I x2000, I x2001, B x2002, I x2003])), (7, none)] (by kernel_rfl) (.cons (ptS (shrC (rfl : (V.shr (I x2000)) = I x2000) (shrC (rfl : (V.shr (I x2001)) = I x2001) (shrC (rfl : (V.shr (B x2002)) = B x2002) (shrC (rfl : (V.shr (I x2003)) = I x2003) (rfl : shrL [] = [])))))) .nil) [B true] [] (.cons c43 (.cons (decide_eq_true c44) .nil)) (.cons c43 (.cons (decide_eq_true c44) .nil)) [] [] (by kernel_rfl) (by kernel_rfl) ?_
    rcases ifC H with ⟨c45, H⟩ | ⟨c45, H⟩
    · refine Good.condT (decide_eq_true c45) (by kernel_rfl) ?_
      refine Good.seq ?_
      refine Good.reg hN [] .nil [] (by kernel_rfl) ?_
      obtain rfl := Option.some.inj H
      exact Good.ret (fin.doneR (by kernel_rfl))
    refine Good.condF (decide_eq_false c45) (by kernel_rfl) ?_
    refine Good.skip ?_
    refine Good.seq ?_
    refine Good.label ?_
    refine Good.seq ?_
    refine Good.reg hN [] .nil [] (by kernel_rfl) ?_
    obtain rfl := Option.some.inj H
    exact Good.ret (fin.doneR (by kernel_rfl))
def octets_Cut.f (a0 : ByteArray) (a1 : Int) (a2 : Int) : Option (ByteArray) := if a1 < 0 then (some (⟨#[]⟩ : ByteArray)) else (if a1 ≥ (a0.size : Int) then (some (⟨#[]⟩ : ByteArray)) else (if a2 < 1 then (some (⟨#[]⟩ : ByteArray)) else (if 0 ≤ a1 then (if a1 ≤ (wrap64 (a1 + (mn a2 (wrap64 ((a0.size : Int) - a1))))) then (if (wrap64 (a1 + (mn a2 (wrap64 ((a0.size : Int) - a1))))) ≤ (a0.size : Int) then (some (a0.extract (a1 : Int).toNat ((wrap64 (a1 + (mn a2 (wrap64 ((a0.size : Int) - a1))))) : Int).toNat)) else (none)) else (none)) else (none))))
theorem octets_Cut.con {a0 : ByteArray} {a1 : Int} {a2 : Int} {r : (ByteArray)} (H : octets_Cut.f a0 a1 a2 = some r) : Con Tryd.prog 24 [S a0, I a1, I a2] (S r) := by
  refine con_of_good Tryd.func24 rfl (by kernel_rfl) (by kernel_rfl) fun C hN hL => ?_
  unfold octets_Cut.f at H
  refine Good.seq ?_
  refine Good.reg hN [] .nil [] (by kernel_rfl) ?_
  refine Good.seq ?_
  refine Good.seq ?_
  rcases ifC H with ⟨c76, H⟩ | ⟨c76, H⟩
  · refine Good.reg hN [B true, B true] (.cons (decide_eq_true c76) (.cons (rfl : true = true) .nil)) [] (by kernel_rfl) ?_
    refine Good.cond true (by kernel_rfl) ?_
    refine Good.seq ?_
    refine Good.reg hN [] .nil [] (by kernel_rfl) ?_
    obtain rfl := Option.some.inj H
    exact Good.ret (fin.doneR (by kernel_rfl))
  rcases ifC H with ⟨c77, H⟩ | ⟨c77, H⟩
  · refine Good.reg hN [B false, B true] (.cons (decide_eq_false c76) (.cons (decide_eq_true c77) .nil)) [] (by kernel_rfl) ?_
    refine Good.cond true (by kernel_rfl) ?_
    refine Good.seq ?_
    refine Good.reg hN [] .nil [] (by kernel_rfl) ?_
    obtain rfl := Option.some.inj H
    exact Good.ret (fin.doneR (by kernel_rfl))
  refine Good.reg hN [B false, B false] (.cons (decide_eq_false c76) (.cons (decide_eq_false c77) .nil)) [] (by kernel_rfl) ?_
  rcases ifC H with ⟨c78, H⟩ | ⟨c78, H⟩
  · refine Good.condT (decide_eq_true c78) (by kernel_rfl) ?_
    refine Good.seq ?_
    refine Good.reg hN [] .nil [] (by kernel_rfl) ?_
    obtain rfl := Option.some.inj H
    exact Good.ret (fin.doneR (by kernel_rfl))
  refine Good.condF (decide_eq_false c78) (by kernel_rfl) ?_
  refine Good.skip ?_
  refine Good.seq ?_
  obtain ⟨c79, H⟩ := ifS H
  obtain ⟨c80, H⟩ := ifS H
  obtain ⟨c81, H⟩ := ifS H
  refine Good.reg hN [] (.cons c79 (.cons c80 (.cons c81 .nil))) [] (by kernel_rfl) ?_
  obtain rfl := Option.some.inj H
  exact Good.ret (fin.doneR (by kernel_rfl))
def span_To.f (a0 : (Nat × Nat)) : Option (Int) := (span_sure.f a0).bind fun t82 => (if fiok t82.2 = true then (some (fint t82.2)) else (none))
theorem span_To.con {a0 : (Nat × Nat)} {r : (Int)} (H : span_To.f a0 = some r) : Con Tryd.prog 36 [Cx a0] (I r) := by
  refine con_of_good Tryd.func36 rfl (by kernel_rfl) (by kernel_rfl) fun C hN hL => ?_
  unfold span_To.f at H
  refine Good.seq ?_
  refine Good.reg hN [] .nil [] (by kernel_rfl) ?_
  refine Good.seq ?_
  obtain ⟨t82, h83, H⟩ := bindS H
  obtain ⟨c84, H⟩ := ifS H
  refine Good.reg hN [Cx t82] (.cons (span_sure.con h83).c (.cons c84 .nil)) [] (by kernel_rfl) ?_
  obtain rfl := Option.some.inj H
  exact Good.ret (fin.doneR (by kernel_rfl))
def tlv_reader_end.f (a0_0 : ByteArray) (l0_1 : List S40) (l0_2 : List (Nat × Nat)) (l0_3 : List Int) : Option (Int) := if (l0_3.length : Int) = 0 then (some (a0_0.size : Int)) else (if 0 ≤ (wrap64 ((l0_3.length : Int) - 1)) then (if (wrap64 ((l0_3.length : Int) - 1)) < (l0_3.length : Int) then (if 0 ≤ (rd l0_3 (wrap64 ((l0_3.length : Int) - 1))) then (if (rd l0_3 (wrap64 ((l0_3.length : Int) - 1))) < (l0_2.length : Int) then ((span_To.f (rdOf ((0, 0) : Nat × Nat) l0_2 (rd l0_3 (wrap64 ((l0_3.length : Int) - 1))))).bind fun t90 => (some t90)) else (none)) else (none)) else (none)) else (none))
theorem tlv_reader_end.con {a0_0 : ByteArray} {l0_1 : List S40} {l0_2 : List (Nat × Nat)} {l0_3 : List Int} {r : (Int)} (H : tlv_reader_end.f a0_0 l0_1 l0_2 l0_3 = some r) : ConX Tryd.prog 27 [.ptr 0 0] [[S a0_0, .row (some 40) 5 (List.map (v40 1) l0_1), .row (some 36) 1 (List.map Cx l0_2), .row (some 3) 1 (List.map I l0_3)]] (.v (I r)) [[S a0_0, .row (some 40) 5 (List.map (v40 1) l0_1), .row (some 36) 1 (List.map Cx l0_2), .row (some 3) 1 (List.map I l0_3)]] := by
  refine conX_of_good Tryd.func27 rfl (by kernel_rfl) (by kernel_rfl) fun C hN hL => ?_
  unfold tlv_reader_end.f at H
  refine Good.seq ?_
  refine Good.reg hN [] .nil [] (by kernel_rfl) ?_
  refine Good.seq ?_
  refine Good.seq ?_
  refine Good.reg hN [I (l0_3.length : Int)] (.cons (lenM I l0_3) .nil) [] (by kernel_rfl) ?_
  rcases ifC H with ⟨c85, H⟩ | ⟨c85, H⟩
  · refine Good.condT (beq_iff_eq.2 c85) (by kernel_rfl) ?_
    refine Good.seq ?_
    refine Good.reg hN [] .nil [] (by kernel_rfl) ?_
    obtain rfl := Option.some.inj H
    exact Good.ret (finX_fitR (.refl _) (FitLL.refl _) (by kernel_rfl) rfl)
  refine Good.condF (beq_eq_false_iff_ne.2 c85) (by kernel_rfl) ?_
  refine Good.skip ?_
  refine Good.seq ?_
  obtain ⟨c86, H⟩ := ifS H
  obtain ⟨c87, H⟩ := ifS H
  obtain ⟨c88, H⟩ := ifS H
  obtain ⟨c89, H⟩ := ifS H
  obtain ⟨t90, h91, H⟩ := bindS H
  refine Good.regDF hm hN (.q 0 [] (.q 1 [] (.q 2 [] (.q 3 [] (.q 4 [] (.q 5 [] (.q 6 [] (.q 7 [] (.q 8 [] (.q 9 [] (.q 10 [] (.q 11 [] (.q 12 [] (.q 13 [] (.q 14 [] (.q 15 [] (.q 16 [] (.q 17 [] (.e 18 (.q 19 [] .z)))))))))))))))))))) [(0, some (.pt [S a0_0, .row none 5 (List.map (v40 0) l0_1), .row none 1 (List.map Cx l0_2), .row none 1 (List.map I l0_3)]))] (by kernel_rfl) (.cons (ptS (shrC (rfl : (V.shr (S a0_0)) = S a0_0) (shrC (shrM (some 40) 5 (v40 1) (v40 0) l0_1 (v40.shr _)) (shrC (shrM (some 36) 1 Cx Cx l0_2 (fun _ => rfl)) (shrC (shrM (some 3) 1 I I l0_3 (fun _ => rfl)) (rfl : shrL [] = [])))))) .nil) [I (l0_3.length : Int), I (rd l0_3 (wrap64 ((l0_3.length : Int) - 1))), Cx (rdOf ((0, 0) : Nat × Nat) l0_2 (rd l0_3 (wrap64 ((l0_3.length : Int) - 1)))), I t90] [I (l0_3.length : Int), I (rd l0_3 (wrap64 ((l0_3.length : Int) - 1))), Cx (rdOf ((0, 0) : Nat × Nat) l0_2 (rd l0_3 (wrap64 ((l0_3.length : Int) - 1))))] (.cons (lenM I l0_3) (.cons c86 (.cons (ltM I c87) (.cons (atM I (0 : Int) c86 c87) (.cons c88 (.cons (ltM Cx c89) (.cons (atM Cx ((0, 0) : Nat × Nat) c88 c89) (.cons (span_To.con h91).c .nil)))))))) (.cons (lenM I l0_3) (.cons c86 (.cons (atM I (0 : Int) c86 c87) (.cons c88 (.cons (atM Cx ((0, 0) : Nat × Nat) c88 c89) .nil))))) [] [] (by kernel_rfl) (by kernel_rfl) ?_
  obtain rfl := Option.some.inj H
  exact Good.ret (finX_fitR (.refl _) (FitLL.refl _) (by kernel_rfl) rfl)
def strs_Unbool.f (a0 : ByteArray) : Option (Bool × Bool) := if a0.toList = ([255] : List UInt8) then (some ((a0.toList == ([255] : List UInt8)), true)) else (some ((a0.toList == ([255] : List UInt8)), (a0.toList == ([0] : List UInt8))))
theorem strs_Unbool.con {a0 : ByteArray} {r : (Bool × Bool)} (H : strs_Unbool.f a0 = some r) : Con Tryd.prog 42 [S a0] (.tup [B r.1, B r.2]) := by
  refine con_of_good Tryd.func42 rfl (by kernel_rfl) (by kernel_rfl) fun C hN hL => ?_
  unfold strs_Unbool.f at H
  refine Good.seq ?_
  refine Good.reg hN [] .nil [] (by kernel_rfl) ?_
  refine Good.seq ?_
  rcases ifC H with ⟨c92, H⟩ | ⟨c92, H⟩
  · refine Good.reg hN [B true] (.cons (strV (rfl : a0.toList = a0.toList) (litL ([255] : List UInt8))) (.cons (strV (rfl : a0.toList = a0.toList) (litL ([255] : List UInt8))) (.cons (beq_iff_eq.2 c92) .nil))) [(5, .bool (a0.toList == ([255] : List UInt8))), (7, .bool (a0.toList == ([255] : List UInt8)))] (by kernel_rfl) ?_
    obtain rfl := Option.some.inj H
    exact Good.ret (fin.doneR (by kernel_rfl))
  refine Good.reg hN [B false] (.cons (strV (rfl : a0.toList = a0.toList) (litL ([255] : List UInt8))) (.cons (strV (rfl : a0.toList = a0.toList) (litL ([255] : List UInt8))) (.cons (beq_eq_false_iff_ne.2 c92) (.cons (strV (rfl : a0.toList = a0.toList) (litL ([0] : List UInt8))) .nil)))) [(5, .bool (a0.toList == ([255] : List UInt8))), (7, .bool (a0.toList == ([255] : List UInt8))), (10, .bool (a0.toList == ([0] : List UInt8)))] (by kernel_rfl) ?_
  obtain rfl := Option.some.inj H
  exact Good.ret (fin.doneR (by kernel_rfl))
def whole_Right.f (a0 : ByteArray) : Option (Bool) := if a0.toList = ([] : List UInt8) then (some false) else (if (a0.size : Int) = 1 then (some true) else (if 0 < (a0.size : Int) then (if 1 < (a0.size : Int) then (if (Go.bits .or .i64 (wrap64 ((wrap64 (bt a0 0)) * 2)) (wrap64 ((bt a0 1) / 128))) = 0 then (some false) else (some ((Go.bits .or .i64 (wrap64 ((wrap64 (bt a0 0)) * 2)) (wrap64 ((bt a0 1) / 128))) != 511))) else (none)) else (none)))
theorem whole_Right.con {a0 : ByteArray} {r : (Bool)} (H : whole_Right.f a0 = some r) : Con Tryd.prog 43 [S a0] (B r) := by
  refine con_of_good Tryd.func43 rfl (by kernel_rfl) (by kernel_rfl) fun C hN hL => ?_
  unfold whole_Right.f at H
  refine Good.seq ?_
  refine Good.reg hN [] .nil [] (by kernel_rfl) ?_
  refine Good.seq ?_
  refine Good.block ?_
  refine Good.seq ?_
  refine Good.reg hN [] (.cons (strV (rfl : a0.toList = a0.toList) (litL ([] : List UInt8))) .nil) [(6, .bool (a0.toList == ([] : List UInt8)))] (by kernel_rfl) ?_
  rcases ifC H with ⟨c93, H⟩ | ⟨c93, H⟩
  · refine Good.condT (beq_iff_eq.2 c93) (by kernel_rfl) ?_
    refine Good.seq ?_
    refine Good.reg hN [] .nil [] (by kernel_rfl) ?_
    obtain rfl := Option.some.inj H
    exact Good.ret (fin.doneR (by kernel_rfl))
  refine Good.condF (beq_eq_false_iff_ne.2 c93) (by kernel_rfl) ?_
  refine Good.seq ?_
  refine Good.reg hN [] .nil [] (by kernel_rfl) ?_
  rcases ifC H with ⟨c94, H⟩ | ⟨c94, H⟩
  · refine Good.condT (beq_iff_eq.2 c94) (by kernel_rfl) ?_
    refine Good.seq ?_
    refine Good.reg hN [] .nil [] (by kernel_rfl) ?_
    obtain rfl := Option.some.inj H
    exact Good.ret (fin.doneR (by kernel_rfl))
  refine Good.condF (beq_eq_false_iff_ne.2 c94) (by kernel_rfl) ?_
  refine Good.skip ?_
  refine Good.seq ?_
  obtain ⟨c95, H⟩ := ifS H
  obtain ⟨c96, H⟩ := ifS H
  refine Good.regDF hm hN (.q 0 [] (.q 1 [] (.q 2 [] (.q 3 [] (.q 4 [] (.q 5 [] (.q 6 [] (.q 7 [] (.q 8 [] (.q 9 [] .z)))))))))) [(0, none)] (by kernel_rfl) .nil [] [] (.cons (show (0 : Int) ≤ 0 by decide) (.cons c95 (.cons (show (0 : Int) ≤ 1 by decide) (.cons (show (0 : Int) ≤ 1 by decide) (.cons c96 (.cons (show (0 : Int) ≤ 7 by decide) .nil)))))) (.cons (show (0 : Int) ≤ 0 by decide) (.cons c95 (.cons (show (0 : Int) ≤ 1 by decide) (.cons (show (0 : Int) ≤ 1 by decide) (.cons c96 (.cons (show (0 : Int) ≤ 7 by decide) .nil)))))) [] [] (by kernel_rfl) (by kernel_rfl) ?_
  refine Good.seq ?_
  rcases ifC H with ⟨c97, H⟩ | ⟨c97, H⟩
  · refine Good.reg hN [B false] (.cons (bneF c97) .nil) [] (by kernel_rfl) ?_
    obtain rfl := Option.some.inj H
    exact Good.ret (fin.doneR (by kernel_rfl))
  refine Good.reg hN [B true] (.cons (bne_iff_ne.2 c97) .nil) [] (by kernel_rfl) ?_
  obtain rfl := Option.some.inj H
  exact Good.ret (fin.doneR (by kernel_rfl))
def strs_Unbits.j0 : Nat → ByteArray → Bool → Option (ByteArray × Int × Bool)
 | 0, _, _ => none
 | k + 1, x0, x21 => if x21 = true then (some ((⟨#[]⟩ : ByteArray), 0, false)) else (if 0 ≤ (wrap64 ((x0.size : Int) - 1)) then (if (wrap64 ((x0.size : Int) - 1)) < (x0.size : Int) then (if 0 < (x0.size : Int) then (if 0 ≤ (bt x0 0) then (if (Go.bits .and .u8 (bt x0 (wrap64 ((x0.size : Int) - 1))) (((shl .u8 1 (bt x0 0)) - 1) % 256)) = 0 then (if 1 ≤ (x0.size : Int) then (some (x0.extract 1 x0.size, wrap64 (bt x0 0), true)) else (none)) else (if (x0.size : Int) > 1 then (some ((⟨#[]⟩ : ByteArray), 0, false)) else (if 1 ≤ (x0.size : Int) then (some (x0.extract 1 x0.size, wrap64 (bt x0 0), true)) else (none)))) else (none)) else (none)) else (none)) else (none))
def strs_Unbits.f (k : Nat) (a0 : ByteArray) : Option (ByteArray × Int × Bool) := if a0.toList = ([] : List UInt8) then (strs_Unbits.j0 k a0 true) else (if 0 < (a0.size : Int) then (if (bt a0 0) > 7 then (strs_Unbits.j0 k a0 true) else (if (bt a0 0) > 0 then (strs_Unbits.j0 k a0 ((a0.size : Int) == 1)) else (strs_Unbits.j0 k a0 false))) else (none))
theorem strs_Unbits.con {k : Nat} {a0 : ByteArray} {r : (ByteArray × Int × Bool)} (H : strs_Unbits.f k a0 = some r) : Con Tryd.prog 44 [S a0] (.tup [S r.1, I r.2.1, B r.2.2]) := by
  refine con_of_good Tryd.func44 rfl (by kernel_rfl) (by kernel_rfl) fun C hN hL => ?_
  unfold strs_Unbits.f at H
  refine Good.seq ?_
  refine Good.reg hN [] .nil [] (by kernel_rfl) ?_
  refine Good.seq ?_
  refine Good.seq ?_
  refine Good.cut (fun st => ∃ (x0 : ByteArray) (x21 : Bool), Wk C st ⟨[(0, .d (.v (S x0))), (21, .d (.v (B x21)))], []⟩ ∧ strs_Unbits.j0 k x0 x21 = some r) ?_ ?_
  · rcases ifC H with ⟨c98, H⟩ | ⟨c98, H⟩
    · refine Good.reg hN [B true, B true] (.cons (strV (rfl : a0.toList = a0.toList) (litL ([] : List UInt8))) (.cons (beq_iff_eq.2 c98) (.cons (rfl : true = true) .nil))) [(6, .bool (a0.toList == ([] : List UInt8)))] (by kernel_rfl) ?_
      exact ⟨a0, true, Wk.of [(0, 0), (21, 0)] (by kernel_rfl) (by kernel_rfl), H⟩
    obtain ⟨c99, H⟩ := ifS H
    rcases ifC H with ⟨c100, H⟩ | ⟨c100, H⟩
    · refine Good.reg hN [B false, B true] (.cons (strV (rfl : a0.toList = a0.toList) (litL ([] : List UInt8))) (.cons (beq_eq_false_iff_ne.2 c98) (.cons (show (0 : Int) ≤ 0 by decide) (.cons c99 (.cons (decide_eq_true c100) .nil))))) [(6, .bool (a0.toList == ([] : List UInt8)))] (by kernel_rfl) ?_
      exact ⟨a0, true, Wk.of [(0, 0), (21, 0)] (by kernel_rfl) (by kernel_rfl), H⟩
    rcases ifC H with ⟨c101, H⟩ | ⟨c101, H⟩
    · refine Good.reg hN [B false, B false, B true] (.cons (strV (rfl : a0.toList = a0.toList) (litL ([] : List UInt8))) (.cons (beq_eq_false_iff_ne.2 c98) (.cons (show (0 : Int) ≤ 0 by decide) (.cons c99 (.cons (decide_eq_false c100) (.cons (show (0 : Int) ≤ 0 by decide) (.cons c99 (.cons (decide_eq_true c101) .nil)))))))) [(6, .bool (a0.toList == ([] : List UInt8)))] (by kernel_rfl) ?_
      exact ⟨a0, ((a0.size : Int) == 1), Wk.of [(0, 0), (21, 0)] (by kernel_rfl) (by kernel_rfl), H⟩
    refine Good.reg hN [B false, B false, B false] (.cons (strV (rfl : a0.toList = a0.toList) (litL ([] : List UInt8))) (.cons (beq_eq_false_iff_ne.2 c98) (.cons (show (0 : Int) ≤ 0 by decide) (.cons c99 (.cons (decide_eq_false c100) (.cons (show (0 : Int) ≤ 0 by decide) (.cons c99 (.cons (decide_eq_false c101) .nil)))))))) [(6, .bool (a0.toList == ([] : List UInt8)))] (by kernel_rfl) ?_
    exact ⟨a0, false, Wk.of [(0, 0), (21, 0)] (by kernel_rfl) (by kernel_rfl), H⟩
  clear H
  rintro st ⟨x0, x21, W, H⟩
  rcases k with _ | k
  · cases H
  refine W.good ?_
  rw [strs_Unbits.j0] at H
  rcases ifC H with ⟨c102, H⟩ | ⟨c102, H⟩
  · refine Good.condT c102 (by kernel_rfl) ?_
    refine Good.seq ?_
    refine Good.reg hN [] .nil [] (by kernel_rfl) ?_
    obtain rfl := Option.some.inj H
    exact Good.ret (fin.doneR (by kernel_rfl))
  refine Good.condF (Bool.eq_false_iff.2 c102) (by kernel_rfl) ?_
  refine Good.skip ?_
  refine Good.seq ?_
  refine Good.seq ?_
  obtain ⟨c103, H⟩ := ifS H
  obtain ⟨c104, H⟩ := ifS H
  obtain ⟨c105, H⟩ := ifS H
  obtain ⟨c106, H⟩ := ifS H
  rcases ifC H with ⟨c107, H⟩ | ⟨c107, H⟩
  · refine Good.regDF hm hN (.q 0 [] (.q 1 [] (.q 2 [] (.q 3 [] (.q 4 [] (.q 5 [] (.q 6 [] (.q 7 [] (.q 8 [] (.q 9 [] (.q 10 [] (.q 11 [] (.k 33 (.i 12 (.i 13 (.i 14 (.q 15 [] .z))))))))))))))))) [(0, none)] (by kernel_rfl) .nil [B false] [] (.cons c103 (.cons c104 (.cons (show (0 : Int) ≤ 0 by decide) (.cons c105 (.cons c106 (.cons (bneF c107) .nil)))))) (.cons c103 (.cons c104 (.cons (show (0 : Int) ≤ 0 by decide) (.cons c105 (.cons c106 (.cons (bneF c107) .nil)))))) [] [] (by kernel_rfl) (by kernel_rfl) ?_
    refine Good.cond false (by kernel_rfl) ?_
    refine Good.skip ?_
    refine Good.seq ?_
    obtain ⟨c108, H⟩ := ifS H
    refine Good.regDF hm hN (.q 0 [] (.q 1 [] (.q 2 [] (.q 3 [] (.q 4 [] (.q 5 [] (.q 6 [] (.q 7 [] .z)))))))) [(0, none)] (by kernel_rfl) .nil [] [] (.cons (show (0 : Int) ≤ 1 by decide) (.cons c108 (.cons (show (0 : Int) ≤ 0 by decide) (.cons c105 .nil)))) (.cons (show (0 : Int) ≤ 1 by decide) (.cons c108 (.cons (show (0 : Int) ≤ 0 by decide) (.cons c105 .nil)))) [] [] (by kernel_rfl) (by kernel_rfl) ?_
    obtain rfl := Option.some.inj H
    exact Good.ret (fin.doneR (by kernel_rfl))
  refine Good.regDF hm hN (.q 0 [] (.q 1 [] (.q 2 [] (.q 3 [] (.q 4 [] (.q 5 [] (.q 6 [] (.q 7 [] (.q 8 [] (.q 9 [] (.q 10 [] (.q 11 [] (.k 33 (.q 12 [] (.q 13 [] (.q 14 [] (.q 15 [] .z))))))))))))))))) [(0, none)] (by kernel_rfl) .nil [B true] [] (.cons c103 (.cons c104 (.cons (show (0 : Int) ≤ 0 by decide) (.cons c105 (.cons c106 (.cons (bne_iff_ne.2 c107) .nil)))))) (.cons c103 (.cons c104 (.cons (show (0 : Int) ≤ 0 by decide) (.cons c105 (.cons c106 (.cons (bne_iff_ne.2 c107) .nil)))))) [] [] (by kernel_rfl) (by kernel_rfl) ?_
  rcases ifC H with ⟨c109, H⟩ | ⟨c109, H⟩
  · refine Good.condT (decide_eq_true c109) (by kernel_rfl) ?_
    refine Good.seq ?_
    refine Good.reg hN [] .nil [] (by kernel_rfl) ?_
    obtain rfl := Option.some.inj H
    exact Good.ret (fin.doneR (by kernel_rfl))
  refine Good.condF (decide_eq_false c109) (by kernel_rfl) ?_
  refine Good.skip ?_
  refine Good.seq ?_
  obtain ⟨c110, H⟩ := ifS H
  refine Good.regDF hm hN (.q 0 [] (.q 1 [] (.q 2 [] (.q 3 [] (.q 4 [] (.q 5 [] (.q 6 [] (.q 7 [] .z)))))))) [(0, none)] (by kernel_rfl) .nil [] [] (.cons (show (0 : Int) ≤ 1 by decide) (.cons c110 (.cons (show (0 : Int) ≤ 0 by decide) (.cons c105 .nil)))) (.cons (show (0 : Int) ≤ 1 by decide) (.cons c110 (.cons (show (0 : Int) ≤ 0 by decide) (.cons c105 .nil)))) [] [] (by kernel_rfl) (by kernel_rfl) ?_
  obtain rfl := Option.some.inj H
  exact Good.ret (fin.doneR (by kernel_rfl))
mutual
def oid_numbers.l0 : Nat → ByteArray → List Int → Int → Bool → Int → Int → Option (List Int × Bool)
 | 0, _, _, _, _, _, _ => none
 | k + 1, x0, x4, x5, x6, x9, x10 => if x10 < x9 then (if x6 = true then (oid_numbers.j1 k x0 x4 x5 x10 x9 x10 (decide (x5 > 2147483647))) else (if 0 ≤ x10 then (if x10 < (x0.size : Int) then (if (bt x0 x10) = 128 then (oid_numbers.j1 k x0 x4 x5 x10 x9 x10 true) else (oid_numbers.j1 k x0 x4 x5 x10 x9 x10 (decide (x5 > 2147483647)))) else (none)) else (none))) else (if x6 = true then (some (x4, false)) else (if (x4.length : Int) > 0 then (some (x4, decide ((x4.length : Int) < 20))) else (some (x4, false))))
def oid_numbers.j1 : Nat → ByteArray → List Int → Int → Int → Int → Int → Bool → Option (List Int × Bool)
 | 0, _, _, _, _, _, _, _ => none
 | k + 1, x0, x4, x5, x7, x9, x10, x24 => if x24 = true then (some (([] : List Int), false)) else (if 0 ≤ x7 then (if x7 < (x0.size : Int) then (if (bt x0 x7) ≥ 128 then (oid_numbers.l0 k x0 x4 (Go.bits .or .i64 (wrap64 (x5 * 128)) (wrap64 (Go.bits .and .u8 (bt x0 x7) 127))) (decide ((bt x0 x7) ≥ 128)) x9 (wrap64 (x10 + 1))) else (if x4.length < 17592186044416 then (oid_numbers.l0 k x0 (x4 ++ [Go.bits .or .i64 (wrap64 (x5 * 128)) (wrap64 (Go.bits .and .u8 (bt x0 x7) 127))]) 0 (decide ((bt x0 x7) ≥ 128)) x9 (wrap64 (x10 + 1))) else (none))) else (none)) else (none))
end
def oid_numbers.f (k : Nat) (a0 : ByteArray) : Option (List Int × Bool) := oid_numbers.l0 k a0 ([] : List Int) 0 false (a0.size : Int) 0
theorem oid_numbers.con {k : Nat} {a0 : ByteArray} {r : (List Int × Bool)} (H : oid_numbers.f k a0 = some r) : Con Tryd.prog 54 [S a0] (.tup [.row (some 3) 1 (List.map I r.1), B r.2]) := by
  refine con_of_good Tryd.func54 rfl (by kernel_rfl) (by kernel_rfl) fun C hN hL => ?_
  unfold oid_numbers.f at H
  refine Good.seq ?_
  refine Good.reg hN [] .nil [] (by kernel_rfl) ?_
  refine Good.seq ?_
  refine Good.reg hN [] .nil [] (by kernel_rfl) ?_
  refine Good.seq ?_
  refine Good.reg hN [] .nil [] (by kernel_rfl) ?_
  refine Good.seq ?_
  refine Good.seq ?_
  refine Good.reg hN [] .nil [] (by kernel_rfl) ?_
  refine Good.block ?_
  refine Good.loopN (fun k' st => ∃ (x0 : ByteArray) (x4 : List Int) (x5 : Int) (x6 : Bool) (x9 : Int) (x10 : Int), k' ≤ k ∧ Wk C st ⟨[(0, .d (.v (S x0))), (4, .d (.v (.row (some 3) 1 (List.map I x4)))), (5, .d (.v (I x5))), (6, .d (.v (B x6))), (9, .d (.v (I x9))), (10, .d (.v (I x10)))], []⟩ ∧ oid_numbers.l0 k' x0 x4 x5 x6 x9 x10 = some r) k ⟨a0, ([] : List Int), 0, false, (a0.size : Int), 0, Nat.le_refl _, Wk.of [(0, 0), (4, 1), (5, 0), (6, 0), (9, 0), (10, 0)] (by kernel_rfl) (by kernel_rfl), H⟩ fun k => ⟨fun st h => (by obtain ⟨_, _, _, _, _, _, _, _, H⟩ := h; cases H), ?_⟩
  clear H
  rintro st ⟨x0, x4, x5, x6, x9, x10, hk, W, H⟩
  refine W.good ?_
  rw [oid_numbers.l0] at H
  refine Good.seq ?_
  refine Good.reg hN [] .nil [] (by kernel_rfl) ?_
  refine Good.seq ?_
  rcases (ifC H).symm with ⟨c123, H⟩ | ⟨c123, H⟩
  · refine Good.condF (decide_eq_false c123) (by kernel_rfl) ?_
    refine Good.exit ?_
    refine Good.seq ?_
    rcases ifC H with ⟨c124, H⟩ | ⟨c124, H⟩
    · refine Good.reg hN [B false, B false] (.cons (notF c124) (.cons (rfl : false = false) .nil)) [] (by kernel_rfl) ?_
      obtain rfl := Option.some.inj H
      exact Good.ret (fin.doneR (by kernel_rfl))
    rcases ifC H with ⟨c125, H⟩ | ⟨c125, H⟩
    · refine Good.reg hN [B true, I (x4.length : Int), B true, I (x4.length : Int)] (.cons (notT (Bool.eq_false_iff.2 c124)) (.cons (lenM I x4) (.cons (decide_eq_true c125) (.cons (lenM I x4) .nil)))) [] (by kernel_rfl) ?_
      obtain rfl := Option.some.inj H
      exact Good.ret (fin.doneR (by kernel_rfl))
    refine Good.reg hN [B true, I (x4.length : Int), B false] (.cons (notT (Bool.eq_false_iff.2 c124)) (.cons (lenM I x4) (.cons (decide_eq_false c125) .nil))) [] (by kernel_rfl) ?_
    obtain rfl := Option.some.inj H
    exact Good.ret (fin.doneR (by kernel_rfl))
  refine Good.condT (decide_eq_true c123) (by kernel_rfl) ?_
  refine Good.skip ?_
  refine Good.seq ?_
  refine Good.block ?_
  refine Good.seq ?_
  refine Good.reg hN [] .nil [] (by kernel_rfl) ?_
  refine Good.seq ?_
  refine Good.seq ?_
  refine Good.cut (fun st => ∃ (x0 : ByteArray) (x4 : List Int) (x5 : Int) (x7 : Int) (x9 : Int) (x10 : Int) (x24 : Bool), Wk C st ⟨[(0, .d (.v (S x0))), (4, .d (.v (.row (some 3) 1 (List.map I x4)))), (5, .d (.v (I x5))), (7, .d (.v (I x7))), (9, .d (.v (I x9))), (10, .d (.v (I x10))), (24, .d (.v (B x24)))], []⟩ ∧ oid_numbers.j1 k x0 x4 x5 x7 x9 x10 x24 = some r) ?_ ?_
  · rcases ifC H with ⟨c126, H⟩ | ⟨c126, H⟩
    · refine Good.reg hN [B false, B false] (.cons (notF c126) (.cons (rfl : false = false) .nil)) [] (by kernel_rfl) ?_
      exact ⟨x0, x4, x5, x10, x9, x10, decide (x5 > 2147483647), Wk.of [(0, 0), (4, 0), (5, 0), (7, 0), (9, 0), (10, 0), (24, 0)] (by kernel_rfl) (by kernel_rfl), H⟩
    obtain ⟨c127, H⟩ := ifS H
    obtain ⟨c128, H⟩ := ifS H
    rcases ifC H with ⟨c129, H⟩ | ⟨c129, H⟩
    · refine Good.reg hN [B true, B true] (.cons (notT (Bool.eq_false_iff.2 c126)) (.cons c127 (.cons c128 (.cons (beq_iff_eq.2 c129) .nil)))) [] (by kernel_rfl) ?_
      exact ⟨x0, x4, x5, x10, x9, x10, true, Wk.of [(0, 0), (4, 0), (5, 0), (7, 0), (9, 0), (10, 0), (24, 0)] (by kernel_rfl) (by kernel_rfl), H⟩
    refine Good.reg hN [B true, B false] (.cons (notT (Bool.eq_false_iff.2 c126)) (.cons c127 (.cons c128 (.cons (beq_eq_false_iff_ne.2 c129) .nil)))) [] (by kernel_rfl) ?_
    exact ⟨x0, x4, x5, x10, x9, x10, decide (x5 > 2147483647), Wk.of [(0, 0), (4, 0), (5, 0), (7, 0), (9, 0), (10, 0), (24, 0)] (by kernel_rfl) (by kernel_rfl), H⟩
  clear H
  rintro st ⟨x0, x4, x5, x7, x9, x10, x24, W, H⟩
  rcases k with _ | k
  · cases H
  refine W.good ?_
  rw [oid_numbers.j1] at H
  rcases ifC H with ⟨c130, H⟩ | ⟨c130, H⟩
  · refine Good.condT c130 (by kernel_rfl) ?_
    refine Good.seq ?_
    refine Good.reg hN [] .nil [] (by kernel_rfl) ?_
    obtain rfl := Option.some.inj H
    exact Good.ret (fin_fit (u := .tup [.nil 3 1, B false]) (.tup (.cons (.nilO 3 1) (.cons (.refl _) .nil))) (by kernel_rfl))
  refine Good.condF (Bool.eq_false_iff.2 c130) (by kernel_rfl) ?_
  refine Good.skip ?_
  refine Good.seq ?_
  obtain ⟨c131, H⟩ := ifS H
  obtain ⟨c132, H⟩ := ifS H
  refine Good.reg hN [] (.cons (show (0 : Int) ≤ 7 by decide) (.cons c131 (.cons c132 .nil))) [] (by kernel_rfl) ?_
  refine Good.seq ?_
  refine Good.reg hN [] (.cons c131 (.cons c132 .nil)) [] (by kernel_rfl) ?_
  refine Good.seq ?_
  refine Good.reg hN [] .nil [] (by kernel_rfl) ?_
  rcases ifC H with ⟨c133, H⟩ | ⟨c133, H⟩
  · refine Good.condF (notF (decide_eq_true c133)) (by kernel_rfl) ?_
    refine Good.skip ?_
    refine Good.reg hN [] .nil [] (by kernel_rfl) ?_
    exact ⟨k, by omega, x0, x4, Go.bits .or .i64 (wrap64 (x5 * 128)) (wrap64 (Go.bits .and .u8 (bt x0 x7) 127)), decide ((bt x0 x7) ≥ 128), x9, wrap64 (x10 + 1), by omega, Wk.of [(0, 0), (4, 0), (5, 0), (6, 0), (9, 0), (10, 0)] (by kernel_rfl) (by kernel_rfl), H⟩
  refine Good.condT (notT (decide_eq_false c133)) (by kernel_rfl) ?_
  refine Good.seq ?_
  obtain ⟨c134, H⟩ := ifS H
  refine Good.reg hN [.kb true, .row (some 3) 1 (List.map I (x4 ++ [Go.bits .or .i64 (wrap64 (x5 * 128)) (wrap64 (Go.bits .and .u8 (bt x0 x7) 127))]))] (.cons (fitM I x4 [Go.bits .or .i64 (wrap64 (x5 * 128)) (wrap64 (Go.bits .and .u8 (bt x0 x7) 127))] (.refl _)) (.cons (limM1 I c134) .nil)) [] (by kernel_rfl) ?_
  refine Good.reg hN [] .nil [] (by kernel_rfl) ?_
  refine Good.reg hN [] .nil [] (by kernel_rfl) ?_
  exact ⟨k, by omega, x0, (x4 ++ [Go.bits .or .i64 (wrap64 (x5 * 128)) (wrap64 (Go.bits .and .u8 (bt x0 x7) 127))]), 0, decide ((bt x0 x7) ≥ 128), x9, wrap64 (x10 + 1), by omega, Wk.of [(0, 0), (4, 0), (5, 0), (6, 0), (9, 0), (10, 0)] (by kernel_rfl) (by kernel_rfl), H⟩
def oid_most.f (l0 : List Int) (a1 : Int) : Option (Int) := if a1 = 0 then (some 2) else (if a1 > 1 then (some 2147483647) else (if 0 < (l0.length : Int) then (if (rd l0 0) < 2 then (some 39) else (some 2147483567)) else (none)))
theorem oid_most.con {l0 : List Int} {a1 : Int} {r : (Int)} (H : oid_most.f l0 a1 = some r) : Con Tryd.prog 63 [.row none 1 (List.map I l0), I a1] (I r) := by
  refine con_of_good Tryd.func63 rfl (by kernel_rfl) (by kernel_rfl) fun C hN hL => ?_
  unfold oid_most.f at H
  refine Good.seq ?_
  refine Good.reg hN [] .nil [] (by kernel_rfl) ?_
  refine Good.seq ?_
  refine Good.block ?_
  refine Good.seq ?_
  refine Good.reg hN [] .nil [] (by kernel_rfl) ?_
  rcases ifC H with ⟨c136, H⟩ | ⟨c136, H⟩
  · refine Good.condT (beq_iff_eq.2 c136) (by kernel_rfl) ?_
    refine Good.seq ?_
    refine Good.reg hN [] .nil [] (by kernel_rfl) ?_
    obtain rfl := Option.some.inj H
    exact Good.ret (fin.doneR (by kernel_rfl))
  refine Good.condF (beq_eq_false_iff_ne.2 c136) (by kernel_rfl) ?_
  refine Good.seq ?_
  refine Good.reg hN [] .nil [] (by kernel_rfl) ?_
  rcases ifC H with ⟨c137, H⟩ | ⟨c137, H⟩
  · refine Good.condT (decide_eq_true c137) (by kernel_rfl) ?_
    refine Good.seq ?_
    refine Good.reg hN [] .nil [] (by kernel_rfl) ?_
    obtain rfl := Option.some.inj H
    exact Good.ret (fin.doneR (by kernel_rfl))
  refine Good.condF (decide_eq_false c137) (by kernel_rfl) ?_
  refine Good.seq ?_
  obtain ⟨c138, H⟩ := ifS H
  refine Good.reg hN [I (rd l0 0)] (.cons (show (0 : Int) ≤ 0 by decide) (.cons (atM I (0 : Int) (show (0 : Int) ≤ 0 by decide) c138) .nil)) [] (by kernel_rfl) ?_
  rcases ifC H with ⟨c139, H⟩ | ⟨c139, H⟩
  · refine Good.condT (decide_eq_true c139) (by kernel_rfl) ?_
    refine Good.seq ?_
    refine Good.reg hN [] .nil [] (by kernel_rfl) ?_
    obtain rfl := Option.some.inj H
    exact Good.ret (fin.doneR (by kernel_rfl))
  refine Good.condF (decide_eq_false c139) (by kernel_rfl) ?_
  refine Good.skip ?_
  refine Good.seq ?_
  refine Good.reg hN [] .nil [] (by kernel_rfl) ?_
  obtain rfl := Option.some.inj H
  exact Good.ret (fin.doneR (by kernel_rfl))
def oid_Right.l0 : Nat → List Int → List Int → Int → Int → Option (Bool)
 | 0, _, _, _, _ => none
 | k + 1, x0, x13, x14, x15 => if x15 < x14 then (if 0 ≤ x15 then (if x15 < (x13.length : Int) then (if (rd x13 x15) < 0 then (some false) else ((oid_most.f x0 x15).bind fun t146 => (if (rd x13 x15) > t146 then (some false) else (oid_Right.l0 k x0 x13 x14 (wrap64 (x15 + 1)))))) else (none)) else (none)) else (some true)
def oid_Right.j0 : Nat → List Int → Bool → Option (Bool)
 | 0, _, _ => none
 | k + 1, x0, x12 => if x12 = true then (some false) else (oid_Right.l0 k x0 x0 (x0.length : Int) 0)
def oid_Right.f (k : Nat) (l0 : List Int) : Option (Bool) := if (l0.length : Int) < 2 then (oid_Right.j0 k l0 true) else (oid_Right.j0 k l0 (decide ((l0.length : Int) > 20)))
theorem oid_Right.con {k : Nat} {l0 : List Int} {r : (Bool)} (H : oid_Right.f k l0 = some r) : Con Tryd.prog 55 [.row none 1 (List.map I l0)] (B r) := by
  refine con_of_good Tryd.func55 rfl (by kernel_rfl) (by kernel_rfl) fun C hN hL => ?_
  unfold oid_Right.f at H
  refine Good.seq ?_
  refine Good.reg hN [] .nil [] (by kernel_rfl) ?_
  refine Good.seq ?_
  refine Good.seq ?_
  refine Good.cut (fun st => ∃ (x0 : List Int) (x12 : Bool), Wk C st ⟨[(0, .d (.v (.row none 1 (List.map I x0)))), (12, .d (.v (B x12)))], []⟩ ∧ oid_Right.j0 k x0 x12 = some r) ?_ ?_
  · rcases ifC H with ⟨c140, H⟩ | ⟨c140, H⟩
    · refine Good.reg hN [I (l0.length : Int), B true] (.cons (lenM I l0) (.cons (decide_eq_true c140) .nil)) [] (by kernel_rfl) ?_
      exact ⟨l0, true, Wk.of [(0, 0), (12, 0)] (by kernel_rfl) (by kernel_rfl), H⟩
    refine Good.reg hN [I (l0.length : Int), B false, I (l0.length : Int)] (.cons (lenM I l0) (.cons (decide_eq_false c140) (.cons (lenM I l0) .nil))) [] (by kernel_rfl) ?_
    exact ⟨l0, decide ((l0.length : Int) > 20), Wk.of [(0, 0), (12, 0)] (by kernel_rfl) (by kernel_rfl), H⟩
  clear H
  rintro st ⟨x0, x12, W, H⟩
  rcases k with _ | k
  · cases H
  refine W.good ?_
  rw [oid_Right.j0] at H
  rcases ifC H with ⟨c141, H⟩ | ⟨c141, H⟩
  · refine Good.condT c141 (by kernel_rfl) ?_
    refine Good.seq ?_
    refine Good.reg hN [] .nil [] (by kernel_rfl) ?_
    obtain rfl := Option.some.inj H
    exact Good.ret (fin.doneR (by kernel_rfl))
  refine Good.condF (Bool.eq_false_iff.2 c141) (by kernel_rfl) ?_
  refine Good.skip ?_
  refine Good.seq ?_
  refine Good.seq ?_
  refine Good.reg hN [I (x0.length : Int)] (.cons (lenM I x0) .nil) [] (by kernel_rfl) ?_
  refine Good.block ?_
  refine Good.loopN (fun k' st => ∃ (x0 : List Int) (x13 : List Int) (x14 : Int) (x15 : Int), k' ≤ k ∧ Wk C st ⟨[(0, .d (.v (.row none 1 (List.map I x0)))), (13, .d (.v (.row none 1 (List.map I x13)))), (14, .d (.v (I x14))), (15, .d (.v (I x15)))], []⟩ ∧ oid_Right.l0 k' x0 x13 x14 x15 = some r) k ⟨x0, x0, (x0.length : Int), 0, Nat.le_refl _, Wk.of [(0, 0), (13, 0), (14, 0), (15, 0)] (by kernel_rfl) (by kernel_rfl), H⟩ fun k => ⟨fun st h => (by obtain ⟨_, _, _, _, _, _, H⟩ := h; cases H), ?_⟩
  clear H
  rintro st ⟨x0, x13, x14, x15, hk, W, H⟩
  refine W.good ?_
  rw [oid_Right.l0] at H
  refine Good.seq ?_
  refine Good.reg hN [] .nil [] (by kernel_rfl) ?_
  refine Good.seq ?_
  rcases (ifC H).symm with ⟨c142, H⟩ | ⟨c142, H⟩
  · refine Good.condF (decide_eq_false c142) (by kernel_rfl) ?_
    refine Good.exit ?_
    refine Good.seq ?_
    refine Good.reg hN [] .nil [] (by kernel_rfl) ?_
    obtain rfl := Option.some.inj H
    exact Good.ret (fin.doneR (by kernel_rfl))
  refine Good.condT (decide_eq_true c142) (by kernel_rfl) ?_
  refine Good.skip ?_
  refine Good.seq ?_
  refine Good.block ?_
  refine Good.seq ?_
  obtain ⟨c143, H⟩ := ifS H
  obtain ⟨c144, H⟩ := ifS H
  refine Good.reg hN [I (rd x13 x15)] (.cons c143 (.cons (atM I (0 : Int) c143 c144) .nil)) [] (by kernel_rfl) ?_
  refine Good.seq ?_
  rcases ifC H with ⟨c145, H⟩ | ⟨c145, H⟩
  · refine Good.reg hN [B true] (.cons (decide_eq_true c145) .nil) [] (by kernel_rfl) ?_
    refine Good.cond true (by kernel_rfl) ?_
    refine Good.seq ?_
    refine Good.reg hN [] .nil [] (by kernel_rfl) ?_
    obtain rfl := Option.some.inj H
    exact Good.ret (fin.doneR (by kernel_rfl))
  obtain ⟨t146, h147, H⟩ := bindS H
  refine Good.reg hN [B false, I t146] (.cons (decide_eq_false c145) (.cons (oid_most.con h147).c .nil)) [] (by kernel_rfl) ?_
  rcases (ifC H).symm with ⟨c148, H⟩ | ⟨c148, H⟩
  · refine Good.condF (decide_eq_false c148) (by kernel_rfl) ?_
    refine Good.skip ?_
    refine Good.reg hN [] .nil [] (by kernel_rfl) ?_
    exact ⟨k, by omega, x0, x13, x14, wrap64 (x15 + 1), by omega, Wk.of [(0, 0), (13, 0), (14, 0), (15, 0)] (by kernel_rfl) (by kernel_rfl), H⟩
  refine Good.condT (decide_eq_true c148) (by kernel_rfl) ?_
  refine Good.seq ?_
  refine Good.reg hN [] .nil [] (by kernel_rfl) ?_
  obtain rfl := Option.some.inj H
  exact Good.ret (fin.doneR (by kernel_rfl))
def oid_Decode.f (k : Nat) (a0 : ByteArray) : Option (List Int × Bool) := (oid_numbers.f k a0).bind fun t149 => (if t149.2 = true then (if 0 < (t149.1.length : Int) then (if 1 ≤ (t149.1.length : Int) then (if ([mn 2 (wrap64 (Int.tdiv (rd t149.1 0) 40)), wrap64 ((rd t149.1 0) - (wrap64 (40 * (mn 2 (wrap64 (Int.tdiv (rd t149.1 0) 40))))))] : List Int).length + (t149.1.drop 1).length < 17592186044416 then ((some (([mn 2 (wrap64 (Int.tdiv (rd t149.1 0) 40)), wrap64 ((rd t149.1 0) - (wrap64 (40 * (mn 2 (wrap64 (Int.tdiv (rd t149.1 0) 40))))))] : List Int) ++ (t149.1.drop 1) : List Int)).bind fun y155 => ((oid_Right.f k y155).bind fun t156 => (if t156 = true then (some (y155, true)) else (some (([] : List Int), false))))) else (none)) else (none)) else (none)) else (some (([] : List Int), false)))
theorem oid_Decode.con {k : Nat} {a0 : ByteArray} {r : (List Int × Bool)} (H : oid_Decode.f k a0 = some r) : Con Tryd.prog 45 [S a0] (.tup [.row none 1 (List.map I r.1), B r.2]) := by
  refine con_of_good Tryd.func45 rfl (by kernel_rfl) (by kernel_rfl) fun C hN hL => ?_
  unfold oid_Decode.f at H
  refine Good.seq ?_
  refine Good.reg hN [] .nil [] (by kernel_rfl) ?_
  refine Good.seq ?_
  obtain ⟨t149, h150, H⟩ := bindS H
  refine Good.reg hN [.tup [.row (some 3) 1 (List.map I t149.1), B t149.2]] (.cons (oid_numbers.con h150).c .nil) [] (by kernel_rfl) ?_
  refine Good.seq ?_
  refine Good.seq ?_
  refine Good.reg hN [] .nil [] (by kernel_rfl) ?_
  rcases (ifC H).symm with ⟨c151, H⟩ | ⟨c151, H⟩
  · refine Good.condT (notT (Bool.eq_false_iff.2 c151)) (by kernel_rfl) ?_
    refine Good.seq ?_
    refine Good.reg hN [] .nil [] (by kernel_rfl) ?_
    obtain rfl := Option.some.inj H
    exact Good.ret (fin_fit (u := .tup [.nil 3 1, B false]) (.tup (.cons (.nilS 3 1 _) (.cons (.refl _) .nil))) (by kernel_rfl))
  refine Good.condF (notF c151) (by kernel_rfl) ?_
  refine Good.skip ?_
  refine Good.seq ?_
  obtain ⟨c152, H⟩ := ifS H
  refine Good.reg hN [I (rd t149.1 0)] (.cons (show (0 : Int) ≤ 0 by decide) (.cons (ltM I c152) (.cons (atM I (0 : Int) (show (0 : Int) ≤ 0 by decide) c152) (.cons (show (40 : Int) ≠ 0 by decide) .nil)))) [] (by kernel_rfl) ?_
  refine Good.seq ?_
  obtain ⟨c153, H⟩ := ifS H
  obtain ⟨c154, H⟩ := ifS H
  replace H := bindI H
  refine Good.regTB (n := 2) hm hN hL (.q 0 [[7]] (.q 1 [[7, 6, 3, 2]] (.q 2 [[7, 6, 3]] (.q 3 [[7, 6]] (.q 4 [[7, 6, 5]] (.q 5 [[7, 6]] (.q 6 [[7]] (.q 8 [[9]] (.b 7 [.row none 1 (List.map I (t149.1.drop 1)), .row none 1 (List.map I t149.1), .kb false, .row (some 3) 1 (List.map I (([mn 2 (wrap64 (Int.tdiv (rd t149.1 0) 40)), wrap64 ((rd t149.1 0) - (wrap64 (40 * (mn 2 (wrap64 (Int.tdiv (rd t149.1 0) 40))))))] : List Int) ++ (t149.1.drop 1)))] [] (.e 9 (.e 10 (.e 11 .z))) [.row none 1 (List.map I (t149.1.drop 1)), .row none 1 (List.map I t149.1), .kb false, .row (some 3) 1 (List.map I (([mn 2 (wrap64 (Int.tdiv (rd t149.1 0) 40)), wrap64 ((rd t149.1 0) - (wrap64 (40 * (mn 2 (wrap64 (Int.tdiv (rd t149.1 0) 40))))))] : List Int) ++ (t149.1.drop 1)))] [] (.e 9 (.e 7 (.e 10 (.e 11 .z))))))))))))) [(4, some (.row none 1 (List.map I t149.1))), (6, none)] (by kernel_rfl) (.cons (shrM (some 3) 1 I I t149.1 (fun _ => rfl)) .nil) [I (rd t149.1 0)] [I (rd t149.1 0)] (.cons (.cons (show (0 : Int) ≤ 0 by decide) (.cons (ltM I c152) (.cons (atM I (0 : Int) (show (0 : Int) ≤ 0 by decide) c152) (.cons (shrM (some 3) 1 I I t149.1 (fun _ => rfl)) (.cons (show (0 : Int) ≤ 1 by decide) (.cons (leM I c153) (.cons (cutMlo I (l := t149.1) (n := 1)) (.cons (fitM I ([mn 2 (wrap64 (Int.tdiv (rd t149.1 0) 40)), wrap64 ((rd t149.1 0) - (wrap64 (40 * (mn 2 (wrap64 (Int.tdiv (rd t149.1 0) 40))))))] : List Int) (t149.1.drop 1) (.refl _)) (.cons (limM2 I I c154) .nil))))))))) (.cons (show (0 : Int) ≤ 0 by decide) (.cons (atM I (0 : Int) (show (0 : Int) ≤ 0 by decide) c152) .nil)) (.cons (.cons (show (0 : Int) ≤ 0 by decide) (.cons (ltM I c152) (.cons (atM I (0 : Int) (show (0 : Int) ≤ 0 by decide) c152) (.cons (shrM (some 3) 1 I I t149.1 (fun _ => rfl)) (.cons (show (0 : Int) ≤ 1 by decide) (.cons (leM I c153) (.cons (cutMlo I (l := t149.1) (n := 1)) (.cons (fitM I ([mn 2 (wrap64 (Int.tdiv (rd t149.1 0) 40)), wrap64 ((rd t149.1 0) - (wrap64 (40 * (mn 2 (wrap64 (Int.tdiv (rd t149.1 0) 40))))))] : List Int) (t149.1.drop 1) (.refl _)) (.cons (limM2 I I c154) .nil))))))))) (.cons (show (0 : Int) ≤ 0 by decide) (.cons (atM I (0 : Int) (show (0 : Int) ≤ 0 by decide) c152) .nil)) .nil)) [] [] (by kernel_rfl) (by kernel_rfl) [[], []] [(7, 0)] [(7, .d (.v (.row (some 3) 1 (List.map I (([mn 2 (wrap64 (Int.tdiv (rd t149.1 0) 40)), wrap64 ((rd t149.1 0) - (wrap64 (40 * (mn 2 (wrap64 (Int.tdiv (rd t149.1 0) 40))))))] : List Int) ++ (t149.1.drop 1))))))] [] (by kernel_rfl) (by kernel_rfl) ?_
  refine Good.seq ?_
  refine Good.seq ?_
  obtain ⟨t156, h157, H⟩ := bindS H
  refine Good.reg hN [.row none 1 (List.map I (([mn 2 (wrap64 (Int.tdiv (rd t149.1 0) 40)), wrap64 ((rd t149.1 0) - (wrap64 (40 * (mn 2 (wrap64 (Int.tdiv (rd t149.1 0) 40))))))] : List Int) ++ (t149.1.drop 1))), B t156] (.cons (shrM (some 3) 1 I I (([mn 2 (wrap64 (Int.tdiv (rd t149.1 0) 40)), wrap64 ((rd t149.1 0) - (wrap64 (40 * (mn 2 (wrap64 (Int.tdiv (rd t149.1 0) 40))))))] : List Int) ++ (t149.1.drop 1)) (fun _ => rfl)) (.cons (oid_Right.con h157).c .nil)) [] (by kernel_rfl) ?_
  rcases (ifC H).symm with ⟨c158, H⟩ | ⟨c158, H⟩
  · refine Good.condT (notT (Bool.eq_false_iff.2 c158)) (by kernel_rfl) ?_
    refine Good.seq ?_
    refine Good.reg hN [] .nil [] (by kernel_rfl) ?_
    obtain rfl := Option.some.inj H
    exact Good.ret (fin_fit (u := .tup [.nil 3 1, B false]) (.tup (.cons (.nilS 3 1 _) (.cons (.refl _) .nil))) (by kernel_rfl))
  refine Good.condF (notF c158) (by kernel_rfl) ?_
  refine Good.skip ?_
  refine Good.seq ?_
  refine Good.reg hN [] .nil [] (by kernel_rfl) ?_
  obtain rfl := Option.some.inj H
  exact Good.ret (fin.doneR (by kernel_rfl))
def utf8_ValidString.f (a0 : ByteArray) : Option Bool := if a0.size ≤ 9223372036854775807 then some (Lib.validD a0.data.toList) else none
theorem utf8_ValidString.tab {p : Pub} {w : World} (h : Tabs.t p w) : Lib.Utf8Tabs 0 1 w := by
  obtain ⟨W, hW, hB⟩ := h
  rw [MakeChecks.laidMetH_plain _ _ _ (by kernel_rfl)] at hW
  have hm1 : ("unicode/utf8.first", Lib.firstData) ∈ laidL := by
    have e : Lib.firstData = Rows.laid_unicode_utf8_first := by kernel_rfl
    rw [e]; unfold laidL
    repeat (first | exact List.mem_cons_self | apply List.mem_cons_of_mem)
  have hm2 : ("unicode/utf8.acceptRanges", Lib.acceptData) ∈ laidL := by
    have e : Lib.acceptData = Rows.laid_unicode_utf8_acceptRanges := by kernel_rfl
    rw [e]; unfold laidL
    repeat (first | exact List.mem_cons_self | apply List.mem_cons_of_mem)
  have h1 : Lib.Utf8Tabs 0 1 W := utf8Tabs_of_readsT (U8Types.of196 Tryd.laysValid) ⟨by kernel_rfl, by kernel_rfl, by kernel_rfl, by kernel_rfl, by kernel_rfl, by kernel_rfl, by kernel_rfl⟩ (Lib.laidMet.reads hW hm1) (Lib.laidMet.reads hW hm2)
  have mv : ∀ q v, W.cell? q = some v → w.cell? q = some v := fun q v hp => by
    have hlt := World.block_lt_of_cell? W _ hp
    unfold World.cell? at hp ⊢
    rw [(hB _ hlt).2]
    exact hp
  exact ⟨fun c hc => mv _ _ (h1.1 c hc), fun i hi => ⟨mv _ _ (h1.2 i hi).1, mv _ _ (h1.2 i hi).2⟩⟩
theorem utf8_ValidString.con {a0 : ByteArray} {r : Bool} (H : utf8_ValidString.f a0 = some r) : Con Tryd.prog 56 [S a0] (B r) := by
  unfold utf8_ValidString.f at H
  obtain ⟨c, H⟩ := ifS H
  obtain rfl := Option.some.inj H
  exact con_lits Tryd.func56 rfl (by kernel_rfl) rfl fun p w ht => (Any.utf8_ValidString Tryd.laysValid a0 w c (utf8_ValidString.tab ht)).mono (by rintro e w' ⟨rfl, hw⟩; exact ⟨rfl, by first | (subst hw; exact Below.refl _ _) | exact hw⟩)
def strs_Utf.f (a0 : ByteArray) : Option (Bool) := (utf8_ValidString.f a0).bind fun t159 => (some t159)
theorem strs_Utf.con {a0 : ByteArray} {r : (Bool)} (H : strs_Utf.f a0 = some r) : Con Tryd.prog 46 [S a0] (B r) := by
  refine con_of_good Tryd.func46 rfl (by kernel_rfl) (by kernel_rfl) fun C hN hL => ?_
  unfold strs_Utf.f at H
  refine Good.seq ?_
  refine Good.reg hN [] .nil [] (by kernel_rfl) ?_
  refine Good.seq ?_
  obtain ⟨t159, h160, H⟩ := bindS H
  refine Good.reg hN [B t159] (.cons (utf8_ValidString.con h160).c .nil) [] (by kernel_rfl) ?_
  obtain rfl := Option.some.inj H
  exact Good.ret (fin.doneR (by kernel_rfl))
def strings_IndexByte.f (a0 : ByteArray) (a1 : Int) : Option Int := some (Lib.indexByte a0.data.toList a1.toNat.toUInt8)
theorem strings_IndexByte.con {a0 : ByteArray} {a1 : Int} {r : Int} (H : strings_IndexByte.f a0 a1 = some r) : Con Tryd.prog 69 [S a0, K .u8 a1] (I r) := by
  obtain rfl := Option.some.inj H
  exact con_lits Tryd.func69 rfl (by kernel_rfl) rfl fun p w ht => (Tryd.strings_IndexByte a0 a1 w).mono (by rintro e w' ⟨rfl, hw⟩; exact ⟨rfl, by first | (subst hw; exact Below.refl _ _) | exact hw⟩)
def utf8_ValidRune.j0 : Nat → Int → Bool → Option (Bool)
 | 0, _, _ => none
 | k + 1, x0, x3 => if x3 = true then (some true) else (if 57343 < x0 then (if x0 ≤ 1114111 then (some true) else (some false)) else (some false))
def utf8_ValidRune.f (k : Nat) (a0 : Int) : Option (Bool) := if 0 ≤ a0 then (utf8_ValidRune.j0 k a0 (decide (a0 < 55296))) else (utf8_ValidRune.j0 k a0 false)
theorem utf8_ValidRune.con {k : Nat} {a0 : Int} {r : (Bool)} (H : utf8_ValidRune.f k a0 = some r) : Con Tryd.prog 70 [K .i32 a0] (B r) := by
  refine con_of_good Tryd.func70 rfl (by kernel_rfl) (by kernel_rfl) fun C hN hL => ?_
  unfold utf8_ValidRune.f at H
  refine Good.seq ?_
  refine Good.reg hN [] .nil [] (by kernel_rfl) ?_
  refine Good.seq ?_
  refine Good.block ?_
  refine Good.seq ?_
  refine Good.cut (fun st => ∃ (x0 : Int) (x3 : Bool), Wk C st ⟨[(0, .d (.v (K .i32 x0))), (3, .d (.v (B x3)))], []⟩ ∧ utf8_ValidRune.j0 k x0 x3 = some r) ?_ ?_
  · rcases ifC H with ⟨c161, H⟩ | ⟨c161, H⟩
    · refine Good.reg hN [B true] (.cons (decide_eq_true c161) .nil) [] (by kernel_rfl) ?_
      exact ⟨a0, decide (a0 < 55296), Wk.of [(0, 0), (3, 0)] (by kernel_rfl) (by kernel_rfl), H⟩
    refine Good.reg hN [B false] (.cons (decide_eq_false c161) .nil) [] (by kernel_rfl) ?_
    exact ⟨a0, false, Wk.of [(0, 0), (3, 0)] (by kernel_rfl) (by kernel_rfl), H⟩
  clear H
  rintro st ⟨x0, x3, W, H⟩
  rcases k with _ | k
  · cases H
  refine W.good ?_
  rw [utf8_ValidRune.j0] at H
  rcases ifC H with ⟨c162, H⟩ | ⟨c162, H⟩
  · refine Good.condT c162 (by kernel_rfl) ?_
    refine Good.seq ?_
    refine Good.reg hN [] .nil [] (by kernel_rfl) ?_
    obtain rfl := Option.some.inj H
    exact Good.ret (fin.doneR (by kernel_rfl))
  refine Good.condF (Bool.eq_false_iff.2 c162) (by kernel_rfl) ?_
  refine Good.seq ?_
  rcases (ifC H).symm with ⟨c163, H⟩ | ⟨c163, H⟩
  · refine Good.reg hN [B false] (.cons (decide_eq_false c163) .nil) [] (by kernel_rfl) ?_
    refine Good.cond false (by kernel_rfl) ?_
    refine Good.skip ?_
    refine Good.seq ?_
    refine Good.reg hN [] .nil [] (by kernel_rfl) ?_
    obtain rfl := Option.some.inj H
    exact Good.ret (fin.doneR (by kernel_rfl))
  refine Good.reg hN [B true] (.cons (decide_eq_true c163) .nil) [] (by kernel_rfl) ?_
  rcases ifC H with ⟨c164, H⟩ | ⟨c164, H⟩
  · refine Good.condT (decide_eq_true c164) (by kernel_rfl) ?_
    refine Good.seq ?_
    refine Good.reg hN [] .nil [] (by kernel_rfl) ?_
    obtain rfl := Option.some.inj H
    exact Good.ret (fin.doneR (by kernel_rfl))
  refine Good.condF (decide_eq_false c164) (by kernel_rfl) ?_
  refine Good.skip ?_
  refine Good.seq ?_
  refine Good.reg hN [] .nil [] (by kernel_rfl) ?_
  obtain rfl := Option.some.inj H
  exact Good.ret (fin.doneR (by kernel_rfl))
def bytealg_Cutover.f (a0 : Int) : Option (Int) := some (wrap64 (Int.tdiv (wrap64 (a0 + 16)) 8))
theorem bytealg_Cutover.con {a0 : Int} {r : (Int)} (H : bytealg_Cutover.f a0 = some r) : Con Tryd.prog 71 [I a0] (I r) := by
  refine con_of_good Tryd.func71 rfl (by kernel_rfl) (by kernel_rfl) fun C hN hL => ?_
  unfold bytealg_Cutover.f at H
  refine Good.seq ?_
  refine Good.reg hN [] .nil [] (by kernel_rfl) ?_
  refine Good.seq ?_
  refine Good.reg hN [] (.cons (show (8 : Int) ≠ 0 by decide) .nil) [] (by kernel_rfl) ?_
  obtain rfl := Option.some.inj H
  exact Good.ret (fin.doneR (by kernel_rfl))
def strings_IndexRune.l0 : Nat → ByteArray → Nat → Option (Int)
 | 0, _, _ => none
 | k + 1, x1000, x1001 => if x1001 < x1000.size then (if ((Utf8.decode x1000 x1001).1 : Int) = 65533 then (some ((x1001 : Nat) : Int)) else (strings_IndexRune.l0 k x1000 (x1001 + (Utf8.decode x1000 x1001).2))) else (some (-1))
def strings_IndexRune.g0_1 : Nat → ByteArray → Int → Int → Option (Int)
 | 0, _, _, _ => none
 | k + 1, x0, x8, x9 => if 0 ≤ (wrap64 (x9 - x8)) then (if (wrap64 (x9 - x8)) ≤ (x0.size : Int) then (none) else (none)) else (none)
mutual
def strings_IndexRune.l1 : Nat → ByteArray → ByteArray → Int → Int → Int → Option (Int)
 | 0, _, _, _, _, _ => none
 | k + 1, x0, x7, x8, x9, x10 => if x9 < (x0.size : Int) then (if 0 ≤ x9 then (if 0 ≤ x8 then (if x8 < (x7.size : Int) then (if (bt x0 x9) = (bt x7 x8) then (strings_IndexRune.j3 k x0 x7 x8 x9 x10) else (if 0 ≤ (wrap64 (x9 + 1)) then (if (wrap64 (x9 + 1)) ≤ (x0.size : Int) then ((strings_IndexByte.f (x0.extract ((wrap64 (x9 + 1)) : Int).toNat x0.size) (bt x7 x8)).bind fun t182 => (if t182 < 0 then (some (-1)) else (strings_IndexRune.j3 k x0 x7 x8 (wrap64 (x9 + (wrap64 (t182 + 1)))) x10))) else (none)) else (none))) else (none)) else (none)) else (none)) else (some (-1))
def strings_IndexRune.j3 : Nat → ByteArray → ByteArray → Int → Int → Int → Option (Int)
 | 0, _, _, _, _, _ => none
 | k + 1, x0, x7, x8, x9, x10 => strings_IndexRune.l2 k x0 x7 x8 x9 x10 1
def strings_IndexRune.l2 : Nat → ByteArray → ByteArray → Int → Int → Int → Int → Option (Int)
 | 0, _, _, _, _, _, _ => none
 | k + 1, x0, x7, x8, x9, x10, x12 => if x12 < (x7.size : Int) then (if 0 ≤ (wrap64 (x9 - x12)) then (if (wrap64 (x9 - x12)) < (x0.size : Int) then (if 0 ≤ (wrap64 (x8 - x12)) then (if (wrap64 (x8 - x12)) < (x7.size : Int) then (if (bt x0 (wrap64 (x9 - x12))) = (bt x7 (wrap64 (x8 - x12))) then (strings_IndexRune.l2 k x0 x7 x8 x9 x10 (wrap64 (x12 + 1))) else (strings_IndexRune.g1_0 k x0 x7 x8 x9 x10)) else (none)) else (none)) else (none)) else (none)) else (some (wrap64 (x9 - x8)))
def strings_IndexRune.g1_0 : Nat → ByteArray → ByteArray → Int → Int → Int → Option (Int)
 | 0, _, _, _, _, _ => none
 | k + 1, x0, x7, x8, x9, x10 => (bytealg_Cutover.f (wrap64 (x9 + 1))).bind fun t191 => (if (wrap64 (x10 + 1)) > t191 then (if (wrap64 (x9 + 1)) < (x0.size : Int) then (strings_IndexRune.g0_1 k x0 x8 (wrap64 (x9 + 1))) else (strings_IndexRune.l1 k x0 x7 x8 (wrap64 (x9 + 1)) (wrap64 (x10 + 1)))) else (strings_IndexRune.l1 k x0 x7 x8 (wrap64 (x9 + 1)) (wrap64 (x10 + 1))))
end
def strings_IndexRune.j0 : Nat → ByteArray → Int → Bool → Option (Int)
 | 0, _, _, _ => none
 | k + 1, x0, x1, x160 => if x160 = true then ((strings_IndexByte.f x0 ((x1) % 256)).bind fun t167 => (some t167)) else (if x1 = 65533 then (strings_IndexRune.l0 k x0 0) else ((utf8_ValidRune.f k x1).bind fun t172 => (if t172 = true then (strings_IndexRune.l1 k x0 (Utf8.encode x1) (wrap64 (((Utf8.encode x1).size : Int) - 1)) (wrap64 (((Utf8.encode x1).size : Int) - 1)) 0) else (some (-1)))))
def strings_IndexRune.f (k : Nat) (a0 : ByteArray) (a1 : Int) : Option (Int) := if 0 ≤ a1 then (strings_IndexRune.j0 k a0 a1 (decide (a1 < 128))) else (strings_IndexRune.j0 k a0 a1 false)
theorem strings_IndexRune.con {k : Nat} {a0 : ByteArray} {a1 : Int} {r : (Int)} (H : strings_IndexRune.f k a0 a1 = some r) : Con Tryd.prog 65 [S a0, K .i32 a1] (I r) := by
  refine con_of_good Tryd.func65 rfl (by kernel_rfl) (by kernel_rfl) fun C hN hL => ?_
  unfold strings_IndexRune.f at H
  refine Good.seq ?_
  refine Good.reg hN [] .nil [] (by kernel_rfl) ?_
  refine Good.block ?_
  refine Good.seq ?_
  refine Good.cut (fun st => ∃ (x0 : ByteArray) (x1 : Int) (x160 : Bool), Wk C st ⟨[(0, .d (.v (S x0))), (1, .d (.v (K .i32 x1))), (160, .d (.v (B x160)))], []⟩ ∧ strings_IndexRune.j0 k x0 x1 x160 = some r) ?_ ?_
  · rcases ifC H with ⟨c165, H⟩ | ⟨c165, H⟩
    · refine Good.reg hN [B true] (.cons (decide_eq_true c165) .nil) [] (by kernel_rfl) ?_
      exact ⟨a0, a1, decide (a1 < 128), Wk.of [(0, 0), (1, 0), (160, 0)] (by kernel_rfl) (by kernel_rfl), H⟩
    refine Good.reg hN [B false] (.cons (decide_eq_false c165) .nil) [] (by kernel_rfl) ?_
    exact ⟨a0, a1, false, Wk.of [(0, 0), (1, 0), (160, 0)] (by kernel_rfl) (by kernel_rfl), H⟩
  clear H
  rintro st ⟨x0, x1, x160, W, H⟩
  rcases k with _ | k
  · cases H
  refine W.good ?_
  rw [strings_IndexRune.j0] at H
  rcases ifC H with ⟨c166, H⟩ | ⟨c166, H⟩
  · refine Good.condT c166 (by kernel_rfl) ?_
    refine Good.seq ?_
    obtain ⟨t167, h168, H⟩ := bindS H
    refine Good.reg hN [I t167] (.cons (strings_IndexByte.con h168).c .nil) [] (by kernel_rfl) ?_
    obtain rfl := Option.some.inj H
    exact Good.ret (fin.doneR (by kernel_rfl))
  refine Good.condF (Bool.eq_false_iff.2 c166) (by kernel_rfl) ?_
  refine Good.seq ?_
  refine Good.reg hN [] .nil [] (by kernel_rfl) ?_
  rcases ifC H with ⟨c169, H⟩ | ⟨c169, H⟩
  · refine Good.condT (beq_iff_eq.2 c169) (by kernel_rfl) ?_
    refine Good.seq ?_
    refine Good.seq ?_
    refine Good.reg hN [] .nil [] (by kernel_rfl) ?_
    refine Good.block ?_
    refine Good.loopN (fun k' st => ∃ (x1000 : ByteArray) (x1001 : Nat), k' ≤ k ∧ Wk C st ⟨[(175, .d (.ptr 0 0))], [.iter x1000 x1001]⟩ ∧ strings_IndexRune.l0 k' x1000 x1001 = some r) k ⟨x0, 0, Nat.le_refl _, Wk.of [(175, 0)] (by kernel_rfl) (by kernel_rfl), H⟩ fun k => ⟨fun st h => (by obtain ⟨_, _, _, _, H⟩ := h; cases H), ?_⟩
    clear H
    rintro st ⟨x1000, x1001, hk, W, H⟩
    refine W.good ?_
    rw [strings_IndexRune.l0] at H
    refine Good.seq ?_
    rcases (ifC H).symm with ⟨c170, H⟩ | ⟨c170, H⟩
    · refine Good.reg hN [.kb false] (.cons c170 .nil) [] (by kernel_rfl) ?_
      refine Good.seq ?_
      refine Good.cond false (by kernel_rfl) ?_
      refine Good.exit ?_
      refine Good.seq ?_
      refine Good.reg hN [] .nil [] (by kernel_rfl) ?_
      obtain rfl := Option.some.inj H
      exact Good.ret (fin.doneR (by kernel_rfl))
    refine Good.reg hN [.kb true] (.cons c170 .nil) [] (by kernel_rfl) ?_
    refine Good.seq ?_
    refine Good.cond true (by kernel_rfl) ?_
    refine Good.skip ?_
    refine Good.block ?_
    refine Good.seq ?_
    refine Good.reg hN [] .nil [] (by kernel_rfl) ?_
    refine Good.seq ?_
    refine Good.reg hN [] .nil [] (by kernel_rfl) ?_
    rcases (ifC H).symm with ⟨c171, H⟩ | ⟨c171, H⟩
    · refine Good.condF (beq_eq_false_iff_ne.2 c171) (by kernel_rfl) ?_
      refine Good.skip ?_
      exact ⟨k, by omega, x1000, x1001 + (Utf8.decode x1000 x1001).2, by omega, Wk.of [(175, 0)] (by kernel_rfl) (by kernel_rfl), H⟩
    refine Good.condT (beq_iff_eq.2 c171) (by kernel_rfl) ?_
    refine Good.seq ?_
    refine Good.reg hN [] .nil [] (by kernel_rfl) ?_
    obtain rfl := Option.some.inj H
    exact Good.ret (fin.doneR (by kernel_rfl))
  refine Good.condF (beq_eq_false_iff_ne.2 c169) (by kernel_rfl) ?_
  refine Good.seq ?_
  obtain ⟨t172, h173, H⟩ := bindS H
  refine Good.reg hN [B t172] (.cons (utf8_ValidRune.con h173).c .nil) [] (by kernel_rfl) ?_
  rcases (ifC H).symm with ⟨c174, H⟩ | ⟨c174, H⟩
  · refine Good.condT (notT (Bool.eq_false_iff.2 c174)) (by kernel_rfl) ?_
    refine Good.seq ?_
    refine Good.reg hN [] .nil [] (by kernel_rfl) ?_
    obtain rfl := Option.some.inj H
    exact Good.ret (fin.doneR (by kernel_rfl))
  refine Good.condF (notF c174) (by kernel_rfl) ?_
  refine Good.scope [(1, _, fun n st => ∃ (x0 : ByteArray) (x1 : Int) (x7 : ByteArray) (x8 : Int) (x9 : Int), n ≤ k ∧ Wk C st ⟨[(0, .d (.v (S x0))), (1, .d (.v (K .i32 x1))), (7, .d (.v (S x7))), (8, .d (.v (I x8))), (9, .d (.v (I x9)))], []⟩ ∧ strings_IndexRune.g0_1 n x0 x8 x9 = some r)] (.cons rfl .nil) ?_ (.cons ?_ .nil)
  · refine Good.seq ?_
    refine Good.reg hN [] .nil [] (by kernel_rfl) ?_
    refine Good.seq ?_
    refine Good.reg hN [] .nil [] (by kernel_rfl) ?_
    refine Good.seq ?_
    refine Good.reg hN [] .nil [] (by kernel_rfl) ?_
    refine Good.seq ?_
    refine Good.reg hN [] .nil [] (by kernel_rfl) ?_
    refine Good.seq ?_
    refine Good.block ?_
    refine Good.loopN (fun k' st => ∃ (x0 : ByteArray) (x1 : Int) (x7 : ByteArray) (x8 : Int) (x9 : Int) (x10 : Int), k' ≤ k ∧ Wk C st ⟨[(0, .d (.v (S x0))), (1, .d (.v (K .i32 x1))), (7, .d (.v (S x7))), (8, .d (.v (I x8))), (9, .d (.v (I x9))), (10, .d (.v (I x10)))], []⟩ ∧ strings_IndexRune.l1 k' x0 x7 x8 x9 x10 = some r) k ⟨x0, x1, Utf8.encode x1, wrap64 (((Utf8.encode x1).size : Int) - 1), wrap64 (((Utf8.encode x1).size : Int) - 1), 0, Nat.le_refl _, Wk.of [(0, 0), (1, 0), (7, 0), (8, 0), (9, 0), (10, 0)] (by kernel_rfl) (by kernel_rfl), H⟩ fun k => ⟨fun st h => (by obtain ⟨_, _, _, _, _, _, _, _, H⟩ := h; cases H), ?_⟩
    clear H
    rintro st ⟨x0, x1, x7, x8, x9, x10, hk, W, H⟩
    refine W.good ?_
    rw [strings_IndexRune.l1] at H
    refine Good.seq ?_
    refine Good.seq ?_
    refine Good.reg hN [] .nil [] (by kernel_rfl) ?_
    rcases (ifC H).symm with ⟨c175, H⟩ | ⟨c175, H⟩
    · refine Good.condF (decide_eq_false c175) (by kernel_rfl) ?_
      refine Good.exit ?_
      refine Good.seq ?_
      refine Good.seq ?_
      refine Good.reg hN [] .nil [] (by kernel_rfl) ?_
      obtain rfl := Option.some.inj H
      exact Good.ret (fin.doneR (by kernel_rfl))
    refine Good.condT (decide_eq_true c175) (by kernel_rfl) ?_
    refine Good.skip ?_
    refine Good.block ?_
    refine Good.scope [(0, _, fun n st => ∃ (x0 : ByteArray) (x1 : Int) (x7 : ByteArray) (x8 : Int) (x9 : Int) (x10 : Int), n ≤ k ∧ Wk C st ⟨[(0, .d (.v (S x0))), (1, .d (.v (K .i32 x1))), (7, .d (.v (S x7))), (8, .d (.v (I x8))), (9, .d (.v (I x9))), (10, .d (.v (I x10)))], []⟩ ∧ strings_IndexRune.g1_0 n x0 x7 x8 x9 x10 = some r)] (.cons rfl .nil) ?_ (.cons ?_ .nil)
    · refine Good.seq ?_
      refine Good.seq ?_
      obtain ⟨c176, H⟩ := ifS H
      obtain ⟨c177, H⟩ := ifS H
      obtain ⟨c178, H⟩ := ifS H
      refine Good.regDF hm hN (.q 0 [] (.q 1 [] (.q 2 [] (.q 3 [] (.q 4 [] (.q 5 [] (.q 6 [] .z))))))) [(0, none), (7, none), (8, none), (9, none)] (by kernel_rfl) .nil [] [] (.cons c176 (.cons c175 (.cons c177 (.cons c178 .nil)))) (.cons c176 (.cons c175 (.cons c177 (.cons c178 .nil)))) [] [] (by kernel_rfl) (by kernel_rfl) ?_
      refine Good.cut (fun st => ∃ (x0 : ByteArray) (x1 : Int) (x7 : ByteArray) (x8 : Int) (x9 : Int) (x10 : Int), Wk C st ⟨[(0, .d (.v (S x0))), (1, .d (.v (K .i32 x1))), (7, .d (.v (S x7))), (8, .d (.v (I x8))), (9, .d (.v (I x9))), (10, .d (.v (I x10)))], []⟩ ∧ strings_IndexRune.j3 k x0 x7 x8 x9 x10 = some r) ?_ ?_
      · rcases ifC H with ⟨c179, H⟩ | ⟨c179, H⟩
        · refine Good.condF (bneF c179) (by kernel_rfl) ?_
          refine Good.skip ?_
          exact ⟨x0, x1, x7, x8, x9, x10, Wk.of [(0, 0), (1, 0), (7, 0), (8, 0), (9, 0), (10, 0)] (by kernel_rfl) (by kernel_rfl), H⟩
        refine Good.condT (bne_iff_ne.2 c179) (by kernel_rfl) ?_
        refine Good.seq ?_
        obtain ⟨c180, H⟩ := ifS H
        obtain ⟨c181, H⟩ := ifS H
        obtain ⟨t182, h183, H⟩ := bindS H
        refine Good.regDF hm hN (.q 0 [] (.q 1 [] (.q 2 [] (.q 3 [] (.q 4 [] (.q 5 [] (.q 6 [] (.e 7 (.q 8 [] .z))))))))) [(0, none), (7, none), (8, none), (9, none)] (by kernel_rfl) .nil [I t182] [] (.cons c180 (.cons c181 (.cons c177 (.cons c178 (.cons (strings_IndexByte.con h183).c .nil))))) (.cons c180 (.cons c181 (.cons c177 (.cons c178 .nil)))) [] [] (by kernel_rfl) (by kernel_rfl) ?_
        refine Good.seq ?_
        refine Good.seq ?_
        refine Good.reg hN [] .nil [] (by kernel_rfl) ?_
        rcases (ifC H).symm with ⟨c184, H⟩ | ⟨c184, H⟩
        · refine Good.condF (decide_eq_false c184) (by kernel_rfl) ?_
          refine Good.skip ?_
          refine Good.reg hN [] .nil [] (by kernel_rfl) ?_
          exact ⟨x0, x1, x7, x8, wrap64 (x9 + (wrap64 (t182 + 1))), x10, Wk.of [(0, 0), (1, 0), (7, 0), (8, 0), (9, 0), (10, 0)] (by kernel_rfl) (by kernel_rfl), H⟩
        refine Good.condT (decide_eq_true c184) (by kernel_rfl) ?_
        refine Good.seq ?_
        refine Good.reg hN [] .nil [] (by kernel_rfl) ?_
        obtain rfl := Option.some.inj H
        exact Good.ret (fin.doneR (by kernel_rfl))
      clear H
      rintro st ⟨x0, x1, x7, x8, x9, x10, W, H⟩
      rcases k with _ | k
      · cases H
      refine W.good ?_
      rw [strings_IndexRune.j3] at H
      refine Good.seq ?_
      refine Good.seq ?_
      refine Good.reg hN [] .nil [] (by kernel_rfl) ?_
      refine Good.block ?_
      refine Good.loopN (fun k' st => ∃ (x0 : ByteArray) (x1 : Int) (x7 : ByteArray) (x8 : Int) (x9 : Int) (x10 : Int) (x12 : Int), k' ≤ k ∧ Wk C st ⟨[(0, .d (.v (S x0))), (1, .d (.v (K .i32 x1))), (7, .d (.v (S x7))), (8, .d (.v (I x8))), (9, .d (.v (I x9))), (10, .d (.v (I x10))), (12, .d (.v (I x12)))], []⟩ ∧ strings_IndexRune.l2 k' x0 x7 x8 x9 x10 x12 = some r) k ⟨x0, x1, x7, x8, x9, x10, 1, Nat.le_refl _, Wk.of [(0, 0), (1, 0), (7, 0), (8, 0), (9, 0), (10, 0), (12, 0)] (by kernel_rfl) (by kernel_rfl), H⟩ fun k => ⟨fun st h => (by obtain ⟨_, _, _, _, _, _, _, _, _, H⟩ := h; cases H), ?_⟩
      clear H
      rintro st ⟨x0, x1, x7, x8, x9, x10, x12, hk, W, H⟩
      refine W.good ?_
      rw [strings_IndexRune.l2] at H
      refine Good.seq ?_
      refine Good.seq ?_
      refine Good.reg hN [] .nil [] (by kernel_rfl) ?_
      rcases (ifC H).symm with ⟨c185, H⟩ | ⟨c185, H⟩
      · refine Good.condF (decide_eq_false c185) (by kernel_rfl) ?_
        refine Good.exit ?_
        refine Good.seq ?_
        refine Good.seq ?_
        refine Good.reg hN [] .nil [] (by kernel_rfl) ?_
        obtain rfl := Option.some.inj H
        exact Good.ret (fin.doneR (by kernel_rfl))
      refine Good.condT (decide_eq_true c185) (by kernel_rfl) ?_
      refine Good.skip ?_
      refine Good.seq ?_
      refine Good.block ?_
      refine Good.seq ?_
      obtain ⟨c186, H⟩ := ifS H
      obtain ⟨c187, H⟩ := ifS H
      obtain ⟨c188, H⟩ := ifS H
      obtain ⟨c189, H⟩ := ifS H
      refine Good.regDF hm hN (.q 0 [] (.q 1 [] (.q 2 [] (.q 3 [] (.q 4 [] (.q 5 [] (.q 6 [] (.q 7 [] (.q 8 [] (.q 9 [] (.q 10 [] .z))))))))))) [(0, none), (7, none), (8, none), (9, none), (12, none)] (by kernel_rfl) .nil [] [] (.cons c186 (.cons c187 (.cons c188 (.cons c189 .nil)))) (.cons c186 (.cons c187 (.cons c188 (.cons c189 .nil)))) [] [] (by kernel_rfl) (by kernel_rfl) ?_
      rcases (ifC H).symm with ⟨c190, H⟩ | ⟨c190, H⟩
      · refine Good.condT (bne_iff_ne.2 c190) (by kernel_rfl) ?_
        refine Good.goto ?_
        exact ⟨k, (by first | trivial | omega), x0, x1, x7, x8, x9, x10, by omega, Wk.of [(0, 0), (1, 0), (7, 0), (8, 0), (9, 0), (10, 0)] (by kernel_rfl) (by kernel_rfl), H⟩
      refine Good.condF (bneF c190) (by kernel_rfl) ?_
      refine Good.skip ?_
      refine Good.reg hN [] .nil [] (by kernel_rfl) ?_
      exact ⟨k, by omega, x0, x1, x7, x8, x9, x10, wrap64 (x12 + 1), by omega, Wk.of [(0, 0), (1, 0), (7, 0), (8, 0), (9, 0), (10, 0), (12, 0)] (by kernel_rfl) (by kernel_rfl), H⟩
    · clear H
      rintro n st ⟨x0, x1, x7, x8, x9, x10, hn, W, H⟩
      rcases n with _ | k
      · cases H
      refine W.good ?_
      rw [strings_IndexRune.g1_0] at H
      refine Good.seq ?_
      refine Good.skip ?_
      refine Good.seq ?_
      refine Good.reg hN [] .nil [] (by kernel_rfl) ?_
      refine Good.seq ?_
      refine Good.reg hN [] .nil [] (by kernel_rfl) ?_
      refine Good.seq ?_
      obtain ⟨t191, h192, H⟩ := bindS H
      rcases (ifC H).symm with ⟨c193, H⟩ | ⟨c193, H⟩
      · refine Good.reg hN [B true, I t191, B false, B false, B false, B false] (.cons (rfl : true = true) (.cons (bytealg_Cutover.con h192).c (.cons (decide_eq_false c193) (.cons (rfl : false = false) (.cons (rfl : false = false) (.cons (rfl : false = false) .nil)))))) [] (by kernel_rfl) ?_
        refine Good.cond false (by kernel_rfl) ?_
        refine Good.skip ?_
        exact ⟨k, by omega, x0, x1, x7, x8, wrap64 (x9 + 1), wrap64 (x10 + 1), by omega, Wk.of [(0, 0), (1, 0), (7, 0), (8, 0), (9, 0), (10, 0)] (by kernel_rfl) (by kernel_rfl), H⟩
      rcases ifC H with ⟨c194, H⟩ | ⟨c194, H⟩
      · refine Good.reg hN [B true, I t191, B true, B true] (.cons (rfl : true = true) (.cons (bytealg_Cutover.con h192).c (.cons (decide_eq_true c193) (.cons (decide_eq_true c194) .nil)))) [] (by kernel_rfl) ?_
        refine Good.cond true (by kernel_rfl) ?_
        refine Good.goto ?_
        exact ⟨by kernel_rfl, ⟨k, (by first | trivial | omega), x0, x1, x7, x8, wrap64 (x9 + 1), by omega, Wk.of [(0, 0), (1, 0), (7, 0), (8, 0), (9, 0)] (by kernel_rfl) (by kernel_rfl), H⟩⟩
      refine Good.reg hN [B true, I t191, B true, B false, B false, B false] (.cons (rfl : true = true) (.cons (bytealg_Cutover.con h192).c (.cons (decide_eq_true c193) (.cons (decide_eq_false c194) (.cons (rfl : false = false) (.cons (rfl : false = false) .nil)))))) [] (by kernel_rfl) ?_
      refine Good.cond false (by kernel_rfl) ?_
      refine Good.skip ?_
      exact ⟨k, by omega, x0, x1, x7, x8, wrap64 (x9 + 1), wrap64 (x10 + 1), by omega, Wk.of [(0, 0), (1, 0), (7, 0), (8, 0), (9, 0), (10, 0)] (by kernel_rfl) (by kernel_rfl), H⟩
  · clear H
    rintro n st ⟨x0, x1, x7, x8, x9, hn, W, H⟩
    rcases n with _ | k
    · cases H
    refine W.good ?_
    rw [strings_IndexRune.g0_1] at H
    refine Good.seq ?_
    refine Good.skip ?_
    refine Good.seq ?_
    refine Good.cond true (by kernel_rfl) ?_
    refine Good.seq ?_
    obtain ⟨c195, H⟩ := ifS H
    obtain ⟨c196, H⟩ := ifS H
    cases H
def strings_ContainsRune.f (k : Nat) (a0 : ByteArray) (a1 : Int) : Option (Bool) := (strings_IndexRune.f k a0 a1).bind fun t197 => (some (decide (t197 ≥ 0)))
theorem strings_ContainsRune.con {k : Nat} {a0 : ByteArray} {a1 : Int} {r : (Bool)} (H : strings_ContainsRune.f k a0 a1 = some r) : Con Tryd.prog 58 [S a0, K .i32 a1] (B r) := by
  refine con_of_good Tryd.func58 rfl (by kernel_rfl) (by kernel_rfl) fun C hN hL => ?_
  unfold strings_ContainsRune.f at H
  refine Good.seq ?_
  refine Good.reg hN [] .nil [] (by kernel_rfl) ?_
  refine Good.seq ?_
  obtain ⟨t197, h198, H⟩ := bindS H
  refine Good.reg hN [I t197] (.cons (strings_IndexRune.con h198).c .nil) [] (by kernel_rfl) ?_
  obtain rfl := Option.some.inj H
  exact Good.ret (fin.doneR (by kernel_rfl))
def strs_Printable_1.j1 : Nat → Int → Bool → Option (Bool)
 | 0, _, _ => none
 | k + 1, x0, x3 => if x3 = true then (some false) else (if x0 ≥ 48 then (if x0 ≤ 57 then (some false) else ((strings_ContainsRune.f k (⟨#[32, 39, 40, 41, 43, 44, 45, 46, 47, 58, 61, 63]⟩ : ByteArray) x0).bind fun t205 => (some (!t205)))) else ((strings_ContainsRune.f k (⟨#[32, 39, 40, 41, 43, 44, 45, 46, 47, 58, 61, 63]⟩ : ByteArray) x0).bind fun t207 => (some (!t207))))
def strs_Printable_1.j0 : Nat → Int → Bool → Option (Bool)
 | 0, _, _ => none
 | k + 1, x0, x3 => if x3 = true then (some false) else (if x0 ≥ 97 then (strs_Printable_1.j1 k x0 (decide (x0 ≤ 122))) else (strs_Printable_1.j1 k x0 false))
def strs_Printable_1.f (k : Nat) (a0 : Int) : Option (Bool) := if a0 ≥ 65 then (strs_Printable_1.j0 k a0 (decide (a0 ≤ 90))) else (strs_Printable_1.j0 k a0 false)
theorem strs_Printable_1.con {k : Nat} {a0 : Int} {r : (Bool)} (H : strs_Printable_1.f k a0 = some r) : Con Tryd.prog 57 [K .i32 a0] (B r) := by
  refine con_of_good Tryd.func57 rfl (by kernel_rfl) (by kernel_rfl) fun C hN hL => ?_
  unfold strs_Printable_1.f at H
  refine Good.seq ?_
  refine Good.reg hN [] .nil [] (by kernel_rfl) ?_
  refine Good.seq ?_
  refine Good.block ?_
  refine Good.seq ?_
  refine Good.seq ?_
  refine Good.cut (fun st => ∃ (x0 : Int) (x3 : Bool), Wk C st ⟨[(0, .d (.v (K .i32 x0))), (3, .d (.v (B x3)))], []⟩ ∧ strs_Printable_1.j0 k x0 x3 = some r) ?_ ?_
  · rcases ifC H with ⟨c199, H⟩ | ⟨c199, H⟩
    · refine Good.reg hN [B true] (.cons (decide_eq_true c199) .nil) [] (by kernel_rfl) ?_
      exact ⟨a0, decide (a0 ≤ 90), Wk.of [(0, 0), (3, 0)] (by kernel_rfl) (by kernel_rfl), H⟩
    refine Good.reg hN [B false] (.cons (decide_eq_false c199) .nil) [] (by kernel_rfl) ?_
    exact ⟨a0, false, Wk.of [(0, 0), (3, 0)] (by kernel_rfl) (by kernel_rfl), H⟩
  clear H
  rintro st ⟨x0, x3, W, H⟩
  rcases k with _ | k
  · cases H
  refine W.good ?_
  rw [strs_Printable_1.j0] at H
  rcases ifC H with ⟨c200, H⟩ | ⟨c200, H⟩
  · refine Good.condT c200 (by kernel_rfl) ?_
    refine Good.skip ?_
    refine Good.condT c200 (by kernel_rfl) ?_
    refine Good.seq ?_
    refine Good.reg hN [] .nil [] (by kernel_rfl) ?_
    obtain rfl := Option.some.inj H
    exact Good.ret (fin.doneR (by kernel_rfl))
  refine Good.condF (Bool.eq_false_iff.2 c200) (by kernel_rfl) ?_
  refine Good.seq ?_
  refine Good.cut (fun st => ∃ (x0 : Int) (x3 : Bool), Wk C st ⟨[(0, .d (.v (K .i32 x0))), (3, .d (.v (B x3)))], []⟩ ∧ strs_Printable_1.j1 k x0 x3 = some r) ?_ ?_
  · rcases ifC H with ⟨c201, H⟩ | ⟨c201, H⟩
    · refine Good.reg hN [B true] (.cons (decide_eq_true c201) .nil) [] (by kernel_rfl) ?_
      exact ⟨x0, decide (x0 ≤ 122), Wk.of [(0, 0), (3, 0)] (by kernel_rfl) (by kernel_rfl), H⟩
    refine Good.reg hN [B false] (.cons (decide_eq_false c201) .nil) [] (by kernel_rfl) ?_
    exact ⟨x0, false, Wk.of [(0, 0), (3, 0)] (by kernel_rfl) (by kernel_rfl), H⟩
  clear H
  rintro st ⟨x0, x3, W, H⟩
  rcases k with _ | k
  · cases H
  refine W.good ?_
  rw [strs_Printable_1.j1] at H
  rcases ifC H with ⟨c202, H⟩ | ⟨c202, H⟩
  · refine Good.condT c202 (by kernel_rfl) ?_
    refine Good.skip ?_
    refine Good.condT c202 (by kernel_rfl) ?_
    refine Good.seq ?_
    refine Good.reg hN [] .nil [] (by kernel_rfl) ?_
    obtain rfl := Option.some.inj H
    exact Good.ret (fin.doneR (by kernel_rfl))
  refine Good.condF (Bool.eq_false_iff.2 c202) (by kernel_rfl) ?_
  rcases (ifC H).symm with ⟨c203, H⟩ | ⟨c203, H⟩
  · refine Good.reg hN [B false] (.cons (decide_eq_false c203) .nil) [] (by kernel_rfl) ?_
    refine Good.cond false (by kernel_rfl) ?_
    refine Good.skip ?_
    refine Good.seq ?_
    obtain ⟨t207, h208, H⟩ := bindS H
    refine Good.reg hN [B t207] (.cons (strings_ContainsRune.con h208).c .nil) [] (by kernel_rfl) ?_
    obtain rfl := Option.some.inj H
    exact Good.ret (fin.doneR (by kernel_rfl))
  refine Good.reg hN [B true] (.cons (decide_eq_true c203) .nil) [] (by kernel_rfl) ?_
  rcases ifC H with ⟨c204, H⟩ | ⟨c204, H⟩
  · refine Good.condT (decide_eq_true c204) (by kernel_rfl) ?_
    refine Good.seq ?_
    refine Good.reg hN [] .nil [] (by kernel_rfl) ?_
    obtain rfl := Option.some.inj H
    exact Good.ret (fin.doneR (by kernel_rfl))
  refine Good.condF (decide_eq_false c204) (by kernel_rfl) ?_
  refine Good.skip ?_
  refine Good.seq ?_
  obtain ⟨t205, h206, H⟩ := bindS H
  refine Good.reg hN [B t205] (.cons (strings_ContainsRune.con h206).c .nil) [] (by kernel_rfl) ?_
  obtain rfl := Option.some.inj H
  exact Good.ret (fin.doneR (by kernel_rfl))
def strings_indexFunc.l0 : Nat → (Int → Option (Bool)) → Bool → ByteArray → Nat → Option (Int)
 | 0, _, _, _, _ => none
 | k + 1, g1, x2, x1000, x1001 => if x1001 < x1000.size then ((g1 ((Utf8.decode x1000 x1001).1 : Int)).bind fun t210 => (if (t210 == x2) = true then (some ((x1001 : Nat) : Int)) else (strings_indexFunc.l0 k g1 x2 x1000 (x1001 + (Utf8.decode x1000 x1001).2)))) else (some (-1))
def strings_indexFunc.f (k : Nat) (a0 : ByteArray) (g1 : Int → Option (Bool)) (a2 : Bool) : Option (Int) := strings_indexFunc.l0 k g1 a2 a0 0
theorem strings_indexFunc.con {k : Nat} {a0 : ByteArray} {g1 : Int → Option (Bool)} {a2 : Bool} {f1 : FuncId} {c1 : List V} (hg1 : ∀ (az0 : Int) r, g1 az0 = some r → Con Tryd.prog f1 ([K .i32 az0] ++ c1) (B r)) {r : (Int)} (H : strings_indexFunc.f k a0 g1 a2 = some r) : Con Tryd.prog 73 [S a0, .clo f1 c1, B a2] (I r) := by
  refine con_of_good Tryd.func73 rfl (by kernel_rfl) (by kernel_rfl) fun C hN hL => ?_
  unfold strings_indexFunc.f at H
  refine Good.seq ?_
  refine Good.reg hN [] .nil [] (by kernel_rfl) ?_
  refine Good.seq ?_
  refine Good.seq ?_
  refine Good.reg hN [] .nil [] (by kernel_rfl) ?_
  refine Good.block ?_
  refine Good.loopN (fun k' st => ∃ (x2 : Bool) (x1000 : ByteArray) (x1001 : Nat), k' ≤ k ∧ Wk C st ⟨[(1, .d (.v (.clo f1 c1))), (2, .d (.v (B x2))), (10, .d (.ptr 0 0))], [.iter x1000 x1001]⟩ ∧ strings_indexFunc.l0 k' g1 x2 x1000 x1001 = some r) k ⟨a2, a0, 0, Nat.le_refl _, Wk.of [(1, 0), (2, 0), (10, 0)] (by kernel_rfl) (by kernel_rfl), H⟩ fun k => ⟨fun st h => (by obtain ⟨_, _, _, _, _, H⟩ := h; cases H), ?_⟩
  clear H
  rintro st ⟨x2, x1000, x1001, hk, W, H⟩
  refine W.good ?_
  rw [strings_indexFunc.l0] at H
  refine Good.seq ?_
  rcases (ifC H).symm with ⟨c209, H⟩ | ⟨c209, H⟩
  · refine Good.reg hN [.kb false] (.cons c209 .nil) [] (by kernel_rfl) ?_
    refine Good.seq ?_
    refine Good.cond false (by kernel_rfl) ?_
    refine Good.exit ?_
    refine Good.seq ?_
    refine Good.reg hN [] .nil [] (by kernel_rfl) ?_
    obtain rfl := Option.some.inj H
    exact Good.ret (fin.doneR (by kernel_rfl))
  refine Good.reg hN [.kb true] (.cons c209 .nil) [] (by kernel_rfl) ?_
  refine Good.seq ?_
  refine Good.cond true (by kernel_rfl) ?_
  refine Good.skip ?_
  refine Good.block ?_
  refine Good.seq ?_
  refine Good.reg hN [] .nil [] (by kernel_rfl) ?_
  refine Good.seq ?_
  obtain ⟨t210, h211, H⟩ := bindS H
  refine Good.reg hN [B t210] (.cons (hg1 _ _ h211).c .nil) [] (by kernel_rfl) ?_
  rcases (ifC H).symm with ⟨c212, H⟩ | ⟨c212, H⟩
  · refine Good.condF (Bool.eq_false_iff.2 c212) (by kernel_rfl) ?_
    refine Good.skip ?_
    exact ⟨k, by omega, x2, x1000, x1001 + (Utf8.decode x1000 x1001).2, by omega, Wk.of [(1, 0), (2, 0), (10, 0)] (by kernel_rfl) (by kernel_rfl), H⟩
  refine Good.condT c212 (by kernel_rfl) ?_
  refine Good.seq ?_
  refine Good.reg hN [] .nil [] (by kernel_rfl) ?_
  obtain rfl := Option.some.inj H
  exact Good.ret (fin.doneR (by kernel_rfl))
def strings_IndexFunc.f (k : Nat) (a0 : ByteArray) (g1 : Int → Option (Bool)) : Option (Int) := (strings_indexFunc.f k a0 g1 true).bind fun t213 => (some t213)
theorem strings_IndexFunc.con {k : Nat} {a0 : ByteArray} {g1 : Int → Option (Bool)} {f1 : FuncId} {c1 : List V} (hg1 : ∀ (az0 : Int) r, g1 az0 = some r → Con Tryd.prog f1 ([K .i32 az0] ++ c1) (B r)) {r : (Int)} (H : strings_IndexFunc.f k a0 g1 = some r) : Con Tryd.prog 66 [S a0, .clo f1 c1] (I r) := by
  refine con_of_good Tryd.func66 rfl (by kernel_rfl) (by kernel_rfl) fun C hN hL => ?_
  unfold strings_IndexFunc.f at H
  refine Good.seq ?_
  refine Good.reg hN [] .nil [] (by kernel_rfl) ?_
  refine Good.seq ?_
  obtain ⟨t213, h214, H⟩ := bindS H
  refine Good.reg hN [I t213] (.cons (strings_indexFunc.con (f1 := f1) (c1 := c1) hg1 h214).c .nil) [] (by kernel_rfl) ?_
  obtain rfl := Option.some.inj H
  exact Good.ret (fin.doneR (by kernel_rfl))
def strings_ContainsFunc.f (k : Nat) (a0 : ByteArray) (g1 : Int → Option (Bool)) : Option (Bool) := (strings_IndexFunc.f k a0 g1).bind fun t215 => (some (decide (t215 ≥ 0)))
theorem strings_ContainsFunc.con {k : Nat} {a0 : ByteArray} {g1 : Int → Option (Bool)} {f1 : FuncId} {c1 : List V} (hg1 : ∀ (az0 : Int) r, g1 az0 = some r → Con Tryd.prog f1 ([K .i32 az0] ++ c1) (B r)) {r : (Bool)} (H : strings_ContainsFunc.f k a0 g1 = some r) : Con Tryd.prog 59 [S a0, .clo f1 c1] (B r) := by
  refine con_of_good Tryd.func59 rfl (by kernel_rfl) (by kernel_rfl) fun C hN hL => ?_
  unfold strings_ContainsFunc.f at H
  refine Good.seq ?_
  refine Good.reg hN [] .nil [] (by kernel_rfl) ?_
  refine Good.seq ?_
  obtain ⟨t215, h216, H⟩ := bindS H
  refine Good.reg hN [I t215] (.cons (strings_IndexFunc.con (f1 := f1) (c1 := c1) hg1 h216).c .nil) [] (by kernel_rfl) ?_
  obtain rfl := Option.some.inj H
  exact Good.ret (fin.doneR (by kernel_rfl))
def strs_Printable.f (k : Nat) (a0 : ByteArray) : Option (Bool) := (strings_ContainsFunc.f k a0 (fun z0 => strs_Printable_1.f k z0)).bind fun t217 => (some (!t217))
theorem strs_Printable.con {k : Nat} {a0 : ByteArray} {r : (Bool)} (H : strs_Printable.f k a0 = some r) : Con Tryd.prog 47 [S a0] (B r) := by
  refine con_of_good Tryd.func47 rfl (by kernel_rfl) (by kernel_rfl) fun C hN hL => ?_
  unfold strs_Printable.f at H
  refine Good.seq ?_
  refine Good.reg hN [] .nil [] (by kernel_rfl) ?_
  refine Good.seq ?_
  refine Good.reg hN [] .nil [] (by kernel_rfl) ?_
  refine Good.seq ?_
  obtain ⟨t217, h218, H⟩ := bindS H
  refine Good.reg hN [B t217] (.cons (strings_ContainsFunc.con (f1 := 57) (c1 := []) (fun _ _ h => strs_Printable_1.con h) h218).c .nil) [] (by kernel_rfl) ?_
  obtain rfl := Option.some.inj H
  exact Good.ret (fin.doneR (by kernel_rfl))
def strs_Right.f (k : Nat) (a0 : Int) (a1 : ByteArray) : Option (Bool) := if a0 = 1 then ((strs_Unbool.f a1).bind fun t220 => (some t220.2)) else (if a0 = 2 then ((whole_Right.f a1).bind fun t223 => (some t223)) else (if a0 = 3 then ((strs_Unbits.f k a1).bind fun t226 => (some t226.2.2)) else (if a0 = 4 then (some true) else (if a0 = 5 then (some (a1.toList == ([] : List UInt8))) else (if a0 = 6 then ((oid_Decode.f k a1).bind fun t231 => (some t231.2)) else (if a0 = 12 then ((strs_Utf.f a1).bind fun t234 => (some t234)) else (if a0 = 19 then ((strs_Printable.f k a1).bind fun t237 => (some t237)) else (some false))))))))
theorem strs_Right.con {k : Nat} {a0 : Int} {a1 : ByteArray} {r : (Bool)} (H : strs_Right.f k a0 a1 = some r) : Con Tryd.prog 37 [I a0, S a1] (B r) := by
  refine con_of_good Tryd.func37 rfl (by kernel_rfl) (by kernel_rfl) fun C hN hL => ?_
  unfold strs_Right.f at H
  refine Good.seq ?_
  refine Good.reg hN [] .nil [] (by kernel_rfl) ?_
  refine Good.seq ?_
  refine Good.reg hN [] .nil [] (by kernel_rfl) ?_
  refine Good.seq ?_
  refine Good.seq ?_
  refine Good.reg hN [] .nil [] (by kernel_rfl) ?_
  refine Good.block ?_
  refine Good.seq ?_
  refine Good.reg hN [] .nil [] (by kernel_rfl) ?_
  rcases ifC H with ⟨c219, H⟩ | ⟨c219, H⟩
  · refine Good.condT (beq_iff_eq.2 c219) (by kernel_rfl) ?_
    obtain ⟨t220, h221, H⟩ := bindS H
    refine Good.reg hN [.tup [B t220.1, B t220.2]] (.cons (strs_Unbool.con h221).c .nil) [] (by kernel_rfl) ?_
    refine Good.seq ?_
    refine Good.reg hN [] .nil [] (by kernel_rfl) ?_
    obtain rfl := Option.some.inj H
    exact Good.ret (fin.doneR (by kernel_rfl))
  refine Good.condF (beq_eq_false_iff_ne.2 c219) (by kernel_rfl) ?_
  refine Good.seq ?_
  refine Good.reg hN [] .nil [] (by kernel_rfl) ?_
  rcases ifC H with ⟨c222, H⟩ | ⟨c222, H⟩
  · refine Good.condT (beq_iff_eq.2 c222) (by kernel_rfl) ?_
    obtain ⟨t223, h224, H⟩ := bindS H
    refine Good.reg hN [B t223] (.cons (whole_Right.con h224).c .nil) [] (by kernel_rfl) ?_
    refine Good.seq ?_
    refine Good.reg hN [] .nil [] (by kernel_rfl) ?_
    obtain rfl := Option.some.inj H
    exact Good.ret (fin.doneR (by kernel_rfl))
  refine Good.condF (beq_eq_false_iff_ne.2 c222) (by kernel_rfl) ?_
  refine Good.seq ?_
  refine Good.reg hN [] .nil [] (by kernel_rfl) ?_
  rcases ifC H with ⟨c225, H⟩ | ⟨c225, H⟩
  · refine Good.condT (beq_iff_eq.2 c225) (by kernel_rfl) ?_
    obtain ⟨t226, h227, H⟩ := bindS H
    refine Good.reg hN [.tup [S t226.1, I t226.2.1, B t226.2.2]] (.cons (strs_Unbits.con h227).c .nil) [] (by kernel_rfl) ?_
    refine Good.seq ?_
    refine Good.reg hN [] .nil [] (by kernel_rfl) ?_
    obtain rfl := Option.some.inj H
    exact Good.ret (fin.doneR (by kernel_rfl))
  refine Good.condF (beq_eq_false_iff_ne.2 c225) (by kernel_rfl) ?_
  refine Good.seq ?_
  refine Good.reg hN [] .nil [] (by kernel_rfl) ?_
  rcases ifC H with ⟨c228, H⟩ | ⟨c228, H⟩
  · refine Good.condT (beq_iff_eq.2 c228) (by kernel_rfl) ?_
    refine Good.reg hN [] .nil [] (by kernel_rfl) ?_
    refine Good.seq ?_
    refine Good.reg hN [] .nil [] (by kernel_rfl) ?_
    obtain rfl := Option.some.inj H
    exact Good.ret (fin.doneR (by kernel_rfl))
  refine Good.condF (beq_eq_false_iff_ne.2 c228) (by kernel_rfl) ?_
  refine Good.seq ?_
  refine Good.reg hN [] .nil [] (by kernel_rfl) ?_
  rcases ifC H with ⟨c229, H⟩ | ⟨c229, H⟩
  · refine Good.condT (beq_iff_eq.2 c229) (by kernel_rfl) ?_
    refine Good.reg hN [] (.cons (strV (rfl : a1.toList = a1.toList) (litL ([] : List UInt8))) .nil) [(31, .bool (a1.toList == ([] : List UInt8)))] (by kernel_rfl) ?_
    refine Good.seq ?_
    refine Good.reg hN [] .nil [] (by kernel_rfl) ?_
    obtain rfl := Option.some.inj H
    exact Good.ret (fin.doneR (by kernel_rfl))
  refine Good.condF (beq_eq_false_iff_ne.2 c229) (by kernel_rfl) ?_
  refine Good.seq ?_
  refine Good.reg hN [] .nil [] (by kernel_rfl) ?_
  rcases ifC H with ⟨c230, H⟩ | ⟨c230, H⟩
  · refine Good.condT (beq_iff_eq.2 c230) (by kernel_rfl) ?_
    obtain ⟨t231, h232, H⟩ := bindS H
    refine Good.reg hN [.tup [.row none 1 (List.map I t231.1), B t231.2]] (.cons (oid_Decode.con h232).c .nil) [] (by kernel_rfl) ?_
    refine Good.seq ?_
    refine Good.reg hN [] .nil [] (by kernel_rfl) ?_
    obtain rfl := Option.some.inj H
    exact Good.ret (fin.doneR (by kernel_rfl))
  refine Good.condF (beq_eq_false_iff_ne.2 c230) (by kernel_rfl) ?_
  refine Good.seq ?_
  refine Good.reg hN [] .nil [] (by kernel_rfl) ?_
  rcases ifC H with ⟨c233, H⟩ | ⟨c233, H⟩
  · refine Good.condT (beq_iff_eq.2 c233) (by kernel_rfl) ?_
    obtain ⟨t234, h235, H⟩ := bindS H
    refine Good.reg hN [B t234] (.cons (strs_Utf.con h235).c .nil) [] (by kernel_rfl) ?_
    refine Good.seq ?_
    refine Good.reg hN [] .nil [] (by kernel_rfl) ?_
    obtain rfl := Option.some.inj H
    exact Good.ret (fin.doneR (by kernel_rfl))
  refine Good.condF (beq_eq_false_iff_ne.2 c233) (by kernel_rfl) ?_
  refine Good.seq ?_
  refine Good.reg hN [] .nil [] (by kernel_rfl) ?_
  rcases (ifC H).symm with ⟨c236, H⟩ | ⟨c236, H⟩
  · refine Good.condF (beq_eq_false_iff_ne.2 c236) (by kernel_rfl) ?_
    refine Good.skip ?_
    refine Good.seq ?_
    refine Good.reg hN [] .nil [] (by kernel_rfl) ?_
    obtain rfl := Option.some.inj H
    exact Good.ret (fin.doneR (by kernel_rfl))
  refine Good.condT (beq_iff_eq.2 c236) (by kernel_rfl) ?_
  obtain ⟨t237, h238, H⟩ := bindS H
  refine Good.reg hN [B t237] (.cons (strs_Printable.con h238).c .nil) [] (by kernel_rfl) ?_
  refine Good.seq ?_
  refine Good.reg hN [] .nil [] (by kernel_rfl) ?_
  obtain rfl := Option.some.inj H
  exact Good.ret (fin.doneR (by kernel_rfl))
def tlv_reader_may.j0 : Nat → ByteArray → Bool → ByteArray → List S40 → List (Nat × Nat) → List Int → Int → Bool → Option (Int × ByteArray × List S40 × List (Nat × Nat) × List Int)
 | 0, _, _, _, _, _, _, _, _ => none
 | k + 1, x2, x25, x1000, x1001, x1002, x1003, x2001, x2002 => if x25 = true then (some (0, x1000, x1001, x1002, x1003)) else (if x2002 = true then (some (5, x1000, x1001, x1002, x1003)) else ((strs_Right.f k x2001 x2).bind fun t246 => (if t246 = true then (some (0, x1000, x1001, x1002, x1003)) else (some (5, x1000, x1001, x1002, x1003)))))
def tlv_reader_may.f (k : Nat) (a0_0 : ByteArray) (l0_1 : List S40) (l0_2 : List (Nat × Nat)) (l0_3 : List Int) (a1_0 : Int) (a1_1 : Int) (a1_2 : Bool) (a1_3 : Int) (a2 : ByteArray) : Option (Int × ByteArray × List S40 × List (Nat × Nat) × List Int) := if (l0_3.length : Int) ≥ 16 then (some (6, a0_0, l0_1, l0_2, l0_3)) else (if (l0_1.length : Int) ≥ 1000 then (some (4, a0_0, l0_1, l0_2, l0_3)) else (if a1_0 = 0 then (if a1_2 = true then (if a1_1 = 16 then (tlv_reader_may.j0 k a2 true a0_0 l0_1 l0_2 l0_3 a1_1 a1_2) else (tlv_reader_may.j0 k a2 (a1_1 == 17) a0_0 l0_1 l0_2 l0_3 a1_1 a1_2)) else (tlv_reader_may.j0 k a2 false a0_0 l0_1 l0_2 l0_3 a1_1 a1_2)) else (some (0, a0_0, l0_1, l0_2, l0_3))))
theorem tlv_reader_may.con {k : Nat} {a0_0 : ByteArray} {l0_1 : List S40} {l0_2 : List (Nat × Nat)} {l0_3 : List Int} {a1_0 : Int} {a1_1 : Int} {a1_2 : Bool} {a1_3 : Int} {a2 : ByteArray} {r : (Int × ByteArray × List S40 × List (Nat × Nat) × List Int)} (H : tlv_reader_may.f k a0_0 l0_1 l0_2 l0_3 a1_0 a1_1 a1_2 a1_3 a2 = some r) : ConX Tryd.prog 28 [.ptr 0 0, .v (.agg [I a1_0, I a1_1, B a1_2, I a1_3]), .v (S a2)] [[S a0_0, .row (some 40) 5 (List.map (v40 1) l0_1), .row (some 36) 1 (List.map Cx l0_2), .row (some 3) 1 (List.map I l0_3)]] (.v (I r.1)) [[S r.2.1, .row (some 40) 5 (List.map (v40 1) r.2.2.1), .row (some 36) 1 (List.map Cx r.2.2.2.1), .row (some 3) 1 (List.map I r.2.2.2.2)]] := by
  refine conX_of_good Tryd.func28 rfl (by kernel_rfl) (by kernel_rfl) fun C hN hL => ?_
  unfold tlv_reader_may.f at H
  refine Good.seq ?_
  refine Good.reg hN [] .nil [] (by kernel_rfl) ?_
  refine Good.seq ?_
  refine Good.block ?_
  refine Good.seq ?_
  refine Good.reg hN [I (l0_3.length : Int)] (.cons (lenM I l0_3) .nil) [] (by kernel_rfl) ?_
  rcases ifC H with ⟨c239, H⟩ | ⟨c239, H⟩
  · refine Good.condT (decide_eq_true c239) (by kernel_rfl) ?_
    refine Good.seq ?_
    refine Good.reg hN [] .nil [] (by kernel_rfl) ?_
    obtain rfl := Option.some.inj H
    exact Good.ret (finX_fitR (.refl _) (FitLL.refl _) (by kernel_rfl) rfl)
  refine Good.condF (decide_eq_false c239) (by kernel_rfl) ?_
  refine Good.seq ?_
  refine Good.reg hN [I (l0_1.length : Int)] (.cons (lenM (v40 1) l0_1) .nil) [] (by kernel_rfl) ?_
  rcases ifC H with ⟨c240, H⟩ | ⟨c240, H⟩
  · refine Good.condT (decide_eq_true c240) (by kernel_rfl) ?_
    refine Good.seq ?_
    refine Good.reg hN [] .nil [] (by kernel_rfl) ?_
    obtain rfl := Option.some.inj H
    exact Good.ret (finX_fitR (.refl _) (FitLL.refl _) (by kernel_rfl) rfl)
  refine Good.condF (decide_eq_false c240) (by kernel_rfl) ?_
  refine Good.seq ?_
  refine Good.reg hN [] .nil [] (by kernel_rfl) ?_
  rcases (ifC H).symm with ⟨c241, H⟩ | ⟨c241, H⟩
  · refine Good.condT (bne_iff_ne.2 c241) (by kernel_rfl) ?_
    refine Good.seq ?_
    refine Good.reg hN [] .nil [] (by kernel_rfl) ?_
    obtain rfl := Option.some.inj H
    exact Good.ret (finX_fitR (.refl _) (FitLL.refl _) (by kernel_rfl) rfl)
  refine Good.condF (bneF c241) (by kernel_rfl) ?_
  refine Good.seq ?_
  refine Good.seq ?_
  refine Good.cut (fun st => ∃ (x2 : ByteArray) (x25 : Bool) (x1000 : ByteArray) (x1001 : List S40) (x1002 : List (Nat × Nat)) (x1003 : List Int) (x2000 : Int) (x2001 : Int) (x2002 : Bool) (x2003 : Int), Wk C st ⟨[(2, .d (.v (S x2))), (4, .d (.ptr 1 0)), (25, .d (.v (B x25)))], [.cells [.v (S x1000), .v (.row (some 40) 5 (List.map (v40 1) x1001)), .v (.row (some 36) 1 (List.map Cx x1002)), .v (.row (some 3) 1 (List.map I x1003))], .cells [.v (I x2000), .v (I x2001), .v (B x2002), .v (I x2003)]]⟩ ∧ tlv_reader_may.j0 k x2 x25 x1000 x1001 x1002 x1003 x2001 x2002 = some r) ?_ ?_
  · rcases (ifC H).symm with ⟨c242, H⟩ | ⟨c242, H⟩
    · refine Good.reg hN [B false] (.cons (Bool.eq_false_iff.2 c242) .nil) [] (by kernel_rfl) ?_
      exact ⟨a2, false, a0_0, l0_1, l0_2, l0_3, a1_0, a1_1, a1_2, a1_3, Wk.of [(2, 0), (4, 0), (25, 0)] (by kernel_rfl) (by kernel_rfl), H⟩
    rcases ifC H with ⟨c243, H⟩ | ⟨c243, H⟩
    · refine Good.reg hN [B true, B true] (.cons c242 (.cons (beq_iff_eq.2 c243) .nil)) [] (by kernel_rfl) ?_
      exact ⟨a2, true, a0_0, l0_1, l0_2, l0_3, a1_0, a1_1, a1_2, a1_3, Wk.of [(2, 0), (4, 0), (25, 0)] (by kernel_rfl) (by kernel_rfl), H⟩
    refine Good.reg hN [B true, B false] (.cons c242 (.cons (beq_eq_false_iff_ne.2 c243) .nil)) [] (by kernel_rfl) ?_
    exact ⟨a2, (a1_1 == 17), a0_0, l0_1, l0_2, l0_3, a1_0, a1_1, a1_2, a1_3, Wk.of [(2, 0), (4, 0), (25, 0)] (by kernel_rfl) (by kernel_rfl), H⟩
  clear H
  rintro st ⟨x2, x25, x1000, x1001, x1002, x1003, x2000, x2001, x2002, x2003, W, H⟩
  rcases k with _ | k
  · cases H
  refine W.good ?_
  rw [tlv_reader_may.j0] at H
  rcases ifC H with ⟨c244, H⟩ | ⟨c244, H⟩
  · refine Good.condT c244 (by kernel_rfl) ?_
    refine Good.skip ?_
    refine Good.condT c244 (by kernel_rfl) ?_
    refine Good.seq ?_
    refine Good.reg hN [] .nil [] (by kernel_rfl) ?_
    obtain rfl := Option.some.inj H
    exact Good.ret (finX_fitR (.refl _) (FitLL.refl _) (by kernel_rfl) rfl)
  refine Good.condF (Bool.eq_false_iff.2 c244) (by kernel_rfl) ?_
  rcases ifC H with ⟨c245, H⟩ | ⟨c245, H⟩
  · refine Good.reg hN [B false] (.cons (notF c245) .nil) [] (by kernel_rfl) ?_
    refine Good.cond false (by kernel_rfl) ?_
    refine Good.skip ?_
    refine Good.seq ?_
    refine Good.reg hN [] .nil [] (by kernel_rfl) ?_
    obtain rfl := Option.some.inj H
    exact Good.ret (finX_fitR (.refl _) (FitLL.refl _) (by kernel_rfl) rfl)
  obtain ⟨t246, h247, H⟩ := bindS H
  refine Good.reg hN [B true, B t246] (.cons (notT (Bool.eq_false_iff.2 c245)) (.cons (strs_Right.con h247).c .nil)) [] (by kernel_rfl) ?_
  rcases ifC H with ⟨c248, H⟩ | ⟨c248, H⟩
  · refine Good.condT c248 (by kernel_rfl) ?_
    refine Good.seq ?_
    refine Good.reg hN [] .nil [] (by kernel_rfl) ?_
    obtain rfl := Option.some.inj H
    exact Good.ret (finX_fitR (.refl _) (FitLL.refl _) (by kernel_rfl) rfl)
  refine Good.condF (Bool.eq_false_iff.2 c248) (by kernel_rfl) ?_
  refine Good.skip ?_
  refine Good.seq ?_
  refine Good.reg hN [] .nil [] (by kernel_rfl) ?_
  obtain rfl := Option.some.inj H
  exact Good.ret (finX_fitR (.refl _) (FitLL.refl _) (by kernel_rfl) rfl)
def tlv_reader_put.f (a0_0 : ByteArray) (l0_1 : List S40) (l0_2 : List (Nat × Nat)) (l0_3 : List Int) (a1_0 : Int) (a1_1 : Int) (a1_2 : Bool) (a1_3 : Int) (a2 : ByteArray) (a3 : (Nat × Nat)) : Option (List S40 × List (Nat × Nat) × List Int) := if (l0_3.length : Int) > 0 then (if 0 ≤ (wrap64 ((l0_3.length : Int) - 1)) then (if (wrap64 ((l0_3.length : Int) - 1)) < (l0_3.length : Int) then (if 0 ≤ (rd l0_3 (wrap64 ((l0_3.length : Int) - 1))) then (if (rd l0_3 (wrap64 ((l0_3.length : Int) - 1))) < (l0_1.length : Int) then (if ((rd_T40 l0_1 (rd l0_3 (wrap64 ((l0_3.length : Int) - 1)))).f4).length < 17592186044416 then ((some (l0_1.set ((rd l0_3 (wrap64 ((l0_3.length : Int) - 1))) : Int).toNat (⟨(rd_T40 l0_1 (rd l0_3 (wrap64 ((l0_3.length : Int) - 1)))).f0, (rd_T40 l0_1 (rd l0_3 (wrap64 ((l0_3.length : Int) - 1)))).f1, (rd_T40 l0_1 (rd l0_3 (wrap64 ((l0_3.length : Int) - 1)))).f2, (rd_T40 l0_1 (rd l0_3 (wrap64 ((l0_3.length : Int) - 1)))).f3, (((rd_T40 l0_1 (rd l0_3 (wrap64 ((l0_3.length : Int) - 1)))).f4) ++ [(l0_1.length : Int)])⟩ : S40) : List S40)).bind fun y256 => (if a1_2 = true then (if l0_3.length < 17592186044416 then (if y256.length < 2199023255552 then (if l0_2.length < 8796093022208 then (some ((y256 ++ [(⟨a1_0, a1_1, a1_2, (⟨#[]⟩ : ByteArray), ([] : List Int)⟩ : S40)]), (l0_2 ++ [a3]), (l0_3 ++ [(l0_1.length : Int)]))) else (none)) else (none)) else (none)) else (if y256.length < 2199023255552 then (if l0_2.length < 8796093022208 then (some ((y256 ++ [(⟨a1_0, a1_1, a1_2, a2, ([] : List Int)⟩ : S40)]), (l0_2 ++ [a3]), l0_3)) else (none)) else (none)))) else (none)) else (none)) else (none)) else (none)) else (none)) else (if a1_2 = true then (if l0_3.length < 17592186044416 then (if l0_1.length < 2199023255552 then (if l0_2.length < 8796093022208 then (some ((l0_1 ++ [(⟨a1_0, a1_1, a1_2, (⟨#[]⟩ : ByteArray), ([] : List Int)⟩ : S40)]), (l0_2 ++ [a3]), (l0_3 ++ [(l0_1.length : Int)]))) else (none)) else (none)) else (none)) else (if l0_1.length < 2199023255552 then (if l0_2.length < 8796093022208 then (some ((l0_1 ++ [(⟨a1_0, a1_1, a1_2, a2, ([] : List Int)⟩ : S40)]), (l0_2 ++ [a3]), l0_3)) else (none)) else (none)))
theorem tlv_reader_put.con {a0_0 : ByteArray} {l0_1 : List S40} {l0_2 : List (Nat × Nat)} {l0_3 : List Int} {a1_0 : Int} {a1_1 : Int} {a1_2 : Bool} {a1_3 : Int} {a2 : ByteArray} {a3 : (Nat × Nat)} {r : (List S40 × List (Nat × Nat) × List Int)} (H : tlv_reader_put.f a0_0 l0_1 l0_2 l0_3 a1_0 a1_1 a1_2 a1_3 a2 a3 = some r) : ConX Tryd.prog 29 [.ptr 0 0, .v (.agg [I a1_0, I a1_1, B a1_2, I a1_3]), .v (S a2), .v (Cx a3)] [[S a0_0, .row (some 40) 5 (List.map (v40 1) l0_1), .row (some 36) 1 (List.map Cx l0_2), .row (some 3) 1 (List.map I l0_3)]] (.v (.tup [])) [[S a0_0, .row (some 40) 5 (List.map (v40 1) r.1), .row (some 36) 1 (List.map Cx r.2.1), .row (some 3) 1 (List.map I r.2.2)]] := by
  refine conX_of_good Tryd.func29 rfl (by kernel_rfl) (by kernel_rfl) fun C hN hL => ?_
  unfold tlv_reader_put.f at H
  refine Good.seq ?_
  refine Good.reg hN [] .nil [] (by kernel_rfl) ?_
  refine Good.seq ?_
  refine Good.reg hN [I (l0_1.length : Int)] (.cons (lenM (v40 1) l0_1) .nil) [] (by kernel_rfl) ?_
  refine Good.seq ?_
  refine Good.seq ?_
  refine Good.reg hN [I (l0_3.length : Int)] (.cons (lenM I l0_3) .nil) [] (by kernel_rfl) ?_
  rcases (ifC H).symm with ⟨c249, H⟩ | ⟨c249, H⟩
  · refine Good.condF (decide_eq_false c249) (by kernel_rfl) ?_
    refine Good.skip ?_
    refine Good.seq ?_
    refine Good.reg hN [] .nil [] (by kernel_rfl) ?_
    refine Good.seq ?_
    refine Good.seq ?_
    refine Good.reg hN [] .nil [] (by kernel_rfl) ?_
    rcases (ifC H).symm with ⟨c268, H⟩ | ⟨c268, H⟩
    · refine Good.condF (Bool.eq_false_iff.2 c268) (by kernel_rfl) ?_
      refine Good.reg hN [] .nil [] (by kernel_rfl) ?_
      refine Good.seq ?_
      obtain ⟨c275, H⟩ := ifS H
      refine Good.regDF hm hN (.i 0 (.q 1 [[4, 3, 2], []] (.q 2 [[4, 3], []] (.q 3 [[4], []] (.q 4 [[], []] (.q 5 [[6], []] (.e 6 (.e 7 (.i 8 (.i 9 (.e 10 .z))))))))))) [(0, some (.pt [S a0_0, .row none 5 (List.map (v40 0) l0_1), .row none 1 (List.map Cx l0_2), .row none 1 (List.map I l0_3)])), (10, some (.pt [I a1_0, I a1_1, B a1_2, S a2, .nil 3 1]))] (by kernel_rfl) (.cons (ptS (shrC (rfl : (V.shr (S a0_0)) = S a0_0) (shrC (shrM (some 40) 5 (v40 1) (v40 0) l0_1 (v40.shr _)) (shrC (shrM (some 36) 1 Cx Cx l0_2 (fun _ => rfl)) (shrC (shrM (some 3) 1 I I l0_3 (fun _ => rfl)) (rfl : shrL [] = [])))))) (.cons (ptS (shrC (rfl : (V.shr (I a1_0)) = I a1_0) (shrC (rfl : (V.shr (I a1_1)) = I a1_1) (shrC (rfl : (V.shr (B a1_2)) = B a1_2) (shrC (rfl : (V.shr (S a2)) = S a2) (shrC (rfl : (V.shr (.nil 3 1)) = .nil 3 1) (rfl : shrL [] = []))))))) .nil)) [.kb true, .row (some 40) 5 (List.map (v40 1) (l0_1 ++ [(⟨a1_0, a1_1, a1_2, a2, ([] : List Int)⟩ : S40)]))] [] (.cons (fitM (v40 1) l0_1 [(⟨a1_0, a1_1, a1_2, a2, ([] : List Int)⟩ : S40)] (.cons (.agg (.cons (.refl _) (.cons (.refl _) (.cons (.refl _) (.cons (.refl _) (.cons (.nilO 3 1) .nil)))))) .nil)) (.cons (limM1 (v40 1) c275) .nil)) .nil [] [] (by kernel_rfl) (by kernel_rfl) ?_
      obtain ⟨c277, H⟩ := ifS H
      refine Good.reg hN [.kb true, .row (some 36) 1 (List.map Cx (l0_2 ++ [a3]))] (.cons (fitM Cx l0_2 [a3] (.refl _)) (.cons (limM1 Cx c277) .nil)) [] (by kernel_rfl) ?_
      obtain rfl := Option.some.inj H
      exact finX_fit (.refl _) (FitLL.refl _) (by kernel_rfl) rfl
    refine Good.condT c268 (by kernel_rfl) ?_
    obtain ⟨c269, H⟩ := ifS H
    refine Good.reg hN [.kb true, .row (some 3) 1 (List.map I (l0_3 ++ [(l0_1.length : Int)]))] (.cons (fitM I l0_3 [(l0_1.length : Int)] (.refl _)) (.cons (limM1 I c269) .nil)) [] (by kernel_rfl) ?_
    refine Good.seq ?_
    obtain ⟨c271, H⟩ := ifS H
    refine Good.regDF hm hN (.i 0 (.q 1 [[4, 3, 2], []] (.q 2 [[4, 3], []] (.q 3 [[4], []] (.q 4 [[], []] (.q 5 [[6], []] (.e 6 (.e 7 (.i 8 (.i 9 (.e 10 .z))))))))))) [(0, some (.pt [S a0_0, .row none 5 (List.map (v40 0) l0_1), .row none 1 (List.map Cx l0_2), .row none 1 (List.map I (l0_3 ++ [(l0_1.length : Int)]))])), (10, some (.pt [I a1_0, I a1_1, B a1_2, S (⟨#[]⟩ : ByteArray), .nil 3 1]))] (by kernel_rfl) (.cons (ptS (shrC (rfl : (V.shr (S a0_0)) = S a0_0) (shrC (shrM (some 40) 5 (v40 1) (v40 0) l0_1 (v40.shr _)) (shrC (shrM (some 36) 1 Cx Cx l0_2 (fun _ => rfl)) (shrC (shrM (some 3) 1 I I (l0_3 ++ [(l0_1.length : Int)]) (fun _ => rfl)) (rfl : shrL [] = [])))))) (.cons (ptS (shrC (rfl : (V.shr (I a1_0)) = I a1_0) (shrC (rfl : (V.shr (I a1_1)) = I a1_1) (shrC (rfl : (V.shr (B a1_2)) = B a1_2) (shrC (rfl : (V.shr (S (⟨#[]⟩ : ByteArray))) = S (⟨#[]⟩ : ByteArray)) (shrC (rfl : (V.shr (.nil 3 1)) = .nil 3 1) (rfl : shrL [] = []))))))) .nil)) [.kb true, .row (some 40) 5 (List.map (v40 1) (l0_1 ++ [(⟨a1_0, a1_1, a1_2, (⟨#[]⟩ : ByteArray), ([] : List Int)⟩ : S40)]))] [] (.cons (fitM (v40 1) l0_1 [(⟨a1_0, a1_1, a1_2, (⟨#[]⟩ : ByteArray), ([] : List Int)⟩ : S40)] (.cons (.agg (.cons (.refl _) (.cons (.refl _) (.cons (.refl _) (.cons (.refl _) (.cons (.nilO 3 1) .nil)))))) .nil)) (.cons (limM1 (v40 1) c271) .nil)) .nil [] [] (by kernel_rfl) (by kernel_rfl) ?_
    obtain ⟨c273, H⟩ := ifS H
    refine Good.reg hN [.kb true, .row (some 36) 1 (List.map Cx (l0_2 ++ [a3]))] (.cons (fitM Cx l0_2 [a3] (.refl _)) (.cons (limM1 Cx c273) .nil)) [] (by kernel_rfl) ?_
    obtain rfl := Option.some.inj H
    exact finX_fit (.refl _) (FitLL.refl _) (by kernel_rfl) rfl
  refine Good.condT (decide_eq_true c249) (by kernel_rfl) ?_
  refine Good.seq ?_
  obtain ⟨c250, H⟩ := ifS H
  obtain ⟨c251, H⟩ := ifS H
  refine Good.regDF hm hN (.q 0 [] (.q 1 [] (.q 2 [] (.q 3 [] (.q 4 [] (.q 5 [] (.q 6 [] (.q 7 [] (.q 8 [] (.q 9 [] (.q 10 [] (.q 11 [] (.q 12 [] .z))))))))))))) [(0, some (.pt [S a0_0, .row none 5 (List.map (v40 0) l0_1), .row none 1 (List.map Cx l0_2), .row none 1 (List.map I l0_3)]))] (by kernel_rfl) (.cons (ptS (shrC (rfl : (V.shr (S a0_0)) = S a0_0) (shrC (shrM (some 40) 5 (v40 1) (v40 0) l0_1 (v40.shr _)) (shrC (shrM (some 36) 1 Cx Cx l0_2 (fun _ => rfl)) (shrC (shrM (some 3) 1 I I l0_3 (fun _ => rfl)) (rfl : shrL [] = [])))))) .nil) [I (l0_3.length : Int), I (rd l0_3 (wrap64 ((l0_3.length : Int) - 1)))] [I (l0_3.length : Int), I (rd l0_3 (wrap64 ((l0_3.length : Int) - 1)))] (.cons (lenM I l0_3) (.cons c250 (.cons (ltM I c251) (.cons (atM I (0 : Int) c250 c251) .nil)))) (.cons (lenM I l0_3) (.cons c250 (.cons (atM I (0 : Int) c250 c251) .nil))) [] [] (by kernel_rfl) (by kernel_rfl) ?_
  obtain ⟨c252, H⟩ := ifS H
  obtain ⟨c253, H⟩ := ifS H
  obtain ⟨c254, H⟩ := ifS H
  replace H := bindI H
  refine Good.regTB (n := 3) hm hN hL (.i 0 (.i 1 (.i 2 (.i 4 (.q 5 [[12, 11, 10, 8, 7, 6], []] (.q 6 [[12, 11, 10, 8, 7], []] (.q 7 [[12, 11, 10, 8], []] (.q 8 [[12, 11, 10], []] (.q 9 [[12, 11, 10], []] (.q 10 [[12, 11], []] (.q 11 [[12], []] (.q 12 [[], []] (.q 13 [[14], []] (.b 3 [.kb true, (v40 1) (rd_T40 l0_1 (rd l0_3 (wrap64 ((l0_3.length : Int) - 1)))), .row (some 3) 1 (List.map I (((rd_T40 l0_1 (rd l0_3 (wrap64 ((l0_3.length : Int) - 1)))).f4) ++ [(l0_1.length : Int)])), setC ((v40 1) (rd_T40 l0_1 (rd l0_3 (wrap64 ((l0_3.length : Int) - 1))))) 4 [.any], (v40 1) (⟨(rd_T40 l0_1 (rd l0_3 (wrap64 ((l0_3.length : Int) - 1)))).f0, (rd_T40 l0_1 (rd l0_3 (wrap64 ((l0_3.length : Int) - 1)))).f1, (rd_T40 l0_1 (rd l0_3 (wrap64 ((l0_3.length : Int) - 1)))).f2, (rd_T40 l0_1 (rd l0_3 (wrap64 ((l0_3.length : Int) - 1)))).f3, (((rd_T40 l0_1 (rd l0_3 (wrap64 ((l0_3.length : Int) - 1)))).f4) ++ [(l0_1.length : Int)])⟩ : S40), .row (some 40) 5 (List.map (v40 1) (l0_1.set ((rd l0_3 (wrap64 ((l0_3.length : Int) - 1))) : Int).toNat (⟨(rd_T40 l0_1 (rd l0_3 (wrap64 ((l0_3.length : Int) - 1)))).f0, (rd_T40 l0_1 (rd l0_3 (wrap64 ((l0_3.length : Int) - 1)))).f1, (rd_T40 l0_1 (rd l0_3 (wrap64 ((l0_3.length : Int) - 1)))).f2, (rd_T40 l0_1 (rd l0_3 (wrap64 ((l0_3.length : Int) - 1)))).f3, (((rd_T40 l0_1 (rd l0_3 (wrap64 ((l0_3.length : Int) - 1)))).f4) ++ [(l0_1.length : Int)])⟩ : S40)))] [] (.e 14 (.e 15 (.e 16 (.e 17 (.e 18 .z))))) [] [] (.e 14 (.b 3 [.kb true, (v40 1) (rd_T40 l0_1 (rd l0_3 (wrap64 ((l0_3.length : Int) - 1)))), .row (some 3) 1 (List.map I (((rd_T40 l0_1 (rd l0_3 (wrap64 ((l0_3.length : Int) - 1)))).f4) ++ [(l0_1.length : Int)])), setC ((v40 1) (rd_T40 l0_1 (rd l0_3 (wrap64 ((l0_3.length : Int) - 1))))) 4 [.any], (v40 1) (⟨(rd_T40 l0_1 (rd l0_3 (wrap64 ((l0_3.length : Int) - 1)))).f0, (rd_T40 l0_1 (rd l0_3 (wrap64 ((l0_3.length : Int) - 1)))).f1, (rd_T40 l0_1 (rd l0_3 (wrap64 ((l0_3.length : Int) - 1)))).f2, (rd_T40 l0_1 (rd l0_3 (wrap64 ((l0_3.length : Int) - 1)))).f3, (((rd_T40 l0_1 (rd l0_3 (wrap64 ((l0_3.length : Int) - 1)))).f4) ++ [(l0_1.length : Int)])⟩ : S40), .row (some 40) 5 (List.map (v40 1) (l0_1.set ((rd l0_3 (wrap64 ((l0_3.length : Int) - 1))) : Int).toNat (⟨(rd_T40 l0_1 (rd l0_3 (wrap64 ((l0_3.length : Int) - 1)))).f0, (rd_T40 l0_1 (rd l0_3 (wrap64 ((l0_3.length : Int) - 1)))).f1, (rd_T40 l0_1 (rd l0_3 (wrap64 ((l0_3.length : Int) - 1)))).f2, (rd_T40 l0_1 (rd l0_3 (wrap64 ((l0_3.length : Int) - 1)))).f3, (((rd_T40 l0_1 (rd l0_3 (wrap64 ((l0_3.length : Int) - 1)))).f4) ++ [(l0_1.length : Int)])⟩ : S40)))] [] (.e 15 (.e 16 (.e 17 (.e 18 .z)))) [.kb true, (v40 1) (rd_T40 l0_1 (rd l0_3 (wrap64 ((l0_3.length : Int) - 1)))), .row (some 3) 1 (List.map I (((rd_T40 l0_1 (rd l0_3 (wrap64 ((l0_3.length : Int) - 1)))).f4) ++ [(l0_1.length : Int)])), setC ((v40 1) (rd_T40 l0_1 (rd l0_3 (wrap64 ((l0_3.length : Int) - 1))))) 4 [.any], (v40 1) (⟨(rd_T40 l0_1 (rd l0_3 (wrap64 ((l0_3.length : Int) - 1)))).f0, (rd_T40 l0_1 (rd l0_3 (wrap64 ((l0_3.length : Int) - 1)))).f1, (rd_T40 l0_1 (rd l0_3 (wrap64 ((l0_3.length : Int) - 1)))).f2, (rd_T40 l0_1 (rd l0_3 (wrap64 ((l0_3.length : Int) - 1)))).f3, (((rd_T40 l0_1 (rd l0_3 (wrap64 ((l0_3.length : Int) - 1)))).f4) ++ [(l0_1.length : Int)])⟩ : S40), .row (some 40) 5 (List.map (v40 1) (l0_1.set ((rd l0_3 (wrap64 ((l0_3.length : Int) - 1))) : Int).toNat (⟨(rd_T40 l0_1 (rd l0_3 (wrap64 ((l0_3.length : Int) - 1)))).f0, (rd_T40 l0_1 (rd l0_3 (wrap64 ((l0_3.length : Int) - 1)))).f1, (rd_T40 l0_1 (rd l0_3 (wrap64 ((l0_3.length : Int) - 1)))).f2, (rd_T40 l0_1 (rd l0_3 (wrap64 ((l0_3.length : Int) - 1)))).f3, (((rd_T40 l0_1 (rd l0_3 (wrap64 ((l0_3.length : Int) - 1)))).f4) ++ [(l0_1.length : Int)])⟩ : S40)))] [] (.e 15 (.e 3 (.e 16 (.e 17 (.e 18 .z))))))))))))))))))))) [(0, some (.pt [S a0_0, .row none 5 (List.map (v40 0) l0_1), .row none 1 (List.map Cx l0_2), .row none 1 (List.map I l0_3)])), (8, none), (9, none)] (by kernel_rfl) (.cons (ptS (shrC (rfl : (V.shr (S a0_0)) = S a0_0) (shrC (shrM (some 40) 5 (v40 1) (v40 0) l0_1 (v40.shr _)) (shrC (shrM (some 36) 1 Cx Cx l0_2 (fun _ => rfl)) (shrC (shrM (some 3) 1 I I l0_3 (fun _ => rfl)) (rfl : shrL [] = [])))))) .nil) [(v40 1) (rd_T40 l0_1 (rd l0_3 (wrap64 ((l0_3.length : Int) - 1))))] [(v40 0) (rd_T40 l0_1 (rd l0_3 (wrap64 ((l0_3.length : Int) - 1))))] (.cons (.cons c252 (.cons (ltM (v40 1) c253) (.cons (atM (v40 1) z40 c252 c253) (.cons (atM (v40 1) z40 c252 c253) (.cons (fitM I ((rd_T40 l0_1 (rd l0_3 (wrap64 ((l0_3.length : Int) - 1)))).f4) [(l0_1.length : Int)] (.refl _)) (.cons (limM1 I c254) (.cons c252 (.cons (ltH (v40 1) (m := ((rd l0_3 (wrap64 ((l0_3.length : Int) - 1))) : Int).toNat) (X := setC ((v40 1) (rd_T40 l0_1 (rd l0_3 (wrap64 ((l0_3.length : Int) - 1))))) 4 [.any]) c253) (.cons (atH (v40 1) (X := setC ((v40 1) (rd_T40 l0_1 (rd l0_3 (wrap64 ((l0_3.length : Int) - 1))))) 4 [.any]) c252 c253) (.cons (Fit.refl ((v40 1) (⟨(rd_T40 l0_1 (rd l0_3 (wrap64 ((l0_3.length : Int) - 1)))).f0, (rd_T40 l0_1 (rd l0_3 (wrap64 ((l0_3.length : Int) - 1)))).f1, (rd_T40 l0_1 (rd l0_3 (wrap64 ((l0_3.length : Int) - 1)))).f2, (rd_T40 l0_1 (rd l0_3 (wrap64 ((l0_3.length : Int) - 1)))).f3, (((rd_T40 l0_1 (rd l0_3 (wrap64 ((l0_3.length : Int) - 1)))).f4) ++ [(l0_1.length : Int)])⟩ : S40))) (.cons (setH (v40 1) (l := l0_1) (n := ((rd l0_3 (wrap64 ((l0_3.length : Int) - 1))) : Int).toNat) (x := (⟨(rd_T40 l0_1 (rd l0_3 (wrap64 ((l0_3.length : Int) - 1)))).f0, (rd_T40 l0_1 (rd l0_3 (wrap64 ((l0_3.length : Int) - 1)))).f1, (rd_T40 l0_1 (rd l0_3 (wrap64 ((l0_3.length : Int) - 1)))).f2, (rd_T40 l0_1 (rd l0_3 (wrap64 ((l0_3.length : Int) - 1)))).f3, (((rd_T40 l0_1 (rd l0_3 (wrap64 ((l0_3.length : Int) - 1)))).f4) ++ [(l0_1.length : Int)])⟩ : S40)) (X := setC ((v40 1) (rd_T40 l0_1 (rd l0_3 (wrap64 ((l0_3.length : Int) - 1))))) 4 [.any])) .nil))))))))))) (.cons c252 (.cons (atM (v40 0) z40 c252 c253) .nil)) (.cons (.cons c252 (.cons (ltM (v40 1) c253) (.cons (atM (v40 1) z40 c252 c253) (.cons (atM (v40 1) z40 c252 c253) (.cons (fitM I ((rd_T40 l0_1 (rd l0_3 (wrap64 ((l0_3.length : Int) - 1)))).f4) [(l0_1.length : Int)] (.refl _)) (.cons (limM1 I c254) (.cons c252 (.cons (ltH (v40 1) (m := ((rd l0_3 (wrap64 ((l0_3.length : Int) - 1))) : Int).toNat) (X := setC ((v40 1) (rd_T40 l0_1 (rd l0_3 (wrap64 ((l0_3.length : Int) - 1))))) 4 [.any]) c253) (.cons (atH (v40 1) (X := setC ((v40 1) (rd_T40 l0_1 (rd l0_3 (wrap64 ((l0_3.length : Int) - 1))))) 4 [.any]) c252 c253) (.cons (Fit.refl ((v40 1) (⟨(rd_T40 l0_1 (rd l0_3 (wrap64 ((l0_3.length : Int) - 1)))).f0, (rd_T40 l0_1 (rd l0_3 (wrap64 ((l0_3.length : Int) - 1)))).f1, (rd_T40 l0_1 (rd l0_3 (wrap64 ((l0_3.length : Int) - 1)))).f2, (rd_T40 l0_1 (rd l0_3 (wrap64 ((l0_3.length : Int) - 1)))).f3, (((rd_T40 l0_1 (rd l0_3 (wrap64 ((l0_3.length : Int) - 1)))).f4) ++ [(l0_1.length : Int)])⟩ : S40))) (.cons (setH (v40 1) (l := l0_1) (n := ((rd l0_3 (wrap64 ((l0_3.length : Int) - 1))) : Int).toNat) (x := (⟨(rd_T40 l0_1 (rd l0_3 (wrap64 ((l0_3.length : Int) - 1)))).f0, (rd_T40 l0_1 (rd l0_3 (wrap64 ((l0_3.length : Int) - 1)))).f1, (rd_T40 l0_1 (rd l0_3 (wrap64 ((l0_3.length : Int) - 1)))).f2, (rd_T40 l0_1 (rd l0_3 (wrap64 ((l0_3.length : Int) - 1)))).f3, (((rd_T40 l0_1 (rd l0_3 (wrap64 ((l0_3.length : Int) - 1)))).f4) ++ [(l0_1.length : Int)])⟩ : S40)) (X := setC ((v40 1) (rd_T40 l0_1 (rd l0_3 (wrap64 ((l0_3.length : Int) - 1))))) 4 [.any])) .nil))))))))))) (.cons c252 (.cons (atM (v40 0) z40 c252 c253) .nil)) (.cons (.cons c252 (.cons (ltM (v40 1) c253) (.cons (atM (v40 1) z40 c252 c253) (.cons (atM (v40 1) z40 c252 c253) (.cons (fitM I ((rd_T40 l0_1 (rd l0_3 (wrap64 ((l0_3.length : Int) - 1)))).f4) [(l0_1.length : Int)] (.refl _)) (.cons (limM1 I c254) (.cons c252 (.cons (ltH (v40 1) (m := ((rd l0_3 (wrap64 ((l0_3.length : Int) - 1))) : Int).toNat) (X := setC ((v40 1) (rd_T40 l0_1 (rd l0_3 (wrap64 ((l0_3.length : Int) - 1))))) 4 [.any]) c253) (.cons (atH (v40 1) (X := setC ((v40 1) (rd_T40 l0_1 (rd l0_3 (wrap64 ((l0_3.length : Int) - 1))))) 4 [.any]) c252 c253) (.cons (Fit.refl ((v40 1) (⟨(rd_T40 l0_1 (rd l0_3 (wrap64 ((l0_3.length : Int) - 1)))).f0, (rd_T40 l0_1 (rd l0_3 (wrap64 ((l0_3.length : Int) - 1)))).f1, (rd_T40 l0_1 (rd l0_3 (wrap64 ((l0_3.length : Int) - 1)))).f2, (rd_T40 l0_1 (rd l0_3 (wrap64 ((l0_3.length : Int) - 1)))).f3, (((rd_T40 l0_1 (rd l0_3 (wrap64 ((l0_3.length : Int) - 1)))).f4) ++ [(l0_1.length : Int)])⟩ : S40))) (.cons (setH (v40 1) (l := l0_1) (n := ((rd l0_3 (wrap64 ((l0_3.length : Int) - 1))) : Int).toNat) (x := (⟨(rd_T40 l0_1 (rd l0_3 (wrap64 ((l0_3.length : Int) - 1)))).f0, (rd_T40 l0_1 (rd l0_3 (wrap64 ((l0_3.length : Int) - 1)))).f1, (rd_T40 l0_1 (rd l0_3 (wrap64 ((l0_3.length : Int) - 1)))).f2, (rd_T40 l0_1 (rd l0_3 (wrap64 ((l0_3.length : Int) - 1)))).f3, (((rd_T40 l0_1 (rd l0_3 (wrap64 ((l0_3.length : Int) - 1)))).f4) ++ [(l0_1.length : Int)])⟩ : S40)) (X := setC ((v40 1) (rd_T40 l0_1 (rd l0_3 (wrap64 ((l0_3.length : Int) - 1))))) 4 [.any])) .nil))))))))))) (.cons c252 (.cons (atM (v40 0) z40 c252 c253) .nil)) .nil))) [] [] (by kernel_rfl) (by kernel_rfl) [[], [], []] [(0, 0), (2, 0), (3, 0), (5, 0), (8, 0)] [(0, .d (.ptr 0 0)), (2, .d (.v (S a2))), (3, .d (.v (Cx a3))), (5, .d (.ptr 1 0)), (8, .d (.v (I (l0_1.length : Int))))] [.cells [.v (S a0_0), .v (.row (some 40) 5 (List.map (v40 1) (l0_1.set ((rd l0_3 (wrap64 ((l0_3.length : Int) - 1))) : Int).toNat (⟨(rd_T40 l0_1 (rd l0_3 (wrap64 ((l0_3.length : Int) - 1)))).f0, (rd_T40 l0_1 (rd l0_3 (wrap64 ((l0_3.length : Int) - 1)))).f1, (rd_T40 l0_1 (rd l0_3 (wrap64 ((l0_3.length : Int) - 1)))).f2, (rd_T40 l0_1 (rd l0_3 (wrap64 ((l0_3.length : Int) - 1)))).f3, (((rd_T40 l0_1 (rd l0_3 (wrap64 ((l0_3.length : Int) - 1)))).f4) ++ [(l0_1.length : Int)])⟩ : S40)))), .v (.row (some 36) 1 (List.map Cx l0_2)), .v (.row (some 3) 1 (List.map I l0_3))], .cells [.v (I a1_0), .v (I a1_1), .v (B a1_2), .v (I a1_3)]] (by kernel_rfl) (by kernel_rfl) ?_
  refine Good.seq ?_
  refine Good.reg hN [] .nil [] (by kernel_rfl) ?_
  refine Good.seq ?_
  refine Good.seq ?_
  refine Good.reg hN [] .nil [] (by kernel_rfl) ?_
  rcases (ifC H).symm with ⟨c257, H⟩ | ⟨c257, H⟩
  · refine Good.condF (Bool.eq_false_iff.2 c257) (by kernel_rfl) ?_
    refine Good.reg hN [] .nil [] (by kernel_rfl) ?_
    refine Good.seq ?_
    obtain ⟨c264, H⟩ := ifS H
    refine Good.regDF hm hN (.i 0 (.q 1 [[4, 3, 2], []] (.q 2 [[4, 3], []] (.q 3 [[4], []] (.q 4 [[], []] (.q 5 [[6], []] (.e 6 (.e 7 (.i 8 (.i 9 (.e 10 .z))))))))))) [(0, some (.pt [S a0_0, .row none 5 (List.map (v40 0) (l0_1.set ((rd l0_3 (wrap64 ((l0_3.length : Int) - 1))) : Int).toNat (⟨(rd_T40 l0_1 (rd l0_3 (wrap64 ((l0_3.length : Int) - 1)))).f0, (rd_T40 l0_1 (rd l0_3 (wrap64 ((l0_3.length : Int) - 1)))).f1, (rd_T40 l0_1 (rd l0_3 (wrap64 ((l0_3.length : Int) - 1)))).f2, (rd_T40 l0_1 (rd l0_3 (wrap64 ((l0_3.length : Int) - 1)))).f3, (((rd_T40 l0_1 (rd l0_3 (wrap64 ((l0_3.length : Int) - 1)))).f4) ++ [(l0_1.length : Int)])⟩ : S40))), .row none 1 (List.map Cx l0_2), .row none 1 (List.map I l0_3)])), (10, some (.pt [I a1_0, I a1_1, B a1_2, S a2, .nil 3 1]))] (by kernel_rfl) (.cons (ptS (shrC (rfl : (V.shr (S a0_0)) = S a0_0) (shrC (shrM (some 40) 5 (v40 1) (v40 0) (l0_1.set ((rd l0_3 (wrap64 ((l0_3.length : Int) - 1))) : Int).toNat (⟨(rd_T40 l0_1 (rd l0_3 (wrap64 ((l0_3.length : Int) - 1)))).f0, (rd_T40 l0_1 (rd l0_3 (wrap64 ((l0_3.length : Int) - 1)))).f1, (rd_T40 l0_1 (rd l0_3 (wrap64 ((l0_3.length : Int) - 1)))).f2, (rd_T40 l0_1 (rd l0_3 (wrap64 ((l0_3.length : Int) - 1)))).f3, (((rd_T40 l0_1 (rd l0_3 (wrap64 ((l0_3.length : Int) - 1)))).f4) ++ [(l0_1.length : Int)])⟩ : S40)) (v40.shr _)) (shrC (shrM (some 36) 1 Cx Cx l0_2 (fun _ => rfl)) (shrC (shrM (some 3) 1 I I l0_3 (fun _ => rfl)) (rfl : shrL [] = [])))))) (.cons (ptS (shrC (rfl : (V.shr (I a1_0)) = I a1_0) (shrC (rfl : (V.shr (I a1_1)) = I a1_1) (shrC (rfl : (V.shr (B a1_2)) = B a1_2) (shrC (rfl : (V.shr (S a2)) = S a2) (shrC (rfl : (V.shr (.nil 3 1)) = .nil 3 1) (rfl : shrL [] = []))))))) .nil)) [.kb true, .row (some 40) 5 (List.map (v40 1) ((l0_1.set ((rd l0_3 (wrap64 ((l0_3.length : Int) - 1))) : Int).toNat (⟨(rd_T40 l0_1 (rd l0_3 (wrap64 ((l0_3.length : Int) - 1)))).f0, (rd_T40 l0_1 (rd l0_3 (wrap64 ((l0_3.length : Int) - 1)))).f1, (rd_T40 l0_1 (rd l0_3 (wrap64 ((l0_3.length : Int) - 1)))).f2, (rd_T40 l0_1 (rd l0_3 (wrap64 ((l0_3.length : Int) - 1)))).f3, (((rd_T40 l0_1 (rd l0_3 (wrap64 ((l0_3.length : Int) - 1)))).f4) ++ [(l0_1.length : Int)])⟩ : S40)) ++ [(⟨a1_0, a1_1, a1_2, a2, ([] : List Int)⟩ : S40)]))] [] (.cons (fitM (v40 1) (l0_1.set ((rd l0_3 (wrap64 ((l0_3.length : Int) - 1))) : Int).toNat (⟨(rd_T40 l0_1 (rd l0_3 (wrap64 ((l0_3.length : Int) - 1)))).f0, (rd_T40 l0_1 (rd l0_3 (wrap64 ((l0_3.length : Int) - 1)))).f1, (rd_T40 l0_1 (rd l0_3 (wrap64 ((l0_3.length : Int) - 1)))).f2, (rd_T40 l0_1 (rd l0_3 (wrap64 ((l0_3.length : Int) - 1)))).f3, (((rd_T40 l0_1 (rd l0_3 (wrap64 ((l0_3.length : Int) - 1)))).f4) ++ [(l0_1.length : Int)])⟩ : S40)) [(⟨a1_0, a1_1, a1_2, a2, ([] : List Int)⟩ : S40)] (.cons (.agg (.cons (.refl _) (.cons (.refl _) (.cons (.refl _) (.cons (.refl _) (.cons (.nilO 3 1) .nil)))))) .nil)) (.cons (limM1 (v40 1) c264) .nil)) .nil [] [] (by kernel_rfl) (by kernel_rfl) ?_
    obtain ⟨c266, H⟩ := ifS H
    refine Good.reg hN [.kb true, .row (some 36) 1 (List.map Cx (l0_2 ++ [a3]))] (.cons (fitM Cx l0_2 [a3] (.refl _)) (.cons (limM1 Cx c266) .nil)) [] (by kernel_rfl) ?_
    obtain rfl := Option.some.inj H
    exact finX_fit (.refl _) (FitLL.refl _) (by kernel_rfl) rfl
  refine Good.condT c257 (by kernel_rfl) ?_
  obtain ⟨c258, H⟩ := ifS H
  refine Good.reg hN [.kb true, .row (some 3) 1 (List.map I (l0_3 ++ [(l0_1.length : Int)]))] (.cons (fitM I l0_3 [(l0_1.length : Int)] (.refl _)) (.cons (limM1 I c258) .nil)) [] (by kernel_rfl) ?_
  refine Good.seq ?_
  obtain ⟨c260, H⟩ := ifS H
  refine Good.regDF hm hN (.i 0 (.q 1 [[4, 3, 2], []] (.q 2 [[4, 3], []] (.q 3 [[4], []] (.q 4 [[], []] (.q 5 [[6], []] (.e 6 (.e 7 (.i 8 (.i 9 (.e 10 .z))))))))))) [(0, some (.pt [S a0_0, .row none 5 (List.map (v40 0) (l0_1.set ((rd l0_3 (wrap64 ((l0_3.length : Int) - 1))) : Int).toNat (⟨(rd_T40 l0_1 (rd l0_3 (wrap64 ((l0_3.length : Int) - 1)))).f0, (rd_T40 l0_1 (rd l0_3 (wrap64 ((l0_3.length : Int) - 1)))).f1, (rd_T40 l0_1 (rd l0_3 (wrap64 ((l0_3.length : Int) - 1)))).f2, (rd_T40 l0_1 (rd l0_3 (wrap64 ((l0_3.length : Int) - 1)))).f3, (((rd_T40 l0_1 (rd l0_3 (wrap64 ((l0_3.length : Int) - 1)))).f4) ++ [(l0_1.length : Int)])⟩ : S40))), .row none 1 (List.map Cx l0_2), .row none 1 (List.map I (l0_3 ++ [(l0_1.length : Int)]))])), (10, some (.pt [I a1_0, I a1_1, B a1_2, S (⟨#[]⟩ : ByteArray), .nil 3 1]))] (by kernel_rfl) (.cons (ptS (shrC (rfl : (V.shr (S a0_0)) = S a0_0) (shrC (shrM (some 40) 5 (v40 1) (v40 0) (l0_1.set ((rd l0_3 (wrap64 ((l0_3.length : Int) - 1))) : Int).toNat (⟨(rd_T40 l0_1 (rd l0_3 (wrap64 ((l0_3.length : Int) - 1)))).f0, (rd_T40 l0_1 (rd l0_3 (wrap64 ((l0_3.length : Int) - 1)))).f1, (rd_T40 l0_1 (rd l0_3 (wrap64 ((l0_3.length : Int) - 1)))).f2, (rd_T40 l0_1 (rd l0_3 (wrap64 ((l0_3.length : Int) - 1)))).f3, (((rd_T40 l0_1 (rd l0_3 (wrap64 ((l0_3.length : Int) - 1)))).f4) ++ [(l0_1.length : Int)])⟩ : S40)) (v40.shr _)) (shrC (shrM (some 36) 1 Cx Cx l0_2 (fun _ => rfl)) (shrC (shrM (some 3) 1 I I (l0_3 ++ [(l0_1.length : Int)]) (fun _ => rfl)) (rfl : shrL [] = [])))))) (.cons (ptS (shrC (rfl : (V.shr (I a1_0)) = I a1_0) (shrC (rfl : (V.shr (I a1_1)) = I a1_1) (shrC (rfl : (V.shr (B a1_2)) = B a1_2) (shrC (rfl : (V.shr (S (⟨#[]⟩ : ByteArray))) = S (⟨#[]⟩ : ByteArray)) (shrC (rfl : (V.shr (.nil 3 1)) = .nil 3 1) (rfl : shrL [] = []))))))) .nil)) [.kb true, .row (some 40) 5 (List.map (v40 1) ((l0_1.set ((rd l0_3 (wrap64 ((l0_3.length : Int) - 1))) : Int).toNat (⟨(rd_T40 l0_1 (rd l0_3 (wrap64 ((l0_3.length : Int) - 1)))).f0, (rd_T40 l0_1 (rd l0_3 (wrap64 ((l0_3.length : Int) - 1)))).f1, (rd_T40 l0_1 (rd l0_3 (wrap64 ((l0_3.length : Int) - 1)))).f2, (rd_T40 l0_1 (rd l0_3 (wrap64 ((l0_3.length : Int) - 1)))).f3, (((rd_T40 l0_1 (rd l0_3 (wrap64 ((l0_3.length : Int) - 1)))).f4) ++ [(l0_1.length : Int)])⟩ : S40)) ++ [(⟨a1_0, a1_1, a1_2, (⟨#[]⟩ : ByteArray), ([] : List Int)⟩ : S40)]))] [] (.cons (fitM (v40 1) (l0_1.set ((rd l0_3 (wrap64 ((l0_3.length : Int) - 1))) : Int).toNat (⟨(rd_T40 l0_1 (rd l0_3 (wrap64 ((l0_3.length : Int) - 1)))).f0, (rd_T40 l0_1 (rd l0_3 (wrap64 ((l0_3.length : Int) - 1)))).f1, (rd_T40 l0_1 (rd l0_3 (wrap64 ((l0_3.length : Int) - 1)))).f2, (rd_T40 l0_1 (rd l0_3 (wrap64 ((l0_3.length : Int) - 1)))).f3, (((rd_T40 l0_1 (rd l0_3 (wrap64 ((l0_3.length : Int) - 1)))).f4) ++ [(l0_1.length : Int)])⟩ : S40)) [(⟨a1_0, a1_1, a1_2, (⟨#[]⟩ : ByteArray), ([] : List Int)⟩ : S40)] (.cons (.agg (.cons (.refl _) (.cons (.refl _) (.cons (.refl _) (.cons (.refl _) (.cons (.nilO 3 1) .nil)))))) .nil)) (.cons (limM1 (v40 1) c260) .nil)) .nil [] [] (by kernel_rfl) (by kernel_rfl) ?_
  obtain ⟨c262, H⟩ := ifS H
  refine Good.reg hN [.kb true, .row (some 36) 1 (List.map Cx (l0_2 ++ [a3]))] (.cons (fitM Cx l0_2 [a3] (.refl _)) (.cons (limM1 Cx c262) .nil)) [] (by kernel_rfl) ?_
  obtain rfl := Option.some.inj H
  exact finX_fit (.refl _) (FitLL.refl _) (by kernel_rfl) rfl
def tlv_reader_close.l0 : Nat → Int → ByteArray → List S40 → List (Nat × Nat) → List Int → Option (Bool × ByteArray × List S40 × List (Nat × Nat) × List Int)
 | 0, _, _, _, _, _ => none
 | k + 1, x1, x1000, x1001, x1002, x1003 => if (x1003.length : Int) > 0 then ((tlv_reader_end.f x1000 x1001 x1002 x1003).bind fun t280 => (if t280 = x1 then (if 0 ≤ (wrap64 ((x1003.length : Int) - 1)) then (if (wrap64 ((x1003.length : Int) - 1)) ≤ (x1003.length : Int) then (tlv_reader_close.l0 k x1 x1000 x1001 x1002 (x1003.take ((wrap64 ((x1003.length : Int) - 1)) : Int).toNat)) else (none)) else (none)) else (some (((x1003.length : Int) == 0), x1000, x1001, x1002, x1003)))) else (some (((x1003.length : Int) == 0), x1000, x1001, x1002, x1003))
def tlv_reader_close.f (k : Nat) (a0_0 : ByteArray) (l0_1 : List S40) (l0_2 : List (Nat × Nat)) (l0_3 : List Int) (a1 : Int) : Option (Bool × ByteArray × List S40 × List (Nat × Nat) × List Int) := tlv_reader_close.l0 k a1 a0_0 l0_1 l0_2 l0_3
theorem tlv_reader_close.con {k : Nat} {a0_0 : ByteArray} {l0_1 : List S40} {l0_2 : List (Nat × Nat)} {l0_3 : List Int} {a1 : Int} {r : (Bool × ByteArray × List S40 × List (Nat × Nat) × List Int)} (H : tlv_reader_close.f k a0_0 l0_1 l0_2 l0_3 a1 = some r) : ConX Tryd.prog 30 [.ptr 0 0, .v (I a1)] [[S a0_0, .row (some 40) 5 (List.map (v40 1) l0_1), .row (some 36) 1 (List.map Cx l0_2), .row (some 3) 1 (List.map I l0_3)]] (.v (B r.1)) [[S r.2.1, .row (some 40) 5 (List.map (v40 1) r.2.2.1), .row (some 36) 1 (List.map Cx r.2.2.2.1), .row (some 3) 1 (List.map I r.2.2.2.2)]] := by
  refine conX_of_good Tryd.func30 rfl (by kernel_rfl) (by kernel_rfl) fun C hN hL => ?_
  unfold tlv_reader_close.f at H
  refine Good.seq ?_
  refine Good.reg hN [] .nil [] (by kernel_rfl) ?_
  refine Good.seq ?_
  refine Good.block ?_
  refine Good.loopN (fun k' st => ∃ (x1 : Int) (x1000 : ByteArray) (x1001 : List S40) (x1002 : List (Nat × Nat)) (x1003 : List Int), k' ≤ k ∧ Wk C st ⟨[(0, .d (.ptr 0 0)), (1, .d (.v (I x1)))], [.cells [.v (S x1000), .v (.row (some 40) 5 (List.map (v40 1) x1001)), .v (.row (some 36) 1 (List.map Cx x1002)), .v (.row (some 3) 1 (List.map I x1003))]]⟩ ∧ tlv_reader_close.l0 k' x1 x1000 x1001 x1002 x1003 = some r) k ⟨a1, a0_0, l0_1, l0_2, l0_3, Nat.le_refl _, Wk.of [(0, 0), (1, 0)] (by kernel_rfl) (by kernel_rfl), H⟩ fun k => ⟨fun st h => (by obtain ⟨_, _, _, _, _, _, _, H⟩ := h; cases H), ?_⟩
  clear H
  rintro st ⟨x1, x1000, x1001, x1002, x1003, hk, W, H⟩
  refine W.good ?_
  rw [tlv_reader_close.l0] at H
  refine Good.seq ?_
  refine Good.seq ?_
  rcases (ifC H).symm with ⟨c279, H⟩ | ⟨c279, H⟩
  · refine Good.reg hN [I (x1003.length : Int), B false] (.cons (lenM I x1003) (.cons (decide_eq_false c279) .nil)) [] (by kernel_rfl) ?_
    refine Good.cond false (by kernel_rfl) ?_
    refine Good.exit ?_
    refine Good.seq ?_
    refine Good.reg hN [I (x1003.length : Int)] (.cons (lenM I x1003) .nil) [] (by kernel_rfl) ?_
    obtain rfl := Option.some.inj H
    exact Good.ret (finX_fitR (.refl _) (FitLL.refl _) (by kernel_rfl) rfl)
  obtain ⟨t280, h281, H⟩ := bindS H
  refine Good.reg hN [I (x1003.length : Int), B true, I t280, .tup [.agg [S x1000, .row (some 40) 5 (List.map (v40 1) x1001), .row (some 36) 1 (List.map Cx x1002), .row (some 3) 1 (List.map I x1003)]]] (.cons (lenM I x1003) (.cons (decide_eq_true c279) (.cons (tlv_reader_end.con h281).c .nil))) [] (by kernel_rfl) ?_
  rcases (ifC H).symm with ⟨c282, H⟩ | ⟨c282, H⟩
  · refine Good.condF (beq_eq_false_iff_ne.2 c282) (by kernel_rfl) ?_
    refine Good.exit ?_
    refine Good.seq ?_
    refine Good.reg hN [I (x1003.length : Int)] (.cons (lenM I x1003) .nil) [] (by kernel_rfl) ?_
    obtain rfl := Option.some.inj H
    exact Good.ret (finX_fitR (.refl _) (FitLL.refl _) (by kernel_rfl) rfl)
  refine Good.condT (beq_iff_eq.2 c282) (by kernel_rfl) ?_
  refine Good.skip ?_
  refine Good.block ?_
  obtain ⟨c283, H⟩ := ifS H
  obtain ⟨c284, H⟩ := ifS H
  refine Good.regDF hm hN (.q 0 [[]] (.q 1 [[]] (.q 2 [[]] (.q 3 [[]] (.q 4 [[]] (.q 5 [[]] (.q 6 [[]] (.q 7 [[]] (.q 8 [[]] (.q 9 [[]] (.q 10 [[]] (.e 11 (.q 12 [[13]] (.q 13 [[]] (.e 14 .z))))))))))))))) [(0, some (.pt [S x1000, .row none 5 (List.map (v40 0) x1001), .row none 1 (List.map Cx x1002), .row none 1 (List.map I x1003)]))] (by kernel_rfl) (.cons (ptS (shrC (rfl : (V.shr (S x1000)) = S x1000) (shrC (shrM (some 40) 5 (v40 1) (v40 0) x1001 (v40.shr _)) (shrC (shrM (some 36) 1 Cx Cx x1002 (fun _ => rfl)) (shrC (shrM (some 3) 1 I I x1003 (fun _ => rfl)) (rfl : shrL [] = [])))))) .nil) [I (x1003.length : Int), .row (some 3) 1 (List.map I (x1003.take ((wrap64 ((x1003.length : Int) - 1)) : Int).toNat))] [I (x1003.length : Int)] (.cons (lenM I x1003) (.cons c283 (.cons (leM I c284) (.cons (takeM I (l := x1003) (n := ((wrap64 ((x1003.length : Int) - 1)) : Int).toNat)) .nil)))) (.cons (lenM I x1003) .nil) [] [] (by kernel_rfl) (by kernel_rfl) ?_
  exact ⟨k, by omega, x1, x1000, x1001, x1002, x1003.take ((wrap64 ((x1003.length : Int) - 1)) : Int).toNat, by omega, Wk.of [(0, 0), (1, 0)] (by kernel_rfl) (by kernel_rfl), H⟩
def tlv_reader_read.g0_0 : Nat → Int → Int → ByteArray → List S40 → List (Nat × Nat) → List Int → Option (Int × Int × ByteArray × List S40 × List (Nat × Nat) × List Int)
 | 0, _, _, _, _, _, _ => none
 | k + 1, x5, x8, x1000, x1001, x1002, x1003 => if x8 = 0 then (some (0, 0, x1000, x1001, x1002, x1003)) else (some (x8, x5, x1000, x1001, x1002, x1003))
mutual
def tlv_reader_read.g0_1 : Nat → Int → ByteArray → List S40 → List (Nat × Nat) → List Int → Option (Int × Int × ByteArray × List S40 × List (Nat × Nat) × List Int)
 | 0, _, _, _, _, _ => none
 | k + 1, x5, x1000, x1001, x1002, x1003 => (tlv_reader_end.f x1000 x1001 x1002 x1003).bind fun t311 => ((octets_Cut.f x1000 x5 (wrap64 (t311 - x5))).bind fun t313 => ((head_Decode.f k t313).bind fun t315 => (if t315.2.2.2.2.2 = 0 then (if t315.2.2.2.1 > (wrap64 ((wrap64 (t311 - x5)) - t315.2.2.2.2.1)) then (tlv_reader_read.g0_0 k x5 5 x1000 x1001 x1002 x1003) else ((octets_Cut.f x1000 (wrap64 (x5 + t315.2.2.2.2.1)) t315.2.2.2.1).bind fun t319 => ((tlv_reader_may.f k x1000 x1001 x1002 x1003 t315.1 t315.2.1 t315.2.2.1 t315.2.2.2.1 t319).bind fun t321 => (if t321.1 = 0 then ((span_Of.f x5 (wrap64 ((wrap64 (x5 + t315.2.2.2.2.1)) + t315.2.2.2.1))).bind fun t324 => ((tlv_reader_put.f t321.2.1 t321.2.2.1 t321.2.2.2.1 t321.2.2.2.2 t315.1 t315.2.1 t315.2.2.1 t315.2.2.2.1 t319 t324).bind fun t326 => (if t315.2.2.1 = true then (tlv_reader_read.j3 k (wrap64 (x5 + t315.2.2.2.2.1)) t321.1 t321.2.1 t326.1 t326.2.1 t326.2.2) else (tlv_reader_read.j3 k (wrap64 ((wrap64 (x5 + t315.2.2.2.2.1)) + t315.2.2.2.1)) t321.1 t321.2.1 t326.1 t326.2.1 t326.2.2)))) else (tlv_reader_read.g0_0 k x5 t321.1 t321.2.1 t321.2.2.1 t321.2.2.2.1 t321.2.2.2.2))))) else (tlv_reader_read.g0_0 k x5 t315.2.2.2.2.2 x1000 x1001 x1002 x1003))))
def tlv_reader_read.j3 : Nat → Int → Int → ByteArray → List S40 → List (Nat × Nat) → List Int → Option (Int × Int × ByteArray × List S40 × List (Nat × Nat) × List Int)
 | 0, _, _, _, _, _, _ => none
 | k + 1, x5, x8, x1000, x1001, x1002, x1003 => (tlv_reader_close.f k x1000 x1001 x1002 x1003 x5).bind fun t329 => (if t329.1 = true then (if x5 < (t329.2.1.size : Int) then (some (5, x5, t329.2.1, t329.2.2.1, t329.2.2.2.1, t329.2.2.2.2)) else (if x8 = 0 then (some (0, 0, t329.2.1, t329.2.2.1, t329.2.2.2.1, t329.2.2.2.2)) else (some (x8, x5, t329.2.1, t329.2.2.1, t329.2.2.2.1, t329.2.2.2.2)))) else (tlv_reader_read.g0_1 k x5 t329.2.1 t329.2.2.1 t329.2.2.2.1 t329.2.2.2.2))
end
def tlv_reader_read.j0 : Nat → Int → Int → ByteArray → List S40 → List (Nat × Nat) → List Int → Option (Int × Int × ByteArray × List S40 × List (Nat × Nat) × List Int)
 | 0, _, _, _, _, _, _ => none
 | k + 1, x5, x8, x1000, x1001, x1002, x1003 => (tlv_reader_close.f k x1000 x1001 x1002 x1003 x5).bind fun t305 => (if t305.1 = true then (if x5 < (t305.2.1.size : Int) then (some (5, x5, t305.2.1, t305.2.2.1, t305.2.2.2.1, t305.2.2.2.2)) else (if x8 = 0 then (some (0, 0, t305.2.1, t305.2.2.1, t305.2.2.2.1, t305.2.2.2.2)) else (some (x8, x5, t305.2.1, t305.2.2.1, t305.2.2.2.1, t305.2.2.2.2)))) else (tlv_reader_read.g0_1 k x5 t305.2.1 t305.2.2.1 t305.2.2.2.1 t305.2.2.2.2))
def tlv_reader_read.f (k : Nat) (a0_0 : ByteArray) (l0_1 : List S40) (l0_2 : List (Nat × Nat)) (l0_3 : List Int) : Option (Int × Int × ByteArray × List S40 × List (Nat × Nat) × List Int) := if a0_0.toList = ([] : List UInt8) then (tlv_reader_read.g0_0 k 0 3 a0_0 l0_1 l0_2 l0_3) else (if (a0_0.size : Int) > 65535 then (tlv_reader_read.g0_0 k 0 4 a0_0 l0_1 l0_2 l0_3) else ((tlv_reader_end.f a0_0 l0_1 l0_2 l0_3).bind fun t287 => ((octets_Cut.f a0_0 0 (wrap64 (t287 - 0))).bind fun t289 => ((head_Decode.f k t289).bind fun t291 => (if t291.2.2.2.2.2 = 0 then (if t291.2.2.2.1 > (wrap64 ((wrap64 (t287 - 0)) - t291.2.2.2.2.1)) then (tlv_reader_read.g0_0 k 0 5 a0_0 l0_1 l0_2 l0_3) else ((octets_Cut.f a0_0 (wrap64 (0 + t291.2.2.2.2.1)) t291.2.2.2.1).bind fun t295 => ((tlv_reader_may.f k a0_0 l0_1 l0_2 l0_3 t291.1 t291.2.1 t291.2.2.1 t291.2.2.2.1 t295).bind fun t297 => (if t297.1 = 0 then ((span_Of.f 0 (wrap64 ((wrap64 (0 + t291.2.2.2.2.1)) + t291.2.2.2.1))).bind fun t300 => ((tlv_reader_put.f t297.2.1 t297.2.2.1 t297.2.2.2.1 t297.2.2.2.2 t291.1 t291.2.1 t291.2.2.1 t291.2.2.2.1 t295 t300).bind fun t302 => (if t291.2.2.1 = true then (tlv_reader_read.j0 k (wrap64 (0 + t291.2.2.2.2.1)) t297.1 t297.2.1 t302.1 t302.2.1 t302.2.2) else (tlv_reader_read.j0 k (wrap64 ((wrap64 (0 + t291.2.2.2.2.1)) + t291.2.2.2.1)) t297.1 t297.2.1 t302.1 t302.2.1 t302.2.2)))) else (tlv_reader_read.g0_0 k 0 t297.1 t297.2.1 t297.2.2.1 t297.2.2.2.1 t297.2.2.2.2))))) else (tlv_reader_read.g0_0 k 0 t291.2.2.2.2.2 a0_0 l0_1 l0_2 l0_3))))))
theorem tlv_reader_read.con {k : Nat} {a0_0 : ByteArray} {l0_1 : List S40} {l0_2 : List (Nat × Nat)} {l0_3 : List Int} {r : (Int × Int × ByteArray × List S40 × List (Nat × Nat) × List Int)} (H : tlv_reader_read.f k a0_0 l0_1 l0_2 l0_3 = some r) : ConX Tryd.prog 18 [.ptr 0 0] [[S a0_0, .row (some 40) 5 (List.map (v40 1) l0_1), .row (some 36) 1 (List.map Cx l0_2), .row (some 3) 1 (List.map I l0_3)]] (.v (.agg [I r.1, I r.2.1])) [[S r.2.2.1, .row (some 40) 5 (List.map (v40 1) r.2.2.2.1), .row (some 36) 1 (List.map Cx r.2.2.2.2.1), .row (some 3) 1 (List.map I r.2.2.2.2.2)]] := by
  refine conX_of_good Tryd.func18 rfl (by kernel_rfl) (by kernel_rfl) fun C hN hL => ?_
  unfold tlv_reader_read.f at H
  refine Good.seq ?_
  refine Good.reg hN [] .nil [] (by kernel_rfl) ?_
  refine Good.scope [(0, _, fun n st => ∃ (x5 : Int) (x8 : Int) (x1000 : ByteArray) (x1001 : List S40) (x1002 : List (Nat × Nat)) (x1003 : List Int) (x2000 : Int) (x2001 : Int) (x3000 : Int) (x3001 : Int) (x3002 : Bool) (x3003 : Int), n ≤ k ∧ Wk C st ⟨[(2, .d (.ptr 1 0)), (5, .d (.v (I x5))), (8, .d (.v (I x8)))], [.cells [.v (S x1000), .v (.row (some 40) 5 (List.map (v40 1) x1001)), .v (.row (some 36) 1 (List.map Cx x1002)), .v (.row (some 3) 1 (List.map I x1003))], .cells [.v (I x2000), .v (I x2001)], .cells [.v (I x3000), .v (I x3001), .v (B x3002), .v (I x3003)]]⟩ ∧ tlv_reader_read.g0_0 n x5 x8 x1000 x1001 x1002 x1003 = some r), (1, _, fun n st => ∃ (x5 : Int) (x1000 : ByteArray) (x1001 : List S40) (x1002 : List (Nat × Nat)) (x1003 : List Int) (x2000 : Int) (x2001 : Int) (x3000 : Int) (x3001 : Int) (x3002 : Bool) (x3003 : Int), n ≤ k ∧ Wk C st ⟨[(0, .d (.ptr 0 0)), (2, .d (.ptr 1 0)), (3, .d (.ptr 2 0)), (5, .d (.v (I x5)))], [.cells [.v (S x1000), .v (.row (some 40) 5 (List.map (v40 1) x1001)), .v (.row (some 36) 1 (List.map Cx x1002)), .v (.row (some 3) 1 (List.map I x1003))], .cells [.v (I x2000), .v (I x2001)], .cells [.v (I x3000), .v (I x3001), .v (B x3002), .v (I x3003)]]⟩ ∧ tlv_reader_read.g0_1 n x5 x1000 x1001 x1002 x1003 = some r)] (.cons rfl (.cons rfl .nil)) ?_ (.cons ?_ (.cons ?_ .nil))
  · refine Good.seq ?_
    refine Good.reg hN [] .nil [] (by kernel_rfl) ?_
    refine Good.seq ?_
    refine Good.reg hN [] .nil [] (by kernel_rfl) ?_
    refine Good.seq ?_
    refine Good.reg hN [] .nil [] (by kernel_rfl) ?_
    refine Good.seq ?_
    refine Good.reg hN [] .nil [] (by kernel_rfl) ?_
    refine Good.seq ?_
    refine Good.seq ?_
    refine Good.reg hN [] (.cons (strV (rfl : a0_0.toList = a0_0.toList) (litL ([] : List UInt8))) .nil) [(13, .bool (a0_0.toList == ([] : List UInt8)))] (by kernel_rfl) ?_
    rcases ifC H with ⟨c285, H⟩ | ⟨c285, H⟩
    · refine Good.condT (beq_iff_eq.2 c285) (by kernel_rfl) ?_
      refine Good.seq ?_
      refine Good.reg hN [] .nil [] (by kernel_rfl) ?_
      refine Good.goto ?_
      exact ⟨k, (by first | trivial | omega), 0, 3, a0_0, l0_1, l0_2, l0_3, 0, 0, 0, 0, false, 0, by omega, Wk.of [(2, 0), (5, 0), (8, 0)] (by kernel_rfl) (by kernel_rfl), H⟩
    refine Good.condF (beq_eq_false_iff_ne.2 c285) (by kernel_rfl) ?_
    refine Good.skip ?_
    refine Good.seq ?_
    refine Good.seq ?_
    refine Good.reg hN [] .nil [] (by kernel_rfl) ?_
    rcases ifC H with ⟨c286, H⟩ | ⟨c286, H⟩
    · refine Good.condT (decide_eq_true c286) (by kernel_rfl) ?_
      refine Good.seq ?_
      refine Good.reg hN [] .nil [] (by kernel_rfl) ?_
      refine Good.goto ?_
      exact ⟨k, (by first | trivial | omega), 0, 4, a0_0, l0_1, l0_2, l0_3, 0, 0, 0, 0, false, 0, by omega, Wk.of [(2, 0), (5, 0), (8, 0)] (by kernel_rfl) (by kernel_rfl), H⟩
    refine Good.condF (decide_eq_false c286) (by kernel_rfl) ?_
    refine Good.skip ?_
    refine Good.seq ?_
    refine Good.label ?_
    refine Good.seq ?_
    obtain ⟨t287, h288, H⟩ := bindS H
    refine Good.reg hN [I t287, .tup [.agg [S a0_0, .row (some 40) 5 (List.map (v40 1) l0_1), .row (some 36) 1 (List.map Cx l0_2), .row (some 3) 1 (List.map I l0_3)]]] (.cons (tlv_reader_end.con h288).c .nil) [] (by kernel_rfl) ?_
    refine Good.seq ?_
    obtain ⟨t289, h290, H⟩ := bindS H
    obtain ⟨t291, h292, H⟩ := bindS H
    refine Good.reg hN [S t289, .tup [.agg [I t291.1, I t291.2.1, B t291.2.2.1, I t291.2.2.2.1], I t291.2.2.2.2.1, I t291.2.2.2.2.2]] (.cons (octets_Cut.con h290).c (.cons (head_Decode.con h292).c .nil)) [] (by kernel_rfl) ?_
    refine Good.seq ?_
    refine Good.seq ?_
    refine Good.reg hN [] .nil [] (by kernel_rfl) ?_
    rcases (ifC H).symm with ⟨c293, H⟩ | ⟨c293, H⟩
    · refine Good.condT (bne_iff_ne.2 c293) (by kernel_rfl) ?_
      refine Good.goto ?_
      exact ⟨k, (by first | trivial | omega), 0, t291.2.2.2.2.2, a0_0, l0_1, l0_2, l0_3, 0, 0, t291.1, t291.2.1, t291.2.2.1, t291.2.2.2.1, by omega, Wk.of [(2, 0), (5, 0), (8, 0)] (by kernel_rfl) (by kernel_rfl), H⟩
    refine Good.condF (bneF c293) (by kernel_rfl) ?_
    refine Good.skip ?_
    refine Good.seq ?_
    refine Good.seq ?_
    refine Good.reg hN [] .nil [] (by kernel_rfl) ?_
    rcases ifC H with ⟨c294, H⟩ | ⟨c294, H⟩
    · refine Good.condT (decide_eq_true c294) (by kernel_rfl) ?_
      refine Good.seq ?_
      refine Good.reg hN [] .nil [] (by kernel_rfl) ?_
      refine Good.goto ?_
      exact ⟨k, (by first | trivial | omega), 0, 5, a0_0, l0_1, l0_2, l0_3, 0, 0, t291.1, t291.2.1, t291.2.2.1, t291.2.2.2.1, by omega, Wk.of [(2, 0), (5, 0), (8, 0)] (by kernel_rfl) (by kernel_rfl), H⟩
    refine Good.condF (decide_eq_false c294) (by kernel_rfl) ?_
    refine Good.skip ?_
    refine Good.seq ?_
    obtain ⟨t295, h296, H⟩ := bindS H
    refine Good.regDF hm hN (.q 0 [] (.q 1 [] (.q 2 [] (.q 3 [] (.q 4 [] (.q 5 [] (.q 6 [] (.q 7 [] (.q 8 [] (.e 9 (.q 10 [] .z))))))))))) [(0, some (.pt [S a0_0, .row none 5 (List.map (v40 0) l0_1), .row none 1 (List.map Cx l0_2), .row none 1 (List.map I l0_3)])), (3, some (.pt [I t291.1, I t291.2.1, B t291.2.2.1, I t291.2.2.2.1])), (4, none), (5, none)] (by kernel_rfl) (.cons (ptS (shrC (rfl : (V.shr (S a0_0)) = S a0_0) (shrC (shrM (some 40) 5 (v40 1) (v40 0) l0_1 (v40.shr _)) (shrC (shrM (some 36) 1 Cx Cx l0_2 (fun _ => rfl)) (shrC (shrM (some 3) 1 I I l0_3 (fun _ => rfl)) (rfl : shrL [] = [])))))) (.cons (ptS (shrC (rfl : (V.shr (I t291.1)) = I t291.1) (shrC (rfl : (V.shr (I t291.2.1)) = I t291.2.1) (shrC (rfl : (V.shr (B t291.2.2.1)) = B t291.2.2.1) (shrC (rfl : (V.shr (I t291.2.2.2.1)) = I t291.2.2.2.1) (rfl : shrL [] = [])))))) .nil)) [S t295] [] (.cons (octets_Cut.con h296).c .nil) .nil [] [] (by kernel_rfl) (by kernel_rfl) ?_
    refine Good.seq ?_
    refine Good.seq ?_
    obtain ⟨t297, h298, H⟩ := bindS H
    refine Good.reg hN [I t297.1, .tup [.agg [S t297.2.1, .row (some 40) 5 (List.map (v40 1) t297.2.2.1), .row (some 36) 1 (List.map Cx t297.2.2.2.1), .row (some 3) 1 (List.map I t297.2.2.2.2)]]] (.cons (tlv_reader_may.con h298).c .nil) [] (by kernel_rfl) ?_
    refine Good.seq ?_
    refine Good.reg hN [] .nil [] (by kernel_rfl) ?_
    rcases (ifC H).symm with ⟨c299, H⟩ | ⟨c299, H⟩
    · refine Good.condT (bne_iff_ne.2 c299) (by kernel_rfl) ?_
      refine Good.goto ?_
      exact ⟨k, (by first | trivial | omega), 0, t297.1, t297.2.1, t297.2.2.1, t297.2.2.2.1, t297.2.2.2.2, 0, 0, t291.1, t291.2.1, t291.2.2.1, t291.2.2.2.1, by omega, Wk.of [(2, 0), (5, 0), (8, 0)] (by kernel_rfl) (by kernel_rfl), H⟩
    refine Good.condF (bneF c299) (by kernel_rfl) ?_
    refine Good.skip ?_
    refine Good.seq ?_
    obtain ⟨t300, h301, H⟩ := bindS H
    obtain ⟨t302, h303, H⟩ := bindS H
    refine Good.regDF hm hN (.q 0 [[]] (.q 1 [[]] (.q 2 [[]] (.q 3 [[10]] (.q 4 [[10, 9, 6]] (.q 5 [[10, 9, 6]] (.q 6 [[10, 9]] (.q 7 [[10, 9, 8]] (.q 8 [[10, 9]] (.q 9 [[10]] (.e 10 (.e 11 .z)))))))))))) [(0, some (.pt [S t297.2.1, .row none 5 (List.map (v40 0) t297.2.2.1), .row none 1 (List.map Cx t297.2.2.2.1), .row none 1 (List.map I t297.2.2.2.2)])), (3, some (.pt [I t291.1, I t291.2.1, B t291.2.2.1, I t291.2.2.2.1])), (4, none), (5, none), (7, none)] (by kernel_rfl) (.cons (ptS (shrC (rfl : (V.shr (S t297.2.1)) = S t297.2.1) (shrC (shrM (some 40) 5 (v40 1) (v40 0) t297.2.2.1 (v40.shr _)) (shrC (shrM (some 36) 1 Cx Cx t297.2.2.2.1 (fun _ => rfl)) (shrC (shrM (some 3) 1 I I t297.2.2.2.2 (fun _ => rfl)) (rfl : shrL [] = [])))))) (.cons (ptS (shrC (rfl : (V.shr (I t291.1)) = I t291.1) (shrC (rfl : (V.shr (I t291.2.1)) = I t291.2.1) (shrC (rfl : (V.shr (B t291.2.2.1)) = B t291.2.2.1) (shrC (rfl : (V.shr (I t291.2.2.2.1)) = I t291.2.2.2.1) (rfl : shrL [] = [])))))) .nil)) [Cx t300, .tup [], .tup [.agg [S t297.2.1, .row (some 40) 5 (List.map (v40 1) t302.1), .row (some 36) 1 (List.map Cx t302.2.1), .row (some 3) 1 (List.map I t302.2.2)]]] [] (.cons (span_Of.con h301).c (.cons (tlv_reader_put.con h303).c .nil)) .nil [] [] (by kernel_rfl) (by kernel_rfl) ?_
    refine Good.seq ?_
    refine Good.reg hN [] .nil [] (by kernel_rfl) ?_
    refine Good.seq ?_
    refine Good.seq ?_
    refine Good.reg hN [] .nil [] (by kernel_rfl) ?_
    refine Good.cut (fun st => ∃ (x5 : Int) (x8 : Int) (x1000 : ByteArray) (x1001 : List S40) (x1002 : List (Nat × Nat)) (x1003 : List Int) (x2000 : Int) (x2001 : Int) (x3000 : Int) (x3001 : Int) (x3002 : Bool) (x3003 : Int), Wk C st ⟨[(0, .d (.ptr 0 0)), (2, .d (.ptr 1 0)), (3, .d (.ptr 2 0)), (5, .d (.v (I x5))), (8, .d (.v (I x8)))], [.cells [.v (S x1000), .v (.row (some 40) 5 (List.map (v40 1) x1001)), .v (.row (some 36) 1 (List.map Cx x1002)), .v (.row (some 3) 1 (List.map I x1003))], .cells [.v (I x2000), .v (I x2001)], .cells [.v (I x3000), .v (I x3001), .v (B x3002), .v (I x3003)]]⟩ ∧ tlv_reader_read.j0 k x5 x8 x1000 x1001 x1002 x1003 = some r) ?_ ?_
    · rcases ifC H with ⟨c304, H⟩ | ⟨c304, H⟩
      · refine Good.condF (notF c304) (by kernel_rfl) ?_
        refine Good.skip ?_
        exact ⟨wrap64 (0 + t291.2.2.2.2.1), t297.1, t297.2.1, t302.1, t302.2.1, t302.2.2, 0, 0, t291.1, t291.2.1, t291.2.2.1, t291.2.2.2.1, Wk.of [(0, 0), (2, 0), (3, 0), (5, 0), (8, 0)] (by kernel_rfl) (by kernel_rfl), H⟩
      refine Good.condT (notT (Bool.eq_false_iff.2 c304)) (by kernel_rfl) ?_
      refine Good.reg hN [] .nil [] (by kernel_rfl) ?_
      exact ⟨wrap64 ((wrap64 (0 + t291.2.2.2.2.1)) + t291.2.2.2.1), t297.1, t297.2.1, t302.1, t302.2.1, t302.2.2, 0, 0, t291.1, t291.2.1, t291.2.2.1, t291.2.2.2.1, Wk.of [(0, 0), (2, 0), (3, 0), (5, 0), (8, 0)] (by kernel_rfl) (by kernel_rfl), H⟩
    clear H
    rintro st ⟨x5, x8, x1000, x1001, x1002, x1003, x2000, x2001, x3000, x3001, x3002, x3003, W, H⟩
    rcases k with _ | k
    · cases H
    refine W.good ?_
    rw [tlv_reader_read.j0] at H
    refine Good.seq ?_
    refine Good.seq ?_
    obtain ⟨t305, h306, H⟩ := bindS H
    refine Good.reg hN [B t305.1, .tup [.agg [S t305.2.1, .row (some 40) 5 (List.map (v40 1) t305.2.2.1), .row (some 36) 1 (List.map Cx t305.2.2.2.1), .row (some 3) 1 (List.map I t305.2.2.2.2)]]] (.cons (tlv_reader_close.con h306).c .nil) [] (by kernel_rfl) ?_
    rcases (ifC H).symm with ⟨c307, H⟩ | ⟨c307, H⟩
    · refine Good.condT (notT (Bool.eq_false_iff.2 c307)) (by kernel_rfl) ?_
      refine Good.goto ?_
      exact ⟨k, (by first | trivial | omega), x5, t305.2.1, t305.2.2.1, t305.2.2.2.1, t305.2.2.2.2, x2000, x2001, x3000, x3001, x3002, x3003, by omega, Wk.of [(0, 0), (2, 0), (3, 0), (5, 0)] (by kernel_rfl) (by kernel_rfl), H⟩
    refine Good.condF (notF c307) (by kernel_rfl) ?_
    refine Good.skip ?_
    refine Good.seq ?_
    refine Good.seq ?_
    refine Good.reg hN [] .nil [] (by kernel_rfl) ?_
    rcases ifC H with ⟨c308, H⟩ | ⟨c308, H⟩
    · refine Good.condT (decide_eq_true c308) (by kernel_rfl) ?_
      refine Good.reg hN [] .nil [] (by kernel_rfl) ?_
      refine Good.seq ?_
      refine Good.label ?_
      refine Good.seq ?_
      refine Good.seq ?_
      refine Good.reg hN [] .nil [] (by kernel_rfl) ?_
      refine Good.condF (beq_eq_false_iff_ne.2 (show ¬ ((5 : Int) = 0) by decide)) (by kernel_rfl) ?_
      refine Good.skip ?_
      refine Good.seq ?_
      refine Good.reg hN [] .nil [] (by kernel_rfl) ?_
      obtain rfl := Option.some.inj H
      exact Good.ret (finX_fitR (.refl _) (FitLL.refl _) (by kernel_rfl) rfl)
    refine Good.condF (decide_eq_false c308) (by kernel_rfl) ?_
    refine Good.skip ?_
    refine Good.seq ?_
    refine Good.label ?_
    refine Good.seq ?_
    refine Good.seq ?_
    refine Good.reg hN [] .nil [] (by kernel_rfl) ?_
    rcases ifC H with ⟨c309, H⟩ | ⟨c309, H⟩
    · refine Good.condT (beq_iff_eq.2 c309) (by kernel_rfl) ?_
      refine Good.seq ?_
      refine Good.reg hN [] .nil [] (by kernel_rfl) ?_
      obtain rfl := Option.some.inj H
      exact Good.ret (finX_fitR (.refl _) (FitLL.refl _) (by kernel_rfl) rfl)
    refine Good.condF (beq_eq_false_iff_ne.2 c309) (by kernel_rfl) ?_
    refine Good.skip ?_
    refine Good.seq ?_
    refine Good.reg hN [] .nil [] (by kernel_rfl) ?_
    obtain rfl := Option.some.inj H
    exact Good.ret (finX_fitR (.refl _) (FitLL.refl _) (by kernel_rfl) rfl)
  · clear H
    rintro n st ⟨x5, x8, x1000, x1001, x1002, x1003, x2000, x2001, x3000, x3001, x3002, x3003, hn, W, H⟩
    rcases n with _ | k
    · cases H
    refine W.good ?_
    rw [tlv_reader_read.g0_0] at H
    refine Good.seq ?_
    refine Good.skip ?_
    refine Good.seq ?_
    refine Good.seq ?_
    refine Good.reg hN [] .nil [] (by kernel_rfl) ?_
    rcases ifC H with ⟨c310, H⟩ | ⟨c310, H⟩
    · refine Good.condT (beq_iff_eq.2 c310) (by kernel_rfl) ?_
      refine Good.seq ?_
      refine Good.reg hN [] .nil [] (by kernel_rfl) ?_
      obtain rfl := Option.some.inj H
      exact Good.ret (finX_fitR (.refl _) (FitLL.refl _) (by kernel_rfl) rfl)
    refine Good.condF (beq_eq_false_iff_ne.2 c310) (by kernel_rfl) ?_
    refine Good.skip ?_
    refine Good.seq ?_
    refine Good.reg hN [] .nil [] (by kernel_rfl) ?_
    obtain rfl := Option.some.inj H
    exact Good.ret (finX_fitR (.refl _) (FitLL.refl _) (by kernel_rfl) rfl)
  · clear H
    rintro n st ⟨x5, x1000, x1001, x1002, x1003, x2000, x2001, x3000, x3001, x3002, x3003, hn, W, H⟩
    rcases n with _ | k
    · cases H
    refine W.good ?_
    rw [tlv_reader_read.g0_1] at H
    refine Good.seq ?_
    refine Good.skip ?_
    refine Good.seq ?_
    obtain ⟨t311, h312, H⟩ := bindS H
    refine Good.reg hN [I t311, .tup [.agg [S x1000, .row (some 40) 5 (List.map (v40 1) x1001), .row (some 36) 1 (List.map Cx x1002), .row (some 3) 1 (List.map I x1003)]]] (.cons (tlv_reader_end.con h312).c .nil) [] (by kernel_rfl) ?_
    refine Good.seq ?_
    obtain ⟨t313, h314, H⟩ := bindS H
    obtain ⟨t315, h316, H⟩ := bindS H
    refine Good.reg hN [S t313, .tup [.agg [I t315.1, I t315.2.1, B t315.2.2.1, I t315.2.2.2.1], I t315.2.2.2.2.1, I t315.2.2.2.2.2]] (.cons (octets_Cut.con h314).c (.cons (head_Decode.con h316).c .nil)) [] (by kernel_rfl) ?_
    refine Good.seq ?_
    refine Good.seq ?_
    refine Good.reg hN [] .nil [] (by kernel_rfl) ?_
    rcases (ifC H).symm with ⟨c317, H⟩ | ⟨c317, H⟩
    · refine Good.condT (bne_iff_ne.2 c317) (by kernel_rfl) ?_
      refine Good.goto ?_
      exact ⟨k, (by first | trivial | omega), x5, t315.2.2.2.2.2, x1000, x1001, x1002, x1003, x2000, x2001, t315.1, t315.2.1, t315.2.2.1, t315.2.2.2.1, by omega, Wk.of [(2, 0), (5, 0), (8, 0)] (by kernel_rfl) (by kernel_rfl), H⟩
    refine Good.condF (bneF c317) (by kernel_rfl) ?_
    refine Good.skip ?_
    refine Good.seq ?_
    refine Good.seq ?_
    refine Good.reg hN [] .nil [] (by kernel_rfl) ?_
    rcases ifC H with ⟨c318, H⟩ | ⟨c318, H⟩
    · refine Good.condT (decide_eq_true c318) (by kernel_rfl) ?_
      refine Good.seq ?_
      refine Good.reg hN [] .nil [] (by kernel_rfl) ?_
      refine Good.goto ?_
      exact ⟨k, (by first | trivial | omega), x5, 5, x1000, x1001, x1002, x1003, x2000, x2001, t315.1, t315.2.1, t315.2.2.1, t315.2.2.2.1, by omega, Wk.of [(2, 0), (5, 0), (8, 0)] (by kernel_rfl) (by kernel_rfl), H⟩
    refine Good.condF (decide_eq_false c318) (by kernel_rfl) ?_
    refine Good.skip ?_
    refine Good.seq ?_
    obtain ⟨t319, h320, H⟩ := bindS H
    refine Good.regDF hm hN (.q 0 [] (.q 1 [] (.q 2 [] (.q 3 [] (.q 4 [] (.q 5 [] (.q 6 [] (.q 7 [] (.q 8 [] (.e 9 (.q 10 [] .z))))))))))) [(0, some (.pt [S x1000, .row none 5 (List.map (v40 0) x1001), .row none 1 (List.map Cx x1002), .row none 1 (List.map I x1003)])), (3, some (.pt [I t315.1, I t315.2.1, B t315.2.2.1, I t315.2.2.2.1])), (4, none), (5, none)] (by kernel_rfl) (.cons (ptS (shrC (rfl : (V.shr (S x1000)) = S x1000) (shrC (shrM (some 40) 5 (v40 1) (v40 0) x1001 (v40.shr _)) (shrC (shrM (some 36) 1 Cx Cx x1002 (fun _ => rfl)) (shrC (shrM (some 3) 1 I I x1003 (fun _ => rfl)) (rfl : shrL [] = [])))))) (.cons (ptS (shrC (rfl : (V.shr (I t315.1)) = I t315.1) (shrC (rfl : (V.shr (I t315.2.1)) = I t315.2.1) (shrC (rfl : (V.shr (B t315.2.2.1)) = B t315.2.2.1) (shrC (rfl : (V.shr (I t315.2.2.2.1)) = I t315.2.2.2.1) (rfl : shrL [] = [])))))) .nil)) [S t319] [] (.cons (octets_Cut.con h320).c .nil) .nil [] [] (by kernel_rfl) (by kernel_rfl) ?_
    refine Good.seq ?_
    refine Good.seq ?_
    obtain ⟨t321, h322, H⟩ := bindS H
    refine Good.reg hN [I t321.1, .tup [.agg [S t321.2.1, .row (some 40) 5 (List.map (v40 1) t321.2.2.1), .row (some 36) 1 (List.map Cx t321.2.2.2.1), .row (some 3) 1 (List.map I t321.2.2.2.2)]]] (.cons (tlv_reader_may.con h322).c .nil) [] (by kernel_rfl) ?_
    refine Good.seq ?_
    refine Good.reg hN [] .nil [] (by kernel_rfl) ?_
    rcases (ifC H).symm with ⟨c323, H⟩ | ⟨c323, H⟩
    · refine Good.condT (bne_iff_ne.2 c323) (by kernel_rfl) ?_
      refine Good.goto ?_
      exact ⟨k, (by first | trivial | omega), x5, t321.1, t321.2.1, t321.2.2.1, t321.2.2.2.1, t321.2.2.2.2, x2000, x2001, t315.1, t315.2.1, t315.2.2.1, t315.2.2.2.1, by omega, Wk.of [(2, 0), (5, 0), (8, 0)] (by kernel_rfl) (by kernel_rfl), H⟩
    refine Good.condF (bneF c323) (by kernel_rfl) ?_
    refine Good.skip ?_
    refine Good.seq ?_
    obtain ⟨t324, h325, H⟩ := bindS H
    obtain ⟨t326, h327, H⟩ := bindS H
    refine Good.regDF hm hN (.q 0 [[]] (.q 1 [[]] (.q 2 [[]] (.q 3 [[10]] (.q 4 [[10, 9, 6]] (.q 5 [[10, 9, 6]] (.q 6 [[10, 9]] (.q 7 [[10, 9, 8]] (.q 8 [[10, 9]] (.q 9 [[10]] (.e 10 (.e 11 .z)))))))))))) [(0, some (.pt [S t321.2.1, .row none 5 (List.map (v40 0) t321.2.2.1), .row none 1 (List.map Cx t321.2.2.2.1), .row none 1 (List.map I t321.2.2.2.2)])), (3, some (.pt [I t315.1, I t315.2.1, B t315.2.2.1, I t315.2.2.2.1])), (4, none), (5, none), (7, none)] (by kernel_rfl) (.cons (ptS (shrC (rfl : (V.shr (S t321.2.1)) = S t321.2.1) (shrC (shrM (some 40) 5 (v40 1) (v40 0) t321.2.2.1 (v40.shr _)) (shrC (shrM (some 36) 1 Cx Cx t321.2.2.2.1 (fun _ => rfl)) (shrC (shrM (some 3) 1 I I t321.2.2.2.2 (fun _ => rfl)) (rfl : shrL [] = [])))))) (.cons (ptS (shrC (rfl : (V.shr (I t315.1)) = I t315.1) (shrC (rfl : (V.shr (I t315.2.1)) = I t315.2.1) (shrC (rfl : (V.shr (B t315.2.2.1)) = B t315.2.2.1) (shrC (rfl : (V.shr (I t315.2.2.2.1)) = I t315.2.2.2.1) (rfl : shrL [] = [])))))) .nil)) [Cx t324, .tup [], .tup [.agg [S t321.2.1, .row (some 40) 5 (List.map (v40 1) t326.1), .row (some 36) 1 (List.map Cx t326.2.1), .row (some 3) 1 (List.map I t326.2.2)]]] [] (.cons (span_Of.con h325).c (.cons (tlv_reader_put.con h327).c .nil)) .nil [] [] (by kernel_rfl) (by kernel_rfl) ?_
    refine Good.seq ?_
    refine Good.reg hN [] .nil [] (by kernel_rfl) ?_
    refine Good.seq ?_
    refine Good.seq ?_
    refine Good.reg hN [] .nil [] (by kernel_rfl) ?_
    refine Good.cut (fun st => ∃ (x5 : Int) (x8 : Int) (x1000 : ByteArray) (x1001 : List S40) (x1002 : List (Nat × Nat)) (x1003 : List Int) (x2000 : Int) (x2001 : Int) (x3000 : Int) (x3001 : Int) (x3002 : Bool) (x3003 : Int), Wk C st ⟨[(0, .d (.ptr 0 0)), (2, .d (.ptr 1 0)), (3, .d (.ptr 2 0)), (5, .d (.v (I x5))), (8, .d (.v (I x8)))], [.cells [.v (S x1000), .v (.row (some 40) 5 (List.map (v40 1) x1001)), .v (.row (some 36) 1 (List.map Cx x1002)), .v (.row (some 3) 1 (List.map I x1003))], .cells [.v (I x2000), .v (I x2001)], .cells [.v (I x3000), .v (I x3001), .v (B x3002), .v (I x3003)]]⟩ ∧ tlv_reader_read.j3 k x5 x8 x1000 x1001 x1002 x1003 = some r) ?_ ?_
    · rcases ifC H with ⟨c328, H⟩ | ⟨c328, H⟩
      · refine Good.condF (notF c328) (by kernel_rfl) ?_
        refine Good.skip ?_
        exact ⟨wrap64 (x5 + t315.2.2.2.2.1), t321.1, t321.2.1, t326.1, t326.2.1, t326.2.2, x2000, x2001, t315.1, t315.2.1, t315.2.2.1, t315.2.2.2.1, Wk.of [(0, 0), (2, 0), (3, 0), (5, 0), (8, 0)] (by kernel_rfl) (by kernel_rfl), H⟩
      refine Good.condT (notT (Bool.eq_false_iff.2 c328)) (by kernel_rfl) ?_
      refine Good.reg hN [] .nil [] (by kernel_rfl) ?_
      exact ⟨wrap64 ((wrap64 (x5 + t315.2.2.2.2.1)) + t315.2.2.2.1), t321.1, t321.2.1, t326.1, t326.2.1, t326.2.2, x2000, x2001, t315.1, t315.2.1, t315.2.2.1, t315.2.2.2.1, Wk.of [(0, 0), (2, 0), (3, 0), (5, 0), (8, 0)] (by kernel_rfl) (by kernel_rfl), H⟩
    clear H
    rintro st ⟨x5, x8, x1000, x1001, x1002, x1003, x2000, x2001, x3000, x3001, x3002, x3003, W, H⟩
    rcases k with _ | k
    · cases H
    refine W.good ?_
    rw [tlv_reader_read.j3] at H
    refine Good.seq ?_
    refine Good.seq ?_
    obtain ⟨t329, h330, H⟩ := bindS H
    refine Good.reg hN [B t329.1, .tup [.agg [S t329.2.1, .row (some 40) 5 (List.map (v40 1) t329.2.2.1), .row (some 36) 1 (List.map Cx t329.2.2.2.1), .row (some 3) 1 (List.map I t329.2.2.2.2)]]] (.cons (tlv_reader_close.con h330).c .nil) [] (by kernel_rfl) ?_
    rcases (ifC H).symm with ⟨c331, H⟩ | ⟨c331, H⟩
    · refine Good.condT (notT (Bool.eq_false_iff.2 c331)) (by kernel_rfl) ?_
      refine Good.goto ?_
      exact ⟨k, (by first | trivial | omega), x5, t329.2.1, t329.2.2.1, t329.2.2.2.1, t329.2.2.2.2, x2000, x2001, x3000, x3001, x3002, x3003, by omega, Wk.of [(0, 0), (2, 0), (3, 0), (5, 0)] (by kernel_rfl) (by kernel_rfl), H⟩
    refine Good.condF (notF c331) (by kernel_rfl) ?_
    refine Good.skip ?_
    refine Good.seq ?_
    refine Good.seq ?_
    refine Good.reg hN [] .nil [] (by kernel_rfl) ?_
    rcases ifC H with ⟨c332, H⟩ | ⟨c332, H⟩
    · refine Good.condT (decide_eq_true c332) (by kernel_rfl) ?_
      refine Good.reg hN [] .nil [] (by kernel_rfl) ?_
      refine Good.seq ?_
      refine Good.label ?_
      refine Good.seq ?_
      refine Good.seq ?_
      refine Good.reg hN [] .nil [] (by kernel_rfl) ?_
      refine Good.condF (beq_eq_false_iff_ne.2 (show ¬ ((5 : Int) = 0) by decide)) (by kernel_rfl) ?_
      refine Good.skip ?_
      refine Good.seq ?_
      refine Good.reg hN [] .nil [] (by kernel_rfl) ?_
      obtain rfl := Option.some.inj H
      exact Good.ret (finX_fitR (.refl _) (FitLL.refl _) (by kernel_rfl) rfl)
    refine Good.condF (decide_eq_false c332) (by kernel_rfl) ?_
    refine Good.skip ?_
    refine Good.seq ?_
    refine Good.label ?_
    refine Good.seq ?_
    refine Good.seq ?_
    refine Good.reg hN [] .nil [] (by kernel_rfl) ?_
    rcases ifC H with ⟨c333, H⟩ | ⟨c333, H⟩
    · refine Good.condT (beq_iff_eq.2 c333) (by kernel_rfl) ?_
      refine Good.seq ?_
      refine Good.reg hN [] .nil [] (by kernel_rfl) ?_
      obtain rfl := Option.some.inj H
      exact Good.ret (finX_fitR (.refl _) (FitLL.refl _) (by kernel_rfl) rfl)
    refine Good.condF (beq_eq_false_iff_ne.2 c333) (by kernel_rfl) ?_
    refine Good.skip ?_
    refine Good.seq ?_
    refine Good.reg hN [] .nil [] (by kernel_rfl) ?_
    obtain rfl := Option.some.inj H
    exact Good.ret (finX_fitR (.refl _) (FitLL.refl _) (by kernel_rfl) rfl)
def tlv_Decode.f (k : Nat) (a0 : ByteArray) : Option (List S40 × Int × Int) := (tlv_reader_read.f k a0 ([] : List S40) ([] : List (Nat × Nat)) ([] : List Int)).bind fun t334 => (if t334.1 = 0 then (some (t334.2.2.2.1, 0, 0)) else (some (([] : List S40), t334.1, t334.2.1)))
theorem tlv_Decode.con {k : Nat} {a0 : ByteArray} {r : (List S40 × Int × Int)} (H : tlv_Decode.f k a0 = some r) : Con Tryd.prog 7 [S a0] (.tup [.row (some 40) 5 (List.map (v40 1) r.1), .agg [I r.2.1, I r.2.2]]) := by
  refine con_of_good Tryd.func7 rfl (by kernel_rfl) (by kernel_rfl) fun C hN hL => ?_
  unfold tlv_Decode.f at H
  refine Good.seq ?_
  refine Good.reg hN [] .nil [] (by kernel_rfl) ?_
  refine Good.seq ?_
  refine Good.reg hN [] .nil [] (by kernel_rfl) ?_
  refine Good.seq ?_
  refine Good.seq ?_
  obtain ⟨t334, h335, H⟩ := bindS H
  refine Good.reg hN [.agg [I t334.1, I t334.2.1], .tup [.agg [S t334.2.2.1, .row (some 40) 5 (List.map (v40 1) t334.2.2.2.1), .row (some 36) 1 (List.map Cx t334.2.2.2.2.1), .row (some 3) 1 (List.map I t334.2.2.2.2.2)]]] (.cons (ConX.n (tlv_reader_read.con h335) (.cons (.refl _) .nil) (.cons (.cons (.refl _) (.cons (.nilO 40 5) (.cons (.nilO 36 1) (.cons (.nilO 3 1) .nil)))) .nil)) .nil) [] (by kernel_rfl) ?_
  refine Good.seq ?_
  refine Good.reg hN [] .nil [] (by kernel_rfl) ?_
  rcases (ifC H).symm with ⟨c336, H⟩ | ⟨c336, H⟩
  · refine Good.condT (bne_iff_ne.2 c336) (by kernel_rfl) ?_
    refine Good.seq ?_
    refine Good.regDF hm hN (.q 0 [[]] (.q 1 [[]] (.e 2 .z))) [(3, some (.pt [I 0, I 0])), (5, some (.pt [I t334.1, I t334.2.1]))] (by kernel_rfl) (.cons (ptS (shrC (rfl : (V.shr (I 0)) = I 0) (shrC (rfl : (V.shr (I 0)) = I 0) (rfl : shrL [] = [])))) (.cons (ptS (shrC (rfl : (V.shr (I t334.1)) = I t334.1) (shrC (rfl : (V.shr (I t334.2.1)) = I t334.2.1) (rfl : shrL [] = [])))) .nil)) [] [] .nil .nil [] [] (by kernel_rfl) (by kernel_rfl) ?_
    obtain rfl := Option.some.inj H
    exact Good.ret (fin_fit (u := .tup [.nil 40 5, .agg [I t334.1, I t334.2.1]]) (.tup (.cons (.nilO 40 5) (.cons (.refl _) .nil))) (by kernel_rfl))
  refine Good.condF (bneF c336) (by kernel_rfl) ?_
  refine Good.skip ?_
  refine Good.seq ?_
  refine Good.reg hN [] .nil [] (by kernel_rfl) ?_
  obtain rfl := Option.some.inj H
  exact Good.ret (fin.doneR (by kernel_rfl))
def tlv_Spans.f (k : Nat) (a0 : ByteArray) : Option (List (Nat × Nat)) := (tlv_reader_read.f k a0 ([] : List S40) ([] : List (Nat × Nat)) ([] : List Int)).bind fun t337 => (if t337.1 = 0 then (some t337.2.2.2.2.1) else (some ([] : List (Nat × Nat))))
theorem tlv_Spans.con {k : Nat} {a0 : ByteArray} {r : (List (Nat × Nat))} (H : tlv_Spans.f k a0 = some r) : Con Tryd.prog 9 [S a0] (.row (some 36) 1 (List.map Cx r)) := by
  refine con_of_good Tryd.func9 rfl (by kernel_rfl) (by kernel_rfl) fun C hN hL => ?_
  unfold tlv_Spans.f at H
  refine Good.seq ?_
  refine Good.reg hN [] .nil [] (by kernel_rfl) ?_
  refine Good.seq ?_
  refine Good.reg hN [] .nil [] (by kernel_rfl) ?_
  refine Good.seq ?_
  refine Good.seq ?_
  obtain ⟨t337, h338, H⟩ := bindS H
  refine Good.reg hN [.agg [I t337.1, I t337.2.1], .tup [.agg [S t337.2.2.1, .row (some 40) 5 (List.map (v40 1) t337.2.2.2.1), .row (some 36) 1 (List.map Cx t337.2.2.2.2.1), .row (some 3) 1 (List.map I t337.2.2.2.2.2)]]] (.cons (ConX.n (tlv_reader_read.con h338) (.cons (.refl _) .nil) (.cons (.cons (.refl _) (.cons (.nilO 40 5) (.cons (.nilO 36 1) (.cons (.nilO 3 1) .nil)))) .nil)) .nil) [] (by kernel_rfl) ?_
  rcases (ifC H).symm with ⟨c339, H⟩ | ⟨c339, H⟩
  · refine Good.condT (bne_iff_ne.2 c339) (by kernel_rfl) ?_
    refine Good.seq ?_
    refine Good.reg hN [] .nil [] (by kernel_rfl) ?_
    obtain rfl := Option.some.inj H
    exact Good.ret (fin_fit (u := .nil 36 1) (.nilO 36 1) (by kernel_rfl))
  refine Good.condF (bneF c339) (by kernel_rfl) ?_
  refine Good.skip ?_
  refine Good.seq ?_
  refine Good.reg hN [] .nil [] (by kernel_rfl) ?_
  obtain rfl := Option.some.inj H
  exact Good.ret (fin.doneR (by kernel_rfl))
def clavigerlaw19_awake.f (k : Nat)  : Option (Bool) := (tlv_Decode.f k (⟨#[48, 3, 2, 1, 5]⟩ : ByteArray)).bind fun t351 => ((tlv_Spans.f k (⟨#[48, 3, 2, 1, 5]⟩ : ByteArray)).bind fun t353 => ((tlv_Decode.f k (⟨#[48, 128]⟩ : ByteArray)).bind fun t355 => (if (t351.1.length : Int) = 2 then (if ((t351.2.1 == 0) && (t351.2.2 == 0)) = true then (if 1 < (t351.1.length : Int) then (if ((rd_T40 t351.1 1).f3).toList = ([5] : List UInt8) then (if 0 < (t351.1.length : Int) then (if (((rd_T40 t351.1 0).f4).length : Int) = 1 then (if (t353.length : Int) = 2 then (if 1 < (t353.length : Int) then ((span_Of.f 2 5).bind fun t365 => (if (feq (rdOf ((0, 0) : Nat × Nat) t353 1).1 t365.1 && feq (rdOf ((0, 0) : Nat × Nat) t353 1).2 t365.2) = true then (some ((t355.2.1 == 5) && (t355.2.2 == 0))) else (some false))) else (none)) else (some false)) else (some false)) else (none)) else (some false)) else (none)) else (some false)) else (some false))))
theorem clavigerlaw19_awake.con {k : Nat} {r : (Bool)} (H : clavigerlaw19_awake.f k  = some r) : Con Tryd.prog 6 [] (B r) := by
  refine con_of_good Tryd.func6 rfl (by kernel_rfl) (by kernel_rfl) fun C hN hL => ?_
  unfold clavigerlaw19_awake.f at H
  refine Good.seq ?_
  refine Good.reg hN [] .nil [] (by kernel_rfl) ?_
  refine Good.seq ?_
  obtain ⟨t351, h352, H⟩ := bindS H
  refine Good.reg hN [.tup [.row (some 40) 5 (List.map (v40 1) t351.1), .agg [I t351.2.1, I t351.2.2]]] (.cons (tlv_Decode.con h352).c .nil) [] (by kernel_rfl) ?_
  refine Good.seq ?_
  refine Good.share 1 (d := .v (.row (some 40) 5 (List.map (v40 1) t351.1))) (u := .v (.row none 5 (List.map (v40 0) t351.1))) (by kernel_rfl) (congrArg D.v (shrM (some 40) 5 (v40 1) (v40 0) t351.1 (v40.shr _))) ?_
  obtain ⟨t353, h354, H⟩ := bindS H
  refine Good.reg hN [.row (some 36) 1 (List.map Cx t353)] (.cons (tlv_Spans.con h354).c .nil) [] (by kernel_rfl) ?_
  refine Good.seq ?_
  obtain ⟨t355, h356, H⟩ := bindS H
  refine Good.reg hN [.tup [.row (some 40) 5 (List.map (v40 1) t355.1), .agg [I t355.2.1, I t355.2.2]]] (.cons (tlv_Decode.con h356).c .nil) [] (by kernel_rfl) ?_
  refine Good.seq ?_
  rcases (ifC H).symm with ⟨c357, H⟩ | ⟨c357, H⟩
  · refine Good.regDF hm hN (.q 0 [] (.q 1 [] (.q 2 [] (.q 3 [] (.k 18 (.i 4 (.i 5 (.i 6 (.q 7 [] (.q 8 [] (.k 23 (.i 9 (.i 10 (.i 11 (.i 12 (.i 13 (.q 14 [] (.q 15 [] (.k 30 (.i 16 (.i 17 (.i 18 (.i 19 (.i 20 (.i 21 (.q 22 [] (.q 23 [] (.k 38 (.i 24 (.i 25 (.i 26 (.q 27 [] (.q 28 [] (.k 43 (.i 29 (.i 30 (.i 31 (.i 32 (.i 33 (.q 34 [] (.q 35 [] (.k 50 (.i 36 (.i 37 (.i 38 (.q 39 [] (.q 40 [] .z))))))))))))))))))))))))))))))))))))))))))))))) [(1, none), (2, some (.pt [I t351.2.1, I t351.2.2])), (3, some (.row none 1 (List.map Cx t353))), (5, some (.pt [I t355.2.1, I t355.2.2]))] (by kernel_rfl) (.cons (ptS (shrC (rfl : (V.shr (I t351.2.1)) = I t351.2.1) (shrC (rfl : (V.shr (I t351.2.2)) = I t351.2.2) (rfl : shrL [] = [])))) (.cons (shrM (some 36) 1 Cx Cx t353 (fun _ => rfl)) (.cons (ptS (shrC (rfl : (V.shr (I t355.2.1)) = I t355.2.1) (shrC (rfl : (V.shr (I t355.2.2)) = I t355.2.2) (rfl : shrL [] = [])))) .nil))) [I (t351.1.length : Int), B false, B false, B false, B false, B false, B false] [I (t351.1.length : Int)] (.cons (lenM (v40 0) t351.1) (.cons (beq_eq_false_iff_ne.2 c357) (.cons (rfl : false = false) (.cons (rfl : false = false) (.cons (rfl : false = false) (.cons (rfl : false = false) (.cons (rfl : false = false) .nil))))))) (.cons (lenM (v40 0) t351.1) (.cons (beq_eq_false_iff_ne.2 c357) (.cons (rfl : false = false) (.cons (rfl : false = false) (.cons (rfl : false = false) (.cons (rfl : false = false) (.cons (rfl : false = false) .nil))))))) [] [] (by kernel_rfl) (by kernel_rfl) ?_
    obtain rfl := Option.some.inj H
    exact Good.ret (fin.doneR (by kernel_rfl))
  rcases (ifC H).symm with ⟨c358, H⟩ | ⟨c358, H⟩
  · refine Good.regDF hm hN (.q 0 [] (.q 1 [] (.q 2 [] (.q 3 [] (.k 18 (.q 4 [] (.q 5 [] (.q 6 [] (.q 7 [] (.q 8 [] (.k 23 (.i 9 (.i 10 (.i 11 (.i 12 (.i 13 (.q 14 [] (.q 15 [] (.k 30 (.i 16 (.i 17 (.i 18 (.i 19 (.i 20 (.i 21 (.q 22 [] (.q 23 [] (.k 38 (.i 24 (.i 25 (.i 26 (.q 27 [] (.q 28 [] (.k 43 (.i 29 (.i 30 (.i 31 (.i 32 (.i 33 (.q 34 [] (.q 35 [] (.k 50 (.i 36 (.i 37 (.i 38 (.q 39 [] (.q 40 [] .z))))))))))))))))))))))))))))))))))))))))))))))) [(1, none), (2, some (.pt [I t351.2.1, I t351.2.2])), (3, some (.row none 1 (List.map Cx t353))), (5, some (.pt [I t355.2.1, I t355.2.2]))] (by kernel_rfl) (.cons (ptS (shrC (rfl : (V.shr (I t351.2.1)) = I t351.2.1) (shrC (rfl : (V.shr (I t351.2.2)) = I t351.2.2) (rfl : shrL [] = [])))) (.cons (shrM (some 36) 1 Cx Cx t353 (fun _ => rfl)) (.cons (ptS (shrC (rfl : (V.shr (I t355.2.1)) = I t355.2.1) (shrC (rfl : (V.shr (I t355.2.2)) = I t355.2.2) (rfl : shrL [] = [])))) .nil))) [I (t351.1.length : Int), B true, B false, B false, B false, B false, B false] [I (t351.1.length : Int)] (.cons (lenM (v40 0) t351.1) (.cons (beq_iff_eq.2 c357) (.cons (Bool.eq_false_iff.2 c358) (.cons (rfl : false = false) (.cons (rfl : false = false) (.cons (rfl : false = false) (.cons (rfl : false = false) .nil))))))) (.cons (lenM (v40 0) t351.1) (.cons (beq_iff_eq.2 c357) (.cons (Bool.eq_false_iff.2 c358) (.cons (rfl : false = false) (.cons (rfl : false = false) (.cons (rfl : false = false) (.cons (rfl : false = false) .nil))))))) [] [] (by kernel_rfl) (by kernel_rfl) ?_
    obtain rfl := Option.some.inj H
    exact Good.ret (fin.doneR (by kernel_rfl))
  obtain ⟨c359, H⟩ := ifS H
  rcases (ifC H).symm with ⟨c360, H⟩ | ⟨c360, H⟩
  · refine Good.regDF hm hN (.q 0 [] (.q 1 [] (.q 2 [] (.q 3 [] (.k 18 (.q 4 [] (.q 5 [] (.q 6 [] (.q 7 [] (.q 8 [] (.k 23 (.q 9 [] (.q 10 [] (.q 11 [] (.q 12 [] (.q 13 [] (.q 14 [] (.q 15 [] (.k 30 (.i 16 (.i 17 (.i 18 (.i 19 (.i 20 (.i 21 (.q 22 [] (.q 23 [] (.k 38 (.i 24 (.i 25 (.i 26 (.q 27 [] (.q 28 [] (.k 43 (.i 29 (.i 30 (.i 31 (.i 32 (.i 33 (.q 34 [] (.q 35 [] (.k 50 (.i 36 (.i 37 (.i 38 (.q 39 [] (.q 40 [] .z))))))))))))))))))))))))))))))))))))))))))))))) [(1, none), (2, some (.pt [I t351.2.1, I t351.2.2])), (3, some (.row none 1 (List.map Cx t353))), (5, some (.pt [I t355.2.1, I t355.2.2]))] (by kernel_rfl) (.cons (ptS (shrC (rfl : (V.shr (I t351.2.1)) = I t351.2.1) (shrC (rfl : (V.shr (I t351.2.2)) = I t351.2.2) (rfl : shrL [] = [])))) (.cons (shrM (some 36) 1 Cx Cx t353 (fun _ => rfl)) (.cons (ptS (shrC (rfl : (V.shr (I t355.2.1)) = I t355.2.1) (shrC (rfl : (V.shr (I t355.2.2)) = I t355.2.2) (rfl : shrL [] = [])))) .nil))) [I (t351.1.length : Int), B true, B true, (v40 0) (rd_T40 t351.1 1), B false, B false, B false, B false] [I (t351.1.length : Int), (v40 0) (rd_T40 t351.1 1)] (.cons (lenM (v40 0) t351.1) (.cons (beq_iff_eq.2 c357) (.cons c358 (.cons (show (0 : Int) ≤ 1 by decide) (.cons (atM (v40 0) z40 (show (0 : Int) ≤ 1 by decide) c359) (.cons (strV (rfl : ((rd_T40 t351.1 1).f3).toList = ((rd_T40 t351.1 1).f3).toList) (litL ([5] : List UInt8))) (.cons (beq_eq_false_iff_ne.2 c360) (.cons (rfl : false = false) (.cons (rfl : false = false) (.cons (rfl : false = false) .nil)))))))))) (.cons (lenM (v40 0) t351.1) (.cons (beq_iff_eq.2 c357) (.cons c358 (.cons (show (0 : Int) ≤ 1 by decide) (.cons (atM (v40 0) z40 (show (0 : Int) ≤ 1 by decide) c359) (.cons ((strB (rfl : ((rd_T40 t351.1 1).f3).toList = ((rd_T40 t351.1 1).f3).toList) (litL ([5] : List UInt8))).trans (beq_eq_false_iff_ne.2 c360)) (.cons (rfl : false = false) (.cons (rfl : false = false) (.cons (rfl : false = false) .nil))))))))) [(28, .bool (((rd_T40 t351.1 1).f3).toList == ([5] : List UInt8)))] [] (by kernel_rfl) (by kernel_rfl) ?_
    obtain rfl := Option.some.inj H
    exact Good.ret (fin.doneR (by kernel_rfl))
  obtain ⟨c361, H⟩ := ifS H
  rcases (ifC H).symm with ⟨c362, H⟩ | ⟨c362, H⟩
  · refine Good.regDF hm hN (.q 0 [] (.q 1 [] (.q 2 [] (.q 3 [] (.k 18 (.q 4 [] (.q 5 [] (.q 6 [] (.q 7 [] (.q 8 [] (.k 23 (.q 9 [] (.q 10 [] (.q 11 [] (.q 12 [] (.q 13 [] (.q 14 [] (.q 15 [] (.k 30 (.q 16 [] (.q 17 [] (.q 18 [] (.q 19 [] (.q 20 [] (.q 21 [] (.q 22 [] (.q 23 [] (.k 38 (.i 24 (.i 25 (.i 26 (.q 27 [] (.q 28 [] (.k 43 (.i 29 (.i 30 (.i 31 (.i 32 (.i 33 (.q 34 [] (.q 35 [] (.k 50 (.i 36 (.i 37 (.i 38 (.q 39 [] (.q 40 [] .z))))))))))))))))))))))))))))))))))))))))))))))) [(1, none), (2, some (.pt [I t351.2.1, I t351.2.2])), (3, some (.row none 1 (List.map Cx t353))), (5, some (.pt [I t355.2.1, I t355.2.2]))] (by kernel_rfl) (.cons (ptS (shrC (rfl : (V.shr (I t351.2.1)) = I t351.2.1) (shrC (rfl : (V.shr (I t351.2.2)) = I t351.2.2) (rfl : shrL [] = [])))) (.cons (shrM (some 36) 1 Cx Cx t353 (fun _ => rfl)) (.cons (ptS (shrC (rfl : (V.shr (I t355.2.1)) = I t355.2.1) (shrC (rfl : (V.shr (I t355.2.2)) = I t355.2.2) (rfl : shrL [] = [])))) .nil))) [I (t351.1.length : Int), B true, B true, (v40 0) (rd_T40 t351.1 1), B true, (v40 0) (rd_T40 t351.1 0), I (((rd_T40 t351.1 0).f4).length : Int), B false, B false, B false] [I (t351.1.length : Int), (v40 0) (rd_T40 t351.1 1), (v40 0) (rd_T40 t351.1 0), I (((rd_T40 t351.1 0).f4).length : Int)] (.cons (lenM (v40 0) t351.1) (.cons (beq_iff_eq.2 c357) (.cons c358 (.cons (show (0 : Int) ≤ 1 by decide) (.cons (atM (v40 0) z40 (show (0 : Int) ≤ 1 by decide) c359) (.cons (strV (rfl : ((rd_T40 t351.1 1).f3).toList = ((rd_T40 t351.1 1).f3).toList) (litL ([5] : List UInt8))) (.cons (beq_iff_eq.2 c360) (.cons (show (0 : Int) ≤ 0 by decide) (.cons (atM (v40 0) z40 (show (0 : Int) ≤ 0 by decide) c361) (.cons (lenM I ((rd_T40 t351.1 0).f4)) (.cons (beq_eq_false_iff_ne.2 c362) (.cons (rfl : false = false) (.cons (rfl : false = false) .nil))))))))))))) (.cons (lenM (v40 0) t351.1) (.cons (beq_iff_eq.2 c357) (.cons c358 (.cons (show (0 : Int) ≤ 1 by decide) (.cons (atM (v40 0) z40 (show (0 : Int) ≤ 1 by decide) c359) (.cons ((strB (rfl : ((rd_T40 t351.1 1).f3).toList = ((rd_T40 t351.1 1).f3).toList) (litL ([5] : List UInt8))).trans (beq_iff_eq.2 c360)) (.cons (show (0 : Int) ≤ 0 by decide) (.cons (atM (v40 0) z40 (show (0 : Int) ≤ 0 by decide) c361) (.cons (lenM I ((rd_T40 t351.1 0).f4)) (.cons (beq_eq_false_iff_ne.2 c362) (.cons (rfl : false = false) (.cons (rfl : false = false) .nil)))))))))))) [(28, .bool (((rd_T40 t351.1 1).f3).toList == ([5] : List UInt8)))] [] (by kernel_rfl) (by kernel_rfl) ?_
    obtain rfl := Option.some.inj H
    exact Good.ret (fin.doneR (by kernel_rfl))
  rcases (ifC H).symm with ⟨c363, H⟩ | ⟨c363, H⟩
  · refine Good.regDF hm hN (.q 0 [] (.q 1 [] (.q 2 [] (.q 3 [] (.k 18 (.q 4 [] (.q 5 [] (.q 6 [] (.q 7 [] (.q 8 [] (.k 23 (.q 9 [] (.q 10 [] (.q 11 [] (.q 12 [] (.q 13 [] (.q 14 [] (.q 15 [] (.k 30 (.q 16 [] (.q 17 [] (.q 18 [] (.q 19 [] (.q 20 [] (.q 21 [] (.q 22 [] (.q 23 [] (.k 38 (.q 24 [] (.q 25 [] (.q 26 [] (.q 27 [] (.q 28 [] (.k 43 (.i 29 (.i 30 (.i 31 (.i 32 (.i 33 (.q 34 [] (.q 35 [] (.k 50 (.i 36 (.i 37 (.i 38 (.q 39 [] (.q 40 [] .z))))))))))))))))))))))))))))))))))))))))))))))) [(1, none), (2, some (.pt [I t351.2.1, I t351.2.2])), (3, some (.row none 1 (List.map Cx t353))), (5, some (.pt [I t355.2.1, I t355.2.2]))] (by kernel_rfl) (.cons (ptS (shrC (rfl : (V.shr (I t351.2.1)) = I t351.2.1) (shrC (rfl : (V.shr (I t351.2.2)) = I t351.2.2) (rfl : shrL [] = [])))) (.cons (shrM (some 36) 1 Cx Cx t353 (fun _ => rfl)) (.cons (ptS (shrC (rfl : (V.shr (I t355.2.1)) = I t355.2.1) (shrC (rfl : (V.shr (I t355.2.2)) = I t355.2.2) (rfl : shrL [] = [])))) .nil))) [I (t351.1.length : Int), B true, B true, (v40 0) (rd_T40 t351.1 1), B true, (v40 0) (rd_T40 t351.1 0), I (((rd_T40 t351.1 0).f4).length : Int), B true, I (t353.length : Int), B false, B false] [I (t351.1.length : Int), (v40 0) (rd_T40 t351.1 1), (v40 0) (rd_T40 t351.1 0), I (((rd_T40 t351.1 0).f4).length : Int), I (t353.length : Int)] (.cons (lenM (v40 0) t351.1) (.cons (beq_iff_eq.2 c357) (.cons c358 (.cons (show (0 : Int) ≤ 1 by decide) (.cons (atM (v40 0) z40 (show (0 : Int) ≤ 1 by decide) c359) (.cons (strV (rfl : ((rd_T40 t351.1 1).f3).toList = ((rd_T40 t351.1 1).f3).toList) (litL ([5] : List UInt8))) (.cons (beq_iff_eq.2 c360) (.cons (show (0 : Int) ≤ 0 by decide) (.cons (atM (v40 0) z40 (show (0 : Int) ≤ 0 by decide) c361) (.cons (lenM I ((rd_T40 t351.1 0).f4)) (.cons (beq_iff_eq.2 c362) (.cons (lenM Cx t353) (.cons (beq_eq_false_iff_ne.2 c363) (.cons (rfl : false = false) .nil)))))))))))))) (.cons (lenM (v40 0) t351.1) (.cons (beq_iff_eq.2 c357) (.cons c358 (.cons (show (0 : Int) ≤ 1 by decide) (.cons (atM (v40 0) z40 (show (0 : Int) ≤ 1 by decide) c359) (.cons ((strB (rfl : ((rd_T40 t351.1 1).f3).toList = ((rd_T40 t351.1 1).f3).toList) (litL ([5] : List UInt8))).trans (beq_iff_eq.2 c360)) (.cons (show (0 : Int) ≤ 0 by decide) (.cons (atM (v40 0) z40 (show (0 : Int) ≤ 0 by decide) c361) (.cons (lenM I ((rd_T40 t351.1 0).f4)) (.cons (beq_iff_eq.2 c362) (.cons (lenM Cx t353) (.cons (beq_eq_false_iff_ne.2 c363) (.cons (rfl : false = false) .nil))))))))))))) [(28, .bool (((rd_T40 t351.1 1).f3).toList == ([5] : List UInt8)))] [] (by kernel_rfl) (by kernel_rfl) ?_
    obtain rfl := Option.some.inj H
    exact Good.ret (fin.doneR (by kernel_rfl))
  obtain ⟨c364, H⟩ := ifS H
  obtain ⟨t365, h366, H⟩ := bindS H
  rcases ifC H with ⟨c367, H⟩ | ⟨c367, H⟩
  · refine Good.regDF hm hN (.q 0 [] (.q 1 [] (.q 2 [] (.q 3 [] (.k 18 (.q 4 [] (.q 5 [] (.q 6 [] (.q 7 [] (.q 8 [] (.k 23 (.q 9 [] (.q 10 [] (.q 11 [] (.q 12 [] (.q 13 [] (.q 14 [] (.q 15 [] (.k 30 (.q 16 [] (.q 17 [] (.q 18 [] (.q 19 [] (.q 20 [] (.q 21 [] (.q 22 [] (.q 23 [] (.k 38 (.q 24 [] (.q 25 [] (.q 26 [] (.q 27 [] (.q 28 [] (.k 43 (.q 29 [] (.q 30 [] (.q 31 [] (.e 32 (.q 33 [] (.q 34 [] (.q 35 [] (.k 50 (.q 36 [] (.q 37 [] (.q 38 [] (.q 39 [] (.q 40 [] .z))))))))))))))))))))))))))))))))))))))))))))))) [(1, none), (2, some (.pt [I t351.2.1, I t351.2.2])), (3, some (.row none 1 (List.map Cx t353))), (5, some (.pt [I t355.2.1, I t355.2.2]))] (by kernel_rfl) (.cons (ptS (shrC (rfl : (V.shr (I t351.2.1)) = I t351.2.1) (shrC (rfl : (V.shr (I t351.2.2)) = I t351.2.2) (rfl : shrL [] = [])))) (.cons (shrM (some 36) 1 Cx Cx t353 (fun _ => rfl)) (.cons (ptS (shrC (rfl : (V.shr (I t355.2.1)) = I t355.2.1) (shrC (rfl : (V.shr (I t355.2.2)) = I t355.2.2) (rfl : shrL [] = [])))) .nil))) [I (t351.1.length : Int), B true, B true, (v40 0) (rd_T40 t351.1 1), B true, (v40 0) (rd_T40 t351.1 0), I (((rd_T40 t351.1 0).f4).length : Int), B true, I (t353.length : Int), B true, Cx (rdOf ((0, 0) : Nat × Nat) t353 1), Cx t365, B true] [I (t351.1.length : Int), (v40 0) (rd_T40 t351.1 1), (v40 0) (rd_T40 t351.1 0), I (((rd_T40 t351.1 0).f4).length : Int), I (t353.length : Int), Cx (rdOf ((0, 0) : Nat × Nat) t353 1)] (.cons (lenM (v40 0) t351.1) (.cons (beq_iff_eq.2 c357) (.cons c358 (.cons (show (0 : Int) ≤ 1 by decide) (.cons (atM (v40 0) z40 (show (0 : Int) ≤ 1 by decide) c359) (.cons (strV (rfl : ((rd_T40 t351.1 1).f3).toList = ((rd_T40 t351.1 1).f3).toList) (litL ([5] : List UInt8))) (.cons (beq_iff_eq.2 c360) (.cons (show (0 : Int) ≤ 0 by decide) (.cons (atM (v40 0) z40 (show (0 : Int) ≤ 0 by decide) c361) (.cons (lenM I ((rd_T40 t351.1 0).f4)) (.cons (beq_iff_eq.2 c362) (.cons (lenM Cx t353) (.cons (beq_iff_eq.2 c363) (.cons (show (0 : Int) ≤ 1 by decide) (.cons (ltM Cx c364) (.cons (atM Cx ((0, 0) : Nat × Nat) (show (0 : Int) ≤ 1 by decide) c364) (.cons (span_Of.con h366).c (.cons c367 .nil)))))))))))))))))) (.cons (lenM (v40 0) t351.1) (.cons (beq_iff_eq.2 c357) (.cons c358 (.cons (show (0 : Int) ≤ 1 by decide) (.cons (atM (v40 0) z40 (show (0 : Int) ≤ 1 by decide) c359) (.cons ((strB (rfl : ((rd_T40 t351.1 1).f3).toList = ((rd_T40 t351.1 1).f3).toList) (litL ([5] : List UInt8))).trans (beq_iff_eq.2 c360)) (.cons (show (0 : Int) ≤ 0 by decide) (.cons (atM (v40 0) z40 (show (0 : Int) ≤ 0 by decide) c361) (.cons (lenM I ((rd_T40 t351.1 0).f4)) (.cons (beq_iff_eq.2 c362) (.cons (lenM Cx t353) (.cons (beq_iff_eq.2 c363) (.cons (show (0 : Int) ≤ 1 by decide) (.cons (atM Cx ((0, 0) : Nat × Nat) (show (0 : Int) ≤ 1 by decide) c364) (.cons c367 .nil))))))))))))))) [(28, .bool (((rd_T40 t351.1 1).f3).toList == ([5] : List UInt8)))] [] (by kernel_rfl) (by kernel_rfl) ?_
    obtain rfl := Option.some.inj H
    exact Good.ret (fin.doneR (by kernel_rfl))
  refine Good.regDF hm hN (.q 0 [] (.q 1 [] (.q 2 [] (.q 3 [] (.k 18 (.q 4 [] (.q 5 [] (.q 6 [] (.q 7 [] (.q 8 [] (.k 23 (.q 9 [] (.q 10 [] (.q 11 [] (.q 12 [] (.q 13 [] (.q 14 [] (.q 15 [] (.k 30 (.q 16 [] (.q 17 [] (.q 18 [] (.q 19 [] (.q 20 [] (.q 21 [] (.q 22 [] (.q 23 [] (.k 38 (.q 24 [] (.q 25 [] (.q 26 [] (.q 27 [] (.q 28 [] (.k 43 (.q 29 [] (.q 30 [] (.q 31 [] (.e 32 (.q 33 [] (.q 34 [] (.q 35 [] (.k 50 (.i 36 (.i 37 (.i 38 (.q 39 [] (.q 40 [] .z))))))))))))))))))))))))))))))))))))))))))))))) [(1, none), (2, some (.pt [I t351.2.1, I t351.2.2])), (3, some (.row none 1 (List.map Cx t353))), (5, some (.pt [I t355.2.1, I t355.2.2]))] (by kernel_rfl) (.cons (ptS (shrC (rfl : (V.shr (I t351.2.1)) = I t351.2.1) (shrC (rfl : (V.shr (I t351.2.2)) = I t351.2.2) (rfl : shrL [] = [])))) (.cons (shrM (some 36) 1 Cx Cx t353 (fun _ => rfl)) (.cons (ptS (shrC (rfl : (V.shr (I t355.2.1)) = I t355.2.1) (shrC (rfl : (V.shr (I t355.2.2)) = I t355.2.2) (rfl : shrL [] = [])))) .nil))) [I (t351.1.length : Int), B true, B true, (v40 0) (rd_T40 t351.1 1), B true, (v40 0) (rd_T40 t351.1 0), I (((rd_T40 t351.1 0).f4).length : Int), B true, I (t353.length : Int), B true, Cx (rdOf ((0, 0) : Nat × Nat) t353 1), Cx t365, B false] [I (t351.1.length : Int), (v40 0) (rd_T40 t351.1 1), (v40 0) (rd_T40 t351.1 0), I (((rd_T40 t351.1 0).f4).length : Int), I (t353.length : Int), Cx (rdOf ((0, 0) : Nat × Nat) t353 1)] (.cons (lenM (v40 0) t351.1) (.cons (beq_iff_eq.2 c357) (.cons c358 (.cons (show (0 : Int) ≤ 1 by decide) (.cons (atM (v40 0) z40 (show (0 : Int) ≤ 1 by decide) c359) (.cons (strV (rfl : ((rd_T40 t351.1 1).f3).toList = ((rd_T40 t351.1 1).f3).toList) (litL ([5] : List UInt8))) (.cons (beq_iff_eq.2 c360) (.cons (show (0 : Int) ≤ 0 by decide) (.cons (atM (v40 0) z40 (show (0 : Int) ≤ 0 by decide) c361) (.cons (lenM I ((rd_T40 t351.1 0).f4)) (.cons (beq_iff_eq.2 c362) (.cons (lenM Cx t353) (.cons (beq_iff_eq.2 c363) (.cons (show (0 : Int) ≤ 1 by decide) (.cons (ltM Cx c364) (.cons (atM Cx ((0, 0) : Nat × Nat) (show (0 : Int) ≤ 1 by decide) c364) (.cons (span_Of.con h366).c (.cons (Bool.eq_false_iff.2 c367) .nil)))))))))))))))))) (.cons (lenM (v40 0) t351.1) (.cons (beq_iff_eq.2 c357) (.cons c358 (.cons (show (0 : Int) ≤ 1 by decide) (.cons (atM (v40 0) z40 (show (0 : Int) ≤ 1 by decide) c359) (.cons ((strB (rfl : ((rd_T40 t351.1 1).f3).toList = ((rd_T40 t351.1 1).f3).toList) (litL ([5] : List UInt8))).trans (beq_iff_eq.2 c360)) (.cons (show (0 : Int) ≤ 0 by decide) (.cons (atM (v40 0) z40 (show (0 : Int) ≤ 0 by decide) c361) (.cons (lenM I ((rd_T40 t351.1 0).f4)) (.cons (beq_iff_eq.2 c362) (.cons (lenM Cx t353) (.cons (beq_iff_eq.2 c363) (.cons (show (0 : Int) ≤ 1 by decide) (.cons (atM Cx ((0, 0) : Nat × Nat) (show (0 : Int) ≤ 1 by decide) c364) (.cons (Bool.eq_false_iff.2 c367) .nil))))))))))))))) [(28, .bool (((rd_T40 t351.1 1).f3).toList == ([5] : List UInt8)))] [] (by kernel_rfl) (by kernel_rfl) ?_
  obtain rfl := Option.some.inj H
  exact Good.ret (fin.doneR (by kernel_rfl))
def span_Inside.f (a0 : (Nat × Nat)) (a1 : (Nat × Nat)) : Option (Bool) := (span_May.f a0).bind fun t368 => (if t368 = true then ((span_May.f a1).bind fun t371 => (if t371 = true then (if (fge a0.1 a1.1) = true then (some (fle a0.2 a1.2)) else (some false)) else (some false))) else (some false))
theorem span_Inside.con {a0 : (Nat × Nat)} {a1 : (Nat × Nat)} {r : (Bool)} (H : span_Inside.f a0 a1 = some r) : Con Tryd.prog 13 [Cx a0, Cx a1] (B r) := by
  refine con_of_good Tryd.func13 rfl (by kernel_rfl) (by kernel_rfl) fun C hN hL => ?_
  unfold span_Inside.f at H
  refine Good.seq ?_
  refine Good.reg hN [] .nil [] (by kernel_rfl) ?_
  refine Good.seq ?_
  obtain ⟨t368, h369, H⟩ := bindS H
  rcases (ifC H).symm with ⟨c370, H⟩ | ⟨c370, H⟩
  · refine Good.reg hN [B t368, B false, B false, B false] (.cons (span_May.con h369).c (.cons (Bool.eq_false_iff.2 c370) (.cons (rfl : false = false) (.cons (rfl : false = false) .nil)))) [] (by kernel_rfl) ?_
    obtain rfl := Option.some.inj H
    exact Good.ret (fin.doneR (by kernel_rfl))
  obtain ⟨t371, h372, H⟩ := bindS H
  rcases (ifC H).symm with ⟨c373, H⟩ | ⟨c373, H⟩
  · refine Good.reg hN [B t368, B true, B t371, B false, B false] (.cons (span_May.con h369).c (.cons c370 (.cons (span_May.con h372).c (.cons (Bool.eq_false_iff.2 c373) (.cons (rfl : false = false) .nil))))) [] (by kernel_rfl) ?_
    obtain rfl := Option.some.inj H
    exact Good.ret (fin.doneR (by kernel_rfl))
  rcases ifC H with ⟨c374, H⟩ | ⟨c374, H⟩
  · refine Good.reg hN [B t368, B true, B t371, B true, B true] (.cons (span_May.con h369).c (.cons c370 (.cons (span_May.con h372).c (.cons c373 (.cons c374 .nil))))) [] (by kernel_rfl) ?_
    obtain rfl := Option.some.inj H
    exact Good.ret (fin.doneR (by kernel_rfl))
  refine Good.reg hN [B t368, B true, B t371, B true, B false] (.cons (span_May.con h369).c (.cons c370 (.cons (span_May.con h372).c (.cons c373 (.cons (Bool.eq_false_iff.2 c374) .nil))))) [] (by kernel_rfl) ?_
  obtain rfl := Option.some.inj H
  exact Good.ret (fin.doneR (by kernel_rfl))
def span_Apart.f (a0 : (Nat × Nat)) (a1 : (Nat × Nat)) : Option (Bool) := (span_May.f a0).bind fun t375 => (if t375 = true then ((span_May.f a1).bind fun t378 => (if t378 = true then (if (fle a0.2 a1.1) = true then (some true) else (some (fle a1.2 a0.1))) else (some false))) else (some false))
theorem span_Apart.con {a0 : (Nat × Nat)} {a1 : (Nat × Nat)} {r : (Bool)} (H : span_Apart.f a0 a1 = some r) : Con Tryd.prog 14 [Cx a0, Cx a1] (B r) := by
  refine con_of_good Tryd.func14 rfl (by kernel_rfl) (by kernel_rfl) fun C hN hL => ?_
  unfold span_Apart.f at H
  refine Good.seq ?_
  refine Good.reg hN [] .nil [] (by kernel_rfl) ?_
  refine Good.seq ?_
  obtain ⟨t375, h376, H⟩ := bindS H
  rcases (ifC H).symm with ⟨c377, H⟩ | ⟨c377, H⟩
  · refine Good.reg hN [B t375, B false, B false] (.cons (span_May.con h376).c (.cons (Bool.eq_false_iff.2 c377) (.cons (rfl : false = false) .nil))) [] (by kernel_rfl) ?_
    obtain rfl := Option.some.inj H
    exact Good.ret (fin.doneR (by kernel_rfl))
  obtain ⟨t378, h379, H⟩ := bindS H
  rcases (ifC H).symm with ⟨c380, H⟩ | ⟨c380, H⟩
  · refine Good.reg hN [B t375, B true, B t378, B false] (.cons (span_May.con h376).c (.cons c377 (.cons (span_May.con h379).c (.cons (Bool.eq_false_iff.2 c380) .nil)))) [] (by kernel_rfl) ?_
    obtain rfl := Option.some.inj H
    exact Good.ret (fin.doneR (by kernel_rfl))
  rcases ifC H with ⟨c381, H⟩ | ⟨c381, H⟩
  · refine Good.reg hN [B t375, B true, B t378, B true, B true] (.cons (span_May.con h376).c (.cons c377 (.cons (span_May.con h379).c (.cons c380 (.cons c381 .nil))))) [] (by kernel_rfl) ?_
    obtain rfl := Option.some.inj H
    exact Good.ret (fin.doneR (by kernel_rfl))
  refine Good.reg hN [B t375, B true, B t378, B true, B false] (.cons (span_May.con h376).c (.cons c377 (.cons (span_May.con h379).c (.cons c380 (.cons (Bool.eq_false_iff.2 c381) .nil))))) [] (by kernel_rfl) ?_
  obtain rfl := Option.some.inj H
  exact Good.ret (fin.doneR (by kernel_rfl))
def tlv_Pieces.l0 : Nat → ByteArray → List ByteArray → Int → Int → Int → Option (List ByteArray × Int × Int)
 | 0, _, _, _, _, _ => none
 | k + 1, x0, x2, x4, x1000, x1001 => if x4 < (x0.size : Int) then (if 0 ≤ x4 then (if x4 ≤ (x0.size : Int) then ((head_Decode.f k (x0.extract (x4 : Int).toNat x0.size)).bind fun t398 => (if t398.2.2.2.2.2 = 0 then (if t398.2.2.2.1 > (wrap64 ((wrap64 ((x0.size : Int) - x4)) - t398.2.2.2.2.1)) then (some (([] : List ByteArray), 5, x4)) else ((octets_Cut.f x0 x4 (wrap64 (t398.2.2.2.2.1 + t398.2.2.2.1))).bind fun t402 => (if x2.length < 8796093022208 then (tlv_Pieces.l0 k x0 (x2 ++ [t402]) (wrap64 (x4 + (wrap64 (t398.2.2.2.2.1 + t398.2.2.2.1)))) x1000 x1001) else (none)))) else (some (([] : List ByteArray), t398.2.2.2.2.2, x4)))) else (none)) else (none)) else (some (x2, x1000, x1001))
def tlv_Pieces.f (k : Nat) (a0 : ByteArray) : Option (List ByteArray × Int × Int) := if (a0.size : Int) > 65535 then (some (([] : List ByteArray), 4, 0)) else (tlv_Pieces.l0 k a0 ([] : List ByteArray) 0 0 0)
theorem tlv_Pieces.con {k : Nat} {a0 : ByteArray} {r : (List ByteArray × Int × Int)} (H : tlv_Pieces.f k a0 = some r) : Con Tryd.prog 15 [S a0] (.tup [.row (some 9) 1 (List.map S r.1), .agg [I r.2.1, I r.2.2]]) := by
  refine con_of_good Tryd.func15 rfl (by kernel_rfl) (by kernel_rfl) fun C hN hL => ?_
  unfold tlv_Pieces.f at H
  refine Good.seq ?_
  refine Good.reg hN [] .nil [] (by kernel_rfl) ?_
  refine Good.seq ?_
  refine Good.seq ?_
  refine Good.reg hN [] .nil [] (by kernel_rfl) ?_
  rcases ifC H with ⟨c394, H⟩ | ⟨c394, H⟩
  · refine Good.condT (decide_eq_true c394) (by kernel_rfl) ?_
    refine Good.seq ?_
    refine Good.reg hN [] .nil [] (by kernel_rfl) ?_
    obtain rfl := Option.some.inj H
    exact Good.ret (fin_fit (u := .tup [.nil 9 1, .agg [I 4, I 0]]) (.tup (.cons (.nilO 9 1) (.cons (.refl _) .nil))) (by kernel_rfl))
  refine Good.condF (decide_eq_false c394) (by kernel_rfl) ?_
  refine Good.skip ?_
  refine Good.seq ?_
  refine Good.seq ?_
  refine Good.reg hN [] .nil [] (by kernel_rfl) ?_
  refine Good.block ?_
  refine Good.loopN (fun k' st => ∃ (x0 : ByteArray) (x2 : List ByteArray) (x4 : Int) (x1000 : Int) (x1001 : Int), k' ≤ k ∧ Wk C st ⟨[(0, .d (.v (S x0))), (2, .d (.v (.row (some 9) 1 (List.map S x2)))), (3, .d (.ptr 0 0)), (4, .d (.v (I x4)))], [.cells [.v (I x1000), .v (I x1001)]]⟩ ∧ tlv_Pieces.l0 k' x0 x2 x4 x1000 x1001 = some r) k ⟨a0, ([] : List ByteArray), 0, 0, 0, Nat.le_refl _, Wk.of [(0, 0), (2, 1), (3, 0), (4, 0)] (by kernel_rfl) (by kernel_rfl), H⟩ fun k => ⟨fun st h => (by obtain ⟨_, _, _, _, _, _, _, H⟩ := h; cases H), ?_⟩
  clear H
  rintro st ⟨x0, x2, x4, x1000, x1001, hk, W, H⟩
  refine W.good ?_
  rw [tlv_Pieces.l0] at H
  refine Good.seq ?_
  refine Good.seq ?_
  refine Good.reg hN [] .nil [] (by kernel_rfl) ?_
  rcases (ifC H).symm with ⟨c395, H⟩ | ⟨c395, H⟩
  · refine Good.condF (decide_eq_false c395) (by kernel_rfl) ?_
    refine Good.exit ?_
    refine Good.seq ?_
    refine Good.regDF hm hN (.q 0 [[]] (.q 1 [[]] (.q 2 [[]] (.e 3 .z)))) [(2, some (.row none 1 (List.map S x2))), (3, some (.pt [I x1000, I x1001]))] (by kernel_rfl) (.cons (shrM (some 9) 1 S S x2 (fun _ => rfl)) (.cons (ptS (shrC (rfl : (V.shr (I x1000)) = I x1000) (shrC (rfl : (V.shr (I x1001)) = I x1001) (rfl : shrL [] = [])))) .nil)) [] [] .nil .nil [] [] (by kernel_rfl) (by kernel_rfl) ?_
    obtain rfl := Option.some.inj H
    exact Good.ret (fin.doneR (by kernel_rfl))
  refine Good.condT (decide_eq_true c395) (by kernel_rfl) ?_
  refine Good.skip ?_
  refine Good.block ?_
  refine Good.seq ?_
  obtain ⟨c396, H⟩ := ifS H
  obtain ⟨c397, H⟩ := ifS H
  obtain ⟨t398, h399, H⟩ := bindS H
  refine Good.reg hN [.tup [.agg [I t398.1, I t398.2.1, B t398.2.2.1, I t398.2.2.2.1], I t398.2.2.2.2.1, I t398.2.2.2.2.2]] (.cons c396 (.cons c397 (.cons (head_Decode.con h399).c .nil))) [] (by kernel_rfl) ?_
  refine Good.seq ?_
  refine Good.block ?_
  refine Good.seq ?_
  refine Good.reg hN [] .nil [] (by kernel_rfl) ?_
  rcases (ifC H).symm with ⟨c400, H⟩ | ⟨c400, H⟩
  · refine Good.condT (bne_iff_ne.2 c400) (by kernel_rfl) ?_
    refine Good.seq ?_
    refine Good.reg hN [] .nil [] (by kernel_rfl) ?_
    obtain rfl := Option.some.inj H
    exact Good.ret (fin_fit (u := .tup [.nil 9 1, .agg [I t398.2.2.2.2.2, I x4]]) (.tup (.cons (.nilO 9 1) (.cons (.refl _) .nil))) (by kernel_rfl))
  refine Good.condF (bneF c400) (by kernel_rfl) ?_
  refine Good.seq ?_
  refine Good.reg hN [] .nil [] (by kernel_rfl) ?_
  rcases ifC H with ⟨c401, H⟩ | ⟨c401, H⟩
  · refine Good.condT (decide_eq_true c401) (by kernel_rfl) ?_
    refine Good.seq ?_
    refine Good.reg hN [] .nil [] (by kernel_rfl) ?_
    obtain rfl := Option.some.inj H
    exact Good.ret (fin_fit (u := .tup [.nil 9 1, .agg [I 5, I x4]]) (.tup (.cons (.nilO 9 1) (.cons (.refl _) .nil))) (by kernel_rfl))
  refine Good.condF (decide_eq_false c401) (by kernel_rfl) ?_
  refine Good.skip ?_
  refine Good.seq ?_
  obtain ⟨t402, h403, H⟩ := bindS H
  obtain ⟨c404, H⟩ := ifS H
  refine Good.reg hN [S t402, .kb true, .row (some 9) 1 (List.map S (x2 ++ [t402]))] (.cons (octets_Cut.con h403).c (.cons (fitM S x2 [t402] (.refl _)) (.cons (limM1 S c404) .nil))) [] (by kernel_rfl) ?_
  refine Good.reg hN [] .nil [] (by kernel_rfl) ?_
  exact ⟨k, by omega, x0, (x2 ++ [t402]), wrap64 (x4 + (wrap64 (t398.2.2.2.2.1 + t398.2.2.2.1))), x1000, x1001, by omega, Wk.ofB hL 1 [(0, 0), (2, 0), (3, 0), (4, 0)] (by kernel_rfl) (by kernel_rfl) (by kernel_rfl), H⟩
mutual
def clavigerlaw19_TlvNests.l0 : Nat → ByteArray → List S40 → List (Nat × Nat) → Int → Option (Bool)
 | 0, _, _, _, _ => none
 | k + 1, x0, x3, x5, x6 => if x6 < (x3.length : Int) then (if 0 ≤ x6 then (clavigerlaw19_TlvNests.l1 k x0 x3 x5 x6 ((rd_T40 x3 x6).f4) (((rd_T40 x3 x6).f4).length : Int) 0) else (none)) else ((tlv_Pieces.f k x0).bind fun t457 => (if (t457.1.length : Int) = 1 then (if 0 < (t457.1.length : Int) then (if (rdOf ByteArray.empty t457.1 0).toList = x0.toList then (if t457.2.1 = 0 then ((clavigerlaw19_awake.f k).bind fun t463 => (some t463)) else (some false)) else (some false)) else (none)) else (some false)))
def clavigerlaw19_TlvNests.l1 : Nat → ByteArray → List S40 → List (Nat × Nat) → Int → List Int → Int → Int → Option (Bool)
 | 0, _, _, _, _, _, _, _ => none
 | k + 1, x0, x3, x5, x6, x77, x78, x79 => if x79 < x78 then (if 0 ≤ x79 then (if x79 < (x77.length : Int) then (if (rd x77 x79) ≤ x6 then (some false) else (if (rd x77 x79) ≥ (x3.length : Int) then (some false) else (if 0 ≤ (rd x77 x79) then (if (rd x77 x79) < (x5.length : Int) then (if 0 ≤ x6 then (if x6 < (x5.length : Int) then ((span_Inside.f (rdOf ((0, 0) : Nat × Nat) x5 (rd x77 x79)) (rdOf ((0, 0) : Nat × Nat) x5 x6)).bind fun t475 => (if t475 = true then (if x79 > 0 then (if x6 < (x3.length : Int) then (if 0 ≤ (wrap64 (x79 - 1)) then (if (wrap64 (x79 - 1)) < (((rd_T40 x3 x6).f4).length : Int) then (if 0 ≤ (rd ((rd_T40 x3 x6).f4) (wrap64 (x79 - 1))) then (if (rd ((rd_T40 x3 x6).f4) (wrap64 (x79 - 1))) < (x5.length : Int) then ((span_Apart.f (rdOf ((0, 0) : Nat × Nat) x5 (rd x77 x79)) (rdOf ((0, 0) : Nat × Nat) x5 (rd ((rd_T40 x3 x6).f4) (wrap64 (x79 - 1))))).bind fun t484 => (if t484 = true then (clavigerlaw19_TlvNests.l1 k x0 x3 x5 x6 x77 x78 (wrap64 (x79 + 1))) else (some false))) else (none)) else (none)) else (none)) else (none)) else (none)) else (clavigerlaw19_TlvNests.l1 k x0 x3 x5 x6 x77 x78 (wrap64 (x79 + 1)))) else (some false))) else (none)) else (none)) else (none)) else (none)))) else (none)) else (none)) else (clavigerlaw19_TlvNests.l0 k x0 x3 x5 (wrap64 (x6 + 1)))
end
def clavigerlaw19_TlvNests.j0 : Nat → ByteArray → List S40 → List (Nat × Nat) → Bool → Option (Bool)
 | 0, _, _, _, _ => none
 | k + 1, x0, x3, x5, x66 => if x66 = true then (some false) else (clavigerlaw19_TlvNests.l0 k x0 x3 x5 0)
def clavigerlaw19_TlvNests.f (k : Nat) (a0 : ByteArray) : Option (Bool) := if (a0.size : Int) > 500 then ((clavigerlaw19_awake.f k).bind fun t437 => (some t437)) else ((tlv_Decode.f k a0).bind fun t439 => ((tlv_Spans.f k a0).bind fun t441 => (if t439.2.1 = 0 then (if (t441.length : Int) = (t439.1.length : Int) then (if (t439.1.length : Int) = 0 then (clavigerlaw19_TlvNests.j0 k a0 t439.1 t441 true) else (if 0 < (t441.length : Int) then ((span_Of.f 0 (a0.size : Int)).bind fun t453 => (clavigerlaw19_TlvNests.j0 k a0 t439.1 t441 (!(feq (rdOf ((0, 0) : Nat × Nat) t441 0).1 t453.1 && feq (rdOf ((0, 0) : Nat × Nat) t441 0).2 t453.2)))) else (none))) else (clavigerlaw19_TlvNests.j0 k a0 t439.1 t441 true)) else (if (t439.1.length : Int) = 0 then (if (t441.length : Int) = 0 then (if t439.2.2 ≥ 0 then (if t439.2.2 ≤ (a0.size : Int) then ((clavigerlaw19_awake.f k).bind fun t448 => (some t448)) else (some false)) else (some false)) else (some false)) else (some false)))))
theorem clavigerlaw19_TlvNests.con {k : Nat} {a0 : ByteArray} {r : (Bool)} (H : clavigerlaw19_TlvNests.f k a0 = some r) : Con Tryd.prog 4 [S a0] (B r) := by
  refine con_of_good Tryd.func4 rfl (by kernel_rfl) (by kernel_rfl) fun C hN hL => ?_
  unfold clavigerlaw19_TlvNests.f at H
  refine Good.seq ?_
  refine Good.reg hN [] .nil [] (by kernel_rfl) ?_
  refine Good.seq ?_
  refine Good.seq ?_
  refine Good.reg hN [] .nil [] (by kernel_rfl) ?_
  rcases ifC H with ⟨c436, H⟩ | ⟨c436, H⟩
  · refine Good.condT (decide_eq_true c436) (by kernel_rfl) ?_
    refine Good.seq ?_
    obtain ⟨t437, h438, H⟩ := bindS H
    refine Good.reg hN [B t437] (.cons (clavigerlaw19_awake.con h438).c .nil) [] (by kernel_rfl) ?_
    obtain rfl := Option.some.inj H
    exact Good.ret (fin.doneR (by kernel_rfl))
  refine Good.condF (decide_eq_false c436) (by kernel_rfl) ?_
  refine Good.skip ?_
  refine Good.seq ?_
  obtain ⟨t439, h440, H⟩ := bindS H
  refine Good.reg hN [.tup [.row (some 40) 5 (List.map (v40 1) t439.1), .agg [I t439.2.1, I t439.2.2]]] (.cons (tlv_Decode.con h440).c .nil) [] (by kernel_rfl) ?_
  refine Good.seq ?_
  refine Good.share 3 (d := .v (.row (some 40) 5 (List.map (v40 1) t439.1))) (u := .v (.row none 5 (List.map (v40 0) t439.1))) (by kernel_rfl) (congrArg D.v (shrM (some 40) 5 (v40 1) (v40 0) t439.1 (v40.shr _))) ?_
  obtain ⟨t441, h442, H⟩ := bindS H
  refine Good.reg hN [.row (some 36) 1 (List.map Cx t441)] (.cons (tlv_Spans.con h442).c .nil) [] (by kernel_rfl) ?_
  refine Good.seq ?_
  refine Good.seq ?_
  refine Good.reg hN [] .nil [] (by kernel_rfl) ?_
  rcases (ifC H).symm with ⟨c443, H⟩ | ⟨c443, H⟩
  · refine Good.condT (bne_iff_ne.2 c443) (by kernel_rfl) ?_
    refine Good.seq ?_
    rcases (ifC H).symm with ⟨c444, H⟩ | ⟨c444, H⟩
    · refine Good.reg hN [I (t439.1.length : Int), B false, B false, B false, B false] (.cons (lenM (v40 0) t439.1) (.cons (beq_eq_false_iff_ne.2 c444) (.cons (rfl : false = false) (.cons (rfl : false = false) (.cons (rfl : false = false) .nil))))) [] (by kernel_rfl) ?_
      obtain rfl := Option.some.inj H
      exact Good.ret (fin.doneR (by kernel_rfl))
    rcases (ifC H).symm with ⟨c445, H⟩ | ⟨c445, H⟩
    · refine Good.reg hN [I (t439.1.length : Int), B true, I (t441.length : Int), B false, B false, B false] (.cons (lenM (v40 0) t439.1) (.cons (beq_iff_eq.2 c444) (.cons (lenM Cx t441) (.cons (beq_eq_false_iff_ne.2 c445) (.cons (rfl : false = false) (.cons (rfl : false = false) .nil)))))) [] (by kernel_rfl) ?_
      obtain rfl := Option.some.inj H
      exact Good.ret (fin.doneR (by kernel_rfl))
    rcases (ifC H).symm with ⟨c446, H⟩ | ⟨c446, H⟩
    · refine Good.reg hN [I (t439.1.length : Int), B true, I (t441.length : Int), B true, B false, B false] (.cons (lenM (v40 0) t439.1) (.cons (beq_iff_eq.2 c444) (.cons (lenM Cx t441) (.cons (beq_iff_eq.2 c445) (.cons (decide_eq_false c446) (.cons (rfl : false = false) .nil)))))) [] (by kernel_rfl) ?_
      obtain rfl := Option.some.inj H
      exact Good.ret (fin.doneR (by kernel_rfl))
    rcases (ifC H).symm with ⟨c447, H⟩ | ⟨c447, H⟩
    · refine Good.reg hN [I (t439.1.length : Int), B true, I (t441.length : Int), B true, B true, B false] (.cons (lenM (v40 0) t439.1) (.cons (beq_iff_eq.2 c444) (.cons (lenM Cx t441) (.cons (beq_iff_eq.2 c445) (.cons (decide_eq_true c446) (.cons (decide_eq_false c447) .nil)))))) [] (by kernel_rfl) ?_
      obtain rfl := Option.some.inj H
      exact Good.ret (fin.doneR (by kernel_rfl))
    obtain ⟨t448, h449, H⟩ := bindS H
    refine Good.reg hN [I (t439.1.length : Int), B true, I (t441.length : Int), B true, B true, B true, B t448] (.cons (lenM (v40 0) t439.1) (.cons (beq_iff_eq.2 c444) (.cons (lenM Cx t441) (.cons (beq_iff_eq.2 c445) (.cons (decide_eq_true c446) (.cons (decide_eq_true c447) (.cons (clavigerlaw19_awake.con h449).c .nil))))))) [] (by kernel_rfl) ?_
    obtain rfl := Option.some.inj H
    exact Good.ret (fin.doneR (by kernel_rfl))
  refine Good.condF (bneF c443) (by kernel_rfl) ?_
  refine Good.skip ?_
  refine Good.seq ?_
  refine Good.seq ?_
  refine Good.cut (fun st => ∃ (x0 : ByteArray) (x3 : List S40) (x5 : List (Nat × Nat)) (x66 : Bool) (x1000 : Int) (x1001 : Int), Wk C st ⟨[(0, .d (.v (S x0))), (3, .d (.v (.row none 5 (List.map (v40 0) x3)))), (5, .d (.v (.row (some 36) 1 (List.map Cx x5)))), (66, .d (.v (B x66)))], [.cells [.v (I x1000), .v (I x1001)]]⟩ ∧ clavigerlaw19_TlvNests.j0 k x0 x3 x5 x66 = some r) ?_ ?_
  · rcases (ifC H).symm with ⟨c450, H⟩ | ⟨c450, H⟩
    · refine Good.regDF hm hN (.q 0 [] (.q 1 [] (.q 2 [] (.q 3 [] (.q 4 [] (.q 5 [] (.k 53 (.i 6 (.i 7 (.i 8 (.q 9 [] (.q 10 [] (.k 58 (.i 11 (.i 12 (.i 13 (.i 14 (.i 15 (.i 16 (.i 17 (.q 18 [] .z))))))))))))))))))))) [(0, none), (3, none), (5, some (.row none 1 (List.map Cx t441)))] (by kernel_rfl) (.cons (shrM (some 36) 1 Cx Cx t441 (fun _ => rfl)) .nil) [I (t441.length : Int), I (t439.1.length : Int), B true, B true] [I (t441.length : Int), I (t439.1.length : Int)] (.cons (lenM Cx t441) (.cons (lenM (v40 0) t439.1) (.cons (bne_iff_ne.2 c450) (.cons (rfl : true = true) .nil)))) (.cons (lenM Cx t441) (.cons (lenM (v40 0) t439.1) (.cons (bne_iff_ne.2 c450) (.cons (rfl : true = true) .nil)))) [] [] (by kernel_rfl) (by kernel_rfl) ?_
      exact ⟨a0, t439.1, t441, true, t439.2.1, t439.2.2, Wk.of [(0, 0), (3, 0), (5, 0), (66, 0)] (by kernel_rfl) (by kernel_rfl), H⟩
    rcases ifC H with ⟨c451, H⟩ | ⟨c451, H⟩
    · refine Good.regDF hm hN (.q 0 [] (.q 1 [] (.q 2 [] (.q 3 [] (.q 4 [] (.q 5 [] (.k 53 (.q 6 [] (.q 7 [] (.q 8 [] (.q 9 [] (.q 10 [] (.k 58 (.i 11 (.i 12 (.i 13 (.i 14 (.i 15 (.i 16 (.i 17 (.q 18 [] .z))))))))))))))))))))) [(0, none), (3, none), (5, some (.row none 1 (List.map Cx t441)))] (by kernel_rfl) (.cons (shrM (some 36) 1 Cx Cx t441 (fun _ => rfl)) .nil) [I (t441.length : Int), I (t439.1.length : Int), B false, I (t439.1.length : Int), B true] [I (t441.length : Int), I (t439.1.length : Int), I (t439.1.length : Int)] (.cons (lenM Cx t441) (.cons (lenM (v40 0) t439.1) (.cons (bneF c450) (.cons (lenM (v40 0) t439.1) (.cons (beq_iff_eq.2 c451) .nil))))) (.cons (lenM Cx t441) (.cons (lenM (v40 0) t439.1) (.cons (bneF c450) (.cons (lenM (v40 0) t439.1) (.cons (beq_iff_eq.2 c451) .nil))))) [] [] (by kernel_rfl) (by kernel_rfl) ?_
      exact ⟨a0, t439.1, t441, true, t439.2.1, t439.2.2, Wk.of [(0, 0), (3, 0), (5, 0), (66, 0)] (by kernel_rfl) (by kernel_rfl), H⟩
    obtain ⟨c452, H⟩ := ifS H
    obtain ⟨t453, h454, H⟩ := bindS H
    refine Good.regDF hm hN (.q 0 [] (.q 1 [] (.q 2 [] (.q 3 [] (.q 4 [] (.q 5 [] (.k 53 (.q 6 [] (.q 7 [] (.q 8 [] (.q 9 [] (.q 10 [] (.k 58 (.q 11 [] (.q 12 [] (.q 13 [] (.q 14 [] (.q 15 [] (.e 16 (.q 17 [] (.q 18 [] .z))))))))))))))))))))) [(0, none), (3, none), (5, some (.row none 1 (List.map Cx t441)))] (by kernel_rfl) (.cons (shrM (some 36) 1 Cx Cx t441 (fun _ => rfl)) .nil) [I (t441.length : Int), I (t439.1.length : Int), B false, I (t439.1.length : Int), B false, Cx (rdOf ((0, 0) : Nat × Nat) t441 0), Cx t453] [I (t441.length : Int), I (t439.1.length : Int), I (t439.1.length : Int), Cx (rdOf ((0, 0) : Nat × Nat) t441 0)] (.cons (lenM Cx t441) (.cons (lenM (v40 0) t439.1) (.cons (bneF c450) (.cons (lenM (v40 0) t439.1) (.cons (beq_eq_false_iff_ne.2 c451) (.cons (show (0 : Int) ≤ 0 by decide) (.cons (ltM Cx c452) (.cons (atM Cx ((0, 0) : Nat × Nat) (show (0 : Int) ≤ 0 by decide) c452) (.cons (span_Of.con h454).c .nil))))))))) (.cons (lenM Cx t441) (.cons (lenM (v40 0) t439.1) (.cons (bneF c450) (.cons (lenM (v40 0) t439.1) (.cons (beq_eq_false_iff_ne.2 c451) (.cons (show (0 : Int) ≤ 0 by decide) (.cons (atM Cx ((0, 0) : Nat × Nat) (show (0 : Int) ≤ 0 by decide) c452) .nil))))))) [] [] (by kernel_rfl) (by kernel_rfl) ?_
    exact ⟨a0, t439.1, t441, !(feq (rdOf ((0, 0) : Nat × Nat) t441 0).1 t453.1 && feq (rdOf ((0, 0) : Nat × Nat) t441 0).2 t453.2), t439.2.1, t439.2.2, Wk.of [(0, 0), (3, 0), (5, 0), (66, 0)] (by kernel_rfl) (by kernel_rfl), H⟩
  clear H
  rintro st ⟨x0, x3, x5, x66, x1000, x1001, W, H⟩
  rcases k with _ | k
  · cases H
  refine W.good ?_
  rw [clavigerlaw19_TlvNests.j0] at H
  rcases ifC H with ⟨c455, H⟩ | ⟨c455, H⟩
  · refine Good.condT c455 (by kernel_rfl) ?_
    refine Good.seq ?_
    refine Good.reg hN [] .nil [] (by kernel_rfl) ?_
    obtain rfl := Option.some.inj H
    exact Good.ret (fin.doneR (by kernel_rfl))
  refine Good.condF (Bool.eq_false_iff.2 c455) (by kernel_rfl) ?_
  refine Good.skip ?_
  refine Good.seq ?_
  refine Good.seq ?_
  refine Good.reg hN [] .nil [] (by kernel_rfl) ?_
  refine Good.block ?_
  refine Good.loopN (fun k' st => ∃ (x0 : ByteArray) (x3 : List S40) (x5 : List (Nat × Nat)) (x6 : Int) (x1000 : Int) (x1001 : Int), k' ≤ k ∧ Wk C st ⟨[(0, .d (.v (S x0))), (3, .d (.v (.row none 5 (List.map (v40 0) x3)))), (5, .d (.v (.row (some 36) 1 (List.map Cx x5)))), (6, .d (.v (I x6)))], [.cells [.v (I x1000), .v (I x1001)]]⟩ ∧ clavigerlaw19_TlvNests.l0 k' x0 x3 x5 x6 = some r) k ⟨x0, x3, x5, 0, x1000, x1001, Nat.le_refl _, Wk.of [(0, 0), (3, 0), (5, 0), (6, 0)] (by kernel_rfl) (by kernel_rfl), H⟩ fun k => ⟨fun st h => (by obtain ⟨_, _, _, _, _, _, _, _, H⟩ := h; cases H), ?_⟩
  clear H
  rintro st ⟨x0, x3, x5, x6, x1000, x1001, hk, W, H⟩
  refine W.good ?_
  rw [clavigerlaw19_TlvNests.l0] at H
  refine Good.seq ?_
  refine Good.seq ?_
  refine Good.reg hN [I (x3.length : Int)] (.cons (lenM (v40 0) x3) .nil) [] (by kernel_rfl) ?_
  rcases (ifC H).symm with ⟨c456, H⟩ | ⟨c456, H⟩
  · refine Good.condF (decide_eq_false c456) (by kernel_rfl) ?_
    refine Good.exit ?_
    refine Good.seq ?_
    obtain ⟨t457, h458, H⟩ := bindS H
    refine Good.reg hN [.tup [.row (some 9) 1 (List.map S t457.1), .agg [I t457.2.1, I t457.2.2]]] (.cons (tlv_Pieces.con h458).c .nil) [] (by kernel_rfl) ?_
    refine Good.seq ?_
    rcases (ifC H).symm with ⟨c459, H⟩ | ⟨c459, H⟩
    · refine Good.reg hN [I (t457.1.length : Int), B false, B false, B false] (.cons (lenM S t457.1) (.cons (beq_eq_false_iff_ne.2 c459) (.cons (rfl : false = false) (.cons (rfl : false = false) .nil)))) [] (by kernel_rfl) ?_
      obtain rfl := Option.some.inj H
      exact Good.ret (fin.doneR (by kernel_rfl))
    obtain ⟨c460, H⟩ := ifS H
    rcases (ifC H).symm with ⟨c461, H⟩ | ⟨c461, H⟩
    · refine Good.reg hN [I (t457.1.length : Int), B true, S (rdOf ByteArray.empty t457.1 0), B false, B false] (.cons (lenM S t457.1) (.cons (beq_iff_eq.2 c459) (.cons (show (0 : Int) ≤ 0 by decide) (.cons (ltM S c460) (.cons (atM S ByteArray.empty (show (0 : Int) ≤ 0 by decide) c460) (.cons (beq_eq_false_iff_ne.2 c461) (.cons (rfl : false = false) .nil))))))) [] (by kernel_rfl) ?_
      obtain rfl := Option.some.inj H
      exact Good.ret (fin.doneR (by kernel_rfl))
    rcases (ifC H).symm with ⟨c462, H⟩ | ⟨c462, H⟩
    · refine Good.reg hN [I (t457.1.length : Int), B true, S (rdOf ByteArray.empty t457.1 0), B true, B false] (.cons (lenM S t457.1) (.cons (beq_iff_eq.2 c459) (.cons (show (0 : Int) ≤ 0 by decide) (.cons (ltM S c460) (.cons (atM S ByteArray.empty (show (0 : Int) ≤ 0 by decide) c460) (.cons (beq_iff_eq.2 c461) (.cons (beq_eq_false_iff_ne.2 c462) .nil))))))) [] (by kernel_rfl) ?_
      obtain rfl := Option.some.inj H
      exact Good.ret (fin.doneR (by kernel_rfl))
    obtain ⟨t463, h464, H⟩ := bindS H
    refine Good.reg hN [I (t457.1.length : Int), B true, S (rdOf ByteArray.empty t457.1 0), B true, B true, B t463] (.cons (lenM S t457.1) (.cons (beq_iff_eq.2 c459) (.cons (show (0 : Int) ≤ 0 by decide) (.cons (ltM S c460) (.cons (atM S ByteArray.empty (show (0 : Int) ≤ 0 by decide) c460) (.cons (beq_iff_eq.2 c461) (.cons (beq_iff_eq.2 c462) (.cons (clavigerlaw19_awake.con h464).c .nil)))))))) [] (by kernel_rfl) ?_
    obtain rfl := Option.some.inj H
    exact Good.ret (fin.doneR (by kernel_rfl))
  refine Good.condT (decide_eq_true c456) (by kernel_rfl) ?_
  refine Good.skip ?_
  refine Good.seq ?_
  refine Good.block ?_
  refine Good.seq ?_
  obtain ⟨c465, H⟩ := ifS H
  refine Good.reg hN [(v40 0) (rd_T40 x3 x6), I (((rd_T40 x3 x6).f4).length : Int)] (.cons c465 (.cons (atM (v40 0) z40 c465 c456) (.cons (lenM I ((rd_T40 x3 x6).f4)) .nil))) [] (by kernel_rfl) ?_
  refine Good.block ?_
  refine Good.loopN (fun k' st => ∃ (x0 : ByteArray) (x3 : List S40) (x5 : List (Nat × Nat)) (x6 : Int) (x77 : List Int) (x78 : Int) (x79 : Int) (x1000 : Int) (x1001 : Int), k' ≤ k ∧ Wk C st ⟨[(0, .d (.v (S x0))), (3, .d (.v (.row none 5 (List.map (v40 0) x3)))), (5, .d (.v (.row (some 36) 1 (List.map Cx x5)))), (6, .d (.v (I x6))), (77, .d (.v (.row none 1 (List.map I x77)))), (78, .d (.v (I x78))), (79, .d (.v (I x79)))], [.cells [.v (I x1000), .v (I x1001)]]⟩ ∧ clavigerlaw19_TlvNests.l1 k' x0 x3 x5 x6 x77 x78 x79 = some r) k ⟨x0, x3, x5, x6, (rd_T40 x3 x6).f4, (((rd_T40 x3 x6).f4).length : Int), 0, x1000, x1001, Nat.le_refl _, Wk.of [(0, 0), (3, 0), (5, 0), (6, 0), (77, 0), (78, 0), (79, 0)] (by kernel_rfl) (by kernel_rfl), H⟩ fun k => ⟨fun st h => (by obtain ⟨_, _, _, _, _, _, _, _, _, _, _, H⟩ := h; cases H), ?_⟩
  clear H
  rintro st ⟨x0, x3, x5, x6, x77, x78, x79, x1000, x1001, hk, W, H⟩
  refine W.good ?_
  rw [clavigerlaw19_TlvNests.l1] at H
  refine Good.seq ?_
  refine Good.reg hN [] .nil [] (by kernel_rfl) ?_
  refine Good.seq ?_
  rcases (ifC H).symm with ⟨c466, H⟩ | ⟨c466, H⟩
  · refine Good.condF (decide_eq_false c466) (by kernel_rfl) ?_
    refine Good.exit ?_
    refine Good.reg hN [] .nil [] (by kernel_rfl) ?_
    exact ⟨k, by omega, x0, x3, x5, wrap64 (x6 + 1), x1000, x1001, by omega, Wk.of [(0, 0), (3, 0), (5, 0), (6, 0)] (by kernel_rfl) (by kernel_rfl), H⟩
  refine Good.condT (decide_eq_true c466) (by kernel_rfl) ?_
  refine Good.skip ?_
  refine Good.seq ?_
  refine Good.block ?_
  refine Good.seq ?_
  obtain ⟨c467, H⟩ := ifS H
  obtain ⟨c468, H⟩ := ifS H
  refine Good.reg hN [I (rd x77 x79)] (.cons c467 (.cons (atM I (0 : Int) c467 c468) .nil)) [] (by kernel_rfl) ?_
  refine Good.seq ?_
  rcases ifC H with ⟨c469, H⟩ | ⟨c469, H⟩
  · refine Good.regDF hm hN (.q 0 [] (.q 1 [] (.q 2 [] (.q 3 [] (.k 87 (.i 4 (.i 5 (.i 6 (.i 7 (.q 8 [] (.q 9 [] (.k 93 (.i 10 (.i 11 (.i 12 (.i 13 (.i 14 (.i 15 (.i 16 (.i 17 (.i 18 (.i 19 (.q 20 [] (.q 21 [] (.k 105 (.i 22 (.i 23 (.i 24 (.i 25 (.i 26 (.i 27 (.i 28 (.i 29 (.i 30 (.i 31 (.i 32 (.i 33 (.i 34 (.i 35 (.i 36 (.i 37 (.i 38 (.i 39 (.i 40 (.i 41 (.i 42 (.i 43 (.q 44 [] .z)))))))))))))))))))))))))))))))))))))))))))))))) [(3, none), (5, some (.row none 1 (List.map Cx x5))), (6, none), (7, none), (8, none)] (by kernel_rfl) (.cons (shrM (some 36) 1 Cx Cx x5 (fun _ => rfl)) .nil) [B true, B true, B true] [] (.cons (decide_eq_true c469) (.cons (rfl : true = true) (.cons (rfl : true = true) .nil))) (.cons (decide_eq_true c469) (.cons (rfl : true = true) (.cons (rfl : true = true) .nil))) [] [] (by kernel_rfl) (by kernel_rfl) ?_
    refine Good.cond true (by kernel_rfl) ?_
    refine Good.seq ?_
    refine Good.reg hN [] .nil [] (by kernel_rfl) ?_
    obtain rfl := Option.some.inj H
    exact Good.ret (fin.doneR (by kernel_rfl))
  rcases ifC H with ⟨c470, H⟩ | ⟨c470, H⟩
  · refine Good.regDF hm hN (.q 0 [] (.q 1 [] (.q 2 [] (.q 3 [] (.k 87 (.q 4 [] (.q 5 [] (.q 6 [] (.q 7 [] (.q 8 [] (.q 9 [] (.k 93 (.i 10 (.i 11 (.i 12 (.i 13 (.i 14 (.i 15 (.i 16 (.i 17 (.i 18 (.i 19 (.q 20 [] (.q 21 [] (.k 105 (.i 22 (.i 23 (.i 24 (.i 25 (.i 26 (.i 27 (.i 28 (.i 29 (.i 30 (.i 31 (.i 32 (.i 33 (.i 34 (.i 35 (.i 36 (.i 37 (.i 38 (.i 39 (.i 40 (.i 41 (.i 42 (.i 43 (.q 44 [] .z)))))))))))))))))))))))))))))))))))))))))))))))) [(3, none), (5, some (.row none 1 (List.map Cx x5))), (6, none), (7, none), (8, none)] (by kernel_rfl) (.cons (shrM (some 36) 1 Cx Cx x5 (fun _ => rfl)) .nil) [B false, I (x3.length : Int), B true, B true] [I (x3.length : Int)] (.cons (decide_eq_false c469) (.cons (lenM (v40 0) x3) (.cons (decide_eq_true c470) (.cons (rfl : true = true) .nil)))) (.cons (decide_eq_false c469) (.cons (lenM (v40 0) x3) (.cons (decide_eq_true c470) (.cons (rfl : true = true) .nil)))) [] [] (by kernel_rfl) (by kernel_rfl) ?_
    refine Good.cond true (by kernel_rfl) ?_
    refine Good.seq ?_
    refine Good.reg hN [] .nil [] (by kernel_rfl) ?_
    obtain rfl := Option.some.inj H
    exact Good.ret (fin.doneR (by kernel_rfl))
  obtain ⟨c471, H⟩ := ifS H
  obtain ⟨c472, H⟩ := ifS H
  obtain ⟨c473, H⟩ := ifS H
  obtain ⟨c474, H⟩ := ifS H
  obtain ⟨t475, h476, H⟩ := bindS H
  rcases (ifC H).symm with ⟨c477, H⟩ | ⟨c477, H⟩
  · refine Good.regDF hm hN (.q 0 [] (.q 1 [] (.q 2 [] (.q 3 [] (.k 87 (.q 4 [] (.q 5 [] (.q 6 [] (.q 7 [] (.q 8 [] (.q 9 [] (.k 93 (.q 10 [] (.q 11 [] (.q 12 [] (.q 13 [] (.q 14 [] (.q 15 [] (.q 16 [] (.q 17 [] (.e 18 (.q 19 [] (.q 20 [] (.q 21 [] (.k 105 (.i 22 (.i 23 (.i 24 (.i 25 (.i 26 (.i 27 (.i 28 (.i 29 (.i 30 (.i 31 (.i 32 (.i 33 (.i 34 (.i 35 (.i 36 (.i 37 (.i 38 (.i 39 (.i 40 (.i 41 (.i 42 (.i 43 (.q 44 [] .z)))))))))))))))))))))))))))))))))))))))))))))))) [(3, none), (5, some (.row none 1 (List.map Cx x5))), (6, none), (7, none), (8, none)] (by kernel_rfl) (.cons (shrM (some 36) 1 Cx Cx x5 (fun _ => rfl)) .nil) [B false, I (x3.length : Int), B false, Cx (rdOf ((0, 0) : Nat × Nat) x5 (rd x77 x79)), Cx (rdOf ((0, 0) : Nat × Nat) x5 x6), B t475, B true] [I (x3.length : Int), Cx (rdOf ((0, 0) : Nat × Nat) x5 (rd x77 x79)), Cx (rdOf ((0, 0) : Nat × Nat) x5 x6)] (.cons (decide_eq_false c469) (.cons (lenM (v40 0) x3) (.cons (decide_eq_false c470) (.cons c471 (.cons (ltM Cx c472) (.cons (atM Cx ((0, 0) : Nat × Nat) c471 c472) (.cons c473 (.cons (ltM Cx c474) (.cons (atM Cx ((0, 0) : Nat × Nat) c473 c474) (.cons (span_Inside.con h476).c (.cons (notT (Bool.eq_false_iff.2 c477)) .nil))))))))))) (.cons (decide_eq_false c469) (.cons (lenM (v40 0) x3) (.cons (decide_eq_false c470) (.cons c471 (.cons (atM Cx ((0, 0) : Nat × Nat) c471 c472) (.cons c473 (.cons (atM Cx ((0, 0) : Nat × Nat) c473 c474) (.cons (notT (Bool.eq_false_iff.2 c477)) .nil)))))))) [] [] (by kernel_rfl) (by kernel_rfl) ?_
    refine Good.cond true (by kernel_rfl) ?_
    refine Good.seq ?_
    refine Good.reg hN [] .nil [] (by kernel_rfl) ?_
    obtain rfl := Option.some.inj H
    exact Good.ret (fin.doneR (by kernel_rfl))
  rcases (ifC H).symm with ⟨c478, H⟩ | ⟨c478, H⟩
  · refine Good.regDF hm hN (.q 0 [] (.q 1 [] (.q 2 [] (.q 3 [] (.k 87 (.q 4 [] (.q 5 [] (.q 6 [] (.q 7 [] (.q 8 [] (.q 9 [] (.k 93 (.q 10 [] (.q 11 [] (.q 12 [] (.q 13 [] (.q 14 [] (.q 15 [] (.q 16 [] (.q 17 [] (.e 18 (.q 19 [] (.q 20 [] (.q 21 [] (.k 105 (.q 22 [] (.q 23 [] (.q 24 [] (.k 108 (.i 25 (.i 26 (.i 27 (.i 28 (.i 29 (.i 30 (.i 31 (.i 32 (.i 33 (.i 34 (.i 35 (.i 36 (.i 37 (.i 38 (.i 39 (.i 40 (.i 41 (.i 42 (.q 43 [] (.q 44 [] .z))))))))))))))))))))))))))))))))))))))))))))))))) [(3, none), (5, some (.row none 1 (List.map Cx x5))), (6, none), (7, none), (8, none)] (by kernel_rfl) (.cons (shrM (some 36) 1 Cx Cx x5 (fun _ => rfl)) .nil) [B false, I (x3.length : Int), B false, Cx (rdOf ((0, 0) : Nat × Nat) x5 (rd x77 x79)), Cx (rdOf ((0, 0) : Nat × Nat) x5 x6), B t475, B false, B false] [I (x3.length : Int), Cx (rdOf ((0, 0) : Nat × Nat) x5 (rd x77 x79)), Cx (rdOf ((0, 0) : Nat × Nat) x5 x6)] (.cons (decide_eq_false c469) (.cons (lenM (v40 0) x3) (.cons (decide_eq_false c470) (.cons c471 (.cons (ltM Cx c472) (.cons (atM Cx ((0, 0) : Nat × Nat) c471 c472) (.cons c473 (.cons (ltM Cx c474) (.cons (atM Cx ((0, 0) : Nat × Nat) c473 c474) (.cons (span_Inside.con h476).c (.cons (notF c477) (.cons (decide_eq_false c478) .nil)))))))))))) (.cons (decide_eq_false c469) (.cons (lenM (v40 0) x3) (.cons (decide_eq_false c470) (.cons c471 (.cons (atM Cx ((0, 0) : Nat × Nat) c471 c472) (.cons c473 (.cons (atM Cx ((0, 0) : Nat × Nat) c473 c474) (.cons (notF c477) (.cons (decide_eq_false c478) .nil))))))))) [] [] (by kernel_rfl) (by kernel_rfl) ?_
    refine Good.cond false (by kernel_rfl) ?_
    refine Good.skip ?_
    refine Good.reg hN [] .nil [] (by kernel_rfl) ?_
    exact ⟨k, by omega, x0, x3, x5, x6, x77, x78, wrap64 (x79 + 1), x1000, x1001, by omega, Wk.of [(0, 0), (3, 0), (5, 0), (6, 0), (77, 0), (78, 0), (79, 0)] (by kernel_rfl) (by kernel_rfl), H⟩
  obtain ⟨c479, H⟩ := ifS H
  obtain ⟨c480, H⟩ := ifS H
  obtain ⟨c481, H⟩ := ifS H
  obtain ⟨c482, H⟩ := ifS H
  obtain ⟨c483, H⟩ := ifS H
  obtain ⟨t484, h485, H⟩ := bindS H
  refine Good.regDF hm hN (.q 0 [] (.q 1 [] (.q 2 [] (.q 3 [] (.k 87 (.q 4 [] (.q 5 [] (.q 6 [] (.q 7 [] (.q 8 [] (.q 9 [] (.k 93 (.q 10 [] (.q 11 [] (.q 12 [] (.q 13 [] (.q 14 [] (.q 15 [] (.q 16 [] (.q 17 [] (.e 18 (.q 19 [] (.q 20 [] (.q 21 [] (.k 105 (.q 22 [] (.q 23 [] (.q 24 [] (.k 108 (.q 25 [] (.q 26 [] (.q 27 [] (.q 28 [] (.q 29 [] (.q 30 [] (.q 31 [] (.q 32 [] (.q 33 [] (.q 34 [] (.q 35 [] (.q 36 [] (.q 37 [] (.q 38 [] (.q 39 [] (.q 40 [] (.e 41 (.q 42 [] (.q 43 [] (.q 44 [] .z))))))))))))))))))))))))))))))))))))))))))))))))) [(3, none), (5, some (.row none 1 (List.map Cx x5))), (6, none), (7, none), (8, none)] (by kernel_rfl) (.cons (shrM (some 36) 1 Cx Cx x5 (fun _ => rfl)) .nil) [B false, I (x3.length : Int), B false, Cx (rdOf ((0, 0) : Nat × Nat) x5 (rd x77 x79)), Cx (rdOf ((0, 0) : Nat × Nat) x5 x6), B t475, B false, B true, Cx (rdOf ((0, 0) : Nat × Nat) x5 (rd x77 x79)), (v40 0) (rd_T40 x3 x6), I (rd ((rd_T40 x3 x6).f4) (wrap64 (x79 - 1))), Cx (rdOf ((0, 0) : Nat × Nat) x5 (rd ((rd_T40 x3 x6).f4) (wrap64 (x79 - 1)))), B t484] [I (x3.length : Int), Cx (rdOf ((0, 0) : Nat × Nat) x5 (rd x77 x79)), Cx (rdOf ((0, 0) : Nat × Nat) x5 x6), Cx (rdOf ((0, 0) : Nat × Nat) x5 (rd x77 x79)), (v40 0) (rd_T40 x3 x6), I (rd ((rd_T40 x3 x6).f4) (wrap64 (x79 - 1))), Cx (rdOf ((0, 0) : Nat × Nat) x5 (rd ((rd_T40 x3 x6).f4) (wrap64 (x79 - 1))))] (.cons (decide_eq_false c469) (.cons (lenM (v40 0) x3) (.cons (decide_eq_false c470) (.cons c471 (.cons (ltM Cx c472) (.cons (atM Cx ((0, 0) : Nat × Nat) c471 c472) (.cons c473 (.cons (ltM Cx c474) (.cons (atM Cx ((0, 0) : Nat × Nat) c473 c474) (.cons (span_Inside.con h476).c (.cons (notF c477) (.cons (decide_eq_true c478) (.cons c471 (.cons (ltM Cx c472) (.cons (atM Cx ((0, 0) : Nat × Nat) c471 c472) (.cons c473 (.cons (atM (v40 0) z40 c473 c479) (.cons c480 (.cons (atM I (0 : Int) c480 c481) (.cons c482 (.cons (ltM Cx c483) (.cons (atM Cx ((0, 0) : Nat × Nat) c482 c483) (.cons (span_Apart.con h485).c .nil))))))))))))))))))))))) (.cons (decide_eq_false c469) (.cons (lenM (v40 0) x3) (.cons (decide_eq_false c470) (.cons c471 (.cons (atM Cx ((0, 0) : Nat × Nat) c471 c472) (.cons c473 (.cons (atM Cx ((0, 0) : Nat × Nat) c473 c474) (.cons (notF c477) (.cons (decide_eq_true c478) (.cons c471 (.cons (atM Cx ((0, 0) : Nat × Nat) c471 c472) (.cons c473 (.cons (atM (v40 0) z40 c473 c479) (.cons c480 (.cons (atM I (0 : Int) c480 c481) (.cons c482 (.cons (atM Cx ((0, 0) : Nat × Nat) c482 c483) .nil))))))))))))))))) [] [] (by kernel_rfl) (by kernel_rfl) ?_
  rcases ifC H with ⟨c486, H⟩ | ⟨c486, H⟩
  · refine Good.condF (notF c486) (by kernel_rfl) ?_
    refine Good.skip ?_
    refine Good.reg hN [] .nil [] (by kernel_rfl) ?_
    exact ⟨k, by omega, x0, x3, x5, x6, x77, x78, wrap64 (x79 + 1), x1000, x1001, by omega, Wk.of [(0, 0), (3, 0), (5, 0), (6, 0), (77, 0), (78, 0), (79, 0)] (by kernel_rfl) (by kernel_rfl), H⟩
  refine Good.condT (notT (Bool.eq_false_iff.2 c486)) (by kernel_rfl) ?_
  refine Good.seq ?_
  refine Good.reg hN [] .nil [] (by kernel_rfl) ?_
  obtain rfl := Option.some.inj H
  exact Good.ret (fin.doneR (by kernel_rfl))
def cr19_faulty.f (a0 : Int) (a1 : Int) : Option (Int × Int) := some (a0, a1)
theorem cr19_faulty.con {a0 : Int} {a1 : Int} {r : (Int × Int)} (H : cr19_faulty.f a0 a1 = some r) : Con Tryd.prog 25 [I a0, I a1] (.agg [I r.1, I r.2]) := by
  refine con_of_good Tryd.func25 rfl (by kernel_rfl) (by kernel_rfl) fun C hN hL => ?_
  unfold cr19_faulty.f at H
  refine Good.seq ?_
  refine Good.reg hN [] .nil [] (by kernel_rfl) ?_
  refine Good.seq ?_
  refine Good.reg hN [] .nil [] (by kernel_rfl) ?_
  obtain rfl := Option.some.inj H
  exact Good.ret (fin.doneR (by kernel_rfl))
mutual
def cr15_tag.l0 : Nat → ByteArray → Int → Int → Int → Bool → Int → Option (Int × Int × Bool × Int × Int)
 | 0, _, _, _, _, _, _ => none
 | k + 1, x0, x6, x2000, x2001, x2002, x2003 => if x6 < (x0.size : Int) then (cr15_tag.j1 k x0 x6 (decide (x6 < 4)) x2000 x2001 x2002 x2003) else (cr15_tag.j1 k x0 x6 false x2000 x2001 x2002 x2003)
def cr15_tag.j1 : Nat → ByteArray → Int → Bool → Int → Int → Bool → Int → Option (Int × Int × Bool × Int × Int)
 | 0, _, _, _, _, _, _, _ => none
 | k + 1, x0, x6, x34, x2000, x2001, x2002, x2003 => if x34 = true then (if 0 ≤ x6 then (if x6 < (x0.size : Int) then (if (bt x0 x6) < 128 then (some (x2000, wrap64 ((wrap64 (128 * x2001)) + (Int.tmod (wrap64 (bt x0 x6)) 128)), x2002, x2003, wrap64 (x6 + 1))) else (cr15_tag.l0 k x0 (wrap64 (x6 + 1)) x2000 (wrap64 ((wrap64 (128 * x2001)) + (Int.tmod (wrap64 (bt x0 x6)) 128))) x2002 x2003)) else (none)) else (none)) else (some (0, 0, false, 0, 0))
end
def cr15_tag.f (k : Nat) (a0 : ByteArray) : Option (Int × Int × Bool × Int × Int) := if a0.toList = ([] : List UInt8) then (some (0, 0, false, 0, 0)) else (if 0 < (a0.size : Int) then (if (Int.tmod (wrap64 (bt a0 0)) 32) < 31 then (some (wrap64 (Int.tdiv (wrap64 (bt a0 0)) 64), Int.tmod (wrap64 (bt a0 0)) 32, ((Int.tmod (wrap64 (Int.tdiv (wrap64 (bt a0 0)) 32)) 2) == 1), 0, 1)) else (cr15_tag.l0 k a0 1 (wrap64 (Int.tdiv (wrap64 (bt a0 0)) 64)) 0 ((Int.tmod (wrap64 (Int.tdiv (wrap64 (bt a0 0)) 32)) 2) == 1) 0)) else (none))
theorem cr15_tag.con {k : Nat} {a0 : ByteArray} {r : (Int × Int × Bool × Int × Int)} (H : cr15_tag.f k a0 = some r) : Con Tryd.prog 33 [S a0] (.tup [.agg [I r.1, I r.2.1, B r.2.2.1, I r.2.2.2.1], I r.2.2.2.2]) := by
  refine con_of_good Tryd.func33 rfl (by kernel_rfl) (by kernel_rfl) fun C hN hL => ?_
  unfold cr15_tag.f at H
  refine Good.seq ?_
  refine Good.reg hN [] .nil [] (by kernel_rfl) ?_
  refine Good.seq ?_
  refine Good.seq ?_
  refine Good.reg hN [] (.cons (strV (rfl : a0.toList = a0.toList) (litL ([] : List UInt8))) .nil) [(8, .bool (a0.toList == ([] : List UInt8)))] (by kernel_rfl) ?_
  rcases ifC H with ⟨c487, H⟩ | ⟨c487, H⟩
  · refine Good.condT (beq_iff_eq.2 c487) (by kernel_rfl) ?_
    refine Good.seq ?_
    refine Good.reg hN [] .nil [] (by kernel_rfl) ?_
    obtain rfl := Option.some.inj H
    exact Good.ret (fin.doneR (by kernel_rfl))
  refine Good.condF (beq_eq_false_iff_ne.2 c487) (by kernel_rfl) ?_
  refine Good.skip ?_
  refine Good.seq ?_
  obtain ⟨c488, H⟩ := ifS H
  refine Good.reg hN [] (.cons (show (0 : Int) ≤ 0 by decide) (.cons c488 .nil)) [] (by kernel_rfl) ?_
  refine Good.seq ?_
  refine Good.reg hN [] (.cons (show (64 : Int) ≠ 0 by decide) (.cons (show (32 : Int) ≠ 0 by decide) (.cons (show (2 : Int) ≠ 0 by decide) (.cons (show (32 : Int) ≠ 0 by decide) .nil)))) [] (by kernel_rfl) ?_
  refine Good.seq ?_
  refine Good.seq ?_
  refine Good.reg hN [] .nil [] (by kernel_rfl) ?_
  rcases ifC H with ⟨c489, H⟩ | ⟨c489, H⟩
  · refine Good.condT (decide_eq_true c489) (by kernel_rfl) ?_
    refine Good.seq ?_
    refine Good.reg hN [] .nil [] (by kernel_rfl) ?_
    obtain rfl := Option.some.inj H
    exact Good.ret (fin.doneR (by kernel_rfl))
  refine Good.condF (decide_eq_false c489) (by kernel_rfl) ?_
  refine Good.skip ?_
  refine Good.seq ?_
  refine Good.reg hN [] .nil [] (by kernel_rfl) ?_
  refine Good.seq ?_
  refine Good.seq ?_
  refine Good.reg hN [] .nil [] (by kernel_rfl) ?_
  refine Good.block ?_
  refine Good.loopN (fun k' st => ∃ (x0 : ByteArray) (x6 : Int) (x1000 : Int) (x1001 : Int) (x1002 : Bool) (x1003 : Int) (x2000 : Int) (x2001 : Int) (x2002 : Bool) (x2003 : Int), k' ≤ k ∧ Wk C st ⟨[(0, .d (.v (S x0))), (2, .d (.ptr 0 0)), (5, .d (.ptr 1 0)), (6, .d (.v (I x6)))], [.cells [.v (I x1000), .v (I x1001), .v (B x1002), .v (I x1003)], .cells [.v (I x2000), .v (I x2001), .v (B x2002), .v (I x2003)]]⟩ ∧ cr15_tag.l0 k' x0 x6 x2000 x2001 x2002 x2003 = some r) k ⟨a0, 1, 0, 0, false, 0, wrap64 (Int.tdiv (wrap64 (bt a0 0)) 64), 0, ((Int.tmod (wrap64 (Int.tdiv (wrap64 (bt a0 0)) 32)) 2) == 1), 0, Nat.le_refl _, Wk.of [(0, 0), (2, 0), (5, 0), (6, 0)] (by kernel_rfl) (by kernel_rfl), H⟩ fun k => ⟨fun st h => (by obtain ⟨_, _, _, _, _, _, _, _, _, _, _, _, H⟩ := h; cases H), ?_⟩
  clear H
  rintro st ⟨x0, x6, x1000, x1001, x1002, x1003, x2000, x2001, x2002, x2003, hk, W, H⟩
  refine W.good ?_
  rw [cr15_tag.l0] at H
  refine Good.seq ?_
  refine Good.seq ?_
  refine Good.cut (fun st => ∃ (x0 : ByteArray) (x6 : Int) (x34 : Bool) (x1000 : Int) (x1001 : Int) (x1002 : Bool) (x1003 : Int) (x2000 : Int) (x2001 : Int) (x2002 : Bool) (x2003 : Int), Wk C st ⟨[(0, .d (.v (S x0))), (2, .d (.ptr 0 0)), (5, .d (.ptr 1 0)), (6, .d (.v (I x6))), (34, .d (.v (B x34)))], [.cells [.v (I x1000), .v (I x1001), .v (B x1002), .v (I x1003)], .cells [.v (I x2000), .v (I x2001), .v (B x2002), .v (I x2003)]]⟩ ∧ cr15_tag.j1 k x0 x6 x34 x2000 x2001 x2002 x2003 = some r) ?_ ?_
  · rcases ifC H with ⟨c490, H⟩ | ⟨c490, H⟩
    · refine Good.reg hN [B true] (.cons (decide_eq_true c490) .nil) [] (by kernel_rfl) ?_
      exact ⟨x0, x6, decide (x6 < 4), x1000, x1001, x1002, x1003, x2000, x2001, x2002, x2003, Wk.of [(0, 0), (2, 0), (5, 0), (6, 0), (34, 0)] (by kernel_rfl) (by kernel_rfl), H⟩
    refine Good.reg hN [B false] (.cons (decide_eq_false c490) .nil) [] (by kernel_rfl) ?_
    exact ⟨x0, x6, false, x1000, x1001, x1002, x1003, x2000, x2001, x2002, x2003, Wk.of [(0, 0), (2, 0), (5, 0), (6, 0), (34, 0)] (by kernel_rfl) (by kernel_rfl), H⟩
  clear H
  rintro st ⟨x0, x6, x34, x1000, x1001, x1002, x1003, x2000, x2001, x2002, x2003, W, H⟩
  rcases k with _ | k
  · cases H
  refine W.good ?_
  rw [cr15_tag.j1] at H
  rcases (ifC H).symm with ⟨c491, H⟩ | ⟨c491, H⟩
  · refine Good.condF (Bool.eq_false_iff.2 c491) (by kernel_rfl) ?_
    refine Good.exit ?_
    refine Good.seq ?_
    refine Good.reg hN [] .nil [] (by kernel_rfl) ?_
    obtain rfl := Option.some.inj H
    exact Good.ret (fin.doneR (by kernel_rfl))
  refine Good.condT c491 (by kernel_rfl) ?_
  refine Good.skip ?_
  refine Good.seq ?_
  refine Good.block ?_
  refine Good.seq ?_
  obtain ⟨c492, H⟩ := ifS H
  obtain ⟨c493, H⟩ := ifS H
  refine Good.regDF hm hN (.q 0 [[]] (.q 1 [[]] (.q 2 [[]] (.q 3 [[]] (.q 4 [[]] (.q 5 [[]] (.q 6 [[]] (.q 7 [[]] (.q 8 [[]] (.q 9 [[]] (.e 10 .z))))))))))) [(0, none), (5, some (.pt [I x2000, I x2001, B x2002, I x2003])), (6, none)] (by kernel_rfl) (.cons (ptS (shrC (rfl : (V.shr (I x2000)) = I x2000) (shrC (rfl : (V.shr (I x2001)) = I x2001) (shrC (rfl : (V.shr (B x2002)) = B x2002) (shrC (rfl : (V.shr (I x2003)) = I x2003) (rfl : shrL [] = [])))))) .nil) [] [] (.cons c492 (.cons c493 (.cons (show (128 : Int) ≠ 0 by decide) .nil))) (.cons c492 (.cons c493 (.cons (show (128 : Int) ≠ 0 by decide) .nil))) [] [] (by kernel_rfl) (by kernel_rfl) ?_
  refine Good.seq ?_
  refine Good.reg hN [] (.cons c492 (.cons c493 .nil)) [] (by kernel_rfl) ?_
  rcases (ifC H).symm with ⟨c494, H⟩ | ⟨c494, H⟩
  · refine Good.condF (decide_eq_false c494) (by kernel_rfl) ?_
    refine Good.skip ?_
    refine Good.reg hN [] .nil [] (by kernel_rfl) ?_
    exact ⟨k, by omega, x0, wrap64 (x6 + 1), x1000, x1001, x1002, x1003, x2000, wrap64 ((wrap64 (128 * x2001)) + (Int.tmod (wrap64 (bt x0 x6)) 128)), x2002, x2003, by omega, Wk.of [(0, 0), (2, 0), (5, 0), (6, 0)] (by kernel_rfl) (by kernel_rfl), H⟩
  refine Good.condT (decide_eq_true c494) (by kernel_rfl) ?_
  refine Good.seq ?_
  refine Good.reg hN [] .nil [] (by kernel_rfl) ?_
  obtain rfl := Option.some.inj H
  exact Good.ret (fin.doneR (by kernel_rfl))
def cr15_may.f (a0_0 : Int) (a0_1 : Int) (a0_2 : Bool) (a0_3 : Int) : Option (Bool) := if a0_0 ≥ 0 then (if a0_0 < 4 then (if a0_1 ≥ 0 then (if a0_1 ≤ 2097151 then (if a0_3 ≥ 0 then (some (decide (a0_3 ≤ 65535))) else (some false)) else (some false)) else (some false)) else (some false)) else (some false)
theorem cr15_may.con {a0_0 : Int} {a0_1 : Int} {a0_2 : Bool} {a0_3 : Int} {r : (Bool)} (H : cr15_may.f a0_0 a0_1 a0_2 a0_3 = some r) : Con Tryd.prog 39 [.agg [I a0_0, I a0_1, B a0_2, I a0_3]] (B r) := by
  refine con_of_good Tryd.func39 rfl (by kernel_rfl) (by kernel_rfl) fun C hN hL => ?_
  unfold cr15_may.f at H
  refine Good.seq ?_
  refine Good.reg hN [] .nil [] (by kernel_rfl) ?_
  refine Good.seq ?_
  rcases (ifC H).symm with ⟨c495, H⟩ | ⟨c495, H⟩
  · refine Good.reg hN [B false, B false, B false, B false, B false] (.cons (decide_eq_false c495) (.cons (rfl : false = false) (.cons (rfl : false = false) (.cons (rfl : false = false) (.cons (rfl : false = false) .nil))))) [] (by kernel_rfl) ?_
    obtain rfl := Option.some.inj H
    exact Good.ret (fin.doneR (by kernel_rfl))
  rcases (ifC H).symm with ⟨c496, H⟩ | ⟨c496, H⟩
  · refine Good.reg hN [B true, B false, B false, B false, B false] (.cons (decide_eq_true c495) (.cons (decide_eq_false c496) (.cons (rfl : false = false) (.cons (rfl : false = false) (.cons (rfl : false = false) .nil))))) [] (by kernel_rfl) ?_
    obtain rfl := Option.some.inj H
    exact Good.ret (fin.doneR (by kernel_rfl))
  rcases (ifC H).symm with ⟨c497, H⟩ | ⟨c497, H⟩
  · refine Good.reg hN [B true, B true, B false, B false, B false] (.cons (decide_eq_true c495) (.cons (decide_eq_true c496) (.cons (decide_eq_false c497) (.cons (rfl : false = false) (.cons (rfl : false = false) .nil))))) [] (by kernel_rfl) ?_
    obtain rfl := Option.some.inj H
    exact Good.ret (fin.doneR (by kernel_rfl))
  rcases (ifC H).symm with ⟨c498, H⟩ | ⟨c498, H⟩
  · refine Good.reg hN [B true, B true, B true, B false, B false] (.cons (decide_eq_true c495) (.cons (decide_eq_true c496) (.cons (decide_eq_true c497) (.cons (decide_eq_false c498) (.cons (rfl : false = false) .nil))))) [] (by kernel_rfl) ?_
    obtain rfl := Option.some.inj H
    exact Good.ret (fin.doneR (by kernel_rfl))
  rcases ifC H with ⟨c499, H⟩ | ⟨c499, H⟩
  · refine Good.reg hN [B true, B true, B true, B true, B true] (.cons (decide_eq_true c495) (.cons (decide_eq_true c496) (.cons (decide_eq_true c497) (.cons (decide_eq_true c498) (.cons (decide_eq_true c499) .nil))))) [] (by kernel_rfl) ?_
    obtain rfl := Option.some.inj H
    exact Good.ret (fin.doneR (by kernel_rfl))
  refine Good.reg hN [B true, B true, B true, B true, B false] (.cons (decide_eq_true c495) (.cons (decide_eq_true c496) (.cons (decide_eq_true c497) (.cons (decide_eq_true c498) (.cons (decide_eq_false c499) .nil))))) [] (by kernel_rfl) ?_
  obtain rfl := Option.some.inj H
  exact Good.ret (fin.doneR (by kernel_rfl))
def cr15_digits.l0 : Nat → Int → ByteArray → Option (ByteArray)
 | 0, _, _ => none
 | k + 1, x0, x3 => if x0 > 0 then (if (strOfNums ([(wrap64 (128 + (Int.tmod x0 128))) % 256] : List Int)).size + x3.size ≤ 9223372036854775807 then (cr15_digits.l0 k (wrap64 (Int.tdiv x0 128)) ((strOfNums ([(wrap64 (128 + (Int.tmod x0 128))) % 256] : List Int)) ++ x3)) else (none)) else (some x3)
def cr15_digits.f (k : Nat) (a0 : Int) : Option (ByteArray) := cr15_digits.l0 k (wrap64 (Int.tdiv a0 128)) (strOfNums ([(Int.tmod a0 128) % 256] : List Int))
theorem cr15_digits.con {k : Nat} {a0 : Int} {r : (ByteArray)} (H : cr15_digits.f k a0 = some r) : Con Tryd.prog 40 [I a0] (S r) := by
  refine con_of_good Tryd.func40 rfl (by kernel_rfl) (by kernel_rfl) fun C hN hL => ?_
  unfold cr15_digits.f at H
  refine Good.seq ?_
  refine Good.reg hN [] .nil [] (by kernel_rfl) ?_
  refine Good.seq ?_
  refine Good.reg hN [S (strOfNums ([(Int.tmod a0 128) % 256] : List Int))] (.cons (show (128 : Int) ≠ 0 by decide) (.cons (strN ([(Int.tmod a0 128) % 256] : List Int)) .nil)) [] (by kernel_rfl) ?_
  refine Good.seq ?_
  refine Good.reg hN [] (.cons (show (128 : Int) ≠ 0 by decide) .nil) [] (by kernel_rfl) ?_
  refine Good.seq ?_
  refine Good.block ?_
  refine Good.loopN (fun k' st => ∃ (x0 : Int) (x3 : ByteArray), k' ≤ k ∧ Wk C st ⟨[(0, .d (.v (I x0))), (3, .d (.v (S x3)))], []⟩ ∧ cr15_digits.l0 k' x0 x3 = some r) k ⟨wrap64 (Int.tdiv a0 128), strOfNums ([(Int.tmod a0 128) % 256] : List Int), Nat.le_refl _, Wk.of [(0, 0), (3, 0)] (by kernel_rfl) (by kernel_rfl), H⟩ fun k => ⟨fun st h => (by obtain ⟨_, _, _, _, H⟩ := h; cases H), ?_⟩
  clear H
  rintro st ⟨x0, x3, hk, W, H⟩
  refine W.good ?_
  rw [cr15_digits.l0] at H
  refine Good.seq ?_
  refine Good.seq ?_
  refine Good.reg hN [] .nil [] (by kernel_rfl) ?_
  rcases (ifC H).symm with ⟨c500, H⟩ | ⟨c500, H⟩
  · refine Good.condF (decide_eq_false c500) (by kernel_rfl) ?_
    refine Good.exit ?_
    refine Good.seq ?_
    refine Good.reg hN [] .nil [] (by kernel_rfl) ?_
    obtain rfl := Option.some.inj H
    exact Good.ret (fin.doneR (by kernel_rfl))
  refine Good.condT (decide_eq_true c500) (by kernel_rfl) ?_
  refine Good.skip ?_
  refine Good.block ?_
  refine Good.seq ?_
  obtain ⟨c501, H⟩ := ifS H
  refine Good.reg hN [S (strOfNums ([(wrap64 (128 + (Int.tmod x0 128))) % 256] : List Int))] (.cons (show (128 : Int) ≠ 0 by decide) (.cons (strN ([(wrap64 (128 + (Int.tmod x0 128))) % 256] : List Int)) (.cons c501 .nil))) [] (by kernel_rfl) ?_
  refine Good.reg hN [] (.cons (show (128 : Int) ≠ 0 by decide) .nil) [] (by kernel_rfl) ?_
  exact ⟨k, by omega, wrap64 (Int.tdiv x0 128), (strOfNums ([(wrap64 (128 + (Int.tmod x0 128))) % 256] : List Int)) ++ x3, by omega, Wk.of [(0, 0), (3, 0)] (by kernel_rfl) (by kernel_rfl), H⟩
def cr01_Put.l0 : Nat → Int → Int → ByteArray → Int → Option (ByteArray)
 | 0, _, _, _, _ => none
 | k + 1, x0, x1, x5, x6 => if x6 < x1 then (if (strOfNums ([(Int.tmod x0 256) % 256] : List Int)).size + x5.size ≤ 9223372036854775807 then (cr01_Put.l0 k (IntKind.u64.wrap (Int.tdiv x0 256)) x1 ((strOfNums ([(Int.tmod x0 256) % 256] : List Int)) ++ x5) (wrap64 (x6 + 1))) else (none)) else (some x5)
def cr01_Put.j0 : Nat → Int → Int → Bool → Option (ByteArray)
 | 0, _, _, _ => none
 | k + 1, x0, x1, x12 => if x12 = true then (some (⟨#[]⟩ : ByteArray)) else (cr01_Put.l0 k x0 x1 (⟨#[]⟩ : ByteArray) 0)
def cr01_Put.f (k : Nat) (a0 : Int) (a1 : Int) : Option (ByteArray) := if a1 < 1 then (cr01_Put.j0 k a0 a1 true) else (cr01_Put.j0 k a0 a1 (decide (a1 > 8)))
theorem cr01_Put.con {k : Nat} {a0 : Int} {a1 : Int} {r : (ByteArray)} (H : cr01_Put.f k a0 a1 = some r) : Con Tryd.prog 41 [K .u64 a0, I a1] (S r) := by
  refine con_of_good Tryd.func41 rfl (by kernel_rfl) (by kernel_rfl) fun C hN hL => ?_
  unfold cr01_Put.f at H
  refine Good.seq ?_
  refine Good.reg hN [] .nil [] (by kernel_rfl) ?_
  refine Good.seq ?_
  refine Good.seq ?_
  refine Good.cut (fun st => ∃ (x0 : Int) (x1 : Int) (x12 : Bool), Wk C st ⟨[(0, .d (.v (K .u64 x0))), (1, .d (.v (I x1))), (12, .d (.v (B x12)))], []⟩ ∧ cr01_Put.j0 k x0 x1 x12 = some r) ?_ ?_
  · rcases ifC H with ⟨c502, H⟩ | ⟨c502, H⟩
    · refine Good.reg hN [B true] (.cons (decide_eq_true c502) .nil) [] (by kernel_rfl) ?_
      exact ⟨a0, a1, true, Wk.of [(0, 0), (1, 0), (12, 0)] (by kernel_rfl) (by kernel_rfl), H⟩
    refine Good.reg hN [B false] (.cons (decide_eq_false c502) .nil) [] (by kernel_rfl) ?_
    exact ⟨a0, a1, decide (a1 > 8), Wk.of [(0, 0), (1, 0), (12, 0)] (by kernel_rfl) (by kernel_rfl), H⟩
  clear H
  rintro st ⟨x0, x1, x12, W, H⟩
  rcases k with _ | k
  · cases H
  refine W.good ?_
  rw [cr01_Put.j0] at H
  rcases ifC H with ⟨c503, H⟩ | ⟨c503, H⟩
  · refine Good.condT c503 (by kernel_rfl) ?_
    refine Good.seq ?_
    refine Good.reg hN [] .nil [] (by kernel_rfl) ?_
    obtain rfl := Option.some.inj H
    exact Good.ret (fin.doneR (by kernel_rfl))
  refine Good.condF (Bool.eq_false_iff.2 c503) (by kernel_rfl) ?_
  refine Good.skip ?_
  refine Good.seq ?_
  refine Good.reg hN [] .nil [] (by kernel_rfl) ?_
  refine Good.seq ?_
  refine Good.seq ?_
  refine Good.reg hN [] .nil [] (by kernel_rfl) ?_
  refine Good.block ?_
  refine Good.loopN (fun k' st => ∃ (x0 : Int) (x1 : Int) (x5 : ByteArray) (x6 : Int), k' ≤ k ∧ Wk C st ⟨[(0, .d (.v (K .u64 x0))), (1, .d (.v (I x1))), (5, .d (.v (S x5))), (6, .d (.v (I x6)))], []⟩ ∧ cr01_Put.l0 k' x0 x1 x5 x6 = some r) k ⟨x0, x1, (⟨#[]⟩ : ByteArray), 0, Nat.le_refl _, Wk.of [(0, 0), (1, 0), (5, 0), (6, 0)] (by kernel_rfl) (by kernel_rfl), H⟩ fun k => ⟨fun st h => (by obtain ⟨_, _, _, _, _, _, H⟩ := h; cases H), ?_⟩
  clear H
  rintro st ⟨x0, x1, x5, x6, hk, W, H⟩
  refine W.good ?_
  rw [cr01_Put.l0] at H
  refine Good.seq ?_
  refine Good.seq ?_
  refine Good.reg hN [] .nil [] (by kernel_rfl) ?_
  rcases (ifC H).symm with ⟨c504, H⟩ | ⟨c504, H⟩
  · refine Good.condF (decide_eq_false c504) (by kernel_rfl) ?_
    refine Good.exit ?_
    refine Good.seq ?_
    refine Good.reg hN [] .nil [] (by kernel_rfl) ?_
    obtain rfl := Option.some.inj H
    exact Good.ret (fin.doneR (by kernel_rfl))
  refine Good.condT (decide_eq_true c504) (by kernel_rfl) ?_
  refine Good.skip ?_
  refine Good.seq ?_
  refine Good.block ?_
  refine Good.seq ?_
  obtain ⟨c505, H⟩ := ifS H
  refine Good.reg hN [S (strOfNums ([(Int.tmod x0 256) % 256] : List Int))] (.cons (show (256 : Int) ≠ 0 by decide) (.cons (strN ([(Int.tmod x0 256) % 256] : List Int)) (.cons c505 .nil))) [] (by kernel_rfl) ?_
  refine Good.reg hN [] (.cons (show (256 : Int) ≠ 0 by decide) .nil) [] (by kernel_rfl) ?_
  refine Good.reg hN [] .nil [] (by kernel_rfl) ?_
  exact ⟨k, by omega, IntKind.u64.wrap (Int.tdiv x0 256), x1, (strOfNums ([(Int.tmod x0 256) % 256] : List Int)) ++ x5, wrap64 (x6 + 1), by omega, Wk.of [(0, 0), (1, 0), (5, 0), (6, 0)] (by kernel_rfl) (by kernel_rfl), H⟩
def cr15_Encode.j1 : Nat → ByteArray → Int → Option (ByteArray × Int)
 | 0, _, _ => none
 | k + 1, x5, x1003 => if x1003 < 128 then (if x5.size + (strOfNums ([(x1003) % 256] : List Int)).size ≤ 9223372036854775807 then (some (x5 ++ (strOfNums ([(x1003) % 256] : List Int)), 0)) else (none)) else (if x1003 < 256 then (if x5.size + 1 ≤ 9223372036854775807 then ((cr01_Put.f k (IntKind.u64.wrap (x1003)) 1).bind fun t518 => (if (x5 ++ (⟨#[129]⟩ : ByteArray)).size + t518.size ≤ 9223372036854775807 then (some ((x5 ++ (⟨#[129]⟩ : ByteArray)) ++ t518, 0)) else (none))) else (none)) else (if x5.size + 1 ≤ 9223372036854775807 then ((cr01_Put.f k (IntKind.u64.wrap (x1003)) 2).bind fun t522 => (if (x5 ++ (⟨#[130]⟩ : ByteArray)).size + t522.size ≤ 9223372036854775807 then (some ((x5 ++ (⟨#[130]⟩ : ByteArray)) ++ t522, 0)) else (none))) else (none)))
def cr15_Encode.j0 : Nat → Int → Int → Int → Option (ByteArray × Int)
 | 0, _, _, _ => none
 | k + 1, x4, x1001, x1003 => if x1001 < 31 then (cr15_Encode.j1 k (strOfNums ([(wrap64 (x4 + x1001)) % 256] : List Int)) x1003) else ((cr15_digits.f k x1001).bind fun t511 => (if (strOfNums ([(wrap64 (x4 + 31)) % 256] : List Int)).size + t511.size ≤ 9223372036854775807 then (cr15_Encode.j1 k ((strOfNums ([(wrap64 (x4 + 31)) % 256] : List Int)) ++ t511) x1003) else (none)))
def cr15_Encode.f (k : Nat) (a0_0 : Int) (a0_1 : Int) (a0_2 : Bool) (a0_3 : Int) : Option (ByteArray × Int) := (cr15_may.f a0_0 a0_1 a0_2 a0_3).bind fun t506 => (if t506 = true then (if a0_2 = true then (cr15_Encode.j0 k (wrap64 ((wrap64 (64 * a0_0)) + 32)) a0_1 a0_3) else (cr15_Encode.j0 k (wrap64 (64 * a0_0)) a0_1 a0_3)) else (some ((⟨#[]⟩ : ByteArray), 1)))
end Go.Rf.T
