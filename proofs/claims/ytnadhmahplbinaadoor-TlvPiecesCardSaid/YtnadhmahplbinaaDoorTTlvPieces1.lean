import Derived.Test.YtnadhmahplbinaaDoorTTlvPieces0
set_option linter.unusedSectionVars false
set_option linter.unusedSimpArgs false
set_option linter.unusedVariables false
set_option linter.unusedVariables false
namespace Go.Rf.T
open Go Go.Rf Go.Proofs Go.RowKit Go.Proofs.YtnadhmahplbinaaDoor
theorem slices_Equal_string_string.con {k : Nat} {l0 : List ByteArray} {l1 : List ByteArray} {r : (Bool)} (H : slices_Equal_string_string.f k l0 l1 = some r) : Con Tryd.prog 17 [.row none 1 (List.map S l0), .row none 1 (List.map S l1)] (B r) := by
  refine con_of_good Tryd.func17 rfl (by kernel_rfl) (by kernel_rfl) fun C hN hL => ?_
  unfold slices_Equal_string_string.f at H
  refine Good.seq ?_
  refine Good.reg hN [] .nil [] (by kernel_rfl) ?_
  refine Good.seq ?_
  refine Good.seq ?_
  refine Good.reg hN [I (l0.length : Int), I (l1.length : Int)] (.cons (lenM S l0) (.cons (lenM S l1) .nil)) [] (by kernel_rfl) ?_
  rcases (ifC H).symm with ⟨c503, H⟩ | ⟨c503, H⟩
  · refine Good.condT (bne_iff_ne.2 c503) (by kernel_rfl) ?_
    refine Good.seq ?_
    refine Good.reg hN [] .nil [] (by kernel_rfl) ?_
    obtain rfl := Option.some.inj H
    exact Good.ret (fin.doneR (by kernel_rfl))
  refine Good.condF (bneF c503) (by kernel_rfl) ?_
  refine Good.skip ?_
  refine Good.seq ?_
  refine Good.seq ?_
  refine Good.reg hN [I (l0.length : Int)] (.cons (lenM S l0) .nil) [] (by kernel_rfl) ?_
  refine Good.block ?_
  refine Good.loopN (fun k' st => ∃ (x0 : List ByteArray) (x1 : List ByteArray) (x12 : Int) (x13 : Int), k' ≤ k ∧ Wk C st ⟨[(0, .d (.v (.row none 1 (List.map S x0)))), (1, .d (.v (.row none 1 (List.map S x1)))), (12, .d (.v (I x12))), (13, .d (.v (I x13)))], []⟩ ∧ slices_Equal_string_string.l0 k' x0 x1 x12 x13 = some r) k ⟨l0, l1, (l0.length : Int), 0, Nat.le_refl _, Wk.of [(0, 0), (1, 0), (12, 0), (13, 0)] (by kernel_rfl) (by kernel_rfl), H⟩ fun k => ⟨fun st h => (by obtain ⟨_, _, _, _, _, _, H⟩ := h; cases H), ?_⟩
  clear H
  rintro st ⟨x0, x1, x12, x13, hk, W, H⟩
  refine W.good ?_
  rw [slices_Equal_string_string.l0] at H
  refine Good.seq ?_
  refine Good.reg hN [] .nil [] (by kernel_rfl) ?_
  refine Good.seq ?_
  rcases (ifC H).symm with ⟨c504, H⟩ | ⟨c504, H⟩
  · refine Good.condF (decide_eq_false c504) (by kernel_rfl) ?_
    refine Good.exit ?_
    refine Good.seq ?_
    refine Good.reg hN [] .nil [] (by kernel_rfl) ?_
    obtain rfl := Option.some.inj H
    exact Good.ret (fin.doneR (by kernel_rfl))
  refine Good.condT (decide_eq_true c504) (by kernel_rfl) ?_
  refine Good.skip ?_
  refine Good.seq ?_
  refine Good.block ?_
  refine Good.seq ?_
  refine Good.reg hN [] .nil [] (by kernel_rfl) ?_
  refine Good.seq ?_
  obtain ⟨c505, H⟩ := ifS H
  obtain ⟨c506, H⟩ := ifS H
  obtain ⟨c507, H⟩ := ifS H
  refine Good.regDF hm hN (.q 0 [] (.q 1 [] (.q 2 [] (.q 3 [] (.q 4 [] (.q 5 [] (.q 6 [] (.q 7 [] (.q 8 [] .z))))))))) [(0, none), (1, none), (5, none)] (by kernel_rfl) .nil [S (rdOf ByteArray.empty x0 x13), S (rdOf ByteArray.empty x1 x13)] [S (rdOf ByteArray.empty x0 x13), S (rdOf ByteArray.empty x1 x13)] (.cons c505 (.cons (atM S ByteArray.empty c505 c506) (.cons c505 (.cons (atM S ByteArray.empty c505 c507) .nil)))) (.cons c505 (.cons (atM S ByteArray.empty c505 c506) (.cons c505 (.cons (atM S ByteArray.empty c505 c507) .nil)))) [] [] (by kernel_rfl) (by kernel_rfl) ?_
  rcases ifC H with ⟨c508, H⟩ | ⟨c508, H⟩
  · refine Good.condF (bneF c508) (by kernel_rfl) ?_
    refine Good.skip ?_
    refine Good.reg hN [] .nil [] (by kernel_rfl) ?_
    exact ⟨k, by omega, x0, x1, x12, wrap64 (x13 + 1), by omega, Wk.of [(0, 0), (1, 0), (12, 0), (13, 0)] (by kernel_rfl) (by kernel_rfl), H⟩
  refine Good.condT (bne_iff_ne.2 c508) (by kernel_rfl) ?_
  refine Good.seq ?_
  refine Good.reg hN [] .nil [] (by kernel_rfl) ?_
  obtain rfl := Option.some.inj H
  exact Good.ret (fin.doneR (by kernel_rfl))
def clavigerlaw19_TlvPieces.f (k : Nat) (a0 : ByteArray) : Option (Bool) := if (a0.size : Int) > 2000 then ((clavigerlaw19_awake.f k).bind fun t510 => (some t510)) else ((tlv_Pieces.f k a0).bind fun t512 => ((cr19_Pieces.f k a0).bind fun t514 => ((slices_Equal_string_string.f k t512.1 t514.1).bind fun t516 => (if t516 = true then (if ((t512.2.1 == t514.2.1) && (t512.2.2 == t514.2.2)) = true then ((clavigerlaw19_awake.f k).bind fun t520 => (some t520)) else (some false)) else (some false)))))
theorem clavigerlaw19_TlvPieces.con {k : Nat} {a0 : ByteArray} {r : (Bool)} (H : clavigerlaw19_TlvPieces.f k a0 = some r) : Con Tryd.prog 5 [S a0] (B r) := by
  refine con_of_good Tryd.func5 rfl (by kernel_rfl) (by kernel_rfl) fun C hN hL => ?_
  unfold clavigerlaw19_TlvPieces.f at H
  refine Good.seq ?_
  refine Good.reg hN [] .nil [] (by kernel_rfl) ?_
  refine Good.seq ?_
  refine Good.seq ?_
  refine Good.reg hN [] .nil [] (by kernel_rfl) ?_
  rcases ifC H with ⟨c509, H⟩ | ⟨c509, H⟩
  · refine Good.condT (decide_eq_true c509) (by kernel_rfl) ?_
    refine Good.seq ?_
    obtain ⟨t510, h511, H⟩ := bindS H
    refine Good.reg hN [B t510] (.cons (clavigerlaw19_awake.con h511).c .nil) [] (by kernel_rfl) ?_
    obtain rfl := Option.some.inj H
    exact Good.ret (fin.doneR (by kernel_rfl))
  refine Good.condF (decide_eq_false c509) (by kernel_rfl) ?_
  refine Good.skip ?_
  refine Good.seq ?_
  obtain ⟨t512, h513, H⟩ := bindS H
  refine Good.reg hN [.tup [.row (some 9) 1 (List.map S t512.1), .agg [I t512.2.1, I t512.2.2]]] (.cons (tlv_Pieces.con h513).c .nil) [] (by kernel_rfl) ?_
  refine Good.seq ?_
  obtain ⟨t514, h515, H⟩ := bindS H
  refine Good.reg hN [.tup [.row (some 9) 1 (List.map S t514.1), .agg [I t514.2.1, I t514.2.2]]] (.cons (cr19_Pieces.con h515).c .nil) [] (by kernel_rfl) ?_
  refine Good.seq ?_
  obtain ⟨t516, h517, H⟩ := bindS H
  rcases (ifC H).symm with ⟨c518, H⟩ | ⟨c518, H⟩
  · refine Good.reg hN [.row none 1 (List.map S t512.1), .row none 1 (List.map S t514.1), B t516, B false, B false] (.cons (shrM (some 9) 1 S S t512.1 (fun _ => rfl)) (.cons (shrM (some 9) 1 S S t514.1 (fun _ => rfl)) (.cons (slices_Equal_string_string.con h517).c (.cons (Bool.eq_false_iff.2 c518) (.cons (rfl : false = false) .nil))))) [] (by kernel_rfl) ?_
    obtain rfl := Option.some.inj H
    exact Good.ret (fin.doneR (by kernel_rfl))
  rcases (ifC H).symm with ⟨c519, H⟩ | ⟨c519, H⟩
  · refine Good.reg hN [.row none 1 (List.map S t512.1), .row none 1 (List.map S t514.1), B t516, B true, B false] (.cons (shrM (some 9) 1 S S t512.1 (fun _ => rfl)) (.cons (shrM (some 9) 1 S S t514.1 (fun _ => rfl)) (.cons (slices_Equal_string_string.con h517).c (.cons c518 (.cons (Bool.eq_false_iff.2 c519) .nil))))) [] (by kernel_rfl) ?_
    obtain rfl := Option.some.inj H
    exact Good.ret (fin.doneR (by kernel_rfl))
  obtain ⟨t520, h521, H⟩ := bindS H
  refine Good.reg hN [.row none 1 (List.map S t512.1), .row none 1 (List.map S t514.1), B t516, B true, B true, B t520] (.cons (shrM (some 9) 1 S S t512.1 (fun _ => rfl)) (.cons (shrM (some 9) 1 S S t514.1 (fun _ => rfl)) (.cons (slices_Equal_string_string.con h517).c (.cons c518 (.cons c519 (.cons (clavigerlaw19_awake.con h521).c .nil)))))) [] (by kernel_rfl) ?_
  obtain rfl := Option.some.inj H
  exact Good.ret (fin.doneR (by kernel_rfl))
def cr18_Unbool.f (a0 : ByteArray) : Option (Bool × Bool) := if a0.toList = ([255] : List UInt8) then (some (true, true)) else (some (false, (a0.toList == ([0] : List UInt8))))
theorem cr18_Unbool.con {a0 : ByteArray} {r : (Bool × Bool)} (H : cr18_Unbool.f a0 = some r) : Con Tryd.prog 48 [S a0] (.tup [B r.1, B r.2]) := by
  refine con_of_good Tryd.func48 rfl (by kernel_rfl) (by kernel_rfl) fun C hN hL => ?_
  unfold cr18_Unbool.f at H
  refine Good.seq ?_
  refine Good.reg hN [] .nil [] (by kernel_rfl) ?_
  refine Good.seq ?_
  refine Good.seq ?_
  refine Good.reg hN [] (.cons (strV (rfl : a0.toList = a0.toList) (litL ([255] : List UInt8))) .nil) [(5, .bool (a0.toList == ([255] : List UInt8)))] (by kernel_rfl) ?_
  rcases ifC H with ⟨c522, H⟩ | ⟨c522, H⟩
  · refine Good.condT (beq_iff_eq.2 c522) (by kernel_rfl) ?_
    refine Good.seq ?_
    refine Good.reg hN [] .nil [] (by kernel_rfl) ?_
    obtain rfl := Option.some.inj H
    exact Good.ret (fin.doneR (by kernel_rfl))
  refine Good.condF (beq_eq_false_iff_ne.2 c522) (by kernel_rfl) ?_
  refine Good.skip ?_
  refine Good.seq ?_
  refine Good.reg hN [] (.cons (strV (rfl : a0.toList = a0.toList) (litL ([0] : List UInt8))) .nil) [(7, .bool (a0.toList == ([0] : List UInt8)))] (by kernel_rfl) ?_
  obtain rfl := Option.some.inj H
  exact Good.ret (fin.doneR (by kernel_rfl))
def cr16_Right.f (a0 : ByteArray) : Option (Bool) := if a0.toList = ([] : List UInt8) then (some false) else (if (a0.size : Int) = 1 then (some true) else (if 0 < (a0.size : Int) then (if (bt a0 0) = 0 then (if 1 < (a0.size : Int) then (if (bt a0 1) < 128 then (some false) else (if (bt a0 0) = 255 then (some (decide ((bt a0 1) < 128))) else (some true))) else (none)) else (if (bt a0 0) = 255 then (if 1 < (a0.size : Int) then (some (decide ((bt a0 1) < 128))) else (none)) else (some true))) else (none)))
theorem cr16_Right.con {a0 : ByteArray} {r : (Bool)} (H : cr16_Right.f a0 = some r) : Con Tryd.prog 49 [S a0] (B r) := by
  refine con_of_good Tryd.func49 rfl (by kernel_rfl) (by kernel_rfl) fun C hN hL => ?_
  unfold cr16_Right.f at H
  refine Good.seq ?_
  refine Good.reg hN [] .nil [] (by kernel_rfl) ?_
  refine Good.seq ?_
  refine Good.seq ?_
  refine Good.reg hN [] (.cons (strV (rfl : a0.toList = a0.toList) (litL ([] : List UInt8))) .nil) [(4, .bool (a0.toList == ([] : List UInt8)))] (by kernel_rfl) ?_
  rcases ifC H with ⟨c523, H⟩ | ⟨c523, H⟩
  · refine Good.condT (beq_iff_eq.2 c523) (by kernel_rfl) ?_
    refine Good.seq ?_
    refine Good.reg hN [] .nil [] (by kernel_rfl) ?_
    obtain rfl := Option.some.inj H
    exact Good.ret (fin.doneR (by kernel_rfl))
  refine Good.condF (beq_eq_false_iff_ne.2 c523) (by kernel_rfl) ?_
  refine Good.skip ?_
  refine Good.seq ?_
  refine Good.seq ?_
  refine Good.reg hN [] .nil [] (by kernel_rfl) ?_
  rcases ifC H with ⟨c524, H⟩ | ⟨c524, H⟩
  · refine Good.condT (beq_iff_eq.2 c524) (by kernel_rfl) ?_
    refine Good.seq ?_
    refine Good.reg hN [] .nil [] (by kernel_rfl) ?_
    obtain rfl := Option.some.inj H
    exact Good.ret (fin.doneR (by kernel_rfl))
  refine Good.condF (beq_eq_false_iff_ne.2 c524) (by kernel_rfl) ?_
  refine Good.skip ?_
  refine Good.seq ?_
  refine Good.seq ?_
  obtain ⟨c525, H⟩ := ifS H
  rcases (ifC H).symm with ⟨c526, H⟩ | ⟨c526, H⟩
  · refine Good.reg hN [B false] (.cons (show (0 : Int) ≤ 0 by decide) (.cons c525 (.cons (beq_eq_false_iff_ne.2 c526) .nil))) [] (by kernel_rfl) ?_
    refine Good.cond false (by kernel_rfl) ?_
    refine Good.skip ?_
    refine Good.seq ?_
    rcases (ifC H).symm with ⟨c530, H⟩ | ⟨c530, H⟩
    · refine Good.reg hN [B true] (.cons (show (0 : Int) ≤ 0 by decide) (.cons c525 (.cons (bne_iff_ne.2 c530) .nil))) [] (by kernel_rfl) ?_
      obtain rfl := Option.some.inj H
      exact Good.ret (fin.doneR (by kernel_rfl))
    obtain ⟨c531, H⟩ := ifS H
    refine Good.reg hN [B false] (.cons (show (0 : Int) ≤ 0 by decide) (.cons c525 (.cons (bneF c530) (.cons (show (0 : Int) ≤ 1 by decide) (.cons c531 .nil))))) [] (by kernel_rfl) ?_
    obtain rfl := Option.some.inj H
    exact Good.ret (fin.doneR (by kernel_rfl))
  obtain ⟨c527, H⟩ := ifS H
  refine Good.reg hN [B true] (.cons (show (0 : Int) ≤ 0 by decide) (.cons c525 (.cons (beq_iff_eq.2 c526) (.cons (show (0 : Int) ≤ 1 by decide) (.cons c527 .nil))))) [] (by kernel_rfl) ?_
  rcases ifC H with ⟨c528, H⟩ | ⟨c528, H⟩
  · refine Good.condT (decide_eq_true c528) (by kernel_rfl) ?_
    refine Good.seq ?_
    refine Good.reg hN [] .nil [] (by kernel_rfl) ?_
    obtain rfl := Option.some.inj H
    exact Good.ret (fin.doneR (by kernel_rfl))
  refine Good.condF (decide_eq_false c528) (by kernel_rfl) ?_
  refine Good.skip ?_
  refine Good.seq ?_
  rcases ifC H with ⟨c529, H⟩ | ⟨c529, H⟩
  · refine Good.reg hN [B false] (.cons (show (0 : Int) ≤ 0 by decide) (.cons c525 (.cons (bneF c529) (.cons (show (0 : Int) ≤ 1 by decide) (.cons c527 .nil))))) [] (by kernel_rfl) ?_
    obtain rfl := Option.some.inj H
    exact Good.ret (fin.doneR (by kernel_rfl))
  refine Good.reg hN [B true] (.cons (show (0 : Int) ≤ 0 by decide) (.cons c525 (.cons (bne_iff_ne.2 c529) .nil))) [] (by kernel_rfl) ?_
  obtain rfl := Option.some.inj H
  exact Good.ret (fin.doneR (by kernel_rfl))
def cr18_Bits.l0 : Nat → ByteArray → Int → Int → Int → Option (ByteArray × Bool)
 | 0, _, _, _, _ => none
 | k + 1, x0, x1, x6, x7 => if x7 < x1 then (cr18_Bits.l0 k x0 x1 (wrap64 (2 * x6)) (wrap64 (x7 + 1))) else (if x0.toList = ([] : List UInt8) then ((cr01_Put.f k (IntKind.u64.wrap (x1)) 1).bind fun t538 => (if t538.size + x0.size ≤ 9223372036854775807 then (some (t538 ++ x0, true)) else (none))) else (if 0 ≤ (wrap64 ((x0.size : Int) - 1)) then (if (wrap64 ((x0.size : Int) - 1)) < (x0.size : Int) then (if x6 = 0 then (none) else (if (Int.tmod (wrap64 (bt x0 (wrap64 ((x0.size : Int) - 1)))) x6) = 0 then ((cr01_Put.f k (IntKind.u64.wrap (x1)) 1).bind fun t545 => (if t545.size + x0.size ≤ 9223372036854775807 then (some (t545 ++ x0, true)) else (none))) else (some ((⟨#[]⟩ : ByteArray), false)))) else (none)) else (none)))
def cr18_Bits.j0 : Nat → ByteArray → Int → Bool → Option (ByteArray × Bool)
 | 0, _, _, _ => none
 | k + 1, x0, x1, x21 => if x21 = true then (some ((⟨#[]⟩ : ByteArray), false)) else (cr18_Bits.l0 k x0 x1 1 0)
def cr18_Bits.f (k : Nat) (a0 : ByteArray) (a1 : Int) : Option (ByteArray × Bool) := if a1 < 0 then (cr18_Bits.j0 k a0 a1 true) else (if a1 > 7 then (cr18_Bits.j0 k a0 a1 true) else (if a0.toList = ([] : List UInt8) then (cr18_Bits.j0 k a0 a1 (a1 != 0)) else (cr18_Bits.j0 k a0 a1 false)))
theorem cr18_Bits.con {k : Nat} {a0 : ByteArray} {a1 : Int} {r : (ByteArray × Bool)} (H : cr18_Bits.f k a0 a1 = some r) : Con Tryd.prog 60 [S a0, I a1] (.tup [S r.1, B r.2]) := by
  refine con_of_good Tryd.func60 rfl (by kernel_rfl) (by kernel_rfl) fun C hN hL => ?_
  unfold cr18_Bits.f at H
  refine Good.seq ?_
  refine Good.reg hN [] .nil [] (by kernel_rfl) ?_
  refine Good.seq ?_
  refine Good.seq ?_
  refine Good.cut (fun st => ∃ (x0 : ByteArray) (x1 : Int) (x21 : Bool), Wk C st ⟨[(0, .d (.v (S x0))), (1, .d (.v (I x1))), (21, .d (.v (B x21)))], []⟩ ∧ cr18_Bits.j0 k x0 x1 x21 = some r) ?_ ?_
  · rcases ifC H with ⟨c532, H⟩ | ⟨c532, H⟩
    · refine Good.reg hN [B true, B true] (.cons (decide_eq_true c532) (.cons (rfl : true = true) .nil)) [] (by kernel_rfl) ?_
      exact ⟨a0, a1, true, Wk.of [(0, 0), (1, 0), (21, 0)] (by kernel_rfl) (by kernel_rfl), H⟩
    rcases ifC H with ⟨c533, H⟩ | ⟨c533, H⟩
    · refine Good.reg hN [B false, B true] (.cons (decide_eq_false c532) (.cons (decide_eq_true c533) .nil)) [] (by kernel_rfl) ?_
      exact ⟨a0, a1, true, Wk.of [(0, 0), (1, 0), (21, 0)] (by kernel_rfl) (by kernel_rfl), H⟩
    rcases ifC H with ⟨c534, H⟩ | ⟨c534, H⟩
    · refine Good.reg hN [B false, B false, B true] (.cons (decide_eq_false c532) (.cons (decide_eq_false c533) (.cons (strV (rfl : a0.toList = a0.toList) (litL ([] : List UInt8))) (.cons (beq_iff_eq.2 c534) .nil)))) [(16, .bool (a0.toList == ([] : List UInt8)))] (by kernel_rfl) ?_
      exact ⟨a0, a1, (a1 != 0), Wk.of [(0, 0), (1, 0), (21, 0)] (by kernel_rfl) (by kernel_rfl), H⟩
    refine Good.reg hN [B false, B false, B false] (.cons (decide_eq_false c532) (.cons (decide_eq_false c533) (.cons (strV (rfl : a0.toList = a0.toList) (litL ([] : List UInt8))) (.cons (beq_eq_false_iff_ne.2 c534) .nil)))) [(16, .bool (a0.toList == ([] : List UInt8)))] (by kernel_rfl) ?_
    exact ⟨a0, a1, false, Wk.of [(0, 0), (1, 0), (21, 0)] (by kernel_rfl) (by kernel_rfl), H⟩
  clear H
  rintro st ⟨x0, x1, x21, W, H⟩
  rcases k with _ | k
  · cases H
  refine W.good ?_
  rw [cr18_Bits.j0] at H
  rcases ifC H with ⟨c535, H⟩ | ⟨c535, H⟩
  · refine Good.condT c535 (by kernel_rfl) ?_
    refine Good.seq ?_
    refine Good.reg hN [] .nil [] (by kernel_rfl) ?_
    obtain rfl := Option.some.inj H
    exact Good.ret (fin.doneR (by kernel_rfl))
  refine Good.condF (Bool.eq_false_iff.2 c535) (by kernel_rfl) ?_
  refine Good.skip ?_
  refine Good.seq ?_
  refine Good.reg hN [] .nil [] (by kernel_rfl) ?_
  refine Good.seq ?_
  refine Good.seq ?_
  refine Good.reg hN [] .nil [] (by kernel_rfl) ?_
  refine Good.block ?_
  refine Good.loopN (fun k' st => ∃ (x0 : ByteArray) (x1 : Int) (x6 : Int) (x7 : Int), k' ≤ k ∧ Wk C st ⟨[(0, .d (.v (S x0))), (1, .d (.v (I x1))), (6, .d (.v (I x6))), (7, .d (.v (I x7)))], []⟩ ∧ cr18_Bits.l0 k' x0 x1 x6 x7 = some r) k ⟨x0, x1, 1, 0, Nat.le_refl _, Wk.of [(0, 0), (1, 0), (6, 0), (7, 0)] (by kernel_rfl) (by kernel_rfl), H⟩ fun k => ⟨fun st h => (by obtain ⟨_, _, _, _, _, _, H⟩ := h; cases H), ?_⟩
  clear H
  rintro st ⟨x0, x1, x6, x7, hk, W, H⟩
  refine W.good ?_
  rw [cr18_Bits.l0] at H
  refine Good.seq ?_
  refine Good.seq ?_
  refine Good.reg hN [] .nil [] (by kernel_rfl) ?_
  rcases ifC H with ⟨c536, H⟩ | ⟨c536, H⟩
  · refine Good.condT (decide_eq_true c536) (by kernel_rfl) ?_
    refine Good.skip ?_
    refine Good.seq ?_
    refine Good.block ?_
    refine Good.reg hN [] .nil [] (by kernel_rfl) ?_
    refine Good.reg hN [] .nil [] (by kernel_rfl) ?_
    exact ⟨k, by omega, x0, x1, wrap64 (2 * x6), wrap64 (x7 + 1), by omega, Wk.of [(0, 0), (1, 0), (6, 0), (7, 0)] (by kernel_rfl) (by kernel_rfl), H⟩
  refine Good.condF (decide_eq_false c536) (by kernel_rfl) ?_
  refine Good.exit ?_
  refine Good.seq ?_
  refine Good.seq ?_
  rcases ifC H with ⟨c537, H⟩ | ⟨c537, H⟩
  · refine Good.reg hN [B false] (.cons (nstrV (rfl : x0.toList = x0.toList) (litL ([] : List UInt8))) (.cons (bneF c537) .nil)) [(30, .bool (x0.toList != ([] : List UInt8)))] (by kernel_rfl) ?_
    refine Good.cond false (by kernel_rfl) ?_
    refine Good.skip ?_
    refine Good.seq ?_
    obtain ⟨t538, h539, H⟩ := bindS H
    obtain ⟨c540, H⟩ := ifS H
    refine Good.reg hN [S t538] (.cons (cr01_Put.con h539).c (.cons c540 .nil)) [] (by kernel_rfl) ?_
    obtain rfl := Option.some.inj H
    exact Good.ret (fin.doneR (by kernel_rfl))
  obtain ⟨c541, H⟩ := ifS H
  obtain ⟨c542, H⟩ := ifS H
  obtain ⟨c543, H⟩ := ifN H
  refine Good.reg hN [B true] (.cons (nstrV (rfl : x0.toList = x0.toList) (litL ([] : List UInt8))) (.cons (bne_iff_ne.2 c537) (.cons c541 (.cons c542 (.cons c543 .nil))))) [(30, .bool (x0.toList != ([] : List UInt8)))] (by kernel_rfl) ?_
  rcases (ifC H).symm with ⟨c544, H⟩ | ⟨c544, H⟩
  · refine Good.condT (bne_iff_ne.2 c544) (by kernel_rfl) ?_
    refine Good.seq ?_
    refine Good.reg hN [] .nil [] (by kernel_rfl) ?_
    obtain rfl := Option.some.inj H
    exact Good.ret (fin.doneR (by kernel_rfl))
  refine Good.condF (bneF c544) (by kernel_rfl) ?_
  refine Good.skip ?_
  refine Good.seq ?_
  obtain ⟨t545, h546, H⟩ := bindS H
  obtain ⟨c547, H⟩ := ifS H
  refine Good.reg hN [S t545] (.cons (cr01_Put.con h546).c (.cons c547 .nil)) [] (by kernel_rfl) ?_
  obtain rfl := Option.some.inj H
  exact Good.ret (fin.doneR (by kernel_rfl))
def cr18_Unbits.f (k : Nat) (a0 : ByteArray) : Option (ByteArray × Int × Bool) := if a0.toList = ([] : List UInt8) then (some ((⟨#[]⟩ : ByteArray), 0, false)) else (if 1 ≤ (a0.size : Int) then (if 0 < (a0.size : Int) then ((cr18_Bits.f k (a0.extract 1 a0.size) (wrap64 (bt a0 0))).bind fun t551 => (if t551.2 = true then (some (a0.extract 1 a0.size, wrap64 (bt a0 0), true)) else (some ((⟨#[]⟩ : ByteArray), 0, false)))) else (none)) else (none))
theorem cr18_Unbits.con {k : Nat} {a0 : ByteArray} {r : (ByteArray × Int × Bool)} (H : cr18_Unbits.f k a0 = some r) : Con Tryd.prog 50 [S a0] (.tup [S r.1, I r.2.1, B r.2.2]) := by
  refine con_of_good Tryd.func50 rfl (by kernel_rfl) (by kernel_rfl) fun C hN hL => ?_
  unfold cr18_Unbits.f at H
  refine Good.seq ?_
  refine Good.reg hN [] .nil [] (by kernel_rfl) ?_
  refine Good.seq ?_
  refine Good.seq ?_
  refine Good.reg hN [] (.cons (strV (rfl : a0.toList = a0.toList) (litL ([] : List UInt8))) .nil) [(8, .bool (a0.toList == ([] : List UInt8)))] (by kernel_rfl) ?_
  rcases ifC H with ⟨c548, H⟩ | ⟨c548, H⟩
  · refine Good.condT (beq_iff_eq.2 c548) (by kernel_rfl) ?_
    refine Good.seq ?_
    refine Good.reg hN [] .nil [] (by kernel_rfl) ?_
    obtain rfl := Option.some.inj H
    exact Good.ret (fin.doneR (by kernel_rfl))
  refine Good.condF (beq_eq_false_iff_ne.2 c548) (by kernel_rfl) ?_
  refine Good.skip ?_
  refine Good.seq ?_
  obtain ⟨c549, H⟩ := ifS H
  obtain ⟨c550, H⟩ := ifS H
  obtain ⟨t551, h552, H⟩ := bindS H
  refine Good.regDF hm hN (.q 0 [] (.q 1 [] (.q 2 [] (.q 3 [] (.q 4 [] (.e 5 (.q 6 [] (.q 7 [] (.q 8 [] (.q 9 [] (.q 10 [] .z))))))))))) [(0, none)] (by kernel_rfl) .nil [.tup [S t551.1, B t551.2]] [] (.cons (show (0 : Int) ≤ 1 by decide) (.cons c549 (.cons (show (0 : Int) ≤ 0 by decide) (.cons c550 (.cons (cr18_Bits.con h552).c .nil))))) (.cons (show (0 : Int) ≤ 1 by decide) (.cons c549 (.cons (show (0 : Int) ≤ 0 by decide) (.cons c550 .nil)))) [] [] (by kernel_rfl) (by kernel_rfl) ?_
  refine Good.seq ?_
  refine Good.seq ?_
  refine Good.reg hN [] .nil [] (by kernel_rfl) ?_
  rcases (ifC H).symm with ⟨c553, H⟩ | ⟨c553, H⟩
  · refine Good.condT (notT (Bool.eq_false_iff.2 c553)) (by kernel_rfl) ?_
    refine Good.seq ?_
    refine Good.reg hN [] .nil [] (by kernel_rfl) ?_
    obtain rfl := Option.some.inj H
    exact Good.ret (fin.doneR (by kernel_rfl))
  refine Good.condF (notF c553) (by kernel_rfl) ?_
  refine Good.skip ?_
  refine Good.seq ?_
  refine Good.regDF hm hN (.q 0 [] (.q 1 [] (.q 2 [] (.q 3 [] (.q 4 [] (.q 5 [] (.q 6 [] (.q 7 [] .z)))))))) [(0, none)] (by kernel_rfl) .nil [] [] (.cons (show (0 : Int) ≤ 1 by decide) (.cons c549 (.cons (show (0 : Int) ≤ 0 by decide) (.cons c550 .nil)))) (.cons (show (0 : Int) ≤ 1 by decide) (.cons c549 (.cons (show (0 : Int) ≤ 0 by decide) (.cons c550 .nil)))) [] [] (by kernel_rfl) (by kernel_rfl) ?_
  obtain rfl := Option.some.inj H
  exact Good.ret (fin.doneR (by kernel_rfl))
def cr17_Right.l0 : Nat → List Int → Int → Option (Bool)
 | 0, _, _ => none
 | k + 1, x0, x3 => if x3 < (x0.length : Int) then (if x3 = 1 then (if 0 < (x0.length : Int) then (if (rd x0 0) < 2 then (if 0 ≤ x3 then (if (rd x0 x3) < 0 then (some false) else (if (rd x0 x3) > 39 then (some false) else (cr17_Right.l0 k x0 (wrap64 (x3 + 1))))) else (none)) else (if 0 ≤ x3 then (if (rd x0 x3) < 0 then (some false) else (if (rd x0 x3) > 2147483567 then (some false) else (cr17_Right.l0 k x0 (wrap64 (x3 + 1))))) else (none))) else (none)) else (if 0 ≤ x3 then (if (rd x0 x3) < 0 then (some false) else (if (rd x0 x3) > 2147483647 then (some false) else (cr17_Right.l0 k x0 (wrap64 (x3 + 1))))) else (none))) else (some true)
def cr17_Right.j0 : Nat → List Int → Bool → Option (Bool)
 | 0, _, _ => none
 | k + 1, x0, x24 => if x24 = true then (some false) else (cr17_Right.l0 k x0 1)
def cr17_Right.f (k : Nat) (l0 : List Int) : Option (Bool) := if (l0.length : Int) < 2 then (cr17_Right.j0 k l0 true) else (if (l0.length : Int) > 20 then (cr17_Right.j0 k l0 true) else (if 0 < (l0.length : Int) then (if (rd l0 0) < 0 then (cr17_Right.j0 k l0 true) else (cr17_Right.j0 k l0 (decide ((rd l0 0) > 2)))) else (none)))
theorem cr17_Right.con {k : Nat} {l0 : List Int} {r : (Bool)} (H : cr17_Right.f k l0 = some r) : Con Tryd.prog 67 [.row none 1 (List.map I l0)] (B r) := by
  refine con_of_good Tryd.func67 rfl (by kernel_rfl) (by kernel_rfl) fun C hN hL => ?_
  unfold cr17_Right.f at H
  refine Good.seq ?_
  refine Good.reg hN [] .nil [] (by kernel_rfl) ?_
  refine Good.seq ?_
  refine Good.seq ?_
  refine Good.cut (fun st => ∃ (x0 : List Int) (x24 : Bool), Wk C st ⟨[(0, .d (.v (.row none 1 (List.map I x0)))), (24, .d (.v (B x24)))], []⟩ ∧ cr17_Right.j0 k x0 x24 = some r) ?_ ?_
  · rcases ifC H with ⟨c554, H⟩ | ⟨c554, H⟩
    · refine Good.reg hN [I (l0.length : Int), B true, B true, B true] (.cons (lenM I l0) (.cons (decide_eq_true c554) (.cons (rfl : true = true) (.cons (rfl : true = true) .nil)))) [] (by kernel_rfl) ?_
      exact ⟨l0, true, Wk.of [(0, 0), (24, 0)] (by kernel_rfl) (by kernel_rfl), H⟩
    rcases ifC H with ⟨c555, H⟩ | ⟨c555, H⟩
    · refine Good.reg hN [I (l0.length : Int), B false, I (l0.length : Int), B true, B true] (.cons (lenM I l0) (.cons (decide_eq_false c554) (.cons (lenM I l0) (.cons (decide_eq_true c555) (.cons (rfl : true = true) .nil))))) [] (by kernel_rfl) ?_
      exact ⟨l0, true, Wk.of [(0, 0), (24, 0)] (by kernel_rfl) (by kernel_rfl), H⟩
    obtain ⟨c556, H⟩ := ifS H
    rcases ifC H with ⟨c557, H⟩ | ⟨c557, H⟩
    · refine Good.reg hN [I (l0.length : Int), B false, I (l0.length : Int), B false, I (rd l0 0), B true] (.cons (lenM I l0) (.cons (decide_eq_false c554) (.cons (lenM I l0) (.cons (decide_eq_false c555) (.cons (show (0 : Int) ≤ 0 by decide) (.cons (atM I (0 : Int) (show (0 : Int) ≤ 0 by decide) c556) (.cons (decide_eq_true c557) .nil))))))) [] (by kernel_rfl) ?_
      exact ⟨l0, true, Wk.of [(0, 0), (24, 0)] (by kernel_rfl) (by kernel_rfl), H⟩
    refine Good.reg hN [I (l0.length : Int), B false, I (l0.length : Int), B false, I (rd l0 0), B false, I (rd l0 0)] (.cons (lenM I l0) (.cons (decide_eq_false c554) (.cons (lenM I l0) (.cons (decide_eq_false c555) (.cons (show (0 : Int) ≤ 0 by decide) (.cons (atM I (0 : Int) (show (0 : Int) ≤ 0 by decide) c556) (.cons (decide_eq_false c557) (.cons (show (0 : Int) ≤ 0 by decide) (.cons (atM I (0 : Int) (show (0 : Int) ≤ 0 by decide) c556) .nil))))))))) [] (by kernel_rfl) ?_
    exact ⟨l0, decide ((rd l0 0) > 2), Wk.of [(0, 0), (24, 0)] (by kernel_rfl) (by kernel_rfl), H⟩
  clear H
  rintro st ⟨x0, x24, W, H⟩
  rcases k with _ | k
  · cases H
  refine W.good ?_
  rw [cr17_Right.j0] at H
  rcases ifC H with ⟨c558, H⟩ | ⟨c558, H⟩
  · refine Good.condT c558 (by kernel_rfl) ?_
    refine Good.seq ?_
    refine Good.reg hN [] .nil [] (by kernel_rfl) ?_
    obtain rfl := Option.some.inj H
    exact Good.ret (fin.doneR (by kernel_rfl))
  refine Good.condF (Bool.eq_false_iff.2 c558) (by kernel_rfl) ?_
  refine Good.skip ?_
  refine Good.seq ?_
  refine Good.seq ?_
  refine Good.reg hN [] .nil [] (by kernel_rfl) ?_
  refine Good.block ?_
  refine Good.loopN (fun k' st => ∃ (x0 : List Int) (x3 : Int), k' ≤ k ∧ Wk C st ⟨[(0, .d (.v (.row none 1 (List.map I x0)))), (3, .d (.v (I x3)))], []⟩ ∧ cr17_Right.l0 k' x0 x3 = some r) k ⟨x0, 1, Nat.le_refl _, Wk.of [(0, 0), (3, 0)] (by kernel_rfl) (by kernel_rfl), H⟩ fun k => ⟨fun st h => (by obtain ⟨_, _, _, _, H⟩ := h; cases H), ?_⟩
  clear H
  rintro st ⟨x0, x3, hk, W, H⟩
  refine W.good ?_
  rw [cr17_Right.l0] at H
  refine Good.seq ?_
  refine Good.seq ?_
  refine Good.reg hN [I (x0.length : Int)] (.cons (lenM I x0) .nil) [] (by kernel_rfl) ?_
  rcases (ifC H).symm with ⟨c559, H⟩ | ⟨c559, H⟩
  · refine Good.condF (decide_eq_false c559) (by kernel_rfl) ?_
    refine Good.exit ?_
    refine Good.seq ?_
    refine Good.reg hN [] .nil [] (by kernel_rfl) ?_
    obtain rfl := Option.some.inj H
    exact Good.ret (fin.doneR (by kernel_rfl))
  refine Good.condT (decide_eq_true c559) (by kernel_rfl) ?_
  refine Good.skip ?_
  refine Good.seq ?_
  refine Good.block ?_
  refine Good.seq ?_
  refine Good.reg hN [] .nil [] (by kernel_rfl) ?_
  refine Good.seq ?_
  refine Good.seq ?_
  refine Good.reg hN [] .nil [] (by kernel_rfl) ?_
  rcases (ifC H).symm with ⟨c560, H⟩ | ⟨c560, H⟩
  · refine Good.condF (beq_eq_false_iff_ne.2 c560) (by kernel_rfl) ?_
    refine Good.skip ?_
    refine Good.seq ?_
    obtain ⟨c569, H⟩ := ifS H
    rcases ifC H with ⟨c570, H⟩ | ⟨c570, H⟩
    · refine Good.reg hN [I (rd x0 x3), B true] (.cons c569 (.cons (atM I (0 : Int) c569 c559) (.cons (decide_eq_true c570) .nil))) [] (by kernel_rfl) ?_
      refine Good.cond true (by kernel_rfl) ?_
      refine Good.seq ?_
      refine Good.reg hN [] .nil [] (by kernel_rfl) ?_
      obtain rfl := Option.some.inj H
      exact Good.ret (fin.doneR (by kernel_rfl))
    refine Good.reg hN [I (rd x0 x3), B false, I (rd x0 x3)] (.cons c569 (.cons (atM I (0 : Int) c569 c559) (.cons (decide_eq_false c570) (.cons c569 (.cons (atM I (0 : Int) c569 c559) .nil))))) [] (by kernel_rfl) ?_
    rcases (ifC H).symm with ⟨c571, H⟩ | ⟨c571, H⟩
    · refine Good.condF (decide_eq_false c571) (by kernel_rfl) ?_
      refine Good.skip ?_
      refine Good.reg hN [] .nil [] (by kernel_rfl) ?_
      exact ⟨k, by omega, x0, wrap64 (x3 + 1), by omega, Wk.of [(0, 0), (3, 0)] (by kernel_rfl) (by kernel_rfl), H⟩
    refine Good.condT (decide_eq_true c571) (by kernel_rfl) ?_
    refine Good.seq ?_
    refine Good.reg hN [] .nil [] (by kernel_rfl) ?_
    obtain rfl := Option.some.inj H
    exact Good.ret (fin.doneR (by kernel_rfl))
  refine Good.condT (beq_iff_eq.2 c560) (by kernel_rfl) ?_
  refine Good.seq ?_
  refine Good.reg hN [] .nil [] (by kernel_rfl) ?_
  refine Good.seq ?_
  obtain ⟨c561, H⟩ := ifS H
  refine Good.reg hN [I (rd x0 0)] (.cons (show (0 : Int) ≤ 0 by decide) (.cons (atM I (0 : Int) (show (0 : Int) ≤ 0 by decide) c561) .nil)) [] (by kernel_rfl) ?_
  rcases ifC H with ⟨c562, H⟩ | ⟨c562, H⟩
  · refine Good.condT (decide_eq_true c562) (by kernel_rfl) ?_
    refine Good.reg hN [] .nil [] (by kernel_rfl) ?_
    refine Good.seq ?_
    obtain ⟨c563, H⟩ := ifS H
    rcases ifC H with ⟨c564, H⟩ | ⟨c564, H⟩
    · refine Good.reg hN [I (rd x0 x3), B true] (.cons c563 (.cons (atM I (0 : Int) c563 c559) (.cons (decide_eq_true c564) .nil))) [] (by kernel_rfl) ?_
      refine Good.cond true (by kernel_rfl) ?_
      refine Good.seq ?_
      refine Good.reg hN [] .nil [] (by kernel_rfl) ?_
      obtain rfl := Option.some.inj H
      exact Good.ret (fin.doneR (by kernel_rfl))
    refine Good.reg hN [I (rd x0 x3), B false, I (rd x0 x3)] (.cons c563 (.cons (atM I (0 : Int) c563 c559) (.cons (decide_eq_false c564) (.cons c563 (.cons (atM I (0 : Int) c563 c559) .nil))))) [] (by kernel_rfl) ?_
    rcases (ifC H).symm with ⟨c565, H⟩ | ⟨c565, H⟩
    · refine Good.condF (decide_eq_false c565) (by kernel_rfl) ?_
      refine Good.skip ?_
      refine Good.reg hN [] .nil [] (by kernel_rfl) ?_
      exact ⟨k, by omega, x0, wrap64 (x3 + 1), by omega, Wk.of [(0, 0), (3, 0)] (by kernel_rfl) (by kernel_rfl), H⟩
    refine Good.condT (decide_eq_true c565) (by kernel_rfl) ?_
    refine Good.seq ?_
    refine Good.reg hN [] .nil [] (by kernel_rfl) ?_
    obtain rfl := Option.some.inj H
    exact Good.ret (fin.doneR (by kernel_rfl))
  refine Good.condF (decide_eq_false c562) (by kernel_rfl) ?_
  refine Good.skip ?_
  refine Good.seq ?_
  obtain ⟨c566, H⟩ := ifS H
  rcases ifC H with ⟨c567, H⟩ | ⟨c567, H⟩
  · refine Good.reg hN [I (rd x0 x3), B true] (.cons c566 (.cons (atM I (0 : Int) c566 c559) (.cons (decide_eq_true c567) .nil))) [] (by kernel_rfl) ?_
    refine Good.cond true (by kernel_rfl) ?_
    refine Good.seq ?_
    refine Good.reg hN [] .nil [] (by kernel_rfl) ?_
    obtain rfl := Option.some.inj H
    exact Good.ret (fin.doneR (by kernel_rfl))
  refine Good.reg hN [I (rd x0 x3), B false, I (rd x0 x3)] (.cons c566 (.cons (atM I (0 : Int) c566 c559) (.cons (decide_eq_false c567) (.cons c566 (.cons (atM I (0 : Int) c566 c559) .nil))))) [] (by kernel_rfl) ?_
  rcases (ifC H).symm with ⟨c568, H⟩ | ⟨c568, H⟩
  · refine Good.condF (decide_eq_false c568) (by kernel_rfl) ?_
    refine Good.skip ?_
    refine Good.reg hN [] .nil [] (by kernel_rfl) ?_
    exact ⟨k, by omega, x0, wrap64 (x3 + 1), by omega, Wk.of [(0, 0), (3, 0)] (by kernel_rfl) (by kernel_rfl), H⟩
  refine Good.condT (decide_eq_true c568) (by kernel_rfl) ?_
  refine Good.seq ?_
  refine Good.reg hN [] .nil [] (by kernel_rfl) ?_
  obtain rfl := Option.some.inj H
  exact Good.ret (fin.doneR (by kernel_rfl))
def cr17_digits.l0 : Nat → Int → ByteArray → Option (ByteArray)
 | 0, _, _ => none
 | k + 1, x0, x3 => if x0 > 0 then (if (strOfNums ([(wrap64 (128 + (Int.tmod x0 128))) % 256] : List Int)).size + x3.size ≤ 9223372036854775807 then (cr17_digits.l0 k (wrap64 (Int.tdiv x0 128)) ((strOfNums ([(wrap64 (128 + (Int.tmod x0 128))) % 256] : List Int)) ++ x3)) else (none)) else (some x3)
def cr17_digits.f (k : Nat) (a0 : Int) : Option (ByteArray) := cr17_digits.l0 k (wrap64 (Int.tdiv a0 128)) (strOfNums ([(Int.tmod a0 128) % 256] : List Int))
theorem cr17_digits.con {k : Nat} {a0 : Int} {r : (ByteArray)} (H : cr17_digits.f k a0 = some r) : Con Tryd.prog 68 [I a0] (S r) := by
  refine con_of_good Tryd.func68 rfl (by kernel_rfl) (by kernel_rfl) fun C hN hL => ?_
  unfold cr17_digits.f at H
  refine Good.seq ?_
  refine Good.reg hN [] .nil [] (by kernel_rfl) ?_
  refine Good.seq ?_
  refine Good.reg hN [S (strOfNums ([(Int.tmod a0 128) % 256] : List Int))] (.cons (show (128 : Int) ≠ 0 by decide) (.cons (strN ([(Int.tmod a0 128) % 256] : List Int)) .nil)) [] (by kernel_rfl) ?_
  refine Good.seq ?_
  refine Good.reg hN [] (.cons (show (128 : Int) ≠ 0 by decide) .nil) [] (by kernel_rfl) ?_
  refine Good.seq ?_
  refine Good.block ?_
  refine Good.loopN (fun k' st => ∃ (x0 : Int) (x3 : ByteArray), k' ≤ k ∧ Wk C st ⟨[(0, .d (.v (I x0))), (3, .d (.v (S x3)))], []⟩ ∧ cr17_digits.l0 k' x0 x3 = some r) k ⟨wrap64 (Int.tdiv a0 128), strOfNums ([(Int.tmod a0 128) % 256] : List Int), Nat.le_refl _, Wk.of [(0, 0), (3, 0)] (by kernel_rfl) (by kernel_rfl), H⟩ fun k => ⟨fun st h => (by obtain ⟨_, _, _, _, H⟩ := h; cases H), ?_⟩
  clear H
  rintro st ⟨x0, x3, hk, W, H⟩
  refine W.good ?_
  rw [cr17_digits.l0] at H
  refine Good.seq ?_
  refine Good.seq ?_
  refine Good.reg hN [] .nil [] (by kernel_rfl) ?_
  rcases (ifC H).symm with ⟨c572, H⟩ | ⟨c572, H⟩
  · refine Good.condF (decide_eq_false c572) (by kernel_rfl) ?_
    refine Good.exit ?_
    refine Good.seq ?_
    refine Good.reg hN [] .nil [] (by kernel_rfl) ?_
    obtain rfl := Option.some.inj H
    exact Good.ret (fin.doneR (by kernel_rfl))
  refine Good.condT (decide_eq_true c572) (by kernel_rfl) ?_
  refine Good.skip ?_
  refine Good.block ?_
  refine Good.seq ?_
  obtain ⟨c573, H⟩ := ifS H
  refine Good.reg hN [S (strOfNums ([(wrap64 (128 + (Int.tmod x0 128))) % 256] : List Int))] (.cons (show (128 : Int) ≠ 0 by decide) (.cons (strN ([(wrap64 (128 + (Int.tmod x0 128))) % 256] : List Int)) (.cons c573 .nil))) [] (by kernel_rfl) ?_
  refine Good.reg hN [] (.cons (show (128 : Int) ≠ 0 by decide) .nil) [] (by kernel_rfl) ?_
  exact ⟨k, by omega, wrap64 (Int.tdiv x0 128), (strOfNums ([(wrap64 (128 + (Int.tmod x0 128))) % 256] : List Int)) ++ x3, by omega, Wk.of [(0, 0), (3, 0)] (by kernel_rfl) (by kernel_rfl), H⟩
def cr17_Encode.l0 : Nat → List Int → ByteArray → Int → Option (ByteArray × Bool)
 | 0, _, _, _ => none
 | k + 1, x0, x4, x5 => if x5 < (x0.length : Int) then (if 0 ≤ x5 then ((cr17_digits.f k (rd x0 x5)).bind fun t583 => (if x4.size + t583.size ≤ 9223372036854775807 then (cr17_Encode.l0 k x0 (x4 ++ t583) (wrap64 (x5 + 1))) else (none))) else (none)) else (some (x4, true))
def cr17_Encode.f (k : Nat) (l0 : List Int) : Option (ByteArray × Bool) := (cr17_Right.f k l0).bind fun t574 => (if t574 = true then (if 0 < (l0.length : Int) then (if 1 < (l0.length : Int) then ((cr17_digits.f k (wrap64 ((wrap64 (40 * (rd l0 0))) + (rd l0 1)))).bind fun t579 => (cr17_Encode.l0 k l0 t579 2)) else (none)) else (none)) else (some ((⟨#[]⟩ : ByteArray), false)))
theorem cr17_Encode.con {k : Nat} {l0 : List Int} {r : (ByteArray × Bool)} (H : cr17_Encode.f k l0 = some r) : Con Tryd.prog 61 [.row none 1 (List.map I l0)] (.tup [S r.1, B r.2]) := by
  refine con_of_good Tryd.func61 rfl (by kernel_rfl) (by kernel_rfl) fun C hN hL => ?_
  unfold cr17_Encode.f at H
  refine Good.seq ?_
  refine Good.reg hN [] .nil [] (by kernel_rfl) ?_
  refine Good.seq ?_
  refine Good.seq ?_
  obtain ⟨t574, h575, H⟩ := bindS H
  refine Good.reg hN [B t574] (.cons (cr17_Right.con h575).c .nil) [] (by kernel_rfl) ?_
  rcases (ifC H).symm with ⟨c576, H⟩ | ⟨c576, H⟩
  · refine Good.condT (notT (Bool.eq_false_iff.2 c576)) (by kernel_rfl) ?_
    refine Good.seq ?_
    refine Good.reg hN [] .nil [] (by kernel_rfl) ?_
    obtain rfl := Option.some.inj H
    exact Good.ret (fin.doneR (by kernel_rfl))
  refine Good.condF (notF c576) (by kernel_rfl) ?_
  refine Good.skip ?_
  refine Good.seq ?_
  obtain ⟨c577, H⟩ := ifS H
  obtain ⟨c578, H⟩ := ifS H
  obtain ⟨t579, h580, H⟩ := bindS H
  refine Good.regDF hm hN (.q 0 [] (.q 1 [] (.q 2 [] (.q 3 [] (.q 4 [] (.q 5 [] (.q 6 [] (.q 7 [] (.e 8 (.q 9 [] .z)))))))))) [(0, none)] (by kernel_rfl) .nil [I (rd l0 0), I (rd l0 1), S t579] [I (rd l0 0), I (rd l0 1)] (.cons (show (0 : Int) ≤ 0 by decide) (.cons (atM I (0 : Int) (show (0 : Int) ≤ 0 by decide) c577) (.cons (show (0 : Int) ≤ 1 by decide) (.cons (atM I (0 : Int) (show (0 : Int) ≤ 1 by decide) c578) (.cons (cr17_digits.con h580).c .nil))))) (.cons (show (0 : Int) ≤ 0 by decide) (.cons (atM I (0 : Int) (show (0 : Int) ≤ 0 by decide) c577) (.cons (show (0 : Int) ≤ 1 by decide) (.cons (atM I (0 : Int) (show (0 : Int) ≤ 1 by decide) c578) .nil)))) [] [] (by kernel_rfl) (by kernel_rfl) ?_
  refine Good.seq ?_
  refine Good.seq ?_
  refine Good.reg hN [] .nil [] (by kernel_rfl) ?_
  refine Good.block ?_
  refine Good.loopN (fun k' st => ∃ (x0 : List Int) (x4 : ByteArray) (x5 : Int), k' ≤ k ∧ Wk C st ⟨[(0, .d (.v (.row none 1 (List.map I x0)))), (4, .d (.v (S x4))), (5, .d (.v (I x5)))], []⟩ ∧ cr17_Encode.l0 k' x0 x4 x5 = some r) k ⟨l0, t579, 2, Nat.le_refl _, Wk.of [(0, 0), (4, 0), (5, 0)] (by kernel_rfl) (by kernel_rfl), H⟩ fun k => ⟨fun st h => (by obtain ⟨_, _, _, _, _, H⟩ := h; cases H), ?_⟩
  clear H
  rintro st ⟨x0, x4, x5, hk, W, H⟩
  refine W.good ?_
  rw [cr17_Encode.l0] at H
  refine Good.seq ?_
  refine Good.seq ?_
  refine Good.reg hN [I (x0.length : Int)] (.cons (lenM I x0) .nil) [] (by kernel_rfl) ?_
  rcases (ifC H).symm with ⟨c581, H⟩ | ⟨c581, H⟩
  · refine Good.condF (decide_eq_false c581) (by kernel_rfl) ?_
    refine Good.exit ?_
    refine Good.seq ?_
    refine Good.reg hN [] .nil [] (by kernel_rfl) ?_
    obtain rfl := Option.some.inj H
    exact Good.ret (fin.doneR (by kernel_rfl))
  refine Good.condT (decide_eq_true c581) (by kernel_rfl) ?_
  refine Good.skip ?_
  refine Good.seq ?_
  refine Good.block ?_
  obtain ⟨c582, H⟩ := ifS H
  obtain ⟨t583, h584, H⟩ := bindS H
  obtain ⟨c585, H⟩ := ifS H
  refine Good.reg hN [I (rd x0 x5), S t583] (.cons c582 (.cons (atM I (0 : Int) c582 c581) (.cons (cr17_digits.con h584).c (.cons c585 .nil)))) [] (by kernel_rfl) ?_
  refine Good.reg hN [] .nil [] (by kernel_rfl) ?_
  exact ⟨k, by omega, x0, x4 ++ t583, wrap64 (x5 + 1), by omega, Wk.of [(0, 0), (4, 0), (5, 0)] (by kernel_rfl) (by kernel_rfl), H⟩
mutual
def cr17_Decode.l0 : Nat → ByteArray → List Int → Int → Int → Option (List Int × Bool)
 | 0, _, _, _, _ => none
 | k + 1, x0, x4, x5, x6 => if x6 < (x0.size : Int) then (cr17_Decode.j1 k x0 x4 x5 x6 (decide ((x4.length : Int) < 21))) else (cr17_Decode.j1 k x0 x4 x5 x6 false)
def cr17_Decode.j1 : Nat → ByteArray → List Int → Int → Int → Bool → Option (List Int × Bool)
 | 0, _, _, _, _, _ => none
 | k + 1, x0, x4, x5, x6, x18 => if x18 = true then (if 0 ≤ x6 then (if x6 < (x0.size : Int) then (if (wrap64 ((wrap64 (128 * x5)) + (Int.tmod (wrap64 (bt x0 x6)) 128))) > 4294967296 then (some (([] : List Int), false)) else (if (bt x0 x6) > 127 then (cr17_Decode.l0 k x0 x4 (wrap64 ((wrap64 (128 * x5)) + (Int.tmod (wrap64 (bt x0 x6)) 128))) (wrap64 (x6 + 1))) else (if (x4.length : Int) = 0 then (if (wrap64 (Int.tdiv (wrap64 ((wrap64 (128 * x5)) + (Int.tmod (wrap64 (bt x0 x6)) 128))) 40)) > 2 then (if x4.length < 17592186044416 then ((some (x4 ++ [2] : List Int)).bind fun y614 => (if y614.length < 17592186044416 then (cr17_Decode.l0 k x0 (y614 ++ [wrap64 ((wrap64 ((wrap64 (128 * x5)) + (Int.tmod (wrap64 (bt x0 x6)) 128))) - 80)]) 0 (wrap64 (x6 + 1))) else (none))) else (none)) else (if x4.length < 17592186044416 then ((some (x4 ++ [wrap64 (Int.tdiv (wrap64 ((wrap64 (128 * x5)) + (Int.tmod (wrap64 (bt x0 x6)) 128))) 40)] : List Int)).bind fun y618 => (if y618.length < 17592186044416 then (cr17_Decode.l0 k x0 (y618 ++ [wrap64 ((wrap64 ((wrap64 (128 * x5)) + (Int.tmod (wrap64 (bt x0 x6)) 128))) - (wrap64 (40 * (wrap64 (Int.tdiv (wrap64 ((wrap64 (128 * x5)) + (Int.tmod (wrap64 (bt x0 x6)) 128))) 40)))))]) 0 (wrap64 (x6 + 1))) else (none))) else (none))) else (if x4.length < 17592186044416 then (cr17_Decode.l0 k x0 (x4 ++ [wrap64 ((wrap64 (128 * x5)) + (Int.tmod (wrap64 (bt x0 x6)) 128))]) 0 (wrap64 (x6 + 1))) else (none))))) else (none)) else (none)) else ((cr17_Encode.f k x4).bind fun t603 => (if t603.2 = true then (if t603.1.toList = x0.toList then (some (x4, true)) else (some (([] : List Int), false))) else (some (([] : List Int), false))))
end
def cr17_Decode.f (k : Nat) (a0 : ByteArray) : Option (List Int × Bool) := cr17_Decode.l0 k a0 ([] : List Int) 0 0
theorem cr17_Decode.con {k : Nat} {a0 : ByteArray} {r : (List Int × Bool)} (H : cr17_Decode.f k a0 = some r) : Con Tryd.prog 51 [S a0] (.tup [.row none 1 (List.map I r.1), B r.2]) := by
  refine con_of_good Tryd.func51 rfl (by kernel_rfl) (by kernel_rfl) fun C hN hL => ?_
  unfold cr17_Decode.f at H
  refine Good.seq ?_
  refine Good.reg hN [] .nil [] (by kernel_rfl) ?_
  refine Good.seq ?_
  refine Good.reg hN [] .nil [] (by kernel_rfl) ?_
  refine Good.seq ?_
  refine Good.reg hN [] .nil [] (by kernel_rfl) ?_
  refine Good.seq ?_
  refine Good.seq ?_
  refine Good.reg hN [] .nil [] (by kernel_rfl) ?_
  refine Good.block ?_
  refine Good.loopN (fun k' st => ∃ (x0 : ByteArray) (x4 : List Int) (x5 : Int) (x6 : Int), k' ≤ k ∧ Wk C st ⟨[(0, .d (.v (S x0))), (4, .d (.v (.row (some 3) 1 (List.map I x4)))), (5, .d (.v (I x5))), (6, .d (.v (I x6)))], []⟩ ∧ cr17_Decode.l0 k' x0 x4 x5 x6 = some r) k ⟨a0, ([] : List Int), 0, 0, Nat.le_refl _, Wk.of [(0, 0), (4, 1), (5, 0), (6, 0)] (by kernel_rfl) (by kernel_rfl), H⟩ fun k => ⟨fun st h => (by obtain ⟨_, _, _, _, _, _, H⟩ := h; cases H), ?_⟩
  clear H
  rintro st ⟨x0, x4, x5, x6, hk, W, H⟩
  refine W.good ?_
  rw [cr17_Decode.l0] at H
  refine Good.seq ?_
  refine Good.seq ?_
  refine Good.cut (fun st => ∃ (x0 : ByteArray) (x4 : List Int) (x5 : Int) (x6 : Int) (x18 : Bool), Wk C st ⟨[(0, .d (.v (S x0))), (4, .d (.v (.row (some 3) 1 (List.map I x4)))), (5, .d (.v (I x5))), (6, .d (.v (I x6))), (18, .d (.v (B x18)))], []⟩ ∧ cr17_Decode.j1 k x0 x4 x5 x6 x18 = some r) ?_ ?_
  · rcases ifC H with ⟨c601, H⟩ | ⟨c601, H⟩
    · refine Good.reg hN [B true, I (x4.length : Int)] (.cons (decide_eq_true c601) (.cons (lenM I x4) .nil)) [] (by kernel_rfl) ?_
      exact ⟨x0, x4, x5, x6, decide ((x4.length : Int) < 21), Wk.of [(0, 0), (4, 0), (5, 0), (6, 0), (18, 0)] (by kernel_rfl) (by kernel_rfl), H⟩
    refine Good.reg hN [B false] (.cons (decide_eq_false c601) .nil) [] (by kernel_rfl) ?_
    exact ⟨x0, x4, x5, x6, false, Wk.of [(0, 0), (4, 0), (5, 0), (6, 0), (18, 0)] (by kernel_rfl) (by kernel_rfl), H⟩
  clear H
  rintro st ⟨x0, x4, x5, x6, x18, W, H⟩
  rcases k with _ | k
  · cases H
  refine W.good ?_
  rw [cr17_Decode.j1] at H
  rcases (ifC H).symm with ⟨c602, H⟩ | ⟨c602, H⟩
  · refine Good.condF (Bool.eq_false_iff.2 c602) (by kernel_rfl) ?_
    refine Good.exit ?_
    refine Good.seq ?_
    obtain ⟨t603, h604, H⟩ := bindS H
    refine Good.reg hN [.row none 1 (List.map I x4), .tup [S t603.1, B t603.2]] (.cons (shrM (some 3) 1 I I x4 (fun _ => rfl)) (.cons (cr17_Encode.con h604).c .nil)) [] (by kernel_rfl) ?_
    refine Good.seq ?_
    refine Good.seq ?_
    rcases (ifC H).symm with ⟨c605, H⟩ | ⟨c605, H⟩
    · refine Good.reg hN [B true] (.cons (notT (Bool.eq_false_iff.2 c605)) .nil) [] (by kernel_rfl) ?_
      refine Good.cond true (by kernel_rfl) ?_
      refine Good.seq ?_
      refine Good.reg hN [] .nil [] (by kernel_rfl) ?_
      obtain rfl := Option.some.inj H
      exact Good.ret (fin_fit (u := .tup [.nil 3 1, B false]) (.tup (.cons (.nilS 3 1 _) (.cons (.refl _) .nil))) (by kernel_rfl))
    refine Good.reg hN [B false] (.cons (notF c605) .nil) [] (by kernel_rfl) ?_
    rcases (ifC H).symm with ⟨c606, H⟩ | ⟨c606, H⟩
    · refine Good.condT (bne_iff_ne.2 c606) (by kernel_rfl) ?_
      refine Good.seq ?_
      refine Good.reg hN [] .nil [] (by kernel_rfl) ?_
      obtain rfl := Option.some.inj H
      exact Good.ret (fin_fit (u := .tup [.nil 3 1, B false]) (.tup (.cons (.nilS 3 1 _) (.cons (.refl _) .nil))) (by kernel_rfl))
    refine Good.condF (bneF c606) (by kernel_rfl) ?_
    refine Good.skip ?_
    refine Good.seq ?_
    refine Good.reg hN [] .nil [] (by kernel_rfl) ?_
    obtain rfl := Option.some.inj H
    exact Good.ret (fin.doneR (by kernel_rfl))
  refine Good.condT c602 (by kernel_rfl) ?_
  refine Good.skip ?_
  refine Good.seq ?_
  refine Good.block ?_
  refine Good.seq ?_
  obtain ⟨c607, H⟩ := ifS H
  obtain ⟨c608, H⟩ := ifS H
  refine Good.reg hN [] (.cons c607 (.cons c608 (.cons (show (128 : Int) ≠ 0 by decide) .nil))) [] (by kernel_rfl) ?_
  refine Good.seq ?_
  refine Good.seq ?_
  refine Good.reg hN [] .nil [] (by kernel_rfl) ?_
  rcases ifC H with ⟨c609, H⟩ | ⟨c609, H⟩
  · refine Good.condT (decide_eq_true c609) (by kernel_rfl) ?_
    refine Good.seq ?_
    refine Good.reg hN [] .nil [] (by kernel_rfl) ?_
    obtain rfl := Option.some.inj H
    exact Good.ret (fin_fit (u := .tup [.nil 3 1, B false]) (.tup (.cons (.nilS 3 1 _) (.cons (.refl _) .nil))) (by kernel_rfl))
  refine Good.condF (decide_eq_false c609) (by kernel_rfl) ?_
  refine Good.skip ?_
  refine Good.seq ?_
  refine Good.seq ?_
  refine Good.reg hN [] (.cons c607 (.cons c608 .nil)) [] (by kernel_rfl) ?_
  rcases ifC H with ⟨c610, H⟩ | ⟨c610, H⟩
  · refine Good.condT (decide_eq_true c610) (by kernel_rfl) ?_
    refine Good.exit ?_
    refine Good.reg hN [] .nil [] (by kernel_rfl) ?_
    exact ⟨k, by omega, x0, x4, wrap64 ((wrap64 (128 * x5)) + (Int.tmod (wrap64 (bt x0 x6)) 128)), wrap64 (x6 + 1), by omega, Wk.of [(0, 0), (4, 0), (5, 0), (6, 0)] (by kernel_rfl) (by kernel_rfl), H⟩
  refine Good.condF (decide_eq_false c610) (by kernel_rfl) ?_
  refine Good.skip ?_
  refine Good.seq ?_
  refine Good.seq ?_
  refine Good.reg hN [I (x4.length : Int)] (.cons (lenM I x4) .nil) [] (by kernel_rfl) ?_
  rcases (ifC H).symm with ⟨c611, H⟩ | ⟨c611, H⟩
  · refine Good.condF (beq_eq_false_iff_ne.2 c611) (by kernel_rfl) ?_
    refine Good.skip ?_
    refine Good.seq ?_
    obtain ⟨c621, H⟩ := ifS H
    refine Good.reg hN [.kb true, .row (some 3) 1 (List.map I (x4 ++ [wrap64 ((wrap64 (128 * x5)) + (Int.tmod (wrap64 (bt x0 x6)) 128))]))] (.cons (fitM I x4 [wrap64 ((wrap64 (128 * x5)) + (Int.tmod (wrap64 (bt x0 x6)) 128))] (.refl _)) (.cons (limM1 I c621) .nil)) [] (by kernel_rfl) ?_
    refine Good.reg hN [] .nil [] (by kernel_rfl) ?_
    refine Good.reg hN [] .nil [] (by kernel_rfl) ?_
    exact ⟨k, by omega, x0, (x4 ++ [wrap64 ((wrap64 (128 * x5)) + (Int.tmod (wrap64 (bt x0 x6)) 128))]), 0, wrap64 (x6 + 1), by omega, Wk.of [(0, 0), (4, 0), (5, 0), (6, 0)] (by kernel_rfl) (by kernel_rfl), H⟩
  refine Good.condT (beq_iff_eq.2 c611) (by kernel_rfl) ?_
  refine Good.seq ?_
  refine Good.reg hN [] (.cons (show (40 : Int) ≠ 0 by decide) .nil) [] (by kernel_rfl) ?_
  refine Good.seq ?_
  refine Good.seq ?_
  refine Good.reg hN [] .nil [] (by kernel_rfl) ?_
  rcases ifC H with ⟨c612, H⟩ | ⟨c612, H⟩
  · refine Good.condT (decide_eq_true c612) (by kernel_rfl) ?_
    refine Good.reg hN [] .nil [] (by kernel_rfl) ?_
    refine Good.seq ?_
    obtain ⟨c613, H⟩ := ifS H
    replace H := bindI H
    refine Good.reg hN [.kb true, .row (some 3) 1 (List.map I (x4 ++ [2]))] (.cons (fitM I x4 [2] (.refl _)) (.cons (limM1 I c613) .nil)) [] (by kernel_rfl) ?_
    refine Good.reg hN [] .nil [] (by kernel_rfl) ?_
    refine Good.seq ?_
    obtain ⟨c615, H⟩ := ifS H
    refine Good.reg hN [.kb true, .row (some 3) 1 (List.map I ((x4 ++ [2]) ++ [wrap64 ((wrap64 ((wrap64 (128 * x5)) + (Int.tmod (wrap64 (bt x0 x6)) 128))) - 80)]))] (.cons (fitM I (x4 ++ [2]) [wrap64 ((wrap64 ((wrap64 (128 * x5)) + (Int.tmod (wrap64 (bt x0 x6)) 128))) - 80)] (.refl _)) (.cons (limM1 I c615) .nil)) [] (by kernel_rfl) ?_
    refine Good.reg hN [] .nil [] (by kernel_rfl) ?_
    refine Good.reg hN [] .nil [] (by kernel_rfl) ?_
    exact ⟨k, by omega, x0, ((x4 ++ [2]) ++ [wrap64 ((wrap64 ((wrap64 (128 * x5)) + (Int.tmod (wrap64 (bt x0 x6)) 128))) - 80)]), 0, wrap64 (x6 + 1), by omega, Wk.of [(0, 0), (4, 0), (5, 0), (6, 0)] (by kernel_rfl) (by kernel_rfl), H⟩
  refine Good.condF (decide_eq_false c612) (by kernel_rfl) ?_
  refine Good.skip ?_
  refine Good.seq ?_
  obtain ⟨c617, H⟩ := ifS H
  replace H := bindI H
  refine Good.reg hN [.kb true, .row (some 3) 1 (List.map I (x4 ++ [wrap64 (Int.tdiv (wrap64 ((wrap64 (128 * x5)) + (Int.tmod (wrap64 (bt x0 x6)) 128))) 40)]))] (.cons (fitM I x4 [wrap64 (Int.tdiv (wrap64 ((wrap64 (128 * x5)) + (Int.tmod (wrap64 (bt x0 x6)) 128))) 40)] (.refl _)) (.cons (limM1 I c617) .nil)) [] (by kernel_rfl) ?_
  refine Good.reg hN [] .nil [] (by kernel_rfl) ?_
  refine Good.seq ?_
  obtain ⟨c619, H⟩ := ifS H
  refine Good.reg hN [.kb true, .row (some 3) 1 (List.map I ((x4 ++ [wrap64 (Int.tdiv (wrap64 ((wrap64 (128 * x5)) + (Int.tmod (wrap64 (bt x0 x6)) 128))) 40)]) ++ [wrap64 ((wrap64 ((wrap64 (128 * x5)) + (Int.tmod (wrap64 (bt x0 x6)) 128))) - (wrap64 (40 * (wrap64 (Int.tdiv (wrap64 ((wrap64 (128 * x5)) + (Int.tmod (wrap64 (bt x0 x6)) 128))) 40)))))]))] (.cons (fitM I (x4 ++ [wrap64 (Int.tdiv (wrap64 ((wrap64 (128 * x5)) + (Int.tmod (wrap64 (bt x0 x6)) 128))) 40)]) [wrap64 ((wrap64 ((wrap64 (128 * x5)) + (Int.tmod (wrap64 (bt x0 x6)) 128))) - (wrap64 (40 * (wrap64 (Int.tdiv (wrap64 ((wrap64 (128 * x5)) + (Int.tmod (wrap64 (bt x0 x6)) 128))) 40)))))] (.refl _)) (.cons (limM1 I c619) .nil)) [] (by kernel_rfl) ?_
  refine Good.reg hN [] .nil [] (by kernel_rfl) ?_
  refine Good.reg hN [] .nil [] (by kernel_rfl) ?_
  exact ⟨k, by omega, x0, ((x4 ++ [wrap64 (Int.tdiv (wrap64 ((wrap64 (128 * x5)) + (Int.tmod (wrap64 (bt x0 x6)) 128))) 40)]) ++ [wrap64 ((wrap64 ((wrap64 (128 * x5)) + (Int.tmod (wrap64 (bt x0 x6)) 128))) - (wrap64 (40 * (wrap64 (Int.tdiv (wrap64 ((wrap64 (128 * x5)) + (Int.tmod (wrap64 (bt x0 x6)) 128))) 40)))))]), 0, wrap64 (x6 + 1), by omega, Wk.of [(0, 0), (4, 0), (5, 0), (6, 0)] (by kernel_rfl) (by kernel_rfl), H⟩
def cr18_point.l0 : Nat → ByteArray → Int → Int → Int → Int → Option (Int)
 | 0, _, _, _, _, _ => none
 | k + 1, x0, x4, x5, x6, x7 => if x7 ≤ x5 then (if 0 ≤ x7 then (if x7 < (x0.size : Int) then (if (bt x0 x7) < 128 then (some 0) else (if (bt x0 x7) > 191 then (some 0) else (cr18_point.l0 k x0 (wrap64 ((wrap64 ((wrap64 (64 * x4)) + (wrap64 (bt x0 x7)))) - 128)) x5 x6 (wrap64 (x7 + 1))))) else (none)) else (none)) else (if x4 < x6 then (some 0) else (if x4 > 1114111 then (some 0) else (if x4 > 55295 then (if x4 < 57344 then (some 0) else (some (wrap64 (x5 + 1)))) else (some (wrap64 (x5 + 1))))))
def cr18_point.j6 : Nat → ByteArray → Int → Int → Int → Bool → Option (Int)
 | 0, _, _, _, _, _ => none
 | k + 1, x0, x4, x5, x6, x44 => if x44 = true then (some 0) else (cr18_point.l0 k x0 x4 x5 x6 1)
def cr18_point.j5 : Nat → ByteArray → Int → Int → Int → Option (Int)
 | 0, _, _, _, _ => none
 | k + 1, x0, x4, x5, x6 => if x5 = 0 then (cr18_point.j6 k x0 x4 x5 x6 true) else (cr18_point.j6 k x0 x4 x5 x6 (decide ((x0.size : Int) ≤ x5)))
def cr18_point.j4 : Nat → ByteArray → Int → Int → Int → Int → Bool → Option (Int)
 | 0, _, _, _, _, _, _ => none
 | k + 1, x0, x3, x4, x5, x6, x34 => if x34 = true then (cr18_point.j5 k x0 (wrap64 (x3 - 240)) 3 65536) else (cr18_point.j5 k x0 x4 x5 x6)
def cr18_point.j3 : Nat → ByteArray → Int → Int → Int → Int → Option (Int)
 | 0, _, _, _, _, _ => none
 | k + 1, x0, x3, x4, x5, x6 => if x3 ≥ 240 then (cr18_point.j4 k x0 x3 x4 x5 x6 (decide (x3 < 248))) else (cr18_point.j4 k x0 x3 x4 x5 x6 false)
def cr18_point.j2 : Nat → ByteArray → Int → Int → Int → Int → Bool → Option (Int)
 | 0, _, _, _, _, _, _ => none
 | k + 1, x0, x3, x4, x5, x6, x26 => if x26 = true then (cr18_point.j3 k x0 x3 (wrap64 (x3 - 224)) 2 2048) else (cr18_point.j3 k x0 x3 x4 x5 x6)
def cr18_point.j1 : Nat → ByteArray → Int → Int → Int → Int → Option (Int)
 | 0, _, _, _, _, _ => none
 | k + 1, x0, x3, x4, x5, x6 => if x3 ≥ 224 then (cr18_point.j2 k x0 x3 x4 x5 x6 (decide (x3 < 240))) else (cr18_point.j2 k x0 x3 x4 x5 x6 false)
def cr18_point.j0 : Nat → ByteArray → Int → Int → Int → Int → Bool → Option (Int)
 | 0, _, _, _, _, _, _ => none
 | k + 1, x0, x3, x4, x5, x6, x18 => if x18 = true then (cr18_point.j1 k x0 x3 (wrap64 (x3 - 192)) 1 128) else (cr18_point.j1 k x0 x3 x4 x5 x6)
def cr18_point.f (k : Nat) (a0 : ByteArray) : Option (Int) := if 0 < (a0.size : Int) then (if (wrap64 (bt a0 0)) < 128 then (some 1) else (if (wrap64 (bt a0 0)) ≥ 192 then (cr18_point.j0 k a0 (wrap64 (bt a0 0)) 0 0 0 (decide ((wrap64 (bt a0 0)) < 224))) else (cr18_point.j0 k a0 (wrap64 (bt a0 0)) 0 0 0 false))) else (none)
theorem cr18_point.con {k : Nat} {a0 : ByteArray} {r : (Int)} (H : cr18_point.f k a0 = some r) : Con Tryd.prog 62 [S a0] (I r) := by
  refine con_of_good Tryd.func62 rfl (by kernel_rfl) (by kernel_rfl) fun C hN hL => ?_
  unfold cr18_point.f at H
  refine Good.seq ?_
  refine Good.reg hN [] .nil [] (by kernel_rfl) ?_
  refine Good.seq ?_
  obtain ⟨c623, H⟩ := ifS H
  refine Good.reg hN [] (.cons (show (0 : Int) ≤ 0 by decide) (.cons c623 .nil)) [] (by kernel_rfl) ?_
  refine Good.seq ?_
  refine Good.reg hN [] .nil [] (by kernel_rfl) ?_
  refine Good.seq ?_
  refine Good.seq ?_
  refine Good.reg hN [] .nil [] (by kernel_rfl) ?_
  rcases ifC H with ⟨c624, H⟩ | ⟨c624, H⟩
  · refine Good.condT (decide_eq_true c624) (by kernel_rfl) ?_
    refine Good.seq ?_
    refine Good.reg hN [] .nil [] (by kernel_rfl) ?_
    obtain rfl := Option.some.inj H
    exact Good.ret (fin.doneR (by kernel_rfl))
  refine Good.condF (decide_eq_false c624) (by kernel_rfl) ?_
  refine Good.skip ?_
  refine Good.seq ?_
  refine Good.seq ?_
  refine Good.cut (fun st => ∃ (x0 : ByteArray) (x3 : Int) (x4 : Int) (x5 : Int) (x6 : Int) (x18 : Bool), Wk C st ⟨[(0, .d (.v (S x0))), (3, .d (.v (I x3))), (4, .d (.v (I x4))), (5, .d (.v (I x5))), (6, .d (.v (I x6))), (18, .d (.v (B x18)))], []⟩ ∧ cr18_point.j0 k x0 x3 x4 x5 x6 x18 = some r) ?_ ?_
  · rcases ifC H with ⟨c625, H⟩ | ⟨c625, H⟩
    · refine Good.reg hN [B true] (.cons (decide_eq_true c625) .nil) [] (by kernel_rfl) ?_
      exact ⟨a0, wrap64 (bt a0 0), 0, 0, 0, decide ((wrap64 (bt a0 0)) < 224), Wk.of [(0, 0), (3, 0), (4, 0), (5, 0), (6, 0), (18, 0)] (by kernel_rfl) (by kernel_rfl), H⟩
    refine Good.reg hN [B false] (.cons (decide_eq_false c625) .nil) [] (by kernel_rfl) ?_
    exact ⟨a0, wrap64 (bt a0 0), 0, 0, 0, false, Wk.of [(0, 0), (3, 0), (4, 0), (5, 0), (6, 0), (18, 0)] (by kernel_rfl) (by kernel_rfl), H⟩
  clear H
  rintro st ⟨x0, x3, x4, x5, x6, x18, W, H⟩
  rcases k with _ | k
  · cases H
  refine W.good ?_
  rw [cr18_point.j0] at H
  refine Good.cut (fun st => ∃ (x0 : ByteArray) (x3 : Int) (x4 : Int) (x5 : Int) (x6 : Int), Wk C st ⟨[(0, .d (.v (S x0))), (3, .d (.v (I x3))), (4, .d (.v (I x4))), (5, .d (.v (I x5))), (6, .d (.v (I x6)))], []⟩ ∧ cr18_point.j1 k x0 x3 x4 x5 x6 = some r) ?_ ?_
  · rcases ifC H with ⟨c626, H⟩ | ⟨c626, H⟩
    · refine Good.condT c626 (by kernel_rfl) ?_
      refine Good.reg hN [] .nil [] (by kernel_rfl) ?_
      exact ⟨x0, x3, wrap64 (x3 - 192), 1, 128, Wk.of [(0, 0), (3, 0), (4, 0), (5, 0), (6, 0)] (by kernel_rfl) (by kernel_rfl), H⟩
    refine Good.condF (Bool.eq_false_iff.2 c626) (by kernel_rfl) ?_
    refine Good.skip ?_
    exact ⟨x0, x3, x4, x5, x6, Wk.of [(0, 0), (3, 0), (4, 0), (5, 0), (6, 0)] (by kernel_rfl) (by kernel_rfl), H⟩
  clear H
  rintro st ⟨x0, x3, x4, x5, x6, W, H⟩
  rcases k with _ | k
  · cases H
  refine W.good ?_
  rw [cr18_point.j1] at H
  refine Good.seq ?_
  refine Good.seq ?_
  refine Good.cut (fun st => ∃ (x0 : ByteArray) (x3 : Int) (x4 : Int) (x5 : Int) (x6 : Int) (x26 : Bool), Wk C st ⟨[(0, .d (.v (S x0))), (3, .d (.v (I x3))), (4, .d (.v (I x4))), (5, .d (.v (I x5))), (6, .d (.v (I x6))), (26, .d (.v (B x26)))], []⟩ ∧ cr18_point.j2 k x0 x3 x4 x5 x6 x26 = some r) ?_ ?_
  · rcases ifC H with ⟨c627, H⟩ | ⟨c627, H⟩
    · refine Good.reg hN [B true] (.cons (decide_eq_true c627) .nil) [] (by kernel_rfl) ?_
      exact ⟨x0, x3, x4, x5, x6, decide (x3 < 240), Wk.of [(0, 0), (3, 0), (4, 0), (5, 0), (6, 0), (26, 0)] (by kernel_rfl) (by kernel_rfl), H⟩
    refine Good.reg hN [B false] (.cons (decide_eq_false c627) .nil) [] (by kernel_rfl) ?_
    exact ⟨x0, x3, x4, x5, x6, false, Wk.of [(0, 0), (3, 0), (4, 0), (5, 0), (6, 0), (26, 0)] (by kernel_rfl) (by kernel_rfl), H⟩
  clear H
  rintro st ⟨x0, x3, x4, x5, x6, x26, W, H⟩
  rcases k with _ | k
  · cases H
  refine W.good ?_
  rw [cr18_point.j2] at H
  refine Good.cut (fun st => ∃ (x0 : ByteArray) (x3 : Int) (x4 : Int) (x5 : Int) (x6 : Int), Wk C st ⟨[(0, .d (.v (S x0))), (3, .d (.v (I x3))), (4, .d (.v (I x4))), (5, .d (.v (I x5))), (6, .d (.v (I x6)))], []⟩ ∧ cr18_point.j3 k x0 x3 x4 x5 x6 = some r) ?_ ?_
  · rcases ifC H with ⟨c628, H⟩ | ⟨c628, H⟩
    · refine Good.condT c628 (by kernel_rfl) ?_
      refine Good.reg hN [] .nil [] (by kernel_rfl) ?_
      exact ⟨x0, x3, wrap64 (x3 - 224), 2, 2048, Wk.of [(0, 0), (3, 0), (4, 0), (5, 0), (6, 0)] (by kernel_rfl) (by kernel_rfl), H⟩
    refine Good.condF (Bool.eq_false_iff.2 c628) (by kernel_rfl) ?_
    refine Good.skip ?_
    exact ⟨x0, x3, x4, x5, x6, Wk.of [(0, 0), (3, 0), (4, 0), (5, 0), (6, 0)] (by kernel_rfl) (by kernel_rfl), H⟩
  clear H
  rintro st ⟨x0, x3, x4, x5, x6, W, H⟩
  rcases k with _ | k
  · cases H
  refine W.good ?_
  rw [cr18_point.j3] at H
  refine Good.seq ?_
  refine Good.seq ?_
  refine Good.cut (fun st => ∃ (x0 : ByteArray) (x3 : Int) (x4 : Int) (x5 : Int) (x6 : Int) (x34 : Bool), Wk C st ⟨[(0, .d (.v (S x0))), (3, .d (.v (I x3))), (4, .d (.v (I x4))), (5, .d (.v (I x5))), (6, .d (.v (I x6))), (34, .d (.v (B x34)))], []⟩ ∧ cr18_point.j4 k x0 x3 x4 x5 x6 x34 = some r) ?_ ?_
  · rcases ifC H with ⟨c629, H⟩ | ⟨c629, H⟩
    · refine Good.reg hN [B true] (.cons (decide_eq_true c629) .nil) [] (by kernel_rfl) ?_
      exact ⟨x0, x3, x4, x5, x6, decide (x3 < 248), Wk.of [(0, 0), (3, 0), (4, 0), (5, 0), (6, 0), (34, 0)] (by kernel_rfl) (by kernel_rfl), H⟩
    refine Good.reg hN [B false] (.cons (decide_eq_false c629) .nil) [] (by kernel_rfl) ?_
    exact ⟨x0, x3, x4, x5, x6, false, Wk.of [(0, 0), (3, 0), (4, 0), (5, 0), (6, 0), (34, 0)] (by kernel_rfl) (by kernel_rfl), H⟩
  clear H
  rintro st ⟨x0, x3, x4, x5, x6, x34, W, H⟩
  rcases k with _ | k
  · cases H
  refine W.good ?_
  rw [cr18_point.j4] at H
  refine Good.cut (fun st => ∃ (x0 : ByteArray) (x4 : Int) (x5 : Int) (x6 : Int), Wk C st ⟨[(0, .d (.v (S x0))), (4, .d (.v (I x4))), (5, .d (.v (I x5))), (6, .d (.v (I x6)))], []⟩ ∧ cr18_point.j5 k x0 x4 x5 x6 = some r) ?_ ?_
  · rcases ifC H with ⟨c630, H⟩ | ⟨c630, H⟩
    · refine Good.condT c630 (by kernel_rfl) ?_
      refine Good.reg hN [] .nil [] (by kernel_rfl) ?_
      exact ⟨x0, wrap64 (x3 - 240), 3, 65536, Wk.of [(0, 0), (4, 0), (5, 0), (6, 0)] (by kernel_rfl) (by kernel_rfl), H⟩
    refine Good.condF (Bool.eq_false_iff.2 c630) (by kernel_rfl) ?_
    refine Good.skip ?_
    exact ⟨x0, x4, x5, x6, Wk.of [(0, 0), (4, 0), (5, 0), (6, 0)] (by kernel_rfl) (by kernel_rfl), H⟩
  clear H
  rintro st ⟨x0, x4, x5, x6, W, H⟩
  rcases k with _ | k
  · cases H
  refine W.good ?_
  rw [cr18_point.j5] at H
  refine Good.seq ?_
  refine Good.seq ?_
  refine Good.cut (fun st => ∃ (x0 : ByteArray) (x4 : Int) (x5 : Int) (x6 : Int) (x44 : Bool), Wk C st ⟨[(0, .d (.v (S x0))), (4, .d (.v (I x4))), (5, .d (.v (I x5))), (6, .d (.v (I x6))), (44, .d (.v (B x44)))], []⟩ ∧ cr18_point.j6 k x0 x4 x5 x6 x44 = some r) ?_ ?_
  · rcases ifC H with ⟨c631, H⟩ | ⟨c631, H⟩
    · refine Good.reg hN [B true] (.cons (beq_iff_eq.2 c631) .nil) [] (by kernel_rfl) ?_
      exact ⟨x0, x4, x5, x6, true, Wk.of [(0, 0), (4, 0), (5, 0), (6, 0), (44, 0)] (by kernel_rfl) (by kernel_rfl), H⟩
    refine Good.reg hN [B false] (.cons (beq_eq_false_iff_ne.2 c631) .nil) [] (by kernel_rfl) ?_
    exact ⟨x0, x4, x5, x6, decide ((x0.size : Int) ≤ x5), Wk.of [(0, 0), (4, 0), (5, 0), (6, 0), (44, 0)] (by kernel_rfl) (by kernel_rfl), H⟩
  clear H
  rintro st ⟨x0, x4, x5, x6, x44, W, H⟩
  rcases k with _ | k
  · cases H
  refine W.good ?_
  rw [cr18_point.j6] at H
  rcases ifC H with ⟨c632, H⟩ | ⟨c632, H⟩
  · refine Good.condT c632 (by kernel_rfl) ?_
    refine Good.seq ?_
    refine Good.reg hN [] .nil [] (by kernel_rfl) ?_
    obtain rfl := Option.some.inj H
    exact Good.ret (fin.doneR (by kernel_rfl))
  refine Good.condF (Bool.eq_false_iff.2 c632) (by kernel_rfl) ?_
  refine Good.skip ?_
  refine Good.seq ?_
  refine Good.seq ?_
  refine Good.reg hN [] .nil [] (by kernel_rfl) ?_
  refine Good.block ?_
  refine Good.loopN (fun k' st => ∃ (x0 : ByteArray) (x4 : Int) (x5 : Int) (x6 : Int) (x7 : Int), k' ≤ k ∧ Wk C st ⟨[(0, .d (.v (S x0))), (4, .d (.v (I x4))), (5, .d (.v (I x5))), (6, .d (.v (I x6))), (7, .d (.v (I x7)))], []⟩ ∧ cr18_point.l0 k' x0 x4 x5 x6 x7 = some r) k ⟨x0, x4, x5, x6, 1, Nat.le_refl _, Wk.of [(0, 0), (4, 0), (5, 0), (6, 0), (7, 0)] (by kernel_rfl) (by kernel_rfl), H⟩ fun k => ⟨fun st h => (by obtain ⟨_, _, _, _, _, _, _, H⟩ := h; cases H), ?_⟩
  clear H
  rintro st ⟨x0, x4, x5, x6, x7, hk, W, H⟩
  refine W.good ?_
  rw [cr18_point.l0] at H
  refine Good.seq ?_
  refine Good.seq ?_
  refine Good.reg hN [] .nil [] (by kernel_rfl) ?_
  rcases ifC H with ⟨c633, H⟩ | ⟨c633, H⟩
  · refine Good.condT (decide_eq_true c633) (by kernel_rfl) ?_
    refine Good.skip ?_
    refine Good.seq ?_
    refine Good.block ?_
    refine Good.seq ?_
    refine Good.seq ?_
    obtain ⟨c634, H⟩ := ifS H
    obtain ⟨c635, H⟩ := ifS H
    rcases ifC H with ⟨c636, H⟩ | ⟨c636, H⟩
    · refine Good.reg hN [B true] (.cons c634 (.cons c635 (.cons (decide_eq_true c636) .nil))) [] (by kernel_rfl) ?_
      refine Good.cond true (by kernel_rfl) ?_
      refine Good.seq ?_
      refine Good.reg hN [] .nil [] (by kernel_rfl) ?_
      obtain rfl := Option.some.inj H
      exact Good.ret (fin.doneR (by kernel_rfl))
    refine Good.reg hN [B false] (.cons c634 (.cons c635 (.cons (decide_eq_false c636) (.cons c634 (.cons c635 .nil))))) [] (by kernel_rfl) ?_
    rcases ifC H with ⟨c637, H⟩ | ⟨c637, H⟩
    · refine Good.condT (decide_eq_true c637) (by kernel_rfl) ?_
      refine Good.seq ?_
      refine Good.reg hN [] .nil [] (by kernel_rfl) ?_
      obtain rfl := Option.some.inj H
      exact Good.ret (fin.doneR (by kernel_rfl))
    refine Good.condF (decide_eq_false c637) (by kernel_rfl) ?_
    refine Good.skip ?_
    refine Good.reg hN [] (.cons c634 (.cons c635 .nil)) [] (by kernel_rfl) ?_
    refine Good.reg hN [] .nil [] (by kernel_rfl) ?_
    exact ⟨k, by omega, x0, wrap64 ((wrap64 ((wrap64 (64 * x4)) + (wrap64 (bt x0 x7)))) - 128), x5, x6, wrap64 (x7 + 1), by omega, Wk.of [(0, 0), (4, 0), (5, 0), (6, 0), (7, 0)] (by kernel_rfl) (by kernel_rfl), H⟩
  refine Good.condF (decide_eq_false c633) (by kernel_rfl) ?_
  refine Good.exit ?_
  refine Good.seq ?_
  refine Good.seq ?_
  rcases ifC H with ⟨c638, H⟩ | ⟨c638, H⟩
  · refine Good.reg hN [B true, B true] (.cons (decide_eq_true c638) (.cons (rfl : true = true) .nil)) [] (by kernel_rfl) ?_
    refine Good.cond true (by kernel_rfl) ?_
    refine Good.seq ?_
    refine Good.reg hN [] .nil [] (by kernel_rfl) ?_
    obtain rfl := Option.some.inj H
    exact Good.ret (fin.doneR (by kernel_rfl))
  rcases ifC H with ⟨c639, H⟩ | ⟨c639, H⟩
  · refine Good.reg hN [B false, B true] (.cons (decide_eq_false c638) (.cons (decide_eq_true c639) .nil)) [] (by kernel_rfl) ?_
    refine Good.cond true (by kernel_rfl) ?_
    refine Good.seq ?_
    refine Good.reg hN [] .nil [] (by kernel_rfl) ?_
    obtain rfl := Option.some.inj H
    exact Good.ret (fin.doneR (by kernel_rfl))
  rcases (ifC H).symm with ⟨c640, H⟩ | ⟨c640, H⟩
  · refine Good.reg hN [B false, B false, B false] (.cons (decide_eq_false c638) (.cons (decide_eq_false c639) (.cons (decide_eq_false c640) .nil))) [] (by kernel_rfl) ?_
    refine Good.cond false (by kernel_rfl) ?_
    refine Good.skip ?_
    refine Good.seq ?_
    refine Good.reg hN [] .nil [] (by kernel_rfl) ?_
    obtain rfl := Option.some.inj H
    exact Good.ret (fin.doneR (by kernel_rfl))
  refine Good.reg hN [B false, B false, B true] (.cons (decide_eq_false c638) (.cons (decide_eq_false c639) (.cons (decide_eq_true c640) .nil))) [] (by kernel_rfl) ?_
  rcases ifC H with ⟨c641, H⟩ | ⟨c641, H⟩
  · refine Good.condT (decide_eq_true c641) (by kernel_rfl) ?_
    refine Good.seq ?_
    refine Good.reg hN [] .nil [] (by kernel_rfl) ?_
    obtain rfl := Option.some.inj H
    exact Good.ret (fin.doneR (by kernel_rfl))
  refine Good.condF (decide_eq_false c641) (by kernel_rfl) ?_
  refine Good.skip ?_
  refine Good.seq ?_
  refine Good.reg hN [] .nil [] (by kernel_rfl) ?_
  obtain rfl := Option.some.inj H
  exact Good.ret (fin.doneR (by kernel_rfl))
def cr18_Utf.l0 : Nat → ByteArray → Option (Bool)
 | 0, _ => none
 | k + 1, x0 => if (x0.size : Int) > 0 then ((cr18_point.f k x0).bind fun t643 => (if t643 = 0 then (some false) else (if 0 ≤ t643 then (if t643 ≤ (x0.size : Int) then (cr18_Utf.l0 k (x0.extract (t643 : Int).toNat x0.size)) else (none)) else (none)))) else (some true)
def cr18_Utf.f (k : Nat) (a0 : ByteArray) : Option (Bool) := cr18_Utf.l0 k a0
theorem cr18_Utf.con {k : Nat} {a0 : ByteArray} {r : (Bool)} (H : cr18_Utf.f k a0 = some r) : Con Tryd.prog 52 [S a0] (B r) := by
  refine con_of_good Tryd.func52 rfl (by kernel_rfl) (by kernel_rfl) fun C hN hL => ?_
  unfold cr18_Utf.f at H
  refine Good.seq ?_
  refine Good.reg hN [] .nil [] (by kernel_rfl) ?_
  refine Good.seq ?_
  refine Good.block ?_
  refine Good.loopN (fun k' st => ∃ (x0 : ByteArray), k' ≤ k ∧ Wk C st ⟨[(0, .d (.v (S x0)))], []⟩ ∧ cr18_Utf.l0 k' x0 = some r) k ⟨a0, Nat.le_refl _, Wk.of [(0, 0)] (by kernel_rfl) (by kernel_rfl), H⟩ fun k => ⟨fun st h => (by obtain ⟨_, _, _, H⟩ := h; cases H), ?_⟩
  clear H
  rintro st ⟨x0, hk, W, H⟩
  refine W.good ?_
  rw [cr18_Utf.l0] at H
  refine Good.seq ?_
  refine Good.seq ?_
  refine Good.reg hN [] .nil [] (by kernel_rfl) ?_
  rcases (ifC H).symm with ⟨c642, H⟩ | ⟨c642, H⟩
  · refine Good.condF (decide_eq_false c642) (by kernel_rfl) ?_
    refine Good.exit ?_
    refine Good.seq ?_
    refine Good.reg hN [] .nil [] (by kernel_rfl) ?_
    obtain rfl := Option.some.inj H
    exact Good.ret (fin.doneR (by kernel_rfl))
  refine Good.condT (decide_eq_true c642) (by kernel_rfl) ?_
  refine Good.skip ?_
  refine Good.block ?_
  refine Good.seq ?_
  obtain ⟨t643, h644, H⟩ := bindS H
  refine Good.reg hN [I t643] (.cons (cr18_point.con h644).c .nil) [] (by kernel_rfl) ?_
  refine Good.seq ?_
  refine Good.seq ?_
  refine Good.reg hN [] .nil [] (by kernel_rfl) ?_
  rcases ifC H with ⟨c645, H⟩ | ⟨c645, H⟩
  · refine Good.condT (beq_iff_eq.2 c645) (by kernel_rfl) ?_
    refine Good.seq ?_
    refine Good.reg hN [] .nil [] (by kernel_rfl) ?_
    obtain rfl := Option.some.inj H
    exact Good.ret (fin.doneR (by kernel_rfl))
  refine Good.condF (beq_eq_false_iff_ne.2 c645) (by kernel_rfl) ?_
  refine Good.skip ?_
  obtain ⟨c646, H⟩ := ifS H
  obtain ⟨c647, H⟩ := ifS H
  refine Good.reg hN [] (.cons c646 (.cons c647 .nil)) [] (by kernel_rfl) ?_
  exact ⟨k, by omega, x0.extract (t643 : Int).toNat x0.size, by omega, Wk.of [(0, 0)] (by kernel_rfl) (by kernel_rfl), H⟩
mutual
def cr18_Printable.l0 : Nat → ByteArray → Int → Option (Bool)
 | 0, _, _ => none
 | k + 1, x0, x3 => if x3 < (x0.size : Int) then (cr18_Printable.l1 k x0 x3 false 0) else (some true)
def cr18_Printable.l1 : Nat → ByteArray → Int → Bool → Int → Option (Bool)
 | 0, _, _, _, _ => none
 | k + 1, x0, x3, x4, x5 => if x5 < 74 then (if 0 ≤ x5 then (if 0 ≤ x3 then (if x3 < (x0.size : Int) then (if (bt (⟨#[65, 66, 67, 68, 69, 70, 71, 72, 73, 74, 75, 76, 77, 78, 79, 80, 81, 82, 83, 84, 85, 86, 87, 88, 89, 90, 97, 98, 99, 100, 101, 102, 103, 104, 105, 106, 107, 108, 109, 110, 111, 112, 113, 114, 115, 116, 117, 118, 119, 120, 121, 122, 48, 49, 50, 51, 52, 53, 54, 55, 56, 57, 32, 39, 40, 41, 43, 44, 45, 46, 47, 58, 61, 63]⟩ : ByteArray) x5) = (bt x0 x3) then (cr18_Printable.l1 k x0 x3 true (wrap64 (x5 + 1))) else (cr18_Printable.l1 k x0 x3 x4 (wrap64 (x5 + 1)))) else (none)) else (none)) else (none)) else (if x4 = true then (cr18_Printable.l0 k x0 (wrap64 (x3 + 1))) else (some false))
end
def cr18_Printable.f (k : Nat) (a0 : ByteArray) : Option (Bool) := cr18_Printable.l0 k a0 0
theorem cr18_Printable.con {k : Nat} {a0 : ByteArray} {r : (Bool)} (H : cr18_Printable.f k a0 = some r) : Con Tryd.prog 53 [S a0] (B r) := by
  refine con_of_good Tryd.func53 rfl (by kernel_rfl) (by kernel_rfl) fun C hN hL => ?_
  unfold cr18_Printable.f at H
  refine Good.seq ?_
  refine Good.reg hN [] .nil [] (by kernel_rfl) ?_
  refine Good.seq ?_
  refine Good.seq ?_
  refine Good.reg hN [] .nil [] (by kernel_rfl) ?_
  refine Good.block ?_
  refine Good.loopN (fun k' st => ∃ (x0 : ByteArray) (x3 : Int), k' ≤ k ∧ Wk C st ⟨[(0, .d (.v (S x0))), (3, .d (.v (I x3)))], []⟩ ∧ cr18_Printable.l0 k' x0 x3 = some r) k ⟨a0, 0, Nat.le_refl _, Wk.of [(0, 0), (3, 0)] (by kernel_rfl) (by kernel_rfl), H⟩ fun k => ⟨fun st h => (by obtain ⟨_, _, _, _, H⟩ := h; cases H), ?_⟩
  clear H
  rintro st ⟨x0, x3, hk, W, H⟩
  refine W.good ?_
  rw [cr18_Printable.l0] at H
  refine Good.seq ?_
  refine Good.seq ?_
  refine Good.reg hN [] .nil [] (by kernel_rfl) ?_
  rcases (ifC H).symm with ⟨c648, H⟩ | ⟨c648, H⟩
  · refine Good.condF (decide_eq_false c648) (by kernel_rfl) ?_
    refine Good.exit ?_
    refine Good.seq ?_
    refine Good.reg hN [] .nil [] (by kernel_rfl) ?_
    obtain rfl := Option.some.inj H
    exact Good.ret (fin.doneR (by kernel_rfl))
  refine Good.condT (decide_eq_true c648) (by kernel_rfl) ?_
  refine Good.skip ?_
  refine Good.seq ?_
  refine Good.block ?_
  refine Good.seq ?_
  refine Good.reg hN [] .nil [] (by kernel_rfl) ?_
  refine Good.seq ?_
  refine Good.seq ?_
  refine Good.reg hN [] .nil [] (by kernel_rfl) ?_
  refine Good.block ?_
  refine Good.loopN (fun k' st => ∃ (x0 : ByteArray) (x3 : Int) (x4 : Bool) (x5 : Int), k' ≤ k ∧ Wk C st ⟨[(0, .d (.v (S x0))), (3, .d (.v (I x3))), (4, .d (.v (B x4))), (5, .d (.v (I x5)))], []⟩ ∧ cr18_Printable.l1 k' x0 x3 x4 x5 = some r) k ⟨x0, x3, false, 0, Nat.le_refl _, Wk.of [(0, 0), (3, 0), (4, 0), (5, 0)] (by kernel_rfl) (by kernel_rfl), H⟩ fun k => ⟨fun st h => (by obtain ⟨_, _, _, _, _, _, H⟩ := h; cases H), ?_⟩
  clear H
  rintro st ⟨x0, x3, x4, x5, hk, W, H⟩
  refine W.good ?_
  rw [cr18_Printable.l1] at H
  refine Good.seq ?_
  refine Good.seq ?_
  refine Good.reg hN [] .nil [] (by kernel_rfl) ?_
  rcases (ifC H).symm with ⟨c649, H⟩ | ⟨c649, H⟩
  · refine Good.condF (decide_eq_false c649) (by kernel_rfl) ?_
    refine Good.exit ?_
    refine Good.seq ?_
    refine Good.reg hN [] .nil [] (by kernel_rfl) ?_
    rcases ifC H with ⟨c654, H⟩ | ⟨c654, H⟩
    · refine Good.condF (notF c654) (by kernel_rfl) ?_
      refine Good.skip ?_
      refine Good.reg hN [] .nil [] (by kernel_rfl) ?_
      exact ⟨k, by omega, x0, wrap64 (x3 + 1), by omega, Wk.of [(0, 0), (3, 0)] (by kernel_rfl) (by kernel_rfl), H⟩
    refine Good.condT (notT (Bool.eq_false_iff.2 c654)) (by kernel_rfl) ?_
    refine Good.seq ?_
    refine Good.reg hN [] .nil [] (by kernel_rfl) ?_
    obtain rfl := Option.some.inj H
    exact Good.ret (fin.doneR (by kernel_rfl))
  refine Good.condT (decide_eq_true c649) (by kernel_rfl) ?_
  refine Good.skip ?_
  refine Good.seq ?_
  refine Good.block ?_
  refine Good.seq ?_
  obtain ⟨c650, H⟩ := ifS H
  obtain ⟨c651, H⟩ := ifS H
  obtain ⟨c652, H⟩ := ifS H
  refine Good.regDF hm hN (.q 0 [] (.q 1 [] (.q 2 [] (.q 3 [] (.q 4 [] (.q 5 [] .z)))))) [(0, none), (3, none), (5, none)] (by kernel_rfl) .nil [] [] (.cons c650 (.cons c649 (.cons c651 (.cons c652 .nil)))) (.cons c650 (.cons c649 (.cons c651 (.cons c652 .nil)))) [] [] (by kernel_rfl) (by kernel_rfl) ?_
  rcases ifC H with ⟨c653, H⟩ | ⟨c653, H⟩
  · refine Good.condT (beq_iff_eq.2 c653) (by kernel_rfl) ?_
    refine Good.reg hN [] .nil [] (by kernel_rfl) ?_
    refine Good.reg hN [] .nil [] (by kernel_rfl) ?_
    exact ⟨k, by omega, x0, x3, true, wrap64 (x5 + 1), by omega, Wk.of [(0, 0), (3, 0), (4, 0), (5, 0)] (by kernel_rfl) (by kernel_rfl), H⟩
  refine Good.condF (beq_eq_false_iff_ne.2 c653) (by kernel_rfl) ?_
  refine Good.skip ?_
  refine Good.reg hN [] .nil [] (by kernel_rfl) ?_
  exact ⟨k, by omega, x0, x3, x4, wrap64 (x5 + 1), by omega, Wk.of [(0, 0), (3, 0), (4, 0), (5, 0)] (by kernel_rfl) (by kernel_rfl), H⟩
def cr18_Right.f (k : Nat) (a0 : Int) (a1 : ByteArray) : Option (Bool) := if a0 = 1 then ((cr18_Unbool.f a1).bind fun t656 => (some t656.2)) else (if a0 = 2 then ((cr16_Right.f a1).bind fun t659 => (some t659)) else (if a0 = 3 then ((cr18_Unbits.f k a1).bind fun t662 => (some t662.2.2)) else (if a0 = 4 then (some true) else (if a0 = 5 then (some (a1.toList == ([] : List UInt8))) else (if a0 = 6 then ((cr17_Decode.f k a1).bind fun t667 => (some t667.2)) else (if a0 = 12 then ((cr18_Utf.f k a1).bind fun t670 => (some t670)) else (if a0 = 19 then ((cr18_Printable.f k a1).bind fun t673 => (some t673)) else (some false))))))))
theorem cr18_Right.con {k : Nat} {a0 : Int} {a1 : ByteArray} {r : (Bool)} (H : cr18_Right.f k a0 a1 = some r) : Con Tryd.prog 38 [I a0, S a1] (B r) := by
  refine con_of_good Tryd.func38 rfl (by kernel_rfl) (by kernel_rfl) fun C hN hL => ?_
  unfold cr18_Right.f at H
  refine Good.seq ?_
  refine Good.reg hN [] .nil [] (by kernel_rfl) ?_
  refine Good.seq ?_
  refine Good.seq ?_
  refine Good.reg hN [] .nil [] (by kernel_rfl) ?_
  refine Good.block ?_
  refine Good.seq ?_
  refine Good.reg hN [] .nil [] (by kernel_rfl) ?_
  rcases ifC H with ⟨c655, H⟩ | ⟨c655, H⟩
  · refine Good.condT (beq_iff_eq.2 c655) (by kernel_rfl) ?_
    refine Good.seq ?_
    obtain ⟨t656, h657, H⟩ := bindS H
    refine Good.reg hN [.tup [B t656.1, B t656.2]] (.cons (cr18_Unbool.con h657).c .nil) [] (by kernel_rfl) ?_
    refine Good.seq ?_
    refine Good.reg hN [] .nil [] (by kernel_rfl) ?_
    obtain rfl := Option.some.inj H
    exact Good.ret (fin.doneR (by kernel_rfl))
  refine Good.condF (beq_eq_false_iff_ne.2 c655) (by kernel_rfl) ?_
  refine Good.seq ?_
  refine Good.reg hN [] .nil [] (by kernel_rfl) ?_
  rcases ifC H with ⟨c658, H⟩ | ⟨c658, H⟩
  · refine Good.condT (beq_iff_eq.2 c658) (by kernel_rfl) ?_
    refine Good.seq ?_
    obtain ⟨t659, h660, H⟩ := bindS H
    refine Good.reg hN [B t659] (.cons (cr16_Right.con h660).c .nil) [] (by kernel_rfl) ?_
    obtain rfl := Option.some.inj H
    exact Good.ret (fin.doneR (by kernel_rfl))
  refine Good.condF (beq_eq_false_iff_ne.2 c658) (by kernel_rfl) ?_
  refine Good.seq ?_
  refine Good.reg hN [] .nil [] (by kernel_rfl) ?_
  rcases ifC H with ⟨c661, H⟩ | ⟨c661, H⟩
  · refine Good.condT (beq_iff_eq.2 c661) (by kernel_rfl) ?_
    refine Good.seq ?_
    obtain ⟨t662, h663, H⟩ := bindS H
    refine Good.reg hN [.tup [S t662.1, I t662.2.1, B t662.2.2]] (.cons (cr18_Unbits.con h663).c .nil) [] (by kernel_rfl) ?_
    refine Good.seq ?_
    refine Good.reg hN [] .nil [] (by kernel_rfl) ?_
    obtain rfl := Option.some.inj H
    exact Good.ret (fin.doneR (by kernel_rfl))
  refine Good.condF (beq_eq_false_iff_ne.2 c661) (by kernel_rfl) ?_
  refine Good.seq ?_
  refine Good.reg hN [] .nil [] (by kernel_rfl) ?_
  rcases ifC H with ⟨c664, H⟩ | ⟨c664, H⟩
  · refine Good.condT (beq_iff_eq.2 c664) (by kernel_rfl) ?_
    refine Good.seq ?_
    refine Good.reg hN [] .nil [] (by kernel_rfl) ?_
    obtain rfl := Option.some.inj H
    exact Good.ret (fin.doneR (by kernel_rfl))
  refine Good.condF (beq_eq_false_iff_ne.2 c664) (by kernel_rfl) ?_
  refine Good.seq ?_
  refine Good.reg hN [] .nil [] (by kernel_rfl) ?_
  rcases ifC H with ⟨c665, H⟩ | ⟨c665, H⟩
  · refine Good.condT (beq_iff_eq.2 c665) (by kernel_rfl) ?_
    refine Good.seq ?_
    refine Good.reg hN [] (.cons (strV (rfl : a1.toList = a1.toList) (litL ([] : List UInt8))) .nil) [(39, .bool (a1.toList == ([] : List UInt8)))] (by kernel_rfl) ?_
    obtain rfl := Option.some.inj H
    exact Good.ret (fin.doneR (by kernel_rfl))
  refine Good.condF (beq_eq_false_iff_ne.2 c665) (by kernel_rfl) ?_
  refine Good.seq ?_
  refine Good.reg hN [] .nil [] (by kernel_rfl) ?_
  rcases ifC H with ⟨c666, H⟩ | ⟨c666, H⟩
  · refine Good.condT (beq_iff_eq.2 c666) (by kernel_rfl) ?_
    refine Good.seq ?_
    obtain ⟨t667, h668, H⟩ := bindS H
    refine Good.reg hN [.tup [.row none 1 (List.map I t667.1), B t667.2]] (.cons (cr17_Decode.con h668).c .nil) [] (by kernel_rfl) ?_
    refine Good.seq ?_
    refine Good.reg hN [] .nil [] (by kernel_rfl) ?_
    obtain rfl := Option.some.inj H
    exact Good.ret (fin.doneR (by kernel_rfl))
  refine Good.condF (beq_eq_false_iff_ne.2 c666) (by kernel_rfl) ?_
  refine Good.seq ?_
  refine Good.reg hN [] .nil [] (by kernel_rfl) ?_
  rcases ifC H with ⟨c669, H⟩ | ⟨c669, H⟩
  · refine Good.condT (beq_iff_eq.2 c669) (by kernel_rfl) ?_
    refine Good.seq ?_
    obtain ⟨t670, h671, H⟩ := bindS H
    refine Good.reg hN [B t670] (.cons (cr18_Utf.con h671).c .nil) [] (by kernel_rfl) ?_
    obtain rfl := Option.some.inj H
    exact Good.ret (fin.doneR (by kernel_rfl))
  refine Good.condF (beq_eq_false_iff_ne.2 c669) (by kernel_rfl) ?_
  refine Good.seq ?_
  refine Good.reg hN [] .nil [] (by kernel_rfl) ?_
  rcases ifC H with ⟨c672, H⟩ | ⟨c672, H⟩
  · refine Good.condT (beq_iff_eq.2 c672) (by kernel_rfl) ?_
    refine Good.seq ?_
    obtain ⟨t673, h674, H⟩ := bindS H
    refine Good.reg hN [B t673] (.cons (cr18_Printable.con h674).c .nil) [] (by kernel_rfl) ?_
    obtain rfl := Option.some.inj H
    exact Good.ret (fin.doneR (by kernel_rfl))
  refine Good.condF (beq_eq_false_iff_ne.2 c672) (by kernel_rfl) ?_
  refine Good.skip ?_
  refine Good.seq ?_
  refine Good.reg hN [] .nil [] (by kernel_rfl) ?_
  obtain rfl := Option.some.inj H
  exact Good.ret (fin.doneR (by kernel_rfl))
mutual
def cr19_walk_element.j0 : Nat → Int → Int → Int → Int → Bool → ByteArray → List S40 → List Int → List Int → Int → Int → Bool → Option (Int × Int × Int × ByteArray × List S40 × List Int × List Int)
 | 0, _, _, _, _, _, _, _, _, _, _, _, _ => none
 | k + 1, x1, x3, x13, x14, x77, x1000, x1001, x1002, x1003, x3000, x3001, x3002 => if x77 = true then ((cr19_faulty.f 5 x1).bind fun t696 => (some (0, t696.1, t696.2, x1000, x1001, x1002, x1003))) else (if x3000 = 0 then (if x3002 = true then (cr19_walk_element.j1 k x1 x3 x13 x14 false x1000 x1001 x1002 x1003 x3000 x3001 x3002) else (if 0 ≤ x13 then (if x13 ≤ x14 then (if x14 ≤ (x1000.size : Int) then ((cr18_Right.f k x3001 (x1000.extract (x13 : Int).toNat (x14 : Int).toNat)).bind fun t703 => (cr19_walk_element.j1 k x1 x3 x13 x14 (!t703) x1000 x1001 x1002 x1003 x3000 x3001 x3002)) else (none)) else (none)) else (none))) else (cr19_walk_element.j1 k x1 x3 x13 x14 false x1000 x1001 x1002 x1003 x3000 x3001 x3002))
def cr19_walk_element.j1 : Nat → Int → Int → Int → Int → Bool → ByteArray → List S40 → List Int → List Int → Int → Int → Bool → Option (Int × Int × Int × ByteArray × List S40 × List Int × List Int)
 | 0, _, _, _, _, _, _, _, _, _, _, _, _ => none
 | k + 1, x1, x3, x13, x14, x100, x1000, x1001, x1002, x1003, x3000, x3001, x3002 => if x100 = true then ((cr19_faulty.f 5 x1).bind fun t706 => (some (0, t706.1, t706.2, x1000, x1001, x1002, x1003))) else (if x3002 = true then (cr19_walk_element.j2 k x1 x3 x13 x14 (x1001.length : Int) x1000 x1001 x1002 x1003 x3002 x3000 x3001 x3002 (⟨#[]⟩ : ByteArray)) else (if 0 ≤ x13 then (if x13 ≤ x14 then (if x14 ≤ (x1000.size : Int) then (cr19_walk_element.j2 k x1 x3 x13 x14 (x1001.length : Int) x1000 x1001 x1002 x1003 x3002 x3000 x3001 x3002 (x1000.extract (x13 : Int).toNat (x14 : Int).toNat)) else (none)) else (none)) else (none)))
def cr19_walk_element.j2 : Nat → Int → Int → Int → Int → Int → ByteArray → List S40 → List Int → List Int → Bool → Int → Int → Bool → ByteArray → Option (Int × Int × Int × ByteArray × List S40 × List Int × List Int)
 | 0, _, _, _, _, _, _, _, _, _, _, _, _, _, _ => none
 | k + 1, x1, x3, x13, x14, x15, x1000, x1001, x1002, x1003, x3002, x4000, x4001, x4002, x4003 => if x1001.length < 2199023255552 then ((some (x1001 ++ [(⟨x4000, x4001, x4002, x4003, ([] : List Int)⟩ : S40)] : List S40)).bind fun y713 => (if x1002.length < 17592186044416 then ((some (x1002 ++ [x1] : List Int)).bind fun y715 => (if x1003.length < 17592186044416 then ((some (x1003 ++ [x14] : List Int)).bind fun y717 => (if x3002 = true then (cr19_walk_element.l0 k x3 x14 x15 x13 x1000 y713 y715 y717) else (some (x14, 0, 0, x1000, y713, y715, y717)))) else (none))) else (none))) else (none)
def cr19_walk_element.l0 : Nat → Int → Int → Int → Int → ByteArray → List S40 → List Int → List Int → Option (Int × Int × Int × ByteArray × List S40 × List Int × List Int)
 | 0, _, _, _, _, _, _, _, _ => none
 | k + 1, x3, x14, x15, x17, x1000, x1001, x1002, x1003 => if x17 < x14 then (if 0 ≤ x15 then (if x15 < (x1001.length : Int) then (if ((rd_T40 x1001 x15).f4).length < 17592186044416 then ((cr19_walk_element.f k x1000 (x1001.set (x15 : Int).toNat (⟨(rd_T40 x1001 x15).f0, (rd_T40 x1001 x15).f1, (rd_T40 x1001 x15).f2, (rd_T40 x1001 x15).f3, (((rd_T40 x1001 x15).f4) ++ [(x1001.length : Int)])⟩ : S40)) x1002 x1003 x17 x14 (wrap64 (x3 + 1))).bind fun t725 => (if t725.2.1 = 0 then (cr19_walk_element.l0 k x3 x14 x15 t725.1 t725.2.2.2.1 t725.2.2.2.2.1 t725.2.2.2.2.2.1 t725.2.2.2.2.2.2) else (some (0, t725.2.1, t725.2.2.1, t725.2.2.2.1, t725.2.2.2.2.1, t725.2.2.2.2.2.1, t725.2.2.2.2.2.2)))) else (none)) else (none)) else (none)) else (some (x14, 0, 0, x1000, x1001, x1002, x1003))
def cr19_walk_element.f : Nat → ByteArray → List S40 → List Int → List Int → Int → Int → Int → Option (Int × Int × Int × ByteArray × List S40 × List Int × List Int)
 | 0, _, _, _, _, _, _, _ => none
 | k + 1, a0_0, l0_1, l0_2, l0_3, a1, a2, a3 => if 0 ≤ a1 then (if a1 ≤ a2 then (if a2 ≤ (a0_0.size : Int) then ((cr15_Decode.f k (a0_0.extract (a1 : Int).toNat (a2 : Int).toNat)).bind fun t678 => (if t678.2.2.2.2.2 = 0 then (if (wrap64 ((wrap64 (a1 + t678.2.2.2.2.1)) + t678.2.2.2.1)) > a2 then ((cr19_faulty.f 5 a1).bind fun t684 => (some (0, t684.1, t684.2, a0_0, l0_1, l0_2, l0_3))) else (if a3 > 16 then ((cr19_faulty.f 6 a1).bind fun t687 => (some (0, t687.1, t687.2, a0_0, l0_1, l0_2, l0_3))) else (if (l0_1.length : Int) ≥ 1000 then ((cr19_faulty.f 4 a1).bind fun t690 => (some (0, t690.1, t690.2, a0_0, l0_1, l0_2, l0_3))) else (if t678.1 = 0 then (if t678.2.2.1 = true then (if t678.2.1 = 16 then (cr19_walk_element.j0 k a1 a3 (wrap64 (a1 + t678.2.2.2.2.1)) (wrap64 ((wrap64 (a1 + t678.2.2.2.2.1)) + t678.2.2.2.1)) false a0_0 l0_1 l0_2 l0_3 t678.1 t678.2.1 t678.2.2.1) else (cr19_walk_element.j0 k a1 a3 (wrap64 (a1 + t678.2.2.2.2.1)) (wrap64 ((wrap64 (a1 + t678.2.2.2.2.1)) + t678.2.2.2.1)) (t678.2.1 != 17) a0_0 l0_1 l0_2 l0_3 t678.1 t678.2.1 t678.2.2.1)) else (cr19_walk_element.j0 k a1 a3 (wrap64 (a1 + t678.2.2.2.2.1)) (wrap64 ((wrap64 (a1 + t678.2.2.2.2.1)) + t678.2.2.2.1)) false a0_0 l0_1 l0_2 l0_3 t678.1 t678.2.1 t678.2.2.1)) else (cr19_walk_element.j0 k a1 a3 (wrap64 (a1 + t678.2.2.2.2.1)) (wrap64 ((wrap64 (a1 + t678.2.2.2.2.1)) + t678.2.2.2.1)) false a0_0 l0_1 l0_2 l0_3 t678.1 t678.2.1 t678.2.2.1))))) else ((cr19_faulty.f t678.2.2.2.2.2 a1).bind fun t681 => (some (0, t681.1, t681.2, a0_0, l0_1, l0_2, l0_3))))) else (none)) else (none)) else (none)
end
theorem cr19_walk_element.cons : ∀ n k (a0_0 : ByteArray) (l0_1 : List S40) (l0_2 : List Int) (l0_3 : List Int) (a1 : Int) (a2 : Int) (a3 : Int) (r : (Int × Int × Int × ByteArray × List S40 × List Int × List Int)), k ≤ n → cr19_walk_element.f k a0_0 l0_1 l0_2 l0_3 a1 a2 a3 = some r → ConX Tryd.prog 31 [.ptr 0 0, .v (I a1), .v (I a2), .v (I a3)] [[S a0_0, .row (some 40) 5 (List.map (v40 1) l0_1), .row (some 3) 1 (List.map I l0_2), .row (some 3) 1 (List.map I l0_3)]] (.v (.tup [I r.1, .agg [I r.2.1, I r.2.2.1]])) [[S r.2.2.2.1, .row (some 40) 5 (List.map (v40 1) r.2.2.2.2.1), .row (some 3) 1 (List.map I r.2.2.2.2.2.1), .row (some 3) 1 (List.map I r.2.2.2.2.2.2)]] := by
  intro n
  induction n with
  | zero =>
    intro k a0_0 l0_1 l0_2 l0_3 a1 a2 a3 r hk H
    rcases k with _ | k
    · cases H
    · omega
  | succ n ih =>
    intro k a0_0 l0_1 l0_2 l0_3 a1 a2 a3 r hk H
    rcases k with _ | k
    · cases H
    rw [cr19_walk_element.f] at H
    refine conX_of_good Tryd.func31 rfl (by kernel_rfl) (by kernel_rfl) fun C hN hL => ?_
    refine Good.seq ?_
    refine Good.reg hN [] .nil [] (by kernel_rfl) ?_
    refine Good.seq ?_
    obtain ⟨c675, H⟩ := ifS H
    obtain ⟨c676, H⟩ := ifS H
    obtain ⟨c677, H⟩ := ifS H
    obtain ⟨t678, h679, H⟩ := bindS H
    refine Good.reg hN [.tup [.agg [I t678.1, I t678.2.1, B t678.2.2.1, I t678.2.2.2.1], I t678.2.2.2.2.1, I t678.2.2.2.2.2]] (.cons c675 (.cons c676 (.cons c677 (.cons (cr15_Decode.con h679).c .nil)))) [] (by kernel_rfl) ?_
    refine Good.seq ?_
    refine Good.seq ?_
    refine Good.reg hN [] .nil [] (by kernel_rfl) ?_
    rcases (ifC H).symm with ⟨c680, H⟩ | ⟨c680, H⟩
    · refine Good.condT (bne_iff_ne.2 c680) (by kernel_rfl) ?_
      refine Good.seq ?_
      obtain ⟨t681, h682, H⟩ := bindS H
      refine Good.reg hN [.agg [I t681.1, I t681.2]] (.cons (cr19_faulty.con h682).c .nil) [] (by kernel_rfl) ?_
      obtain rfl := Option.some.inj H
      exact Good.ret (finX_fitR (.refl _) (FitLL.refl _) (by kernel_rfl) rfl)
    refine Good.condF (bneF c680) (by kernel_rfl) ?_
    refine Good.skip ?_
    refine Good.seq ?_
    refine Good.reg hN [] .nil [] (by kernel_rfl) ?_
    refine Good.seq ?_
    refine Good.reg hN [] .nil [] (by kernel_rfl) ?_
    refine Good.seq ?_
    refine Good.seq ?_
    refine Good.reg hN [] .nil [] (by kernel_rfl) ?_
    rcases ifC H with ⟨c683, H⟩ | ⟨c683, H⟩
    · refine Good.condT (decide_eq_true c683) (by kernel_rfl) ?_
      refine Good.seq ?_
      obtain ⟨t684, h685, H⟩ := bindS H
      refine Good.reg hN [.agg [I t684.1, I t684.2]] (.cons (cr19_faulty.con h685).c .nil) [] (by kernel_rfl) ?_
      obtain rfl := Option.some.inj H
      exact Good.ret (finX_fitR (.refl _) (FitLL.refl _) (by kernel_rfl) rfl)
    refine Good.condF (decide_eq_false c683) (by kernel_rfl) ?_
    refine Good.skip ?_
    refine Good.seq ?_
    refine Good.seq ?_
    refine Good.reg hN [] .nil [] (by kernel_rfl) ?_
    rcases ifC H with ⟨c686, H⟩ | ⟨c686, H⟩
    · refine Good.condT (decide_eq_true c686) (by kernel_rfl) ?_
      refine Good.seq ?_
      obtain ⟨t687, h688, H⟩ := bindS H
      refine Good.reg hN [.agg [I t687.1, I t687.2]] (.cons (cr19_faulty.con h688).c .nil) [] (by kernel_rfl) ?_
      obtain rfl := Option.some.inj H
      exact Good.ret (finX_fitR (.refl _) (FitLL.refl _) (by kernel_rfl) rfl)
    refine Good.condF (decide_eq_false c686) (by kernel_rfl) ?_
    refine Good.skip ?_
    refine Good.seq ?_
    refine Good.seq ?_
    refine Good.reg hN [I (l0_1.length : Int)] (.cons (lenM (v40 1) l0_1) .nil) [] (by kernel_rfl) ?_
    rcases ifC H with ⟨c689, H⟩ | ⟨c689, H⟩
    · refine Good.condT (decide_eq_true c689) (by kernel_rfl) ?_
      refine Good.seq ?_
      obtain ⟨t690, h691, H⟩ := bindS H
      refine Good.reg hN [.agg [I t690.1, I t690.2]] (.cons (cr19_faulty.con h691).c .nil) [] (by kernel_rfl) ?_
      obtain rfl := Option.some.inj H
      exact Good.ret (finX_fitR (.refl _) (FitLL.refl _) (by kernel_rfl) rfl)
    refine Good.condF (decide_eq_false c689) (by kernel_rfl) ?_
    refine Good.skip ?_
    refine Good.seq ?_
    refine Good.seq ?_
    refine Good.cut (fun st => ∃ (x1 : Int) (x3 : Int) (x13 : Int) (x14 : Int) (x77 : Bool) (x1000 : ByteArray) (x1001 : List S40) (x1002 : List Int) (x1003 : List Int) (x2000 : Int) (x2001 : Int) (x3000 : Int) (x3001 : Int) (x3002 : Bool) (x3003 : Int), Wk C st ⟨[(0, .d (.ptr 0 0)), (1, .d (.v (I x1))), (3, .d (.v (I x3))), (9, .d (.ptr 1 0)), (10, .d (.ptr 2 0)), (13, .d (.v (I x13))), (14, .d (.v (I x14))), (77, .d (.v (B x77)))], [.cells [.v (S x1000), .v (.row (some 40) 5 (List.map (v40 1) x1001)), .v (.row (some 3) 1 (List.map I x1002)), .v (.row (some 3) 1 (List.map I x1003))], .cells [.v (I x2000), .v (I x2001)], .cells [.v (I x3000), .v (I x3001), .v (B x3002), .v (I x3003)]]⟩ ∧ cr19_walk_element.j0 k x1 x3 x13 x14 x77 x1000 x1001 x1002 x1003 x3000 x3001 x3002 = some r) ?_ ?_
    · rcases (ifC H).symm with ⟨c692, H⟩ | ⟨c692, H⟩
      · refine Good.reg hN [B false, B false, B false] (.cons (beq_eq_false_iff_ne.2 c692) (.cons (rfl : false = false) (.cons (rfl : false = false) .nil))) [] (by kernel_rfl) ?_
        exact ⟨a1, a3, wrap64 (a1 + t678.2.2.2.2.1), wrap64 ((wrap64 (a1 + t678.2.2.2.2.1)) + t678.2.2.2.1), false, a0_0, l0_1, l0_2, l0_3, 0, 0, t678.1, t678.2.1, t678.2.2.1, t678.2.2.2.1, Wk.of [(0, 0), (1, 0), (3, 0), (9, 0), (10, 0), (13, 0), (14, 0), (77, 0)] (by kernel_rfl) (by kernel_rfl), H⟩
      rcases (ifC H).symm with ⟨c693, H⟩ | ⟨c693, H⟩
      · refine Good.reg hN [B true, B false, B false] (.cons (beq_iff_eq.2 c692) (.cons (Bool.eq_false_iff.2 c693) (.cons (rfl : false = false) .nil))) [] (by kernel_rfl) ?_
        exact ⟨a1, a3, wrap64 (a1 + t678.2.2.2.2.1), wrap64 ((wrap64 (a1 + t678.2.2.2.2.1)) + t678.2.2.2.1), false, a0_0, l0_1, l0_2, l0_3, 0, 0, t678.1, t678.2.1, t678.2.2.1, t678.2.2.2.1, Wk.of [(0, 0), (1, 0), (3, 0), (9, 0), (10, 0), (13, 0), (14, 0), (77, 0)] (by kernel_rfl) (by kernel_rfl), H⟩
      rcases ifC H with ⟨c694, H⟩ | ⟨c694, H⟩
      · refine Good.reg hN [B true, B true, B false] (.cons (beq_iff_eq.2 c692) (.cons c693 (.cons (bneF c694) .nil))) [] (by kernel_rfl) ?_
        exact ⟨a1, a3, wrap64 (a1 + t678.2.2.2.2.1), wrap64 ((wrap64 (a1 + t678.2.2.2.2.1)) + t678.2.2.2.1), false, a0_0, l0_1, l0_2, l0_3, 0, 0, t678.1, t678.2.1, t678.2.2.1, t678.2.2.2.1, Wk.of [(0, 0), (1, 0), (3, 0), (9, 0), (10, 0), (13, 0), (14, 0), (77, 0)] (by kernel_rfl) (by kernel_rfl), H⟩
      refine Good.reg hN [B true, B true, B true] (.cons (beq_iff_eq.2 c692) (.cons c693 (.cons (bne_iff_ne.2 c694) .nil))) [] (by kernel_rfl) ?_
      exact ⟨a1, a3, wrap64 (a1 + t678.2.2.2.2.1), wrap64 ((wrap64 (a1 + t678.2.2.2.2.1)) + t678.2.2.2.1), (t678.2.1 != 17), a0_0, l0_1, l0_2, l0_3, 0, 0, t678.1, t678.2.1, t678.2.2.1, t678.2.2.2.1, Wk.of [(0, 0), (1, 0), (3, 0), (9, 0), (10, 0), (13, 0), (14, 0), (77, 0)] (by kernel_rfl) (by kernel_rfl), H⟩
    clear H
    rintro st ⟨x1, x3, x13, x14, x77, x1000, x1001, x1002, x1003, x2000, x2001, x3000, x3001, x3002, x3003, W, H⟩
    rcases k with _ | k
    · cases H
    refine W.good ?_
    rw [cr19_walk_element.j0] at H
    rcases ifC H with ⟨c695, H⟩ | ⟨c695, H⟩
    · refine Good.condT c695 (by kernel_rfl) ?_
      refine Good.seq ?_
      obtain ⟨t696, h697, H⟩ := bindS H
      refine Good.reg hN [.agg [I t696.1, I t696.2]] (.cons (cr19_faulty.con h697).c .nil) [] (by kernel_rfl) ?_
      obtain rfl := Option.some.inj H
      exact Good.ret (finX_fitR (.refl _) (FitLL.refl _) (by kernel_rfl) rfl)
    refine Good.condF (Bool.eq_false_iff.2 c695) (by kernel_rfl) ?_
    refine Good.skip ?_
    refine Good.seq ?_
    refine Good.seq ?_
    refine Good.cut (fun st => ∃ (x1 : Int) (x3 : Int) (x13 : Int) (x14 : Int) (x100 : Bool) (x1000 : ByteArray) (x1001 : List S40) (x1002 : List Int) (x1003 : List Int) (x2000 : Int) (x2001 : Int) (x3000 : Int) (x3001 : Int) (x3002 : Bool) (x3003 : Int), Wk C st ⟨[(0, .d (.ptr 0 0)), (1, .d (.v (I x1))), (3, .d (.v (I x3))), (9, .d (.ptr 1 0)), (10, .d (.ptr 2 0)), (13, .d (.v (I x13))), (14, .d (.v (I x14))), (100, .d (.v (B x100)))], [.cells [.v (S x1000), .v (.row (some 40) 5 (List.map (v40 1) x1001)), .v (.row (some 3) 1 (List.map I x1002)), .v (.row (some 3) 1 (List.map I x1003))], .cells [.v (I x2000), .v (I x2001)], .cells [.v (I x3000), .v (I x3001), .v (B x3002), .v (I x3003)]]⟩ ∧ cr19_walk_element.j1 k x1 x3 x13 x14 x100 x1000 x1001 x1002 x1003 x3000 x3001 x3002 = some r) ?_ ?_
    · rcases (ifC H).symm with ⟨c698, H⟩ | ⟨c698, H⟩
      · refine Good.regDF hm hN (.q 0 [] (.q 1 [] (.q 2 [] (.q 3 [] (.k 83 (.i 4 (.i 5 (.i 6 (.q 7 [] (.q 8 [] (.k 88 (.i 9 (.i 10 (.i 11 (.i 12 (.i 13 (.i 14 (.i 15 (.i 16 (.i 17 (.i 18 (.i 19 (.q 20 [] .z))))))))))))))))))))))) [(0, some (.pt [S x1000, .row none 5 (List.map (v40 0) x1001), .row none 1 (List.map I x1002), .row none 1 (List.map I x1003)])), (10, some (.pt [I x3000, I x3001, B x3002, I x3003])), (13, none), (14, none)] (by kernel_rfl) (.cons (ptS (shrC (rfl : (V.shr (S x1000)) = S x1000) (shrC (shrM (some 40) 5 (v40 1) (v40 0) x1001 (v40.shr _)) (shrC (shrM (some 3) 1 I I x1002 (fun _ => rfl)) (shrC (shrM (some 3) 1 I I x1003 (fun _ => rfl)) (rfl : shrL [] = [])))))) (.cons (ptS (shrC (rfl : (V.shr (I x3000)) = I x3000) (shrC (rfl : (V.shr (I x3001)) = I x3001) (shrC (rfl : (V.shr (B x3002)) = B x3002) (shrC (rfl : (V.shr (I x3003)) = I x3003) (rfl : shrL [] = [])))))) .nil)) [B false, B false] [] (.cons (beq_eq_false_iff_ne.2 c698) (.cons (rfl : false = false) .nil)) (.cons (beq_eq_false_iff_ne.2 c698) (.cons (rfl : false = false) .nil)) [] [] (by kernel_rfl) (by kernel_rfl) ?_
        exact ⟨x1, x3, x13, x14, false, x1000, x1001, x1002, x1003, x2000, x2001, x3000, x3001, x3002, x3003, Wk.of [(0, 0), (1, 0), (3, 0), (9, 0), (10, 0), (13, 0), (14, 0), (100, 0)] (by kernel_rfl) (by kernel_rfl), H⟩
      rcases ifC H with ⟨c699, H⟩ | ⟨c699, H⟩
      · refine Good.regDF hm hN (.q 0 [] (.q 1 [] (.q 2 [] (.q 3 [] (.k 83 (.q 4 [] (.q 5 [] (.q 6 [] (.q 7 [] (.q 8 [] (.k 88 (.i 9 (.i 10 (.i 11 (.i 12 (.i 13 (.i 14 (.i 15 (.i 16 (.i 17 (.i 18 (.i 19 (.q 20 [] .z))))))))))))))))))))))) [(0, some (.pt [S x1000, .row none 5 (List.map (v40 0) x1001), .row none 1 (List.map I x1002), .row none 1 (List.map I x1003)])), (10, some (.pt [I x3000, I x3001, B x3002, I x3003])), (13, none), (14, none)] (by kernel_rfl) (.cons (ptS (shrC (rfl : (V.shr (S x1000)) = S x1000) (shrC (shrM (some 40) 5 (v40 1) (v40 0) x1001 (v40.shr _)) (shrC (shrM (some 3) 1 I I x1002 (fun _ => rfl)) (shrC (shrM (some 3) 1 I I x1003 (fun _ => rfl)) (rfl : shrL [] = [])))))) (.cons (ptS (shrC (rfl : (V.shr (I x3000)) = I x3000) (shrC (rfl : (V.shr (I x3001)) = I x3001) (shrC (rfl : (V.shr (B x3002)) = B x3002) (shrC (rfl : (V.shr (I x3003)) = I x3003) (rfl : shrL [] = [])))))) .nil)) [B true, B false] [] (.cons (beq_iff_eq.2 c698) (.cons (notF c699) .nil)) (.cons (beq_iff_eq.2 c698) (.cons (notF c699) .nil)) [] [] (by kernel_rfl) (by kernel_rfl) ?_
        exact ⟨x1, x3, x13, x14, false, x1000, x1001, x1002, x1003, x2000, x2001, x3000, x3001, x3002, x3003, Wk.of [(0, 0), (1, 0), (3, 0), (9, 0), (10, 0), (13, 0), (14, 0), (100, 0)] (by kernel_rfl) (by kernel_rfl), H⟩
      obtain ⟨c700, H⟩ := ifS H
      obtain ⟨c701, H⟩ := ifS H
      obtain ⟨c702, H⟩ := ifS H
      obtain ⟨t703, h704, H⟩ := bindS H
      refine Good.regDF hm hN (.q 0 [] (.q 1 [] (.q 2 [] (.q 3 [] (.k 83 (.q 4 [] (.q 5 [] (.q 6 [] (.q 7 [] (.q 8 [] (.k 88 (.q 9 [] (.q 10 [] (.q 11 [] (.q 12 [] (.q 13 [] (.q 14 [] (.q 15 [] (.q 16 [] (.q 17 [] (.e 18 (.q 19 [] (.q 20 [] .z))))))))))))))))))))))) [(0, some (.pt [S x1000, .row none 5 (List.map (v40 0) x1001), .row none 1 (List.map I x1002), .row none 1 (List.map I x1003)])), (10, some (.pt [I x3000, I x3001, B x3002, I x3003])), (13, none), (14, none)] (by kernel_rfl) (.cons (ptS (shrC (rfl : (V.shr (S x1000)) = S x1000) (shrC (shrM (some 40) 5 (v40 1) (v40 0) x1001 (v40.shr _)) (shrC (shrM (some 3) 1 I I x1002 (fun _ => rfl)) (shrC (shrM (some 3) 1 I I x1003 (fun _ => rfl)) (rfl : shrL [] = [])))))) (.cons (ptS (shrC (rfl : (V.shr (I x3000)) = I x3000) (shrC (rfl : (V.shr (I x3001)) = I x3001) (shrC (rfl : (V.shr (B x3002)) = B x3002) (shrC (rfl : (V.shr (I x3003)) = I x3003) (rfl : shrL [] = [])))))) .nil)) [B true, B true, B t703] [] (.cons (beq_iff_eq.2 c698) (.cons (notT (Bool.eq_false_iff.2 c699)) (.cons c700 (.cons c701 (.cons c702 (.cons (cr18_Right.con h704).c .nil)))))) (.cons (beq_iff_eq.2 c698) (.cons (notT (Bool.eq_false_iff.2 c699)) (.cons c700 (.cons c701 (.cons c702 .nil))))) [] [] (by kernel_rfl) (by kernel_rfl) ?_
      exact ⟨x1, x3, x13, x14, !t703, x1000, x1001, x1002, x1003, x2000, x2001, x3000, x3001, x3002, x3003, Wk.of [(0, 0), (1, 0), (3, 0), (9, 0), (10, 0), (13, 0), (14, 0), (100, 0)] (by kernel_rfl) (by kernel_rfl), H⟩
    clear H
    rintro st ⟨x1, x3, x13, x14, x100, x1000, x1001, x1002, x1003, x2000, x2001, x3000, x3001, x3002, x3003, W, H⟩
    rcases k with _ | k
    · cases H
    refine W.good ?_
    rw [cr19_walk_element.j1] at H
    rcases ifC H with ⟨c705, H⟩ | ⟨c705, H⟩
    · refine Good.condT c705 (by kernel_rfl) ?_
      refine Good.seq ?_
      obtain ⟨t706, h707, H⟩ := bindS H
      refine Good.reg hN [.agg [I t706.1, I t706.2]] (.cons (cr19_faulty.con h707).c .nil) [] (by kernel_rfl) ?_
      obtain rfl := Option.some.inj H
      exact Good.ret (finX_fitR (.refl _) (FitLL.refl _) (by kernel_rfl) rfl)
    refine Good.condF (Bool.eq_false_iff.2 c705) (by kernel_rfl) ?_
    refine Good.skip ?_
    refine Good.seq ?_
    refine Good.reg hN [I (x1001.length : Int)] (.cons (lenM (v40 1) x1001) .nil) [] (by kernel_rfl) ?_
    refine Good.seq ?_
    refine Good.reg hN [] .nil [] (by kernel_rfl) ?_
    refine Good.seq ?_
    refine Good.seq ?_
    refine Good.reg hN [] .nil [] (by kernel_rfl) ?_
    refine Good.cut (fun st => ∃ (x1 : Int) (x3 : Int) (x13 : Int) (x14 : Int) (x15 : Int) (x1000 : ByteArray) (x1001 : List S40) (x1002 : List Int) (x1003 : List Int) (x2000 : Int) (x2001 : Int) (x3000 : Int) (x3001 : Int) (x3002 : Bool) (x3003 : Int) (x4000 : Int) (x4001 : Int) (x4002 : Bool) (x4003 : ByteArray), Wk C st ⟨[(0, .d (.ptr 0 0)), (1, .d (.v (I x1))), (3, .d (.v (I x3))), (9, .d (.ptr 1 0)), (10, .d (.ptr 2 0)), (13, .d (.v (I x13))), (14, .d (.v (I x14))), (15, .d (.v (I x15))), (16, .d (.ptr 3 0))], [.cells [.v (S x1000), .v (.row (some 40) 5 (List.map (v40 1) x1001)), .v (.row (some 3) 1 (List.map I x1002)), .v (.row (some 3) 1 (List.map I x1003))], .cells [.v (I x2000), .v (I x2001)], .cells [.v (I x3000), .v (I x3001), .v (B x3002), .v (I x3003)], .cells [.v (I x4000), .v (I x4001), .v (B x4002), .v (S x4003), .v (.nil 3 1)]]⟩ ∧ cr19_walk_element.j2 k x1 x3 x13 x14 x15 x1000 x1001 x1002 x1003 x3002 x4000 x4001 x4002 x4003 = some r) ?_ ?_
    · rcases ifC H with ⟨c708, H⟩ | ⟨c708, H⟩
      · refine Good.condF (notF c708) (by kernel_rfl) ?_
        refine Good.skip ?_
        exact ⟨x1, x3, x13, x14, (x1001.length : Int), x1000, x1001, x1002, x1003, x2000, x2001, x3000, x3001, x3002, x3003, x3000, x3001, x3002, (⟨#[]⟩ : ByteArray), Wk.of [(0, 0), (1, 0), (3, 0), (9, 0), (10, 0), (13, 0), (14, 0), (15, 0), (16, 0)] (by kernel_rfl) (by kernel_rfl), H⟩
      refine Good.condT (notT (Bool.eq_false_iff.2 c708)) (by kernel_rfl) ?_
      obtain ⟨c709, H⟩ := ifS H
      obtain ⟨c710, H⟩ := ifS H
      obtain ⟨c711, H⟩ := ifS H
      refine Good.reg hN [] (.cons c709 (.cons c710 (.cons c711 .nil))) [] (by kernel_rfl) ?_
      exact ⟨x1, x3, x13, x14, (x1001.length : Int), x1000, x1001, x1002, x1003, x2000, x2001, x3000, x3001, x3002, x3003, x3000, x3001, x3002, x1000.extract (x13 : Int).toNat (x14 : Int).toNat, Wk.of [(0, 0), (1, 0), (3, 0), (9, 0), (10, 0), (13, 0), (14, 0), (15, 0), (16, 0)] (by kernel_rfl) (by kernel_rfl), H⟩
    clear H
    rintro st ⟨x1, x3, x13, x14, x15, x1000, x1001, x1002, x1003, x2000, x2001, x3000, x3001, x3002, x3003, x4000, x4001, x4002, x4003, W, H⟩
    rcases k with _ | k
    · cases H
    refine W.good ?_
    rw [cr19_walk_element.j2] at H
    refine Good.seq ?_
    obtain ⟨c712, H⟩ := ifS H
    replace H := bindI H
    refine Good.regDF hm hN (.i 0 (.q 1 [[4, 3, 2], []] (.q 2 [[4, 3], []] (.q 3 [[4], []] (.q 4 [[], []] (.q 5 [[6], []] (.e 6 (.e 7 (.i 8 (.i 9 (.e 10 .z))))))))))) [(0, some (.pt [S x1000, .row none 5 (List.map (v40 0) x1001), .row none 1 (List.map I x1002), .row none 1 (List.map I x1003)])), (16, some (.pt [I x4000, I x4001, B x4002, S x4003, .nil 3 1]))] (by kernel_rfl) (.cons (ptS (shrC (rfl : (V.shr (S x1000)) = S x1000) (shrC (shrM (some 40) 5 (v40 1) (v40 0) x1001 (v40.shr _)) (shrC (shrM (some 3) 1 I I x1002 (fun _ => rfl)) (shrC (shrM (some 3) 1 I I x1003 (fun _ => rfl)) (rfl : shrL [] = [])))))) (.cons (ptS (shrC (rfl : (V.shr (I x4000)) = I x4000) (shrC (rfl : (V.shr (I x4001)) = I x4001) (shrC (rfl : (V.shr (B x4002)) = B x4002) (shrC (rfl : (V.shr (S x4003)) = S x4003) (shrC (rfl : (V.shr (.nil 3 1)) = .nil 3 1) (rfl : shrL [] = []))))))) .nil)) [.kb true, .row (some 40) 5 (List.map (v40 1) (x1001 ++ [(⟨x4000, x4001, x4002, x4003, ([] : List Int)⟩ : S40)]))] [] (.cons (fitM (v40 1) x1001 [(⟨x4000, x4001, x4002, x4003, ([] : List Int)⟩ : S40)] (.cons (.agg (.cons (.refl _) (.cons (.refl _) (.cons (.refl _) (.cons (.refl _) (.cons (.nilO 3 1) .nil)))))) .nil)) (.cons (limM1 (v40 1) c712) .nil)) .nil [] [] (by kernel_rfl) (by kernel_rfl) ?_
    refine Good.seq ?_
    obtain ⟨c714, H⟩ := ifS H
    replace H := bindI H
    refine Good.reg hN [.kb true, .row (some 3) 1 (List.map I (x1002 ++ [x1]))] (.cons (fitM I x1002 [x1] (.refl _)) (.cons (limM1 I c714) .nil)) [] (by kernel_rfl) ?_
    refine Good.seq ?_
    obtain ⟨c716, H⟩ := ifS H
    replace H := bindI H
    refine Good.reg hN [.kb true, .row (some 3) 1 (List.map I (x1003 ++ [x14]))] (.cons (fitM I x1003 [x14] (.refl _)) (.cons (limM1 I c716) .nil)) [] (by kernel_rfl) ?_
    refine Good.seq ?_
    refine Good.seq ?_
    refine Good.reg hN [] .nil [] (by kernel_rfl) ?_
    rcases (ifC H).symm with ⟨c718, H⟩ | ⟨c718, H⟩
    · refine Good.condT (notT (Bool.eq_false_iff.2 c718)) (by kernel_rfl) ?_
      refine Good.seq ?_
      refine Good.reg hN [] .nil [] (by kernel_rfl) ?_
      obtain rfl := Option.some.inj H
      exact Good.ret (finX_fitR (.refl _) (FitLL.refl _) (by kernel_rfl) rfl)
    refine Good.condF (notF c718) (by kernel_rfl) ?_
    refine Good.skip ?_
    refine Good.seq ?_
    refine Good.reg hN [] .nil [] (by kernel_rfl) ?_
    refine Good.seq ?_
    refine Good.block ?_
    refine Good.loopN (fun k' st => ∃ (x3 : Int) (x14 : Int) (x15 : Int) (x17 : Int) (x1000 : ByteArray) (x1001 : List S40) (x1002 : List Int) (x1003 : List Int) (x2000 : Int) (x2001 : Int) (x3000 : Int) (x3001 : Int) (x3002 : Bool) (x3003 : Int) (x4000 : Int) (x4001 : Int) (x4002 : Bool) (x4003 : ByteArray), k' ≤ k ∧ Wk C st ⟨[(0, .d (.ptr 0 0)), (3, .d (.v (I x3))), (9, .d (.ptr 1 0)), (14, .d (.v (I x14))), (15, .d (.v (I x15))), (17, .d (.v (I x17)))], [.cells [.v (S x1000), .v (.row (some 40) 5 (List.map (v40 1) x1001)), .v (.row (some 3) 1 (List.map I x1002)), .v (.row (some 3) 1 (List.map I x1003))], .cells [.v (I x2000), .v (I x2001)], .cells [.v (I x3000), .v (I x3001), .v (B x3002), .v (I x3003)], .cells [.v (I x4000), .v (I x4001), .v (B x4002), .v (S x4003), .v (.nil 3 1)]]⟩ ∧ cr19_walk_element.l0 k' x3 x14 x15 x17 x1000 x1001 x1002 x1003 = some r) k ⟨x3, x14, x15, x13, x1000, (x1001 ++ [(⟨x4000, x4001, x4002, x4003, ([] : List Int)⟩ : S40)]), (x1002 ++ [x1]), (x1003 ++ [x14]), x2000, x2001, x3000, x3001, x3002, x3003, x4000, x4001, x4002, x4003, Nat.le_refl _, Wk.of [(0, 0), (3, 0), (9, 0), (14, 0), (15, 0), (17, 0)] (by kernel_rfl) (by kernel_rfl), H⟩ fun k => ⟨fun st h => (by obtain ⟨_, _, _, _, _, _, _, _, _, _, _, _, _, _, _, _, _, _, _, _, H⟩ := h; cases H), ?_⟩
    clear H
    rintro st ⟨x3, x14, x15, x17, x1000, x1001, x1002, x1003, x2000, x2001, x3000, x3001, x3002, x3003, x4000, x4001, x4002, x4003, hk, W, H⟩
    refine W.good ?_
    rw [cr19_walk_element.l0] at H
    refine Good.seq ?_
    refine Good.seq ?_
    refine Good.reg hN [] .nil [] (by kernel_rfl) ?_
    rcases (ifC H).symm with ⟨c719, H⟩ | ⟨c719, H⟩
    · refine Good.condF (decide_eq_false c719) (by kernel_rfl) ?_
      refine Good.exit ?_
      refine Good.seq ?_
      refine Good.reg hN [] .nil [] (by kernel_rfl) ?_
      obtain rfl := Option.some.inj H
      exact Good.ret (finX_fitR (.refl _) (FitLL.refl _) (by kernel_rfl) rfl)
    refine Good.condT (decide_eq_true c719) (by kernel_rfl) ?_
    refine Good.skip ?_
    refine Good.block ?_
    refine Good.seq ?_
    obtain ⟨c720, H⟩ := ifS H
    obtain ⟨c721, H⟩ := ifS H
    obtain ⟨c722, H⟩ := ifS H
    refine Good.regTB (n := 3) hm hN hL (.i 0 (.i 1 (.i 2 (.i 4 (.q 5 [[12, 11, 10, 8, 7, 6], []] (.q 6 [[12, 11, 10, 8, 7], []] (.q 7 [[12, 11, 10, 8], []] (.q 8 [[12, 11, 10], []] (.q 9 [[12, 11, 10], []] (.q 10 [[12, 11], []] (.q 11 [[12], []] (.q 12 [[], []] (.q 13 [[18, 17, 16, 15, 14], []] (.q 14 [[18, 17, 16, 15], []] (.q 15 [[18, 17, 16], []] (.q 16 [[18, 17], []] (.q 17 [[18], []] (.b 3 [.kb true, (v40 1) (rd_T40 x1001 x15), .row (some 3) 1 (List.map I (((rd_T40 x1001 x15).f4) ++ [(x1001.length : Int)])), setC ((v40 1) (rd_T40 x1001 x15)) 4 [.any], (v40 1) (⟨(rd_T40 x1001 x15).f0, (rd_T40 x1001 x15).f1, (rd_T40 x1001 x15).f2, (rd_T40 x1001 x15).f3, (((rd_T40 x1001 x15).f4) ++ [(x1001.length : Int)])⟩ : S40), .row (some 40) 5 (List.map (v40 1) (x1001.set (x15 : Int).toNat (⟨(rd_T40 x1001 x15).f0, (rd_T40 x1001 x15).f1, (rd_T40 x1001 x15).f2, (rd_T40 x1001 x15).f3, (((rd_T40 x1001 x15).f4) ++ [(x1001.length : Int)])⟩ : S40)))] [] (.e 18 (.e 19 (.e 20 (.e 21 (.e 22 .z))))) [] [] (.e 18 (.b 3 [.kb true, (v40 1) (rd_T40 x1001 x15), .row (some 3) 1 (List.map I (((rd_T40 x1001 x15).f4) ++ [(x1001.length : Int)])), setC ((v40 1) (rd_T40 x1001 x15)) 4 [.any], (v40 1) (⟨(rd_T40 x1001 x15).f0, (rd_T40 x1001 x15).f1, (rd_T40 x1001 x15).f2, (rd_T40 x1001 x15).f3, (((rd_T40 x1001 x15).f4) ++ [(x1001.length : Int)])⟩ : S40), .row (some 40) 5 (List.map (v40 1) (x1001.set (x15 : Int).toNat (⟨(rd_T40 x1001 x15).f0, (rd_T40 x1001 x15).f1, (rd_T40 x1001 x15).f2, (rd_T40 x1001 x15).f3, (((rd_T40 x1001 x15).f4) ++ [(x1001.length : Int)])⟩ : S40)))] [] (.e 19 (.e 20 (.e 21 (.e 22 .z)))) [.kb true, (v40 1) (rd_T40 x1001 x15), .row (some 3) 1 (List.map I (((rd_T40 x1001 x15).f4) ++ [(x1001.length : Int)])), setC ((v40 1) (rd_T40 x1001 x15)) 4 [.any], (v40 1) (⟨(rd_T40 x1001 x15).f0, (rd_T40 x1001 x15).f1, (rd_T40 x1001 x15).f2, (rd_T40 x1001 x15).f3, (((rd_T40 x1001 x15).f4) ++ [(x1001.length : Int)])⟩ : S40), .row (some 40) 5 (List.map (v40 1) (x1001.set (x15 : Int).toNat (⟨(rd_T40 x1001 x15).f0, (rd_T40 x1001 x15).f1, (rd_T40 x1001 x15).f2, (rd_T40 x1001 x15).f3, (((rd_T40 x1001 x15).f4) ++ [(x1001.length : Int)])⟩ : S40)))] [] (.e 19 (.e 3 (.e 20 (.e 21 (.e 22 .z))))))))))))))))))))))))) [(0, some (.pt [S x1000, .row none 5 (List.map (v40 0) x1001), .row none 1 (List.map I x1002), .row none 1 (List.map I x1003)])), (15, none)] (by kernel_rfl) (.cons (ptS (shrC (rfl : (V.shr (S x1000)) = S x1000) (shrC (shrM (some 40) 5 (v40 1) (v40 0) x1001 (v40.shr _)) (shrC (shrM (some 3) 1 I I x1002 (fun _ => rfl)) (shrC (shrM (some 3) 1 I I x1003 (fun _ => rfl)) (rfl : shrL [] = [])))))) .nil) [(v40 1) (rd_T40 x1001 x15), I (x1001.length : Int)] [(v40 0) (rd_T40 x1001 x15), I (x1001.length : Int)] (.cons (.cons c720 (.cons (ltM (v40 1) c721) (.cons (atM (v40 1) z40 c720 c721) (.cons (lenM (v40 1) x1001) (.cons (atM (v40 1) z40 c720 c721) (.cons (fitM I ((rd_T40 x1001 x15).f4) [(x1001.length : Int)] (.refl _)) (.cons (limM1 I c722) (.cons c720 (.cons (ltH (v40 1) (m := (x15 : Int).toNat) (X := setC ((v40 1) (rd_T40 x1001 x15)) 4 [.any]) c721) (.cons (atH (v40 1) (X := setC ((v40 1) (rd_T40 x1001 x15)) 4 [.any]) c720 c721) (.cons (Fit.refl ((v40 1) (⟨(rd_T40 x1001 x15).f0, (rd_T40 x1001 x15).f1, (rd_T40 x1001 x15).f2, (rd_T40 x1001 x15).f3, (((rd_T40 x1001 x15).f4) ++ [(x1001.length : Int)])⟩ : S40))) (.cons (setH (v40 1) (l := x1001) (n := (x15 : Int).toNat) (x := (⟨(rd_T40 x1001 x15).f0, (rd_T40 x1001 x15).f1, (rd_T40 x1001 x15).f2, (rd_T40 x1001 x15).f3, (((rd_T40 x1001 x15).f4) ++ [(x1001.length : Int)])⟩ : S40)) (X := setC ((v40 1) (rd_T40 x1001 x15)) 4 [.any])) .nil)))))))))))) (.cons c720 (.cons (atM (v40 0) z40 c720 c721) (.cons (lenM (v40 0) x1001) .nil))) (.cons (.cons c720 (.cons (ltM (v40 1) c721) (.cons (atM (v40 1) z40 c720 c721) (.cons (lenM (v40 1) x1001) (.cons (atM (v40 1) z40 c720 c721) (.cons (fitM I ((rd_T40 x1001 x15).f4) [(x1001.length : Int)] (.refl _)) (.cons (limM1 I c722) (.cons c720 (.cons (ltH (v40 1) (m := (x15 : Int).toNat) (X := setC ((v40 1) (rd_T40 x1001 x15)) 4 [.any]) c721) (.cons (atH (v40 1) (X := setC ((v40 1) (rd_T40 x1001 x15)) 4 [.any]) c720 c721) (.cons (Fit.refl ((v40 1) (⟨(rd_T40 x1001 x15).f0, (rd_T40 x1001 x15).f1, (rd_T40 x1001 x15).f2, (rd_T40 x1001 x15).f3, (((rd_T40 x1001 x15).f4) ++ [(x1001.length : Int)])⟩ : S40))) (.cons (setH (v40 1) (l := x1001) (n := (x15 : Int).toNat) (x := (⟨(rd_T40 x1001 x15).f0, (rd_T40 x1001 x15).f1, (rd_T40 x1001 x15).f2, (rd_T40 x1001 x15).f3, (((rd_T40 x1001 x15).f4) ++ [(x1001.length : Int)])⟩ : S40)) (X := setC ((v40 1) (rd_T40 x1001 x15)) 4 [.any])) .nil)))))))))))) (.cons c720 (.cons (atM (v40 0) z40 c720 c721) (.cons (lenM (v40 0) x1001) .nil))) (.cons (.cons c720 (.cons (ltM (v40 1) c721) (.cons (atM (v40 1) z40 c720 c721) (.cons (lenM (v40 1) x1001) (.cons (atM (v40 1) z40 c720 c721) (.cons (fitM I ((rd_T40 x1001 x15).f4) [(x1001.length : Int)] (.refl _)) (.cons (limM1 I c722) (.cons c720 (.cons (ltH (v40 1) (m := (x15 : Int).toNat) (X := setC ((v40 1) (rd_T40 x1001 x15)) 4 [.any]) c721) (.cons (atH (v40 1) (X := setC ((v40 1) (rd_T40 x1001 x15)) 4 [.any]) c720 c721) (.cons (Fit.refl ((v40 1) (⟨(rd_T40 x1001 x15).f0, (rd_T40 x1001 x15).f1, (rd_T40 x1001 x15).f2, (rd_T40 x1001 x15).f3, (((rd_T40 x1001 x15).f4) ++ [(x1001.length : Int)])⟩ : S40))) (.cons (setH (v40 1) (l := x1001) (n := (x15 : Int).toNat) (x := (⟨(rd_T40 x1001 x15).f0, (rd_T40 x1001 x15).f1, (rd_T40 x1001 x15).f2, (rd_T40 x1001 x15).f3, (((rd_T40 x1001 x15).f4) ++ [(x1001.length : Int)])⟩ : S40)) (X := setC ((v40 1) (rd_T40 x1001 x15)) 4 [.any])) .nil)))))))))))) (.cons c720 (.cons (atM (v40 0) z40 c720 c721) (.cons (lenM (v40 0) x1001) .nil))) .nil))) [] [] (by kernel_rfl) (by kernel_rfl) [[], [], []] [(0, 0), (3, 0), (9, 0), (14, 0), (15, 0), (17, 0)] [(0, .d (.ptr 0 0)), (3, .d (.v (I x3))), (9, .d (.ptr 1 0)), (14, .d (.v (I x14))), (15, .d (.v (I x15))), (17, .d (.v (I x17)))] [.cells [.v (S x1000), .v (.row (some 40) 5 (List.map (v40 1) (x1001.set (x15 : Int).toNat (⟨(rd_T40 x1001 x15).f0, (rd_T40 x1001 x15).f1, (rd_T40 x1001 x15).f2, (rd_T40 x1001 x15).f3, (((rd_T40 x1001 x15).f4) ++ [(x1001.length : Int)])⟩ : S40)))), .v (.row (some 3) 1 (List.map I x1002)), .v (.row (some 3) 1 (List.map I x1003))], .cells [.v (I x2000), .v (I x2001)], .cells [.v (I x3000), .v (I x3001), .v (B x3002), .v (I x3003)], .cells [.v (I x4000), .v (I x4001), .v (B x4002), .v (S x4003), .v (.nil 3 1)]] (by kernel_rfl) (by kernel_rfl) ?_
    refine Good.seq ?_
    obtain ⟨t725, h726, H⟩ := bindS H
    refine Good.reg hN [.tup [I t725.1, .agg [I t725.2.1, I t725.2.2.1]], .tup [.agg [S t725.2.2.2.1, .row (some 40) 5 (List.map (v40 1) t725.2.2.2.2.1), .row (some 3) 1 (List.map I t725.2.2.2.2.2.1), .row (some 3) 1 (List.map I t725.2.2.2.2.2.2)]]] (.cons (ih _ _ _ _ _ _ _ _ _ (by omega) h726).c .nil) [] (by kernel_rfl) ?_
    refine Good.seq ?_
    refine Good.seq ?_
    refine Good.reg hN [] .nil [] (by kernel_rfl) ?_
    rcases ifC H with ⟨c727, H⟩ | ⟨c727, H⟩
    · refine Good.condF (bneF c727) (by kernel_rfl) ?_
      refine Good.skip ?_
      refine Good.reg hN [] .nil [] (by kernel_rfl) ?_
      exact ⟨k, by omega, x3, x14, x15, t725.1, t725.2.2.2.1, t725.2.2.2.2.1, t725.2.2.2.2.2.1, t725.2.2.2.2.2.2, x2000, x2001, x3000, x3001, x3002, x3003, x4000, x4001, x4002, x4003, by omega, Wk.ofB hL 4 [(0, 0), (3, 0), (9, 0), (14, 0), (15, 0), (17, 0)] (by kernel_rfl) (by kernel_rfl) (by kernel_rfl), H⟩
    refine Good.condT (bne_iff_ne.2 c727) (by kernel_rfl) ?_
    refine Good.seq ?_
    refine Good.regDF hm hN (.q 0 [[]] (.q 1 [[]] (.e 2 .z))) [(9, some (.pt [I x2000, I x2001])), (19, some (.pt [I t725.2.1, I t725.2.2.1]))] (by kernel_rfl) (.cons (ptS (shrC (rfl : (V.shr (I x2000)) = I x2000) (shrC (rfl : (V.shr (I x2001)) = I x2001) (rfl : shrL [] = [])))) (.cons (ptS (shrC (rfl : (V.shr (I t725.2.1)) = I t725.2.1) (shrC (rfl : (V.shr (I t725.2.2.1)) = I t725.2.2.1) (rfl : shrL [] = [])))) .nil)) [] [] .nil .nil [] [] (by kernel_rfl) (by kernel_rfl) ?_
    obtain rfl := Option.some.inj H
    exact Good.ret (finX_fitR (.refl _) (FitLL.refl _) (by kernel_rfl) rfl)
theorem cr19_walk_element.con {k : Nat} {a0_0 : ByteArray} {l0_1 : List S40} {l0_2 : List Int} {l0_3 : List Int} {a1 : Int} {a2 : Int} {a3 : Int} {r : (Int × Int × Int × ByteArray × List S40 × List Int × List Int)} (H : cr19_walk_element.f k a0_0 l0_1 l0_2 l0_3 a1 a2 a3 = some r) : ConX Tryd.prog 31 [.ptr 0 0, .v (I a1), .v (I a2), .v (I a3)] [[S a0_0, .row (some 40) 5 (List.map (v40 1) l0_1), .row (some 3) 1 (List.map I l0_2), .row (some 3) 1 (List.map I l0_3)]] (.v (.tup [I r.1, .agg [I r.2.1, I r.2.2.1]])) [[S r.2.2.2.1, .row (some 40) 5 (List.map (v40 1) r.2.2.2.2.1), .row (some 3) 1 (List.map I r.2.2.2.2.2.1), .row (some 3) 1 (List.map I r.2.2.2.2.2.2)]] := cr19_walk_element.cons k k a0_0 l0_1 l0_2 l0_3 a1 a2 a3 r (Nat.le_refl _) H
def cr19_whole.f (k : Nat) (a0 : ByteArray) : Option (ByteArray × List S40 × List Int × List Int × Int × Int) := if a0.toList = ([] : List UInt8) then ((cr19_faulty.f 3 0).bind fun t729 => (some (a0, ([] : List S40), ([] : List Int), ([] : List Int), t729.1, t729.2))) else (if (a0.size : Int) > 65535 then ((cr19_faulty.f 4 0).bind fun t732 => (some (a0, ([] : List S40), ([] : List Int), ([] : List Int), t732.1, t732.2))) else ((cr19_walk_element.f k a0 ([] : List S40) ([] : List Int) ([] : List Int) 0 (a0.size : Int) 1).bind fun t734 => (if t734.2.1 = 0 then (if t734.1 < (a0.size : Int) then ((cr19_faulty.f 5 t734.1).bind fun t738 => (some (t734.2.2.2.1, t734.2.2.2.2.1, t734.2.2.2.2.2.1, t734.2.2.2.2.2.2, t738.1, t738.2))) else (some (t734.2.2.2.1, t734.2.2.2.2.1, t734.2.2.2.2.2.1, t734.2.2.2.2.2.2, t734.2.1, t734.2.2.1))) else (some (t734.2.2.2.1, t734.2.2.2.2.1, t734.2.2.2.2.2.1, t734.2.2.2.2.2.2, t734.2.1, t734.2.2.1)))))
theorem cr19_whole.con {k : Nat} {a0 : ByteArray} {r : (ByteArray × List S40 × List Int × List Int × Int × Int)} (H : cr19_whole.f k a0 = some r) : Con Tryd.prog 19 [S a0] (.tup [.pt [S r.1, .row none 5 (List.map (v40 0) r.2.1), .row none 1 (List.map I r.2.2.1), .row none 1 (List.map I r.2.2.2.1)], .agg [I r.2.2.2.2.1, I r.2.2.2.2.2]]) := by
  refine con_of_good Tryd.func19 rfl (by kernel_rfl) (by kernel_rfl) fun C hN hL => ?_
  unfold cr19_whole.f at H
  refine Good.seq ?_
  refine Good.reg hN [] .nil [] (by kernel_rfl) ?_
  refine Good.seq ?_
  refine Good.reg hN [] .nil [] (by kernel_rfl) ?_
  refine Good.seq ?_
  refine Good.seq ?_
  refine Good.reg hN [] (.cons (strV (rfl : a0.toList = a0.toList) (litL ([] : List UInt8))) .nil) [(11, .bool (a0.toList == ([] : List UInt8)))] (by kernel_rfl) ?_
  rcases ifC H with ⟨c728, H⟩ | ⟨c728, H⟩
  · refine Good.condT (beq_iff_eq.2 c728) (by kernel_rfl) ?_
    refine Good.seq ?_
    obtain ⟨t729, h730, H⟩ := bindS H
    refine Good.reg hN [.agg [I t729.1, I t729.2]] (.cons (cr19_faulty.con h730).c .nil) [] (by kernel_rfl) ?_
    obtain rfl := Option.some.inj H
    refine Good.boxF 1 (us := [S a0, .nil 40 5, .nil 3 1, .nil 3 1]) (ds := [S a0, .row none 5 (List.map (v40 0) ([] : List S40)), .row none 1 (List.map I ([] : List Int)), .row none 1 (List.map I ([] : List Int))]) (by kernel_rfl) (.cons (.refl _) (.cons (.nilS 40 5 _) (.cons (.nilS 3 1 _) (.cons (.nilS 3 1 _) .nil)))) ?_
    refine Good.publish 2 1 0 (us := [S a0, .row none 5 (List.map (v40 0) ([] : List S40)), .row none 1 (List.map I ([] : List Int)), .row none 1 (List.map I ([] : List Int))]) (us' := [S a0, .row none 5 (List.map (v40 0) ([] : List S40)), .row none 1 (List.map I ([] : List Int)), .row none 1 (List.map I ([] : List Int))]) (by kernel_rfl) (by kernel_rfl) (shrC (rfl : (V.shr (S a0)) = S a0) (shrC (shrM none 5 (v40 0) (v40 0) ([] : List S40) (v40.shr _)) (shrC (shrM none 1 I I ([] : List Int) (fun _ => rfl)) (shrC (shrM none 1 I I ([] : List Int) (fun _ => rfl)) (rfl : shrL [] = []))))) ?_
    exact Good.ret (fin.doneR (by kernel_rfl))
  refine Good.condF (beq_eq_false_iff_ne.2 c728) (by kernel_rfl) ?_
  refine Good.skip ?_
  refine Good.seq ?_
  refine Good.seq ?_
  refine Good.reg hN [] .nil [] (by kernel_rfl) ?_
  rcases ifC H with ⟨c731, H⟩ | ⟨c731, H⟩
  · refine Good.condT (decide_eq_true c731) (by kernel_rfl) ?_
    refine Good.seq ?_
    obtain ⟨t732, h733, H⟩ := bindS H
    refine Good.reg hN [.agg [I t732.1, I t732.2]] (.cons (cr19_faulty.con h733).c .nil) [] (by kernel_rfl) ?_
    obtain rfl := Option.some.inj H
    refine Good.boxF 1 (us := [S a0, .nil 40 5, .nil 3 1, .nil 3 1]) (ds := [S a0, .row none 5 (List.map (v40 0) ([] : List S40)), .row none 1 (List.map I ([] : List Int)), .row none 1 (List.map I ([] : List Int))]) (by kernel_rfl) (.cons (.refl _) (.cons (.nilS 40 5 _) (.cons (.nilS 3 1 _) (.cons (.nilS 3 1 _) .nil)))) ?_
    refine Good.publish 2 1 0 (us := [S a0, .row none 5 (List.map (v40 0) ([] : List S40)), .row none 1 (List.map I ([] : List Int)), .row none 1 (List.map I ([] : List Int))]) (us' := [S a0, .row none 5 (List.map (v40 0) ([] : List S40)), .row none 1 (List.map I ([] : List Int)), .row none 1 (List.map I ([] : List Int))]) (by kernel_rfl) (by kernel_rfl) (shrC (rfl : (V.shr (S a0)) = S a0) (shrC (shrM none 5 (v40 0) (v40 0) ([] : List S40) (v40.shr _)) (shrC (shrM none 1 I I ([] : List Int) (fun _ => rfl)) (shrC (shrM none 1 I I ([] : List Int) (fun _ => rfl)) (rfl : shrL [] = []))))) ?_
    exact Good.ret (fin.doneR (by kernel_rfl))
  refine Good.condF (decide_eq_false c731) (by kernel_rfl) ?_
  refine Good.skip ?_
  refine Good.seq ?_
  obtain ⟨t734, h735, H⟩ := bindS H
  refine Good.reg hN [.tup [I t734.1, .agg [I t734.2.1, I t734.2.2.1]], .tup [.agg [S t734.2.2.2.1, .row (some 40) 5 (List.map (v40 1) t734.2.2.2.2.1), .row (some 3) 1 (List.map I t734.2.2.2.2.2.1), .row (some 3) 1 (List.map I t734.2.2.2.2.2.2)]]] (.cons (ConX.n (cr19_walk_element.con h735) (.cons (.refl _) (.cons (.refl _) (.cons (.refl _) (.cons (.refl _) .nil)))) (.cons (.cons (.refl _) (.cons (.nilO 40 5) (.cons (.nilO 3 1) (.cons (.nilO 3 1) .nil)))) .nil)) .nil) [] (by kernel_rfl) ?_
  refine Good.seq ?_
  refine Good.seq ?_
  rcases (ifC H).symm with ⟨c736, H⟩ | ⟨c736, H⟩
  · refine Good.reg hN [B false] (.cons (beq_eq_false_iff_ne.2 c736) .nil) [] (by kernel_rfl) ?_
    refine Good.cond false (by kernel_rfl) ?_
    refine Good.skip ?_
    refine Good.seq ?_
    refine Good.regDF hm hN (.q 0 [[]] (.q 1 [[]] (.q 2 [[]] (.e 3 .z)))) [(3, some (.pt [I 0, I 0])), (4, some (.pt [S t734.2.2.2.1, .row none 5 (List.map (v40 0) t734.2.2.2.2.1), .row none 1 (List.map I t734.2.2.2.2.2.1), .row none 1 (List.map I t734.2.2.2.2.2.2)])), (6, some (.pt [I t734.2.1, I t734.2.2.1]))] (by kernel_rfl) (.cons (ptS (shrC (rfl : (V.shr (I 0)) = I 0) (shrC (rfl : (V.shr (I 0)) = I 0) (rfl : shrL [] = [])))) (.cons (ptS (shrC (rfl : (V.shr (S t734.2.2.2.1)) = S t734.2.2.2.1) (shrC (shrM (some 40) 5 (v40 1) (v40 0) t734.2.2.2.2.1 (v40.shr _)) (shrC (shrM (some 3) 1 I I t734.2.2.2.2.2.1 (fun _ => rfl)) (shrC (shrM (some 3) 1 I I t734.2.2.2.2.2.2 (fun _ => rfl)) (rfl : shrL [] = [])))))) (.cons (ptS (shrC (rfl : (V.shr (I t734.2.1)) = I t734.2.1) (shrC (rfl : (V.shr (I t734.2.2.1)) = I t734.2.2.1) (rfl : shrL [] = [])))) .nil))) [] [] .nil .nil [] [] (by kernel_rfl) (by kernel_rfl) ?_
    obtain rfl := Option.some.inj H
    refine Good.publish 2 1 0 (us := [S t734.2.2.2.1, .row (some 40) 5 (List.map (v40 1) t734.2.2.2.2.1), .row (some 3) 1 (List.map I t734.2.2.2.2.2.1), .row (some 3) 1 (List.map I t734.2.2.2.2.2.2)]) (us' := [S t734.2.2.2.1, .row none 5 (List.map (v40 0) t734.2.2.2.2.1), .row none 1 (List.map I t734.2.2.2.2.2.1), .row none 1 (List.map I t734.2.2.2.2.2.2)]) (by kernel_rfl) (by kernel_rfl) (shrC (rfl : (V.shr (S t734.2.2.2.1)) = S t734.2.2.2.1) (shrC (shrM (some 40) 5 (v40 1) (v40 0) t734.2.2.2.2.1 (v40.shr _)) (shrC (shrM (some 3) 1 I I t734.2.2.2.2.2.1 (fun _ => rfl)) (shrC (shrM (some 3) 1 I I t734.2.2.2.2.2.2 (fun _ => rfl)) (rfl : shrL [] = []))))) ?_
    exact Good.ret (fin.doneR (by kernel_rfl))
  refine Good.reg hN [B true] (.cons (beq_iff_eq.2 c736) .nil) [] (by kernel_rfl) ?_
  rcases (ifC H).symm with ⟨c737, H⟩ | ⟨c737, H⟩
  · refine Good.condF (decide_eq_false c737) (by kernel_rfl) ?_
    refine Good.skip ?_
    refine Good.seq ?_
    refine Good.regDF hm hN (.q 0 [[]] (.q 1 [[]] (.q 2 [[]] (.e 3 .z)))) [(3, some (.pt [I 0, I 0])), (4, some (.pt [S t734.2.2.2.1, .row none 5 (List.map (v40 0) t734.2.2.2.2.1), .row none 1 (List.map I t734.2.2.2.2.2.1), .row none 1 (List.map I t734.2.2.2.2.2.2)])), (6, some (.pt [I t734.2.1, I t734.2.2.1]))] (by kernel_rfl) (.cons (ptS (shrC (rfl : (V.shr (I 0)) = I 0) (shrC (rfl : (V.shr (I 0)) = I 0) (rfl : shrL [] = [])))) (.cons (ptS (shrC (rfl : (V.shr (S t734.2.2.2.1)) = S t734.2.2.2.1) (shrC (shrM (some 40) 5 (v40 1) (v40 0) t734.2.2.2.2.1 (v40.shr _)) (shrC (shrM (some 3) 1 I I t734.2.2.2.2.2.1 (fun _ => rfl)) (shrC (shrM (some 3) 1 I I t734.2.2.2.2.2.2 (fun _ => rfl)) (rfl : shrL [] = [])))))) (.cons (ptS (shrC (rfl : (V.shr (I t734.2.1)) = I t734.2.1) (shrC (rfl : (V.shr (I t734.2.2.1)) = I t734.2.2.1) (rfl : shrL [] = [])))) .nil))) [] [] .nil .nil [] [] (by kernel_rfl) (by kernel_rfl) ?_
    obtain rfl := Option.some.inj H
    refine Good.publish 2 1 0 (us := [S t734.2.2.2.1, .row (some 40) 5 (List.map (v40 1) t734.2.2.2.2.1), .row (some 3) 1 (List.map I t734.2.2.2.2.2.1), .row (some 3) 1 (List.map I t734.2.2.2.2.2.2)]) (us' := [S t734.2.2.2.1, .row none 5 (List.map (v40 0) t734.2.2.2.2.1), .row none 1 (List.map I t734.2.2.2.2.2.1), .row none 1 (List.map I t734.2.2.2.2.2.2)]) (by kernel_rfl) (by kernel_rfl) (shrC (rfl : (V.shr (S t734.2.2.2.1)) = S t734.2.2.2.1) (shrC (shrM (some 40) 5 (v40 1) (v40 0) t734.2.2.2.2.1 (v40.shr _)) (shrC (shrM (some 3) 1 I I t734.2.2.2.2.2.1 (fun _ => rfl)) (shrC (shrM (some 3) 1 I I t734.2.2.2.2.2.2 (fun _ => rfl)) (rfl : shrL [] = []))))) ?_
    exact Good.ret (fin.doneR (by kernel_rfl))
  refine Good.condT (decide_eq_true c737) (by kernel_rfl) ?_
  obtain ⟨t738, h739, H⟩ := bindS H
  refine Good.reg hN [.agg [I t738.1, I t738.2]] (.cons (cr19_faulty.con h739).c .nil) [] (by kernel_rfl) ?_
  refine Good.seq ?_
  refine Good.regDF hm hN (.q 0 [[]] (.q 1 [[]] (.q 2 [[]] (.e 3 .z)))) [(3, some (.pt [I 0, I 0])), (4, some (.pt [S t734.2.2.2.1, .row none 5 (List.map (v40 0) t734.2.2.2.2.1), .row none 1 (List.map I t734.2.2.2.2.2.1), .row none 1 (List.map I t734.2.2.2.2.2.2)])), (6, some (.pt [I t738.1, I t738.2]))] (by kernel_rfl) (.cons (ptS (shrC (rfl : (V.shr (I 0)) = I 0) (shrC (rfl : (V.shr (I 0)) = I 0) (rfl : shrL [] = [])))) (.cons (ptS (shrC (rfl : (V.shr (S t734.2.2.2.1)) = S t734.2.2.2.1) (shrC (shrM (some 40) 5 (v40 1) (v40 0) t734.2.2.2.2.1 (v40.shr _)) (shrC (shrM (some 3) 1 I I t734.2.2.2.2.2.1 (fun _ => rfl)) (shrC (shrM (some 3) 1 I I t734.2.2.2.2.2.2 (fun _ => rfl)) (rfl : shrL [] = [])))))) (.cons (ptS (shrC (rfl : (V.shr (I t738.1)) = I t738.1) (shrC (rfl : (V.shr (I t738.2)) = I t738.2) (rfl : shrL [] = [])))) .nil))) [] [] .nil .nil [] [] (by kernel_rfl) (by kernel_rfl) ?_
  obtain rfl := Option.some.inj H
  refine Good.publish 2 1 0 (us := [S t734.2.2.2.1, .row (some 40) 5 (List.map (v40 1) t734.2.2.2.2.1), .row (some 3) 1 (List.map I t734.2.2.2.2.2.1), .row (some 3) 1 (List.map I t734.2.2.2.2.2.2)]) (us' := [S t734.2.2.2.1, .row none 5 (List.map (v40 0) t734.2.2.2.2.1), .row none 1 (List.map I t734.2.2.2.2.2.1), .row none 1 (List.map I t734.2.2.2.2.2.2)]) (by kernel_rfl) (by kernel_rfl) (shrC (rfl : (V.shr (S t734.2.2.2.1)) = S t734.2.2.2.1) (shrC (shrM (some 40) 5 (v40 1) (v40 0) t734.2.2.2.2.1 (v40.shr _)) (shrC (shrM (some 3) 1 I I t734.2.2.2.2.2.1 (fun _ => rfl)) (shrC (shrM (some 3) 1 I I t734.2.2.2.2.2.2 (fun _ => rfl)) (rfl : shrL [] = []))))) ?_
  exact Good.ret (fin.doneR (by kernel_rfl))
def cr19_Decode.f (k : Nat) (a0 : ByteArray) : Option (List S40 × Int × Int) := (cr19_whole.f k a0).bind fun t740 => (if t740.2.2.2.2.1 = 0 then (some (t740.2.1, t740.2.2.2.2.1, t740.2.2.2.2.2)) else (some (([] : List S40), t740.2.2.2.2.1, t740.2.2.2.2.2)))
theorem cr19_Decode.con {k : Nat} {a0 : ByteArray} {r : (List S40 × Int × Int)} (H : cr19_Decode.f k a0 = some r) : Con Tryd.prog 8 [S a0] (.tup [.row none 5 (List.map (v40 0) r.1), .agg [I r.2.1, I r.2.2]]) := by
  refine con_of_good Tryd.func8 rfl (by kernel_rfl) (by kernel_rfl) fun C hN hL => ?_
  unfold cr19_Decode.f at H
  refine Good.seq ?_
  refine Good.reg hN [] .nil [] (by kernel_rfl) ?_
  refine Good.seq ?_
  obtain ⟨t740, h741, H⟩ := bindS H
  refine Good.reg hN [.tup [.pt [S t740.1, .row none 5 (List.map (v40 0) t740.2.1), .row none 1 (List.map I t740.2.2.1), .row none 1 (List.map I t740.2.2.2.1)], .agg [I t740.2.2.2.2.1, I t740.2.2.2.2.2]]] (.cons (cr19_whole.con h741).c .nil) [] (by kernel_rfl) ?_
  refine Good.seq ?_
  refine Good.seq ?_
  refine Good.reg hN [] .nil [] (by kernel_rfl) ?_
  rcases (ifC H).symm with ⟨c742, H⟩ | ⟨c742, H⟩
  · refine Good.condT (bne_iff_ne.2 c742) (by kernel_rfl) ?_
    refine Good.seq ?_
    refine Good.regDF hm hN (.q 0 [[]] (.q 1 [[]] (.e 2 .z))) [(3, some (.pt [I 0, I 0])), (5, some (.pt [I t740.2.2.2.2.1, I t740.2.2.2.2.2]))] (by kernel_rfl) (.cons (ptS (shrC (rfl : (V.shr (I 0)) = I 0) (shrC (rfl : (V.shr (I 0)) = I 0) (rfl : shrL [] = [])))) (.cons (ptS (shrC (rfl : (V.shr (I t740.2.2.2.2.1)) = I t740.2.2.2.2.1) (shrC (rfl : (V.shr (I t740.2.2.2.2.2)) = I t740.2.2.2.2.2) (rfl : shrL [] = [])))) .nil)) [] [] .nil .nil [] [] (by kernel_rfl) (by kernel_rfl) ?_
    obtain rfl := Option.some.inj H
    exact Good.ret (fin_fit (u := .tup [.nil 40 5, .agg [I t740.2.2.2.2.1, I t740.2.2.2.2.2]]) (.tup (.cons (.nilS 40 5 _) (.cons (.refl _) .nil))) (by kernel_rfl))
  refine Good.condF (bneF c742) (by kernel_rfl) ?_
  refine Good.skip ?_
  refine Good.seq ?_
  refine Good.regDF hm hN (.q 0 [[]] (.q 1 [[]] (.q 2 [[]] (.q 3 [[]] (.q 4 [[]] (.q 5 [[]] (.e 6 .z))))))) [(3, some (.pt [I 0, I 0])), (4, none), (5, some (.pt [I t740.2.2.2.2.1, I t740.2.2.2.2.2]))] (by kernel_rfl) (.cons (ptS (shrC (rfl : (V.shr (I 0)) = I 0) (shrC (rfl : (V.shr (I 0)) = I 0) (rfl : shrL [] = [])))) (.cons (ptS (shrC (rfl : (V.shr (I t740.2.2.2.2.1)) = I t740.2.2.2.2.1) (shrC (rfl : (V.shr (I t740.2.2.2.2.2)) = I t740.2.2.2.2.2) (rfl : shrL [] = [])))) .nil)) [] [] .nil .nil [] [] (by kernel_rfl) (by kernel_rfl) ?_
  obtain rfl := Option.some.inj H
  exact Good.ret (fin.doneR (by kernel_rfl))
def cr19_Spans.f (k : Nat) (a0 : ByteArray) : Option (List Int × List Int) := (cr19_whole.f k a0).bind fun t743 => (if t743.2.2.2.2.1 = 0 then (some (t743.2.2.1, t743.2.2.2.1)) else (some (([] : List Int), ([] : List Int))))
theorem cr19_Spans.con {k : Nat} {a0 : ByteArray} {r : (List Int × List Int)} (H : cr19_Spans.f k a0 = some r) : Con Tryd.prog 10 [S a0] (.tup [.row none 1 (List.map I r.1), .row none 1 (List.map I r.2)]) := by
  refine con_of_good Tryd.func10 rfl (by kernel_rfl) (by kernel_rfl) fun C hN hL => ?_
  unfold cr19_Spans.f at H
  refine Good.seq ?_
  refine Good.reg hN [] .nil [] (by kernel_rfl) ?_
  refine Good.seq ?_
  obtain ⟨t743, h744, H⟩ := bindS H
  refine Good.reg hN [.tup [.pt [S t743.1, .row none 5 (List.map (v40 0) t743.2.1), .row none 1 (List.map I t743.2.2.1), .row none 1 (List.map I t743.2.2.2.1)], .agg [I t743.2.2.2.2.1, I t743.2.2.2.2.2]]] (.cons (cr19_whole.con h744).c .nil) [] (by kernel_rfl) ?_
  refine Good.seq ?_
  refine Good.seq ?_
  refine Good.reg hN [] .nil [] (by kernel_rfl) ?_
  rcases (ifC H).symm with ⟨c745, H⟩ | ⟨c745, H⟩
  · refine Good.condT (bne_iff_ne.2 c745) (by kernel_rfl) ?_
    refine Good.seq ?_
    refine Good.reg hN [] .nil [] (by kernel_rfl) ?_
    obtain rfl := Option.some.inj H
    exact Good.ret (fin_fit (u := .tup [.nil 3 1, .nil 3 1]) (.tup (.cons (.nilS 3 1 _) (.cons (.nilS 3 1 _) .nil))) (by kernel_rfl))
  refine Good.condF (bneF c745) (by kernel_rfl) ?_
  refine Good.skip ?_
  refine Good.seq ?_
  refine Good.regDF hm hN (.q 0 [] (.q 1 [] (.q 2 [] (.q 3 [] (.q 4 [] (.q 5 [] (.q 6 [] (.q 7 [] (.q 8 [] (.q 9 [] .z)))))))))) [(4, none)] (by kernel_rfl) .nil [] [] .nil .nil [] [] (by kernel_rfl) (by kernel_rfl) ?_
  obtain rfl := Option.some.inj H
  exact Good.ret (fin.doneR (by kernel_rfl))
def cp_Ints.l0 : Nat → List Int → List Int → Int → Option (Bool)
 | 0, _, _, _ => none
 | k + 1, x0, x1, x5 => if x5 < (x0.length : Int) then (if 0 ≤ x5 then (if x5 < (x1.length : Int) then (if (rd x0 x5) = (rd x1 x5) then (cp_Ints.l0 k x0 x1 (wrap64 (x5 + 1))) else (some false)) else (none)) else (none)) else (some true)
def cp_Ints.f (k : Nat) (l0 : List Int) (l1 : List Int) : Option (Bool) := if (l0.length : Int) = (l1.length : Int) then (cp_Ints.l0 k l0 l1 0) else (some false)
theorem cp_Ints.con {k : Nat} {l0 : List Int} {l1 : List Int} {r : (Bool)} (H : cp_Ints.f k l0 l1 = some r) : Con Tryd.prog 20 [.row none 1 (List.map I l0), .row none 1 (List.map I l1)] (B r) := by
  refine con_of_good Tryd.func20 rfl (by kernel_rfl) (by kernel_rfl) fun C hN hL => ?_
  unfold cp_Ints.f at H
  refine Good.seq ?_
  refine Good.reg hN [] .nil [] (by kernel_rfl) ?_
  refine Good.seq ?_
  refine Good.seq ?_
  refine Good.reg hN [I (l0.length : Int), I (l1.length : Int)] (.cons (lenM I l0) (.cons (lenM I l1) .nil)) [] (by kernel_rfl) ?_
  rcases (ifC H).symm with ⟨c746, H⟩ | ⟨c746, H⟩
  · refine Good.condT (bne_iff_ne.2 c746) (by kernel_rfl) ?_
    refine Good.seq ?_
    refine Good.reg hN [] .nil [] (by kernel_rfl) ?_
    obtain rfl := Option.some.inj H
    exact Good.ret (fin.doneR (by kernel_rfl))
  refine Good.condF (bneF c746) (by kernel_rfl) ?_
  refine Good.skip ?_
  refine Good.seq ?_
  refine Good.seq ?_
  refine Good.reg hN [] .nil [] (by kernel_rfl) ?_
  refine Good.block ?_
  refine Good.loopN (fun k' st => ∃ (x0 : List Int) (x1 : List Int) (x5 : Int), k' ≤ k ∧ Wk C st ⟨[(0, .d (.v (.row none 1 (List.map I x0)))), (1, .d (.v (.row none 1 (List.map I x1)))), (5, .d (.v (I x5)))], []⟩ ∧ cp_Ints.l0 k' x0 x1 x5 = some r) k ⟨l0, l1, 0, Nat.le_refl _, Wk.of [(0, 0), (1, 0), (5, 0)] (by kernel_rfl) (by kernel_rfl), H⟩ fun k => ⟨fun st h => (by obtain ⟨_, _, _, _, _, H⟩ := h; cases H), ?_⟩
  clear H
  rintro st ⟨x0, x1, x5, hk, W, H⟩
  refine W.good ?_
  rw [cp_Ints.l0] at H
  refine Good.seq ?_
  refine Good.seq ?_
  refine Good.reg hN [I (x0.length : Int)] (.cons (lenM I x0) .nil) [] (by kernel_rfl) ?_
  rcases (ifC H).symm with ⟨c747, H⟩ | ⟨c747, H⟩
  · refine Good.condF (decide_eq_false c747) (by kernel_rfl) ?_
    refine Good.exit ?_
    refine Good.seq ?_
    refine Good.reg hN [] .nil [] (by kernel_rfl) ?_
    obtain rfl := Option.some.inj H
    exact Good.ret (fin.doneR (by kernel_rfl))
  refine Good.condT (decide_eq_true c747) (by kernel_rfl) ?_
  refine Good.skip ?_
  refine Good.seq ?_
  refine Good.block ?_
  refine Good.seq ?_
  obtain ⟨c748, H⟩ := ifS H
  obtain ⟨c749, H⟩ := ifS H
  refine Good.regDF hm hN (.q 0 [] (.q 1 [] (.q 2 [] (.q 3 [] (.q 4 [] (.q 5 [] (.q 6 [] (.q 7 [] (.q 8 [] .z))))))))) [(0, none), (1, none), (5, none)] (by kernel_rfl) .nil [I (rd x0 x5), I (rd x1 x5)] [I (rd x0 x5), I (rd x1 x5)] (.cons c748 (.cons (atM I (0 : Int) c748 c747) (.cons c748 (.cons (atM I (0 : Int) c748 c749) .nil)))) (.cons c748 (.cons (atM I (0 : Int) c748 c747) (.cons c748 (.cons (atM I (0 : Int) c748 c749) .nil)))) [] [] (by kernel_rfl) (by kernel_rfl) ?_
  rcases ifC H with ⟨c750, H⟩ | ⟨c750, H⟩
  · refine Good.condF (bneF c750) (by kernel_rfl) ?_
    refine Good.skip ?_
    refine Good.reg hN [] .nil [] (by kernel_rfl) ?_
    exact ⟨k, by omega, x0, x1, wrap64 (x5 + 1), by omega, Wk.of [(0, 0), (1, 0), (5, 0)] (by kernel_rfl) (by kernel_rfl), H⟩
  refine Good.condT (bne_iff_ne.2 c750) (by kernel_rfl) ?_
  refine Good.seq ?_
  refine Good.reg hN [] .nil [] (by kernel_rfl) ?_
  obtain rfl := Option.some.inj H
  exact Good.ret (fin.doneR (by kernel_rfl))
def cp_Same.l0 : Nat → List S40 → List S40 → Int → Option (Bool)
 | 0, _, _, _ => none
 | k + 1, x0, x1, x5 => if x5 < (x0.length : Int) then (if 0 ≤ x5 then (if x5 < (x1.length : Int) then (if ((rd_T40 x0 x5).f0) = ((rd_T40 x1 x5).f0) then (if ((rd_T40 x0 x5).f1) = ((rd_T40 x1 x5).f1) then (if (((rd_T40 x0 x5).f2) != ((rd_T40 x1 x5).f2)) = true then (some false) else (if ((rd_T40 x0 x5).f3).toList = ((rd_T40 x1 x5).f3).toList then ((cp_Ints.f k ((rd_T40 x0 x5).f4) ((rd_T40 x1 x5).f4)).bind fun t759 => (if t759 = true then (cp_Same.l0 k x0 x1 (wrap64 (x5 + 1))) else (some false))) else (some false))) else (some false)) else (some false)) else (none)) else (none)) else (some true)
def cp_Same.f (k : Nat) (l0 : List S40) (l1 : List S40) : Option (Bool) := if (l0.length : Int) = (l1.length : Int) then (cp_Same.l0 k l0 l1 0) else (some false)
theorem cp_Same.con {k : Nat} {l0 : List S40} {l1 : List S40} {r : (Bool)} (H : cp_Same.f k l0 l1 = some r) : Con Tryd.prog 11 [.row none 5 (List.map (v40 0) l0), .row none 5 (List.map (v40 0) l1)] (B r) := by
  refine con_of_good Tryd.func11 rfl (by kernel_rfl) (by kernel_rfl) fun C hN hL => ?_
  unfold cp_Same.f at H
  refine Good.seq ?_
  refine Good.reg hN [] .nil [] (by kernel_rfl) ?_
  refine Good.seq ?_
  refine Good.seq ?_
  refine Good.reg hN [I (l0.length : Int), I (l1.length : Int)] (.cons (lenM (v40 0) l0) (.cons (lenM (v40 0) l1) .nil)) [] (by kernel_rfl) ?_
  rcases (ifC H).symm with ⟨c751, H⟩ | ⟨c751, H⟩
  · refine Good.condT (bne_iff_ne.2 c751) (by kernel_rfl) ?_
    refine Good.seq ?_
    refine Good.reg hN [] .nil [] (by kernel_rfl) ?_
    obtain rfl := Option.some.inj H
    exact Good.ret (fin.doneR (by kernel_rfl))
  refine Good.condF (bneF c751) (by kernel_rfl) ?_
  refine Good.skip ?_
  refine Good.seq ?_
  refine Good.seq ?_
  refine Good.reg hN [] .nil [] (by kernel_rfl) ?_
  refine Good.block ?_
  refine Good.loopN (fun k' st => ∃ (x0 : List S40) (x1 : List S40) (x5 : Int), k' ≤ k ∧ Wk C st ⟨[(0, .d (.v (.row none 5 (List.map (v40 0) x0)))), (1, .d (.v (.row none 5 (List.map (v40 0) x1)))), (5, .d (.v (I x5)))], []⟩ ∧ cp_Same.l0 k' x0 x1 x5 = some r) k ⟨l0, l1, 0, Nat.le_refl _, Wk.of [(0, 0), (1, 0), (5, 0)] (by kernel_rfl) (by kernel_rfl), H⟩ fun k => ⟨fun st h => (by obtain ⟨_, _, _, _, _, H⟩ := h; cases H), ?_⟩
  clear H
  rintro st ⟨x0, x1, x5, hk, W, H⟩
  refine W.good ?_
  rw [cp_Same.l0] at H
  refine Good.seq ?_
  refine Good.seq ?_
  refine Good.reg hN [I (x0.length : Int)] (.cons (lenM (v40 0) x0) .nil) [] (by kernel_rfl) ?_
  rcases (ifC H).symm with ⟨c752, H⟩ | ⟨c752, H⟩
  · refine Good.condF (decide_eq_false c752) (by kernel_rfl) ?_
    refine Good.exit ?_
    refine Good.seq ?_
    refine Good.reg hN [] .nil [] (by kernel_rfl) ?_
    obtain rfl := Option.some.inj H
    exact Good.ret (fin.doneR (by kernel_rfl))
  refine Good.condT (decide_eq_true c752) (by kernel_rfl) ?_
  refine Good.skip ?_
  refine Good.seq ?_
  refine Good.block ?_
  refine Good.seq ?_
  obtain ⟨c753, H⟩ := ifS H
  obtain ⟨c754, H⟩ := ifS H
  refine Good.regTB (n := 8) hm hN hL (.q 0 [[], []] (.q 1 [[], []] (.q 2 [[], []] (.q 3 [[], []] (.i 4 (.i 5 (.i 6 (.b 7 [] [] (.b 8 [] [] (.e 9 (.e 10 (.e 11 .z))) [] [] (.e 9 (.e 8 (.e 10 (.e 11 .z))))) [] [] (.b 8 [] [] (.b 7 [] [] (.e 9 (.e 10 (.e 11 .z))) [] [] (.e 9 (.b 7 [] [] (.e 10 (.e 11 .z)) [] [] (.e 10 (.e 7 (.e 11 .z)))))) [] [] (.e 9 (.b 7 [] [] (.e 8 (.e 10 (.e 11 .z))) [] [] (.e 8 (.b 7 [] [] (.e 10 (.e 11 .z)) [] [] (.e 10 (.e 7 (.e 11 .z)))))))))))))))) [(0, none), (1, none), (5, none)] (by kernel_rfl) .nil [(v40 0) (rd_T40 x0 x5), (v40 0) (rd_T40 x1 x5)] [(v40 0) (rd_T40 x0 x5), (v40 0) (rd_T40 x1 x5)] (.cons (.cons c753 (.cons (atM (v40 0) z40 c753 c752) (.cons c753 (.cons (atM (v40 0) z40 c753 c754) .nil)))) (.cons c753 (.cons (atM (v40 0) z40 c753 c752) (.cons c753 (.cons (atM (v40 0) z40 c753 c754) .nil)))) (.cons (.cons c753 (.cons (atM (v40 0) z40 c753 c752) (.cons c753 (.cons (atM (v40 0) z40 c753 c754) .nil)))) (.cons c753 (.cons (atM (v40 0) z40 c753 c752) (.cons c753 (.cons (atM (v40 0) z40 c753 c754) .nil)))) (.cons (.cons c753 (.cons (atM (v40 0) z40 c753 c752) (.cons c753 (.cons (atM (v40 0) z40 c753 c754) .nil)))) (.cons c753 (.cons (atM (v40 0) z40 c753 c752) (.cons c753 (.cons (atM (v40 0) z40 c753 c754) .nil)))) (.cons (.cons c753 (.cons (atM (v40 0) z40 c753 c752) (.cons c753 (.cons (atM (v40 0) z40 c753 c754) .nil)))) (.cons c753 (.cons (atM (v40 0) z40 c753 c752) (.cons c753 (.cons (atM (v40 0) z40 c753 c754) .nil)))) (.cons (.cons c753 (.cons (atM (v40 0) z40 c753 c752) (.cons c753 (.cons (atM (v40 0) z40 c753 c754) .nil)))) (.cons c753 (.cons (atM (v40 0) z40 c753 c752) (.cons c753 (.cons (atM (v40 0) z40 c753 c754) .nil)))) (.cons (.cons c753 (.cons (atM (v40 0) z40 c753 c752) (.cons c753 (.cons (atM (v40 0) z40 c753 c754) .nil)))) (.cons c753 (.cons (atM (v40 0) z40 c753 c752) (.cons c753 (.cons (atM (v40 0) z40 c753 c754) .nil)))) (.cons (.cons c753 (.cons (atM (v40 0) z40 c753 c752) (.cons c753 (.cons (atM (v40 0) z40 c753 c754) .nil)))) (.cons c753 (.cons (atM (v40 0) z40 c753 c752) (.cons c753 (.cons (atM (v40 0) z40 c753 c754) .nil)))) (.cons (.cons c753 (.cons (atM (v40 0) z40 c753 c752) (.cons c753 (.cons (atM (v40 0) z40 c753 c754) .nil)))) (.cons c753 (.cons (atM (v40 0) z40 c753 c752) (.cons c753 (.cons (atM (v40 0) z40 c753 c754) .nil)))) .nil)))))))) [] [] (by kernel_rfl) (by kernel_rfl) [[], [1, 0], [], [], [], [1, 0], [1, 0], [1, 0]] [(0, 0), (1, 0), (5, 0), (6, 0), (7, 0)] [(0, .d (.v (.row none 5 (List.map (v40 0) x0)))), (1, .d (.v (.row none 5 (List.map (v40 0) x1)))), (5, .d (.v (I x5))), (6, .d (.ptr 0 0)), (7, .d (.ptr 1 0))] [.cells [.v (I ((rd_T40 x0 x5).f0)), .v (I ((rd_T40 x0 x5).f1)), .v (B ((rd_T40 x0 x5).f2)), .v (S ((rd_T40 x0 x5).f3)), .v (.row none 1 (List.map I ((rd_T40 x0 x5).f4)))], .cells [.v (I ((rd_T40 x1 x5).f0)), .v (I ((rd_T40 x1 x5).f1)), .v (B ((rd_T40 x1 x5).f2)), .v (S ((rd_T40 x1 x5).f3)), .v (.row none 1 (List.map I ((rd_T40 x1 x5).f4)))]] (by kernel_rfl) (by kernel_rfl) ?_
  refine Good.seq ?_
  rcases (ifC H).symm with ⟨c755, H⟩ | ⟨c755, H⟩
  · refine Good.reg hN [B true, B true, B true, B true] (.cons (bne_iff_ne.2 c755) (.cons (rfl : true = true) (.cons (rfl : true = true) (.cons (rfl : true = true) .nil)))) [] (by kernel_rfl) ?_
    refine Good.cond true (by kernel_rfl) ?_
    refine Good.seq ?_
    refine Good.reg hN [] .nil [] (by kernel_rfl) ?_
    obtain rfl := Option.some.inj H
    exact Good.ret (fin.doneR (by kernel_rfl))
  rcases (ifC H).symm with ⟨c756, H⟩ | ⟨c756, H⟩
  · refine Good.reg hN [B false, B true, B true, B true] (.cons (bneF c755) (.cons (bne_iff_ne.2 c756) (.cons (rfl : true = true) (.cons (rfl : true = true) .nil)))) [] (by kernel_rfl) ?_
    refine Good.cond true (by kernel_rfl) ?_
    refine Good.seq ?_
    refine Good.reg hN [] .nil [] (by kernel_rfl) ?_
    obtain rfl := Option.some.inj H
    exact Good.ret (fin.doneR (by kernel_rfl))
  rcases ifC H with ⟨c757, H⟩ | ⟨c757, H⟩
  · refine Good.reg hN [B false, B false, B true, B true] (.cons (bneF c755) (.cons (bneF c756) (.cons c757 (.cons (rfl : true = true) .nil)))) [] (by kernel_rfl) ?_
    refine Good.cond true (by kernel_rfl) ?_
    refine Good.seq ?_
    refine Good.reg hN [] .nil [] (by kernel_rfl) ?_
    obtain rfl := Option.some.inj H
    exact Good.ret (fin.doneR (by kernel_rfl))
  rcases (ifC H).symm with ⟨c758, H⟩ | ⟨c758, H⟩
  · refine Good.reg hN [B false, B false, B false, B true] (.cons (bneF c755) (.cons (bneF c756) (.cons (Bool.eq_false_iff.2 c757) (.cons (bne_iff_ne.2 c758) .nil)))) [] (by kernel_rfl) ?_
    refine Good.cond true (by kernel_rfl) ?_
    refine Good.seq ?_
    refine Good.reg hN [] .nil [] (by kernel_rfl) ?_
    obtain rfl := Option.some.inj H
    exact Good.ret (fin.doneR (by kernel_rfl))
  obtain ⟨t759, h760, H⟩ := bindS H
  refine Good.reg hN [B false, B false, B false, B false, B t759] (.cons (bneF c755) (.cons (bneF c756) (.cons (Bool.eq_false_iff.2 c757) (.cons (bneF c758) (.cons (cp_Ints.con h760).c .nil))))) [] (by kernel_rfl) ?_
  rcases ifC H with ⟨c761, H⟩ | ⟨c761, H⟩
  · refine Good.condF (notF c761) (by kernel_rfl) ?_
    refine Good.skip ?_
    refine Good.reg hN [] .nil [] (by kernel_rfl) ?_
    exact ⟨k, by omega, x0, x1, wrap64 (x5 + 1), by omega, Wk.ofB hL 0 [(0, 0), (1, 0), (5, 0)] (by kernel_rfl) (by kernel_rfl) (by kernel_rfl), H⟩
  refine Good.condT (notT (Bool.eq_false_iff.2 c761)) (by kernel_rfl) ?_
  refine Good.seq ?_
  refine Good.reg hN [] .nil [] (by kernel_rfl) ?_
  obtain rfl := Option.some.inj H
  exact Good.ret (fin.doneR (by kernel_rfl))
def clavigerlaw19_TlvTells.l0 : Nat → List (Nat × Nat) → List Int → List Int → Int → Option (Bool)
 | 0, _, _, _, _ => none
 | k + 1, x7, x8, x9, x10 => if x10 < (x7.length : Int) then (if 0 ≤ x10 then (if x10 < (x8.length : Int) then (if x10 < (x9.length : Int) then ((span_Of.f (rd x8 x10) (rd x9 x10)).bind fun t782 => (if (feq (rdOf ((0, 0) : Nat × Nat) x7 x10).1 t782.1 && feq (rdOf ((0, 0) : Nat × Nat) x7 x10).2 t782.2) = true then (clavigerlaw19_TlvTells.l0 k x7 x8 x9 (wrap64 (x10 + 1))) else (some false))) else (none)) else (none)) else (none)) else ((clavigerlaw19_awake.f k).bind fun t785 => (some t785))
def clavigerlaw19_TlvTells.j0 : Nat → List (Nat × Nat) → List Int → List Int → Bool → Option (Bool)
 | 0, _, _, _, _ => none
 | k + 1, x7, x8, x9, x47 => if x47 = true then (some false) else (clavigerlaw19_TlvTells.l0 k x7 x8 x9 0)
def clavigerlaw19_TlvTells.f (k : Nat) (a0 : ByteArray) : Option (Bool) := if (a0.size : Int) > 2000 then ((clavigerlaw19_awake.f k).bind fun t763 => (some t763)) else ((tlv_Decode.f k a0).bind fun t765 => ((cr19_Decode.f k a0).bind fun t767 => ((tlv_Spans.f k a0).bind fun t769 => ((cr19_Spans.f k a0).bind fun t771 => ((cp_Same.f k t765.1 t767.1).bind fun t773 => (if t773 = true then (if ((t765.2.1 == t767.2.1) && (t765.2.2 == t767.2.2)) = true then (clavigerlaw19_TlvTells.j0 k t769 t771.1 t771.2 ((t769.length : Int) != (t771.1.length : Int))) else (clavigerlaw19_TlvTells.j0 k t769 t771.1 t771.2 true)) else (clavigerlaw19_TlvTells.j0 k t769 t771.1 t771.2 true)))))))
theorem clavigerlaw19_TlvTells.con {k : Nat} {a0 : ByteArray} {r : (Bool)} (H : clavigerlaw19_TlvTells.f k a0 = some r) : Con Tryd.prog 3 [S a0] (B r) := by
  refine con_of_good Tryd.func3 rfl (by kernel_rfl) (by kernel_rfl) fun C hN hL => ?_
  unfold clavigerlaw19_TlvTells.f at H
  refine Good.seq ?_
  refine Good.reg hN [] .nil [] (by kernel_rfl) ?_
  refine Good.seq ?_
  refine Good.seq ?_
  refine Good.reg hN [] .nil [] (by kernel_rfl) ?_
  rcases ifC H with ⟨c762, H⟩ | ⟨c762, H⟩
  · refine Good.condT (decide_eq_true c762) (by kernel_rfl) ?_
    refine Good.seq ?_
    obtain ⟨t763, h764, H⟩ := bindS H
    refine Good.reg hN [B t763] (.cons (clavigerlaw19_awake.con h764).c .nil) [] (by kernel_rfl) ?_
    obtain rfl := Option.some.inj H
    exact Good.ret (fin.doneR (by kernel_rfl))
  refine Good.condF (decide_eq_false c762) (by kernel_rfl) ?_
  refine Good.skip ?_
  refine Good.seq ?_
  obtain ⟨t765, h766, H⟩ := bindS H
  refine Good.reg hN [.tup [.row (some 40) 5 (List.map (v40 1) t765.1), .agg [I t765.2.1, I t765.2.2]]] (.cons (tlv_Decode.con h766).c .nil) [] (by kernel_rfl) ?_
  refine Good.seq ?_
  obtain ⟨t767, h768, H⟩ := bindS H
  refine Good.reg hN [.tup [.row none 5 (List.map (v40 0) t767.1), .agg [I t767.2.1, I t767.2.2]]] (.cons (cr19_Decode.con h768).c .nil) [] (by kernel_rfl) ?_
  refine Good.seq ?_
  obtain ⟨t769, h770, H⟩ := bindS H
  refine Good.reg hN [.row (some 36) 1 (List.map Cx t769)] (.cons (tlv_Spans.con h770).c .nil) [] (by kernel_rfl) ?_
  refine Good.seq ?_
  obtain ⟨t771, h772, H⟩ := bindS H
  refine Good.reg hN [.tup [.row none 1 (List.map I t771.1), .row none 1 (List.map I t771.2)]] (.cons (cr19_Spans.con h772).c .nil) [] (by kernel_rfl) ?_
  refine Good.seq ?_
  refine Good.seq ?_
  refine Good.cut (fun st => ∃ (x7 : List (Nat × Nat)) (x8 : List Int) (x9 : List Int) (x47 : Bool) (x1000 : Int) (x1001 : Int) (x2000 : Int) (x2001 : Int), Wk C st ⟨[(7, .d (.v (.row (some 36) 1 (List.map Cx x7)))), (8, .d (.v (.row none 1 (List.map I x8)))), (9, .d (.v (.row none 1 (List.map I x9)))), (47, .d (.v (B x47)))], [.cells [.v (I x1000), .v (I x1001)], .cells [.v (I x2000), .v (I x2001)]]⟩ ∧ clavigerlaw19_TlvTells.j0 k x7 x8 x9 x47 = some r) ?_ ?_
  · obtain ⟨t773, h774, H⟩ := bindS H
    rcases (ifC H).symm with ⟨c775, H⟩ | ⟨c775, H⟩
    · refine Good.reg hN [.row none 5 (List.map (v40 0) t765.1), B t773, B true, B true] (.cons (shrM (some 40) 5 (v40 1) (v40 0) t765.1 (v40.shr _)) (.cons (cp_Same.con h774).c (.cons (notT (Bool.eq_false_iff.2 c775)) (.cons (rfl : true = true) .nil)))) [] (by kernel_rfl) ?_
      exact ⟨t769, t771.1, t771.2, true, t765.2.1, t765.2.2, t767.2.1, t767.2.2, Wk.of [(7, 0), (8, 0), (9, 0), (47, 0)] (by kernel_rfl) (by kernel_rfl), H⟩
    rcases ifC H with ⟨c776, H⟩ | ⟨c776, H⟩
    · refine Good.reg hN [.row none 5 (List.map (v40 0) t765.1), B t773, B false, B false, I (t769.length : Int), I (t771.1.length : Int)] (.cons (shrM (some 40) 5 (v40 1) (v40 0) t765.1 (v40.shr _)) (.cons (cp_Same.con h774).c (.cons (notF c775) (.cons (notF c776) (.cons (lenM Cx t769) (.cons (lenM I t771.1) .nil)))))) [] (by kernel_rfl) ?_
      exact ⟨t769, t771.1, t771.2, ((t769.length : Int) != (t771.1.length : Int)), t765.2.1, t765.2.2, t767.2.1, t767.2.2, Wk.of [(7, 0), (8, 0), (9, 0), (47, 0)] (by kernel_rfl) (by kernel_rfl), H⟩
    refine Good.reg hN [.row none 5 (List.map (v40 0) t765.1), B t773, B false, B true] (.cons (shrM (some 40) 5 (v40 1) (v40 0) t765.1 (v40.shr _)) (.cons (cp_Same.con h774).c (.cons (notF c775) (.cons (notT (Bool.eq_false_iff.2 c776)) .nil)))) [] (by kernel_rfl) ?_
    exact ⟨t769, t771.1, t771.2, true, t765.2.1, t765.2.2, t767.2.1, t767.2.2, Wk.of [(7, 0), (8, 0), (9, 0), (47, 0)] (by kernel_rfl) (by kernel_rfl), H⟩
  clear H
  rintro st ⟨x7, x8, x9, x47, x1000, x1001, x2000, x2001, W, H⟩
  rcases k with _ | k
  · cases H
  refine W.good ?_
  rw [clavigerlaw19_TlvTells.j0] at H
  rcases ifC H with ⟨c777, H⟩ | ⟨c777, H⟩
  · refine Good.condT c777 (by kernel_rfl) ?_
    refine Good.seq ?_
    refine Good.reg hN [] .nil [] (by kernel_rfl) ?_
    obtain rfl := Option.some.inj H
    exact Good.ret (fin.doneR (by kernel_rfl))
  refine Good.condF (Bool.eq_false_iff.2 c777) (by kernel_rfl) ?_
  refine Good.skip ?_
  refine Good.seq ?_
  refine Good.seq ?_
  refine Good.reg hN [] .nil [] (by kernel_rfl) ?_
  refine Good.block ?_
  refine Good.loopN (fun k' st => ∃ (x7 : List (Nat × Nat)) (x8 : List Int) (x9 : List Int) (x10 : Int) (x1000 : Int) (x1001 : Int) (x2000 : Int) (x2001 : Int), k' ≤ k ∧ Wk C st ⟨[(7, .d (.v (.row (some 36) 1 (List.map Cx x7)))), (8, .d (.v (.row none 1 (List.map I x8)))), (9, .d (.v (.row none 1 (List.map I x9)))), (10, .d (.v (I x10)))], [.cells [.v (I x1000), .v (I x1001)], .cells [.v (I x2000), .v (I x2001)]]⟩ ∧ clavigerlaw19_TlvTells.l0 k' x7 x8 x9 x10 = some r) k ⟨x7, x8, x9, 0, x1000, x1001, x2000, x2001, Nat.le_refl _, Wk.of [(7, 0), (8, 0), (9, 0), (10, 0)] (by kernel_rfl) (by kernel_rfl), H⟩ fun k => ⟨fun st h => (by obtain ⟨_, _, _, _, _, _, _, _, _, _, H⟩ := h; cases H), ?_⟩
  clear H
  rintro st ⟨x7, x8, x9, x10, x1000, x1001, x2000, x2001, hk, W, H⟩
  refine W.good ?_
  rw [clavigerlaw19_TlvTells.l0] at H
  refine Good.seq ?_
  refine Good.seq ?_
  refine Good.reg hN [I (x7.length : Int)] (.cons (lenM Cx x7) .nil) [] (by kernel_rfl) ?_
  rcases (ifC H).symm with ⟨c778, H⟩ | ⟨c778, H⟩
  · refine Good.condF (decide_eq_false c778) (by kernel_rfl) ?_
    refine Good.exit ?_
    refine Good.seq ?_
    obtain ⟨t785, h786, H⟩ := bindS H
    refine Good.reg hN [B t785] (.cons (clavigerlaw19_awake.con h786).c .nil) [] (by kernel_rfl) ?_
    obtain rfl := Option.some.inj H
    exact Good.ret (fin.doneR (by kernel_rfl))
  refine Good.condT (decide_eq_true c778) (by kernel_rfl) ?_
  refine Good.skip ?_
  refine Good.seq ?_
  refine Good.block ?_
  refine Good.seq ?_
  obtain ⟨c779, H⟩ := ifS H
  obtain ⟨c780, H⟩ := ifS H
  obtain ⟨c781, H⟩ := ifS H
  obtain ⟨t782, h783, H⟩ := bindS H
  refine Good.regDF hm hN (.q 0 [] (.q 1 [] (.q 2 [] (.q 3 [] (.q 4 [] (.q 5 [] (.q 6 [] (.q 7 [] (.q 8 [] (.q 9 [] (.q 10 [] (.q 11 [] (.e 12 (.q 13 [] .z)))))))))))))) [(7, some (.row none 1 (List.map Cx x7))), (8, none), (9, none), (10, none)] (by kernel_rfl) (.cons (shrM (some 36) 1 Cx Cx x7 (fun _ => rfl)) .nil) [Cx (rdOf ((0, 0) : Nat × Nat) x7 x10), I (rd x8 x10), I (rd x9 x10), Cx t782] [Cx (rdOf ((0, 0) : Nat × Nat) x7 x10), I (rd x8 x10), I (rd x9 x10)] (.cons c779 (.cons (ltM Cx c778) (.cons (atM Cx ((0, 0) : Nat × Nat) c779 c778) (.cons c779 (.cons (atM I (0 : Int) c779 c780) (.cons c779 (.cons (atM I (0 : Int) c779 c781) (.cons (span_Of.con h783).c .nil)))))))) (.cons c779 (.cons (atM Cx ((0, 0) : Nat × Nat) c779 c778) (.cons c779 (.cons (atM I (0 : Int) c779 c780) (.cons c779 (.cons (atM I (0 : Int) c779 c781) .nil)))))) [] [] (by kernel_rfl) (by kernel_rfl) ?_
  rcases ifC H with ⟨c784, H⟩ | ⟨c784, H⟩
  · refine Good.condF (notF c784) (by kernel_rfl) ?_
    refine Good.skip ?_
    refine Good.reg hN [] .nil [] (by kernel_rfl) ?_
    exact ⟨k, by omega, x7, x8, x9, wrap64 (x10 + 1), x1000, x1001, x2000, x2001, by omega, Wk.of [(7, 0), (8, 0), (9, 0), (10, 0)] (by kernel_rfl) (by kernel_rfl), H⟩
  refine Good.condT (notT (Bool.eq_false_iff.2 c784)) (by kernel_rfl) ?_
  refine Good.seq ?_
  refine Good.reg hN [] .nil [] (by kernel_rfl) ?_
  obtain rfl := Option.some.inj H
  exact Good.ret (fin.doneR (by kernel_rfl))
def span_Inside.f (a0 : (Nat × Nat)) (a1 : (Nat × Nat)) : Option (Bool) := (span_May.f a0).bind fun t787 => (if t787 = true then ((span_May.f a1).bind fun t790 => (if t790 = true then (if (fge a0.1 a1.1) = true then (some (fle a0.2 a1.2)) else (some false)) else (some false))) else (some false))
theorem span_Inside.con {a0 : (Nat × Nat)} {a1 : (Nat × Nat)} {r : (Bool)} (H : span_Inside.f a0 a1 = some r) : Con Tryd.prog 13 [Cx a0, Cx a1] (B r) := by
  refine con_of_good Tryd.func13 rfl (by kernel_rfl) (by kernel_rfl) fun C hN hL => ?_
  unfold span_Inside.f at H
  refine Good.seq ?_
  refine Good.reg hN [] .nil [] (by kernel_rfl) ?_
  refine Good.seq ?_
  obtain ⟨t787, h788, H⟩ := bindS H
  rcases (ifC H).symm with ⟨c789, H⟩ | ⟨c789, H⟩
  · refine Good.reg hN [B t787, B false, B false, B false] (.cons (span_May.con h788).c (.cons (Bool.eq_false_iff.2 c789) (.cons (rfl : false = false) (.cons (rfl : false = false) .nil)))) [] (by kernel_rfl) ?_
    obtain rfl := Option.some.inj H
    exact Good.ret (fin.doneR (by kernel_rfl))
  obtain ⟨t790, h791, H⟩ := bindS H
  rcases (ifC H).symm with ⟨c792, H⟩ | ⟨c792, H⟩
  · refine Good.reg hN [B t787, B true, B t790, B false, B false] (.cons (span_May.con h788).c (.cons c789 (.cons (span_May.con h791).c (.cons (Bool.eq_false_iff.2 c792) (.cons (rfl : false = false) .nil))))) [] (by kernel_rfl) ?_
    obtain rfl := Option.some.inj H
    exact Good.ret (fin.doneR (by kernel_rfl))
  rcases ifC H with ⟨c793, H⟩ | ⟨c793, H⟩
  · refine Good.reg hN [B t787, B true, B t790, B true, B true] (.cons (span_May.con h788).c (.cons c789 (.cons (span_May.con h791).c (.cons c792 (.cons c793 .nil))))) [] (by kernel_rfl) ?_
    obtain rfl := Option.some.inj H
    exact Good.ret (fin.doneR (by kernel_rfl))
  refine Good.reg hN [B t787, B true, B t790, B true, B false] (.cons (span_May.con h788).c (.cons c789 (.cons (span_May.con h791).c (.cons c792 (.cons (Bool.eq_false_iff.2 c793) .nil))))) [] (by kernel_rfl) ?_
  obtain rfl := Option.some.inj H
  exact Good.ret (fin.doneR (by kernel_rfl))
def span_Apart.f (a0 : (Nat × Nat)) (a1 : (Nat × Nat)) : Option (Bool) := (span_May.f a0).bind fun t794 => (if t794 = true then ((span_May.f a1).bind fun t797 => (if t797 = true then (if (fle a0.2 a1.1) = true then (some true) else (some (fle a1.2 a0.1))) else (some false))) else (some false))
theorem span_Apart.con {a0 : (Nat × Nat)} {a1 : (Nat × Nat)} {r : (Bool)} (H : span_Apart.f a0 a1 = some r) : Con Tryd.prog 14 [Cx a0, Cx a1] (B r) := by
  refine con_of_good Tryd.func14 rfl (by kernel_rfl) (by kernel_rfl) fun C hN hL => ?_
  unfold span_Apart.f at H
  refine Good.seq ?_
  refine Good.reg hN [] .nil [] (by kernel_rfl) ?_
  refine Good.seq ?_
  obtain ⟨t794, h795, H⟩ := bindS H
  rcases (ifC H).symm with ⟨c796, H⟩ | ⟨c796, H⟩
  · refine Good.reg hN [B t794, B false, B false] (.cons (span_May.con h795).c (.cons (Bool.eq_false_iff.2 c796) (.cons (rfl : false = false) .nil))) [] (by kernel_rfl) ?_
    obtain rfl := Option.some.inj H
    exact Good.ret (fin.doneR (by kernel_rfl))
  obtain ⟨t797, h798, H⟩ := bindS H
  rcases (ifC H).symm with ⟨c799, H⟩ | ⟨c799, H⟩
  · refine Good.reg hN [B t794, B true, B t797, B false] (.cons (span_May.con h795).c (.cons c796 (.cons (span_May.con h798).c (.cons (Bool.eq_false_iff.2 c799) .nil)))) [] (by kernel_rfl) ?_
    obtain rfl := Option.some.inj H
    exact Good.ret (fin.doneR (by kernel_rfl))
  rcases ifC H with ⟨c800, H⟩ | ⟨c800, H⟩
  · refine Good.reg hN [B t794, B true, B t797, B true, B true] (.cons (span_May.con h795).c (.cons c796 (.cons (span_May.con h798).c (.cons c799 (.cons c800 .nil))))) [] (by kernel_rfl) ?_
    obtain rfl := Option.some.inj H
    exact Good.ret (fin.doneR (by kernel_rfl))
  refine Good.reg hN [B t794, B true, B t797, B true, B false] (.cons (span_May.con h795).c (.cons c796 (.cons (span_May.con h798).c (.cons c799 (.cons (Bool.eq_false_iff.2 c800) .nil))))) [] (by kernel_rfl) ?_
  obtain rfl := Option.some.inj H
  exact Good.ret (fin.doneR (by kernel_rfl))
mutual
def clavigerlaw19_TlvNests.l0 : Nat → ByteArray → List S40 → List (Nat × Nat) → Int → Option (Bool)
 | 0, _, _, _, _ => none
 | k + 1, x0, x3, x5, x6 => if x6 < (x3.length : Int) then (if 0 ≤ x6 then (clavigerlaw19_TlvNests.l1 k x0 x3 x5 x6 ((rd_T40 x3 x6).f4) (((rd_T40 x3 x6).f4).length : Int) 0) else (none)) else ((tlv_Pieces.f k x0).bind fun t852 => (if (t852.1.length : Int) = 1 then (if 0 < (t852.1.length : Int) then (if (rdOf ByteArray.empty t852.1 0).toList = x0.toList then (if t852.2.1 = 0 then ((clavigerlaw19_awake.f k).bind fun t858 => (some t858)) else (some false)) else (some false)) else (none)) else (some false)))
def clavigerlaw19_TlvNests.l1 : Nat → ByteArray → List S40 → List (Nat × Nat) → Int → List Int → Int → Int → Option (Bool)
 | 0, _, _, _, _, _, _, _ => none
 | k + 1, x0, x3, x5, x6, x77, x78, x79 => if x79 < x78 then (if 0 ≤ x79 then (if x79 < (x77.length : Int) then (if (rd x77 x79) ≤ x6 then (some false) else (if (rd x77 x79) ≥ (x3.length : Int) then (some false) else (if 0 ≤ (rd x77 x79) then (if (rd x77 x79) < (x5.length : Int) then (if 0 ≤ x6 then (if x6 < (x5.length : Int) then ((span_Inside.f (rdOf ((0, 0) : Nat × Nat) x5 (rd x77 x79)) (rdOf ((0, 0) : Nat × Nat) x5 x6)).bind fun t870 => (if t870 = true then (if x79 > 0 then (if x6 < (x3.length : Int) then (if 0 ≤ (wrap64 (x79 - 1)) then (if (wrap64 (x79 - 1)) < (((rd_T40 x3 x6).f4).length : Int) then (if 0 ≤ (rd ((rd_T40 x3 x6).f4) (wrap64 (x79 - 1))) then (if (rd ((rd_T40 x3 x6).f4) (wrap64 (x79 - 1))) < (x5.length : Int) then ((span_Apart.f (rdOf ((0, 0) : Nat × Nat) x5 (rd x77 x79)) (rdOf ((0, 0) : Nat × Nat) x5 (rd ((rd_T40 x3 x6).f4) (wrap64 (x79 - 1))))).bind fun t879 => (if t879 = true then (clavigerlaw19_TlvNests.l1 k x0 x3 x5 x6 x77 x78 (wrap64 (x79 + 1))) else (some false))) else (none)) else (none)) else (none)) else (none)) else (none)) else (clavigerlaw19_TlvNests.l1 k x0 x3 x5 x6 x77 x78 (wrap64 (x79 + 1)))) else (some false))) else (none)) else (none)) else (none)) else (none)))) else (none)) else (none)) else (clavigerlaw19_TlvNests.l0 k x0 x3 x5 (wrap64 (x6 + 1)))
end
def clavigerlaw19_TlvNests.j0 : Nat → ByteArray → List S40 → List (Nat × Nat) → Bool → Option (Bool)
 | 0, _, _, _, _ => none
 | k + 1, x0, x3, x5, x66 => if x66 = true then (some false) else (clavigerlaw19_TlvNests.l0 k x0 x3 x5 0)
def clavigerlaw19_TlvNests.f (k : Nat) (a0 : ByteArray) : Option (Bool) := if (a0.size : Int) > 500 then ((clavigerlaw19_awake.f k).bind fun t832 => (some t832)) else ((tlv_Decode.f k a0).bind fun t834 => ((tlv_Spans.f k a0).bind fun t836 => (if t834.2.1 = 0 then (if (t836.length : Int) = (t834.1.length : Int) then (if (t834.1.length : Int) = 0 then (clavigerlaw19_TlvNests.j0 k a0 t834.1 t836 true) else (if 0 < (t836.length : Int) then ((span_Of.f 0 (a0.size : Int)).bind fun t848 => (clavigerlaw19_TlvNests.j0 k a0 t834.1 t836 (!(feq (rdOf ((0, 0) : Nat × Nat) t836 0).1 t848.1 && feq (rdOf ((0, 0) : Nat × Nat) t836 0).2 t848.2)))) else (none))) else (clavigerlaw19_TlvNests.j0 k a0 t834.1 t836 true)) else (if (t834.1.length : Int) = 0 then (if (t836.length : Int) = 0 then (if t834.2.2 ≥ 0 then (if t834.2.2 ≤ (a0.size : Int) then ((clavigerlaw19_awake.f k).bind fun t843 => (some t843)) else (some false)) else (some false)) else (some false)) else (some false)))))
theorem clavigerlaw19_TlvNests.con {k : Nat} {a0 : ByteArray} {r : (Bool)} (H : clavigerlaw19_TlvNests.f k a0 = some r) : Con Tryd.prog 4 [S a0] (B r) := by
  refine con_of_good Tryd.func4 rfl (by kernel_rfl) (by kernel_rfl) fun C hN hL => ?_
  unfold clavigerlaw19_TlvNests.f at H
  refine Good.seq ?_
  refine Good.reg hN [] .nil [] (by kernel_rfl) ?_
  refine Good.seq ?_
  refine Good.seq ?_
  refine Good.reg hN [] .nil [] (by kernel_rfl) ?_
  rcases ifC H with ⟨c831, H⟩ | ⟨c831, H⟩
  · refine Good.condT (decide_eq_true c831) (by kernel_rfl) ?_
    refine Good.seq ?_
    obtain ⟨t832, h833, H⟩ := bindS H
    refine Good.reg hN [B t832] (.cons (clavigerlaw19_awake.con h833).c .nil) [] (by kernel_rfl) ?_
    obtain rfl := Option.some.inj H
    exact Good.ret (fin.doneR (by kernel_rfl))
  refine Good.condF (decide_eq_false c831) (by kernel_rfl) ?_
  refine Good.skip ?_
  refine Good.seq ?_
  obtain ⟨t834, h835, H⟩ := bindS H
  refine Good.reg hN [.tup [.row (some 40) 5 (List.map (v40 1) t834.1), .agg [I t834.2.1, I t834.2.2]]] (.cons (tlv_Decode.con h835).c .nil) [] (by kernel_rfl) ?_
  refine Good.seq ?_
  refine Good.share 3 (d := .v (.row (some 40) 5 (List.map (v40 1) t834.1))) (u := .v (.row none 5 (List.map (v40 0) t834.1))) (by kernel_rfl) (congrArg D.v (shrM (some 40) 5 (v40 1) (v40 0) t834.1 (v40.shr _))) ?_
  obtain ⟨t836, h837, H⟩ := bindS H
  refine Good.reg hN [.row (some 36) 1 (List.map Cx t836)] (.cons (tlv_Spans.con h837).c .nil) [] (by kernel_rfl) ?_
  refine Good.seq ?_
  refine Good.seq ?_
  refine Good.reg hN [] .nil [] (by kernel_rfl) ?_
  rcases (ifC H).symm with ⟨c838, H⟩ | ⟨c838, H⟩
  · refine Good.condT (bne_iff_ne.2 c838) (by kernel_rfl) ?_
    refine Good.seq ?_
    rcases (ifC H).symm with ⟨c839, H⟩ | ⟨c839, H⟩
    · refine Good.reg hN [I (t834.1.length : Int), B false, B false, B false, B false] (.cons (lenM (v40 0) t834.1) (.cons (beq_eq_false_iff_ne.2 c839) (.cons (rfl : false = false) (.cons (rfl : false = false) (.cons (rfl : false = false) .nil))))) [] (by kernel_rfl) ?_
      obtain rfl := Option.some.inj H
      exact Good.ret (fin.doneR (by kernel_rfl))
    rcases (ifC H).symm with ⟨c840, H⟩ | ⟨c840, H⟩
    · refine Good.reg hN [I (t834.1.length : Int), B true, I (t836.length : Int), B false, B false, B false] (.cons (lenM (v40 0) t834.1) (.cons (beq_iff_eq.2 c839) (.cons (lenM Cx t836) (.cons (beq_eq_false_iff_ne.2 c840) (.cons (rfl : false = false) (.cons (rfl : false = false) .nil)))))) [] (by kernel_rfl) ?_
      obtain rfl := Option.some.inj H
      exact Good.ret (fin.doneR (by kernel_rfl))
    rcases (ifC H).symm with ⟨c841, H⟩ | ⟨c841, H⟩
    · refine Good.reg hN [I (t834.1.length : Int), B true, I (t836.length : Int), B true, B false, B false] (.cons (lenM (v40 0) t834.1) (.cons (beq_iff_eq.2 c839) (.cons (lenM Cx t836) (.cons (beq_iff_eq.2 c840) (.cons (decide_eq_false c841) (.cons (rfl : false = false) .nil)))))) [] (by kernel_rfl) ?_
      obtain rfl := Option.some.inj H
      exact Good.ret (fin.doneR (by kernel_rfl))
    rcases (ifC H).symm with ⟨c842, H⟩ | ⟨c842, H⟩
    · refine Good.reg hN [I (t834.1.length : Int), B true, I (t836.length : Int), B true, B true, B false] (.cons (lenM (v40 0) t834.1) (.cons (beq_iff_eq.2 c839) (.cons (lenM Cx t836) (.cons (beq_iff_eq.2 c840) (.cons (decide_eq_true c841) (.cons (decide_eq_false c842) .nil)))))) [] (by kernel_rfl) ?_
      obtain rfl := Option.some.inj H
      exact Good.ret (fin.doneR (by kernel_rfl))
    obtain ⟨t843, h844, H⟩ := bindS H
    refine Good.reg hN [I (t834.1.length : Int), B true, I (t836.length : Int), B true, B true, B true, B t843] (.cons (lenM (v40 0) t834.1) (.cons (beq_iff_eq.2 c839) (.cons (lenM Cx t836) (.cons (beq_iff_eq.2 c840) (.cons (decide_eq_true c841) (.cons (decide_eq_true c842) (.cons (clavigerlaw19_awake.con h844).c .nil))))))) [] (by kernel_rfl) ?_
    obtain rfl := Option.some.inj H
    exact Good.ret (fin.doneR (by kernel_rfl))
  refine Good.condF (bneF c838) (by kernel_rfl) ?_
  refine Good.skip ?_
  refine Good.seq ?_
  refine Good.seq ?_
  refine Good.cut (fun st => ∃ (x0 : ByteArray) (x3 : List S40) (x5 : List (Nat × Nat)) (x66 : Bool) (x1000 : Int) (x1001 : Int), Wk C st ⟨[(0, .d (.v (S x0))), (3, .d (.v (.row none 5 (List.map (v40 0) x3)))), (5, .d (.v (.row (some 36) 1 (List.map Cx x5)))), (66, .d (.v (B x66)))], [.cells [.v (I x1000), .v (I x1001)]]⟩ ∧ clavigerlaw19_TlvNests.j0 k x0 x3 x5 x66 = some r) ?_ ?_
  · rcases (ifC H).symm with ⟨c845, H⟩ | ⟨c845, H⟩
    · refine Good.regDF hm hN (.q 0 [] (.q 1 [] (.q 2 [] (.q 3 [] (.q 4 [] (.q 5 [] (.k 53 (.i 6 (.i 7 (.i 8 (.q 9 [] (.q 10 [] (.k 58 (.i 11 (.i 12 (.i 13 (.i 14 (.i 15 (.i 16 (.i 17 (.q 18 [] .z))))))))))))))))))))) [(0, none), (3, none), (5, some (.row none 1 (List.map Cx t836)))] (by kernel_rfl) (.cons (shrM (some 36) 1 Cx Cx t836 (fun _ => rfl)) .nil) [I (t836.length : Int), I (t834.1.length : Int), B true, B true] [I (t836.length : Int), I (t834.1.length : Int)] (.cons (lenM Cx t836) (.cons (lenM (v40 0) t834.1) (.cons (bne_iff_ne.2 c845) (.cons (rfl : true = true) .nil)))) (.cons (lenM Cx t836) (.cons (lenM (v40 0) t834.1) (.cons (bne_iff_ne.2 c845) (.cons (rfl : true = true) .nil)))) [] [] (by kernel_rfl) (by kernel_rfl) ?_
      exact ⟨a0, t834.1, t836, true, t834.2.1, t834.2.2, Wk.of [(0, 0), (3, 0), (5, 0), (66, 0)] (by kernel_rfl) (by kernel_rfl), H⟩
    rcases ifC H with ⟨c846, H⟩ | ⟨c846, H⟩
    · refine Good.regDF hm hN (.q 0 [] (.q 1 [] (.q 2 [] (.q 3 [] (.q 4 [] (.q 5 [] (.k 53 (.q 6 [] (.q 7 [] (.q 8 [] (.q 9 [] (.q 10 [] (.k 58 (.i 11 (.i 12 (.i 13 (.i 14 (.i 15 (.i 16 (.i 17 (.q 18 [] .z))))))))))))))))))))) [(0, none), (3, none), (5, some (.row none 1 (List.map Cx t836)))] (by kernel_rfl) (.cons (shrM (some 36) 1 Cx Cx t836 (fun _ => rfl)) .nil) [I (t836.length : Int), I (t834.1.length : Int), B false, I (t834.1.length : Int), B true] [I (t836.length : Int), I (t834.1.length : Int), I (t834.1.length : Int)] (.cons (lenM Cx t836) (.cons (lenM (v40 0) t834.1) (.cons (bneF c845) (.cons (lenM (v40 0) t834.1) (.cons (beq_iff_eq.2 c846) .nil))))) (.cons (lenM Cx t836) (.cons (lenM (v40 0) t834.1) (.cons (bneF c845) (.cons (lenM (v40 0) t834.1) (.cons (beq_iff_eq.2 c846) .nil))))) [] [] (by kernel_rfl) (by kernel_rfl) ?_
      exact ⟨a0, t834.1, t836, true, t834.2.1, t834.2.2, Wk.of [(0, 0), (3, 0), (5, 0), (66, 0)] (by kernel_rfl) (by kernel_rfl), H⟩
    obtain ⟨c847, H⟩ := ifS H
    obtain ⟨t848, h849, H⟩ := bindS H
    refine Good.regDF hm hN (.q 0 [] (.q 1 [] (.q 2 [] (.q 3 [] (.q 4 [] (.q 5 [] (.k 53 (.q 6 [] (.q 7 [] (.q 8 [] (.q 9 [] (.q 10 [] (.k 58 (.q 11 [] (.q 12 [] (.q 13 [] (.q 14 [] (.q 15 [] (.e 16 (.q 17 [] (.q 18 [] .z))))))))))))))))))))) [(0, none), (3, none), (5, some (.row none 1 (List.map Cx t836)))] (by kernel_rfl) (.cons (shrM (some 36) 1 Cx Cx t836 (fun _ => rfl)) .nil) [I (t836.length : Int), I (t834.1.length : Int), B false, I (t834.1.length : Int), B false, Cx (rdOf ((0, 0) : Nat × Nat) t836 0), Cx t848] [I (t836.length : Int), I (t834.1.length : Int), I (t834.1.length : Int), Cx (rdOf ((0, 0) : Nat × Nat) t836 0)] (.cons (lenM Cx t836) (.cons (lenM (v40 0) t834.1) (.cons (bneF c845) (.cons (lenM (v40 0) t834.1) (.cons (beq_eq_false_iff_ne.2 c846) (.cons (show (0 : Int) ≤ 0 by decide) (.cons (ltM Cx c847) (.cons (atM Cx ((0, 0) : Nat × Nat) (show (0 : Int) ≤ 0 by decide) c847) (.cons (span_Of.con h849).c .nil))))))))) (.cons (lenM Cx t836) (.cons (lenM (v40 0) t834.1) (.cons (bneF c845) (.cons (lenM (v40 0) t834.1) (.cons (beq_eq_false_iff_ne.2 c846) (.cons (show (0 : Int) ≤ 0 by decide) (.cons (atM Cx ((0, 0) : Nat × Nat) (show (0 : Int) ≤ 0 by decide) c847) .nil))))))) [] [] (by kernel_rfl) (by kernel_rfl) ?_
    exact ⟨a0, t834.1, t836, !(feq (rdOf ((0, 0) : Nat × Nat) t836 0).1 t848.1 && feq (rdOf ((0, 0) : Nat × Nat) t836 0).2 t848.2), t834.2.1, t834.2.2, Wk.of [(0, 0), (3, 0), (5, 0), (66, 0)] (by kernel_rfl) (by kernel_rfl), H⟩
  clear H
  rintro st ⟨x0, x3, x5, x66, x1000, x1001, W, H⟩
  rcases k with _ | k
  · cases H
  refine W.good ?_
  rw [clavigerlaw19_TlvNests.j0] at H
  rcases ifC H with ⟨c850, H⟩ | ⟨c850, H⟩
  · refine Good.condT c850 (by kernel_rfl) ?_
    refine Good.seq ?_
    refine Good.reg hN [] .nil [] (by kernel_rfl) ?_
    obtain rfl := Option.some.inj H
    exact Good.ret (fin.doneR (by kernel_rfl))
  refine Good.condF (Bool.eq_false_iff.2 c850) (by kernel_rfl) ?_
  refine Good.skip ?_
  refine Good.seq ?_
  refine Good.seq ?_
  refine Good.reg hN [] .nil [] (by kernel_rfl) ?_
  refine Good.block ?_
  refine Good.loopN (fun k' st => ∃ (x0 : ByteArray) (x3 : List S40) (x5 : List (Nat × Nat)) (x6 : Int) (x1000 : Int) (x1001 : Int), k' ≤ k ∧ Wk C st ⟨[(0, .d (.v (S x0))), (3, .d (.v (.row none 5 (List.map (v40 0) x3)))), (5, .d (.v (.row (some 36) 1 (List.map Cx x5)))), (6, .d (.v (I x6)))], [.cells [.v (I x1000), .v (I x1001)]]⟩ ∧ clavigerlaw19_TlvNests.l0 k' x0 x3 x5 x6 = some r) k ⟨x0, x3, x5, 0, x1000, x1001, Nat.le_refl _, Wk.of [(0, 0), (3, 0), (5, 0), (6, 0)] (by kernel_rfl) (by kernel_rfl), H⟩ fun k => ⟨fun st h => (by obtain ⟨_, _, _, _, _, _, _, _, H⟩ := h; cases H), ?_⟩
  clear H
  rintro st ⟨x0, x3, x5, x6, x1000, x1001, hk, W, H⟩
  refine W.good ?_
  rw [clavigerlaw19_TlvNests.l0] at H
  refine Good.seq ?_
  refine Good.seq ?_
  refine Good.reg hN [I (x3.length : Int)] (.cons (lenM (v40 0) x3) .nil) [] (by kernel_rfl) ?_
  rcases (ifC H).symm with ⟨c851, H⟩ | ⟨c851, H⟩
  · refine Good.condF (decide_eq_false c851) (by kernel_rfl) ?_
    refine Good.exit ?_
    refine Good.seq ?_
    obtain ⟨t852, h853, H⟩ := bindS H
    refine Good.reg hN [.tup [.row (some 9) 1 (List.map S t852.1), .agg [I t852.2.1, I t852.2.2]]] (.cons (tlv_Pieces.con h853).c .nil) [] (by kernel_rfl) ?_
    refine Good.seq ?_
    rcases (ifC H).symm with ⟨c854, H⟩ | ⟨c854, H⟩
    · refine Good.reg hN [I (t852.1.length : Int), B false, B false, B false] (.cons (lenM S t852.1) (.cons (beq_eq_false_iff_ne.2 c854) (.cons (rfl : false = false) (.cons (rfl : false = false) .nil)))) [] (by kernel_rfl) ?_
      obtain rfl := Option.some.inj H
      exact Good.ret (fin.doneR (by kernel_rfl))
    obtain ⟨c855, H⟩ := ifS H
    rcases (ifC H).symm with ⟨c856, H⟩ | ⟨c856, H⟩
    · refine Good.reg hN [I (t852.1.length : Int), B true, S (rdOf ByteArray.empty t852.1 0), B false, B false] (.cons (lenM S t852.1) (.cons (beq_iff_eq.2 c854) (.cons (show (0 : Int) ≤ 0 by decide) (.cons (ltM S c855) (.cons (atM S ByteArray.empty (show (0 : Int) ≤ 0 by decide) c855) (.cons (beq_eq_false_iff_ne.2 c856) (.cons (rfl : false = false) .nil))))))) [] (by kernel_rfl) ?_
      obtain rfl := Option.some.inj H
      exact Good.ret (fin.doneR (by kernel_rfl))
    rcases (ifC H).symm with ⟨c857, H⟩ | ⟨c857, H⟩
    · refine Good.reg hN [I (t852.1.length : Int), B true, S (rdOf ByteArray.empty t852.1 0), B true, B false] (.cons (lenM S t852.1) (.cons (beq_iff_eq.2 c854) (.cons (show (0 : Int) ≤ 0 by decide) (.cons (ltM S c855) (.cons (atM S ByteArray.empty (show (0 : Int) ≤ 0 by decide) c855) (.cons (beq_iff_eq.2 c856) (.cons (beq_eq_false_iff_ne.2 c857) .nil))))))) [] (by kernel_rfl) ?_
      obtain rfl := Option.some.inj H
      exact Good.ret (fin.doneR (by kernel_rfl))
    obtain ⟨t858, h859, H⟩ := bindS H
    refine Good.reg hN [I (t852.1.length : Int), B true, S (rdOf ByteArray.empty t852.1 0), B true, B true, B t858] (.cons (lenM S t852.1) (.cons (beq_iff_eq.2 c854) (.cons (show (0 : Int) ≤ 0 by decide) (.cons (ltM S c855) (.cons (atM S ByteArray.empty (show (0 : Int) ≤ 0 by decide) c855) (.cons (beq_iff_eq.2 c856) (.cons (beq_iff_eq.2 c857) (.cons (clavigerlaw19_awake.con h859).c .nil)))))))) [] (by kernel_rfl) ?_
    obtain rfl := Option.some.inj H
    exact Good.ret (fin.doneR (by kernel_rfl))
  refine Good.condT (decide_eq_true c851) (by kernel_rfl) ?_
  refine Good.skip ?_
  refine Good.seq ?_
  refine Good.block ?_
  refine Good.seq ?_
  obtain ⟨c860, H⟩ := ifS H
  refine Good.reg hN [(v40 0) (rd_T40 x3 x6), I (((rd_T40 x3 x6).f4).length : Int)] (.cons c860 (.cons (atM (v40 0) z40 c860 c851) (.cons (lenM I ((rd_T40 x3 x6).f4)) .nil))) [] (by kernel_rfl) ?_
  refine Good.block ?_
  refine Good.loopN (fun k' st => ∃ (x0 : ByteArray) (x3 : List S40) (x5 : List (Nat × Nat)) (x6 : Int) (x77 : List Int) (x78 : Int) (x79 : Int) (x1000 : Int) (x1001 : Int), k' ≤ k ∧ Wk C st ⟨[(0, .d (.v (S x0))), (3, .d (.v (.row none 5 (List.map (v40 0) x3)))), (5, .d (.v (.row (some 36) 1 (List.map Cx x5)))), (6, .d (.v (I x6))), (77, .d (.v (.row none 1 (List.map I x77)))), (78, .d (.v (I x78))), (79, .d (.v (I x79)))], [.cells [.v (I x1000), .v (I x1001)]]⟩ ∧ clavigerlaw19_TlvNests.l1 k' x0 x3 x5 x6 x77 x78 x79 = some r) k ⟨x0, x3, x5, x6, (rd_T40 x3 x6).f4, (((rd_T40 x3 x6).f4).length : Int), 0, x1000, x1001, Nat.le_refl _, Wk.of [(0, 0), (3, 0), (5, 0), (6, 0), (77, 0), (78, 0), (79, 0)] (by kernel_rfl) (by kernel_rfl), H⟩ fun k => ⟨fun st h => (by obtain ⟨_, _, _, _, _, _, _, _, _, _, _, H⟩ := h; cases H), ?_⟩
  clear H
  rintro st ⟨x0, x3, x5, x6, x77, x78, x79, x1000, x1001, hk, W, H⟩
  refine W.good ?_
  rw [clavigerlaw19_TlvNests.l1] at H
  refine Good.seq ?_
  refine Good.reg hN [] .nil [] (by kernel_rfl) ?_
  refine Good.seq ?_
  rcases (ifC H).symm with ⟨c861, H⟩ | ⟨c861, H⟩
  · refine Good.condF (decide_eq_false c861) (by kernel_rfl) ?_
    refine Good.exit ?_
    refine Good.reg hN [] .nil [] (by kernel_rfl) ?_
    exact ⟨k, by omega, x0, x3, x5, wrap64 (x6 + 1), x1000, x1001, by omega, Wk.of [(0, 0), (3, 0), (5, 0), (6, 0)] (by kernel_rfl) (by kernel_rfl), H⟩
  refine Good.condT (decide_eq_true c861) (by kernel_rfl) ?_
  refine Good.skip ?_
  refine Good.seq ?_
  refine Good.block ?_
  refine Good.seq ?_
  obtain ⟨c862, H⟩ := ifS H
  obtain ⟨c863, H⟩ := ifS H
  refine Good.reg hN [I (rd x77 x79)] (.cons c862 (.cons (atM I (0 : Int) c862 c863) .nil)) [] (by kernel_rfl) ?_
  refine Good.seq ?_
  rcases ifC H with ⟨c864, H⟩ | ⟨c864, H⟩
  · refine Good.regDF hm hN (.q 0 [] (.q 1 [] (.q 2 [] (.q 3 [] (.k 87 (.i 4 (.i 5 (.i 6 (.i 7 (.q 8 [] (.q 9 [] (.k 93 (.i 10 (.i 11 (.i 12 (.i 13 (.i 14 (.i 15 (.i 16 (.i 17 (.i 18 (.i 19 (.q 20 [] (.q 21 [] (.k 105 (.i 22 (.i 23 (.i 24 (.i 25 (.i 26 (.i 27 (.i 28 (.i 29 (.i 30 (.i 31 (.i 32 (.i 33 (.i 34 (.i 35 (.i 36 (.i 37 (.i 38 (.i 39 (.i 40 (.i 41 (.i 42 (.i 43 (.q 44 [] .z)))))))))))))))))))))))))))))))))))))))))))))))) [(3, none), (5, some (.row none 1 (List.map Cx x5))), (6, none), (7, none), (8, none)] (by kernel_rfl) (.cons (shrM (some 36) 1 Cx Cx x5 (fun _ => rfl)) .nil) [B true, B true, B true] [] (.cons (decide_eq_true c864) (.cons (rfl : true = true) (.cons (rfl : true = true) .nil))) (.cons (decide_eq_true c864) (.cons (rfl : true = true) (.cons (rfl : true = true) .nil))) [] [] (by kernel_rfl) (by kernel_rfl) ?_
    refine Good.cond true (by kernel_rfl) ?_
    refine Good.seq ?_
    refine Good.reg hN [] .nil [] (by kernel_rfl) ?_
    obtain rfl := Option.some.inj H
    exact Good.ret (fin.doneR (by kernel_rfl))
  rcases ifC H with ⟨c865, H⟩ | ⟨c865, H⟩
  · refine Good.regDF hm hN (.q 0 [] (.q 1 [] (.q 2 [] (.q 3 [] (.k 87 (.q 4 [] (.q 5 [] (.q 6 [] (.q 7 [] (.q 8 [] (.q 9 [] (.k 93 (.i 10 (.i 11 (.i 12 (.i 13 (.i 14 (.i 15 (.i 16 (.i 17 (.i 18 (.i 19 (.q 20 [] (.q 21 [] (.k 105 (.i 22 (.i 23 (.i 24 (.i 25 (.i 26 (.i 27 (.i 28 (.i 29 (.i 30 (.i 31 (.i 32 (.i 33 (.i 34 (.i 35 (.i 36 (.i 37 (.i 38 (.i 39 (.i 40 (.i 41 (.i 42 (.i 43 (.q 44 [] .z)))))))))))))))))))))))))))))))))))))))))))))))) [(3, none), (5, some (.row none 1 (List.map Cx x5))), (6, none), (7, none), (8, none)] (by kernel_rfl) (.cons (shrM (some 36) 1 Cx Cx x5 (fun _ => rfl)) .nil) [B false, I (x3.length : Int), B true, B true] [I (x3.length : Int)] (.cons (decide_eq_false c864) (.cons (lenM (v40 0) x3) (.cons (decide_eq_true c865) (.cons (rfl : true = true) .nil)))) (.cons (decide_eq_false c864) (.cons (lenM (v40 0) x3) (.cons (decide_eq_true c865) (.cons (rfl : true = true) .nil)))) [] [] (by kernel_rfl) (by kernel_rfl) ?_
    refine Good.cond true (by kernel_rfl) ?_
    refine Good.seq ?_
    refine Good.reg hN [] .nil [] (by kernel_rfl) ?_
    obtain rfl := Option.some.inj H
    exact Good.ret (fin.doneR (by kernel_rfl))
  obtain ⟨c866, H⟩ := ifS H
  obtain ⟨c867, H⟩ := ifS H
  obtain ⟨c868, H⟩ := ifS H
  obtain ⟨c869, H⟩ := ifS H
  obtain ⟨t870, h871, H⟩ := bindS H
  rcases (ifC H).symm with ⟨c872, H⟩ | ⟨c872, H⟩
  · refine Good.regDF hm hN (.q 0 [] (.q 1 [] (.q 2 [] (.q 3 [] (.k 87 (.q 4 [] (.q 5 [] (.q 6 [] (.q 7 [] (.q 8 [] (.q 9 [] (.k 93 (.q 10 [] (.q 11 [] (.q 12 [] (.q 13 [] (.q 14 [] (.q 15 [] (.q 16 [] (.q 17 [] (.e 18 (.q 19 [] (.q 20 [] (.q 21 [] (.k 105 (.i 22 (.i 23 (.i 24 (.i 25 (.i 26 (.i 27 (.i 28 (.i 29 (.i 30 (.i 31 (.i 32 (.i 33 (.i 34 (.i 35 (.i 36 (.i 37 (.i 38 (.i 39 (.i 40 (.i 41 (.i 42 (.i 43 (.q 44 [] .z)))))))))))))))))))))))))))))))))))))))))))))))) [(3, none), (5, some (.row none 1 (List.map Cx x5))), (6, none), (7, none), (8, none)] (by kernel_rfl) (.cons (shrM (some 36) 1 Cx Cx x5 (fun _ => rfl)) .nil) [B false, I (x3.length : Int), B false, Cx (rdOf ((0, 0) : Nat × Nat) x5 (rd x77 x79)), Cx (rdOf ((0, 0) : Nat × Nat) x5 x6), B t870, B true] [I (x3.length : Int), Cx (rdOf ((0, 0) : Nat × Nat) x5 (rd x77 x79)), Cx (rdOf ((0, 0) : Nat × Nat) x5 x6)] (.cons (decide_eq_false c864) (.cons (lenM (v40 0) x3) (.cons (decide_eq_false c865) (.cons c866 (.cons (ltM Cx c867) (.cons (atM Cx ((0, 0) : Nat × Nat) c866 c867) (.cons c868 (.cons (ltM Cx c869) (.cons (atM Cx ((0, 0) : Nat × Nat) c868 c869) (.cons (span_Inside.con h871).c (.cons (notT (Bool.eq_false_iff.2 c872)) .nil))))))))))) (.cons (decide_eq_false c864) (.cons (lenM (v40 0) x3) (.cons (decide_eq_false c865) (.cons c866 (.cons (atM Cx ((0, 0) : Nat × Nat) c866 c867) (.cons c868 (.cons (atM Cx ((0, 0) : Nat × Nat) c868 c869) (.cons (notT (Bool.eq_false_iff.2 c872)) .nil)))))))) [] [] (by kernel_rfl) (by kernel_rfl) ?_
    refine Good.cond true (by kernel_rfl) ?_
    refine Good.seq ?_
    refine Good.reg hN [] .nil [] (by kernel_rfl) ?_
    obtain rfl := Option.some.inj H
    exact Good.ret (fin.doneR (by kernel_rfl))
  rcases (ifC H).symm with ⟨c873, H⟩ | ⟨c873, H⟩
  · refine Good.regDF hm hN (.q 0 [] (.q 1 [] (.q 2 [] (.q 3 [] (.k 87 (.q 4 [] (.q 5 [] (.q 6 [] (.q 7 [] (.q 8 [] (.q 9 [] (.k 93 (.q 10 [] (.q 11 [] (.q 12 [] (.q 13 [] (.q 14 [] (.q 15 [] (.q 16 [] (.q 17 [] (.e 18 (.q 19 [] (.q 20 [] (.q 21 [] (.k 105 (.q 22 [] (.q 23 [] (.q 24 [] (.k 108 (.i 25 (.i 26 (.i 27 (.i 28 (.i 29 (.i 30 (.i 31 (.i 32 (.i 33 (.i 34 (.i 35 (.i 36 (.i 37 (.i 38 (.i 39 (.i 40 (.i 41 (.i 42 (.q 43 [] (.q 44 [] .z))))))))))))))))))))))))))))))))))))))))))))))))) [(3, none), (5, some (.row none 1 (List.map Cx x5))), (6, none), (7, none), (8, none)] (by kernel_rfl) (.cons (shrM (some 36) 1 Cx Cx x5 (fun _ => rfl)) .nil) [B false, I (x3.length : Int), B false, Cx (rdOf ((0, 0) : Nat × Nat) x5 (rd x77 x79)), Cx (rdOf ((0, 0) : Nat × Nat) x5 x6), B t870, B false, B false] [I (x3.length : Int), Cx (rdOf ((0, 0) : Nat × Nat) x5 (rd x77 x79)), Cx (rdOf ((0, 0) : Nat × Nat) x5 x6)] (.cons (decide_eq_false c864) (.cons (lenM (v40 0) x3) (.cons (decide_eq_false c865) (.cons c866 (.cons (ltM Cx c867) (.cons (atM Cx ((0, 0) : Nat × Nat) c866 c867) (.cons c868 (.cons (ltM Cx c869) (.cons (atM Cx ((0, 0) : Nat × Nat) c868 c869) (.cons (span_Inside.con h871).c (.cons (notF c872) (.cons (decide_eq_false c873) .nil)))))))))))) (.cons (decide_eq_false c864) (.cons (lenM (v40 0) x3) (.cons (decide_eq_false c865) (.cons c866 (.cons (atM Cx ((0, 0) : Nat × Nat) c866 c867) (.cons c868 (.cons (atM Cx ((0, 0) : Nat × Nat) c868 c869) (.cons (notF c872) (.cons (decide_eq_false c873) .nil))))))))) [] [] (by kernel_rfl) (by kernel_rfl) ?_
    refine Good.cond false (by kernel_rfl) ?_
    refine Good.skip ?_
    refine Good.reg hN [] .nil [] (by kernel_rfl) ?_
    exact ⟨k, by omega, x0, x3, x5, x6, x77, x78, wrap64 (x79 + 1), x1000, x1001, by omega, Wk.of [(0, 0), (3, 0), (5, 0), (6, 0), (77, 0), (78, 0), (79, 0)] (by kernel_rfl) (by kernel_rfl), H⟩
  obtain ⟨c874, H⟩ := ifS H
  obtain ⟨c875, H⟩ := ifS H
  obtain ⟨c876, H⟩ := ifS H
  obtain ⟨c877, H⟩ := ifS H
  obtain ⟨c878, H⟩ := ifS H
  obtain ⟨t879, h880, H⟩ := bindS H
  refine Good.regDF hm hN (.q 0 [] (.q 1 [] (.q 2 [] (.q 3 [] (.k 87 (.q 4 [] (.q 5 [] (.q 6 [] (.q 7 [] (.q 8 [] (.q 9 [] (.k 93 (.q 10 [] (.q 11 [] (.q 12 [] (.q 13 [] (.q 14 [] (.q 15 [] (.q 16 [] (.q 17 [] (.e 18 (.q 19 [] (.q 20 [] (.q 21 [] (.k 105 (.q 22 [] (.q 23 [] (.q 24 [] (.k 108 (.q 25 [] (.q 26 [] (.q 27 [] (.q 28 [] (.q 29 [] (.q 30 [] (.q 31 [] (.q 32 [] (.q 33 [] (.q 34 [] (.q 35 [] (.q 36 [] (.q 37 [] (.q 38 [] (.q 39 [] (.q 40 [] (.e 41 (.q 42 [] (.q 43 [] (.q 44 [] .z))))))))))))))))))))))))))))))))))))))))))))))))) [(3, none), (5, some (.row none 1 (List.map Cx x5))), (6, none), (7, none), (8, none)] (by kernel_rfl) (.cons (shrM (some 36) 1 Cx Cx x5 (fun _ => rfl)) .nil) [B false, I (x3.length : Int), B false, Cx (rdOf ((0, 0) : Nat × Nat) x5 (rd x77 x79)), Cx (rdOf ((0, 0) : Nat × Nat) x5 x6), B t870, B false, B true, Cx (rdOf ((0, 0) : Nat × Nat) x5 (rd x77 x79)), (v40 0) (rd_T40 x3 x6), I (rd ((rd_T40 x3 x6).f4) (wrap64 (x79 - 1))), Cx (rdOf ((0, 0) : Nat × Nat) x5 (rd ((rd_T40 x3 x6).f4) (wrap64 (x79 - 1)))), B t879] [I (x3.length : Int), Cx (rdOf ((0, 0) : Nat × Nat) x5 (rd x77 x79)), Cx (rdOf ((0, 0) : Nat × Nat) x5 x6), Cx (rdOf ((0, 0) : Nat × Nat) x5 (rd x77 x79)), (v40 0) (rd_T40 x3 x6), I (rd ((rd_T40 x3 x6).f4) (wrap64 (x79 - 1))), Cx (rdOf ((0, 0) : Nat × Nat) x5 (rd ((rd_T40 x3 x6).f4) (wrap64 (x79 - 1))))] (.cons (decide_eq_false c864) (.cons (lenM (v40 0) x3) (.cons (decide_eq_false c865) (.cons c866 (.cons (ltM Cx c867) (.cons (atM Cx ((0, 0) : Nat × Nat) c866 c867) (.cons c868 (.cons (ltM Cx c869) (.cons (atM Cx ((0, 0) : Nat × Nat) c868 c869) (.cons (span_Inside.con h871).c (.cons (notF c872) (.cons (decide_eq_true c873) (.cons c866 (.cons (ltM Cx c867) (.cons (atM Cx ((0, 0) : Nat × Nat) c866 c867) (.cons c868 (.cons (atM (v40 0) z40 c868 c874) (.cons c875 (.cons (atM I (0 : Int) c875 c876) (.cons c877 (.cons (ltM Cx c878) (.cons (atM Cx ((0, 0) : Nat × Nat) c877 c878) (.cons (span_Apart.con h880).c .nil))))))))))))))))))))))) (.cons (decide_eq_false c864) (.cons (lenM (v40 0) x3) (.cons (decide_eq_false c865) (.cons c866 (.cons (atM Cx ((0, 0) : Nat × Nat) c866 c867) (.cons c868 (.cons (atM Cx ((0, 0) : Nat × Nat) c868 c869) (.cons (notF c872) (.cons (decide_eq_true c873) (.cons c866 (.cons (atM Cx ((0, 0) : Nat × Nat) c866 c867) (.cons c868 (.cons (atM (v40 0) z40 c868 c874) (.cons c875 (.cons (atM I (0 : Int) c875 c876) (.cons c877 (.cons (atM Cx ((0, 0) : Nat × Nat) c877 c878) .nil))))))))))))))))) [] [] (by kernel_rfl) (by kernel_rfl) ?_
  rcases ifC H with ⟨c881, H⟩ | ⟨c881, H⟩
  · refine Good.condF (notF c881) (by kernel_rfl) ?_
    refine Good.skip ?_
    refine Good.reg hN [] .nil [] (by kernel_rfl) ?_
    exact ⟨k, by omega, x0, x3, x5, x6, x77, x78, wrap64 (x79 + 1), x1000, x1001, by omega, Wk.of [(0, 0), (3, 0), (5, 0), (6, 0), (77, 0), (78, 0), (79, 0)] (by kernel_rfl) (by kernel_rfl), H⟩
  refine Good.condT (notT (Bool.eq_false_iff.2 c881)) (by kernel_rfl) ?_
  refine Good.seq ?_
  refine Good.reg hN [] .nil [] (by kernel_rfl) ?_
  obtain rfl := Option.some.inj H
  exact Good.ret (fin.doneR (by kernel_rfl))
end Go.Rf.T
