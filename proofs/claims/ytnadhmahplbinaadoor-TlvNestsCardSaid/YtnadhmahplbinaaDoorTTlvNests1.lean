import Derived.Test.YtnadhmahplbinaaDoorTTlvNests0
set_option linter.unusedSectionVars false
set_option linter.unusedSimpArgs false
set_option linter.unusedVariables false
set_option linter.unusedVariables false
namespace Go.Rf.T
open Go Go.Rf Go.Proofs Go.RowKit Go.Proofs.YtnadhmahplbinaaDoor
theorem cr15_Encode.con {k : Nat} {a0_0 : Int} {a0_1 : Int} {a0_2 : Bool} {a0_3 : Int} {r : (ByteArray × Int)} (H : cr15_Encode.f k a0_0 a0_1 a0_2 a0_3 = some r) : Con Tryd.prog 34 [.agg [I a0_0, I a0_1, B a0_2, I a0_3]] (.tup [S r.1, I r.2]) := by
  refine con_of_good Tryd.func34 rfl (by kernel_rfl) (by kernel_rfl) fun C hN hL => ?_
  unfold cr15_Encode.f at H
  refine Good.seq ?_
  refine Good.reg hN [] .nil [] (by kernel_rfl) ?_
  refine Good.seq ?_
  refine Good.seq ?_
  obtain ⟨t506, h507, H⟩ := bindS H
  refine Good.reg hN [B t506] (.cons (cr15_may.con h507).c .nil) [] (by kernel_rfl) ?_
  rcases (ifC H).symm with ⟨c508, H⟩ | ⟨c508, H⟩
  · refine Good.condT (notT (Bool.eq_false_iff.2 c508)) (by kernel_rfl) ?_
    refine Good.seq ?_
    refine Good.reg hN [] .nil [] (by kernel_rfl) ?_
    obtain rfl := Option.some.inj H
    exact Good.ret (fin.doneR (by kernel_rfl))
  refine Good.condF (notF c508) (by kernel_rfl) ?_
  refine Good.skip ?_
  refine Good.seq ?_
  refine Good.reg hN [] .nil [] (by kernel_rfl) ?_
  refine Good.seq ?_
  refine Good.seq ?_
  refine Good.reg hN [] .nil [] (by kernel_rfl) ?_
  refine Good.cut (fun st => ∃ (x4 : Int) (x1000 : Int) (x1001 : Int) (x1002 : Bool) (x1003 : Int), Wk C st ⟨[(1, .d (.ptr 0 0)), (4, .d (.v (I x4)))], [.cells [.v (I x1000), .v (I x1001), .v (B x1002), .v (I x1003)]]⟩ ∧ cr15_Encode.j0 k x4 x1001 x1003 = some r) ?_ ?_
  · rcases ifC H with ⟨c509, H⟩ | ⟨c509, H⟩
    · refine Good.condT c509 (by kernel_rfl) ?_
      refine Good.reg hN [] .nil [] (by kernel_rfl) ?_
      exact ⟨wrap64 ((wrap64 (64 * a0_0)) + 32), a0_0, a0_1, a0_2, a0_3, Wk.of [(1, 0), (4, 0)] (by kernel_rfl) (by kernel_rfl), H⟩
    refine Good.condF (Bool.eq_false_iff.2 c509) (by kernel_rfl) ?_
    refine Good.skip ?_
    exact ⟨wrap64 (64 * a0_0), a0_0, a0_1, a0_2, a0_3, Wk.of [(1, 0), (4, 0)] (by kernel_rfl) (by kernel_rfl), H⟩
  clear H
  rintro st ⟨x4, x1000, x1001, x1002, x1003, W, H⟩
  rcases k with _ | k
  · cases H
  refine W.good ?_
  rw [cr15_Encode.j0] at H
  refine Good.seq ?_
  refine Good.reg hN [] .nil [] (by kernel_rfl) ?_
  refine Good.seq ?_
  refine Good.seq ?_
  refine Good.reg hN [] .nil [] (by kernel_rfl) ?_
  refine Good.cut (fun st => ∃ (x5 : ByteArray) (x1000 : Int) (x1001 : Int) (x1002 : Bool) (x1003 : Int), Wk C st ⟨[(1, .d (.ptr 0 0)), (5, .d (.v (S x5)))], [.cells [.v (I x1000), .v (I x1001), .v (B x1002), .v (I x1003)]]⟩ ∧ cr15_Encode.j1 k x5 x1003 = some r) ?_ ?_
  · rcases ifC H with ⟨c510, H⟩ | ⟨c510, H⟩
    · refine Good.condT (decide_eq_true c510) (by kernel_rfl) ?_
      refine Good.reg hN [S (strOfNums ([(wrap64 (x4 + x1001)) % 256] : List Int))] (.cons (strN ([(wrap64 (x4 + x1001)) % 256] : List Int)) .nil) [] (by kernel_rfl) ?_
      exact ⟨strOfNums ([(wrap64 (x4 + x1001)) % 256] : List Int), x1000, x1001, x1002, x1003, Wk.of [(1, 0), (5, 0)] (by kernel_rfl) (by kernel_rfl), H⟩
    refine Good.condF (decide_eq_false c510) (by kernel_rfl) ?_
    obtain ⟨t511, h512, H⟩ := bindS H
    obtain ⟨c513, H⟩ := ifS H
    refine Good.regTB (n := 3) hm hN hL (.q 0 [] (.q 1 [] (.q 2 [] (.q 5 [] (.q 6 [] (.b 3 [] [] (.b 4 [S (strOfNums ([(wrap64 (x4 + 31)) % 256] : List Int)), S t511] [] (.e 7 (.q 8 [] (.q 9 [] .z))) [S t511, S (strOfNums ([(wrap64 (x4 + 31)) % 256] : List Int))] [] (.e 7 (.e 4 (.q 8 [] (.q 9 [] .z))))) [S t511, S (strOfNums ([(wrap64 (x4 + 31)) % 256] : List Int))] [] (.e 7 (.e 3 (.e 4 (.q 8 [] (.q 9 [] .z))))))))))) [(1, some (.pt [I x1000, I x1001, B x1002, I x1003])), (4, none)] (by kernel_rfl) (.cons (ptS (shrC (rfl : (V.shr (I x1000)) = I x1000) (shrC (rfl : (V.shr (I x1001)) = I x1001) (shrC (rfl : (V.shr (B x1002)) = B x1002) (shrC (rfl : (V.shr (I x1003)) = I x1003) (rfl : shrL [] = [])))))) .nil) [] [] (.cons (.cons (strN ([(wrap64 (x4 + 31)) % 256] : List Int)) (.cons (cr15_digits.con h512).c (.cons c513 .nil))) (.cons c513 .nil) (.cons (.cons (cr15_digits.con h512).c (.cons (strN ([(wrap64 (x4 + 31)) % 256] : List Int)) (.cons c513 .nil))) (.cons c513 .nil) (.cons (.cons (cr15_digits.con h512).c (.cons (strN ([(wrap64 (x4 + 31)) % 256] : List Int)) (.cons c513 .nil))) (.cons c513 .nil) .nil))) [] [] (by kernel_rfl) (by kernel_rfl) [[], [], []] [(1, 0), (5, 0)] [(1, .d (.ptr 0 0)), (5, .d (.v (S ((strOfNums ([(wrap64 (x4 + 31)) % 256] : List Int)) ++ t511))))] [.cells [.v (I x1000), .v (I x1001), .v (B x1002), .v (I x1003)]] (by kernel_rfl) (by kernel_rfl) ?_
    exact ⟨(strOfNums ([(wrap64 (x4 + 31)) % 256] : List Int)) ++ t511, x1000, x1001, x1002, x1003, Wk.of [(1, 0), (5, 0)] (by kernel_rfl) (by kernel_rfl), H⟩
  clear H
  rintro st ⟨x5, x1000, x1001, x1002, x1003, W, H⟩
  rcases k with _ | k
  · cases H
  refine W.good ?_
  rw [cr15_Encode.j1] at H
  refine Good.seq ?_
  refine Good.seq ?_
  refine Good.reg hN [] .nil [] (by kernel_rfl) ?_
  rcases ifC H with ⟨c514, H⟩ | ⟨c514, H⟩
  · refine Good.condT (decide_eq_true c514) (by kernel_rfl) ?_
    refine Good.seq ?_
    obtain ⟨c515, H⟩ := ifS H
    refine Good.reg hN [S (strOfNums ([(x1003) % 256] : List Int))] (.cons (strN ([(x1003) % 256] : List Int)) (.cons c515 .nil)) [] (by kernel_rfl) ?_
    obtain rfl := Option.some.inj H
    exact Good.ret (fin.doneR (by kernel_rfl))
  refine Good.condF (decide_eq_false c514) (by kernel_rfl) ?_
  refine Good.skip ?_
  refine Good.seq ?_
  refine Good.seq ?_
  refine Good.reg hN [] .nil [] (by kernel_rfl) ?_
  rcases ifC H with ⟨c516, H⟩ | ⟨c516, H⟩
  · refine Good.condT (decide_eq_true c516) (by kernel_rfl) ?_
    refine Good.seq ?_
    obtain ⟨c517, H⟩ := ifS H
    obtain ⟨t518, h519, H⟩ := bindS H
    obtain ⟨c520, H⟩ := ifS H
    refine Good.reg hN [S t518] (.cons c517 (.cons (cr01_Put.con h519).c (.cons c520 .nil))) [] (by kernel_rfl) ?_
    obtain rfl := Option.some.inj H
    exact Good.ret (fin.doneR (by kernel_rfl))
  refine Good.condF (decide_eq_false c516) (by kernel_rfl) ?_
  refine Good.skip ?_
  refine Good.seq ?_
  obtain ⟨c521, H⟩ := ifS H
  obtain ⟨t522, h523, H⟩ := bindS H
  obtain ⟨c524, H⟩ := ifS H
  refine Good.reg hN [S t522] (.cons c521 (.cons (cr01_Put.con h523).c (.cons c524 .nil))) [] (by kernel_rfl) ?_
  obtain rfl := Option.some.inj H
  exact Good.ret (fin.doneR (by kernel_rfl))
def cr01_Get.l0 : Nat → ByteArray → Int → Int → Option (Int × Bool)
 | 0, _, _, _ => none
 | k + 1, x0, x4, x5 => if x5 < (x0.size : Int) then (if 0 ≤ x5 then (cr01_Get.l0 k x0 (IntKind.u64.wrap ((IntKind.u64.wrap (x4 * 256)) + (IntKind.u64.wrap (bt x0 x5)))) (wrap64 (x5 + 1))) else (none)) else (some (x4, true))
def cr01_Get.j0 : Nat → ByteArray → Bool → Option (Int × Bool)
 | 0, _, _ => none
 | k + 1, x0, x13 => if x13 = true then (some (0, false)) else (cr01_Get.l0 k x0 0 0)
def cr01_Get.f (k : Nat) (a0 : ByteArray) : Option (Int × Bool) := if (a0.size : Int) < 1 then (cr01_Get.j0 k a0 true) else (cr01_Get.j0 k a0 (decide ((a0.size : Int) > 8)))
theorem cr01_Get.con {k : Nat} {a0 : ByteArray} {r : (Int × Bool)} (H : cr01_Get.f k a0 = some r) : Con Tryd.prog 35 [S a0] (.tup [K .u64 r.1, B r.2]) := by
  refine con_of_good Tryd.func35 rfl (by kernel_rfl) (by kernel_rfl) fun C hN hL => ?_
  unfold cr01_Get.f at H
  refine Good.seq ?_
  refine Good.reg hN [] .nil [] (by kernel_rfl) ?_
  refine Good.seq ?_
  refine Good.seq ?_
  refine Good.cut (fun st => ∃ (x0 : ByteArray) (x13 : Bool), Wk C st ⟨[(0, .d (.v (S x0))), (13, .d (.v (B x13)))], []⟩ ∧ cr01_Get.j0 k x0 x13 = some r) ?_ ?_
  · rcases ifC H with ⟨c525, H⟩ | ⟨c525, H⟩
    · refine Good.reg hN [B true] (.cons (decide_eq_true c525) .nil) [] (by kernel_rfl) ?_
      exact ⟨a0, true, Wk.of [(0, 0), (13, 0)] (by kernel_rfl) (by kernel_rfl), H⟩
    refine Good.reg hN [B false] (.cons (decide_eq_false c525) .nil) [] (by kernel_rfl) ?_
    exact ⟨a0, decide ((a0.size : Int) > 8), Wk.of [(0, 0), (13, 0)] (by kernel_rfl) (by kernel_rfl), H⟩
  clear H
  rintro st ⟨x0, x13, W, H⟩
  rcases k with _ | k
  · cases H
  refine W.good ?_
  rw [cr01_Get.j0] at H
  rcases ifC H with ⟨c526, H⟩ | ⟨c526, H⟩
  · refine Good.condT c526 (by kernel_rfl) ?_
    refine Good.seq ?_
    refine Good.reg hN [] .nil [] (by kernel_rfl) ?_
    obtain rfl := Option.some.inj H
    exact Good.ret (fin.doneR (by kernel_rfl))
  refine Good.condF (Bool.eq_false_iff.2 c526) (by kernel_rfl) ?_
  refine Good.skip ?_
  refine Good.seq ?_
  refine Good.reg hN [] .nil [] (by kernel_rfl) ?_
  refine Good.seq ?_
  refine Good.seq ?_
  refine Good.reg hN [] .nil [] (by kernel_rfl) ?_
  refine Good.block ?_
  refine Good.loopN (fun k' st => ∃ (x0 : ByteArray) (x4 : Int) (x5 : Int), k' ≤ k ∧ Wk C st ⟨[(0, .d (.v (S x0))), (4, .d (.v (K .u64 x4))), (5, .d (.v (I x5)))], []⟩ ∧ cr01_Get.l0 k' x0 x4 x5 = some r) k ⟨x0, 0, 0, Nat.le_refl _, Wk.of [(0, 0), (4, 0), (5, 0)] (by kernel_rfl) (by kernel_rfl), H⟩ fun k => ⟨fun st h => (by obtain ⟨_, _, _, _, _, H⟩ := h; cases H), ?_⟩
  clear H
  rintro st ⟨x0, x4, x5, hk, W, H⟩
  refine W.good ?_
  rw [cr01_Get.l0] at H
  refine Good.seq ?_
  refine Good.seq ?_
  refine Good.reg hN [] .nil [] (by kernel_rfl) ?_
  rcases (ifC H).symm with ⟨c527, H⟩ | ⟨c527, H⟩
  · refine Good.condF (decide_eq_false c527) (by kernel_rfl) ?_
    refine Good.exit ?_
    refine Good.seq ?_
    refine Good.reg hN [] .nil [] (by kernel_rfl) ?_
    obtain rfl := Option.some.inj H
    exact Good.ret (fin.doneR (by kernel_rfl))
  refine Good.condT (decide_eq_true c527) (by kernel_rfl) ?_
  refine Good.skip ?_
  refine Good.seq ?_
  refine Good.block ?_
  obtain ⟨c528, H⟩ := ifS H
  refine Good.reg hN [] (.cons c528 (.cons c527 .nil)) [] (by kernel_rfl) ?_
  refine Good.reg hN [] .nil [] (by kernel_rfl) ?_
  exact ⟨k, by omega, x0, IntKind.u64.wrap ((IntKind.u64.wrap (x4 * 256)) + (IntKind.u64.wrap (bt x0 x5))), wrap64 (x5 + 1), by omega, Wk.of [(0, 0), (4, 0), (5, 0)] (by kernel_rfl) (by kernel_rfl), H⟩
def cr15_Decode.j1 : Nat → ByteArray → Int → Int → Int → Int → Bool → Option (Int × Int × Bool × Int × Int × Int)
 | 0, _, _, _, _, _, _ => none
 | k + 1, x0, x6, x9, x2000, x2001, x2002 => if (wrap64 ((wrap64 (x6 + 1)) + x9)) > (x0.size : Int) then (some (0, 0, false, 0, 0, 5)) else (if 0 ≤ x6 then (if x6 < (x0.size : Int) then (if x9 > 0 then (if 0 ≤ (wrap64 (x6 + 1)) then (if (wrap64 (x6 + 1)) ≤ (wrap64 ((wrap64 (x6 + 1)) + x9)) then (if (wrap64 ((wrap64 (x6 + 1)) + x9)) ≤ (x0.size : Int) then ((cr01_Get.f k (x0.extract ((wrap64 (x6 + 1)) : Int).toNat ((wrap64 ((wrap64 (x6 + 1)) + x9)) : Int).toNat)).bind fun t553 => ((cr15_Encode.f k x2000 x2001 x2002 (wrap64 (t553.1))).bind fun t555 => (if 0 ≤ (wrap64 ((wrap64 (x6 + 1)) + x9)) then (if t555.1.toList = (x0.extract 0 ((wrap64 ((wrap64 (x6 + 1)) + x9)) : Int).toNat).toList then (some (x2000, x2001, x2002, wrap64 (t553.1), (t555.1.size : Int), 0)) else (some (0, 0, false, 0, 0, 5))) else (none)))) else (none)) else (none)) else (none)) else ((cr15_Encode.f k x2000 x2001 x2002 (wrap64 (bt x0 x6))).bind fun t559 => (if 0 ≤ (wrap64 ((wrap64 (x6 + 1)) + x9)) then (if (wrap64 ((wrap64 (x6 + 1)) + x9)) ≤ (x0.size : Int) then (if t559.1.toList = (x0.extract 0 ((wrap64 ((wrap64 (x6 + 1)) + x9)) : Int).toNat).toList then (some (x2000, x2001, x2002, wrap64 (bt x0 x6), (t559.1.size : Int), 0)) else (some (0, 0, false, 0, 0, 5))) else (none)) else (none)))) else (none)) else (none))
def cr15_Decode.j0 : Nat → ByteArray → Int → Bool → Int → Int → Bool → Option (Int × Int × Bool × Int × Int × Int)
 | 0, _, _, _, _, _, _ => none
 | k + 1, x0, x6, x45, x2000, x2001, x2002 => if x45 = true then (some (0, 0, false, 0, 0, 5)) else (if 0 ≤ x6 then (if x6 < (x0.size : Int) then (if (bt x0 x6) > 130 then (some (0, 0, false, 0, 0, 4)) else (if (bt x0 x6) > 128 then (cr15_Decode.j1 k x0 x6 (wrap64 ((wrap64 (bt x0 x6)) - 128)) x2000 x2001 x2002) else (cr15_Decode.j1 k x0 x6 0 x2000 x2001 x2002))) else (none)) else (none))
def cr15_Decode.f (k : Nat) (a0 : ByteArray) : Option (Int × Int × Bool × Int × Int × Int) := (cr15_tag.f k a0).bind fun t529 => (if t529.2.2.2.2 = 0 then (some (0, 0, false, 0, 0, 5)) else ((cr15_Encode.f k t529.1 t529.2.1 t529.2.2.1 t529.2.2.2.1).bind fun t532 => (if 0 ≤ (wrap64 ((t532.1.size : Int) - 1)) then (if (wrap64 ((t532.1.size : Int) - 1)) ≤ (t532.1.size : Int) then (if 0 ≤ t529.2.2.2.2 then (if t529.2.2.2.2 ≤ (a0.size : Int) then (if (t532.1.extract 0 ((wrap64 ((t532.1.size : Int) - 1)) : Int).toNat).toList = (a0.extract 0 (t529.2.2.2.2 : Int).toNat).toList then (if t529.2.2.2.2 = (a0.size : Int) then (cr15_Decode.j0 k a0 t529.2.2.2.2 true t529.1 t529.2.1 t529.2.2.1) else (if t529.2.2.2.2 < (a0.size : Int) then (cr15_Decode.j0 k a0 t529.2.2.2.2 ((bt a0 t529.2.2.2.2) == 128) t529.1 t529.2.1 t529.2.2.1) else (none))) else (cr15_Decode.j0 k a0 t529.2.2.2.2 true t529.1 t529.2.1 t529.2.2.1)) else (none)) else (none)) else (none)) else (none))))
theorem cr15_Decode.con {k : Nat} {a0 : ByteArray} {r : (Int × Int × Bool × Int × Int × Int)} (H : cr15_Decode.f k a0 = some r) : Con Tryd.prog 26 [S a0] (.tup [.agg [I r.1, I r.2.1, B r.2.2.1, I r.2.2.2.1], I r.2.2.2.2.1, I r.2.2.2.2.2]) := by
  refine con_of_good Tryd.func26 rfl (by kernel_rfl) (by kernel_rfl) fun C hN hL => ?_
  unfold cr15_Decode.f at H
  refine Good.seq ?_
  refine Good.reg hN [] .nil [] (by kernel_rfl) ?_
  refine Good.seq ?_
  obtain ⟨t529, h530, H⟩ := bindS H
  refine Good.reg hN [.tup [.agg [I t529.1, I t529.2.1, B t529.2.2.1, I t529.2.2.2.1], I t529.2.2.2.2]] (.cons (cr15_tag.con h530).c .nil) [] (by kernel_rfl) ?_
  refine Good.seq ?_
  refine Good.seq ?_
  refine Good.reg hN [] .nil [] (by kernel_rfl) ?_
  rcases ifC H with ⟨c531, H⟩ | ⟨c531, H⟩
  · refine Good.condT (beq_iff_eq.2 c531) (by kernel_rfl) ?_
    refine Good.seq ?_
    refine Good.reg hN [] .nil [] (by kernel_rfl) ?_
    obtain rfl := Option.some.inj H
    exact Good.ret (fin.doneR (by kernel_rfl))
  refine Good.condF (beq_eq_false_iff_ne.2 c531) (by kernel_rfl) ?_
  refine Good.skip ?_
  refine Good.seq ?_
  obtain ⟨t532, h533, H⟩ := bindS H
  refine Good.reg hN [.tup [S t532.1, I t532.2]] (.cons (cr15_Encode.con h533).c .nil) [] (by kernel_rfl) ?_
  refine Good.seq ?_
  refine Good.seq ?_
  refine Good.cut (fun st => ∃ (x0 : ByteArray) (x6 : Int) (x45 : Bool) (x1000 : Int) (x1001 : Int) (x1002 : Bool) (x1003 : Int) (x2000 : Int) (x2001 : Int) (x2002 : Bool) (x2003 : Int), Wk C st ⟨[(0, .d (.v (S x0))), (2, .d (.ptr 0 0)), (5, .d (.ptr 1 0)), (6, .d (.v (I x6))), (45, .d (.v (B x45)))], [.cells [.v (I x1000), .v (I x1001), .v (B x1002), .v (I x1003)], .cells [.v (I x2000), .v (I x2001), .v (B x2002), .v (I x2003)]]⟩ ∧ cr15_Decode.j0 k x0 x6 x45 x2000 x2001 x2002 = some r) ?_ ?_
  · obtain ⟨c534, H⟩ := ifS H
    obtain ⟨c535, H⟩ := ifS H
    obtain ⟨c536, H⟩ := ifS H
    obtain ⟨c537, H⟩ := ifS H
    rcases (ifC H).symm with ⟨c538, H⟩ | ⟨c538, H⟩
    · refine Good.regDF hm hN (.q 0 [] (.q 1 [] (.q 2 [] (.q 3 [] (.q 4 [] (.q 5 [] (.q 6 [] (.q 7 [] (.q 8 [] (.q 9 [] (.k 34 (.i 10 (.i 11 (.i 12 (.i 13 (.q 14 [] (.q 15 [] (.k 40 (.i 16 (.i 17 (.i 18 (.i 19 (.q 20 [] .z))))))))))))))))))))))) [(0, none), (6, none), (7, none)] (by kernel_rfl) .nil [B true, B true] [] (.cons c534 (.cons c535 (.cons c536 (.cons c537 (.cons (bne_iff_ne.2 c538) (.cons (rfl : true = true) .nil)))))) (.cons c534 (.cons c535 (.cons c536 (.cons c537 (.cons (bne_iff_ne.2 c538) (.cons (rfl : true = true) .nil)))))) [] [] (by kernel_rfl) (by kernel_rfl) ?_
      exact ⟨a0, t529.2.2.2.2, true, 0, 0, false, 0, t529.1, t529.2.1, t529.2.2.1, t529.2.2.2.1, Wk.of [(0, 0), (2, 0), (5, 0), (6, 0), (45, 0)] (by kernel_rfl) (by kernel_rfl), H⟩
    rcases ifC H with ⟨c539, H⟩ | ⟨c539, H⟩
    · refine Good.regDF hm hN (.q 0 [] (.q 1 [] (.q 2 [] (.q 3 [] (.q 4 [] (.q 5 [] (.q 6 [] (.q 7 [] (.q 8 [] (.q 9 [] (.k 34 (.q 10 [] (.q 11 [] (.q 12 [] (.q 13 [] (.q 14 [] (.q 15 [] (.k 40 (.i 16 (.i 17 (.i 18 (.i 19 (.q 20 [] .z))))))))))))))))))))))) [(0, none), (6, none), (7, none)] (by kernel_rfl) .nil [B false, B true] [] (.cons c534 (.cons c535 (.cons c536 (.cons c537 (.cons (bneF c538) (.cons (beq_iff_eq.2 c539) .nil)))))) (.cons c534 (.cons c535 (.cons c536 (.cons c537 (.cons (bneF c538) (.cons (beq_iff_eq.2 c539) .nil)))))) [] [] (by kernel_rfl) (by kernel_rfl) ?_
      exact ⟨a0, t529.2.2.2.2, true, 0, 0, false, 0, t529.1, t529.2.1, t529.2.2.1, t529.2.2.2.1, Wk.of [(0, 0), (2, 0), (5, 0), (6, 0), (45, 0)] (by kernel_rfl) (by kernel_rfl), H⟩
    obtain ⟨c540, H⟩ := ifS H
    refine Good.regDF hm hN (.q 0 [] (.q 1 [] (.q 2 [] (.q 3 [] (.q 4 [] (.q 5 [] (.q 6 [] (.q 7 [] (.q 8 [] (.q 9 [] (.k 34 (.q 10 [] (.q 11 [] (.q 12 [] (.q 13 [] (.q 14 [] (.q 15 [] (.k 40 (.q 16 [] (.q 17 [] (.q 18 [] (.q 19 [] (.q 20 [] .z))))))))))))))))))))))) [(0, none), (6, none), (7, none)] (by kernel_rfl) .nil [B false, B false] [] (.cons c534 (.cons c535 (.cons c536 (.cons c537 (.cons (bneF c538) (.cons (beq_eq_false_iff_ne.2 c539) (.cons c536 (.cons c540 .nil)))))))) (.cons c534 (.cons c535 (.cons c536 (.cons c537 (.cons (bneF c538) (.cons (beq_eq_false_iff_ne.2 c539) (.cons c536 (.cons c540 .nil)))))))) [] [] (by kernel_rfl) (by kernel_rfl) ?_
    exact ⟨a0, t529.2.2.2.2, ((bt a0 t529.2.2.2.2) == 128), 0, 0, false, 0, t529.1, t529.2.1, t529.2.2.1, t529.2.2.2.1, Wk.of [(0, 0), (2, 0), (5, 0), (6, 0), (45, 0)] (by kernel_rfl) (by kernel_rfl), H⟩
  clear H
  rintro st ⟨x0, x6, x45, x1000, x1001, x1002, x1003, x2000, x2001, x2002, x2003, W, H⟩
  rcases k with _ | k
  · cases H
  refine W.good ?_
  rw [cr15_Decode.j0] at H
  rcases ifC H with ⟨c541, H⟩ | ⟨c541, H⟩
  · refine Good.condT c541 (by kernel_rfl) ?_
    refine Good.seq ?_
    refine Good.reg hN [] .nil [] (by kernel_rfl) ?_
    obtain rfl := Option.some.inj H
    exact Good.ret (fin.doneR (by kernel_rfl))
  refine Good.condF (Bool.eq_false_iff.2 c541) (by kernel_rfl) ?_
  refine Good.skip ?_
  refine Good.seq ?_
  refine Good.seq ?_
  obtain ⟨c542, H⟩ := ifS H
  obtain ⟨c543, H⟩ := ifS H
  refine Good.reg hN [] (.cons c542 (.cons c543 .nil)) [] (by kernel_rfl) ?_
  rcases ifC H with ⟨c544, H⟩ | ⟨c544, H⟩
  · refine Good.condT (decide_eq_true c544) (by kernel_rfl) ?_
    refine Good.seq ?_
    refine Good.reg hN [] .nil [] (by kernel_rfl) ?_
    obtain rfl := Option.some.inj H
    exact Good.ret (fin.doneR (by kernel_rfl))
  refine Good.condF (decide_eq_false c544) (by kernel_rfl) ?_
  refine Good.skip ?_
  refine Good.seq ?_
  refine Good.reg hN [] .nil [] (by kernel_rfl) ?_
  refine Good.seq ?_
  refine Good.seq ?_
  refine Good.reg hN [] (.cons c542 (.cons c543 .nil)) [] (by kernel_rfl) ?_
  refine Good.cut (fun st => ∃ (x0 : ByteArray) (x6 : Int) (x9 : Int) (x1000 : Int) (x1001 : Int) (x1002 : Bool) (x1003 : Int) (x2000 : Int) (x2001 : Int) (x2002 : Bool) (x2003 : Int), Wk C st ⟨[(0, .d (.v (S x0))), (2, .d (.ptr 0 0)), (5, .d (.ptr 1 0)), (6, .d (.v (I x6))), (9, .d (.v (I x9)))], [.cells [.v (I x1000), .v (I x1001), .v (B x1002), .v (I x1003)], .cells [.v (I x2000), .v (I x2001), .v (B x2002), .v (I x2003)]]⟩ ∧ cr15_Decode.j1 k x0 x6 x9 x2000 x2001 x2002 = some r) ?_ ?_
  · rcases ifC H with ⟨c545, H⟩ | ⟨c545, H⟩
    · refine Good.condT (decide_eq_true c545) (by kernel_rfl) ?_
      refine Good.reg hN [] (.cons c542 (.cons c543 .nil)) [] (by kernel_rfl) ?_
      exact ⟨x0, x6, wrap64 ((wrap64 (bt x0 x6)) - 128), x1000, x1001, x1002, x1003, x2000, x2001, x2002, x2003, Wk.of [(0, 0), (2, 0), (5, 0), (6, 0), (9, 0)] (by kernel_rfl) (by kernel_rfl), H⟩
    refine Good.condF (decide_eq_false c545) (by kernel_rfl) ?_
    refine Good.skip ?_
    exact ⟨x0, x6, 0, x1000, x1001, x1002, x1003, x2000, x2001, x2002, x2003, Wk.of [(0, 0), (2, 0), (5, 0), (6, 0), (9, 0)] (by kernel_rfl) (by kernel_rfl), H⟩
  clear H
  rintro st ⟨x0, x6, x9, x1000, x1001, x1002, x1003, x2000, x2001, x2002, x2003, W, H⟩
  rcases k with _ | k
  · cases H
  refine W.good ?_
  rw [cr15_Decode.j1] at H
  refine Good.seq ?_
  refine Good.seq ?_
  refine Good.reg hN [] .nil [] (by kernel_rfl) ?_
  rcases ifC H with ⟨c546, H⟩ | ⟨c546, H⟩
  · refine Good.condT (decide_eq_true c546) (by kernel_rfl) ?_
    refine Good.seq ?_
    refine Good.reg hN [] .nil [] (by kernel_rfl) ?_
    obtain rfl := Option.some.inj H
    exact Good.ret (fin.doneR (by kernel_rfl))
  refine Good.condF (decide_eq_false c546) (by kernel_rfl) ?_
  refine Good.skip ?_
  refine Good.seq ?_
  obtain ⟨c547, H⟩ := ifS H
  obtain ⟨c548, H⟩ := ifS H
  refine Good.reg hN [] (.cons c547 (.cons c548 .nil)) [] (by kernel_rfl) ?_
  refine Good.seq ?_
  refine Good.seq ?_
  refine Good.reg hN [] .nil [] (by kernel_rfl) ?_
  rcases (ifC H).symm with ⟨c549, H⟩ | ⟨c549, H⟩
  · refine Good.condF (decide_eq_false c549) (by kernel_rfl) ?_
    refine Good.skip ?_
    refine Good.seq ?_
    obtain ⟨t559, h560, H⟩ := bindS H
    refine Good.reg hN [.tup [S t559.1, I t559.2]] (.cons (cr15_Encode.con h560).c .nil) [] (by kernel_rfl) ?_
    refine Good.seq ?_
    refine Good.seq ?_
    obtain ⟨c561, H⟩ := ifS H
    obtain ⟨c562, H⟩ := ifS H
    refine Good.reg hN [] (.cons c561 (.cons c562 .nil)) [] (by kernel_rfl) ?_
    rcases (ifC H).symm with ⟨c563, H⟩ | ⟨c563, H⟩
    · refine Good.condT (bne_iff_ne.2 c563) (by kernel_rfl) ?_
      refine Good.seq ?_
      refine Good.reg hN [] .nil [] (by kernel_rfl) ?_
      obtain rfl := Option.some.inj H
      exact Good.ret (fin.doneR (by kernel_rfl))
    refine Good.condF (bneF c563) (by kernel_rfl) ?_
    refine Good.skip ?_
    refine Good.seq ?_
    refine Good.reg hN [] .nil [] (by kernel_rfl) ?_
    obtain rfl := Option.some.inj H
    exact Good.ret (fin.doneR (by kernel_rfl))
  refine Good.condT (decide_eq_true c549) (by kernel_rfl) ?_
  refine Good.seq ?_
  obtain ⟨c550, H⟩ := ifS H
  obtain ⟨c551, H⟩ := ifS H
  obtain ⟨c552, H⟩ := ifS H
  obtain ⟨t553, h554, H⟩ := bindS H
  refine Good.reg hN [.tup [K .u64 t553.1, B t553.2]] (.cons c550 (.cons c551 (.cons c552 (.cons (cr01_Get.con h554).c .nil)))) [] (by kernel_rfl) ?_
  refine Good.reg hN [] .nil [] (by kernel_rfl) ?_
  refine Good.seq ?_
  obtain ⟨t555, h556, H⟩ := bindS H
  refine Good.reg hN [.tup [S t555.1, I t555.2]] (.cons (cr15_Encode.con h556).c .nil) [] (by kernel_rfl) ?_
  refine Good.seq ?_
  refine Good.seq ?_
  obtain ⟨c557, H⟩ := ifS H
  refine Good.reg hN [] (.cons c557 (.cons c552 .nil)) [] (by kernel_rfl) ?_
  rcases (ifC H).symm with ⟨c558, H⟩ | ⟨c558, H⟩
  · refine Good.condT (bne_iff_ne.2 c558) (by kernel_rfl) ?_
    refine Good.seq ?_
    refine Good.reg hN [] .nil [] (by kernel_rfl) ?_
    obtain rfl := Option.some.inj H
    exact Good.ret (fin.doneR (by kernel_rfl))
  refine Good.condF (bneF c558) (by kernel_rfl) ?_
  refine Good.skip ?_
  refine Good.seq ?_
  refine Good.reg hN [] .nil [] (by kernel_rfl) ?_
  obtain rfl := Option.some.inj H
  exact Good.ret (fin.doneR (by kernel_rfl))
def cr19_Pieces.l0 : Nat → ByteArray → List ByteArray → Int → Option (List ByteArray × Int × Int)
 | 0, _, _, _ => none
 | k + 1, x0, x4, x5 => if x5 < (x0.size : Int) then (if 0 ≤ x5 then (if x5 ≤ (x0.size : Int) then ((cr15_Decode.f k (x0.extract (x5 : Int).toNat x0.size)).bind fun t586 => (if t586.2.2.2.2.2 = 0 then (if (wrap64 ((wrap64 (x5 + t586.2.2.2.2.1)) + t586.2.2.2.1)) > (x0.size : Int) then ((cr19_faulty.f 5 x5).bind fun t590 => (some (([] : List ByteArray), t590.1, t590.2))) else (if x5 ≤ (wrap64 ((wrap64 (x5 + t586.2.2.2.2.1)) + t586.2.2.2.1)) then (if (wrap64 ((wrap64 (x5 + t586.2.2.2.2.1)) + t586.2.2.2.1)) ≤ (x0.size : Int) then (if x4.length < 8796093022208 then (cr19_Pieces.l0 k x0 (x4 ++ [x0.extract (x5 : Int).toNat ((wrap64 ((wrap64 (x5 + t586.2.2.2.2.1)) + t586.2.2.2.1)) : Int).toNat]) (wrap64 ((wrap64 (x5 + t586.2.2.2.2.1)) + t586.2.2.2.1))) else (none)) else (none)) else (none))) else ((cr19_faulty.f t586.2.2.2.2.2 x5).bind fun t596 => (some (([] : List ByteArray), t596.1, t596.2))))) else (none)) else (none)) else (some (x4, 0, 0))
def cr19_Pieces.f (k : Nat) (a0 : ByteArray) : Option (List ByteArray × Int × Int) := if (a0.size : Int) > 65535 then ((cr19_faulty.f 4 0).bind fun t581 => (some (([] : List ByteArray), t581.1, t581.2))) else (cr19_Pieces.l0 k a0 ([] : List ByteArray) 0)
theorem cr19_Pieces.con {k : Nat} {a0 : ByteArray} {r : (List ByteArray × Int × Int)} (H : cr19_Pieces.f k a0 = some r) : Con Tryd.prog 16 [S a0] (.tup [.row (some 9) 1 (List.map S r.1), .agg [I r.2.1, I r.2.2]]) := by
  refine con_of_good Tryd.func16 rfl (by kernel_rfl) (by kernel_rfl) fun C hN hL => ?_
  unfold cr19_Pieces.f at H
  refine Good.seq ?_
  refine Good.reg hN [] .nil [] (by kernel_rfl) ?_
  refine Good.seq ?_
  refine Good.reg hN [] .nil [] (by kernel_rfl) ?_
  refine Good.seq ?_
  refine Good.seq ?_
  refine Good.reg hN [] .nil [] (by kernel_rfl) ?_
  rcases ifC H with ⟨c580, H⟩ | ⟨c580, H⟩
  · refine Good.condT (decide_eq_true c580) (by kernel_rfl) ?_
    refine Good.seq ?_
    obtain ⟨t581, h582, H⟩ := bindS H
    refine Good.reg hN [.agg [I t581.1, I t581.2]] (.cons (cr19_faulty.con h582).c .nil) [] (by kernel_rfl) ?_
    obtain rfl := Option.some.inj H
    exact Good.ret (fin_fit (u := .tup [.nil 9 1, .agg [I t581.1, I t581.2]]) (.tup (.cons (.nilO 9 1) (.cons (.refl _) .nil))) (by kernel_rfl))
  refine Good.condF (decide_eq_false c580) (by kernel_rfl) ?_
  refine Good.skip ?_
  refine Good.seq ?_
  refine Good.seq ?_
  refine Good.reg hN [] .nil [] (by kernel_rfl) ?_
  refine Good.block ?_
  refine Good.loopN (fun k' st => ∃ (x0 : ByteArray) (x4 : List ByteArray) (x5 : Int) (x1000 : Int) (x1001 : Int), k' ≤ k ∧ Wk C st ⟨[(0, .d (.v (S x0))), (3, .d (.ptr 0 0)), (4, .d (.v (.row (some 9) 1 (List.map S x4)))), (5, .d (.v (I x5)))], [.cells [.v (I x1000), .v (I x1001)]]⟩ ∧ cr19_Pieces.l0 k' x0 x4 x5 = some r) k ⟨a0, ([] : List ByteArray), 0, 0, 0, Nat.le_refl _, Wk.of [(0, 0), (3, 0), (4, 1), (5, 0)] (by kernel_rfl) (by kernel_rfl), H⟩ fun k => ⟨fun st h => (by obtain ⟨_, _, _, _, _, _, _, H⟩ := h; cases H), ?_⟩
  clear H
  rintro st ⟨x0, x4, x5, x1000, x1001, hk, W, H⟩
  refine W.good ?_
  rw [cr19_Pieces.l0] at H
  refine Good.seq ?_
  refine Good.seq ?_
  refine Good.reg hN [] .nil [] (by kernel_rfl) ?_
  rcases (ifC H).symm with ⟨c583, H⟩ | ⟨c583, H⟩
  · refine Good.condF (decide_eq_false c583) (by kernel_rfl) ?_
    refine Good.exit ?_
    refine Good.seq ?_
    refine Good.reg hN [] .nil [] (by kernel_rfl) ?_
    obtain rfl := Option.some.inj H
    exact Good.ret (fin.doneR (by kernel_rfl))
  refine Good.condT (decide_eq_true c583) (by kernel_rfl) ?_
  refine Good.skip ?_
  refine Good.block ?_
  refine Good.seq ?_
  obtain ⟨c584, H⟩ := ifS H
  obtain ⟨c585, H⟩ := ifS H
  obtain ⟨t586, h587, H⟩ := bindS H
  refine Good.reg hN [.tup [.agg [I t586.1, I t586.2.1, B t586.2.2.1, I t586.2.2.2.1], I t586.2.2.2.2.1, I t586.2.2.2.2.2]] (.cons c584 (.cons c585 (.cons (cr15_Decode.con h587).c .nil))) [] (by kernel_rfl) ?_
  refine Good.seq ?_
  refine Good.seq ?_
  refine Good.reg hN [] .nil [] (by kernel_rfl) ?_
  rcases (ifC H).symm with ⟨c588, H⟩ | ⟨c588, H⟩
  · refine Good.condT (bne_iff_ne.2 c588) (by kernel_rfl) ?_
    refine Good.seq ?_
    obtain ⟨t596, h597, H⟩ := bindS H
    refine Good.reg hN [.agg [I t596.1, I t596.2]] (.cons (cr19_faulty.con h597).c .nil) [] (by kernel_rfl) ?_
    obtain rfl := Option.some.inj H
    exact Good.ret (fin_fit (u := .tup [.nil 9 1, .agg [I t596.1, I t596.2]]) (.tup (.cons (.nilO 9 1) (.cons (.refl _) .nil))) (by kernel_rfl))
  refine Good.condF (bneF c588) (by kernel_rfl) ?_
  refine Good.skip ?_
  refine Good.seq ?_
  refine Good.seq ?_
  refine Good.reg hN [] .nil [] (by kernel_rfl) ?_
  rcases ifC H with ⟨c589, H⟩ | ⟨c589, H⟩
  · refine Good.condT (decide_eq_true c589) (by kernel_rfl) ?_
    refine Good.seq ?_
    obtain ⟨t590, h591, H⟩ := bindS H
    refine Good.reg hN [.agg [I t590.1, I t590.2]] (.cons (cr19_faulty.con h591).c .nil) [] (by kernel_rfl) ?_
    obtain rfl := Option.some.inj H
    exact Good.ret (fin_fit (u := .tup [.nil 9 1, .agg [I t590.1, I t590.2]]) (.tup (.cons (.nilO 9 1) (.cons (.refl _) .nil))) (by kernel_rfl))
  refine Good.condF (decide_eq_false c589) (by kernel_rfl) ?_
  refine Good.skip ?_
  refine Good.seq ?_
  obtain ⟨c592, H⟩ := ifS H
  obtain ⟨c593, H⟩ := ifS H
  obtain ⟨c594, H⟩ := ifS H
  refine Good.reg hN [.kb true, .row (some 9) 1 (List.map S (x4 ++ [x0.extract (x5 : Int).toNat ((wrap64 ((wrap64 (x5 + t586.2.2.2.2.1)) + t586.2.2.2.1)) : Int).toNat]))] (.cons c584 (.cons c592 (.cons c593 (.cons (fitM S x4 [x0.extract (x5 : Int).toNat ((wrap64 ((wrap64 (x5 + t586.2.2.2.2.1)) + t586.2.2.2.1)) : Int).toNat] (.refl _)) (.cons (limM1 S c594) .nil))))) [] (by kernel_rfl) ?_
  refine Good.reg hN [] .nil [] (by kernel_rfl) ?_
  exact ⟨k, by omega, x0, (x4 ++ [x0.extract (x5 : Int).toNat ((wrap64 ((wrap64 (x5 + t586.2.2.2.2.1)) + t586.2.2.2.1)) : Int).toNat]), wrap64 ((wrap64 (x5 + t586.2.2.2.2.1)) + t586.2.2.2.1), x1000, x1001, by omega, Wk.ofB hL 1 [(0, 0), (3, 0), (4, 0), (5, 0)] (by kernel_rfl) (by kernel_rfl) (by kernel_rfl), H⟩
def slices_Equal_string_string.l0 : Nat → List ByteArray → List ByteArray → Int → Int → Option (Bool)
 | 0, _, _, _, _ => none
 | k + 1, x0, x1, x12, x13 => if x13 < x12 then (if 0 ≤ x13 then (if x13 < (x0.length : Int) then (if x13 < (x1.length : Int) then (if (rdOf ByteArray.empty x0 x13).toList = (rdOf ByteArray.empty x1 x13).toList then (slices_Equal_string_string.l0 k x0 x1 x12 (wrap64 (x13 + 1))) else (some false)) else (none)) else (none)) else (none)) else (some true)
def slices_Equal_string_string.f (k : Nat) (l0 : List ByteArray) (l1 : List ByteArray) : Option (Bool) := if (l0.length : Int) = (l1.length : Int) then (slices_Equal_string_string.l0 k l0 l1 (l0.length : Int) 0) else (some false)
theorem slices_Equal_string_string.con {k : Nat} {l0 : List ByteArray} {l1 : List ByteArray} {r : (Bool)} (H : slices_Equal_string_string.f k l0 l1 = some r) : Con Tryd.prog 17 [.row none 1 (List.map S l0), .row none 1 (List.map S l1)] (B r) := by
  refine con_of_good Tryd.func17 rfl (by kernel_rfl) (by kernel_rfl) fun C hN hL => ?_
  unfold slices_Equal_string_string.f at H
  refine Good.seq ?_
  refine Good.reg hN [] .nil [] (by kernel_rfl) ?_
  refine Good.seq ?_
  refine Good.seq ?_
  refine Good.reg hN [I (l0.length : Int), I (l1.length : Int)] (.cons (lenM S l0) (.cons (lenM S l1) .nil)) [] (by kernel_rfl) ?_
  rcases (ifC H).symm with ⟨c598, H⟩ | ⟨c598, H⟩
  · refine Good.condT (bne_iff_ne.2 c598) (by kernel_rfl) ?_
    refine Good.seq ?_
    refine Good.reg hN [] .nil [] (by kernel_rfl) ?_
    obtain rfl := Option.some.inj H
    exact Good.ret (fin.doneR (by kernel_rfl))
  refine Good.condF (bneF c598) (by kernel_rfl) ?_
  refine Good.skip ?_
  refine Good.seq ?_
  refine Good.seq ?_
  refine Good.reg hN [I (l0.length : Int)] (.cons (lenM S l0) .nil) [] (by kernel_rfl) ?_
  refine Good.block ?_
  refine Good.loopN (fun k' st => ∃ (x0 : List ByteArray) (x1 : List ByteArray) (x12 : Int) (x13 : Int), k' ≤ k ∧ Wk C st ⟨[(0, .d (.v (.row none 1 (List.map S x0)))), (1, .d (.v (.row none 1 (List.map S x1)))), (12, .d (.v (I x12))), (13, .d (.v (I x13)))], []⟩ ∧ slices_Equal_string_string.l0 k' x0 x1 x12 x13 = some r) k ⟨l0, l1, (l0.length : Int), 0, Nat.le_refl _, Wk.of [(0, 0), (1, 0), (12, 0), (13, 0)] (by kernel_rfl) (by kernel_rfl), H⟩ fun k => ⟨fun st h => (by obtain ⟨_, _, _, _, _, _, H⟩ := h; cases H), ?_⟩
  clear H
  rintro st ⟨x0, x1, x12, x13, hk, W, H⟩
  refine W.good ?_
  rw [slices_Equal_string_string.l0] at H
  refine Good.seq ?_
  refine Good.reg hN [] .nil [] (by kernel_rfl) ?_
  refine Good.seq ?_
  rcases (ifC H).symm with ⟨c599, H⟩ | ⟨c599, H⟩
  · refine Good.condF (decide_eq_false c599) (by kernel_rfl) ?_
    refine Good.exit ?_
    refine Good.seq ?_
    refine Good.reg hN [] .nil [] (by kernel_rfl) ?_
    obtain rfl := Option.some.inj H
    exact Good.ret (fin.doneR (by kernel_rfl))
  refine Good.condT (decide_eq_true c599) (by kernel_rfl) ?_
  refine Good.skip ?_
  refine Good.seq ?_
  refine Good.block ?_
  refine Good.seq ?_
  refine Good.reg hN [] .nil [] (by kernel_rfl) ?_
  refine Good.seq ?_
  obtain ⟨c600, H⟩ := ifS H
  obtain ⟨c601, H⟩ := ifS H
  obtain ⟨c602, H⟩ := ifS H
  refine Good.regDF hm hN (.q 0 [] (.q 1 [] (.q 2 [] (.q 3 [] (.q 4 [] (.q 5 [] (.q 6 [] (.q 7 [] (.q 8 [] .z))))))))) [(0, none), (1, none), (5, none)] (by kernel_rfl) .nil [S (rdOf ByteArray.empty x0 x13), S (rdOf ByteArray.empty x1 x13)] [S (rdOf ByteArray.empty x0 x13), S (rdOf ByteArray.empty x1 x13)] (.cons c600 (.cons (atM S ByteArray.empty c600 c601) (.cons c600 (.cons (atM S ByteArray.empty c600 c602) .nil)))) (.cons c600 (.cons (atM S ByteArray.empty c600 c601) (.cons c600 (.cons (atM S ByteArray.empty c600 c602) .nil)))) [] [] (by kernel_rfl) (by kernel_rfl) ?_
  rcases ifC H with ⟨c603, H⟩ | ⟨c603, H⟩
  · refine Good.condF (bneF c603) (by kernel_rfl) ?_
    refine Good.skip ?_
    refine Good.reg hN [] .nil [] (by kernel_rfl) ?_
    exact ⟨k, by omega, x0, x1, x12, wrap64 (x13 + 1), by omega, Wk.of [(0, 0), (1, 0), (12, 0), (13, 0)] (by kernel_rfl) (by kernel_rfl), H⟩
  refine Good.condT (bne_iff_ne.2 c603) (by kernel_rfl) ?_
  refine Good.seq ?_
  refine Good.reg hN [] .nil [] (by kernel_rfl) ?_
  obtain rfl := Option.some.inj H
  exact Good.ret (fin.doneR (by kernel_rfl))
def clavigerlaw19_TlvPieces.f (k : Nat) (a0 : ByteArray) : Option (Bool) := if (a0.size : Int) > 2000 then ((clavigerlaw19_awake.f k).bind fun t605 => (some t605)) else ((tlv_Pieces.f k a0).bind fun t607 => ((cr19_Pieces.f k a0).bind fun t609 => ((slices_Equal_string_string.f k t607.1 t609.1).bind fun t611 => (if t611 = true then (if ((t607.2.1 == t609.2.1) && (t607.2.2 == t609.2.2)) = true then ((clavigerlaw19_awake.f k).bind fun t615 => (some t615)) else (some false)) else (some false)))))
theorem clavigerlaw19_TlvPieces.con {k : Nat} {a0 : ByteArray} {r : (Bool)} (H : clavigerlaw19_TlvPieces.f k a0 = some r) : Con Tryd.prog 5 [S a0] (B r) := by
  refine con_of_good Tryd.func5 rfl (by kernel_rfl) (by kernel_rfl) fun C hN hL => ?_
  unfold clavigerlaw19_TlvPieces.f at H
  refine Good.seq ?_
  refine Good.reg hN [] .nil [] (by kernel_rfl) ?_
  refine Good.seq ?_
  refine Good.seq ?_
  refine Good.reg hN [] .nil [] (by kernel_rfl) ?_
  rcases ifC H with ⟨c604, H⟩ | ⟨c604, H⟩
  · refine Good.condT (decide_eq_true c604) (by kernel_rfl) ?_
    refine Good.seq ?_
    obtain ⟨t605, h606, H⟩ := bindS H
    refine Good.reg hN [B t605] (.cons (clavigerlaw19_awake.con h606).c .nil) [] (by kernel_rfl) ?_
    obtain rfl := Option.some.inj H
    exact Good.ret (fin.doneR (by kernel_rfl))
  refine Good.condF (decide_eq_false c604) (by kernel_rfl) ?_
  refine Good.skip ?_
  refine Good.seq ?_
  obtain ⟨t607, h608, H⟩ := bindS H
  refine Good.reg hN [.tup [.row (some 9) 1 (List.map S t607.1), .agg [I t607.2.1, I t607.2.2]]] (.cons (tlv_Pieces.con h608).c .nil) [] (by kernel_rfl) ?_
  refine Good.seq ?_
  obtain ⟨t609, h610, H⟩ := bindS H
  refine Good.reg hN [.tup [.row (some 9) 1 (List.map S t609.1), .agg [I t609.2.1, I t609.2.2]]] (.cons (cr19_Pieces.con h610).c .nil) [] (by kernel_rfl) ?_
  refine Good.seq ?_
  obtain ⟨t611, h612, H⟩ := bindS H
  rcases (ifC H).symm with ⟨c613, H⟩ | ⟨c613, H⟩
  · refine Good.reg hN [.row none 1 (List.map S t607.1), .row none 1 (List.map S t609.1), B t611, B false, B false] (.cons (shrM (some 9) 1 S S t607.1 (fun _ => rfl)) (.cons (shrM (some 9) 1 S S t609.1 (fun _ => rfl)) (.cons (slices_Equal_string_string.con h612).c (.cons (Bool.eq_false_iff.2 c613) (.cons (rfl : false = false) .nil))))) [] (by kernel_rfl) ?_
    obtain rfl := Option.some.inj H
    exact Good.ret (fin.doneR (by kernel_rfl))
  rcases (ifC H).symm with ⟨c614, H⟩ | ⟨c614, H⟩
  · refine Good.reg hN [.row none 1 (List.map S t607.1), .row none 1 (List.map S t609.1), B t611, B true, B false] (.cons (shrM (some 9) 1 S S t607.1 (fun _ => rfl)) (.cons (shrM (some 9) 1 S S t609.1 (fun _ => rfl)) (.cons (slices_Equal_string_string.con h612).c (.cons c613 (.cons (Bool.eq_false_iff.2 c614) .nil))))) [] (by kernel_rfl) ?_
    obtain rfl := Option.some.inj H
    exact Good.ret (fin.doneR (by kernel_rfl))
  obtain ⟨t615, h616, H⟩ := bindS H
  refine Good.reg hN [.row none 1 (List.map S t607.1), .row none 1 (List.map S t609.1), B t611, B true, B true, B t615] (.cons (shrM (some 9) 1 S S t607.1 (fun _ => rfl)) (.cons (shrM (some 9) 1 S S t609.1 (fun _ => rfl)) (.cons (slices_Equal_string_string.con h612).c (.cons c613 (.cons c614 (.cons (clavigerlaw19_awake.con h616).c .nil)))))) [] (by kernel_rfl) ?_
  obtain rfl := Option.some.inj H
  exact Good.ret (fin.doneR (by kernel_rfl))
def cr18_Unbool.f (a0 : ByteArray) : Option (Bool × Bool) := if a0.toList = ([255] : List UInt8) then (some (true, true)) else (some (false, (a0.toList == ([0] : List UInt8))))
theorem cr18_Unbool.con {a0 : ByteArray} {r : (Bool × Bool)} (H : cr18_Unbool.f a0 = some r) : Con Tryd.prog 48 [S a0] (.tup [B r.1, B r.2]) := by
  refine con_of_good Tryd.func48 rfl (by kernel_rfl) (by kernel_rfl) fun C hN hL => ?_
  unfold cr18_Unbool.f at H
  refine Good.seq ?_
  refine Good.reg hN [] .nil [] (by kernel_rfl) ?_
  refine Good.seq ?_
  refine Good.seq ?_
  refine Good.reg hN [] (.cons (strV (rfl : a0.toList = a0.toList) (litL ([255] : List UInt8))) .nil) [(5, .bool (a0.toList == ([255] : List UInt8)))] (by kernel_rfl) ?_
  rcases ifC H with ⟨c617, H⟩ | ⟨c617, H⟩
  · refine Good.condT (beq_iff_eq.2 c617) (by kernel_rfl) ?_
    refine Good.seq ?_
    refine Good.reg hN [] .nil [] (by kernel_rfl) ?_
    obtain rfl := Option.some.inj H
    exact Good.ret (fin.doneR (by kernel_rfl))
  refine Good.condF (beq_eq_false_iff_ne.2 c617) (by kernel_rfl) ?_
  refine Good.skip ?_
  refine Good.seq ?_
  refine Good.reg hN [] (.cons (strV (rfl : a0.toList = a0.toList) (litL ([0] : List UInt8))) .nil) [(7, .bool (a0.toList == ([0] : List UInt8)))] (by kernel_rfl) ?_
  obtain rfl := Option.some.inj H
  exact Good.ret (fin.doneR (by kernel_rfl))
def cr16_Right.f (a0 : ByteArray) : Option (Bool) := if a0.toList = ([] : List UInt8) then (some false) else (if (a0.size : Int) = 1 then (some true) else (if 0 < (a0.size : Int) then (if (bt a0 0) = 0 then (if 1 < (a0.size : Int) then (if (bt a0 1) < 128 then (some false) else (if (bt a0 0) = 255 then (some (decide ((bt a0 1) < 128))) else (some true))) else (none)) else (if (bt a0 0) = 255 then (if 1 < (a0.size : Int) then (some (decide ((bt a0 1) < 128))) else (none)) else (some true))) else (none)))
theorem cr16_Right.con {a0 : ByteArray} {r : (Bool)} (H : cr16_Right.f a0 = some r) : Con Tryd.prog 49 [S a0] (B r) := by
  refine con_of_good Tryd.func49 rfl (by kernel_rfl) (by kernel_rfl) fun C hN hL => ?_
  unfold cr16_Right.f at H
  refine Good.seq ?_
  refine Good.reg hN [] .nil [] (by kernel_rfl) ?_
  refine Good.seq ?_
  refine Good.seq ?_
  refine Good.reg hN [] (.cons (strV (rfl : a0.toList = a0.toList) (litL ([] : List UInt8))) .nil) [(4, .bool (a0.toList == ([] : List UInt8)))] (by kernel_rfl) ?_
  rcases ifC H with ⟨c618, H⟩ | ⟨c618, H⟩
  · refine Good.condT (beq_iff_eq.2 c618) (by kernel_rfl) ?_
    refine Good.seq ?_
    refine Good.reg hN [] .nil [] (by kernel_rfl) ?_
    obtain rfl := Option.some.inj H
    exact Good.ret (fin.doneR (by kernel_rfl))
  refine Good.condF (beq_eq_false_iff_ne.2 c618) (by kernel_rfl) ?_
  refine Good.skip ?_
  refine Good.seq ?_
  refine Good.seq ?_
  refine Good.reg hN [] .nil [] (by kernel_rfl) ?_
  rcases ifC H with ⟨c619, H⟩ | ⟨c619, H⟩
  · refine Good.condT (beq_iff_eq.2 c619) (by kernel_rfl) ?_
    refine Good.seq ?_
    refine Good.reg hN [] .nil [] (by kernel_rfl) ?_
    obtain rfl := Option.some.inj H
    exact Good.ret (fin.doneR (by kernel_rfl))
  refine Good.condF (beq_eq_false_iff_ne.2 c619) (by kernel_rfl) ?_
  refine Good.skip ?_
  refine Good.seq ?_
  refine Good.seq ?_
  obtain ⟨c620, H⟩ := ifS H
  rcases (ifC H).symm with ⟨c621, H⟩ | ⟨c621, H⟩
  · refine Good.reg hN [B false] (.cons (show (0 : Int) ≤ 0 by decide) (.cons c620 (.cons (beq_eq_false_iff_ne.2 c621) .nil))) [] (by kernel_rfl) ?_
    refine Good.cond false (by kernel_rfl) ?_
    refine Good.skip ?_
    refine Good.seq ?_
    rcases (ifC H).symm with ⟨c625, H⟩ | ⟨c625, H⟩
    · refine Good.reg hN [B true] (.cons (show (0 : Int) ≤ 0 by decide) (.cons c620 (.cons (bne_iff_ne.2 c625) .nil))) [] (by kernel_rfl) ?_
      obtain rfl := Option.some.inj H
      exact Good.ret (fin.doneR (by kernel_rfl))
    obtain ⟨c626, H⟩ := ifS H
    refine Good.reg hN [B false] (.cons (show (0 : Int) ≤ 0 by decide) (.cons c620 (.cons (bneF c625) (.cons (show (0 : Int) ≤ 1 by decide) (.cons c626 .nil))))) [] (by kernel_rfl) ?_
    obtain rfl := Option.some.inj H
    exact Good.ret (fin.doneR (by kernel_rfl))
  obtain ⟨c622, H⟩ := ifS H
  refine Good.reg hN [B true] (.cons (show (0 : Int) ≤ 0 by decide) (.cons c620 (.cons (beq_iff_eq.2 c621) (.cons (show (0 : Int) ≤ 1 by decide) (.cons c622 .nil))))) [] (by kernel_rfl) ?_
  rcases ifC H with ⟨c623, H⟩ | ⟨c623, H⟩
  · refine Good.condT (decide_eq_true c623) (by kernel_rfl) ?_
    refine Good.seq ?_
    refine Good.reg hN [] .nil [] (by kernel_rfl) ?_
    obtain rfl := Option.some.inj H
    exact Good.ret (fin.doneR (by kernel_rfl))
  refine Good.condF (decide_eq_false c623) (by kernel_rfl) ?_
  refine Good.skip ?_
  refine Good.seq ?_
  rcases ifC H with ⟨c624, H⟩ | ⟨c624, H⟩
  · refine Good.reg hN [B false] (.cons (show (0 : Int) ≤ 0 by decide) (.cons c620 (.cons (bneF c624) (.cons (show (0 : Int) ≤ 1 by decide) (.cons c622 .nil))))) [] (by kernel_rfl) ?_
    obtain rfl := Option.some.inj H
    exact Good.ret (fin.doneR (by kernel_rfl))
  refine Good.reg hN [B true] (.cons (show (0 : Int) ≤ 0 by decide) (.cons c620 (.cons (bne_iff_ne.2 c624) .nil))) [] (by kernel_rfl) ?_
  obtain rfl := Option.some.inj H
  exact Good.ret (fin.doneR (by kernel_rfl))
def cr18_Bits.l0 : Nat → ByteArray → Int → Int → Int → Option (ByteArray × Bool)
 | 0, _, _, _, _ => none
 | k + 1, x0, x1, x6, x7 => if x7 < x1 then (cr18_Bits.l0 k x0 x1 (wrap64 (2 * x6)) (wrap64 (x7 + 1))) else (if x0.toList = ([] : List UInt8) then ((cr01_Put.f k (IntKind.u64.wrap (x1)) 1).bind fun t633 => (if t633.size + x0.size ≤ 9223372036854775807 then (some (t633 ++ x0, true)) else (none))) else (if 0 ≤ (wrap64 ((x0.size : Int) - 1)) then (if (wrap64 ((x0.size : Int) - 1)) < (x0.size : Int) then (if x6 = 0 then (none) else (if (Int.tmod (wrap64 (bt x0 (wrap64 ((x0.size : Int) - 1)))) x6) = 0 then ((cr01_Put.f k (IntKind.u64.wrap (x1)) 1).bind fun t640 => (if t640.size + x0.size ≤ 9223372036854775807 then (some (t640 ++ x0, true)) else (none))) else (some ((⟨#[]⟩ : ByteArray), false)))) else (none)) else (none)))
def cr18_Bits.j0 : Nat → ByteArray → Int → Bool → Option (ByteArray × Bool)
 | 0, _, _, _ => none
 | k + 1, x0, x1, x21 => if x21 = true then (some ((⟨#[]⟩ : ByteArray), false)) else (cr18_Bits.l0 k x0 x1 1 0)
def cr18_Bits.f (k : Nat) (a0 : ByteArray) (a1 : Int) : Option (ByteArray × Bool) := if a1 < 0 then (cr18_Bits.j0 k a0 a1 true) else (if a1 > 7 then (cr18_Bits.j0 k a0 a1 true) else (if a0.toList = ([] : List UInt8) then (cr18_Bits.j0 k a0 a1 (a1 != 0)) else (cr18_Bits.j0 k a0 a1 false)))
theorem cr18_Bits.con {k : Nat} {a0 : ByteArray} {a1 : Int} {r : (ByteArray × Bool)} (H : cr18_Bits.f k a0 a1 = some r) : Con Tryd.prog 60 [S a0, I a1] (.tup [S r.1, B r.2]) := by
  refine con_of_good Tryd.func60 rfl (by kernel_rfl) (by kernel_rfl) fun C hN hL => ?_
  unfold cr18_Bits.f at H
  refine Good.seq ?_
  refine Good.reg hN [] .nil [] (by kernel_rfl) ?_
  refine Good.seq ?_
  refine Good.seq ?_
  refine Good.cut (fun st => ∃ (x0 : ByteArray) (x1 : Int) (x21 : Bool), Wk C st ⟨[(0, .d (.v (S x0))), (1, .d (.v (I x1))), (21, .d (.v (B x21)))], []⟩ ∧ cr18_Bits.j0 k x0 x1 x21 = some r) ?_ ?_
  · rcases ifC H with ⟨c627, H⟩ | ⟨c627, H⟩
    · refine Good.reg hN [B true, B true] (.cons (decide_eq_true c627) (.cons (rfl : true = true) .nil)) [] (by kernel_rfl) ?_
      exact ⟨a0, a1, true, Wk.of [(0, 0), (1, 0), (21, 0)] (by kernel_rfl) (by kernel_rfl), H⟩
    rcases ifC H with ⟨c628, H⟩ | ⟨c628, H⟩
    · refine Good.reg hN [B false, B true] (.cons (decide_eq_false c627) (.cons (decide_eq_true c628) .nil)) [] (by kernel_rfl) ?_
      exact ⟨a0, a1, true, Wk.of [(0, 0), (1, 0), (21, 0)] (by kernel_rfl) (by kernel_rfl), H⟩
    rcases ifC H with ⟨c629, H⟩ | ⟨c629, H⟩
    · refine Good.reg hN [B false, B false, B true] (.cons (decide_eq_false c627) (.cons (decide_eq_false c628) (.cons (strV (rfl : a0.toList = a0.toList) (litL ([] : List UInt8))) (.cons (beq_iff_eq.2 c629) .nil)))) [(16, .bool (a0.toList == ([] : List UInt8)))] (by kernel_rfl) ?_
      exact ⟨a0, a1, (a1 != 0), Wk.of [(0, 0), (1, 0), (21, 0)] (by kernel_rfl) (by kernel_rfl), H⟩
    refine Good.reg hN [B false, B false, B false] (.cons (decide_eq_false c627) (.cons (decide_eq_false c628) (.cons (strV (rfl : a0.toList = a0.toList) (litL ([] : List UInt8))) (.cons (beq_eq_false_iff_ne.2 c629) .nil)))) [(16, .bool (a0.toList == ([] : List UInt8)))] (by kernel_rfl) ?_
    exact ⟨a0, a1, false, Wk.of [(0, 0), (1, 0), (21, 0)] (by kernel_rfl) (by kernel_rfl), H⟩
  clear H
  rintro st ⟨x0, x1, x21, W, H⟩
  rcases k with _ | k
  · cases H
  refine W.good ?_
  rw [cr18_Bits.j0] at H
  rcases ifC H with ⟨c630, H⟩ | ⟨c630, H⟩
  · refine Good.condT c630 (by kernel_rfl) ?_
    refine Good.seq ?_
    refine Good.reg hN [] .nil [] (by kernel_rfl) ?_
    obtain rfl := Option.some.inj H
    exact Good.ret (fin.doneR (by kernel_rfl))
  refine Good.condF (Bool.eq_false_iff.2 c630) (by kernel_rfl) ?_
  refine Good.skip ?_
  refine Good.seq ?_
  refine Good.reg hN [] .nil [] (by kernel_rfl) ?_
  refine Good.seq ?_
  refine Good.seq ?_
  refine Good.reg hN [] .nil [] (by kernel_rfl) ?_
  refine Good.block ?_
  refine Good.loopN (fun k' st => ∃ (x0 : ByteArray) (x1 : Int) (x6 : Int) (x7 : Int), k' ≤ k ∧ Wk C st ⟨[(0, .d (.v (S x0))), (1, .d (.v (I x1))), (6, .d (.v (I x6))), (7, .d (.v (I x7)))], []⟩ ∧ cr18_Bits.l0 k' x0 x1 x6 x7 = some r) k ⟨x0, x1, 1, 0, Nat.le_refl _, Wk.of [(0, 0), (1, 0), (6, 0), (7, 0)] (by kernel_rfl) (by kernel_rfl), H⟩ fun k => ⟨fun st h => (by obtain ⟨_, _, _, _, _, _, H⟩ := h; cases H), ?_⟩
  clear H
  rintro st ⟨x0, x1, x6, x7, hk, W, H⟩
  refine W.good ?_
  rw [cr18_Bits.l0] at H
  refine Good.seq ?_
  refine Good.seq ?_
  refine Good.reg hN [] .nil [] (by kernel_rfl) ?_
  rcases ifC H with ⟨c631, H⟩ | ⟨c631, H⟩
  · refine Good.condT (decide_eq_true c631) (by kernel_rfl) ?_
    refine Good.skip ?_
    refine Good.seq ?_
    refine Good.block ?_
    refine Good.reg hN [] .nil [] (by kernel_rfl) ?_
    refine Good.reg hN [] .nil [] (by kernel_rfl) ?_
    exact ⟨k, by omega, x0, x1, wrap64 (2 * x6), wrap64 (x7 + 1), by omega, Wk.of [(0, 0), (1, 0), (6, 0), (7, 0)] (by kernel_rfl) (by kernel_rfl), H⟩
  refine Good.condF (decide_eq_false c631) (by kernel_rfl) ?_
  refine Good.exit ?_
  refine Good.seq ?_
  refine Good.seq ?_
  rcases ifC H with ⟨c632, H⟩ | ⟨c632, H⟩
  · refine Good.reg hN [B false] (.cons (nstrV (rfl : x0.toList = x0.toList) (litL ([] : List UInt8))) (.cons (bneF c632) .nil)) [(30, .bool (x0.toList != ([] : List UInt8)))] (by kernel_rfl) ?_
    refine Good.cond false (by kernel_rfl) ?_
    refine Good.skip ?_
    refine Good.seq ?_
    obtain ⟨t633, h634, H⟩ := bindS H
    obtain ⟨c635, H⟩ := ifS H
    refine Good.reg hN [S t633] (.cons (cr01_Put.con h634).c (.cons c635 .nil)) [] (by kernel_rfl) ?_
    obtain rfl := Option.some.inj H
    exact Good.ret (fin.doneR (by kernel_rfl))
  obtain ⟨c636, H⟩ := ifS H
  obtain ⟨c637, H⟩ := ifS H
  obtain ⟨c638, H⟩ := ifN H
  refine Good.reg hN [B true] (.cons (nstrV (rfl : x0.toList = x0.toList) (litL ([] : List UInt8))) (.cons (bne_iff_ne.2 c632) (.cons c636 (.cons c637 (.cons c638 .nil))))) [(30, .bool (x0.toList != ([] : List UInt8)))] (by kernel_rfl) ?_
  rcases (ifC H).symm with ⟨c639, H⟩ | ⟨c639, H⟩
  · refine Good.condT (bne_iff_ne.2 c639) (by kernel_rfl) ?_
    refine Good.seq ?_
    refine Good.reg hN [] .nil [] (by kernel_rfl) ?_
    obtain rfl := Option.some.inj H
    exact Good.ret (fin.doneR (by kernel_rfl))
  refine Good.condF (bneF c639) (by kernel_rfl) ?_
  refine Good.skip ?_
  refine Good.seq ?_
  obtain ⟨t640, h641, H⟩ := bindS H
  obtain ⟨c642, H⟩ := ifS H
  refine Good.reg hN [S t640] (.cons (cr01_Put.con h641).c (.cons c642 .nil)) [] (by kernel_rfl) ?_
  obtain rfl := Option.some.inj H
  exact Good.ret (fin.doneR (by kernel_rfl))
def cr18_Unbits.f (k : Nat) (a0 : ByteArray) : Option (ByteArray × Int × Bool) := if a0.toList = ([] : List UInt8) then (some ((⟨#[]⟩ : ByteArray), 0, false)) else (if 1 ≤ (a0.size : Int) then (if 0 < (a0.size : Int) then ((cr18_Bits.f k (a0.extract 1 a0.size) (wrap64 (bt a0 0))).bind fun t646 => (if t646.2 = true then (some (a0.extract 1 a0.size, wrap64 (bt a0 0), true)) else (some ((⟨#[]⟩ : ByteArray), 0, false)))) else (none)) else (none))
theorem cr18_Unbits.con {k : Nat} {a0 : ByteArray} {r : (ByteArray × Int × Bool)} (H : cr18_Unbits.f k a0 = some r) : Con Tryd.prog 50 [S a0] (.tup [S r.1, I r.2.1, B r.2.2]) := by
  refine con_of_good Tryd.func50 rfl (by kernel_rfl) (by kernel_rfl) fun C hN hL => ?_
  unfold cr18_Unbits.f at H
  refine Good.seq ?_
  refine Good.reg hN [] .nil [] (by kernel_rfl) ?_
  refine Good.seq ?_
  refine Good.seq ?_
  refine Good.reg hN [] (.cons (strV (rfl : a0.toList = a0.toList) (litL ([] : List UInt8))) .nil) [(8, .bool (a0.toList == ([] : List UInt8)))] (by kernel_rfl) ?_
  rcases ifC H with ⟨c643, H⟩ | ⟨c643, H⟩
  · refine Good.condT (beq_iff_eq.2 c643) (by kernel_rfl) ?_
    refine Good.seq ?_
    refine Good.reg hN [] .nil [] (by kernel_rfl) ?_
    obtain rfl := Option.some.inj H
    exact Good.ret (fin.doneR (by kernel_rfl))
  refine Good.condF (beq_eq_false_iff_ne.2 c643) (by kernel_rfl) ?_
  refine Good.skip ?_
  refine Good.seq ?_
  obtain ⟨c644, H⟩ := ifS H
  obtain ⟨c645, H⟩ := ifS H
  obtain ⟨t646, h647, H⟩ := bindS H
  refine Good.regDF hm hN (.q 0 [] (.q 1 [] (.q 2 [] (.q 3 [] (.q 4 [] (.e 5 (.q 6 [] (.q 7 [] (.q 8 [] (.q 9 [] (.q 10 [] .z))))))))))) [(0, none)] (by kernel_rfl) .nil [.tup [S t646.1, B t646.2]] [] (.cons (show (0 : Int) ≤ 1 by decide) (.cons c644 (.cons (show (0 : Int) ≤ 0 by decide) (.cons c645 (.cons (cr18_Bits.con h647).c .nil))))) (.cons (show (0 : Int) ≤ 1 by decide) (.cons c644 (.cons (show (0 : Int) ≤ 0 by decide) (.cons c645 .nil)))) [] [] (by kernel_rfl) (by kernel_rfl) ?_
  refine Good.seq ?_
  refine Good.seq ?_
  refine Good.reg hN [] .nil [] (by kernel_rfl) ?_
  rcases (ifC H).symm with ⟨c648, H⟩ | ⟨c648, H⟩
  · refine Good.condT (notT (Bool.eq_false_iff.2 c648)) (by kernel_rfl) ?_
    refine Good.seq ?_
    refine Good.reg hN [] .nil [] (by kernel_rfl) ?_
    obtain rfl := Option.some.inj H
    exact Good.ret (fin.doneR (by kernel_rfl))
  refine Good.condF (notF c648) (by kernel_rfl) ?_
  refine Good.skip ?_
  refine Good.seq ?_
  refine Good.regDF hm hN (.q 0 [] (.q 1 [] (.q 2 [] (.q 3 [] (.q 4 [] (.q 5 [] (.q 6 [] (.q 7 [] .z)))))))) [(0, none)] (by kernel_rfl) .nil [] [] (.cons (show (0 : Int) ≤ 1 by decide) (.cons c644 (.cons (show (0 : Int) ≤ 0 by decide) (.cons c645 .nil)))) (.cons (show (0 : Int) ≤ 1 by decide) (.cons c644 (.cons (show (0 : Int) ≤ 0 by decide) (.cons c645 .nil)))) [] [] (by kernel_rfl) (by kernel_rfl) ?_
  obtain rfl := Option.some.inj H
  exact Good.ret (fin.doneR (by kernel_rfl))
def cr17_Right.l0 : Nat → List Int → Int → Option (Bool)
 | 0, _, _ => none
 | k + 1, x0, x3 => if x3 < (x0.length : Int) then (if x3 = 1 then (if 0 < (x0.length : Int) then (if (rd x0 0) < 2 then (if 0 ≤ x3 then (if (rd x0 x3) < 0 then (some false) else (if (rd x0 x3) > 39 then (some false) else (cr17_Right.l0 k x0 (wrap64 (x3 + 1))))) else (none)) else (if 0 ≤ x3 then (if (rd x0 x3) < 0 then (some false) else (if (rd x0 x3) > 2147483567 then (some false) else (cr17_Right.l0 k x0 (wrap64 (x3 + 1))))) else (none))) else (none)) else (if 0 ≤ x3 then (if (rd x0 x3) < 0 then (some false) else (if (rd x0 x3) > 2147483647 then (some false) else (cr17_Right.l0 k x0 (wrap64 (x3 + 1))))) else (none))) else (some true)
def cr17_Right.j0 : Nat → List Int → Bool → Option (Bool)
 | 0, _, _ => none
 | k + 1, x0, x24 => if x24 = true then (some false) else (cr17_Right.l0 k x0 1)
def cr17_Right.f (k : Nat) (l0 : List Int) : Option (Bool) := if (l0.length : Int) < 2 then (cr17_Right.j0 k l0 true) else (if (l0.length : Int) > 20 then (cr17_Right.j0 k l0 true) else (if 0 < (l0.length : Int) then (if (rd l0 0) < 0 then (cr17_Right.j0 k l0 true) else (cr17_Right.j0 k l0 (decide ((rd l0 0) > 2)))) else (none)))
theorem cr17_Right.con {k : Nat} {l0 : List Int} {r : (Bool)} (H : cr17_Right.f k l0 = some r) : Con Tryd.prog 67 [.row none 1 (List.map I l0)] (B r) := by
  refine con_of_good Tryd.func67 rfl (by kernel_rfl) (by kernel_rfl) fun C hN hL => ?_
  unfold cr17_Right.f at H
  refine Good.seq ?_
  refine Good.reg hN [] .nil [] (by kernel_rfl) ?_
  refine Good.seq ?_
  refine Good.seq ?_
  refine Good.cut (fun st => ∃ (x0 : List Int) (x24 : Bool), Wk C st ⟨[(0, .d (.v (.row none 1 (List.map I x0)))), (24, .d (.v (B x24)))], []⟩ ∧ cr17_Right.j0 k x0 x24 = some r) ?_ ?_
  · rcases ifC H with ⟨c649, H⟩ | ⟨c649, H⟩
    · refine Good.reg hN [I (l0.length : Int), B true, B true, B true] (.cons (lenM I l0) (.cons (decide_eq_true c649) (.cons (rfl : true = true) (.cons (rfl : true = true) .nil)))) [] (by kernel_rfl) ?_
      exact ⟨l0, true, Wk.of [(0, 0), (24, 0)] (by kernel_rfl) (by kernel_rfl), H⟩
    rcases ifC H with ⟨c650, H⟩ | ⟨c650, H⟩
    · refine Good.reg hN [I (l0.length : Int), B false, I (l0.length : Int), B true, B true] (.cons (lenM I l0) (.cons (decide_eq_false c649) (.cons (lenM I l0) (.cons (decide_eq_true c650) (.cons (rfl : true = true) .nil))))) [] (by kernel_rfl) ?_
      exact ⟨l0, true, Wk.of [(0, 0), (24, 0)] (by kernel_rfl) (by kernel_rfl), H⟩
    obtain ⟨c651, H⟩ := ifS H
    rcases ifC H with ⟨c652, H⟩ | ⟨c652, H⟩
    · refine Good.reg hN [I (l0.length : Int), B false, I (l0.length : Int), B false, I (rd l0 0), B true] (.cons (lenM I l0) (.cons (decide_eq_false c649) (.cons (lenM I l0) (.cons (decide_eq_false c650) (.cons (show (0 : Int) ≤ 0 by decide) (.cons (atM I (0 : Int) (show (0 : Int) ≤ 0 by decide) c651) (.cons (decide_eq_true c652) .nil))))))) [] (by kernel_rfl) ?_
      exact ⟨l0, true, Wk.of [(0, 0), (24, 0)] (by kernel_rfl) (by kernel_rfl), H⟩
    refine Good.reg hN [I (l0.length : Int), B false, I (l0.length : Int), B false, I (rd l0 0), B false, I (rd l0 0)] (.cons (lenM I l0) (.cons (decide_eq_false c649) (.cons (lenM I l0) (.cons (decide_eq_false c650) (.cons (show (0 : Int) ≤ 0 by decide) (.cons (atM I (0 : Int) (show (0 : Int) ≤ 0 by decide) c651) (.cons (decide_eq_false c652) (.cons (show (0 : Int) ≤ 0 by decide) (.cons (atM I (0 : Int) (show (0 : Int) ≤ 0 by decide) c651) .nil))))))))) [] (by kernel_rfl) ?_
    exact ⟨l0, decide ((rd l0 0) > 2), Wk.of [(0, 0), (24, 0)] (by kernel_rfl) (by kernel_rfl), H⟩
  clear H
  rintro st ⟨x0, x24, W, H⟩
  rcases k with _ | k
  · cases H
  refine W.good ?_
  rw [cr17_Right.j0] at H
  rcases ifC H with ⟨c653, H⟩ | ⟨c653, H⟩
  · refine Good.condT c653 (by kernel_rfl) ?_
    refine Good.seq ?_
    refine Good.reg hN [] .nil [] (by kernel_rfl) ?_
    obtain rfl := Option.some.inj H
    exact Good.ret (fin.doneR (by kernel_rfl))
  refine Good.condF (Bool.eq_false_iff.2 c653) (by kernel_rfl) ?_
  refine Good.skip ?_
  refine Good.seq ?_
  refine Good.seq ?_
  refine Good.reg hN [] .nil [] (by kernel_rfl) ?_
  refine Good.block ?_
  refine Good.loopN (fun k' st => ∃ (x0 : List Int) (x3 : Int), k' ≤ k ∧ Wk C st ⟨[(0, .d (.v (.row none 1 (List.map I x0)))), (3, .d (.v (I x3)))], []⟩ ∧ cr17_Right.l0 k' x0 x3 = some r) k ⟨x0, 1, Nat.le_refl _, Wk.of [(0, 0), (3, 0)] (by kernel_rfl) (by kernel_rfl), H⟩ fun k => ⟨fun st h => (by obtain ⟨_, _, _, _, H⟩ := h; cases H), ?_⟩
  clear H
  rintro st ⟨x0, x3, hk, W, H⟩
  refine W.good ?_
  rw [cr17_Right.l0] at H
  refine Good.seq ?_
  refine Good.seq ?_
  refine Good.reg hN [I (x0.length : Int)] (.cons (lenM I x0) .nil) [] (by kernel_rfl) ?_
  rcases (ifC H).symm with ⟨c654, H⟩ | ⟨c654, H⟩
  · refine Good.condF (decide_eq_false c654) (by kernel_rfl) ?_
    refine Good.exit ?_
    refine Good.seq ?_
    refine Good.reg hN [] .nil [] (by kernel_rfl) ?_
    obtain rfl := Option.some.inj H
    exact Good.ret (fin.doneR (by kernel_rfl))
  refine Good.condT (decide_eq_true c654) (by kernel_rfl) ?_
  refine Good.skip ?_
  refine Good.seq ?_
  refine Good.block ?_
  refine Good.seq ?_
  refine Good.reg hN [] .nil [] (by kernel_rfl) ?_
  refine Good.seq ?_
  refine Good.seq ?_
  refine Good.reg hN [] .nil [] (by kernel_rfl) ?_
  rcases (ifC H).symm with ⟨c655, H⟩ | ⟨c655, H⟩
  · refine Good.condF (beq_eq_false_iff_ne.2 c655) (by kernel_rfl) ?_
    refine Good.skip ?_
    refine Good.seq ?_
    obtain ⟨c664, H⟩ := ifS H
    rcases ifC H with ⟨c665, H⟩ | ⟨c665, H⟩
    · refine Good.reg hN [I (rd x0 x3), B true] (.cons c664 (.cons (atM I (0 : Int) c664 c654) (.cons (decide_eq_true c665) .nil))) [] (by kernel_rfl) ?_
      refine Good.cond true (by kernel_rfl) ?_
      refine Good.seq ?_
      refine Good.reg hN [] .nil [] (by kernel_rfl) ?_
      obtain rfl := Option.some.inj H
      exact Good.ret (fin.doneR (by kernel_rfl))
    refine Good.reg hN [I (rd x0 x3), B false, I (rd x0 x3)] (.cons c664 (.cons (atM I (0 : Int) c664 c654) (.cons (decide_eq_false c665) (.cons c664 (.cons (atM I (0 : Int) c664 c654) .nil))))) [] (by kernel_rfl) ?_
    rcases (ifC H).symm with ⟨c666, H⟩ | ⟨c666, H⟩
    · refine Good.condF (decide_eq_false c666) (by kernel_rfl) ?_
      refine Good.skip ?_
      refine Good.reg hN [] .nil [] (by kernel_rfl) ?_
      exact ⟨k, by omega, x0, wrap64 (x3 + 1), by omega, Wk.of [(0, 0), (3, 0)] (by kernel_rfl) (by kernel_rfl), H⟩
    refine Good.condT (decide_eq_true c666) (by kernel_rfl) ?_
    refine Good.seq ?_
    refine Good.reg hN [] .nil [] (by kernel_rfl) ?_
    obtain rfl := Option.some.inj H
    exact Good.ret (fin.doneR (by kernel_rfl))
  refine Good.condT (beq_iff_eq.2 c655) (by kernel_rfl) ?_
  refine Good.seq ?_
  refine Good.reg hN [] .nil [] (by kernel_rfl) ?_
  refine Good.seq ?_
  obtain ⟨c656, H⟩ := ifS H
  refine Good.reg hN [I (rd x0 0)] (.cons (show (0 : Int) ≤ 0 by decide) (.cons (atM I (0 : Int) (show (0 : Int) ≤ 0 by decide) c656) .nil)) [] (by kernel_rfl) ?_
  rcases ifC H with ⟨c657, H⟩ | ⟨c657, H⟩
  · refine Good.condT (decide_eq_true c657) (by kernel_rfl) ?_
    refine Good.reg hN [] .nil [] (by kernel_rfl) ?_
    refine Good.seq ?_
    obtain ⟨c658, H⟩ := ifS H
    rcases ifC H with ⟨c659, H⟩ | ⟨c659, H⟩
    · refine Good.reg hN [I (rd x0 x3), B true] (.cons c658 (.cons (atM I (0 : Int) c658 c654) (.cons (decide_eq_true c659) .nil))) [] (by kernel_rfl) ?_
      refine Good.cond true (by kernel_rfl) ?_
      refine Good.seq ?_
      refine Good.reg hN [] .nil [] (by kernel_rfl) ?_
      obtain rfl := Option.some.inj H
      exact Good.ret (fin.doneR (by kernel_rfl))
    refine Good.reg hN [I (rd x0 x3), B false, I (rd x0 x3)] (.cons c658 (.cons (atM I (0 : Int) c658 c654) (.cons (decide_eq_false c659) (.cons c658 (.cons (atM I (0 : Int) c658 c654) .nil))))) [] (by kernel_rfl) ?_
    rcases (ifC H).symm with ⟨c660, H⟩ | ⟨c660, H⟩
    · refine Good.condF (decide_eq_false c660) (by kernel_rfl) ?_
      refine Good.skip ?_
      refine Good.reg hN [] .nil [] (by kernel_rfl) ?_
      exact ⟨k, by omega, x0, wrap64 (x3 + 1), by omega, Wk.of [(0, 0), (3, 0)] (by kernel_rfl) (by kernel_rfl), H⟩
    refine Good.condT (decide_eq_true c660) (by kernel_rfl) ?_
    refine Good.seq ?_
    refine Good.reg hN [] .nil [] (by kernel_rfl) ?_
    obtain rfl := Option.some.inj H
    exact Good.ret (fin.doneR (by kernel_rfl))
  refine Good.condF (decide_eq_false c657) (by kernel_rfl) ?_
  refine Good.skip ?_
  refine Good.seq ?_
  obtain ⟨c661, H⟩ := ifS H
  rcases ifC H with ⟨c662, H⟩ | ⟨c662, H⟩
  · refine Good.reg hN [I (rd x0 x3), B true] (.cons c661 (.cons (atM I (0 : Int) c661 c654) (.cons (decide_eq_true c662) .nil))) [] (by kernel_rfl) ?_
    refine Good.cond true (by kernel_rfl) ?_
    refine Good.seq ?_
    refine Good.reg hN [] .nil [] (by kernel_rfl) ?_
    obtain rfl := Option.some.inj H
    exact Good.ret (fin.doneR (by kernel_rfl))
  refine Good.reg hN [I (rd x0 x3), B false, I (rd x0 x3)] (.cons c661 (.cons (atM I (0 : Int) c661 c654) (.cons (decide_eq_false c662) (.cons c661 (.cons (atM I (0 : Int) c661 c654) .nil))))) [] (by kernel_rfl) ?_
  rcases (ifC H).symm with ⟨c663, H⟩ | ⟨c663, H⟩
  · refine Good.condF (decide_eq_false c663) (by kernel_rfl) ?_
    refine Good.skip ?_
    refine Good.reg hN [] .nil [] (by kernel_rfl) ?_
    exact ⟨k, by omega, x0, wrap64 (x3 + 1), by omega, Wk.of [(0, 0), (3, 0)] (by kernel_rfl) (by kernel_rfl), H⟩
  refine Good.condT (decide_eq_true c663) (by kernel_rfl) ?_
  refine Good.seq ?_
  refine Good.reg hN [] .nil [] (by kernel_rfl) ?_
  obtain rfl := Option.some.inj H
  exact Good.ret (fin.doneR (by kernel_rfl))
def cr17_digits.l0 : Nat → Int → ByteArray → Option (ByteArray)
 | 0, _, _ => none
 | k + 1, x0, x3 => if x0 > 0 then (if (strOfNums ([(wrap64 (128 + (Int.tmod x0 128))) % 256] : List Int)).size + x3.size ≤ 9223372036854775807 then (cr17_digits.l0 k (wrap64 (Int.tdiv x0 128)) ((strOfNums ([(wrap64 (128 + (Int.tmod x0 128))) % 256] : List Int)) ++ x3)) else (none)) else (some x3)
def cr17_digits.f (k : Nat) (a0 : Int) : Option (ByteArray) := cr17_digits.l0 k (wrap64 (Int.tdiv a0 128)) (strOfNums ([(Int.tmod a0 128) % 256] : List Int))
theorem cr17_digits.con {k : Nat} {a0 : Int} {r : (ByteArray)} (H : cr17_digits.f k a0 = some r) : Con Tryd.prog 68 [I a0] (S r) := by
  refine con_of_good Tryd.func68 rfl (by kernel_rfl) (by kernel_rfl) fun C hN hL => ?_
  unfold cr17_digits.f at H
  refine Good.seq ?_
  refine Good.reg hN [] .nil [] (by kernel_rfl) ?_
  refine Good.seq ?_
  refine Good.reg hN [S (strOfNums ([(Int.tmod a0 128) % 256] : List Int))] (.cons (show (128 : Int) ≠ 0 by decide) (.cons (strN ([(Int.tmod a0 128) % 256] : List Int)) .nil)) [] (by kernel_rfl) ?_
  refine Good.seq ?_
  refine Good.reg hN [] (.cons (show (128 : Int) ≠ 0 by decide) .nil) [] (by kernel_rfl) ?_
  refine Good.seq ?_
  refine Good.block ?_
  refine Good.loopN (fun k' st => ∃ (x0 : Int) (x3 : ByteArray), k' ≤ k ∧ Wk C st ⟨[(0, .d (.v (I x0))), (3, .d (.v (S x3)))], []⟩ ∧ cr17_digits.l0 k' x0 x3 = some r) k ⟨wrap64 (Int.tdiv a0 128), strOfNums ([(Int.tmod a0 128) % 256] : List Int), Nat.le_refl _, Wk.of [(0, 0), (3, 0)] (by kernel_rfl) (by kernel_rfl), H⟩ fun k => ⟨fun st h => (by obtain ⟨_, _, _, _, H⟩ := h; cases H), ?_⟩
  clear H
  rintro st ⟨x0, x3, hk, W, H⟩
  refine W.good ?_
  rw [cr17_digits.l0] at H
  refine Good.seq ?_
  refine Good.seq ?_
  refine Good.reg hN [] .nil [] (by kernel_rfl) ?_
  rcases (ifC H).symm with ⟨c667, H⟩ | ⟨c667, H⟩
  · refine Good.condF (decide_eq_false c667) (by kernel_rfl) ?_
    refine Good.exit ?_
    refine Good.seq ?_
    refine Good.reg hN [] .nil [] (by kernel_rfl) ?_
    obtain rfl := Option.some.inj H
    exact Good.ret (fin.doneR (by kernel_rfl))
  refine Good.condT (decide_eq_true c667) (by kernel_rfl) ?_
  refine Good.skip ?_
  refine Good.block ?_
  refine Good.seq ?_
  obtain ⟨c668, H⟩ := ifS H
  refine Good.reg hN [S (strOfNums ([(wrap64 (128 + (Int.tmod x0 128))) % 256] : List Int))] (.cons (show (128 : Int) ≠ 0 by decide) (.cons (strN ([(wrap64 (128 + (Int.tmod x0 128))) % 256] : List Int)) (.cons c668 .nil))) [] (by kernel_rfl) ?_
  refine Good.reg hN [] (.cons (show (128 : Int) ≠ 0 by decide) .nil) [] (by kernel_rfl) ?_
  exact ⟨k, by omega, wrap64 (Int.tdiv x0 128), (strOfNums ([(wrap64 (128 + (Int.tmod x0 128))) % 256] : List Int)) ++ x3, by omega, Wk.of [(0, 0), (3, 0)] (by kernel_rfl) (by kernel_rfl), H⟩
def cr17_Encode.l0 : Nat → List Int → ByteArray → Int → Option (ByteArray × Bool)
 | 0, _, _, _ => none
 | k + 1, x0, x4, x5 => if x5 < (x0.length : Int) then (if 0 ≤ x5 then ((cr17_digits.f k (rd x0 x5)).bind fun t678 => (if x4.size + t678.size ≤ 9223372036854775807 then (cr17_Encode.l0 k x0 (x4 ++ t678) (wrap64 (x5 + 1))) else (none))) else (none)) else (some (x4, true))
def cr17_Encode.f (k : Nat) (l0 : List Int) : Option (ByteArray × Bool) := (cr17_Right.f k l0).bind fun t669 => (if t669 = true then (if 0 < (l0.length : Int) then (if 1 < (l0.length : Int) then ((cr17_digits.f k (wrap64 ((wrap64 (40 * (rd l0 0))) + (rd l0 1)))).bind fun t674 => (cr17_Encode.l0 k l0 t674 2)) else (none)) else (none)) else (some ((⟨#[]⟩ : ByteArray), false)))
theorem cr17_Encode.con {k : Nat} {l0 : List Int} {r : (ByteArray × Bool)} (H : cr17_Encode.f k l0 = some r) : Con Tryd.prog 61 [.row none 1 (List.map I l0)] (.tup [S r.1, B r.2]) := by
  refine con_of_good Tryd.func61 rfl (by kernel_rfl) (by kernel_rfl) fun C hN hL => ?_
  unfold cr17_Encode.f at H
  refine Good.seq ?_
  refine Good.reg hN [] .nil [] (by kernel_rfl) ?_
  refine Good.seq ?_
  refine Good.seq ?_
  obtain ⟨t669, h670, H⟩ := bindS H
  refine Good.reg hN [B t669] (.cons (cr17_Right.con h670).c .nil) [] (by kernel_rfl) ?_
  rcases (ifC H).symm with ⟨c671, H⟩ | ⟨c671, H⟩
  · refine Good.condT (notT (Bool.eq_false_iff.2 c671)) (by kernel_rfl) ?_
    refine Good.seq ?_
    refine Good.reg hN [] .nil [] (by kernel_rfl) ?_
    obtain rfl := Option.some.inj H
    exact Good.ret (fin.doneR (by kernel_rfl))
  refine Good.condF (notF c671) (by kernel_rfl) ?_
  refine Good.skip ?_
  refine Good.seq ?_
  obtain ⟨c672, H⟩ := ifS H
  obtain ⟨c673, H⟩ := ifS H
  obtain ⟨t674, h675, H⟩ := bindS H
  refine Good.regDF hm hN (.q 0 [] (.q 1 [] (.q 2 [] (.q 3 [] (.q 4 [] (.q 5 [] (.q 6 [] (.q 7 [] (.e 8 (.q 9 [] .z)))))))))) [(0, none)] (by kernel_rfl) .nil [I (rd l0 0), I (rd l0 1), S t674] [I (rd l0 0), I (rd l0 1)] (.cons (show (0 : Int) ≤ 0 by decide) (.cons (atM I (0 : Int) (show (0 : Int) ≤ 0 by decide) c672) (.cons (show (0 : Int) ≤ 1 by decide) (.cons (atM I (0 : Int) (show (0 : Int) ≤ 1 by decide) c673) (.cons (cr17_digits.con h675).c .nil))))) (.cons (show (0 : Int) ≤ 0 by decide) (.cons (atM I (0 : Int) (show (0 : Int) ≤ 0 by decide) c672) (.cons (show (0 : Int) ≤ 1 by decide) (.cons (atM I (0 : Int) (show (0 : Int) ≤ 1 by decide) c673) .nil)))) [] [] (by kernel_rfl) (by kernel_rfl) ?_
  refine Good.seq ?_
  refine Good.seq ?_
  refine Good.reg hN [] .nil [] (by kernel_rfl) ?_
  refine Good.block ?_
  refine Good.loopN (fun k' st => ∃ (x0 : List Int) (x4 : ByteArray) (x5 : Int), k' ≤ k ∧ Wk C st ⟨[(0, .d (.v (.row none 1 (List.map I x0)))), (4, .d (.v (S x4))), (5, .d (.v (I x5)))], []⟩ ∧ cr17_Encode.l0 k' x0 x4 x5 = some r) k ⟨l0, t674, 2, Nat.le_refl _, Wk.of [(0, 0), (4, 0), (5, 0)] (by kernel_rfl) (by kernel_rfl), H⟩ fun k => ⟨fun st h => (by obtain ⟨_, _, _, _, _, H⟩ := h; cases H), ?_⟩
  clear H
  rintro st ⟨x0, x4, x5, hk, W, H⟩
  refine W.good ?_
  rw [cr17_Encode.l0] at H
  refine Good.seq ?_
  refine Good.seq ?_
  refine Good.reg hN [I (x0.length : Int)] (.cons (lenM I x0) .nil) [] (by kernel_rfl) ?_
  rcases (ifC H).symm with ⟨c676, H⟩ | ⟨c676, H⟩
  · refine Good.condF (decide_eq_false c676) (by kernel_rfl) ?_
    refine Good.exit ?_
    refine Good.seq ?_
    refine Good.reg hN [] .nil [] (by kernel_rfl) ?_
    obtain rfl := Option.some.inj H
    exact Good.ret (fin.doneR (by kernel_rfl))
  refine Good.condT (decide_eq_true c676) (by kernel_rfl) ?_
  refine Good.skip ?_
  refine Good.seq ?_
  refine Good.block ?_
  obtain ⟨c677, H⟩ := ifS H
  obtain ⟨t678, h679, H⟩ := bindS H
  obtain ⟨c680, H⟩ := ifS H
  refine Good.reg hN [I (rd x0 x5), S t678] (.cons c677 (.cons (atM I (0 : Int) c677 c676) (.cons (cr17_digits.con h679).c (.cons c680 .nil)))) [] (by kernel_rfl) ?_
  refine Good.reg hN [] .nil [] (by kernel_rfl) ?_
  exact ⟨k, by omega, x0, x4 ++ t678, wrap64 (x5 + 1), by omega, Wk.of [(0, 0), (4, 0), (5, 0)] (by kernel_rfl) (by kernel_rfl), H⟩
mutual
def cr17_Decode.l0 : Nat → ByteArray → List Int → Int → Int → Option (List Int × Bool)
 | 0, _, _, _, _ => none
 | k + 1, x0, x4, x5, x6 => if x6 < (x0.size : Int) then (cr17_Decode.j1 k x0 x4 x5 x6 (decide ((x4.length : Int) < 21))) else (cr17_Decode.j1 k x0 x4 x5 x6 false)
def cr17_Decode.j1 : Nat → ByteArray → List Int → Int → Int → Bool → Option (List Int × Bool)
 | 0, _, _, _, _, _ => none
 | k + 1, x0, x4, x5, x6, x18 => if x18 = true then (if 0 ≤ x6 then (if x6 < (x0.size : Int) then (if (wrap64 ((wrap64 (128 * x5)) + (Int.tmod (wrap64 (bt x0 x6)) 128))) > 4294967296 then (some (([] : List Int), false)) else (if (bt x0 x6) > 127 then (cr17_Decode.l0 k x0 x4 (wrap64 ((wrap64 (128 * x5)) + (Int.tmod (wrap64 (bt x0 x6)) 128))) (wrap64 (x6 + 1))) else (if (x4.length : Int) = 0 then (if (wrap64 (Int.tdiv (wrap64 ((wrap64 (128 * x5)) + (Int.tmod (wrap64 (bt x0 x6)) 128))) 40)) > 2 then (if x4.length < 17592186044416 then ((some (x4 ++ [2] : List Int)).bind fun y709 => (if y709.length < 17592186044416 then (cr17_Decode.l0 k x0 (y709 ++ [wrap64 ((wrap64 ((wrap64 (128 * x5)) + (Int.tmod (wrap64 (bt x0 x6)) 128))) - 80)]) 0 (wrap64 (x6 + 1))) else (none))) else (none)) else (if x4.length < 17592186044416 then ((some (x4 ++ [wrap64 (Int.tdiv (wrap64 ((wrap64 (128 * x5)) + (Int.tmod (wrap64 (bt x0 x6)) 128))) 40)] : List Int)).bind fun y713 => (if y713.length < 17592186044416 then (cr17_Decode.l0 k x0 (y713 ++ [wrap64 ((wrap64 ((wrap64 (128 * x5)) + (Int.tmod (wrap64 (bt x0 x6)) 128))) - (wrap64 (40 * (wrap64 (Int.tdiv (wrap64 ((wrap64 (128 * x5)) + (Int.tmod (wrap64 (bt x0 x6)) 128))) 40)))))]) 0 (wrap64 (x6 + 1))) else (none))) else (none))) else (if x4.length < 17592186044416 then (cr17_Decode.l0 k x0 (x4 ++ [wrap64 ((wrap64 (128 * x5)) + (Int.tmod (wrap64 (bt x0 x6)) 128))]) 0 (wrap64 (x6 + 1))) else (none))))) else (none)) else (none)) else ((cr17_Encode.f k x4).bind fun t698 => (if t698.2 = true then (if t698.1.toList = x0.toList then (some (x4, true)) else (some (([] : List Int), false))) else (some (([] : List Int), false))))
end
def cr17_Decode.f (k : Nat) (a0 : ByteArray) : Option (List Int × Bool) := cr17_Decode.l0 k a0 ([] : List Int) 0 0
theorem cr17_Decode.con {k : Nat} {a0 : ByteArray} {r : (List Int × Bool)} (H : cr17_Decode.f k a0 = some r) : Con Tryd.prog 51 [S a0] (.tup [.row none 1 (List.map I r.1), B r.2]) := by
  refine con_of_good Tryd.func51 rfl (by kernel_rfl) (by kernel_rfl) fun C hN hL => ?_
  unfold cr17_Decode.f at H
  refine Good.seq ?_
  refine Good.reg hN [] .nil [] (by kernel_rfl) ?_
  refine Good.seq ?_
  refine Good.reg hN [] .nil [] (by kernel_rfl) ?_
  refine Good.seq ?_
  refine Good.reg hN [] .nil [] (by kernel_rfl) ?_
  refine Good.seq ?_
  refine Good.seq ?_
  refine Good.reg hN [] .nil [] (by kernel_rfl) ?_
  refine Good.block ?_
  refine Good.loopN (fun k' st => ∃ (x0 : ByteArray) (x4 : List Int) (x5 : Int) (x6 : Int), k' ≤ k ∧ Wk C st ⟨[(0, .d (.v (S x0))), (4, .d (.v (.row (some 3) 1 (List.map I x4)))), (5, .d (.v (I x5))), (6, .d (.v (I x6)))], []⟩ ∧ cr17_Decode.l0 k' x0 x4 x5 x6 = some r) k ⟨a0, ([] : List Int), 0, 0, Nat.le_refl _, Wk.of [(0, 0), (4, 1), (5, 0), (6, 0)] (by kernel_rfl) (by kernel_rfl), H⟩ fun k => ⟨fun st h => (by obtain ⟨_, _, _, _, _, _, H⟩ := h; cases H), ?_⟩
  clear H
  rintro st ⟨x0, x4, x5, x6, hk, W, H⟩
  refine W.good ?_
  rw [cr17_Decode.l0] at H
  refine Good.seq ?_
  refine Good.seq ?_
  refine Good.cut (fun st => ∃ (x0 : ByteArray) (x4 : List Int) (x5 : Int) (x6 : Int) (x18 : Bool), Wk C st ⟨[(0, .d (.v (S x0))), (4, .d (.v (.row (some 3) 1 (List.map I x4)))), (5, .d (.v (I x5))), (6, .d (.v (I x6))), (18, .d (.v (B x18)))], []⟩ ∧ cr17_Decode.j1 k x0 x4 x5 x6 x18 = some r) ?_ ?_
  · rcases ifC H with ⟨c696, H⟩ | ⟨c696, H⟩
    · refine Good.reg hN [B true, I (x4.length : Int)] (.cons (decide_eq_true c696) (.cons (lenM I x4) .nil)) [] (by kernel_rfl) ?_
      exact ⟨x0, x4, x5, x6, decide ((x4.length : Int) < 21), Wk.of [(0, 0), (4, 0), (5, 0), (6, 0), (18, 0)] (by kernel_rfl) (by kernel_rfl), H⟩
    refine Good.reg hN [B false] (.cons (decide_eq_false c696) .nil) [] (by kernel_rfl) ?_
    exact ⟨x0, x4, x5, x6, false, Wk.of [(0, 0), (4, 0), (5, 0), (6, 0), (18, 0)] (by kernel_rfl) (by kernel_rfl), H⟩
  clear H
  rintro st ⟨x0, x4, x5, x6, x18, W, H⟩
  rcases k with _ | k
  · cases H
  refine W.good ?_
  rw [cr17_Decode.j1] at H
  rcases (ifC H).symm with ⟨c697, H⟩ | ⟨c697, H⟩
  · refine Good.condF (Bool.eq_false_iff.2 c697) (by kernel_rfl) ?_
    refine Good.exit ?_
    refine Good.seq ?_
    obtain ⟨t698, h699, H⟩ := bindS H
    refine Good.reg hN [.row none 1 (List.map I x4), .tup [S t698.1, B t698.2]] (.cons (shrM (some 3) 1 I I x4 (fun _ => rfl)) (.cons (cr17_Encode.con h699).c .nil)) [] (by kernel_rfl) ?_
    refine Good.seq ?_
    refine Good.seq ?_
    rcases (ifC H).symm with ⟨c700, H⟩ | ⟨c700, H⟩
    · refine Good.reg hN [B true] (.cons (notT (Bool.eq_false_iff.2 c700)) .nil) [] (by kernel_rfl) ?_
      refine Good.cond true (by kernel_rfl) ?_
      refine Good.seq ?_
      refine Good.reg hN [] .nil [] (by kernel_rfl) ?_
      obtain rfl := Option.some.inj H
      exact Good.ret (fin_fit (u := .tup [.nil 3 1, B false]) (.tup (.cons (.nilS 3 1 _) (.cons (.refl _) .nil))) (by kernel_rfl))
    refine Good.reg hN [B false] (.cons (notF c700) .nil) [] (by kernel_rfl) ?_
    rcases (ifC H).symm with ⟨c701, H⟩ | ⟨c701, H⟩
    · refine Good.condT (bne_iff_ne.2 c701) (by kernel_rfl) ?_
      refine Good.seq ?_
      refine Good.reg hN [] .nil [] (by kernel_rfl) ?_
      obtain rfl := Option.some.inj H
      exact Good.ret (fin_fit (u := .tup [.nil 3 1, B false]) (.tup (.cons (.nilS 3 1 _) (.cons (.refl _) .nil))) (by kernel_rfl))
    refine Good.condF (bneF c701) (by kernel_rfl) ?_
    refine Good.skip ?_
    refine Good.seq ?_
    refine Good.reg hN [] .nil [] (by kernel_rfl) ?_
    obtain rfl := Option.some.inj H
    exact Good.ret (fin.doneR (by kernel_rfl))
  refine Good.condT c697 (by kernel_rfl) ?_
  refine Good.skip ?_
  refine Good.seq ?_
  refine Good.block ?_
  refine Good.seq ?_
  obtain ⟨c702, H⟩ := ifS H
  obtain ⟨c703, H⟩ := ifS H
  refine Good.reg hN [] (.cons c702 (.cons c703 (.cons (show (128 : Int) ≠ 0 by decide) .nil))) [] (by kernel_rfl) ?_
  refine Good.seq ?_
  refine Good.seq ?_
  refine Good.reg hN [] .nil [] (by kernel_rfl) ?_
  rcases ifC H with ⟨c704, H⟩ | ⟨c704, H⟩
  · refine Good.condT (decide_eq_true c704) (by kernel_rfl) ?_
    refine Good.seq ?_
    refine Good.reg hN [] .nil [] (by kernel_rfl) ?_
    obtain rfl := Option.some.inj H
    exact Good.ret (fin_fit (u := .tup [.nil 3 1, B false]) (.tup (.cons (.nilS 3 1 _) (.cons (.refl _) .nil))) (by kernel_rfl))
  refine Good.condF (decide_eq_false c704) (by kernel_rfl) ?_
  refine Good.skip ?_
  refine Good.seq ?_
  refine Good.seq ?_
  refine Good.reg hN [] (.cons c702 (.cons c703 .nil)) [] (by kernel_rfl) ?_
  rcases ifC H with ⟨c705, H⟩ | ⟨c705, H⟩
  · refine Good.condT (decide_eq_true c705) (by kernel_rfl) ?_
    refine Good.exit ?_
    refine Good.reg hN [] .nil [] (by kernel_rfl) ?_
    exact ⟨k, by omega, x0, x4, wrap64 ((wrap64 (128 * x5)) + (Int.tmod (wrap64 (bt x0 x6)) 128)), wrap64 (x6 + 1), by omega, Wk.of [(0, 0), (4, 0), (5, 0), (6, 0)] (by kernel_rfl) (by kernel_rfl), H⟩
  refine Good.condF (decide_eq_false c705) (by kernel_rfl) ?_
  refine Good.skip ?_
  refine Good.seq ?_
  refine Good.seq ?_
  refine Good.reg hN [I (x4.length : Int)] (.cons (lenM I x4) .nil) [] (by kernel_rfl) ?_
  rcases (ifC H).symm with ⟨c706, H⟩ | ⟨c706, H⟩
  · refine Good.condF (beq_eq_false_iff_ne.2 c706) (by kernel_rfl) ?_
    refine Good.skip ?_
    refine Good.seq ?_
    obtain ⟨c716, H⟩ := ifS H
    refine Good.reg hN [.kb true, .row (some 3) 1 (List.map I (x4 ++ [wrap64 ((wrap64 (128 * x5)) + (Int.tmod (wrap64 (bt x0 x6)) 128))]))] (.cons (fitM I x4 [wrap64 ((wrap64 (128 * x5)) + (Int.tmod (wrap64 (bt x0 x6)) 128))] (.refl _)) (.cons (limM1 I c716) .nil)) [] (by kernel_rfl) ?_
    refine Good.reg hN [] .nil [] (by kernel_rfl) ?_
    refine Good.reg hN [] .nil [] (by kernel_rfl) ?_
    exact ⟨k, by omega, x0, (x4 ++ [wrap64 ((wrap64 (128 * x5)) + (Int.tmod (wrap64 (bt x0 x6)) 128))]), 0, wrap64 (x6 + 1), by omega, Wk.of [(0, 0), (4, 0), (5, 0), (6, 0)] (by kernel_rfl) (by kernel_rfl), H⟩
  refine Good.condT (beq_iff_eq.2 c706) (by kernel_rfl) ?_
  refine Good.seq ?_
  refine Good.reg hN [] (.cons (show (40 : Int) ≠ 0 by decide) .nil) [] (by kernel_rfl) ?_
  refine Good.seq ?_
  refine Good.seq ?_
  refine Good.reg hN [] .nil [] (by kernel_rfl) ?_
  rcases ifC H with ⟨c707, H⟩ | ⟨c707, H⟩
  · refine Good.condT (decide_eq_true c707) (by kernel_rfl) ?_
    refine Good.reg hN [] .nil [] (by kernel_rfl) ?_
    refine Good.seq ?_
    obtain ⟨c708, H⟩ := ifS H
    replace H := bindI H
    refine Good.reg hN [.kb true, .row (some 3) 1 (List.map I (x4 ++ [2]))] (.cons (fitM I x4 [2] (.refl _)) (.cons (limM1 I c708) .nil)) [] (by kernel_rfl) ?_
    refine Good.reg hN [] .nil [] (by kernel_rfl) ?_
    refine Good.seq ?_
    obtain ⟨c710, H⟩ := ifS H
    refine Good.reg hN [.kb true, .row (some 3) 1 (List.map I ((x4 ++ [2]) ++ [wrap64 ((wrap64 ((wrap64 (128 * x5)) + (Int.tmod (wrap64 (bt x0 x6)) 128))) - 80)]))] (.cons (fitM I (x4 ++ [2]) [wrap64 ((wrap64 ((wrap64 (128 * x5)) + (Int.tmod (wrap64 (bt x0 x6)) 128))) - 80)] (.refl _)) (.cons (limM1 I c710) .nil)) [] (by kernel_rfl) ?_
    refine Good.reg hN [] .nil [] (by kernel_rfl) ?_
    refine Good.reg hN [] .nil [] (by kernel_rfl) ?_
    exact ⟨k, by omega, x0, ((x4 ++ [2]) ++ [wrap64 ((wrap64 ((wrap64 (128 * x5)) + (Int.tmod (wrap64 (bt x0 x6)) 128))) - 80)]), 0, wrap64 (x6 + 1), by omega, Wk.of [(0, 0), (4, 0), (5, 0), (6, 0)] (by kernel_rfl) (by kernel_rfl), H⟩
  refine Good.condF (decide_eq_false c707) (by kernel_rfl) ?_
  refine Good.skip ?_
  refine Good.seq ?_
  obtain ⟨c712, H⟩ := ifS H
  replace H := bindI H
  refine Good.reg hN [.kb true, .row (some 3) 1 (List.map I (x4 ++ [wrap64 (Int.tdiv (wrap64 ((wrap64 (128 * x5)) + (Int.tmod (wrap64 (bt x0 x6)) 128))) 40)]))] (.cons (fitM I x4 [wrap64 (Int.tdiv (wrap64 ((wrap64 (128 * x5)) + (Int.tmod (wrap64 (bt x0 x6)) 128))) 40)] (.refl _)) (.cons (limM1 I c712) .nil)) [] (by kernel_rfl) ?_
  refine Good.reg hN [] .nil [] (by kernel_rfl) ?_
  refine Good.seq ?_
  obtain ⟨c714, H⟩ := ifS H
  refine Good.reg hN [.kb true, .row (some 3) 1 (List.map I ((x4 ++ [wrap64 (Int.tdiv (wrap64 ((wrap64 (128 * x5)) + (Int.tmod (wrap64 (bt x0 x6)) 128))) 40)]) ++ [wrap64 ((wrap64 ((wrap64 (128 * x5)) + (Int.tmod (wrap64 (bt x0 x6)) 128))) - (wrap64 (40 * (wrap64 (Int.tdiv (wrap64 ((wrap64 (128 * x5)) + (Int.tmod (wrap64 (bt x0 x6)) 128))) 40)))))]))] (.cons (fitM I (x4 ++ [wrap64 (Int.tdiv (wrap64 ((wrap64 (128 * x5)) + (Int.tmod (wrap64 (bt x0 x6)) 128))) 40)]) [wrap64 ((wrap64 ((wrap64 (128 * x5)) + (Int.tmod (wrap64 (bt x0 x6)) 128))) - (wrap64 (40 * (wrap64 (Int.tdiv (wrap64 ((wrap64 (128 * x5)) + (Int.tmod (wrap64 (bt x0 x6)) 128))) 40)))))] (.refl _)) (.cons (limM1 I c714) .nil)) [] (by kernel_rfl) ?_
  refine Good.reg hN [] .nil [] (by kernel_rfl) ?_
  refine Good.reg hN [] .nil [] (by kernel_rfl) ?_
  exact ⟨k, by omega, x0, ((x4 ++ [wrap64 (Int.tdiv (wrap64 ((wrap64 (128 * x5)) + (Int.tmod (wrap64 (bt x0 x6)) 128))) 40)]) ++ [wrap64 ((wrap64 ((wrap64 (128 * x5)) + (Int.tmod (wrap64 (bt x0 x6)) 128))) - (wrap64 (40 * (wrap64 (Int.tdiv (wrap64 ((wrap64 (128 * x5)) + (Int.tmod (wrap64 (bt x0 x6)) 128))) 40)))))]), 0, wrap64 (x6 + 1), by omega, Wk.of [(0, 0), (4, 0), (5, 0), (6, 0)] (by kernel_rfl) (by kernel_rfl), H⟩
def cr18_point.l0 : Nat → ByteArray → Int → Int → Int → Int → Option (Int)
 | 0, _, _, _, _, _ => none
 | k + 1, x0, x4, x5, x6, x7 => if x7 ≤ x5 then (if 0 ≤ x7 then (if x7 < (x0.size : Int) then (if (bt x0 x7) < 128 then (some 0) else (if (bt x0 x7) > 191 then (some 0) else (cr18_point.l0 k x0 (wrap64 ((wrap64 ((wrap64 (64 * x4)) + (wrap64 (bt x0 x7)))) - 128)) x5 x6 (wrap64 (x7 + 1))))) else (none)) else (none)) else (if x4 < x6 then (some 0) else (if x4 > 1114111 then (some 0) else (if x4 > 55295 then (if x4 < 57344 then (some 0) else (some (wrap64 (x5 + 1)))) else (some (wrap64 (x5 + 1))))))
def cr18_point.j6 : Nat → ByteArray → Int → Int → Int → Bool → Option (Int)
 | 0, _, _, _, _, _ => none
 | k + 1, x0, x4, x5, x6, x44 => if x44 = true then (some 0) else (cr18_point.l0 k x0 x4 x5 x6 1)
def cr18_point.j5 : Nat → ByteArray → Int → Int → Int → Option (Int)
 | 0, _, _, _, _ => none
 | k + 1, x0, x4, x5, x6 => if x5 = 0 then (cr18_point.j6 k x0 x4 x5 x6 true) else (cr18_point.j6 k x0 x4 x5 x6 (decide ((x0.size : Int) ≤ x5)))
def cr18_point.j4 : Nat → ByteArray → Int → Int → Int → Int → Bool → Option (Int)
 | 0, _, _, _, _, _, _ => none
 | k + 1, x0, x3, x4, x5, x6, x34 => if x34 = true then (cr18_point.j5 k x0 (wrap64 (x3 - 240)) 3 65536) else (cr18_point.j5 k x0 x4 x5 x6)
def cr18_point.j3 : Nat → ByteArray → Int → Int → Int → Int → Option (Int)
 | 0, _, _, _, _, _ => none
 | k + 1, x0, x3, x4, x5, x6 => if x3 ≥ 240 then (cr18_point.j4 k x0 x3 x4 x5 x6 (decide (x3 < 248))) else (cr18_point.j4 k x0 x3 x4 x5 x6 false)
def cr18_point.j2 : Nat → ByteArray → Int → Int → Int → Int → Bool → Option (Int)
 | 0, _, _, _, _, _, _ => none
 | k + 1, x0, x3, x4, x5, x6, x26 => if x26 = true then (cr18_point.j3 k x0 x3 (wrap64 (x3 - 224)) 2 2048) else (cr18_point.j3 k x0 x3 x4 x5 x6)
def cr18_point.j1 : Nat → ByteArray → Int → Int → Int → Int → Option (Int)
 | 0, _, _, _, _, _ => none
 | k + 1, x0, x3, x4, x5, x6 => if x3 ≥ 224 then (cr18_point.j2 k x0 x3 x4 x5 x6 (decide (x3 < 240))) else (cr18_point.j2 k x0 x3 x4 x5 x6 false)
def cr18_point.j0 : Nat → ByteArray → Int → Int → Int → Int → Bool → Option (Int)
 | 0, _, _, _, _, _, _ => none
 | k + 1, x0, x3, x4, x5, x6, x18 => if x18 = true then (cr18_point.j1 k x0 x3 (wrap64 (x3 - 192)) 1 128) else (cr18_point.j1 k x0 x3 x4 x5 x6)
def cr18_point.f (k : Nat) (a0 : ByteArray) : Option (Int) := if 0 < (a0.size : Int) then (if (wrap64 (bt a0 0)) < 128 then (some 1) else (if (wrap64 (bt a0 0)) ≥ 192 then (cr18_point.j0 k a0 (wrap64 (bt a0 0)) 0 0 0 (decide ((wrap64 (bt a0 0)) < 224))) else (cr18_point.j0 k a0 (wrap64 (bt a0 0)) 0 0 0 false))) else (none)
theorem cr18_point.con {k : Nat} {a0 : ByteArray} {r : (Int)} (H : cr18_point.f k a0 = some r) : Con Tryd.prog 62 [S a0] (I r) := by
  refine con_of_good Tryd.func62 rfl (by kernel_rfl) (by kernel_rfl) fun C hN hL => ?_
  unfold cr18_point.f at H
  refine Good.seq ?_
  refine Good.reg hN [] .nil [] (by kernel_rfl) ?_
  refine Good.seq ?_
  obtain ⟨c718, H⟩ := ifS H
  refine Good.reg hN [] (.cons (show (0 : Int) ≤ 0 by decide) (.cons c718 .nil)) [] (by kernel_rfl) ?_
  refine Good.seq ?_
  refine Good.reg hN [] .nil [] (by kernel_rfl) ?_
  refine Good.seq ?_
  refine Good.seq ?_
  refine Good.reg hN [] .nil [] (by kernel_rfl) ?_
  rcases ifC H with ⟨c719, H⟩ | ⟨c719, H⟩
  · refine Good.condT (decide_eq_true c719) (by kernel_rfl) ?_
    refine Good.seq ?_
    refine Good.reg hN [] .nil [] (by kernel_rfl) ?_
    obtain rfl := Option.some.inj H
    exact Good.ret (fin.doneR (by kernel_rfl))
  refine Good.condF (decide_eq_false c719) (by kernel_rfl) ?_
  refine Good.skip ?_
  refine Good.seq ?_
  refine Good.seq ?_
  refine Good.cut (fun st => ∃ (x0 : ByteArray) (x3 : Int) (x4 : Int) (x5 : Int) (x6 : Int) (x18 : Bool), Wk C st ⟨[(0, .d (.v (S x0))), (3, .d (.v (I x3))), (4, .d (.v (I x4))), (5, .d (.v (I x5))), (6, .d (.v (I x6))), (18, .d (.v (B x18)))], []⟩ ∧ cr18_point.j0 k x0 x3 x4 x5 x6 x18 = some r) ?_ ?_
  · rcases ifC H with ⟨c720, H⟩ | ⟨c720, H⟩
    · refine Good.reg hN [B true] (.cons (decide_eq_true c720) .nil) [] (by kernel_rfl) ?_
      exact ⟨a0, wrap64 (bt a0 0), 0, 0, 0, decide ((wrap64 (bt a0 0)) < 224), Wk.of [(0, 0), (3, 0), (4, 0), (5, 0), (6, 0), (18, 0)] (by kernel_rfl) (by kernel_rfl), H⟩
    refine Good.reg hN [B false] (.cons (decide_eq_false c720) .nil) [] (by kernel_rfl) ?_
    exact ⟨a0, wrap64 (bt a0 0), 0, 0, 0, false, Wk.of [(0, 0), (3, 0), (4, 0), (5, 0), (6, 0), (18, 0)] (by kernel_rfl) (by kernel_rfl), H⟩
  clear H
  rintro st ⟨x0, x3, x4, x5, x6, x18, W, H⟩
  rcases k with _ | k
  · cases H
  refine W.good ?_
  rw [cr18_point.j0] at H
  refine Good.cut (fun st => ∃ (x0 : ByteArray) (x3 : Int) (x4 : Int) (x5 : Int) (x6 : Int), Wk C st ⟨[(0, .d (.v (S x0))), (3, .d (.v (I x3))), (4, .d (.v (I x4))), (5, .d (.v (I x5))), (6, .d (.v (I x6)))], []⟩ ∧ cr18_point.j1 k x0 x3 x4 x5 x6 = some r) ?_ ?_
  · rcases ifC H with ⟨c721, H⟩ | ⟨c721, H⟩
    · refine Good.condT c721 (by kernel_rfl) ?_
      refine Good.reg hN [] .nil [] (by kernel_rfl) ?_
      exact ⟨x0, x3, wrap64 (x3 - 192), 1, 128, Wk.of [(0, 0), (3, 0), (4, 0), (5, 0), (6, 0)] (by kernel_rfl) (by kernel_rfl), H⟩
    refine Good.condF (Bool.eq_false_iff.2 c721) (by kernel_rfl) ?_
    refine Good.skip ?_
    exact ⟨x0, x3, x4, x5, x6, Wk.of [(0, 0), (3, 0), (4, 0), (5, 0), (6, 0)] (by kernel_rfl) (by kernel_rfl), H⟩
  clear H
  rintro st ⟨x0, x3, x4, x5, x6, W, H⟩
  rcases k with _ | k
  · cases H
  refine W.good ?_
  rw [cr18_point.j1] at H
  refine Good.seq ?_
  refine Good.seq ?_
  refine Good.cut (fun st => ∃ (x0 : ByteArray) (x3 : Int) (x4 : Int) (x5 : Int) (x6 : Int) (x26 : Bool), Wk C st ⟨[(0, .d (.v (S x0))), (3, .d (.v (I x3))), (4, .d (.v (I x4))), (5, .d (.v (I x5))), (6, .d (.v (I x6))), (26, .d (.v (B x26)))], []⟩ ∧ cr18_point.j2 k x0 x3 x4 x5 x6 x26 = some r) ?_ ?_
  · rcases ifC H with ⟨c722, H⟩ | ⟨c722, H⟩
    · refine Good.reg hN [B true] (.cons (decide_eq_true c722) .nil) [] (by kernel_rfl) ?_
      exact ⟨x0, x3, x4, x5, x6, decide (x3 < 240), Wk.of [(0, 0), (3, 0), (4, 0), (5, 0), (6, 0), (26, 0)] (by kernel_rfl) (by kernel_rfl), H⟩
    refine Good.reg hN [B false] (.cons (decide_eq_false c722) .nil) [] (by kernel_rfl) ?_
    exact ⟨x0, x3, x4, x5, x6, false, Wk.of [(0, 0), (3, 0), (4, 0), (5, 0), (6, 0), (26, 0)] (by kernel_rfl) (by kernel_rfl), H⟩
  clear H
  rintro st ⟨x0, x3, x4, x5, x6, x26, W, H⟩
  rcases k with _ | k
  · cases H
  refine W.good ?_
  rw [cr18_point.j2] at H
  refine Good.cut (fun st => ∃ (x0 : ByteArray) (x3 : Int) (x4 : Int) (x5 : Int) (x6 : Int), Wk C st ⟨[(0, .d (.v (S x0))), (3, .d (.v (I x3))), (4, .d (.v (I x4))), (5, .d (.v (I x5))), (6, .d (.v (I x6)))], []⟩ ∧ cr18_point.j3 k x0 x3 x4 x5 x6 = some r) ?_ ?_
  · rcases ifC H with ⟨c723, H⟩ | ⟨c723, H⟩
    · refine Good.condT c723 (by kernel_rfl) ?_
      refine Good.reg hN [] .nil [] (by kernel_rfl) ?_
      exact ⟨x0, x3, wrap64 (x3 - 224), 2, 2048, Wk.of [(0, 0), (3, 0), (4, 0), (5, 0), (6, 0)] (by kernel_rfl) (by kernel_rfl), H⟩
    refine Good.condF (Bool.eq_false_iff.2 c723) (by kernel_rfl) ?_
    refine Good.skip ?_
    exact ⟨x0, x3, x4, x5, x6, Wk.of [(0, 0), (3, 0), (4, 0), (5, 0), (6, 0)] (by kernel_rfl) (by kernel_rfl), H⟩
  clear H
  rintro st ⟨x0, x3, x4, x5, x6, W, H⟩
  rcases k with _ | k
  · cases H
  refine W.good ?_
  rw [cr18_point.j3] at H
  refine Good.seq ?_
  refine Good.seq ?_
  refine Good.cut (fun st => ∃ (x0 : ByteArray) (x3 : Int) (x4 : Int) (x5 : Int) (x6 : Int) (x34 : Bool), Wk C st ⟨[(0, .d (.v (S x0))), (3, .d (.v (I x3))), (4, .d (.v (I x4))), (5, .d (.v (I x5))), (6, .d (.v (I x6))), (34, .d (.v (B x34)))], []⟩ ∧ cr18_point.j4 k x0 x3 x4 x5 x6 x34 = some r) ?_ ?_
  · rcases ifC H with ⟨c724, H⟩ | ⟨c724, H⟩
    · refine Good.reg hN [B true] (.cons (decide_eq_true c724) .nil) [] (by kernel_rfl) ?_
      exact ⟨x0, x3, x4, x5, x6, decide (x3 < 248), Wk.of [(0, 0), (3, 0), (4, 0), (5, 0), (6, 0), (34, 0)] (by kernel_rfl) (by kernel_rfl), H⟩
    refine Good.reg hN [B false] (.cons (decide_eq_false c724) .nil) [] (by kernel_rfl) ?_
    exact ⟨x0, x3, x4, x5, x6, false, Wk.of [(0, 0), (3, 0), (4, 0), (5, 0), (6, 0), (34, 0)] (by kernel_rfl) (by kernel_rfl), H⟩
  clear H
  rintro st ⟨x0, x3, x4, x5, x6, x34, W, H⟩
  rcases k with _ | k
  · cases H
  refine W.good ?_
  rw [cr18_point.j4] at H
  refine Good.cut (fun st => ∃ (x0 : ByteArray) (x4 : Int) (x5 : Int) (x6 : Int), Wk C st ⟨[(0, .d (.v (S x0))), (4, .d (.v (I x4))), (5, .d (.v (I x5))), (6, .d (.v (I x6)))], []⟩ ∧ cr18_point.j5 k x0 x4 x5 x6 = some r) ?_ ?_
  · rcases ifC H with ⟨c725, H⟩ | ⟨c725, H⟩
    · refine Good.condT c725 (by kernel_rfl) ?_
      refine Good.reg hN [] .nil [] (by kernel_rfl) ?_
      exact ⟨x0, wrap64 (x3 - 240), 3, 65536, Wk.of [(0, 0), (4, 0), (5, 0), (6, 0)] (by kernel_rfl) (by kernel_rfl), H⟩
    refine Good.condF (Bool.eq_false_iff.2 c725) (by kernel_rfl) ?_
    refine Good.skip ?_
    exact ⟨x0, x4, x5, x6, Wk.of [(0, 0), (4, 0), (5, 0), (6, 0)] (by kernel_rfl) (by kernel_rfl), H⟩
  clear H
  rintro st ⟨x0, x4, x5, x6, W, H⟩
  rcases k with _ | k
  · cases H
  refine W.good ?_
  rw [cr18_point.j5] at H
  refine Good.seq ?_
  refine Good.seq ?_
  refine Good.cut (fun st => ∃ (x0 : ByteArray) (x4 : Int) (x5 : Int) (x6 : Int) (x44 : Bool), Wk C st ⟨[(0, .d (.v (S x0))), (4, .d (.v (I x4))), (5, .d (.v (I x5))), (6, .d (.v (I x6))), (44, .d (.v (B x44)))], []⟩ ∧ cr18_point.j6 k x0 x4 x5 x6 x44 = some r) ?_ ?_
  · rcases ifC H with ⟨c726, H⟩ | ⟨c726, H⟩
    · refine Good.reg hN [B true] (.cons (beq_iff_eq.2 c726) .nil) [] (by kernel_rfl) ?_
      exact ⟨x0, x4, x5, x6, true, Wk.of [(0, 0), (4, 0), (5, 0), (6, 0), (44, 0)] (by kernel_rfl) (by kernel_rfl), H⟩
    refine Good.reg hN [B false] (.cons (beq_eq_false_iff_ne.2 c726) .nil) [] (by kernel_rfl) ?_
    exact ⟨x0, x4, x5, x6, decide ((x0.size : Int) ≤ x5), Wk.of [(0, 0), (4, 0), (5, 0), (6, 0), (44, 0)] (by kernel_rfl) (by kernel_rfl), H⟩
  clear H
  rintro st ⟨x0, x4, x5, x6, x44, W, H⟩
  rcases k with _ | k
  · cases H
  refine W.good ?_
  rw [cr18_point.j6] at H
  rcases ifC H with ⟨c727, H⟩ | ⟨c727, H⟩
  · refine Good.condT c727 (by kernel_rfl) ?_
    refine Good.seq ?_
    refine Good.reg hN [] .nil [] (by kernel_rfl) ?_
    obtain rfl := Option.some.inj H
    exact Good.ret (fin.doneR (by kernel_rfl))
  refine Good.condF (Bool.eq_false_iff.2 c727) (by kernel_rfl) ?_
  refine Good.skip ?_
  refine Good.seq ?_
  refine Good.seq ?_
  refine Good.reg hN [] .nil [] (by kernel_rfl) ?_
  refine Good.block ?_
  refine Good.loopN (fun k' st => ∃ (x0 : ByteArray) (x4 : Int) (x5 : Int) (x6 : Int) (x7 : Int), k' ≤ k ∧ Wk C st ⟨[(0, .d (.v (S x0))), (4, .d (.v (I x4))), (5, .d (.v (I x5))), (6, .d (.v (I x6))), (7, .d (.v (I x7)))], []⟩ ∧ cr18_point.l0 k' x0 x4 x5 x6 x7 = some r) k ⟨x0, x4, x5, x6, 1, Nat.le_refl _, Wk.of [(0, 0), (4, 0), (5, 0), (6, 0), (7, 0)] (by kernel_rfl) (by kernel_rfl), H⟩ fun k => ⟨fun st h => (by obtain ⟨_, _, _, _, _, _, _, H⟩ := h; cases H), ?_⟩
  clear H
  rintro st ⟨x0, x4, x5, x6, x7, hk, W, H⟩
  refine W.good ?_
  rw [cr18_point.l0] at H
  refine Good.seq ?_
  refine Good.seq ?_
  refine Good.reg hN [] .nil [] (by kernel_rfl) ?_
  rcases ifC H with ⟨c728, H⟩ | ⟨c728, H⟩
  · refine Good.condT (decide_eq_true c728) (by kernel_rfl) ?_
    refine Good.skip ?_
    refine Good.seq ?_
    refine Good.block ?_
    refine Good.seq ?_
    refine Good.seq ?_
    obtain ⟨c729, H⟩ := ifS H
    obtain ⟨c730, H⟩ := ifS H
    rcases ifC H with ⟨c731, H⟩ | ⟨c731, H⟩
    · refine Good.reg hN [B true] (.cons c729 (.cons c730 (.cons (decide_eq_true c731) .nil))) [] (by kernel_rfl) ?_
      refine Good.cond true (by kernel_rfl) ?_
      refine Good.seq ?_
      refine Good.reg hN [] .nil [] (by kernel_rfl) ?_
      obtain rfl := Option.some.inj H
      exact Good.ret (fin.doneR (by kernel_rfl))
    refine Good.reg hN [B false] (.cons c729 (.cons c730 (.cons (decide_eq_false c731) (.cons c729 (.cons c730 .nil))))) [] (by kernel_rfl) ?_
    rcases ifC H with ⟨c732, H⟩ | ⟨c732, H⟩
    · refine Good.condT (decide_eq_true c732) (by kernel_rfl) ?_
      refine Good.seq ?_
      refine Good.reg hN [] .nil [] (by kernel_rfl) ?_
      obtain rfl := Option.some.inj H
      exact Good.ret (fin.doneR (by kernel_rfl))
    refine Good.condF (decide_eq_false c732) (by kernel_rfl) ?_
    refine Good.skip ?_
    refine Good.reg hN [] (.cons c729 (.cons c730 .nil)) [] (by kernel_rfl) ?_
    refine Good.reg hN [] .nil [] (by kernel_rfl) ?_
    exact ⟨k, by omega, x0, wrap64 ((wrap64 ((wrap64 (64 * x4)) + (wrap64 (bt x0 x7)))) - 128), x5, x6, wrap64 (x7 + 1), by omega, Wk.of [(0, 0), (4, 0), (5, 0), (6, 0), (7, 0)] (by kernel_rfl) (by kernel_rfl), H⟩
  refine Good.condF (decide_eq_false c728) (by kernel_rfl) ?_
  refine Good.exit ?_
  refine Good.seq ?_
  refine Good.seq ?_
  rcases ifC H with ⟨c733, H⟩ | ⟨c733, H⟩
  · refine Good.reg hN [B true, B true] (.cons (decide_eq_true c733) (.cons (rfl : true = true) .nil)) [] (by kernel_rfl) ?_
    refine Good.cond true (by kernel_rfl) ?_
    refine Good.seq ?_
    refine Good.reg hN [] .nil [] (by kernel_rfl) ?_
    obtain rfl := Option.some.inj H
    exact Good.ret (fin.doneR (by kernel_rfl))
  rcases ifC H with ⟨c734, H⟩ | ⟨c734, H⟩
  · refine Good.reg hN [B false, B true] (.cons (decide_eq_false c733) (.cons (decide_eq_true c734) .nil)) [] (by kernel_rfl) ?_
    refine Good.cond true (by kernel_rfl) ?_
    refine Good.seq ?_
    refine Good.reg hN [] .nil [] (by kernel_rfl) ?_
    obtain rfl := Option.some.inj H
    exact Good.ret (fin.doneR (by kernel_rfl))
  rcases (ifC H).symm with ⟨c735, H⟩ | ⟨c735, H⟩
  · refine Good.reg hN [B false, B false, B false] (.cons (decide_eq_false c733) (.cons (decide_eq_false c734) (.cons (decide_eq_false c735) .nil))) [] (by kernel_rfl) ?_
    refine Good.cond false (by kernel_rfl) ?_
    refine Good.skip ?_
    refine Good.seq ?_
    refine Good.reg hN [] .nil [] (by kernel_rfl) ?_
    obtain rfl := Option.some.inj H
    exact Good.ret (fin.doneR (by kernel_rfl))
  refine Good.reg hN [B false, B false, B true] (.cons (decide_eq_false c733) (.cons (decide_eq_false c734) (.cons (decide_eq_true c735) .nil))) [] (by kernel_rfl) ?_
  rcases ifC H with ⟨c736, H⟩ | ⟨c736, H⟩
  · refine Good.condT (decide_eq_true c736) (by kernel_rfl) ?_
    refine Good.seq ?_
    refine Good.reg hN [] .nil [] (by kernel_rfl) ?_
    obtain rfl := Option.some.inj H
    exact Good.ret (fin.doneR (by kernel_rfl))
  refine Good.condF (decide_eq_false c736) (by kernel_rfl) ?_
  refine Good.skip ?_
  refine Good.seq ?_
  refine Good.reg hN [] .nil [] (by kernel_rfl) ?_
  obtain rfl := Option.some.inj H
  exact Good.ret (fin.doneR (by kernel_rfl))
def cr18_Utf.l0 : Nat → ByteArray → Option (Bool)
 | 0, _ => none
 | k + 1, x0 => if (x0.size : Int) > 0 then ((cr18_point.f k x0).bind fun t738 => (if t738 = 0 then (some false) else (if 0 ≤ t738 then (if t738 ≤ (x0.size : Int) then (cr18_Utf.l0 k (x0.extract (t738 : Int).toNat x0.size)) else (none)) else (none)))) else (some true)
def cr18_Utf.f (k : Nat) (a0 : ByteArray) : Option (Bool) := cr18_Utf.l0 k a0
theorem cr18_Utf.con {k : Nat} {a0 : ByteArray} {r : (Bool)} (H : cr18_Utf.f k a0 = some r) : Con Tryd.prog 52 [S a0] (B r) := by
  refine con_of_good Tryd.func52 rfl (by kernel_rfl) (by kernel_rfl) fun C hN hL => ?_
  unfold cr18_Utf.f at H
  refine Good.seq ?_
  refine Good.reg hN [] .nil [] (by kernel_rfl) ?_
  refine Good.seq ?_
  refine Good.block ?_
  refine Good.loopN (fun k' st => ∃ (x0 : ByteArray), k' ≤ k ∧ Wk C st ⟨[(0, .d (.v (S x0)))], []⟩ ∧ cr18_Utf.l0 k' x0 = some r) k ⟨a0, Nat.le_refl _, Wk.of [(0, 0)] (by kernel_rfl) (by kernel_rfl), H⟩ fun k => ⟨fun st h => (by obtain ⟨_, _, _, H⟩ := h; cases H), ?_⟩
  clear H
  rintro st ⟨x0, hk, W, H⟩
  refine W.good ?_
  rw [cr18_Utf.l0] at H
  refine Good.seq ?_
  refine Good.seq ?_
  refine Good.reg hN [] .nil [] (by kernel_rfl) ?_
  rcases (ifC H).symm with ⟨c737, H⟩ | ⟨c737, H⟩
  · refine Good.condF (decide_eq_false c737) (by kernel_rfl) ?_
    refine Good.exit ?_
    refine Good.seq ?_
    refine Good.reg hN [] .nil [] (by kernel_rfl) ?_
    obtain rfl := Option.some.inj H
    exact Good.ret (fin.doneR (by kernel_rfl))
  refine Good.condT (decide_eq_true c737) (by kernel_rfl) ?_
  refine Good.skip ?_
  refine Good.block ?_
  refine Good.seq ?_
  obtain ⟨t738, h739, H⟩ := bindS H
  refine Good.reg hN [I t738] (.cons (cr18_point.con h739).c .nil) [] (by kernel_rfl) ?_
  refine Good.seq ?_
  refine Good.seq ?_
  refine Good.reg hN [] .nil [] (by kernel_rfl) ?_
  rcases ifC H with ⟨c740, H⟩ | ⟨c740, H⟩
  · refine Good.condT (beq_iff_eq.2 c740) (by kernel_rfl) ?_
    refine Good.seq ?_
    refine Good.reg hN [] .nil [] (by kernel_rfl) ?_
    obtain rfl := Option.some.inj H
    exact Good.ret (fin.doneR (by kernel_rfl))
  refine Good.condF (beq_eq_false_iff_ne.2 c740) (by kernel_rfl) ?_
  refine Good.skip ?_
  obtain ⟨c741, H⟩ := ifS H
  obtain ⟨c742, H⟩ := ifS H
  refine Good.reg hN [] (.cons c741 (.cons c742 .nil)) [] (by kernel_rfl) ?_
  exact ⟨k, by omega, x0.extract (t738 : Int).toNat x0.size, by omega, Wk.of [(0, 0)] (by kernel_rfl) (by kernel_rfl), H⟩
mutual
def cr18_Printable.l0 : Nat → ByteArray → Int → Option (Bool)
 | 0, _, _ => none
 | k + 1, x0, x3 => if x3 < (x0.size : Int) then (cr18_Printable.l1 k x0 x3 false 0) else (some true)
def cr18_Printable.l1 : Nat → ByteArray → Int → Bool → Int → Option (Bool)
 | 0, _, _, _, _ => none
 | k + 1, x0, x3, x4, x5 => if x5 < 74 then (if 0 ≤ x5 then (if 0 ≤ x3 then (if x3 < (x0.size : Int) then (if (bt (⟨#[65, 66, 67, 68, 69, 70, 71, 72, 73, 74, 75, 76, 77, 78, 79, 80, 81, 82, 83, 84, 85, 86, 87, 88, 89, 90, 97, 98, 99, 100, 101, 102, 103, 104, 105, 106, 107, 108, 109, 110, 111, 112, 113, 114, 115, 116, 117, 118, 119, 120, 121, 122, 48, 49, 50, 51, 52, 53, 54, 55, 56, 57, 32, 39, 40, 41, 43, 44, 45, 46, 47, 58, 61, 63]⟩ : ByteArray) x5) = (bt x0 x3) then (cr18_Printable.l1 k x0 x3 true (wrap64 (x5 + 1))) else (cr18_Printable.l1 k x0 x3 x4 (wrap64 (x5 + 1)))) else (none)) else (none)) else (none)) else (if x4 = true then (cr18_Printable.l0 k x0 (wrap64 (x3 + 1))) else (some false))
end
def cr18_Printable.f (k : Nat) (a0 : ByteArray) : Option (Bool) := cr18_Printable.l0 k a0 0
theorem cr18_Printable.con {k : Nat} {a0 : ByteArray} {r : (Bool)} (H : cr18_Printable.f k a0 = some r) : Con Tryd.prog 53 [S a0] (B r) := by
  refine con_of_good Tryd.func53 rfl (by kernel_rfl) (by kernel_rfl) fun C hN hL => ?_
  unfold cr18_Printable.f at H
  refine Good.seq ?_
  refine Good.reg hN [] .nil [] (by kernel_rfl) ?_
  refine Good.seq ?_
  refine Good.seq ?_
  refine Good.reg hN [] .nil [] (by kernel_rfl) ?_
  refine Good.block ?_
  refine Good.loopN (fun k' st => ∃ (x0 : ByteArray) (x3 : Int), k' ≤ k ∧ Wk C st ⟨[(0, .d (.v (S x0))), (3, .d (.v (I x3)))], []⟩ ∧ cr18_Printable.l0 k' x0 x3 = some r) k ⟨a0, 0, Nat.le_refl _, Wk.of [(0, 0), (3, 0)] (by kernel_rfl) (by kernel_rfl), H⟩ fun k => ⟨fun st h => (by obtain ⟨_, _, _, _, H⟩ := h; cases H), ?_⟩
  clear H
  rintro st ⟨x0, x3, hk, W, H⟩
  refine W.good ?_
  rw [cr18_Printable.l0] at H
  refine Good.seq ?_
  refine Good.seq ?_
  refine Good.reg hN [] .nil [] (by kernel_rfl) ?_
  rcases (ifC H).symm with ⟨c743, H⟩ | ⟨c743, H⟩
  · refine Good.condF (decide_eq_false c743) (by kernel_rfl) ?_
    refine Good.exit ?_
    refine Good.seq ?_
    refine Good.reg hN [] .nil [] (by kernel_rfl) ?_
    obtain rfl := Option.some.inj H
    exact Good.ret (fin.doneR (by kernel_rfl))
  refine Good.condT (decide_eq_true c743) (by kernel_rfl) ?_
  refine Good.skip ?_
  refine Good.seq ?_
  refine Good.block ?_
  refine Good.seq ?_
  refine Good.reg hN [] .nil [] (by kernel_rfl) ?_
  refine Good.seq ?_
  refine Good.seq ?_
  refine Good.reg hN [] .nil [] (by kernel_rfl) ?_
  refine Good.block ?_
  refine Good.loopN (fun k' st => ∃ (x0 : ByteArray) (x3 : Int) (x4 : Bool) (x5 : Int), k' ≤ k ∧ Wk C st ⟨[(0, .d (.v (S x0))), (3, .d (.v (I x3))), (4, .d (.v (B x4))), (5, .d (.v (I x5)))], []⟩ ∧ cr18_Printable.l1 k' x0 x3 x4 x5 = some r) k ⟨x0, x3, false, 0, Nat.le_refl _, Wk.of [(0, 0), (3, 0), (4, 0), (5, 0)] (by kernel_rfl) (by kernel_rfl), H⟩ fun k => ⟨fun st h => (by obtain ⟨_, _, _, _, _, _, H⟩ := h; cases H), ?_⟩
  clear H
  rintro st ⟨x0, x3, x4, x5, hk, W, H⟩
  refine W.good ?_
  rw [cr18_Printable.l1] at H
  refine Good.seq ?_
  refine Good.seq ?_
  refine Good.reg hN [] .nil [] (by kernel_rfl) ?_
  rcases (ifC H).symm with ⟨c744, H⟩ | ⟨c744, H⟩
  · refine Good.condF (decide_eq_false c744) (by kernel_rfl) ?_
    refine Good.exit ?_
    refine Good.seq ?_
    refine Good.reg hN [] .nil [] (by kernel_rfl) ?_
    rcases ifC H with ⟨c749, H⟩ | ⟨c749, H⟩
    · refine Good.condF (notF c749) (by kernel_rfl) ?_
      refine Good.skip ?_
      refine Good.reg hN [] .nil [] (by kernel_rfl) ?_
      exact ⟨k, by omega, x0, wrap64 (x3 + 1), by omega, Wk.of [(0, 0), (3, 0)] (by kernel_rfl) (by kernel_rfl), H⟩
    refine Good.condT (notT (Bool.eq_false_iff.2 c749)) (by kernel_rfl) ?_
    refine Good.seq ?_
    refine Good.reg hN [] .nil [] (by kernel_rfl) ?_
    obtain rfl := Option.some.inj H
    exact Good.ret (fin.doneR (by kernel_rfl))
  refine Good.condT (decide_eq_true c744) (by kernel_rfl) ?_
  refine Good.skip ?_
  refine Good.seq ?_
  refine Good.block ?_
  refine Good.seq ?_
  obtain ⟨c745, H⟩ := ifS H
  obtain ⟨c746, H⟩ := ifS H
  obtain ⟨c747, H⟩ := ifS H
  refine Good.regDF hm hN (.q 0 [] (.q 1 [] (.q 2 [] (.q 3 [] (.q 4 [] (.q 5 [] .z)))))) [(0, none), (3, none), (5, none)] (by kernel_rfl) .nil [] [] (.cons c745 (.cons c744 (.cons c746 (.cons c747 .nil)))) (.cons c745 (.cons c744 (.cons c746 (.cons c747 .nil)))) [] [] (by kernel_rfl) (by kernel_rfl) ?_
  rcases ifC H with ⟨c748, H⟩ | ⟨c748, H⟩
  · refine Good.condT (beq_iff_eq.2 c748) (by kernel_rfl) ?_
    refine Good.reg hN [] .nil [] (by kernel_rfl) ?_
    refine Good.reg hN [] .nil [] (by kernel_rfl) ?_
    exact ⟨k, by omega, x0, x3, true, wrap64 (x5 + 1), by omega, Wk.of [(0, 0), (3, 0), (4, 0), (5, 0)] (by kernel_rfl) (by kernel_rfl), H⟩
  refine Good.condF (beq_eq_false_iff_ne.2 c748) (by kernel_rfl) ?_
  refine Good.skip ?_
  refine Good.reg hN [] .nil [] (by kernel_rfl) ?_
  exact ⟨k, by omega, x0, x3, x4, wrap64 (x5 + 1), by omega, Wk.of [(0, 0), (3, 0), (4, 0), (5, 0)] (by kernel_rfl) (by kernel_rfl), H⟩
def cr18_Right.f (k : Nat) (a0 : Int) (a1 : ByteArray) : Option (Bool) := if a0 = 1 then ((cr18_Unbool.f a1).bind fun t751 => (some t751.2)) else (if a0 = 2 then ((cr16_Right.f a1).bind fun t754 => (some t754)) else (if a0 = 3 then ((cr18_Unbits.f k a1).bind fun t757 => (some t757.2.2)) else (if a0 = 4 then (some true) else (if a0 = 5 then (some (a1.toList == ([] : List UInt8))) else (if a0 = 6 then ((cr17_Decode.f k a1).bind fun t762 => (some t762.2)) else (if a0 = 12 then ((cr18_Utf.f k a1).bind fun t765 => (some t765)) else (if a0 = 19 then ((cr18_Printable.f k a1).bind fun t768 => (some t768)) else (some false))))))))
theorem cr18_Right.con {k : Nat} {a0 : Int} {a1 : ByteArray} {r : (Bool)} (H : cr18_Right.f k a0 a1 = some r) : Con Tryd.prog 38 [I a0, S a1] (B r) := by
  refine con_of_good Tryd.func38 rfl (by kernel_rfl) (by kernel_rfl) fun C hN hL => ?_
  unfold cr18_Right.f at H
  refine Good.seq ?_
  refine Good.reg hN [] .nil [] (by kernel_rfl) ?_
  refine Good.seq ?_
  refine Good.seq ?_
  refine Good.reg hN [] .nil [] (by kernel_rfl) ?_
  refine Good.block ?_
  refine Good.seq ?_
  refine Good.reg hN [] .nil [] (by kernel_rfl) ?_
  rcases ifC H with ⟨c750, H⟩ | ⟨c750, H⟩
  · refine Good.condT (beq_iff_eq.2 c750) (by kernel_rfl) ?_
    refine Good.seq ?_
    obtain ⟨t751, h752, H⟩ := bindS H
    refine Good.reg hN [.tup [B t751.1, B t751.2]] (.cons (cr18_Unbool.con h752).c .nil) [] (by kernel_rfl) ?_
    refine Good.seq ?_
    refine Good.reg hN [] .nil [] (by kernel_rfl) ?_
    obtain rfl := Option.some.inj H
    exact Good.ret (fin.doneR (by kernel_rfl))
  refine Good.condF (beq_eq_false_iff_ne.2 c750) (by kernel_rfl) ?_
  refine Good.seq ?_
  refine Good.reg hN [] .nil [] (by kernel_rfl) ?_
  rcases ifC H with ⟨c753, H⟩ | ⟨c753, H⟩
  · refine Good.condT (beq_iff_eq.2 c753) (by kernel_rfl) ?_
    refine Good.seq ?_
    obtain ⟨t754, h755, H⟩ := bindS H
    refine Good.reg hN [B t754] (.cons (cr16_Right.con h755).c .nil) [] (by kernel_rfl) ?_
    obtain rfl := Option.some.inj H
    exact Good.ret (fin.doneR (by kernel_rfl))
  refine Good.condF (beq_eq_false_iff_ne.2 c753) (by kernel_rfl) ?_
  refine Good.seq ?_
  refine Good.reg hN [] .nil [] (by kernel_rfl) ?_
  rcases ifC H with ⟨c756, H⟩ | ⟨c756, H⟩
  · refine Good.condT (beq_iff_eq.2 c756) (by kernel_rfl) ?_
    refine Good.seq ?_
    obtain ⟨t757, h758, H⟩ := bindS H
    refine Good.reg hN [.tup [S t757.1, I t757.2.1, B t757.2.2]] (.cons (cr18_Unbits.con h758).c .nil) [] (by kernel_rfl) ?_
    refine Good.seq ?_
    refine Good.reg hN [] .nil [] (by kernel_rfl) ?_
    obtain rfl := Option.some.inj H
    exact Good.ret (fin.doneR (by kernel_rfl))
  refine Good.condF (beq_eq_false_iff_ne.2 c756) (by kernel_rfl) ?_
  refine Good.seq ?_
  refine Good.reg hN [] .nil [] (by kernel_rfl) ?_
  rcases ifC H with ⟨c759, H⟩ | ⟨c759, H⟩
  · refine Good.condT (beq_iff_eq.2 c759) (by kernel_rfl) ?_
    refine Good.seq ?_
    refine Good.reg hN [] .nil [] (by kernel_rfl) ?_
    obtain rfl := Option.some.inj H
    exact Good.ret (fin.doneR (by kernel_rfl))
  refine Good.condF (beq_eq_false_iff_ne.2 c759) (by kernel_rfl) ?_
  refine Good.seq ?_
  refine Good.reg hN [] .nil [] (by kernel_rfl) ?_
  rcases ifC H with ⟨c760, H⟩ | ⟨c760, H⟩
  · refine Good.condT (beq_iff_eq.2 c760) (by kernel_rfl) ?_
    refine Good.seq ?_
    refine Good.reg hN [] (.cons (strV (rfl : a1.toList = a1.toList) (litL ([] : List UInt8))) .nil) [(39, .bool (a1.toList == ([] : List UInt8)))] (by kernel_rfl) ?_
    obtain rfl := Option.some.inj H
    exact Good.ret (fin.doneR (by kernel_rfl))
  refine Good.condF (beq_eq_false_iff_ne.2 c760) (by kernel_rfl) ?_
  refine Good.seq ?_
  refine Good.reg hN [] .nil [] (by kernel_rfl) ?_
  rcases ifC H with ⟨c761, H⟩ | ⟨c761, H⟩
  · refine Good.condT (beq_iff_eq.2 c761) (by kernel_rfl) ?_
    refine Good.seq ?_
    obtain ⟨t762, h763, H⟩ := bindS H
    refine Good.reg hN [.tup [.row none 1 (List.map I t762.1), B t762.2]] (.cons (cr17_Decode.con h763).c .nil) [] (by kernel_rfl) ?_
    refine Good.seq ?_
    refine Good.reg hN [] .nil [] (by kernel_rfl) ?_
    obtain rfl := Option.some.inj H
    exact Good.ret (fin.doneR (by kernel_rfl))
  refine Good.condF (beq_eq_false_iff_ne.2 c761) (by kernel_rfl) ?_
  refine Good.seq ?_
  refine Good.reg hN [] .nil [] (by kernel_rfl) ?_
  rcases ifC H with ⟨c764, H⟩ | ⟨c764, H⟩
  · refine Good.condT (beq_iff_eq.2 c764) (by kernel_rfl) ?_
    refine Good.seq ?_
    obtain ⟨t765, h766, H⟩ := bindS H
    refine Good.reg hN [B t765] (.cons (cr18_Utf.con h766).c .nil) [] (by kernel_rfl) ?_
    obtain rfl := Option.some.inj H
    exact Good.ret (fin.doneR (by kernel_rfl))
  refine Good.condF (beq_eq_false_iff_ne.2 c764) (by kernel_rfl) ?_
  refine Good.seq ?_
  refine Good.reg hN [] .nil [] (by kernel_rfl) ?_
  rcases ifC H with ⟨c767, H⟩ | ⟨c767, H⟩
  · refine Good.condT (beq_iff_eq.2 c767) (by kernel_rfl) ?_
    refine Good.seq ?_
    obtain ⟨t768, h769, H⟩ := bindS H
    refine Good.reg hN [B t768] (.cons (cr18_Printable.con h769).c .nil) [] (by kernel_rfl) ?_
    obtain rfl := Option.some.inj H
    exact Good.ret (fin.doneR (by kernel_rfl))
  refine Good.condF (beq_eq_false_iff_ne.2 c767) (by kernel_rfl) ?_
  refine Good.skip ?_
  refine Good.seq ?_
  refine Good.reg hN [] .nil [] (by kernel_rfl) ?_
  obtain rfl := Option.some.inj H
  exact Good.ret (fin.doneR (by kernel_rfl))
mutual
def cr19_walk_element.j0 : Nat → Int → Int → Int → Int → Bool → ByteArray → List S40 → List Int → List Int → Int → Int → Bool → Option (Int × Int × Int × ByteArray × List S40 × List Int × List Int)
 | 0, _, _, _, _, _, _, _, _, _, _, _, _ => none
 | k + 1, x1, x3, x13, x14, x77, x1000, x1001, x1002, x1003, x3000, x3001, x3002 => if x77 = true then ((cr19_faulty.f 5 x1).bind fun t791 => (some (0, t791.1, t791.2, x1000, x1001, x1002, x1003))) else (if x3000 = 0 then (if x3002 = true then (cr19_walk_element.j1 k x1 x3 x13 x14 false x1000 x1001 x1002 x1003 x3000 x3001 x3002) else (if 0 ≤ x13 then (if x13 ≤ x14 then (if x14 ≤ (x1000.size : Int) then ((cr18_Right.f k x3001 (x1000.extract (x13 : Int).toNat (x14 : Int).toNat)).bind fun t798 => (cr19_walk_element.j1 k x1 x3 x13 x14 (!t798) x1000 x1001 x1002 x1003 x3000 x3001 x3002)) else (none)) else (none)) else (none))) else (cr19_walk_element.j1 k x1 x3 x13 x14 false x1000 x1001 x1002 x1003 x3000 x3001 x3002))
def cr19_walk_element.j1 : Nat → Int → Int → Int → Int → Bool → ByteArray → List S40 → List Int → List Int → Int → Int → Bool → Option (Int × Int × Int × ByteArray × List S40 × List Int × List Int)
 | 0, _, _, _, _, _, _, _, _, _, _, _, _ => none
 | k + 1, x1, x3, x13, x14, x100, x1000, x1001, x1002, x1003, x3000, x3001, x3002 => if x100 = true then ((cr19_faulty.f 5 x1).bind fun t801 => (some (0, t801.1, t801.2, x1000, x1001, x1002, x1003))) else (if x3002 = true then (cr19_walk_element.j2 k x1 x3 x13 x14 (x1001.length : Int) x1000 x1001 x1002 x1003 x3002 x3000 x3001 x3002 (⟨#[]⟩ : ByteArray)) else (if 0 ≤ x13 then (if x13 ≤ x14 then (if x14 ≤ (x1000.size : Int) then (cr19_walk_element.j2 k x1 x3 x13 x14 (x1001.length : Int) x1000 x1001 x1002 x1003 x3002 x3000 x3001 x3002 (x1000.extract (x13 : Int).toNat (x14 : Int).toNat)) else (none)) else (none)) else (none)))
def cr19_walk_element.j2 : Nat → Int → Int → Int → Int → Int → ByteArray → List S40 → List Int → List Int → Bool → Int → Int → Bool → ByteArray → Option (Int × Int × Int × ByteArray × List S40 × List Int × List Int)
 | 0, _, _, _, _, _, _, _, _, _, _, _, _, _, _ => none
 | k + 1, x1, x3, x13, x14, x15, x1000, x1001, x1002, x1003, x3002, x4000, x4001, x4002, x4003 => if x1001.length < 2199023255552 then ((some (x1001 ++ [(⟨x4000, x4001, x4002, x4003, ([] : List Int)⟩ : S40)] : List S40)).bind fun y808 => (if x1002.length < 17592186044416 then ((some (x1002 ++ [x1] : List Int)).bind fun y810 => (if x1003.length < 17592186044416 then ((some (x1003 ++ [x14] : List Int)).bind fun y812 => (if x3002 = true then (cr19_walk_element.l0 k x3 x14 x15 x13 x1000 y808 y810 y812) else (some (x14, 0, 0, x1000, y808, y810, y812)))) else (none))) else (none))) else (none)
def cr19_walk_element.l0 : Nat → Int → Int → Int → Int → ByteArray → List S40 → List Int → List Int → Option (Int × Int × Int × ByteArray × List S40 × List Int × List Int)
 | 0, _, _, _, _, _, _, _, _ => none
 | k + 1, x3, x14, x15, x17, x1000, x1001, x1002, x1003 => if x17 < x14 then (if 0 ≤ x15 then (if x15 < (x1001.length : Int) then (if ((rd_T40 x1001 x15).f4).length < 17592186044416 then ((cr19_walk_element.f k x1000 (x1001.set (x15 : Int).toNat (⟨(rd_T40 x1001 x15).f0, (rd_T40 x1001 x15).f1, (rd_T40 x1001 x15).f2, (rd_T40 x1001 x15).f3, (((rd_T40 x1001 x15).f4) ++ [(x1001.length : Int)])⟩ : S40)) x1002 x1003 x17 x14 (wrap64 (x3 + 1))).bind fun t820 => (if t820.2.1 = 0 then (cr19_walk_element.l0 k x3 x14 x15 t820.1 t820.2.2.2.1 t820.2.2.2.2.1 t820.2.2.2.2.2.1 t820.2.2.2.2.2.2) else (some (0, t820.2.1, t820.2.2.1, t820.2.2.2.1, t820.2.2.2.2.1, t820.2.2.2.2.2.1, t820.2.2.2.2.2.2)))) else (none)) else (none)) else (none)) else (some (x14, 0, 0, x1000, x1001, x1002, x1003))
def cr19_walk_element.f : Nat → ByteArray → List S40 → List Int → List Int → Int → Int → Int → Option (Int × Int × Int × ByteArray × List S40 × List Int × List Int)
 | 0, _, _, _, _, _, _, _ => none
 | k + 1, a0_0, l0_1, l0_2, l0_3, a1, a2, a3 => if 0 ≤ a1 then (if a1 ≤ a2 then (if a2 ≤ (a0_0.size : Int) then ((cr15_Decode.f k (a0_0.extract (a1 : Int).toNat (a2 : Int).toNat)).bind fun t773 => (if t773.2.2.2.2.2 = 0 then (if (wrap64 ((wrap64 (a1 + t773.2.2.2.2.1)) + t773.2.2.2.1)) > a2 then ((cr19_faulty.f 5 a1).bind fun t779 => (some (0, t779.1, t779.2, a0_0, l0_1, l0_2, l0_3))) else (if a3 > 16 then ((cr19_faulty.f 6 a1).bind fun t782 => (some (0, t782.1, t782.2, a0_0, l0_1, l0_2, l0_3))) else (if (l0_1.length : Int) ≥ 1000 then ((cr19_faulty.f 4 a1).bind fun t785 => (some (0, t785.1, t785.2, a0_0, l0_1, l0_2, l0_3))) else (if t773.1 = 0 then (if t773.2.2.1 = true then (if t773.2.1 = 16 then (cr19_walk_element.j0 k a1 a3 (wrap64 (a1 + t773.2.2.2.2.1)) (wrap64 ((wrap64 (a1 + t773.2.2.2.2.1)) + t773.2.2.2.1)) false a0_0 l0_1 l0_2 l0_3 t773.1 t773.2.1 t773.2.2.1) else (cr19_walk_element.j0 k a1 a3 (wrap64 (a1 + t773.2.2.2.2.1)) (wrap64 ((wrap64 (a1 + t773.2.2.2.2.1)) + t773.2.2.2.1)) (t773.2.1 != 17) a0_0 l0_1 l0_2 l0_3 t773.1 t773.2.1 t773.2.2.1)) else (cr19_walk_element.j0 k a1 a3 (wrap64 (a1 + t773.2.2.2.2.1)) (wrap64 ((wrap64 (a1 + t773.2.2.2.2.1)) + t773.2.2.2.1)) false a0_0 l0_1 l0_2 l0_3 t773.1 t773.2.1 t773.2.2.1)) else (cr19_walk_element.j0 k a1 a3 (wrap64 (a1 + t773.2.2.2.2.1)) (wrap64 ((wrap64 (a1 + t773.2.2.2.2.1)) + t773.2.2.2.1)) false a0_0 l0_1 l0_2 l0_3 t773.1 t773.2.1 t773.2.2.1))))) else ((cr19_faulty.f t773.2.2.2.2.2 a1).bind fun t776 => (some (0, t776.1, t776.2, a0_0, l0_1, l0_2, l0_3))))) else (none)) else (none)) else (none)
end
theorem cr19_walk_element.cons : ∀ n k (a0_0 : ByteArray) (l0_1 : List S40) (l0_2 : List Int) (l0_3 : List Int) (a1 : Int) (a2 : Int) (a3 : Int) (r : (Int × Int × Int × ByteArray × List S40 × List Int × List Int)), k ≤ n → cr19_walk_element.f k a0_0 l0_1 l0_2 l0_3 a1 a2 a3 = some r → ConX Tryd.prog 31 [.ptr 0 0, .v (I a1), .v (I a2), .v (I a3)] [[S a0_0, .row (some 40) 5 (List.map (v40 1) l0_1), .row (some 3) 1 (List.map I l0_2), .row (some 3) 1 (List.map I l0_3)]] (.v (.tup [I r.1, .agg [I r.2.1, I r.2.2.1]])) [[S r.2.2.2.1, .row (some 40) 5 (List.map (v40 1) r.2.2.2.2.1), .row (some 3) 1 (List.map I r.2.2.2.2.2.1), .row (some 3) 1 (List.map I r.2.2.2.2.2.2)]] := by
  intro n
  induction n with
  | zero =>
    intro k a0_0 l0_1 l0_2 l0_3 a1 a2 a3 r hk H
    rcases k with _ | k
    · cases H
    · omega
  | succ n ih =>
    intro k a0_0 l0_1 l0_2 l0_3 a1 a2 a3 r hk H
    rcases k with _ | k
    · cases H
    rw [cr19_walk_element.f] at H
    refine conX_of_good Tryd.func31 rfl (by kernel_rfl) (by kernel_rfl) fun C hN hL => ?_
    refine Good.seq ?_
    refine Good.reg hN [] .nil [] (by kernel_rfl) ?_
    refine Good.seq ?_
    obtain ⟨c770, H⟩ := ifS H
    obtain ⟨c771, H⟩ := ifS H
    obtain ⟨c772, H⟩ := ifS H
    obtain ⟨t773, h774, H⟩ := bindS H
    refine Good.reg hN [.tup [.agg [I t773.1, I t773.2.1, B t773.2.2.1, I t773.2.2.2.1], I t773.2.2.2.2.1, I t773.2.2.2.2.2]] (.cons c770 (.cons c771 (.cons c772 (.cons (cr15_Decode.con h774).c .nil)))) [] (by kernel_rfl) ?_
    refine Good.seq ?_
    refine Good.seq ?_
    refine Good.reg hN [] .nil [] (by kernel_rfl) ?_
    rcases (ifC H).symm with ⟨c775, H⟩ | ⟨c775, H⟩
    · refine Good.condT (bne_iff_ne.2 c775) (by kernel_rfl) ?_
      refine Good.seq ?_
      obtain ⟨t776, h777, H⟩ := bindS H
      refine Good.reg hN [.agg [I t776.1, I t776.2]] (.cons (cr19_faulty.con h777).c .nil) [] (by kernel_rfl) ?_
      obtain rfl := Option.some.inj H
      exact Good.ret (finX_fitR (.refl _) (FitLL.refl _) (by kernel_rfl) rfl)
    refine Good.condF (bneF c775) (by kernel_rfl) ?_
    refine Good.skip ?_
    refine Good.seq ?_
    refine Good.reg hN [] .nil [] (by kernel_rfl) ?_
    refine Good.seq ?_
    refine Good.reg hN [] .nil [] (by kernel_rfl) ?_
    refine Good.seq ?_
    refine Good.seq ?_
    refine Good.reg hN [] .nil [] (by kernel_rfl) ?_
    rcases ifC H with ⟨c778, H⟩ | ⟨c778, H⟩
    · refine Good.condT (decide_eq_true c778) (by kernel_rfl) ?_
      refine Good.seq ?_
      obtain ⟨t779, h780, H⟩ := bindS H
      refine Good.reg hN [.agg [I t779.1, I t779.2]] (.cons (cr19_faulty.con h780).c .nil) [] (by kernel_rfl) ?_
      obtain rfl := Option.some.inj H
      exact Good.ret (finX_fitR (.refl _) (FitLL.refl _) (by kernel_rfl) rfl)
    refine Good.condF (decide_eq_false c778) (by kernel_rfl) ?_
    refine Good.skip ?_
    refine Good.seq ?_
    refine Good.seq ?_
    refine Good.reg hN [] .nil [] (by kernel_rfl) ?_
    rcases ifC H with ⟨c781, H⟩ | ⟨c781, H⟩
    · refine Good.condT (decide_eq_true c781) (by kernel_rfl) ?_
      refine Good.seq ?_
      obtain ⟨t782, h783, H⟩ := bindS H
      refine Good.reg hN [.agg [I t782.1, I t782.2]] (.cons (cr19_faulty.con h783).c .nil) [] (by kernel_rfl) ?_
      obtain rfl := Option.some.inj H
      exact Good.ret (finX_fitR (.refl _) (FitLL.refl _) (by kernel_rfl) rfl)
    refine Good.condF (decide_eq_false c781) (by kernel_rfl) ?_
    refine Good.skip ?_
    refine Good.seq ?_
    refine Good.seq ?_
    refine Good.reg hN [I (l0_1.length : Int)] (.cons (lenM (v40 1) l0_1) .nil) [] (by kernel_rfl) ?_
    rcases ifC H with ⟨c784, H⟩ | ⟨c784, H⟩
    · refine Good.condT (decide_eq_true c784) (by kernel_rfl) ?_
      refine Good.seq ?_
      obtain ⟨t785, h786, H⟩ := bindS H
      refine Good.reg hN [.agg [I t785.1, I t785.2]] (.cons (cr19_faulty.con h786).c .nil) [] (by kernel_rfl) ?_
      obtain rfl := Option.some.inj H
      exact Good.ret (finX_fitR (.refl _) (FitLL.refl _) (by kernel_rfl) rfl)
    refine Good.condF (decide_eq_false c784) (by kernel_rfl) ?_
    refine Good.skip ?_
    refine Good.seq ?_
    refine Good.seq ?_
    refine Good.cut (fun st => ∃ (x1 : Int) (x3 : Int) (x13 : Int) (x14 : Int) (x77 : Bool) (x1000 : ByteArray) (x1001 : List S40) (x1002 : List Int) (x1003 : List Int) (x2000 : Int) (x2001 : Int) (x3000 : Int) (x3001 : Int) (x3002 : Bool) (x3003 : Int), Wk C st ⟨[(0, .d (.ptr 0 0)), (1, .d (.v (I x1))), (3, .d (.v (I x3))), (9, .d (.ptr 1 0)), (10, .d (.ptr 2 0)), (13, .d (.v (I x13))), (14, .d (.v (I x14))), (77, .d (.v (B x77)))], [.cells [.v (S x1000), .v (.row (some 40) 5 (List.map (v40 1) x1001)), .v (.row (some 3) 1 (List.map I x1002)), .v (.row (some 3) 1 (List.map I x1003))], .cells [.v (I x2000), .v (I x2001)], .cells [.v (I x3000), .v (I x3001), .v (B x3002), .v (I x3003)]]⟩ ∧ cr19_walk_element.j0 k x1 x3 x13 x14 x77 x1000 x1001 x1002 x1003 x3000 x3001 x3002 = some r) ?_ ?_
    · rcases (ifC H).symm with ⟨c787, H⟩ | ⟨c787, H⟩
      · refine Good.reg hN [B false, B false, B false] (.cons (beq_eq_false_iff_ne.2 c787) (.cons (rfl : false = false) (.cons (rfl : false = false) .nil))) [] (by kernel_rfl) ?_
        exact ⟨a1, a3, wrap64 (a1 + t773.2.2.2.2.1), wrap64 ((wrap64 (a1 + t773.2.2.2.2.1)) + t773.2.2.2.1), false, a0_0, l0_1, l0_2, l0_3, 0, 0, t773.1, t773.2.1, t773.2.2.1, t773.2.2.2.1, Wk.of [(0, 0), (1, 0), (3, 0), (9, 0), (10, 0), (13, 0), (14, 0), (77, 0)] (by kernel_rfl) (by kernel_rfl), H⟩
      rcases (ifC H).symm with ⟨c788, H⟩ | ⟨c788, H⟩
      · refine Good.reg hN [B true, B false, B false] (.cons (beq_iff_eq.2 c787) (.cons (Bool.eq_false_iff.2 c788) (.cons (rfl : false = false) .nil))) [] (by kernel_rfl) ?_
        exact ⟨a1, a3, wrap64 (a1 + t773.2.2.2.2.1), wrap64 ((wrap64 (a1 + t773.2.2.2.2.1)) + t773.2.2.2.1), false, a0_0, l0_1, l0_2, l0_3, 0, 0, t773.1, t773.2.1, t773.2.2.1, t773.2.2.2.1, Wk.of [(0, 0), (1, 0), (3, 0), (9, 0), (10, 0), (13, 0), (14, 0), (77, 0)] (by kernel_rfl) (by kernel_rfl), H⟩
      rcases ifC H with ⟨c789, H⟩ | ⟨c789, H⟩
      · refine Good.reg hN [B true, B true, B false] (.cons (beq_iff_eq.2 c787) (.cons c788 (.cons (bneF c789) .nil))) [] (by kernel_rfl) ?_
        exact ⟨a1, a3, wrap64 (a1 + t773.2.2.2.2.1), wrap64 ((wrap64 (a1 + t773.2.2.2.2.1)) + t773.2.2.2.1), false, a0_0, l0_1, l0_2, l0_3, 0, 0, t773.1, t773.2.1, t773.2.2.1, t773.2.2.2.1, Wk.of [(0, 0), (1, 0), (3, 0), (9, 0), (10, 0), (13, 0), (14, 0), (77, 0)] (by kernel_rfl) (by kernel_rfl), H⟩
      refine Good.reg hN [B true, B true, B true] (.cons (beq_iff_eq.2 c787) (.cons c788 (.cons (bne_iff_ne.2 c789) .nil))) [] (by kernel_rfl) ?_
      exact ⟨a1, a3, wrap64 (a1 + t773.2.2.2.2.1), wrap64 ((wrap64 (a1 + t773.2.2.2.2.1)) + t773.2.2.2.1), (t773.2.1 != 17), a0_0, l0_1, l0_2, l0_3, 0, 0, t773.1, t773.2.1, t773.2.2.1, t773.2.2.2.1, Wk.of [(0, 0), (1, 0), (3, 0), (9, 0), (10, 0), (13, 0), (14, 0), (77, 0)] (by kernel_rfl) (by kernel_rfl), H⟩
    clear H
    rintro st ⟨x1, x3, x13, x14, x77, x1000, x1001, x1002, x1003, x2000, x2001, x3000, x3001, x3002, x3003, W, H⟩
    rcases k with _ | k
    · cases H
    refine W.good ?_
    rw [cr19_walk_element.j0] at H
    rcases ifC H with ⟨c790, H⟩ | ⟨c790, H⟩
    · refine Good.condT c790 (by kernel_rfl) ?_
      refine Good.seq ?_
      obtain ⟨t791, h792, H⟩ := bindS H
      refine Good.reg hN [.agg [I t791.1, I t791.2]] (.cons (cr19_faulty.con h792).c .nil) [] (by kernel_rfl) ?_
      obtain rfl := Option.some.inj H
      exact Good.ret (finX_fitR (.refl _) (FitLL.refl _) (by kernel_rfl) rfl)
    refine Good.condF (Bool.eq_false_iff.2 c790) (by kernel_rfl) ?_
    refine Good.skip ?_
    refine Good.seq ?_
    refine Good.seq ?_
    refine Good.cut (fun st => ∃ (x1 : Int) (x3 : Int) (x13 : Int) (x14 : Int) (x100 : Bool) (x1000 : ByteArray) (x1001 : List S40) (x1002 : List Int) (x1003 : List Int) (x2000 : Int) (x2001 : Int) (x3000 : Int) (x3001 : Int) (x3002 : Bool) (x3003 : Int), Wk C st ⟨[(0, .d (.ptr 0 0)), (1, .d (.v (I x1))), (3, .d (.v (I x3))), (9, .d (.ptr 1 0)), (10, .d (.ptr 2 0)), (13, .d (.v (I x13))), (14, .d (.v (I x14))), (100, .d (.v (B x100)))], [.cells [.v (S x1000), .v (.row (some 40) 5 (List.map (v40 1) x1001)), .v (.row (some 3) 1 (List.map I x1002)), .v (.row (some 3) 1 (List.map I x1003))], .cells [.v (I x2000), .v (I x2001)], .cells [.v (I x3000), .v (I x3001), .v (B x3002), .v (I x3003)]]⟩ ∧ cr19_walk_element.j1 k x1 x3 x13 x14 x100 x1000 x1001 x1002 x1003 x3000 x3001 x3002 = some r) ?_ ?_
    · rcases (ifC H).symm with ⟨c793, H⟩ | ⟨c793, H⟩
      · refine Good.regDF hm hN (.q 0 [] (.q 1 [] (.q 2 [] (.q 3 [] (.k 83 (.i 4 (.i 5 (.i 6 (.q 7 [] (.q 8 [] (.k 88 (.i 9 (.i 10 (.i 11 (.i 12 (.i 13 (.i 14 (.i 15 (.i 16 (.i 17 (.i 18 (.i 19 (.q 20 [] .z))))))))))))))))))))))) [(0, some (.pt [S x1000, .row none 5 (List.map (v40 0) x1001), .row none 1 (List.map I x1002), .row none 1 (List.map I x1003)])), (10, some (.pt [I x3000, I x3001, B x3002, I x3003])), (13, none), (14, none)] (by kernel_rfl) (.cons (ptS (shrC (rfl : (V.shr (S x1000)) = S x1000) (shrC (shrM (some 40) 5 (v40 1) (v40 0) x1001 (v40.shr _)) (shrC (shrM (some 3) 1 I I x1002 (fun _ => rfl)) (shrC (shrM (some 3) 1 I I x1003 (fun _ => rfl)) (rfl : shrL [] = [])))))) (.cons (ptS (shrC (rfl : (V.shr (I x3000)) = I x3000) (shrC (rfl : (V.shr (I x3001)) = I x3001) (shrC (rfl : (V.shr (B x3002)) = B x3002) (shrC (rfl : (V.shr (I x3003)) = I x3003) (rfl : shrL [] = [])))))) .nil)) [B false, B false] [] (.cons (beq_eq_false_iff_ne.2 c793) (.cons (rfl : false = false) .nil)) (.cons (beq_eq_false_iff_ne.2 c793) (.cons (rfl : false = false) .nil)) [] [] (by kernel_rfl) (by kernel_rfl) ?_
        exact ⟨x1, x3, x13, x14, false, x1000, x1001, x1002, x1003, x2000, x2001, x3000, x3001, x3002, x3003, Wk.of [(0, 0), (1, 0), (3, 0), (9, 0), (10, 0), (13, 0), (14, 0), (100, 0)] (by kernel_rfl) (by kernel_rfl), H⟩
      rcases ifC H with ⟨c794, H⟩ | ⟨c794, H⟩
      · refine Good.regDF hm hN (.q 0 [] (.q 1 [] (.q 2 [] (.q 3 [] (.k 83 (.q 4 [] (.q 5 [] (.q 6 [] (.q 7 [] (.q 8 [] (.k 88 (.i 9 (.i 10 (.i 11 (.i 12 (.i 13 (.i 14 (.i 15 (.i 16 (.i 17 (.i 18 (.i 19 (.q 20 [] .z))))))))))))))))))))))) [(0, some (.pt [S x1000, .row none 5 (List.map (v40 0) x1001), .row none 1 (List.map I x1002), .row none 1 (List.map I x1003)])), (10, some (.pt [I x3000, I x3001, B x3002, I x3003])), (13, none), (14, none)] (by kernel_rfl) (.cons (ptS (shrC (rfl : (V.shr (S x1000)) = S x1000) (shrC (shrM (some 40) 5 (v40 1) (v40 0) x1001 (v40.shr _)) (shrC (shrM (some 3) 1 I I x1002 (fun _ => rfl)) (shrC (shrM (some 3) 1 I I x1003 (fun _ => rfl)) (rfl : shrL [] = [])))))) (.cons (ptS (shrC (rfl : (V.shr (I x3000)) = I x3000) (shrC (rfl : (V.shr (I x3001)) = I x3001) (shrC (rfl : (V.shr (B x3002)) = B x3002) (shrC (rfl : (V.shr (I x3003)) = I x3003) (rfl : shrL [] = [])))))) .nil)) [B true, B false] [] (.cons (beq_iff_eq.2 c793) (.cons (notF c794) .nil)) (.cons (beq_iff_eq.2 c793) (.cons (notF c794) .nil)) [] [] (by kernel_rfl) (by kernel_rfl) ?_
        exact ⟨x1, x3, x13, x14, false, x1000, x1001, x1002, x1003, x2000, x2001, x3000, x3001, x3002, x3003, Wk.of [(0, 0), (1, 0), (3, 0), (9, 0), (10, 0), (13, 0), (14, 0), (100, 0)] (by kernel_rfl) (by kernel_rfl), H⟩
      obtain ⟨c795, H⟩ := ifS H
      obtain ⟨c796, H⟩ := ifS H
      obtain ⟨c797, H⟩ := ifS H
      obtain ⟨t798, h799, H⟩ := bindS H
      refine Good.regDF hm hN (.q 0 [] (.q 1 [] (.q 2 [] (.q 3 [] (.k 83 (.q 4 [] (.q 5 [] (.q 6 [] (.q 7 [] (.q 8 [] (.k 88 (.q 9 [] (.q 10 [] (.q 11 [] (.q 12 [] (.q 13 [] (.q 14 [] (.q 15 [] (.q 16 [] (.q 17 [] (.e 18 (.q 19 [] (.q 20 [] .z))))))))))))))))))))))) [(0, some (.pt [S x1000, .row none 5 (List.map (v40 0) x1001), .row none 1 (List.map I x1002), .row none 1 (List.map I x1003)])), (10, some (.pt [I x3000, I x3001, B x3002, I x3003])), (13, none), (14, none)] (by kernel_rfl) (.cons (ptS (shrC (rfl : (V.shr (S x1000)) = S x1000) (shrC (shrM (some 40) 5 (v40 1) (v40 0) x1001 (v40.shr _)) (shrC (shrM (some 3) 1 I I x1002 (fun _ => rfl)) (shrC (shrM (some 3) 1 I I x1003 (fun _ => rfl)) (rfl : shrL [] = [])))))) (.cons (ptS (shrC (rfl : (V.shr (I x3000)) = I x3000) (shrC (rfl : (V.shr (I x3001)) = I x3001) (shrC (rfl : (V.shr (B x3002)) = B x3002) (shrC (rfl : (V.shr (I x3003)) = I x3003) (rfl : shrL [] = [])))))) .nil)) [B true, B true, B t798] [] (.cons (beq_iff_eq.2 c793) (.cons (notT (Bool.eq_false_iff.2 c794)) (.cons c795 (.cons c796 (.cons c797 (.cons (cr18_Right.con h799).c .nil)))))) (.cons (beq_iff_eq.2 c793) (.cons (notT (Bool.eq_false_iff.2 c794)) (.cons c795 (.cons c796 (.cons c797 .nil))))) [] [] (by kernel_rfl) (by kernel_rfl) ?_
      exact ⟨x1, x3, x13, x14, !t798, x1000, x1001, x1002, x1003, x2000, x2001, x3000, x3001, x3002, x3003, Wk.of [(0, 0), (1, 0), (3, 0), (9, 0), (10, 0), (13, 0), (14, 0), (100, 0)] (by kernel_rfl) (by kernel_rfl), H⟩
    clear H
    rintro st ⟨x1, x3, x13, x14, x100, x1000, x1001, x1002, x1003, x2000, x2001, x3000, x3001, x3002, x3003, W, H⟩
    rcases k with _ | k
    · cases H
    refine W.good ?_
    rw [cr19_walk_element.j1] at H
    rcases ifC H with ⟨c800, H⟩ | ⟨c800, H⟩
    · refine Good.condT c800 (by kernel_rfl) ?_
      refine Good.seq ?_
      obtain ⟨t801, h802, H⟩ := bindS H
      refine Good.reg hN [.agg [I t801.1, I t801.2]] (.cons (cr19_faulty.con h802).c .nil) [] (by kernel_rfl) ?_
      obtain rfl := Option.some.inj H
      exact Good.ret (finX_fitR (.refl _) (FitLL.refl _) (by kernel_rfl) rfl)
    refine Good.condF (Bool.eq_false_iff.2 c800) (by kernel_rfl) ?_
    refine Good.skip ?_
    refine Good.seq ?_
    refine Good.reg hN [I (x1001.length : Int)] (.cons (lenM (v40 1) x1001) .nil) [] (by kernel_rfl) ?_
    refine Good.seq ?_
    refine Good.reg hN [] .nil [] (by kernel_rfl) ?_
    refine Good.seq ?_
    refine Good.seq ?_
    refine Good.reg hN [] .nil [] (by kernel_rfl) ?_
    refine Good.cut (fun st => ∃ (x1 : Int) (x3 : Int) (x13 : Int) (x14 : Int) (x15 : Int) (x1000 : ByteArray) (x1001 : List S40) (x1002 : List Int) (x1003 : List Int) (x2000 : Int) (x2001 : Int) (x3000 : Int) (x3001 : Int) (x3002 : Bool) (x3003 : Int) (x4000 : Int) (x4001 : Int) (x4002 : Bool) (x4003 : ByteArray), Wk C st ⟨[(0, .d (.ptr 0 0)), (1, .d (.v (I x1))), (3, .d (.v (I x3))), (9, .d (.ptr 1 0)), (10, .d (.ptr 2 0)), (13, .d (.v (I x13))), (14, .d (.v (I x14))), (15, .d (.v (I x15))), (16, .d (.ptr 3 0))], [.cells [.v (S x1000), .v (.row (some 40) 5 (List.map (v40 1) x1001)), .v (.row (some 3) 1 (List.map I x1002)), .v (.row (some 3) 1 (List.map I x1003))], .cells [.v (I x2000), .v (I x2001)], .cells [.v (I x3000), .v (I x3001), .v (B x3002), .v (I x3003)], .cells [.v (I x4000), .v (I x4001), .v (B x4002), .v (S x4003), .v (.nil 3 1)]]⟩ ∧ cr19_walk_element.j2 k x1 x3 x13 x14 x15 x1000 x1001 x1002 x1003 x3002 x4000 x4001 x4002 x4003 = some r) ?_ ?_
    · rcases ifC H with ⟨c803, H⟩ | ⟨c803, H⟩
      · refine Good.condF (notF c803) (by kernel_rfl) ?_
        refine Good.skip ?_
        exact ⟨x1, x3, x13, x14, (x1001.length : Int), x1000, x1001, x1002, x1003, x2000, x2001, x3000, x3001, x3002, x3003, x3000, x3001, x3002, (⟨#[]⟩ : ByteArray), Wk.of [(0, 0), (1, 0), (3, 0), (9, 0), (10, 0), (13, 0), (14, 0), (15, 0), (16, 0)] (by kernel_rfl) (by kernel_rfl), H⟩
      refine Good.condT (notT (Bool.eq_false_iff.2 c803)) (by kernel_rfl) ?_
      obtain ⟨c804, H⟩ := ifS H
      obtain ⟨c805, H⟩ := ifS H
      obtain ⟨c806, H⟩ := ifS H
      refine Good.reg hN [] (.cons c804 (.cons c805 (.cons c806 .nil))) [] (by kernel_rfl) ?_
      exact ⟨x1, x3, x13, x14, (x1001.length : Int), x1000, x1001, x1002, x1003, x2000, x2001, x3000, x3001, x3002, x3003, x3000, x3001, x3002, x1000.extract (x13 : Int).toNat (x14 : Int).toNat, Wk.of [(0, 0), (1, 0), (3, 0), (9, 0), (10, 0), (13, 0), (14, 0), (15, 0), (16, 0)] (by kernel_rfl) (by kernel_rfl), H⟩
    clear H
    rintro st ⟨x1, x3, x13, x14, x15, x1000, x1001, x1002, x1003, x2000, x2001, x3000, x3001, x3002, x3003, x4000, x4001, x4002, x4003, W, H⟩
    rcases k with _ | k
    · cases H
    refine W.good ?_
    rw [cr19_walk_element.j2] at H
    refine Good.seq ?_
    obtain ⟨c807, H⟩ := ifS H
    replace H := bindI H
    refine Good.regDF hm hN (.i 0 (.q 1 [[4, 3, 2], []] (.q 2 [[4, 3], []] (.q 3 [[4], []] (.q 4 [[], []] (.q 5 [[6], []] (.e 6 (.e 7 (.i 8 (.i 9 (.e 10 .z))))))))))) [(0, some (.pt [S x1000, .row none 5 (List.map (v40 0) x1001), .row none 1 (List.map I x1002), .row none 1 (List.map I x1003)])), (16, some (.pt [I x4000, I x4001, B x4002, S x4003, .nil 3 1]))] (by kernel_rfl) (.cons (ptS (shrC (rfl : (V.shr (S x1000)) = S x1000) (shrC (shrM (some 40) 5 (v40 1) (v40 0) x1001 (v40.shr _)) (shrC (shrM (some 3) 1 I I x1002 (fun _ => rfl)) (shrC (shrM (some 3) 1 I I x1003 (fun _ => rfl)) (rfl : shrL [] = [])))))) (.cons (ptS (shrC (rfl : (V.shr (I x4000)) = I x4000) (shrC (rfl : (V.shr (I x4001)) = I x4001) (shrC (rfl : (V.shr (B x4002)) = B x4002) (shrC (rfl : (V.shr (S x4003)) = S x4003) (shrC (rfl : (V.shr (.nil 3 1)) = .nil 3 1) (rfl : shrL [] = []))))))) .nil)) [.kb true, .row (some 40) 5 (List.map (v40 1) (x1001 ++ [(⟨x4000, x4001, x4002, x4003, ([] : List Int)⟩ : S40)]))] [] (.cons (fitM (v40 1) x1001 [(⟨x4000, x4001, x4002, x4003, ([] : List Int)⟩ : S40)] (.cons (.agg (.cons (.refl _) (.cons (.refl _) (.cons (.refl _) (.cons (.refl _) (.cons (.nilO 3 1) .nil)))))) .nil)) (.cons (limM1 (v40 1) c807) .nil)) .nil [] [] (by kernel_rfl) (by kernel_rfl) ?_
    refine Good.seq ?_
    obtain ⟨c809, H⟩ := ifS H
    replace H := bindI H
    refine Good.reg hN [.kb true, .row (some 3) 1 (List.map I (x1002 ++ [x1]))] (.cons (fitM I x1002 [x1] (.refl _)) (.cons (limM1 I c809) .nil)) [] (by kernel_rfl) ?_
    refine Good.seq ?_
    obtain ⟨c811, H⟩ := ifS H
    replace H := bindI H
    refine Good.reg hN [.kb true, .row (some 3) 1 (List.map I (x1003 ++ [x14]))] (.cons (fitM I x1003 [x14] (.refl _)) (.cons (limM1 I c811) .nil)) [] (by kernel_rfl) ?_
    refine Good.seq ?_
    refine Good.seq ?_
    refine Good.reg hN [] .nil [] (by kernel_rfl) ?_
    rcases (ifC H).symm with ⟨c813, H⟩ | ⟨c813, H⟩
    · refine Good.condT (notT (Bool.eq_false_iff.2 c813)) (by kernel_rfl) ?_
      refine Good.seq ?_
      refine Good.reg hN [] .nil [] (by kernel_rfl) ?_
      obtain rfl := Option.some.inj H
      exact Good.ret (finX_fitR (.refl _) (FitLL.refl _) (by kernel_rfl) rfl)
    refine Good.condF (notF c813) (by kernel_rfl) ?_
    refine Good.skip ?_
    refine Good.seq ?_
    refine Good.reg hN [] .nil [] (by kernel_rfl) ?_
    refine Good.seq ?_
    refine Good.block ?_
    refine Good.loopN (fun k' st => ∃ (x3 : Int) (x14 : Int) (x15 : Int) (x17 : Int) (x1000 : ByteArray) (x1001 : List S40) (x1002 : List Int) (x1003 : List Int) (x2000 : Int) (x2001 : Int) (x3000 : Int) (x3001 : Int) (x3002 : Bool) (x3003 : Int) (x4000 : Int) (x4001 : Int) (x4002 : Bool) (x4003 : ByteArray), k' ≤ k ∧ Wk C st ⟨[(0, .d (.ptr 0 0)), (3, .d (.v (I x3))), (9, .d (.ptr 1 0)), (14, .d (.v (I x14))), (15, .d (.v (I x15))), (17, .d (.v (I x17)))], [.cells [.v (S x1000), .v (.row (some 40) 5 (List.map (v40 1) x1001)), .v (.row (some 3) 1 (List.map I x1002)), .v (.row (some 3) 1 (List.map I x1003))], .cells [.v (I x2000), .v (I x2001)], .cells [.v (I x3000), .v (I x3001), .v (B x3002), .v (I x3003)], .cells [.v (I x4000), .v (I x4001), .v (B x4002), .v (S x4003), .v (.nil 3 1)]]⟩ ∧ cr19_walk_element.l0 k' x3 x14 x15 x17 x1000 x1001 x1002 x1003 = some r) k ⟨x3, x14, x15, x13, x1000, (x1001 ++ [(⟨x4000, x4001, x4002, x4003, ([] : List Int)⟩ : S40)]), (x1002 ++ [x1]), (x1003 ++ [x14]), x2000, x2001, x3000, x3001, x3002, x3003, x4000, x4001, x4002, x4003, Nat.le_refl _, Wk.of [(0, 0), (3, 0), (9, 0), (14, 0), (15, 0), (17, 0)] (by kernel_rfl) (by kernel_rfl), H⟩ fun k => ⟨fun st h => (by obtain ⟨_, _, _, _, _, _, _, _, _, _, _, _, _, _, _, _, _, _, _, _, H⟩ := h; cases H), ?_⟩
    clear H
    rintro st ⟨x3, x14, x15, x17, x1000, x1001, x1002, x1003, x2000, x2001, x3000, x3001, x3002, x3003, x4000, x4001, x4002, x4003, hk, W, H⟩
    refine W.good ?_
    rw [cr19_walk_element.l0] at H
    refine Good.seq ?_
    refine Good.seq ?_
    refine Good.reg hN [] .nil [] (by kernel_rfl) ?_
    rcases (ifC H).symm with ⟨c814, H⟩ | ⟨c814, H⟩
    · refine Good.condF (decide_eq_false c814) (by kernel_rfl) ?_
      refine Good.exit ?_
      refine Good.seq ?_
      refine Good.reg hN [] .nil [] (by kernel_rfl) ?_
      obtain rfl := Option.some.inj H
      exact Good.ret (finX_fitR (.refl _) (FitLL.refl _) (by kernel_rfl) rfl)
    refine Good.condT (decide_eq_true c814) (by kernel_rfl) ?_
    refine Good.skip ?_
    refine Good.block ?_
    refine Good.seq ?_
    obtain ⟨c815, H⟩ := ifS H
    obtain ⟨c816, H⟩ := ifS H
    obtain ⟨c817, H⟩ := ifS H
    refine Good.regTB (n := 3) hm hN hL (.i 0 (.i 1 (.i 2 (.i 4 (.q 5 [[12, 11, 10, 8, 7, 6], []] (.q 6 [[12, 11, 10, 8, 7], []] (.q 7 [[12, 11, 10, 8], []] (.q 8 [[12, 11, 10], []] (.q 9 [[12, 11, 10], []] (.q 10 [[12, 11], []] (.q 11 [[12], []] (.q 12 [[], []] (.q 13 [[18, 17, 16, 15, 14], []] (.q 14 [[18, 17, 16, 15], []] (.q 15 [[18, 17, 16], []] (.q 16 [[18, 17], []] (.q 17 [[18], []] (.b 3 [.kb true, (v40 1) (rd_T40 x1001 x15), .row (some 3) 1 (List.map I (((rd_T40 x1001 x15).f4) ++ [(x1001.length : Int)])), setC ((v40 1) (rd_T40 x1001 x15)) 4 [.any], (v40 1) (⟨(rd_T40 x1001 x15).f0, (rd_T40 x1001 x15).f1, (rd_T40 x1001 x15).f2, (rd_T40 x1001 x15).f3, (((rd_T40 x1001 x15).f4) ++ [(x1001.length : Int)])⟩ : S40), .row (some 40) 5 (List.map (v40 1) (x1001.set (x15 : Int).toNat (⟨(rd_T40 x1001 x15).f0, (rd_T40 x1001 x15).f1, (rd_T40 x1001 x15).f2, (rd_T40 x1001 x15).f3, (((rd_T40 x1001 x15).f4) ++ [(x1001.length : Int)])⟩ : S40)))] [] (.e 18 (.e 19 (.e 20 (.e 21 (.e 22 .z))))) [] [] (.e 18 (.b 3 [.kb true, (v40 1) (rd_T40 x1001 x15), .row (some 3) 1 (List.map I (((rd_T40 x1001 x15).f4) ++ [(x1001.length : Int)])), setC ((v40 1) (rd_T40 x1001 x15)) 4 [.any], (v40 1) (⟨(rd_T40 x1001 x15).f0, (rd_T40 x1001 x15).f1, (rd_T40 x1001 x15).f2, (rd_T40 x1001 x15).f3, (((rd_T40 x1001 x15).f4) ++ [(x1001.length : Int)])⟩ : S40), .row (some 40) 5 (List.map (v40 1) (x1001.set (x15 : Int).toNat (⟨(rd_T40 x1001 x15).f0, (rd_T40 x1001 x15).f1, (rd_T40 x1001 x15).f2, (rd_T40 x1001 x15).f3, (((rd_T40 x1001 x15).f4) ++ [(x1001.length : Int)])⟩ : S40)))] [] (.e 19 (.e 20 (.e 21 (.e 22 .z)))) [.kb true, (v40 1) (rd_T40 x1001 x15), .row (some 3) 1 (List.map I (((rd_T40 x1001 x15).f4) ++ [(x1001.length : Int)])), setC ((v40 1) (rd_T40 x1001 x15)) 4 [.any], (v40 1) (⟨(rd_T40 x1001 x15).f0, (rd_T40 x1001 x15).f1, (rd_T40 x1001 x15).f2, (rd_T40 x1001 x15).f3, (((rd_T40 x1001 x15).f4) ++ [(x1001.length : Int)])⟩ : S40), .row (some 40) 5 (List.map (v40 1) (x1001.set (x15 : Int).toNat (⟨(rd_T40 x1001 x15).f0, (rd_T40 x1001 x15).f1, (rd_T40 x1001 x15).f2, (rd_T40 x1001 x15).f3, (((rd_T40 x1001 x15).f4) ++ [(x1001.length : Int)])⟩ : S40)))] [] (.e 19 (.e 3 (.e 20 (.e 21 (.e 22 .z))))))))))))))))))))))))) [(0, some (.pt [S x1000, .row none 5 (List.map (v40 0) x1001), .row none 1 (List.map I x1002), .row none 1 (List.map I x1003)])), (15, none)] (by kernel_rfl) (.cons (ptS (shrC (rfl : (V.shr (S x1000)) = S x1000) (shrC (shrM (some 40) 5 (v40 1) (v40 0) x1001 (v40.shr _)) (shrC (shrM (some 3) 1 I I x1002 (fun _ => rfl)) (shrC (shrM (some 3) 1 I I x1003 (fun _ => rfl)) (rfl : shrL [] = [])))))) .nil) [(v40 1) (rd_T40 x1001 x15), I (x1001.length : Int)] [(v40 0) (rd_T40 x1001 x15), I (x1001.length : Int)] (.cons (.cons c815 (.cons (ltM (v40 1) c816) (.cons (atM (v40 1) z40 c815 c816) (.cons (lenM (v40 1) x1001) (.cons (atM (v40 1) z40 c815 c816) (.cons (fitM I ((rd_T40 x1001 x15).f4) [(x1001.length : Int)] (.refl _)) (.cons (limM1 I c817) (.cons c815 (.cons (ltH (v40 1) (m := (x15 : Int).toNat) (X := setC ((v40 1) (rd_T40 x1001 x15)) 4 [.any]) c816) (.cons (atH (v40 1) (X := setC ((v40 1) (rd_T40 x1001 x15)) 4 [.any]) c815 c816) (.cons (Fit.refl ((v40 1) (⟨(rd_T40 x1001 x15).f0, (rd_T40 x1001 x15).f1, (rd_T40 x1001 x15).f2, (rd_T40 x1001 x15).f3, (((rd_T40 x1001 x15).f4) ++ [(x1001.length : Int)])⟩ : S40))) (.cons (setH (v40 1) (l := x1001) (n := (x15 : Int).toNat) (x := (⟨(rd_T40 x1001 x15).f0, (rd_T40 x1001 x15).f1, (rd_T40 x1001 x15).f2, (rd_T40 x1001 x15).f3, (((rd_T40 x1001 x15).f4) ++ [(x1001.length : Int)])⟩ : S40)) (X := setC ((v40 1) (rd_T40 x1001 x15)) 4 [.any])) .nil)))))))))))) (.cons c815 (.cons (atM (v40 0) z40 c815 c816) (.cons (lenM (v40 0) x1001) .nil))) (.cons (.cons c815 (.cons (ltM (v40 1) c816) (.cons (atM (v40 1) z40 c815 c816) (.cons (lenM (v40 1) x1001) (.cons (atM (v40 1) z40 c815 c816) (.cons (fitM I ((rd_T40 x1001 x15).f4) [(x1001.length : Int)] (.refl _)) (.cons (limM1 I c817) (.cons c815 (.cons (ltH (v40 1) (m := (x15 : Int).toNat) (X := setC ((v40 1) (rd_T40 x1001 x15)) 4 [.any]) c816) (.cons (atH (v40 1) (X := setC ((v40 1) (rd_T40 x1001 x15)) 4 [.any]) c815 c816) (.cons (Fit.refl ((v40 1) (⟨(rd_T40 x1001 x15).f0, (rd_T40 x1001 x15).f1, (rd_T40 x1001 x15).f2, (rd_T40 x1001 x15).f3, (((rd_T40 x1001 x15).f4) ++ [(x1001.length : Int)])⟩ : S40))) (.cons (setH (v40 1) (l := x1001) (n := (x15 : Int).toNat) (x := (⟨(rd_T40 x1001 x15).f0, (rd_T40 x1001 x15).f1, (rd_T40 x1001 x15).f2, (rd_T40 x1001 x15).f3, (((rd_T40 x1001 x15).f4) ++ [(x1001.length : Int)])⟩ : S40)) (X := setC ((v40 1) (rd_T40 x1001 x15)) 4 [.any])) .nil)))))))))))) (.cons c815 (.cons (atM (v40 0) z40 c815 c816) (.cons (lenM (v40 0) x1001) .nil))) (.cons (.cons c815 (.cons (ltM (v40 1) c816) (.cons (atM (v40 1) z40 c815 c816) (.cons (lenM (v40 1) x1001) (.cons (atM (v40 1) z40 c815 c816) (.cons (fitM I ((rd_T40 x1001 x15).f4) [(x1001.length : Int)] (.refl _)) (.cons (limM1 I c817) (.cons c815 (.cons (ltH (v40 1) (m := (x15 : Int).toNat) (X := setC ((v40 1) (rd_T40 x1001 x15)) 4 [.any]) c816) (.cons (atH (v40 1) (X := setC ((v40 1) (rd_T40 x1001 x15)) 4 [.any]) c815 c816) (.cons (Fit.refl ((v40 1) (⟨(rd_T40 x1001 x15).f0, (rd_T40 x1001 x15).f1, (rd_T40 x1001 x15).f2, (rd_T40 x1001 x15).f3, (((rd_T40 x1001 x15).f4) ++ [(x1001.length : Int)])⟩ : S40))) (.cons (setH (v40 1) (l := x1001) (n := (x15 : Int).toNat) (x := (⟨(rd_T40 x1001 x15).f0, (rd_T40 x1001 x15).f1, (rd_T40 x1001 x15).f2, (rd_T40 x1001 x15).f3, (((rd_T40 x1001 x15).f4) ++ [(x1001.length : Int)])⟩ : S40)) (X := setC ((v40 1) (rd_T40 x1001 x15)) 4 [.any])) .nil)))))))))))) (.cons c815 (.cons (atM (v40 0) z40 c815 c816) (.cons (lenM (v40 0) x1001) .nil))) .nil))) [] [] (by kernel_rfl) (by kernel_rfl) [[], [], []] [(0, 0), (3, 0), (9, 0), (14, 0), (15, 0), (17, 0)] [(0, .d (.ptr 0 0)), (3, .d (.v (I x3))), (9, .d (.ptr 1 0)), (14, .d (.v (I x14))), (15, .d (.v (I x15))), (17, .d (.v (I x17)))] [.cells [.v (S x1000), .v (.row (some 40) 5 (List.map (v40 1) (x1001.set (x15 : Int).toNat (⟨(rd_T40 x1001 x15).f0, (rd_T40 x1001 x15).f1, (rd_T40 x1001 x15).f2, (rd_T40 x1001 x15).f3, (((rd_T40 x1001 x15).f4) ++ [(x1001.length : Int)])⟩ : S40)))), .v (.row (some 3) 1 (List.map I x1002)), .v (.row (some 3) 1 (List.map I x1003))], .cells [.v (I x2000), .v (I x2001)], .cells [.v (I x3000), .v (I x3001), .v (B x3002), .v (I x3003)], .cells [.v (I x4000), .v (I x4001), .v (B x4002), .v (S x4003), .v (.nil 3 1)]] (by kernel_rfl) (by kernel_rfl) ?_
    refine Good.seq ?_
    obtain ⟨t820, h821, H⟩ := bindS H
    refine Good.reg hN [.tup [I t820.1, .agg [I t820.2.1, I t820.2.2.1]], .tup [.agg [S t820.2.2.2.1, .row (some 40) 5 (List.map (v40 1) t820.2.2.2.2.1), .row (some 3) 1 (List.map I t820.2.2.2.2.2.1), .row (some 3) 1 (List.map I t820.2.2.2.2.2.2)]]] (.cons (ih _ _ _ _ _ _ _ _ _ (by omega) h821).c .nil) [] (by kernel_rfl) ?_
    refine Good.seq ?_
    refine Good.seq ?_
    refine Good.reg hN [] .nil [] (by kernel_rfl) ?_
    rcases ifC H with ⟨c822, H⟩ | ⟨c822, H⟩
    · refine Good.condF (bneF c822) (by kernel_rfl) ?_
      refine Good.skip ?_
      refine Good.reg hN [] .nil [] (by kernel_rfl) ?_
      exact ⟨k, by omega, x3, x14, x15, t820.1, t820.2.2.2.1, t820.2.2.2.2.1, t820.2.2.2.2.2.1, t820.2.2.2.2.2.2, x2000, x2001, x3000, x3001, x3002, x3003, x4000, x4001, x4002, x4003, by omega, Wk.ofB hL 4 [(0, 0), (3, 0), (9, 0), (14, 0), (15, 0), (17, 0)] (by kernel_rfl) (by kernel_rfl) (by kernel_rfl), H⟩
    refine Good.condT (bne_iff_ne.2 c822) (by kernel_rfl) ?_
    refine Good.seq ?_
    refine Good.regDF hm hN (.q 0 [[]] (.q 1 [[]] (.e 2 .z))) [(9, some (.pt [I x2000, I x2001])), (19, some (.pt [I t820.2.1, I t820.2.2.1]))] (by kernel_rfl) (.cons (ptS (shrC (rfl : (V.shr (I x2000)) = I x2000) (shrC (rfl : (V.shr (I x2001)) = I x2001) (rfl : shrL [] = [])))) (.cons (ptS (shrC (rfl : (V.shr (I t820.2.1)) = I t820.2.1) (shrC (rfl : (V.shr (I t820.2.2.1)) = I t820.2.2.1) (rfl : shrL [] = [])))) .nil)) [] [] .nil .nil [] [] (by kernel_rfl) (by kernel_rfl) ?_
    obtain rfl := Option.some.inj H
    exact Good.ret (finX_fitR (.refl _) (FitLL.refl _) (by kernel_rfl) rfl)
theorem cr19_walk_element.con {k : Nat} {a0_0 : ByteArray} {l0_1 : List S40} {l0_2 : List Int} {l0_3 : List Int} {a1 : Int} {a2 : Int} {a3 : Int} {r : (Int × Int × Int × ByteArray × List S40 × List Int × List Int)} (H : cr19_walk_element.f k a0_0 l0_1 l0_2 l0_3 a1 a2 a3 = some r) : ConX Tryd.prog 31 [.ptr 0 0, .v (I a1), .v (I a2), .v (I a3)] [[S a0_0, .row (some 40) 5 (List.map (v40 1) l0_1), .row (some 3) 1 (List.map I l0_2), .row (some 3) 1 (List.map I l0_3)]] (.v (.tup [I r.1, .agg [I r.2.1, I r.2.2.1]])) [[S r.2.2.2.1, .row (some 40) 5 (List.map (v40 1) r.2.2.2.2.1), .row (some 3) 1 (List.map I r.2.2.2.2.2.1), .row (some 3) 1 (List.map I r.2.2.2.2.2.2)]] := cr19_walk_element.cons k k a0_0 l0_1 l0_2 l0_3 a1 a2 a3 r (Nat.le_refl _) H
def cr19_whole.f (k : Nat) (a0 : ByteArray) : Option (ByteArray × List S40 × List Int × List Int × Int × Int) := if a0.toList = ([] : List UInt8) then ((cr19_faulty.f 3 0).bind fun t824 => (some (a0, ([] : List S40), ([] : List Int), ([] : List Int), t824.1, t824.2))) else (if (a0.size : Int) > 65535 then ((cr19_faulty.f 4 0).bind fun t827 => (some (a0, ([] : List S40), ([] : List Int), ([] : List Int), t827.1, t827.2))) else ((cr19_walk_element.f k a0 ([] : List S40) ([] : List Int) ([] : List Int) 0 (a0.size : Int) 1).bind fun t829 => (if t829.2.1 = 0 then (if t829.1 < (a0.size : Int) then ((cr19_faulty.f 5 t829.1).bind fun t833 => (some (t829.2.2.2.1, t829.2.2.2.2.1, t829.2.2.2.2.2.1, t829.2.2.2.2.2.2, t833.1, t833.2))) else (some (t829.2.2.2.1, t829.2.2.2.2.1, t829.2.2.2.2.2.1, t829.2.2.2.2.2.2, t829.2.1, t829.2.2.1))) else (some (t829.2.2.2.1, t829.2.2.2.2.1, t829.2.2.2.2.2.1, t829.2.2.2.2.2.2, t829.2.1, t829.2.2.1)))))
theorem cr19_whole.con {k : Nat} {a0 : ByteArray} {r : (ByteArray × List S40 × List Int × List Int × Int × Int)} (H : cr19_whole.f k a0 = some r) : Con Tryd.prog 19 [S a0] (.tup [.pt [S r.1, .row none 5 (List.map (v40 0) r.2.1), .row none 1 (List.map I r.2.2.1), .row none 1 (List.map I r.2.2.2.1)], .agg [I r.2.2.2.2.1, I r.2.2.2.2.2]]) := by
  refine con_of_good Tryd.func19 rfl (by kernel_rfl) (by kernel_rfl) fun C hN hL => ?_
  unfold cr19_whole.f at H
  refine Good.seq ?_
  refine Good.reg hN [] .nil [] (by kernel_rfl) ?_
  refine Good.seq ?_
  refine Good.reg hN [] .nil [] (by kernel_rfl) ?_
  refine Good.seq ?_
  refine Good.seq ?_
  refine Good.reg hN [] (.cons (strV (rfl : a0.toList = a0.toList) (litL ([] : List UInt8))) .nil) [(11, .bool (a0.toList == ([] : List UInt8)))] (by kernel_rfl) ?_
  rcases ifC H with ⟨c823, H⟩ | ⟨c823, H⟩
  · refine Good.condT (beq_iff_eq.2 c823) (by kernel_rfl) ?_
    refine Good.seq ?_
    obtain ⟨t824, h825, H⟩ := bindS H
    refine Good.reg hN [.agg [I t824.1, I t824.2]] (.cons (cr19_faulty.con h825).c .nil) [] (by kernel_rfl) ?_
    obtain rfl := Option.some.inj H
    refine Good.boxF 1 (us := [S a0, .nil 40 5, .nil 3 1, .nil 3 1]) (ds := [S a0, .row none 5 (List.map (v40 0) ([] : List S40)), .row none 1 (List.map I ([] : List Int)), .row none 1 (List.map I ([] : List Int))]) (by kernel_rfl) (.cons (.refl _) (.cons (.nilS 40 5 _) (.cons (.nilS 3 1 _) (.cons (.nilS 3 1 _) .nil)))) ?_
    refine Good.publish 2 1 0 (us := [S a0, .row none 5 (List.map (v40 0) ([] : List S40)), .row none 1 (List.map I ([] : List Int)), .row none 1 (List.map I ([] : List Int))]) (us' := [S a0, .row none 5 (List.map (v40 0) ([] : List S40)), .row none 1 (List.map I ([] : List Int)), .row none 1 (List.map I ([] : List Int))]) (by kernel_rfl) (by kernel_rfl) (shrC (rfl : (V.shr (S a0)) = S a0) (shrC (shrM none 5 (v40 0) (v40 0) ([] : List S40) (v40.shr _)) (shrC (shrM none 1 I I ([] : List Int) (fun _ => rfl)) (shrC (shrM none 1 I I ([] : List Int) (fun _ => rfl)) (rfl : shrL [] = []))))) ?_
    exact Good.ret (fin.doneR (by kernel_rfl))
  refine Good.condF (beq_eq_false_iff_ne.2 c823) (by kernel_rfl) ?_
  refine Good.skip ?_
  refine Good.seq ?_
  refine Good.seq ?_
  refine Good.reg hN [] .nil [] (by kernel_rfl) ?_
  rcases ifC H with ⟨c826, H⟩ | ⟨c826, H⟩
  · refine Good.condT (decide_eq_true c826) (by kernel_rfl) ?_
    refine Good.seq ?_
    obtain ⟨t827, h828, H⟩ := bindS H
    refine Good.reg hN [.agg [I t827.1, I t827.2]] (.cons (cr19_faulty.con h828).c .nil) [] (by kernel_rfl) ?_
    obtain rfl := Option.some.inj H
    refine Good.boxF 1 (us := [S a0, .nil 40 5, .nil 3 1, .nil 3 1]) (ds := [S a0, .row none 5 (List.map (v40 0) ([] : List S40)), .row none 1 (List.map I ([] : List Int)), .row none 1 (List.map I ([] : List Int))]) (by kernel_rfl) (.cons (.refl _) (.cons (.nilS 40 5 _) (.cons (.nilS 3 1 _) (.cons (.nilS 3 1 _) .nil)))) ?_
    refine Good.publish 2 1 0 (us := [S a0, .row none 5 (List.map (v40 0) ([] : List S40)), .row none 1 (List.map I ([] : List Int)), .row none 1 (List.map I ([] : List Int))]) (us' := [S a0, .row none 5 (List.map (v40 0) ([] : List S40)), .row none 1 (List.map I ([] : List Int)), .row none 1 (List.map I ([] : List Int))]) (by kernel_rfl) (by kernel_rfl) (shrC (rfl : (V.shr (S a0)) = S a0) (shrC (shrM none 5 (v40 0) (v40 0) ([] : List S40) (v40.shr _)) (shrC (shrM none 1 I I ([] : List Int) (fun _ => rfl)) (shrC (shrM none 1 I I ([] : List Int) (fun _ => rfl)) (rfl : shrL [] = []))))) ?_
    exact Good.ret (fin.doneR (by kernel_rfl))
  refine Good.condF (decide_eq_false c826) (by kernel_rfl) ?_
  refine Good.skip ?_
  refine Good.seq ?_
  obtain ⟨t829, h830, H⟩ := bindS H
  refine Good.reg hN [.tup [I t829.1, .agg [I t829.2.1, I t829.2.2.1]], .tup [.agg [S t829.2.2.2.1, .row (some 40) 5 (List.map (v40 1) t829.2.2.2.2.1), .row (some 3) 1 (List.map I t829.2.2.2.2.2.1), .row (some 3) 1 (List.map I t829.2.2.2.2.2.2)]]] (.cons (ConX.n (cr19_walk_element.con h830) (.cons (.refl _) (.cons (.refl _) (.cons (.refl _) (.cons (.refl _) .nil)))) (.cons (.cons (.refl _) (.cons (.nilO 40 5) (.cons (.nilO 3 1) (.cons (.nilO 3 1) .nil)))) .nil)) .nil) [] (by kernel_rfl) ?_
  refine Good.seq ?_
  refine Good.seq ?_
  rcases (ifC H).symm with ⟨c831, H⟩ | ⟨c831, H⟩
  · refine Good.reg hN [B false] (.cons (beq_eq_false_iff_ne.2 c831) .nil) [] (by kernel_rfl) ?_
    refine Good.cond false (by kernel_rfl) ?_
    refine Good.skip ?_
    refine Good.seq ?_
    refine Good.regDF hm hN (.q 0 [[]] (.q 1 [[]] (.q 2 [[]] (.e 3 .z)))) [(3, some (.pt [I 0, I 0])), (4, some (.pt [S t829.2.2.2.1, .row none 5 (List.map (v40 0) t829.2.2.2.2.1), .row none 1 (List.map I t829.2.2.2.2.2.1), .row none 1 (List.map I t829.2.2.2.2.2.2)])), (6, some (.pt [I t829.2.1, I t829.2.2.1]))] (by kernel_rfl) (.cons (ptS (shrC (rfl : (V.shr (I 0)) = I 0) (shrC (rfl : (V.shr (I 0)) = I 0) (rfl : shrL [] = [])))) (.cons (ptS (shrC (rfl : (V.shr (S t829.2.2.2.1)) = S t829.2.2.2.1) (shrC (shrM (some 40) 5 (v40 1) (v40 0) t829.2.2.2.2.1 (v40.shr _)) (shrC (shrM (some 3) 1 I I t829.2.2.2.2.2.1 (fun _ => rfl)) (shrC (shrM (some 3) 1 I I t829.2.2.2.2.2.2 (fun _ => rfl)) (rfl : shrL [] = [])))))) (.cons (ptS (shrC (rfl : (V.shr (I t829.2.1)) = I t829.2.1) (shrC (rfl : (V.shr (I t829.2.2.1)) = I t829.2.2.1) (rfl : shrL [] = [])))) .nil))) [] [] .nil .nil [] [] (by kernel_rfl) (by kernel_rfl) ?_
    obtain rfl := Option.some.inj H
    refine Good.publish 2 1 0 (us := [S t829.2.2.2.1, .row (some 40) 5 (List.map (v40 1) t829.2.2.2.2.1), .row (some 3) 1 (List.map I t829.2.2.2.2.2.1), .row (some 3) 1 (List.map I t829.2.2.2.2.2.2)]) (us' := [S t829.2.2.2.1, .row none 5 (List.map (v40 0) t829.2.2.2.2.1), .row none 1 (List.map I t829.2.2.2.2.2.1), .row none 1 (List.map I t829.2.2.2.2.2.2)]) (by kernel_rfl) (by kernel_rfl) (shrC (rfl : (V.shr (S t829.2.2.2.1)) = S t829.2.2.2.1) (shrC (shrM (some 40) 5 (v40 1) (v40 0) t829.2.2.2.2.1 (v40.shr _)) (shrC (shrM (some 3) 1 I I t829.2.2.2.2.2.1 (fun _ => rfl)) (shrC (shrM (some 3) 1 I I t829.2.2.2.2.2.2 (fun _ => rfl)) (rfl : shrL [] = []))))) ?_
    exact Good.ret (fin.doneR (by kernel_rfl))
  refine Good.reg hN [B true] (.cons (beq_iff_eq.2 c831) .nil) [] (by kernel_rfl) ?_
  rcases (ifC H).symm with ⟨c832, H⟩ | ⟨c832, H⟩
  · refine Good.condF (decide_eq_false c832) (by kernel_rfl) ?_
    refine Good.skip ?_
    refine Good.seq ?_
    refine Good.regDF hm hN (.q 0 [[]] (.q 1 [[]] (.q 2 [[]] (.e 3 .z)))) [(3, some (.pt [I 0, I 0])), (4, some (.pt [S t829.2.2.2.1, .row none 5 (List.map (v40 0) t829.2.2.2.2.1), .row none 1 (List.map I t829.2.2.2.2.2.1), .row none 1 (List.map I t829.2.2.2.2.2.2)])), (6, some (.pt [I t829.2.1, I t829.2.2.1]))] (by kernel_rfl) (.cons (ptS (shrC (rfl : (V.shr (I 0)) = I 0) (shrC (rfl : (V.shr (I 0)) = I 0) (rfl : shrL [] = [])))) (.cons (ptS (shrC (rfl : (V.shr (S t829.2.2.2.1)) = S t829.2.2.2.1) (shrC (shrM (some 40) 5 (v40 1) (v40 0) t829.2.2.2.2.1 (v40.shr _)) (shrC (shrM (some 3) 1 I I t829.2.2.2.2.2.1 (fun _ => rfl)) (shrC (shrM (some 3) 1 I I t829.2.2.2.2.2.2 (fun _ => rfl)) (rfl : shrL [] = [])))))) (.cons (ptS (shrC (rfl : (V.shr (I t829.2.1)) = I t829.2.1) (shrC (rfl : (V.shr (I t829.2.2.1)) = I t829.2.2.1) (rfl : shrL [] = [])))) .nil))) [] [] .nil .nil [] [] (by kernel_rfl) (by kernel_rfl) ?_
    obtain rfl := Option.some.inj H
    refine Good.publish 2 1 0 (us := [S t829.2.2.2.1, .row (some 40) 5 (List.map (v40 1) t829.2.2.2.2.1), .row (some 3) 1 (List.map I t829.2.2.2.2.2.1), .row (some 3) 1 (List.map I t829.2.2.2.2.2.2)]) (us' := [S t829.2.2.2.1, .row none 5 (List.map (v40 0) t829.2.2.2.2.1), .row none 1 (List.map I t829.2.2.2.2.2.1), .row none 1 (List.map I t829.2.2.2.2.2.2)]) (by kernel_rfl) (by kernel_rfl) (shrC (rfl : (V.shr (S t829.2.2.2.1)) = S t829.2.2.2.1) (shrC (shrM (some 40) 5 (v40 1) (v40 0) t829.2.2.2.2.1 (v40.shr _)) (shrC (shrM (some 3) 1 I I t829.2.2.2.2.2.1 (fun _ => rfl)) (shrC (shrM (some 3) 1 I I t829.2.2.2.2.2.2 (fun _ => rfl)) (rfl : shrL [] = []))))) ?_
    exact Good.ret (fin.doneR (by kernel_rfl))
  refine Good.condT (decide_eq_true c832) (by kernel_rfl) ?_
  obtain ⟨t833, h834, H⟩ := bindS H
  refine Good.reg hN [.agg [I t833.1, I t833.2]] (.cons (cr19_faulty.con h834).c .nil) [] (by kernel_rfl) ?_
  refine Good.seq ?_
  refine Good.regDF hm hN (.q 0 [[]] (.q 1 [[]] (.q 2 [[]] (.e 3 .z)))) [(3, some (.pt [I 0, I 0])), (4, some (.pt [S t829.2.2.2.1, .row none 5 (List.map (v40 0) t829.2.2.2.2.1), .row none 1 (List.map I t829.2.2.2.2.2.1), .row none 1 (List.map I t829.2.2.2.2.2.2)])), (6, some (.pt [I t833.1, I t833.2]))] (by kernel_rfl) (.cons (ptS (shrC (rfl : (V.shr (I 0)) = I 0) (shrC (rfl : (V.shr (I 0)) = I 0) (rfl : shrL [] = [])))) (.cons (ptS (shrC (rfl : (V.shr (S t829.2.2.2.1)) = S t829.2.2.2.1) (shrC (shrM (some 40) 5 (v40 1) (v40 0) t829.2.2.2.2.1 (v40.shr _)) (shrC (shrM (some 3) 1 I I t829.2.2.2.2.2.1 (fun _ => rfl)) (shrC (shrM (some 3) 1 I I t829.2.2.2.2.2.2 (fun _ => rfl)) (rfl : shrL [] = [])))))) (.cons (ptS (shrC (rfl : (V.shr (I t833.1)) = I t833.1) (shrC (rfl : (V.shr (I t833.2)) = I t833.2) (rfl : shrL [] = [])))) .nil))) [] [] .nil .nil [] [] (by kernel_rfl) (by kernel_rfl) ?_
  obtain rfl := Option.some.inj H
  refine Good.publish 2 1 0 (us := [S t829.2.2.2.1, .row (some 40) 5 (List.map (v40 1) t829.2.2.2.2.1), .row (some 3) 1 (List.map I t829.2.2.2.2.2.1), .row (some 3) 1 (List.map I t829.2.2.2.2.2.2)]) (us' := [S t829.2.2.2.1, .row none 5 (List.map (v40 0) t829.2.2.2.2.1), .row none 1 (List.map I t829.2.2.2.2.2.1), .row none 1 (List.map I t829.2.2.2.2.2.2)]) (by kernel_rfl) (by kernel_rfl) (shrC (rfl : (V.shr (S t829.2.2.2.1)) = S t829.2.2.2.1) (shrC (shrM (some 40) 5 (v40 1) (v40 0) t829.2.2.2.2.1 (v40.shr _)) (shrC (shrM (some 3) 1 I I t829.2.2.2.2.2.1 (fun _ => rfl)) (shrC (shrM (some 3) 1 I I t829.2.2.2.2.2.2 (fun _ => rfl)) (rfl : shrL [] = []))))) ?_
  exact Good.ret (fin.doneR (by kernel_rfl))
def cr19_Decode.f (k : Nat) (a0 : ByteArray) : Option (List S40 × Int × Int) := (cr19_whole.f k a0).bind fun t835 => (if t835.2.2.2.2.1 = 0 then (some (t835.2.1, t835.2.2.2.2.1, t835.2.2.2.2.2)) else (some (([] : List S40), t835.2.2.2.2.1, t835.2.2.2.2.2)))
theorem cr19_Decode.con {k : Nat} {a0 : ByteArray} {r : (List S40 × Int × Int)} (H : cr19_Decode.f k a0 = some r) : Con Tryd.prog 8 [S a0] (.tup [.row none 5 (List.map (v40 0) r.1), .agg [I r.2.1, I r.2.2]]) := by
  refine con_of_good Tryd.func8 rfl (by kernel_rfl) (by kernel_rfl) fun C hN hL => ?_
  unfold cr19_Decode.f at H
  refine Good.seq ?_
  refine Good.reg hN [] .nil [] (by kernel_rfl) ?_
  refine Good.seq ?_
  obtain ⟨t835, h836, H⟩ := bindS H
  refine Good.reg hN [.tup [.pt [S t835.1, .row none 5 (List.map (v40 0) t835.2.1), .row none 1 (List.map I t835.2.2.1), .row none 1 (List.map I t835.2.2.2.1)], .agg [I t835.2.2.2.2.1, I t835.2.2.2.2.2]]] (.cons (cr19_whole.con h836).c .nil) [] (by kernel_rfl) ?_
  refine Good.seq ?_
  refine Good.seq ?_
  refine Good.reg hN [] .nil [] (by kernel_rfl) ?_
  rcases (ifC H).symm with ⟨c837, H⟩ | ⟨c837, H⟩
  · refine Good.condT (bne_iff_ne.2 c837) (by kernel_rfl) ?_
    refine Good.seq ?_
    refine Good.regDF hm hN (.q 0 [[]] (.q 1 [[]] (.e 2 .z))) [(3, some (.pt [I 0, I 0])), (5, some (.pt [I t835.2.2.2.2.1, I t835.2.2.2.2.2]))] (by kernel_rfl) (.cons (ptS (shrC (rfl : (V.shr (I 0)) = I 0) (shrC (rfl : (V.shr (I 0)) = I 0) (rfl : shrL [] = [])))) (.cons (ptS (shrC (rfl : (V.shr (I t835.2.2.2.2.1)) = I t835.2.2.2.2.1) (shrC (rfl : (V.shr (I t835.2.2.2.2.2)) = I t835.2.2.2.2.2) (rfl : shrL [] = [])))) .nil)) [] [] .nil .nil [] [] (by kernel_rfl) (by kernel_rfl) ?_
    obtain rfl := Option.some.inj H
    exact Good.ret (fin_fit (u := .tup [.nil 40 5, .agg [I t835.2.2.2.2.1, I t835.2.2.2.2.2]]) (.tup (.cons (.nilS 40 5 _) (.cons (.refl _) .nil))) (by kernel_rfl))
  refine Good.condF (bneF c837) (by kernel_rfl) ?_
  refine Good.skip ?_
  refine Good.seq ?_
  refine Good.regDF hm hN (.q 0 [[]] (.q 1 [[]] (.q 2 [[]] (.q 3 [[]] (.q 4 [[]] (.q 5 [[]] (.e 6 .z))))))) [(3, some (.pt [I 0, I 0])), (4, none), (5, some (.pt [I t835.2.2.2.2.1, I t835.2.2.2.2.2]))] (by kernel_rfl) (.cons (ptS (shrC (rfl : (V.shr (I 0)) = I 0) (shrC (rfl : (V.shr (I 0)) = I 0) (rfl : shrL [] = [])))) (.cons (ptS (shrC (rfl : (V.shr (I t835.2.2.2.2.1)) = I t835.2.2.2.2.1) (shrC (rfl : (V.shr (I t835.2.2.2.2.2)) = I t835.2.2.2.2.2) (rfl : shrL [] = [])))) .nil)) [] [] .nil .nil [] [] (by kernel_rfl) (by kernel_rfl) ?_
  obtain rfl := Option.some.inj H
  exact Good.ret (fin.doneR (by kernel_rfl))
def cr19_Spans.f (k : Nat) (a0 : ByteArray) : Option (List Int × List Int) := (cr19_whole.f k a0).bind fun t838 => (if t838.2.2.2.2.1 = 0 then (some (t838.2.2.1, t838.2.2.2.1)) else (some (([] : List Int), ([] : List Int))))
theorem cr19_Spans.con {k : Nat} {a0 : ByteArray} {r : (List Int × List Int)} (H : cr19_Spans.f k a0 = some r) : Con Tryd.prog 10 [S a0] (.tup [.row none 1 (List.map I r.1), .row none 1 (List.map I r.2)]) := by
  refine con_of_good Tryd.func10 rfl (by kernel_rfl) (by kernel_rfl) fun C hN hL => ?_
  unfold cr19_Spans.f at H
  refine Good.seq ?_
  refine Good.reg hN [] .nil [] (by kernel_rfl) ?_
  refine Good.seq ?_
  obtain ⟨t838, h839, H⟩ := bindS H
  refine Good.reg hN [.tup [.pt [S t838.1, .row none 5 (List.map (v40 0) t838.2.1), .row none 1 (List.map I t838.2.2.1), .row none 1 (List.map I t838.2.2.2.1)], .agg [I t838.2.2.2.2.1, I t838.2.2.2.2.2]]] (.cons (cr19_whole.con h839).c .nil) [] (by kernel_rfl) ?_
  refine Good.seq ?_
  refine Good.seq ?_
  refine Good.reg hN [] .nil [] (by kernel_rfl) ?_
  rcases (ifC H).symm with ⟨c840, H⟩ | ⟨c840, H⟩
  · refine Good.condT (bne_iff_ne.2 c840) (by kernel_rfl) ?_
    refine Good.seq ?_
    refine Good.reg hN [] .nil [] (by kernel_rfl) ?_
    obtain rfl := Option.some.inj H
    exact Good.ret (fin_fit (u := .tup [.nil 3 1, .nil 3 1]) (.tup (.cons (.nilS 3 1 _) (.cons (.nilS 3 1 _) .nil))) (by kernel_rfl))
  refine Good.condF (bneF c840) (by kernel_rfl) ?_
  refine Good.skip ?_
  refine Good.seq ?_
  refine Good.regDF hm hN (.q 0 [] (.q 1 [] (.q 2 [] (.q 3 [] (.q 4 [] (.q 5 [] (.q 6 [] (.q 7 [] (.q 8 [] (.q 9 [] .z)))))))))) [(4, none)] (by kernel_rfl) .nil [] [] .nil .nil [] [] (by kernel_rfl) (by kernel_rfl) ?_
  obtain rfl := Option.some.inj H
  exact Good.ret (fin.doneR (by kernel_rfl))
def cp_Ints.l0 : Nat → List Int → List Int → Int → Option (Bool)
 | 0, _, _, _ => none
 | k + 1, x0, x1, x5 => if x5 < (x0.length : Int) then (if 0 ≤ x5 then (if x5 < (x1.length : Int) then (if (rd x0 x5) = (rd x1 x5) then (cp_Ints.l0 k x0 x1 (wrap64 (x5 + 1))) else (some false)) else (none)) else (none)) else (some true)
def cp_Ints.f (k : Nat) (l0 : List Int) (l1 : List Int) : Option (Bool) := if (l0.length : Int) = (l1.length : Int) then (cp_Ints.l0 k l0 l1 0) else (some false)
theorem cp_Ints.con {k : Nat} {l0 : List Int} {l1 : List Int} {r : (Bool)} (H : cp_Ints.f k l0 l1 = some r) : Con Tryd.prog 20 [.row none 1 (List.map I l0), .row none 1 (List.map I l1)] (B r) := by
  refine con_of_good Tryd.func20 rfl (by kernel_rfl) (by kernel_rfl) fun C hN hL => ?_
  unfold cp_Ints.f at H
  refine Good.seq ?_
  refine Good.reg hN [] .nil [] (by kernel_rfl) ?_
  refine Good.seq ?_
  refine Good.seq ?_
  refine Good.reg hN [I (l0.length : Int), I (l1.length : Int)] (.cons (lenM I l0) (.cons (lenM I l1) .nil)) [] (by kernel_rfl) ?_
  rcases (ifC H).symm with ⟨c841, H⟩ | ⟨c841, H⟩
  · refine Good.condT (bne_iff_ne.2 c841) (by kernel_rfl) ?_
    refine Good.seq ?_
    refine Good.reg hN [] .nil [] (by kernel_rfl) ?_
    obtain rfl := Option.some.inj H
    exact Good.ret (fin.doneR (by kernel_rfl))
  refine Good.condF (bneF c841) (by kernel_rfl) ?_
  refine Good.skip ?_
  refine Good.seq ?_
  refine Good.seq ?_
  refine Good.reg hN [] .nil [] (by kernel_rfl) ?_
  refine Good.block ?_
  refine Good.loopN (fun k' st => ∃ (x0 : List Int) (x1 : List Int) (x5 : Int), k' ≤ k ∧ Wk C st ⟨[(0, .d (.v (.row none 1 (List.map I x0)))), (1, .d (.v (.row none 1 (List.map I x1)))), (5, .d (.v (I x5)))], []⟩ ∧ cp_Ints.l0 k' x0 x1 x5 = some r) k ⟨l0, l1, 0, Nat.le_refl _, Wk.of [(0, 0), (1, 0), (5, 0)] (by kernel_rfl) (by kernel_rfl), H⟩ fun k => ⟨fun st h => (by obtain ⟨_, _, _, _, _, H⟩ := h; cases H), ?_⟩
  clear H
  rintro st ⟨x0, x1, x5, hk, W, H⟩
  refine W.good ?_
  rw [cp_Ints.l0] at H
  refine Good.seq ?_
  refine Good.seq ?_
  refine Good.reg hN [I (x0.length : Int)] (.cons (lenM I x0) .nil) [] (by kernel_rfl) ?_
  rcases (ifC H).symm with ⟨c842, H⟩ | ⟨c842, H⟩
  · refine Good.condF (decide_eq_false c842) (by kernel_rfl) ?_
    refine Good.exit ?_
    refine Good.seq ?_
    refine Good.reg hN [] .nil [] (by kernel_rfl) ?_
    obtain rfl := Option.some.inj H
    exact Good.ret (fin.doneR (by kernel_rfl))
  refine Good.condT (decide_eq_true c842) (by kernel_rfl) ?_
  refine Good.skip ?_
  refine Good.seq ?_
  refine Good.block ?_
  refine Good.seq ?_
  obtain ⟨c843, H⟩ := ifS H
  obtain ⟨c844, H⟩ := ifS H
  refine Good.regDF hm hN (.q 0 [] (.q 1 [] (.q 2 [] (.q 3 [] (.q 4 [] (.q 5 [] (.q 6 [] (.q 7 [] (.q 8 [] .z))))))))) [(0, none), (1, none), (5, none)] (by kernel_rfl) .nil [I (rd x0 x5), I (rd x1 x5)] [I (rd x0 x5), I (rd x1 x5)] (.cons c843 (.cons (atM I (0 : Int) c843 c842) (.cons c843 (.cons (atM I (0 : Int) c843 c844) .nil)))) (.cons c843 (.cons (atM I (0 : Int) c843 c842) (.cons c843 (.cons (atM I (0 : Int) c843 c844) .nil)))) [] [] (by kernel_rfl) (by kernel_rfl) ?_
  rcases ifC H with ⟨c845, H⟩ | ⟨c845, H⟩
  · refine Good.condF (bneF c845) (by kernel_rfl) ?_
    refine Good.skip ?_
    refine Good.reg hN [] .nil [] (by kernel_rfl) ?_
    exact ⟨k, by omega, x0, x1, wrap64 (x5 + 1), by omega, Wk.of [(0, 0), (1, 0), (5, 0)] (by kernel_rfl) (by kernel_rfl), H⟩
  refine Good.condT (bne_iff_ne.2 c845) (by kernel_rfl) ?_
  refine Good.seq ?_
  refine Good.reg hN [] .nil [] (by kernel_rfl) ?_
  obtain rfl := Option.some.inj H
  exact Good.ret (fin.doneR (by kernel_rfl))
def cp_Same.l0 : Nat → List S40 → List S40 → Int → Option (Bool)
 | 0, _, _, _ => none
 | k + 1, x0, x1, x5 => if x5 < (x0.length : Int) then (if 0 ≤ x5 then (if x5 < (x1.length : Int) then (if ((rd_T40 x0 x5).f0) = ((rd_T40 x1 x5).f0) then (if ((rd_T40 x0 x5).f1) = ((rd_T40 x1 x5).f1) then (if (((rd_T40 x0 x5).f2) != ((rd_T40 x1 x5).f2)) = true then (some false) else (if ((rd_T40 x0 x5).f3).toList = ((rd_T40 x1 x5).f3).toList then ((cp_Ints.f k ((rd_T40 x0 x5).f4) ((rd_T40 x1 x5).f4)).bind fun t854 => (if t854 = true then (cp_Same.l0 k x0 x1 (wrap64 (x5 + 1))) else (some false))) else (some false))) else (some false)) else (some false)) else (none)) else (none)) else (some true)
def cp_Same.f (k : Nat) (l0 : List S40) (l1 : List S40) : Option (Bool) := if (l0.length : Int) = (l1.length : Int) then (cp_Same.l0 k l0 l1 0) else (some false)
theorem cp_Same.con {k : Nat} {l0 : List S40} {l1 : List S40} {r : (Bool)} (H : cp_Same.f k l0 l1 = some r) : Con Tryd.prog 11 [.row none 5 (List.map (v40 0) l0), .row none 5 (List.map (v40 0) l1)] (B r) := by
  refine con_of_good Tryd.func11 rfl (by kernel_rfl) (by kernel_rfl) fun C hN hL => ?_
  unfold cp_Same.f at H
  refine Good.seq ?_
  refine Good.reg hN [] .nil [] (by kernel_rfl) ?_
  refine Good.seq ?_
  refine Good.seq ?_
  refine Good.reg hN [I (l0.length : Int), I (l1.length : Int)] (.cons (lenM (v40 0) l0) (.cons (lenM (v40 0) l1) .nil)) [] (by kernel_rfl) ?_
  rcases (ifC H).symm with ⟨c846, H⟩ | ⟨c846, H⟩
  · refine Good.condT (bne_iff_ne.2 c846) (by kernel_rfl) ?_
    refine Good.seq ?_
    refine Good.reg hN [] .nil [] (by kernel_rfl) ?_
    obtain rfl := Option.some.inj H
    exact Good.ret (fin.doneR (by kernel_rfl))
  refine Good.condF (bneF c846) (by kernel_rfl) ?_
  refine Good.skip ?_
  refine Good.seq ?_
  refine Good.seq ?_
  refine Good.reg hN [] .nil [] (by kernel_rfl) ?_
  refine Good.block ?_
  refine Good.loopN (fun k' st => ∃ (x0 : List S40) (x1 : List S40) (x5 : Int), k' ≤ k ∧ Wk C st ⟨[(0, .d (.v (.row none 5 (List.map (v40 0) x0)))), (1, .d (.v (.row none 5 (List.map (v40 0) x1)))), (5, .d (.v (I x5)))], []⟩ ∧ cp_Same.l0 k' x0 x1 x5 = some r) k ⟨l0, l1, 0, Nat.le_refl _, Wk.of [(0, 0), (1, 0), (5, 0)] (by kernel_rfl) (by kernel_rfl), H⟩ fun k => ⟨fun st h => (by obtain ⟨_, _, _, _, _, H⟩ := h; cases H), ?_⟩
  clear H
  rintro st ⟨x0, x1, x5, hk, W, H⟩
  refine W.good ?_
  rw [cp_Same.l0] at H
  refine Good.seq ?_
  refine Good.seq ?_
  refine Good.reg hN [I (x0.length : Int)] (.cons (lenM (v40 0) x0) .nil) [] (by kernel_rfl) ?_
  rcases (ifC H).symm with ⟨c847, H⟩ | ⟨c847, H⟩
  · refine Good.condF (decide_eq_false c847) (by kernel_rfl) ?_
    refine Good.exit ?_
    refine Good.seq ?_
    refine Good.reg hN [] .nil [] (by kernel_rfl) ?_
    obtain rfl := Option.some.inj H
    exact Good.ret (fin.doneR (by kernel_rfl))
  refine Good.condT (decide_eq_true c847) (by kernel_rfl) ?_
  refine Good.skip ?_
  refine Good.seq ?_
  refine Good.block ?_
  refine Good.seq ?_
  obtain ⟨c848, H⟩ := ifS H
  obtain ⟨c849, H⟩ := ifS H
  refine Good.regTB (n := 8) hm hN hL (.q 0 [[], []] (.q 1 [[], []] (.q 2 [[], []] (.q 3 [[], []] (.i 4 (.i 5 (.i 6 (.b 7 [] [] (.b 8 [] [] (.e 9 (.e 10 (.e 11 .z))) [] [] (.e 9 (.e 8 (.e 10 (.e 11 .z))))) [] [] (.b 8 [] [] (.b 7 [] [] (.e 9 (.e 10 (.e 11 .z))) [] [] (.e 9 (.b 7 [] [] (.e 10 (.e 11 .z)) [] [] (.e 10 (.e 7 (.e 11 .z)))))) [] [] (.e 9 (.b 7 [] [] (.e 8 (.e 10 (.e 11 .z))) [] [] (.e 8 (.b 7 [] [] (.e 10 (.e 11 .z)) [] [] (.e 10 (.e 7 (.e 11 .z)))))))))))))))) [(0, none), (1, none), (5, none)] (by kernel_rfl) .nil [(v40 0) (rd_T40 x0 x5), (v40 0) (rd_T40 x1 x5)] [(v40 0) (rd_T40 x0 x5), (v40 0) (rd_T40 x1 x5)] (.cons (.cons c848 (.cons (atM (v40 0) z40 c848 c847) (.cons c848 (.cons (atM (v40 0) z40 c848 c849) .nil)))) (.cons c848 (.cons (atM (v40 0) z40 c848 c847) (.cons c848 (.cons (atM (v40 0) z40 c848 c849) .nil)))) (.cons (.cons c848 (.cons (atM (v40 0) z40 c848 c847) (.cons c848 (.cons (atM (v40 0) z40 c848 c849) .nil)))) (.cons c848 (.cons (atM (v40 0) z40 c848 c847) (.cons c848 (.cons (atM (v40 0) z40 c848 c849) .nil)))) (.cons (.cons c848 (.cons (atM (v40 0) z40 c848 c847) (.cons c848 (.cons (atM (v40 0) z40 c848 c849) .nil)))) (.cons c848 (.cons (atM (v40 0) z40 c848 c847) (.cons c848 (.cons (atM (v40 0) z40 c848 c849) .nil)))) (.cons (.cons c848 (.cons (atM (v40 0) z40 c848 c847) (.cons c848 (.cons (atM (v40 0) z40 c848 c849) .nil)))) (.cons c848 (.cons (atM (v40 0) z40 c848 c847) (.cons c848 (.cons (atM (v40 0) z40 c848 c849) .nil)))) (.cons (.cons c848 (.cons (atM (v40 0) z40 c848 c847) (.cons c848 (.cons (atM (v40 0) z40 c848 c849) .nil)))) (.cons c848 (.cons (atM (v40 0) z40 c848 c847) (.cons c848 (.cons (atM (v40 0) z40 c848 c849) .nil)))) (.cons (.cons c848 (.cons (atM (v40 0) z40 c848 c847) (.cons c848 (.cons (atM (v40 0) z40 c848 c849) .nil)))) (.cons c848 (.cons (atM (v40 0) z40 c848 c847) (.cons c848 (.cons (atM (v40 0) z40 c848 c849) .nil)))) (.cons (.cons c848 (.cons (atM (v40 0) z40 c848 c847) (.cons c848 (.cons (atM (v40 0) z40 c848 c849) .nil)))) (.cons c848 (.cons (atM (v40 0) z40 c848 c847) (.cons c848 (.cons (atM (v40 0) z40 c848 c849) .nil)))) (.cons (.cons c848 (.cons (atM (v40 0) z40 c848 c847) (.cons c848 (.cons (atM (v40 0) z40 c848 c849) .nil)))) (.cons c848 (.cons (atM (v40 0) z40 c848 c847) (.cons c848 (.cons (atM (v40 0) z40 c848 c849) .nil)))) .nil)))))))) [] [] (by kernel_rfl) (by kernel_rfl) [[], [1, 0], [], [], [], [1, 0], [1, 0], [1, 0]] [(0, 0), (1, 0), (5, 0), (6, 0), (7, 0)] [(0, .d (.v (.row none 5 (List.map (v40 0) x0)))), (1, .d (.v (.row none 5 (List.map (v40 0) x1)))), (5, .d (.v (I x5))), (6, .d (.ptr 0 0)), (7, .d (.ptr 1 0))] [.cells [.v (I ((rd_T40 x0 x5).f0)), .v (I ((rd_T40 x0 x5).f1)), .v (B ((rd_T40 x0 x5).f2)), .v (S ((rd_T40 x0 x5).f3)), .v (.row none 1 (List.map I ((rd_T40 x0 x5).f4)))], .cells [.v (I ((rd_T40 x1 x5).f0)), .v (I ((rd_T40 x1 x5).f1)), .v (B ((rd_T40 x1 x5).f2)), .v (S ((rd_T40 x1 x5).f3)), .v (.row none 1 (List.map I ((rd_T40 x1 x5).f4)))]] (by kernel_rfl) (by kernel_rfl) ?_
  refine Good.seq ?_
  rcases (ifC H).symm with ⟨c850, H⟩ | ⟨c850, H⟩
  · refine Good.reg hN [B true, B true, B true, B true] (.cons (bne_iff_ne.2 c850) (.cons (rfl : true = true) (.cons (rfl : true = true) (.cons (rfl : true = true) .nil)))) [] (by kernel_rfl) ?_
    refine Good.cond true (by kernel_rfl) ?_
    refine Good.seq ?_
    refine Good.reg hN [] .nil [] (by kernel_rfl) ?_
    obtain rfl := Option.some.inj H
    exact Good.ret (fin.doneR (by kernel_rfl))
  rcases (ifC H).symm with ⟨c851, H⟩ | ⟨c851, H⟩
  · refine Good.reg hN [B false, B true, B true, B true] (.cons (bneF c850) (.cons (bne_iff_ne.2 c851) (.cons (rfl : true = true) (.cons (rfl : true = true) .nil)))) [] (by kernel_rfl) ?_
    refine Good.cond true (by kernel_rfl) ?_
    refine Good.seq ?_
    refine Good.reg hN [] .nil [] (by kernel_rfl) ?_
    obtain rfl := Option.some.inj H
    exact Good.ret (fin.doneR (by kernel_rfl))
  rcases ifC H with ⟨c852, H⟩ | ⟨c852, H⟩
  · refine Good.reg hN [B false, B false, B true, B true] (.cons (bneF c850) (.cons (bneF c851) (.cons c852 (.cons (rfl : true = true) .nil)))) [] (by kernel_rfl) ?_
    refine Good.cond true (by kernel_rfl) ?_
    refine Good.seq ?_
    refine Good.reg hN [] .nil [] (by kernel_rfl) ?_
    obtain rfl := Option.some.inj H
    exact Good.ret (fin.doneR (by kernel_rfl))
  rcases (ifC H).symm with ⟨c853, H⟩ | ⟨c853, H⟩
  · refine Good.reg hN [B false, B false, B false, B true] (.cons (bneF c850) (.cons (bneF c851) (.cons (Bool.eq_false_iff.2 c852) (.cons (bne_iff_ne.2 c853) .nil)))) [] (by kernel_rfl) ?_
    refine Good.cond true (by kernel_rfl) ?_
    refine Good.seq ?_
    refine Good.reg hN [] .nil [] (by kernel_rfl) ?_
    obtain rfl := Option.some.inj H
    exact Good.ret (fin.doneR (by kernel_rfl))
  obtain ⟨t854, h855, H⟩ := bindS H
  refine Good.reg hN [B false, B false, B false, B false, B t854] (.cons (bneF c850) (.cons (bneF c851) (.cons (Bool.eq_false_iff.2 c852) (.cons (bneF c853) (.cons (cp_Ints.con h855).c .nil))))) [] (by kernel_rfl) ?_
  rcases ifC H with ⟨c856, H⟩ | ⟨c856, H⟩
  · refine Good.condF (notF c856) (by kernel_rfl) ?_
    refine Good.skip ?_
    refine Good.reg hN [] .nil [] (by kernel_rfl) ?_
    exact ⟨k, by omega, x0, x1, wrap64 (x5 + 1), by omega, Wk.ofB hL 0 [(0, 0), (1, 0), (5, 0)] (by kernel_rfl) (by kernel_rfl) (by kernel_rfl), H⟩
  refine Good.condT (notT (Bool.eq_false_iff.2 c856)) (by kernel_rfl) ?_
  refine Good.seq ?_
  refine Good.reg hN [] .nil [] (by kernel_rfl) ?_
  obtain rfl := Option.some.inj H
  exact Good.ret (fin.doneR (by kernel_rfl))
def clavigerlaw19_TlvTells.l0 : Nat → List (Nat × Nat) → List Int → List Int → Int → Option (Bool)
 | 0, _, _, _, _ => none
 | k + 1, x7, x8, x9, x10 => if x10 < (x7.length : Int) then (if 0 ≤ x10 then (if x10 < (x8.length : Int) then (if x10 < (x9.length : Int) then ((span_Of.f (rd x8 x10) (rd x9 x10)).bind fun t877 => (if (feq (rdOf ((0, 0) : Nat × Nat) x7 x10).1 t877.1 && feq (rdOf ((0, 0) : Nat × Nat) x7 x10).2 t877.2) = true then (clavigerlaw19_TlvTells.l0 k x7 x8 x9 (wrap64 (x10 + 1))) else (some false))) else (none)) else (none)) else (none)) else ((clavigerlaw19_awake.f k).bind fun t880 => (some t880))
def clavigerlaw19_TlvTells.j0 : Nat → List (Nat × Nat) → List Int → List Int → Bool → Option (Bool)
 | 0, _, _, _, _ => none
 | k + 1, x7, x8, x9, x47 => if x47 = true then (some false) else (clavigerlaw19_TlvTells.l0 k x7 x8 x9 0)
def clavigerlaw19_TlvTells.f (k : Nat) (a0 : ByteArray) : Option (Bool) := if (a0.size : Int) > 2000 then ((clavigerlaw19_awake.f k).bind fun t858 => (some t858)) else ((tlv_Decode.f k a0).bind fun t860 => ((cr19_Decode.f k a0).bind fun t862 => ((tlv_Spans.f k a0).bind fun t864 => ((cr19_Spans.f k a0).bind fun t866 => ((cp_Same.f k t860.1 t862.1).bind fun t868 => (if t868 = true then (if ((t860.2.1 == t862.2.1) && (t860.2.2 == t862.2.2)) = true then (clavigerlaw19_TlvTells.j0 k t864 t866.1 t866.2 ((t864.length : Int) != (t866.1.length : Int))) else (clavigerlaw19_TlvTells.j0 k t864 t866.1 t866.2 true)) else (clavigerlaw19_TlvTells.j0 k t864 t866.1 t866.2 true)))))))
theorem clavigerlaw19_TlvTells.con {k : Nat} {a0 : ByteArray} {r : (Bool)} (H : clavigerlaw19_TlvTells.f k a0 = some r) : Con Tryd.prog 3 [S a0] (B r) := by
  refine con_of_good Tryd.func3 rfl (by kernel_rfl) (by kernel_rfl) fun C hN hL => ?_
  unfold clavigerlaw19_TlvTells.f at H
  refine Good.seq ?_
  refine Good.reg hN [] .nil [] (by kernel_rfl) ?_
  refine Good.seq ?_
  refine Good.seq ?_
  refine Good.reg hN [] .nil [] (by kernel_rfl) ?_
  rcases ifC H with ⟨c857, H⟩ | ⟨c857, H⟩
  · refine Good.condT (decide_eq_true c857) (by kernel_rfl) ?_
    refine Good.seq ?_
    obtain ⟨t858, h859, H⟩ := bindS H
    refine Good.reg hN [B t858] (.cons (clavigerlaw19_awake.con h859).c .nil) [] (by kernel_rfl) ?_
    obtain rfl := Option.some.inj H
    exact Good.ret (fin.doneR (by kernel_rfl))
  refine Good.condF (decide_eq_false c857) (by kernel_rfl) ?_
  refine Good.skip ?_
  refine Good.seq ?_
  obtain ⟨t860, h861, H⟩ := bindS H
  refine Good.reg hN [.tup [.row (some 40) 5 (List.map (v40 1) t860.1), .agg [I t860.2.1, I t860.2.2]]] (.cons (tlv_Decode.con h861).c .nil) [] (by kernel_rfl) ?_
  refine Good.seq ?_
  obtain ⟨t862, h863, H⟩ := bindS H
  refine Good.reg hN [.tup [.row none 5 (List.map (v40 0) t862.1), .agg [I t862.2.1, I t862.2.2]]] (.cons (cr19_Decode.con h863).c .nil) [] (by kernel_rfl) ?_
  refine Good.seq ?_
  obtain ⟨t864, h865, H⟩ := bindS H
  refine Good.reg hN [.row (some 36) 1 (List.map Cx t864)] (.cons (tlv_Spans.con h865).c .nil) [] (by kernel_rfl) ?_
  refine Good.seq ?_
  obtain ⟨t866, h867, H⟩ := bindS H
  refine Good.reg hN [.tup [.row none 1 (List.map I t866.1), .row none 1 (List.map I t866.2)]] (.cons (cr19_Spans.con h867).c .nil) [] (by kernel_rfl) ?_
  refine Good.seq ?_
  refine Good.seq ?_
  refine Good.cut (fun st => ∃ (x7 : List (Nat × Nat)) (x8 : List Int) (x9 : List Int) (x47 : Bool) (x1000 : Int) (x1001 : Int) (x2000 : Int) (x2001 : Int), Wk C st ⟨[(7, .d (.v (.row (some 36) 1 (List.map Cx x7)))), (8, .d (.v (.row none 1 (List.map I x8)))), (9, .d (.v (.row none 1 (List.map I x9)))), (47, .d (.v (B x47)))], [.cells [.v (I x1000), .v (I x1001)], .cells [.v (I x2000), .v (I x2001)]]⟩ ∧ clavigerlaw19_TlvTells.j0 k x7 x8 x9 x47 = some r) ?_ ?_
  · obtain ⟨t868, h869, H⟩ := bindS H
    rcases (ifC H).symm with ⟨c870, H⟩ | ⟨c870, H⟩
    · refine Good.reg hN [.row none 5 (List.map (v40 0) t860.1), B t868, B true, B true] (.cons (shrM (some 40) 5 (v40 1) (v40 0) t860.1 (v40.shr _)) (.cons (cp_Same.con h869).c (.cons (notT (Bool.eq_false_iff.2 c870)) (.cons (rfl : true = true) .nil)))) [] (by kernel_rfl) ?_
      exact ⟨t864, t866.1, t866.2, true, t860.2.1, t860.2.2, t862.2.1, t862.2.2, Wk.of [(7, 0), (8, 0), (9, 0), (47, 0)] (by kernel_rfl) (by kernel_rfl), H⟩
    rcases ifC H with ⟨c871, H⟩ | ⟨c871, H⟩
    · refine Good.reg hN [.row none 5 (List.map (v40 0) t860.1), B t868, B false, B false, I (t864.length : Int), I (t866.1.length : Int)] (.cons (shrM (some 40) 5 (v40 1) (v40 0) t860.1 (v40.shr _)) (.cons (cp_Same.con h869).c (.cons (notF c870) (.cons (notF c871) (.cons (lenM Cx t864) (.cons (lenM I t866.1) .nil)))))) [] (by kernel_rfl) ?_
      exact ⟨t864, t866.1, t866.2, ((t864.length : Int) != (t866.1.length : Int)), t860.2.1, t860.2.2, t862.2.1, t862.2.2, Wk.of [(7, 0), (8, 0), (9, 0), (47, 0)] (by kernel_rfl) (by kernel_rfl), H⟩
    refine Good.reg hN [.row none 5 (List.map (v40 0) t860.1), B t868, B false, B true] (.cons (shrM (some 40) 5 (v40 1) (v40 0) t860.1 (v40.shr _)) (.cons (cp_Same.con h869).c (.cons (notF c870) (.cons (notT (Bool.eq_false_iff.2 c871)) .nil)))) [] (by kernel_rfl) ?_
    exact ⟨t864, t866.1, t866.2, true, t860.2.1, t860.2.2, t862.2.1, t862.2.2, Wk.of [(7, 0), (8, 0), (9, 0), (47, 0)] (by kernel_rfl) (by kernel_rfl), H⟩
  clear H
  rintro st ⟨x7, x8, x9, x47, x1000, x1001, x2000, x2001, W, H⟩
  rcases k with _ | k
  · cases H
  refine W.good ?_
  rw [clavigerlaw19_TlvTells.j0] at H
  rcases ifC H with ⟨c872, H⟩ | ⟨c872, H⟩
  · refine Good.condT c872 (by kernel_rfl) ?_
    refine Good.seq ?_
    refine Good.reg hN [] .nil [] (by kernel_rfl) ?_
    obtain rfl := Option.some.inj H
    exact Good.ret (fin.doneR (by kernel_rfl))
  refine Good.condF (Bool.eq_false_iff.2 c872) (by kernel_rfl) ?_
  refine Good.skip ?_
  refine Good.seq ?_
  refine Good.seq ?_
  refine Good.reg hN [] .nil [] (by kernel_rfl) ?_
  refine Good.block ?_
  refine Good.loopN (fun k' st => ∃ (x7 : List (Nat × Nat)) (x8 : List Int) (x9 : List Int) (x10 : Int) (x1000 : Int) (x1001 : Int) (x2000 : Int) (x2001 : Int), k' ≤ k ∧ Wk C st ⟨[(7, .d (.v (.row (some 36) 1 (List.map Cx x7)))), (8, .d (.v (.row none 1 (List.map I x8)))), (9, .d (.v (.row none 1 (List.map I x9)))), (10, .d (.v (I x10)))], [.cells [.v (I x1000), .v (I x1001)], .cells [.v (I x2000), .v (I x2001)]]⟩ ∧ clavigerlaw19_TlvTells.l0 k' x7 x8 x9 x10 = some r) k ⟨x7, x8, x9, 0, x1000, x1001, x2000, x2001, Nat.le_refl _, Wk.of [(7, 0), (8, 0), (9, 0), (10, 0)] (by kernel_rfl) (by kernel_rfl), H⟩ fun k => ⟨fun st h => (by obtain ⟨_, _, _, _, _, _, _, _, _, _, H⟩ := h; cases H), ?_⟩
  clear H
  rintro st ⟨x7, x8, x9, x10, x1000, x1001, x2000, x2001, hk, W, H⟩
  refine W.good ?_
  rw [clavigerlaw19_TlvTells.l0] at H
  refine Good.seq ?_
  refine Good.seq ?_
  refine Good.reg hN [I (x7.length : Int)] (.cons (lenM Cx x7) .nil) [] (by kernel_rfl) ?_
  rcases (ifC H).symm with ⟨c873, H⟩ | ⟨c873, H⟩
  · refine Good.condF (decide_eq_false c873) (by kernel_rfl) ?_
    refine Good.exit ?_
    refine Good.seq ?_
    obtain ⟨t880, h881, H⟩ := bindS H
    refine Good.reg hN [B t880] (.cons (clavigerlaw19_awake.con h881).c .nil) [] (by kernel_rfl) ?_
    obtain rfl := Option.some.inj H
    exact Good.ret (fin.doneR (by kernel_rfl))
  refine Good.condT (decide_eq_true c873) (by kernel_rfl) ?_
  refine Good.skip ?_
  refine Good.seq ?_
  refine Good.block ?_
  refine Good.seq ?_
  obtain ⟨c874, H⟩ := ifS H
  obtain ⟨c875, H⟩ := ifS H
  obtain ⟨c876, H⟩ := ifS H
  obtain ⟨t877, h878, H⟩ := bindS H
  refine Good.regDF hm hN (.q 0 [] (.q 1 [] (.q 2 [] (.q 3 [] (.q 4 [] (.q 5 [] (.q 6 [] (.q 7 [] (.q 8 [] (.q 9 [] (.q 10 [] (.q 11 [] (.e 12 (.q 13 [] .z)))))))))))))) [(7, some (.row none 1 (List.map Cx x7))), (8, none), (9, none), (10, none)] (by kernel_rfl) (.cons (shrM (some 36) 1 Cx Cx x7 (fun _ => rfl)) .nil) [Cx (rdOf ((0, 0) : Nat × Nat) x7 x10), I (rd x8 x10), I (rd x9 x10), Cx t877] [Cx (rdOf ((0, 0) : Nat × Nat) x7 x10), I (rd x8 x10), I (rd x9 x10)] (.cons c874 (.cons (ltM Cx c873) (.cons (atM Cx ((0, 0) : Nat × Nat) c874 c873) (.cons c874 (.cons (atM I (0 : Int) c874 c875) (.cons c874 (.cons (atM I (0 : Int) c874 c876) (.cons (span_Of.con h878).c .nil)))))))) (.cons c874 (.cons (atM Cx ((0, 0) : Nat × Nat) c874 c873) (.cons c874 (.cons (atM I (0 : Int) c874 c875) (.cons c874 (.cons (atM I (0 : Int) c874 c876) .nil)))))) [] [] (by kernel_rfl) (by kernel_rfl) ?_
  rcases ifC H with ⟨c879, H⟩ | ⟨c879, H⟩
  · refine Good.condF (notF c879) (by kernel_rfl) ?_
    refine Good.skip ?_
    refine Good.reg hN [] .nil [] (by kernel_rfl) ?_
    exact ⟨k, by omega, x7, x8, x9, wrap64 (x10 + 1), x1000, x1001, x2000, x2001, by omega, Wk.of [(7, 0), (8, 0), (9, 0), (10, 0)] (by kernel_rfl) (by kernel_rfl), H⟩
  refine Good.condT (notT (Bool.eq_false_iff.2 c879)) (by kernel_rfl) ?_
  refine Good.seq ?_
  refine Good.reg hN [] .nil [] (by kernel_rfl) ?_
  obtain rfl := Option.some.inj H
  exact Good.ret (fin.doneR (by kernel_rfl))
end Go.Rf.T
