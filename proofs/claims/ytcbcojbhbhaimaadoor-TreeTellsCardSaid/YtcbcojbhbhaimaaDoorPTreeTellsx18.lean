import Derived.Test.YtcbcojbhbhaimaaDoorPTreeTellsx0
import Derived.Test.YtcbcojbhbhaimaaDoorPTreeTellsx16
import Derived.Test.YtcbcojbhbhaimaaDoorPTreeTellsx17
namespace Go.Proofs.YtcbcojbhbhaimaaDoor.PTreeTells
open Go.RowKit Go.Proofs.YtcbcojbhbhaimaaDoorW.PrintWords Go.Proofs.YtcbcojbhbhaimaaDoorW.PrintLast Go.Proofs.YtcbcojbhbhaimaaDoorW.PrintMore
attribute [local go_sem high] c_add c_eql c_neq
attribute [local go_sem] f_store_c f_store_f f_add f_toint f_fold_eq f_fold_ne f_fold_lt f_fold_gt f_fold_le f_fold_ge
attribute [local go_sem] str_leq str_gtr str_geq max2_int min2_int max_two min_two max_three min_three max_four min_four   -- for this text's walks alone
set_option linter.unusedVariables false
set_option linter.unusedSimpArgs false

/-! ### cr20_bytes: function 27 -/
mutual
def cr20_bytes.l0 : Nat → List (S41) → Int → ByteArray → Int → Option (ByteArray × Bool)
 | 0, _, _, _, _ => none
 | k + 1, x0, x1, x6, x7 => if 0 ≤ x1 then (if x1 < (x0.length : Int) then (if x7 < (((rd_T41 x0 x1).f4).length : Int) then (if 0 ≤ x7 then ((cr20_bytes.f k x0 (rd ((rd_T41 x0 x1).f4) x7)).bind fun bt407 => (if x6.size + bt407.1.size ≤ 9223372036854775807 then (if bt407.2 = true then (if ((x6 ++ bt407.1).size : Int) > 65535 then (some ((⟨#[]⟩ : ByteArray), false)) else (cr20_bytes.l0 k x0 x1 (x6 ++ bt407.1) (wrap64 (x7 + 1)))) else (some ((⟨#[]⟩ : ByteArray), false))) else (none))) else (none)) else ((cr15_Encode.f k ((rd_T41 x0 x1).f0) ((rd_T41 x0 x1).f1) ((rd_T41 x0 x1).f2) (x6.size : Int)).bind fun bt412 => (if bt412.1.size + x6.size ≤ 9223372036854775807 then (if bt412.2 = 0 then (some (bt412.1 ++ x6, decide ((wrap64 ((bt412.1.size : Int) + (x6.size : Int))) ≤ 65535))) else (some (bt412.1 ++ x6, false))) else (none)))) else (none)) else (none)
def cr20_bytes.f : Nat → List (S41) → Int → Option (ByteArray × Bool)
 | 0, _, _ => none
 | k + 1, l0, a1 => if 0 ≤ a1 then (if a1 < (l0.length : Int) then (cr20_bytes.l0 k l0 a1 ((rd_T41 l0 a1).f3) 0) else (none)) else (none)
end
theorem cr20_bytes.mono_l : ∀ k, (∀ y0 y1, LeO (cr20_bytes.f k y0 y1) (cr20_bytes.f (k + 1) y0 y1)) ∧ (∀ y0 y1 y2 y3, LeO (cr20_bytes.l0 k y0 y1 y2 y3) (cr20_bytes.l0 (k + 1) y0 y1 y2 y3))
 | 0 => ⟨fun _ _ r h => by simp [cr20_bytes.f] at h, fun _ _ _ _ r h => by simp [cr20_bytes.l0] at h⟩
 | k + 1 => by
  obtain ⟨ih0, ih1⟩ := cr20_bytes.mono_l k
  refine ⟨?_, ?_⟩ <;> intros <;> first | unfold cr20_bytes.f | unfold cr20_bytes.l0
  all_goals repeat' first
  | (with_reducible first | exact ih0 _ _ | exact ih1 _ _ _ _ | exact cr15_Encode.mono _ _ _ _ _ | exact LeO.refl _ | exact LeO.none _ | refine LeO.ite ?_ ?_ | refine LeO.bind ?_ (fun _ => ?_))
  | exact ih0 _ _
  | exact ih1 _ _ _ _
  | exact cr15_Encode.mono _ _ _ _ _
  | exact LeO.none _
  | refine LeO.ite ?_ ?_
  | refine LeO.bind ?_ (fun _ => ?_)
theorem cr20_bytes.mono : ∀ a0 a1 k, LeO (cr20_bytes.f k a0 a1) (cr20_bytes.f (k + 1) a0 a1) := by
 intro a0 a1 k
 obtain ⟨ih0, ih1⟩ := cr20_bytes.mono_l k
 exact ih0 a0 a1
def cr20_bytes.T9 : Bool × List (List Nat × List Nat) := (true, [([], []), ([], []), ([0, 1], [0, 1]), ([2], [2]), ([3], [3]), ([], []), ([], []), ([5, 6], [5, 6]), ([7], [7]), ([8], [8]), ([], []), ([], []), ([10, 11], [10, 11]), ([12], [12]), ([13], [13]), ([], []), ([15], [15]), ([4, 9, 14, 16], [4, 9, 14, 16]), ([17], [17]), ([18], [18]), ([19], [19]), ([19], [19]), ([20, 18, 0, 1, 2, 3, 4, 5, 6, 7, 8, 9, 10, 11, 12, 13, 14, 15, 16, 17, 18, 19, 20], [20]), ([21, 22, 0, 1, 2, 3, 4, 5, 6, 7, 8, 9, 10, 11, 12, 13, 14, 15, 16, 17, 18, 19, 20, 21, 22], [21])])
def cr20_bytes.B9 : List Nat := [0, 0, 3, 7, 15, 0, 0, 96, 224, 480, 0, 0, 3072, 7168, 15360, 0, 32768, 131071, 262143, 524287, 1048575, 1048575, 2097151, 8388607]
theorem cr20_bytes.tab9 : rtab .any (opsOf Tryd.f27 9) = cr20_bytes.T9 := by kernel_rfl
theorem cr20_bytes.bits9 : waitsOk cr20_bytes.T9.2 cr20_bytes.B9 = true := by kernel_rfl
set_option maxHeartbeats 8000000 in
set_option maxRecDepth 100000 in
theorem cr20_bytes.calls (k : Nat) : ∀ (A0 : Option Addr) (c0 : Nat) (l0 : List (S41)) (a1 : Int) (r1 : ByteArray) (r2 : Bool) (w : World) (hr0 : Kd.C k41 w A0 l0.length l0) (hc0 : l0.length ≤ c0) (h : cr20_bytes.f k l0 a1 = some (r1, r2)),
 Calls Tryd.prog 27 #[.slice A0 l0.length c0, .int .i64 a1] w fun e w' => e = .returned (.tuple #[.string r1, .bool r2]) ∧ Below w.heap.size w w' := by
 induction k using Nat.strongRecOn with
 | _ k ih =>
 intro A0 c0 l0 a1 r1 r2 w hr0 hc0 h
 cases k with
 | zero => exact absurd h (by simp [cr20_bytes.f])
 | succ k =>
 simp only [cr20_bytes.f] at h
 have hu70 := Tryd.underlying70
 have HR0 := Aside0.mk hr0
 have HC0 := Aside0.mk hc0
 clear hr0 hc0
 have HB := Aside0.mk (Below.refl w.heap.size w)
 have H : (if 0 ≤ a1 then (if a1 < (l0.length : Int) then (cr20_bytes.l0 k l0 a1 ((rd_T41 l0 a1).f3) 0) else (none)) else (none)) = some (r1, r2) := h
 clear h
 by_cases c3 : 0 ≤ a1
 case neg =>
  rw [if_neg c3] at H
  exact absurd H (by simp)
 rw [if_pos c3] at H
 have c3b0 : decide (0 ≤ a1) = true := decide_eq_true c3
 clear c3
 by_cases c4 : a1 < (l0.length : Int)
 case neg =>
  rw [if_neg c4] at H
  exact absurd H (by simp)
 rw [if_pos c4] at H
 have c4b0 : decide (a1 < (l0.length : Int)) = true := decide_eq_true c4
 clear c4
 have H' := Aside0.mk H
 clear H
 have p403 : 0 ≤ (a1 : Int) := odt
 have q403 : a1 < (l0.length : Int) := odt
 obtain ⟨ad403, A403_4, c403_4, e403, hx403_0, hx403_1, hx403_2, hx403_3, hx403_4, hl403_4, hi403_4⟩ := at_T41 HR0.out a1 p403 q403
 cases e403
 have HR403_4 := Aside0.mk hi403_4
 have HC403_4 := Aside0.mk hl403_4
 clear hi403_4 hl403_4
 replace p403 := eq_true p403
 replace q403 := eq_true q403
 go_enter Tryd.func27, Tryd.ntmps27
 go_wp2
 go_loopg [6, 7] k (fun kq v6 v7 w' => ∃ (x6_1 : ByteArray) (x7_1 : Int), v6 = .string x6_1 ∧ v7 = .int .i64 x7_1 ∧ Aside0 (cr20_bytes.l0 kq l0 a1 x6_1 x7_1 = some (r1, r2)) ∧ Aside0 (kq ≤ k) ∧ Aside0 (Below w.heap.size w w'))
 case atStart => exact ⟨((rd_T41 l0 a1).f3), (0), rsd, rsd, H', ⟨Nat.le_refl _⟩, ⟨blw⟩⟩
 case round =>
  clear H'
  try clear c3
  try clear c3b0
  try clear c4
  try clear c4b0
  try clear hx403_0
  try clear hx403_1
  try clear hx403_2
  try clear hx403_3
  try clear hx403_4
  try clear p403
  try clear q403
  obtain ⟨x6_1, x7_1, rfl, rfl, HA, HK1, HB⟩ := hrel
  cases gk with
  | zero => exact absurd HA.out (by simp [cr20_bytes.l0])
  | succ k1 =>
   have H := HA.out
   clear HA
   simp only [cr20_bytes.l0] at H
   by_cases c5 : 0 ≤ a1
   case neg =>
    rw [if_neg c5] at H
    exact absurd H (by simp)
   rw [if_pos c5] at H
   have c5b0 : decide (0 ≤ a1) = true := decide_eq_true c5
   clear c5
   by_cases c6 : a1 < (l0.length : Int)
   case neg =>
    rw [if_neg c6] at H
    exact absurd H (by simp)
   rw [if_pos c6] at H
   have c6b0 : decide (a1 < (l0.length : Int)) = true := decide_eq_true c6
   clear c6
   by_cases c7 : x7_1 < (((rd_T41 l0 a1).f4).length : Int)
   case pos =>
    rw [if_pos c7] at H
    have c7b0 : decide (x7_1 < (((rd_T41 l0 a1).f4).length : Int)) = true := decide_eq_true c7
    clear c7
    by_cases c8 : 0 ≤ x7_1
    case neg =>
     rw [if_neg c8] at H
     exact absurd H (by simp)
    rw [if_pos c8] at H
    have c8b0 : decide (0 ≤ x7_1) = true := decide_eq_true c8
    clear c8
    replace H := Option.bind_eq_some_iff.mp H
    obtain ⟨⟨t407, t408⟩, A90, H⟩ := H
    replace H : (if x6_1.size + t407.size ≤ 9223372036854775807 then (if t408 = true then (if ((x6_1 ++ t407).size : Int) > 65535 then (some ((⟨#[]⟩ : ByteArray), false)) else (cr20_bytes.l0 k1 l0 a1 (x6_1 ++ t407) (wrap64 (x7_1 + 1)))) else (some ((⟨#[]⟩ : ByteArray), false))) else (none)) = some (r1, r2) := H
    have A9 := Aside0.mk A90
    clear A90
    by_cases c10 : x6_1.size + t407.size ≤ 9223372036854775807
    case neg =>
     rw [if_neg c10] at H
     exact absurd H (by simp)
    rw [if_pos c10] at H
    have c10b0 := eq_true c10
    have c10b1 : decide (x6_1.size + t407.size ≤ 9223372036854775807) = true := decide_eq_true c10
    try have c10b2 : (9223372036854775807 < x6_1.size + t407.size) = False := eq_false (Nat.not_lt.2 c10)
    by_cases c11 : t408 = true
    case neg =>
     replace c11 := Bool.eq_false_iff.mpr c11
     subst c11
     have H1 : (some ((⟨#[]⟩ : ByteArray), false)) = some (r1, r2) := by rw [if_neg (show ¬ (false = true) by decide)] at H; exact H
     clear H
     have H := H1
     clear H1
     simp only [Option.some.injEq, Prod.mk.injEq] at H
     obtain ⟨rfl, rfl⟩ := H
     have p404 : 0 ≤ (a1 : Int) := odt
     have q404 : a1 < (l0.length : Int) := odt
     obtain ⟨ad404, A404_4, c404_4, e404, hx404_0, hx404_1, hx404_2, hx404_3, hx404_4, hl404_4, hi404_4⟩ := at_T41 HR0.out a1 p404 q404
     obtain rfl : ad403 = ad404 := (by injection e404)
     replace hx404_0 := cellB hx404_0
     replace hx404_1 := cellB hx404_1
     replace hx404_2 := cellB hx404_2
     replace hx404_3 := cellB hx404_3
     replace hx404_4 := cellB hx404_4
     have HR404_4 := Aside0.mk hi404_4
     have HC404_4 := Aside0.mk hl404_4
     clear hi404_4 hl404_4
     replace p404 := eq_true p404
     replace q404 := eq_true q404
     have p405 : 0 ≤ (a1 : Int) := odt
     have q405 : a1 < (l0.length : Int) := odt
     obtain ⟨ad405, A405_4, c405_4, e405, hx405_0, hx405_1, hx405_2, hx405_3, hx405_4, hl405_4, hi405_4⟩ := at_T41 HR0.out a1 p405 q405
     obtain rfl : ad403 = ad405 := (by injection e405)
     replace hx405_0 := cellB hx405_0
     replace hx405_1 := cellB hx405_1
     replace hx405_2 := cellB hx405_2
     replace hx405_3 := cellB hx405_3
     replace hx405_4 := cellB hx405_4
     have HR405_4 := Aside0.mk hi405_4
     have HC405_4 := Aside0.mk hl405_4
     clear hi405_4 hl405_4
     replace p405 := eq_true p405
     replace q405 := eq_true q405
     have ea_ := Option.some.inj (hx404_4.symm.trans hx405_4)
     injection ea_ with ea_ en_ ec_
     subst ea_
     subst ec_
     clear en_
     have p406 : 0 ≤ (x7_1 : Int) := odt
     have q406 : x7_1 < (((rd_T41 l0 a1).f4).length : Int) := odt
     obtain ⟨ad406, e406, hx406_0⟩ := Kd.at_int HR405_4.out x7_1 p406 q406
     cases e406
     replace hx406_0 := cellB hx406_0
     replace p406 := eq_true p406
     replace q406 := eq_true q406
     go_wp2_with (first | ((with_reducible refine gate_callee (f := 27) rfl ?_); refine goesL_ (some 37) rfl rfl Tryd.func27 (by kernel_rfl) rfl #[.slice (some ad403) l0.length c0, .int .i64 (rd ((rd_T41 l0 a1).f4) x7_1)] rfl gargs ?_; (with_reducible refine (ih k1 (by have := HK1.out; omega) _ _ l0 (rd ((rd_T41 l0 a1).f4) x7_1) t407 false _ ?side1 ?side2 A9.out).mono ?_); (case side1 => exact kcW (Kd.C_below HR0.out HB.out)); (case side2 => exact HC0.out); rintro e w15 ⟨rfl, hb⟩; refine ⟨_, rfl, ?_⟩; replace HB := Aside0.mk (below_step blw hb); (try clear hb); (try clear hb2); (try clear hk); (try clear hi)))
     go_ret2
     exact ⟨rse, blw⟩
    subst c11
    have H1 : (if ((x6_1 ++ t407).size : Int) > 65535 then (some ((⟨#[]⟩ : ByteArray), false)) else (cr20_bytes.l0 k1 l0 a1 (x6_1 ++ t407) (wrap64 (x7_1 + 1)))) = some (r1, r2) := by rw [if_pos rfl] at H; exact H
    clear H
    have H := H1
    clear H1
    by_cases c12 : ((x6_1 ++ t407).size : Int) > 65535
    case pos =>
     rw [if_pos c12] at H
     have c12b0 : decide (65535 < ((x6_1 ++ t407).size : Int)) = true := decide_eq_true c12
     have c12b0s := c12b0
     try (simp only [ByteArray.size_append', ByteArray.size_extract, Int.natCast_add] at c12b0s)
     have c12b1 : decide (65535 < (x6_1 ++ t407).size) = true := decide_eq_true (by omega)
     have c12b1s := c12b1
     try (simp only [ByteArray.size_append', ByteArray.size_extract, Int.natCast_add] at c12b1s)
     clear c12
     simp only [Option.some.injEq, Prod.mk.injEq] at H
     obtain ⟨rfl, rfl⟩ := H
     have p404 : 0 ≤ (a1 : Int) := odt
     have q404 : a1 < (l0.length : Int) := odt
     obtain ⟨ad404, A404_4, c404_4, e404, hx404_0, hx404_1, hx404_2, hx404_3, hx404_4, hl404_4, hi404_4⟩ := at_T41 HR0.out a1 p404 q404
     obtain rfl : ad403 = ad404 := (by injection e404)
     replace hx404_0 := cellB hx404_0
     replace hx404_1 := cellB hx404_1
     replace hx404_2 := cellB hx404_2
     replace hx404_3 := cellB hx404_3
     replace hx404_4 := cellB hx404_4
     have HR404_4 := Aside0.mk hi404_4
     have HC404_4 := Aside0.mk hl404_4
     clear hi404_4 hl404_4
     replace p404 := eq_true p404
     replace q404 := eq_true q404
     have p405 : 0 ≤ (a1 : Int) := odt
     have q405 : a1 < (l0.length : Int) := odt
     obtain ⟨ad405, A405_4, c405_4, e405, hx405_0, hx405_1, hx405_2, hx405_3, hx405_4, hl405_4, hi405_4⟩ := at_T41 HR0.out a1 p405 q405
     obtain rfl : ad403 = ad405 := (by injection e405)
     replace hx405_0 := cellB hx405_0
     replace hx405_1 := cellB hx405_1
     replace hx405_2 := cellB hx405_2
     replace hx405_3 := cellB hx405_3
     replace hx405_4 := cellB hx405_4
     have HR405_4 := Aside0.mk hi405_4
     have HC405_4 := Aside0.mk hl405_4
     clear hi405_4 hl405_4
     replace p405 := eq_true p405
     replace q405 := eq_true q405
     have ea_ := Option.some.inj (hx404_4.symm.trans hx405_4)
     injection ea_ with ea_ en_ ec_
     subst ea_
     subst ec_
     clear en_
     have p406 : 0 ≤ (x7_1 : Int) := odt
     have q406 : x7_1 < (((rd_T41 l0 a1).f4).length : Int) := odt
     obtain ⟨ad406, e406, hx406_0⟩ := Kd.at_int HR405_4.out x7_1 p406 q406
     cases e406
     replace hx406_0 := cellB hx406_0
     replace p406 := eq_true p406
     replace q406 := eq_true q406
     go_wp2_with (first | ((with_reducible refine gate_callee (f := 27) rfl ?_); refine goesL_ (some 37) rfl rfl Tryd.func27 (by kernel_rfl) rfl #[.slice (some ad403) l0.length c0, .int .i64 (rd ((rd_T41 l0 a1).f4) x7_1)] rfl gargs ?_; (with_reducible refine (ih k1 (by have := HK1.out; omega) _ _ l0 (rd ((rd_T41 l0 a1).f4) x7_1) t407 true _ ?side1 ?side2 A9.out).mono ?_); (case side1 => exact kcW (Kd.C_below HR0.out HB.out)); (case side2 => exact HC0.out); rintro e w13 ⟨rfl, hb⟩; refine ⟨_, rfl, ?_⟩; replace HB := Aside0.mk (below_step blw hb); (try clear hb); (try clear hb2); (try clear hk); (try clear hi)))
     go_ret2
     exact ⟨rse, blw⟩
    rw [if_neg c12] at H
    have c12b0 : decide (65535 < ((x6_1 ++ t407).size : Int)) = false := decide_eq_false c12
    have c12b0s := c12b0
    try (simp only [ByteArray.size_append', ByteArray.size_extract, Int.natCast_add] at c12b0s)
    have c12b1 : decide (65535 < (x6_1 ++ t407).size) = false := decide_eq_false (by omega)
    have c12b1s := c12b1
    try (simp only [ByteArray.size_append', ByteArray.size_extract, Int.natCast_add] at c12b1s)
    clear c12
    have H' := Aside0.mk H
    clear H
    have p404 : 0 ≤ (a1 : Int) := odt
    have q404 : a1 < (l0.length : Int) := odt
    obtain ⟨ad404, A404_4, c404_4, e404, hx404_0, hx404_1, hx404_2, hx404_3, hx404_4, hl404_4, hi404_4⟩ := at_T41 HR0.out a1 p404 q404
    obtain rfl : ad403 = ad404 := (by injection e404)
    replace hx404_0 := cellB hx404_0
    replace hx404_1 := cellB hx404_1
    replace hx404_2 := cellB hx404_2
    replace hx404_3 := cellB hx404_3
    replace hx404_4 := cellB hx404_4
    have HR404_4 := Aside0.mk hi404_4
    have HC404_4 := Aside0.mk hl404_4
    clear hi404_4 hl404_4
    replace p404 := eq_true p404
    replace q404 := eq_true q404
    have p405 : 0 ≤ (a1 : Int) := odt
    have q405 : a1 < (l0.length : Int) := odt
    obtain ⟨ad405, A405_4, c405_4, e405, hx405_0, hx405_1, hx405_2, hx405_3, hx405_4, hl405_4, hi405_4⟩ := at_T41 HR0.out a1 p405 q405
    obtain rfl : ad403 = ad405 := (by injection e405)
    replace hx405_0 := cellB hx405_0
    replace hx405_1 := cellB hx405_1
    replace hx405_2 := cellB hx405_2
    replace hx405_3 := cellB hx405_3
    replace hx405_4 := cellB hx405_4
    have HR405_4 := Aside0.mk hi405_4
    have HC405_4 := Aside0.mk hl405_4
    clear hi405_4 hl405_4
    replace p405 := eq_true p405
    replace q405 := eq_true q405
    have ea_ := Option.some.inj (hx404_4.symm.trans hx405_4)
    injection ea_ with ea_ en_ ec_
    subst ea_
    subst ec_
    clear en_
    have p406 : 0 ≤ (x7_1 : Int) := odt
    have q406 : x7_1 < (((rd_T41 l0 a1).f4).length : Int) := odt
    obtain ⟨ad406, e406, hx406_0⟩ := Kd.at_int HR405_4.out x7_1 p406 q406
    cases e406
    replace hx406_0 := cellB hx406_0
    replace p406 := eq_true p406
    replace q406 := eq_true q406
    go_wp2_with (first | ((with_reducible refine gate_callee (f := 27) rfl ?_); refine goesL_ (some 37) rfl rfl Tryd.func27 (by kernel_rfl) rfl #[.slice (some ad403) l0.length c0, .int .i64 (rd ((rd_T41 l0 a1).f4) x7_1)] rfl gargs ?_; (with_reducible refine (ih k1 (by have := HK1.out; omega) _ _ l0 (rd ((rd_T41 l0 a1).f4) x7_1) t407 true _ ?side1 ?side2 A9.out).mono ?_); (case side1 => exact kcW (Kd.C_below HR0.out HB.out)); (case side2 => exact HC0.out); rintro e w14 ⟨rfl, hb⟩; refine ⟨_, rfl, ?_⟩; replace HB := Aside0.mk (below_step blw hb); (try clear hb); (try clear hb2); (try clear hk); (try clear hi)))
    go_roundg k1
    case measure => have := HK1.out; omega
    case rel => exact ⟨(x6_1 ++ t407), (wrap64 (x7_1 + 1)), rsd, rsd, H', ⟨by have := HK1.out; omega⟩, ⟨blw⟩⟩
   rw [if_neg c7] at H
   have c7b0 : decide (x7_1 < (((rd_T41 l0 a1).f4).length : Int)) = false := decide_eq_false c7
   clear c7
   replace H := Option.bind_eq_some_iff.mp H
   obtain ⟨⟨t412, t413⟩, A160, H⟩ := H
   replace H : (if t412.size + x6_1.size ≤ 9223372036854775807 then (if t413 = 0 then (some (t412 ++ x6_1, decide ((wrap64 ((t412.size : Int) + (x6_1.size : Int))) ≤ 65535))) else (some (t412 ++ x6_1, false))) else (none)) = some (r1, r2) := H
   have A16 := Aside0.mk A160
   clear A160
   by_cases c17 : t412.size + x6_1.size ≤ 9223372036854775807
   case neg =>
    rw [if_neg c17] at H
    exact absurd H (by simp)
   rw [if_pos c17] at H
   have c17b0 := eq_true c17
   have c17b1 : decide (t412.size + x6_1.size ≤ 9223372036854775807) = true := decide_eq_true c17
   try have c17b2 : (9223372036854775807 < t412.size + x6_1.size) = False := eq_false (Nat.not_lt.2 c17)
   have p404 : 0 ≤ (a1 : Int) := odt
   have q404 : a1 < (l0.length : Int) := odt
   obtain ⟨ad404, A404_4, c404_4, e404, hx404_0, hx404_1, hx404_2, hx404_3, hx404_4, hl404_4, hi404_4⟩ := at_T41 HR0.out a1 p404 q404
   obtain rfl : ad403 = ad404 := (by injection e404)
   replace hx404_0 := cellB hx404_0
   replace hx404_1 := cellB hx404_1
   replace hx404_2 := cellB hx404_2
   replace hx404_3 := cellB hx404_3
   replace hx404_4 := cellB hx404_4
   have HR404_4 := Aside0.mk hi404_4
   have HC404_4 := Aside0.mk hl404_4
   clear hi404_4 hl404_4
   replace p404 := eq_true p404
   replace q404 := eq_true q404
   try go_wp2
   have n0_ := Aside0.mk (below_drew1 HB.out)
   clear HB
   have HB := n0_
   clear n0_
   have p409 : 0 ≤ (a1 : Int) := odt
   have q409 : a1 < (l0.length : Int) := odt
   obtain ⟨ad409, A409_4, c409_4, e409, hx409_0, hx409_1, hx409_2, hx409_3, hx409_4, hl409_4, hi409_4⟩ := at_T41 HR0.out a1 p409 q409
   have hw409_4 := hx409_4
   have hw409_3 := hx409_3
   have hw409_2 := hx409_2
   have hw409_1 := hx409_1
   have hw409_0 := hx409_0
   obtain rfl : ad403 = ad409 := (by injection e409)
   replace hx409_0 := cellB hx409_0
   replace hx409_1 := cellB hx409_1
   replace hx409_2 := cellB hx409_2
   replace hx409_3 := cellB hx409_3
   replace hx409_4 := cellB hx409_4
   have HR409_4 := Aside0.mk hi409_4
   have HC409_4 := Aside0.mk hl409_4
   clear hi409_4 hl409_4
   replace p409 := eq_true p409
   replace q409 := eq_true q409
   have p410 : 0 ≤ (a1 : Int) := odt
   have q410 : a1 < (l0.length : Int) := odt
   obtain ⟨ad410, A410_4, c410_4, e410, hx410_0, hx410_1, hx410_2, hx410_3, hx410_4, hl410_4, hi410_4⟩ := at_T41 HR0.out a1 p410 q410
   have hw410_4 := hx410_4
   have hw410_3 := hx410_3
   have hw410_2 := hx410_2
   have hw410_1 := hx410_1
   have hw410_0 := hx410_0
   obtain rfl : ad403 = ad410 := (by injection e410)
   replace hx410_0 := cellB hx410_0
   replace hx410_1 := cellB hx410_1
   replace hx410_2 := cellB hx410_2
   replace hx410_3 := cellB hx410_3
   replace hx410_4 := cellB hx410_4
   have HR410_4 := Aside0.mk hi410_4
   have HC410_4 := Aside0.mk hl410_4
   clear hi410_4 hl410_4
   replace p410 := eq_true p410
   replace q410 := eq_true q410
   have ea_ := Option.some.inj (hx409_4.symm.trans hx410_4)
   injection ea_ with ea_ en_ ec_
   subst ea_
   subst ec_
   clear en_
   have p411 : 0 ≤ (a1 : Int) := odt
   have q411 : a1 < (l0.length : Int) := odt
   obtain ⟨ad411, A411_4, c411_4, e411, hx411_0, hx411_1, hx411_2, hx411_3, hx411_4, hl411_4, hi411_4⟩ := at_T41 HR0.out a1 p411 q411
   have hw411_4 := hx411_4
   have hw411_3 := hx411_3
   have hw411_2 := hx411_2
   have hw411_1 := hx411_1
   have hw411_0 := hx411_0
   obtain rfl : ad403 = ad411 := (by injection e411)
   replace hx411_0 := cellB hx411_0
   replace hx411_1 := cellB hx411_1
   replace hx411_2 := cellB hx411_2
   replace hx411_3 := cellB hx411_3
   replace hx411_4 := cellB hx411_4
   have HR411_4 := Aside0.mk hi411_4
   have HC411_4 := Aside0.mk hl411_4
   clear hi411_4 hl411_4
   replace p411 := eq_true p411
   replace q411 := eq_true q411
   have ea_ := Option.some.inj (hx409_4.symm.trans hx411_4)
   injection ea_ with ea_ en_ ec_
   subst ea_
   subst ec_
   clear en_
   refine start_ (n := 24) (S := fun w' => w'.cell? (ad403.add ((a1).toNat * 5)) = some (.int .i64 ((rd_T41 l0 a1).f0)) ∧ w'.cell? ⟨(ad403.add ((a1).toNat * 5)).block, (ad403.add ((a1).toNat * 5)).off + 1, none⟩ = some (.int .i64 ((rd_T41 l0 a1).f1)) ∧ w'.cell? ⟨(ad403.add ((a1).toNat * 5)).block, (ad403.add ((a1).toNat * 5)).off + 2, none⟩ = some (.bool ((rd_T41 l0 a1).f2)) ∧ w'.cell? ⟨(ad403.add ((a1).toNat * 5)).block, (ad403.add ((a1).toNat * 5)).off + 3, none⟩ = some (.string ((rd_T41 l0 a1).f3)) ∧ w'.cell? ⟨(ad403.add ((a1).toNat * 5)).block, (ad403.add ((a1).toNat * 5)).off + 4, none⟩ = some (.slice A409_4 ((rd_T41 l0 a1).f4).length c409_4) ∧ w'.cell? (ad403.add ((a1).toNat * 5)) = some (.int .i64 ((rd_T41 l0 a1).f0)) ∧ w'.cell? ⟨(ad403.add ((a1).toNat * 5)).block, (ad403.add ((a1).toNat * 5)).off + 1, none⟩ = some (.int .i64 ((rd_T41 l0 a1).f1)) ∧ w'.cell? ⟨(ad403.add ((a1).toNat * 5)).block, (ad403.add ((a1).toNat * 5)).off + 2, none⟩ = some (.bool ((rd_T41 l0 a1).f2)) ∧ w'.cell? ⟨(ad403.add ((a1).toNat * 5)).block, (ad403.add ((a1).toNat * 5)).off + 3, none⟩ = some (.string ((rd_T41 l0 a1).f3)) ∧ w'.cell? ⟨(ad403.add ((a1).toNat * 5)).block, (ad403.add ((a1).toNat * 5)).off + 4, none⟩ = some (.slice A409_4 ((rd_T41 l0 a1).f4).length c409_4) ∧ w'.cell? (ad403.add ((a1).toNat * 5)) = some (.int .i64 ((rd_T41 l0 a1).f0)) ∧ w'.cell? ⟨(ad403.add ((a1).toNat * 5)).block, (ad403.add ((a1).toNat * 5)).off + 1, none⟩ = some (.int .i64 ((rd_T41 l0 a1).f1)) ∧ w'.cell? ⟨(ad403.add ((a1).toNat * 5)).block, (ad403.add ((a1).toNat * 5)).off + 2, none⟩ = some (.bool ((rd_T41 l0 a1).f2)) ∧ w'.cell? ⟨(ad403.add ((a1).toNat * 5)).block, (ad403.add ((a1).toNat * 5)).off + 3, none⟩ = some (.string ((rd_T41 l0 a1).f3)) ∧ w'.cell? ⟨(ad403.add ((a1).toNat * 5)).block, (ad403.add ((a1).toNat * 5)).off + 4, none⟩ = some (.slice A409_4 ((rd_T41 l0 a1).f4).length c409_4)) (ds := []) #[false, false, false, false, false, false, false, false, false, false, false, false, false, false, false, false, false, false, false, false, false, false, false, false] (by kernel_rfl) rfl rfl ⟨(cellB hw409_0), (cellB hw409_1), (cellB hw409_2), (cellB hw409_3), (cellB hw409_4), (cellB hw410_0), (cellB hw410_1), (cellB hw410_2), (cellB hw410_3), (cellB hw410_4), (cellB hw411_0), (cellB hw411_1), (cellB hw411_2), (cellB hw411_3), (cellB hw411_4)⟩ (fun hHeld => ?_); refine with_tabW cr20_bytes.tab9 cr20_bytes.bits9 (fun HG_ HW_ => ?_)
   generalize wr.drew = w19 at HB HR409_4 HR410_4 HR411_4 hx409_0 hx409_1 hx409_2 hx409_3 hx409_4 hx410_0 hx410_1 hx410_2 hx410_3 hx410_4 hx411_0 hx411_1 hx411_2 hx411_3 hx411_4 hHeld ⊢
   refine pu 0 (some 51) ?_
   refine pu 1 (some 52) ?_
   refine pu 2 (some 53) ?_
   refine pu 3 (some 54) ?_
   refine pu 5 (some 56) ?_
   refine pu 6 (some 57) ?_
   refine pu 7 (some 58) ?_
   refine pu 8 (some 59) ?_
   refine pu 10 (some 61) ?_
   refine pu 11 (some 62) ?_
   refine pu 12 (some 63) ?_
   refine pu 13 (some 64) ?_
   refine pu 15 (some 66) ?_
   refine pu 16 (some 67) ?_
   refine take_ (i := 4) (N := some 55) (v := ?_) (a' := ?_) #[true, true, true, true, true, true, true, true, true, false, true, true, true, true, false, true, true, false, false, false, false, false, false, false] rfl rfl (take_ofW HG_.out HW_.out (by kernel_rfl)) (fun _ _ _ h => h) (Or.inl ⟨by rfl, ?_⟩) hHeld ?_ ?_
   rotate_left
   ·rintro w' ⟨s0, s1, s2, s3, s4, s5, s6, s7, s8, s9, s10, s11, s12, s13, s14⟩
    go_simp
    with_reducible rfl
   rotate_left
   ·simp only [Act.put, List.setIfInBounds_toArray, List.set_cons_zero, List.set_cons_succ, i64_w, i32_w]
    rfl
   refine take_ (i := 9) (N := some 60) (v := ?_) (a' := ?_) #[true, true, true, true, true, true, true, true, true, true, true, true, true, true, false, true, true, false, false, false, false, false, false, false] rfl rfl (take_ofW HG_.out HW_.out (by kernel_rfl)) (fun _ _ _ h => h) (Or.inl ⟨by rfl, ?_⟩) hHeld ?_ ?_
   rotate_left
   ·rintro w' ⟨s0, s1, s2, s3, s4, s5, s6, s7, s8, s9, s10, s11, s12, s13, s14⟩
    go_simp
    with_reducible rfl
   rotate_left
   ·simp only [Act.put, List.setIfInBounds_toArray, List.set_cons_zero, List.set_cons_succ, i64_w, i32_w]
    rfl
   refine take_ (i := 14) (N := some 65) (v := ?_) (a' := ?_) #[true, true, true, true, true, true, true, true, true, true, true, true, true, true, true, true, true, false, false, false, false, false, false, false] rfl rfl (take_ofW HG_.out HW_.out (by kernel_rfl)) (fun _ _ _ h => h) (Or.inl ⟨by rfl, ?_⟩) hHeld ?_ ?_
   rotate_left
   ·rintro w' ⟨s0, s1, s2, s3, s4, s5, s6, s7, s8, s9, s10, s11, s12, s13, s14⟩
    go_simp
    with_reducible rfl
   rotate_left
   ·simp only [Act.put, List.setIfInBounds_toArray, List.set_cons_zero, List.set_cons_succ, i64_w, i32_w]
    rfl
   refine pu 17 (some 68) ?_
   refine one_ (i := 18) (N := some 69) #[true, true, true, true, true, true, true, true, true, true, true, true, true, true, true, true, true, true, true, false, false, false, false, false] rfl rfl (one_of HG_.out (by kernel_rfl)) (by decide) (fun K hK => ?_)
   refine goes_ Tryd.func38 (by kernel_rfl) rfl #[.agg #[.int .i64 ((rd_T41 l0 a1).f0), .int .i64 ((rd_T41 l0 a1).f1), .bool ((rd_T41 l0 a1).f2), .int .i64 (x6_1.size : Int)]] (by rfl) rfl rfl gargs ?_
   with_reducible refine (cr15_Encode.calls k1 ((rd_T41 l0 a1).f0) ((rd_T41 l0 a1).f1) ((rd_T41 l0 a1).f2) (x6_1.size : Int) t412 t413 _ A16.out).mono ?_
   rintro e w20 ⟨rfl, hb⟩
   refine ⟨_, rfl, ?_⟩
   have n0_ := Aside0.mk (below_step blw hb)
   clear HB
   have HB := n0_
   clear n0_
   (try clear hb)
   (try clear hb2)
   (try clear hk)
   (try clear hi)
   refine hK.out _ _ ⟨(cellB hw409_0), (cellB hw409_1), (cellB hw409_2), (cellB hw409_3), (cellB hw409_4), (cellB hw410_0), (cellB hw410_1), (cellB hw410_2), (cellB hw410_3), (cellB hw410_4), (cellB hw411_0), (cellB hw411_1), (cellB hw411_2), (cellB hw411_3), (cellB hw411_4)⟩ (fun hHeld => ?_)
   clear hK K
   refine norm_ (a' := ?_) ?_ ?_
   rotate_left
   ·show Act.put _ (some 69) _ = _
    simp only [Act.put, List.setIfInBounds_toArray, List.set_cons_zero, List.set_cons_succ, i64_w, i32_w]
    rfl
   refine pu 19 (some 50) ?_
   refine pu 20 (some 70) ?_
   refine pu 21 (some 71) ?_
   refine pu 22 (some 10) ?_
   refine pu 23 (some 11) ?_
   refine done_ (done_of HG_.out (by kernel_rfl)) ?_
   by_cases c18 : t413 = 0
   case neg =>
    rw [if_neg c18] at H
    have c18b0 : (t413 == 0) = false := beq_eq_false_iff_ne.mpr c18
    have c18b1 : (t413 != 0) = true := bne_iff_ne.mpr c18
    simp only [Option.some.injEq, Prod.mk.injEq] at H
    obtain ⟨rfl, rfl⟩ := H
    try go_wp2
    go_ret2
    exact ⟨rse, blw⟩
   rw [if_pos c18] at H
   have c18b0 : (t413 == 0) = true := beq_iff_eq.mpr c18
   have c18b1 : (t413 != 0) = false := bne_eq_false_iff_eq.mpr c18
   clear c18
   simp only [Option.some.injEq, Prod.mk.injEq] at H
   obtain ⟨rfl, rfl⟩ := H
   try go_wp2
   go_ret2
   exact ⟨by first | rfl | (simp [errW_none, errW_some] <;> rfl) | (simp [*, errW_none, errW_some] <;> rfl) | (rw [w64] <;> first | rfl | omega), blw⟩

/-! ### cr20_Encode: function 10 -/
def cr20_Encode.f (k : Nat) (l0 : List (S41)) : Option (ByteArray × Int) := (cr20_Right.f k l0).bind fun t414 => (if t414 = true then ((cr20_bytes.f k l0 0).bind fun bt415 => (if bt415.2 = true then (some (bt415.1, 0)) else (some ((⟨#[]⟩ : ByteArray), 4)))) else (some ((⟨#[]⟩ : ByteArray), 1)))
theorem cr20_Encode.mono : ∀ a0 k, LeO (cr20_Encode.f k a0) (cr20_Encode.f (k + 1) a0) := by
 intro a0 k
 unfold cr20_Encode.f
 repeat' first
  | (with_reducible first | exact cr20_Right.mono _ _ | exact cr20_bytes.mono _ _ _ | exact LeO.refl _ | exact LeO.none _ | refine LeO.ite ?_ ?_ | refine LeO.bind ?_ (fun _ => ?_))
  | exact cr20_Right.mono _ _
  | exact cr20_bytes.mono _ _ _
  | exact LeO.none _
  | refine LeO.ite ?_ ?_
  | refine LeO.bind ?_ (fun _ => ?_)
set_option maxHeartbeats 8000000 in
set_option maxRecDepth 100000 in
theorem cr20_Encode.calls (k : Nat) (A0 : Option Addr) (c0 : Nat) (l0 : List (S41)) (r1 : ByteArray) (r2 : Int) (w : World) (hr0 : Kd.C k41 w A0 l0.length l0) (hc0 : l0.length ≤ c0) (h : cr20_Encode.f k l0 = some (r1, r2)) :
 Calls Tryd.prog 10 #[.slice A0 l0.length c0] w fun e w' => e = .returned (.tuple #[.string r1, .int .i64 r2]) ∧ Below w.heap.size w w' := by
 have HR0 := Aside0.mk hr0
 have HC0 := Aside0.mk hc0
 clear hr0 hc0
 have HB := Aside0.mk (Below.refl w.heap.size w)
 have H : ((cr20_Right.f k l0).bind fun t414 => (if t414 = true then ((cr20_bytes.f k l0 0).bind fun bt415 => (if bt415.2 = true then (some (bt415.1, 0)) else (some ((⟨#[]⟩ : ByteArray), 4)))) else (some ((⟨#[]⟩ : ByteArray), 1)))) = some (r1, r2) := h
 clear h
 replace H := Option.bind_eq_some_iff.mp H
 obtain ⟨t414, A20, H⟩ := H
 replace H : (if t414 = true then ((cr20_bytes.f k l0 0).bind fun bt415 => (if bt415.2 = true then (some (bt415.1, 0)) else (some ((⟨#[]⟩ : ByteArray), 4)))) else (some ((⟨#[]⟩ : ByteArray), 1))) = some (r1, r2) := H
 have A2 := Aside0.mk A20
 clear A20
 by_cases c3 : t414 = true
 case neg =>
  replace c3 := Bool.eq_false_iff.mpr c3
  subst c3
  have H1 : (some ((⟨#[]⟩ : ByteArray), 1)) = some (r1, r2) := by rw [if_neg (show ¬ (false = true) by decide)] at H; exact H
  clear H
  have H := H1
  clear H1
  simp only [Option.some.injEq, Prod.mk.injEq] at H
  obtain ⟨rfl, rfl⟩ := H
  go_enter Tryd.func10, Tryd.ntmps10
  go_wp2_with (first | ((with_reducible refine gate_callee (f := 12) rfl ?_); refine goesL_ (some 7) rfl rfl Tryd.func12 (by kernel_rfl) rfl #[.slice A0 l0.length c0] rfl gargs ?_; (with_reducible refine (cr20_Right.calls k _ _ l0 false _ ?side1 ?side2 A2.out).mono ?_); (case side1 => exact kcW HR0.out); (case side2 => exact HC0.out); rintro e w10 ⟨rfl, hb⟩; refine ⟨_, rfl, ?_⟩; replace HB := Aside0.mk (below_step blw hb); (try clear hb); (try clear hb2); (try clear hk); (try clear hi)))
  go_ret2
  exact ⟨rse, blw⟩
 subst c3
 have H1 : ((cr20_bytes.f k l0 0).bind fun bt415 => (if bt415.2 = true then (some (bt415.1, 0)) else (some ((⟨#[]⟩ : ByteArray), 4)))) = some (r1, r2) := by rw [if_pos rfl] at H; exact H
 clear H
 have H := H1
 clear H1
 replace H := Option.bind_eq_some_iff.mp H
 obtain ⟨⟨t415, t416⟩, A40, H⟩ := H
 replace H : (if t416 = true then (some (t415, 0)) else (some ((⟨#[]⟩ : ByteArray), 4))) = some (r1, r2) := H
 have A4 := Aside0.mk A40
 clear A40
 by_cases c5 : t416 = true
 case pos =>
  subst c5
  have H1 : (some (t415, 0)) = some (r1, r2) := by rw [if_pos rfl] at H; exact H
  clear H
  have H := H1
  clear H1
  simp only [Option.some.injEq, Prod.mk.injEq] at H
  obtain ⟨rfl, rfl⟩ := H
  go_enter Tryd.func10, Tryd.ntmps10
  go_wp2_with (first | ((with_reducible refine gate_callee (f := 12) rfl ?_); refine goesL_ (some 7) rfl rfl Tryd.func12 (by kernel_rfl) rfl #[.slice A0 l0.length c0] rfl gargs ?_; (with_reducible refine (cr20_Right.calls k _ _ l0 true _ ?side1 ?side2 A2.out).mono ?_); (case side1 => exact kcW HR0.out); (case side2 => exact HC0.out); rintro e w6 ⟨rfl, hb⟩; refine ⟨_, rfl, ?_⟩; replace HB := Aside0.mk (below_step blw hb); (try clear hb); (try clear hb2); (try clear hk); (try clear hi)) | ((with_reducible refine gate_callee (f := 27) rfl ?_); refine goesL_ (some 11) rfl rfl Tryd.func27 (by kernel_rfl) rfl #[.slice A0 l0.length c0, .int .i64 0] rfl gargs ?_; (with_reducible refine (cr20_bytes.calls k _ _ l0 0 t415 true _ ?side1 ?side2 A4.out).mono ?_); (case side1 => exact kcW (Kd.C_below HR0.out HB.out)); (case side2 => exact HC0.out); rintro e w7 ⟨rfl, hb⟩; refine ⟨_, rfl, ?_⟩; replace HB := Aside0.mk (below_step blw hb); (try clear hb); (try clear hb2); (try clear hk); (try clear hi)))
  go_ret2
  exact ⟨rse, blw⟩
 replace c5 := Bool.eq_false_iff.mpr c5
 subst c5
 have H1 : (some ((⟨#[]⟩ : ByteArray), 4)) = some (r1, r2) := by rw [if_neg (show ¬ (false = true) by decide)] at H; exact H
 clear H
 have H := H1
 clear H1
 simp only [Option.some.injEq, Prod.mk.injEq] at H
 obtain ⟨rfl, rfl⟩ := H
 go_enter Tryd.func10, Tryd.ntmps10
 go_wp2_with (first | ((with_reducible refine gate_callee (f := 12) rfl ?_); refine goesL_ (some 7) rfl rfl Tryd.func12 (by kernel_rfl) rfl #[.slice A0 l0.length c0] rfl gargs ?_; (with_reducible refine (cr20_Right.calls k _ _ l0 true _ ?side1 ?side2 A2.out).mono ?_); (case side1 => exact kcW HR0.out); (case side2 => exact HC0.out); rintro e w8 ⟨rfl, hb⟩; refine ⟨_, rfl, ?_⟩; replace HB := Aside0.mk (below_step blw hb); (try clear hb); (try clear hb2); (try clear hk); (try clear hi)) | ((with_reducible refine gate_callee (f := 27) rfl ?_); refine goesL_ (some 11) rfl rfl Tryd.func27 (by kernel_rfl) rfl #[.slice A0 l0.length c0, .int .i64 0] rfl gargs ?_; (with_reducible refine (cr20_bytes.calls k _ _ l0 0 t415 false _ ?side1 ?side2 A4.out).mono ?_); (case side1 => exact kcW (Kd.C_below HR0.out HB.out)); (case side2 => exact HC0.out); rintro e w9 ⟨rfl, hb⟩; refine ⟨_, rfl, ?_⟩; replace HB := Aside0.mk (below_step blw hb); (try clear hb); (try clear hb2); (try clear hk); (try clear hi)))
 go_ret2
 exact ⟨rse, blw⟩

/-! ### cr20_depth: function 30 -/
mutual
def cr20_depth.l0 : Nat → List (S41) → Int → Int → Int → Option (Int)
 | 0, _, _, _, _ => none
 | k + 1, x0, x1, x5, x6 => if 0 ≤ x1 then (if x1 < (x0.length : Int) then (if x6 < (((rd_T41 x0 x1).f4).length : Int) then (if 0 ≤ x6 then ((cr20_depth.f k x0 (rd ((rd_T41 x0 x1).f4) x6)).bind fun t420 => (if t420 > x5 then (cr20_depth.l0 k x0 x1 t420 (wrap64 (x6 + 1))) else (cr20_depth.l0 k x0 x1 x5 (wrap64 (x6 + 1))))) else (none)) else (some (wrap64 (x5 + 1)))) else (none)) else (none)
def cr20_depth.f : Nat → List (S41) → Int → Option (Int)
 | 0, _, _ => none
 | k + 1, l0, a1 => cr20_depth.l0 k l0 a1 0 0
end
theorem cr20_depth.mono_l : ∀ k, (∀ y0 y1, LeO (cr20_depth.f k y0 y1) (cr20_depth.f (k + 1) y0 y1)) ∧ (∀ y0 y1 y2 y3, LeO (cr20_depth.l0 k y0 y1 y2 y3) (cr20_depth.l0 (k + 1) y0 y1 y2 y3))
 | 0 => ⟨fun _ _ r h => by simp [cr20_depth.f] at h, fun _ _ _ _ r h => by simp [cr20_depth.l0] at h⟩
 | k + 1 => by
  obtain ⟨ih0, ih1⟩ := cr20_depth.mono_l k
  refine ⟨?_, ?_⟩ <;> intros <;> first | unfold cr20_depth.f | unfold cr20_depth.l0
  all_goals repeat' first
  | (with_reducible first | exact ih0 _ _ | exact ih1 _ _ _ _ | exact LeO.refl _ | exact LeO.none _ | refine LeO.ite ?_ ?_ | refine LeO.bind ?_ (fun _ => ?_))
  | exact ih0 _ _
  | exact ih1 _ _ _ _
  | exact LeO.none _
  | refine LeO.ite ?_ ?_
  | refine LeO.bind ?_ (fun _ => ?_)
theorem cr20_depth.mono : ∀ a0 a1 k, LeO (cr20_depth.f k a0 a1) (cr20_depth.f (k + 1) a0 a1) := by
 intro a0 a1 k
 obtain ⟨ih0, ih1⟩ := cr20_depth.mono_l k
 exact ih0 a0 a1
set_option maxHeartbeats 8000000 in
set_option maxRecDepth 100000 in
theorem cr20_depth.calls (k : Nat) : ∀ (A0 : Option Addr) (c0 : Nat) (l0 : List (S41)) (a1 : Int) (r : Int) (w : World) (hr0 : Kd.C k41 w A0 l0.length l0) (hc0 : l0.length ≤ c0) (h : cr20_depth.f k l0 a1 = some r),
 Calls Tryd.prog 30 #[.slice A0 l0.length c0, .int .i64 a1] w fun e w' => e = .returned (.int .i64 r) ∧ Drawn0 w w' := by
 induction k using Nat.strongRecOn with
 | _ k ih =>
 intro A0 c0 l0 a1 r w hr0 hc0 h
 cases k with
 | zero => exact absurd h (by simp [cr20_depth.f])
 | succ k =>
 simp only [cr20_depth.f] at h
 have HR0 := Aside0.mk hr0
 have HC0 := Aside0.mk hc0
 clear hr0 hc0
 have H : (cr20_depth.l0 k l0 a1 0 0) = some r := h
 clear h
 have H' := Aside0.mk H
 clear H
 go_enter Tryd.func30, Tryd.ntmps30
 go_wp2
 go_loopg [5, 6] k (fun kq v5 v6 w' => ∃ (x5_1 : Int) (x6_1 : Int), v5 = .int .i64 x5_1 ∧ v6 = .int .i64 x6_1 ∧ Aside0 (cr20_depth.l0 kq l0 a1 x5_1 x6_1 = some r) ∧ Aside0 (kq ≤ k) ∧ Drawn0 w w')
 case atStart => exact ⟨(0), (0), rsd, rsd, H', ⟨Nat.le_refl _⟩, drw⟩
 case round =>
  clear H'
  obtain ⟨x5_1, x6_1, rfl, rfl, HA, HK1, ⟨m1, rfl⟩⟩ := hrel
  cases gk with
  | zero => exact absurd HA.out (by simp [cr20_depth.l0])
  | succ k1 =>
   have H := HA.out
   clear HA
   simp only [cr20_depth.l0] at H
   by_cases c3 : 0 ≤ a1
   case neg =>
    rw [if_neg c3] at H
    exact absurd H (by simp)
   rw [if_pos c3] at H
   have c3b0 : decide (0 ≤ a1) = true := decide_eq_true c3
   clear c3
   by_cases c4 : a1 < (l0.length : Int)
   case neg =>
    rw [if_neg c4] at H
    exact absurd H (by simp)
   rw [if_pos c4] at H
   have c4b0 : decide (a1 < (l0.length : Int)) = true := decide_eq_true c4
   clear c4
   by_cases c5 : x6_1 < (((rd_T41 l0 a1).f4).length : Int)
   case neg =>
    rw [if_neg c5] at H
    have c5b0 : decide (x6_1 < (((rd_T41 l0 a1).f4).length : Int)) = false := decide_eq_false c5
    clear c5
    obtain rfl := Option.some.inj H
    have p417 : 0 ≤ (a1 : Int) := odt
    have q417 : a1 < (l0.length : Int) := odt
    obtain ⟨ad417, A417_4, c417_4, e417, hx417_0, hx417_1, hx417_2, hx417_3, hx417_4, hl417_4, hi417_4⟩ := at_T41 HR0.out a1 p417 q417
    cases e417
    have HR417_4 := Aside0.mk hi417_4
    have HC417_4 := Aside0.mk hl417_4
    clear hi417_4 hl417_4
    replace p417 := eq_true p417
    replace q417 := eq_true q417
    go_wp2
    go_ret
    exact ⟨rsd, drw⟩
   rw [if_pos c5] at H
   have c5b0 : decide (x6_1 < (((rd_T41 l0 a1).f4).length : Int)) = true := decide_eq_true c5
   clear c5
   by_cases c6 : 0 ≤ x6_1
   case neg =>
    rw [if_neg c6] at H
    exact absurd H (by simp)
   rw [if_pos c6] at H
   have c6b0 : decide (0 ≤ x6_1) = true := decide_eq_true c6
   clear c6
   replace H := Option.bind_eq_some_iff.mp H
   obtain ⟨t420, A70, H⟩ := H
   replace H : (if t420 > x5_1 then (cr20_depth.l0 k1 l0 a1 t420 (wrap64 (x6_1 + 1))) else (cr20_depth.l0 k1 l0 a1 x5_1 (wrap64 (x6_1 + 1)))) = some r := H
   have A7 := Aside0.mk A70
   clear A70
   by_cases c8 : t420 > x5_1
   case neg =>
    rw [if_neg c8] at H
    have c8b0 : decide (x5_1 < t420) = false := decide_eq_false c8
    clear c8
    have H' := Aside0.mk H
    clear H
    have p417 : 0 ≤ (a1 : Int) := odt
    have q417 : a1 < (l0.length : Int) := odt
    obtain ⟨ad417, A417_4, c417_4, e417, hx417_0, hx417_1, hx417_2, hx417_3, hx417_4, hl417_4, hi417_4⟩ := at_T41 HR0.out a1 p417 q417
    cases e417
    have HR417_4 := Aside0.mk hi417_4
    have HC417_4 := Aside0.mk hl417_4
    clear hi417_4 hl417_4
    replace p417 := eq_true p417
    replace q417 := eq_true q417
    have p418 : 0 ≤ (a1 : Int) := odt
    have q418 : a1 < (l0.length : Int) := odt
    obtain ⟨ad418, A418_4, c418_4, e418, hx418_0, hx418_1, hx418_2, hx418_3, hx418_4, hl418_4, hi418_4⟩ := at_T41 HR0.out a1 p418 q418
    obtain rfl : ad417 = ad418 := (by injection e418)
    have HR418_4 := Aside0.mk hi418_4
    have HC418_4 := Aside0.mk hl418_4
    clear hi418_4 hl418_4
    replace p418 := eq_true p418
    replace q418 := eq_true q418
    have ea_ := Option.some.inj (hx417_4.symm.trans hx418_4)
    injection ea_ with ea_ en_ ec_
    subst ea_
    subst ec_
    clear en_
    have p419 : 0 ≤ (x6_1 : Int) := odt
    have q419 : x6_1 < (((rd_T41 l0 a1).f4).length : Int) := odt
    obtain ⟨ad419, e419, hx419_0⟩ := Kd.at_int HR418_4.out x6_1 p419 q419
    cases e419
    replace p419 := eq_true p419
    replace q419 := eq_true q419
    go_wp2_with (first | ((with_reducible refine gate_callee (f := 30) rfl ?_); refine goesL_ (some 27) rfl rfl Tryd.func30 (by kernel_rfl) rfl #[.slice (some ad417) l0.length c0, .int .i64 (rd ((rd_T41 l0 a1).f4) x6_1)] rfl gargs ?_; (with_reducible refine (ih k1 (by have := HK1.out; omega) _ _ l0 (rd ((rd_T41 l0 a1).f4) x6_1) t420 _ ?side1 ?side2 A7.out).mono ?_); (case side1 => exact kcW HR0.out); (case side2 => exact HC0.out); rintro e w' ⟨rfl, ⟨nd, rfl⟩⟩; refine ⟨_, rfl, ?_⟩))
    go_roundg k1
    case measure => have := HK1.out; omega
    case rel => exact ⟨(x5_1), (wrap64 (x6_1 + 1)), rsd, rsd, H', ⟨by have := HK1.out; omega⟩, drw⟩
   rw [if_pos c8] at H
   have c8b0 : decide (x5_1 < t420) = true := decide_eq_true c8
   clear c8
   have H' := Aside0.mk H
   clear H
   have p417 : 0 ≤ (a1 : Int) := odt
   have q417 : a1 < (l0.length : Int) := odt
   obtain ⟨ad417, A417_4, c417_4, e417, hx417_0, hx417_1, hx417_2, hx417_3, hx417_4, hl417_4, hi417_4⟩ := at_T41 HR0.out a1 p417 q417
   cases e417
   have HR417_4 := Aside0.mk hi417_4
   have HC417_4 := Aside0.mk hl417_4
   clear hi417_4 hl417_4
   replace p417 := eq_true p417
   replace q417 := eq_true q417
   have p418 : 0 ≤ (a1 : Int) := odt
   have q418 : a1 < (l0.length : Int) := odt
   obtain ⟨ad418, A418_4, c418_4, e418, hx418_0, hx418_1, hx418_2, hx418_3, hx418_4, hl418_4, hi418_4⟩ := at_T41 HR0.out a1 p418 q418
   obtain rfl : ad417 = ad418 := (by injection e418)
   have HR418_4 := Aside0.mk hi418_4
   have HC418_4 := Aside0.mk hl418_4
   clear hi418_4 hl418_4
   replace p418 := eq_true p418
   replace q418 := eq_true q418
   have ea_ := Option.some.inj (hx417_4.symm.trans hx418_4)
   injection ea_ with ea_ en_ ec_
   subst ea_
   subst ec_
   clear en_
   have p419 : 0 ≤ (x6_1 : Int) := odt
   have q419 : x6_1 < (((rd_T41 l0 a1).f4).length : Int) := odt
   obtain ⟨ad419, e419, hx419_0⟩ := Kd.at_int HR418_4.out x6_1 p419 q419
   cases e419
   replace p419 := eq_true p419
   replace q419 := eq_true q419
   go_wp2_with (first | ((with_reducible refine gate_callee (f := 30) rfl ?_); refine goesL_ (some 27) rfl rfl Tryd.func30 (by kernel_rfl) rfl #[.slice (some ad417) l0.length c0, .int .i64 (rd ((rd_T41 l0 a1).f4) x6_1)] rfl gargs ?_; (with_reducible refine (ih k1 (by have := HK1.out; omega) _ _ l0 (rd ((rd_T41 l0 a1).f4) x6_1) t420 _ ?side1 ?side2 A7.out).mono ?_); (case side1 => exact kcW HR0.out); (case side2 => exact HC0.out); rintro e w' ⟨rfl, ⟨nd, rfl⟩⟩; refine ⟨_, rfl, ?_⟩))
   go_roundg k1
   case measure => have := HK1.out; omega
   case rel => exact ⟨(t420), (wrap64 (x6_1 + 1)), rsd, rsd, H', ⟨by have := HK1.out; omega⟩, drw⟩

/-! ### cr20_Depth: function 15 -/
def cr20_Depth.f (k : Nat) (l0 : List (S41)) : Option (Int) := (cr20_Right.f k l0).bind fun t421 => (if t421 = true then ((cr20_depth.f k l0 0).bind fun t422 => (some t422)) else (some 0))
theorem cr20_Depth.mono : ∀ a0 k, LeO (cr20_Depth.f k a0) (cr20_Depth.f (k + 1) a0) := by
 intro a0 k
 unfold cr20_Depth.f
 repeat' first
  | (with_reducible first | exact cr20_Right.mono _ _ | exact cr20_depth.mono _ _ _ | exact LeO.refl _ | exact LeO.none _ | refine LeO.ite ?_ ?_ | refine LeO.bind ?_ (fun _ => ?_))
  | exact cr20_Right.mono _ _
  | exact cr20_depth.mono _ _ _
  | exact LeO.none _
  | refine LeO.ite ?_ ?_
  | refine LeO.bind ?_ (fun _ => ?_)
set_option maxHeartbeats 8000000 in
set_option maxRecDepth 100000 in
theorem cr20_Depth.calls (k : Nat) (A0 : Option Addr) (c0 : Nat) (l0 : List (S41)) (r : Int) (w : World) (hr0 : Kd.C k41 w A0 l0.length l0) (hc0 : l0.length ≤ c0) (h : cr20_Depth.f k l0 = some r) :
 Calls Tryd.prog 15 #[.slice A0 l0.length c0] w fun e w' => e = .returned (.int .i64 r) ∧ Below w.heap.size w w' := by
 have HR0 := Aside0.mk hr0
 have HC0 := Aside0.mk hc0
 clear hr0 hc0
 have HB := Aside0.mk (Below.refl w.heap.size w)
 have H : ((cr20_Right.f k l0).bind fun t421 => (if t421 = true then ((cr20_depth.f k l0 0).bind fun t422 => (some t422)) else (some 0))) = some r := h
 clear h
 replace H := Option.bind_eq_some_iff.mp H
 obtain ⟨t421, A20, H⟩ := H
 replace H : (if t421 = true then ((cr20_depth.f k l0 0).bind fun t422 => (some t422)) else (some 0)) = some r := H
 have A2 := Aside0.mk A20
 clear A20
 by_cases c3 : t421 = true
 case neg =>
  replace c3 := Bool.eq_false_iff.mpr c3
  subst c3
  have H1 : (some 0) = some r := by rw [if_neg (show ¬ (false = true) by decide)] at H; exact H
  clear H
  have H := H1
  clear H1
  obtain rfl := Option.some.inj H
  go_enter Tryd.func15, Tryd.ntmps15
  go_wp2_with (first | ((with_reducible refine gate_callee (f := 12) rfl ?_); refine goesL_ (some 4) rfl rfl Tryd.func12 (by kernel_rfl) rfl #[.slice A0 l0.length c0] rfl gargs ?_; (with_reducible refine (cr20_Right.calls k _ _ l0 false _ ?side1 ?side2 A2.out).mono ?_); (case side1 => exact kcW HR0.out); (case side2 => exact HC0.out); rintro e w6 ⟨rfl, hb⟩; refine ⟨_, rfl, ?_⟩; replace HB := Aside0.mk (below_step blw hb); (try clear hb); (try clear hb2); (try clear hk); (try clear hi)))
  go_ret
  exact ⟨rse, blw⟩
 subst c3
 have H1 : ((cr20_depth.f k l0 0).bind fun t422 => (some t422)) = some r := by rw [if_pos rfl] at H; exact H
 clear H
 have H := H1
 clear H1
 replace H := Option.bind_eq_some_iff.mp H
 obtain ⟨t422, A40, H⟩ := H
 replace H : (some t422) = some r := H
 have A4 := Aside0.mk A40
 clear A40
 obtain rfl := Option.some.inj H
 go_enter Tryd.func15, Tryd.ntmps15
 go_wp2_with (first | ((with_reducible refine gate_callee (f := 12) rfl ?_); refine goesL_ (some 4) rfl rfl Tryd.func12 (by kernel_rfl) rfl #[.slice A0 l0.length c0] rfl gargs ?_; (with_reducible refine (cr20_Right.calls k _ _ l0 true _ ?side1 ?side2 A2.out).mono ?_); (case side1 => exact kcW HR0.out); (case side2 => exact HC0.out); rintro e w5 ⟨rfl, hb⟩; refine ⟨_, rfl, ?_⟩; replace HB := Aside0.mk (below_step blw hb); (try clear hb); (try clear hb2); (try clear hk); (try clear hi)) | ((with_reducible refine gate_callee (f := 30) rfl ?_); refine goesL_ (some 7) rfl rfl Tryd.func30 (by kernel_rfl) rfl #[.slice A0 l0.length c0, .int .i64 0] rfl gargs ?_; (with_reducible refine (cr20_depth.calls k _ _ l0 0 t422 _ ?side1 ?side2 A4.out).mono ?_); (case side1 => exact kcW (Kd.C_below HR0.out HB.out)); (case side2 => exact HC0.out); rintro e w' ⟨rfl, ⟨nd, rfl⟩⟩; refine ⟨_, rfl, ?_⟩))
 go_ret
 exact ⟨rse, blw⟩

end Go.Proofs.YtcbcojbhbhaimaaDoor.PTreeTells
