-- laid by a program out of the translation and of templates; not trusted: Lean checks it
import Derived.Test.YtcbcojbhbhaimaaDoorPTreeAgainx0
import Derived.Test.YtcbcojbhbhaimaaDoorPTreeAgainx1
import Derived.Test.YtcbcojbhbhaimaaDoorPTreeAgainx5
import Derived.Test.YtcbcojbhbhaimaaDoorPTreeAgainx8
import Derived.Test.YtcbcojbhbhaimaaDoorPTreeAgainx9
import Derived.Test.YtcbcojbhbhaimaaDoorPTreeAgainx10
import Derived.Test.YtcbcojbhbhaimaaDoorPTreeAgainx16
import Derived.Test.YtcbcojbhbhaimaaDoorPTreeAgainx17
namespace Go.Proofs.YtcbcojbhbhaimaaDoor.PTreeAgain
open Go.RowKit Go.Proofs.YtcbcojbhbhaimaaDoorW.PrintWords Go.Proofs.YtcbcojbhbhaimaaDoorW.PrintLast Go.Proofs.YtcbcojbhbhaimaaDoorW.PrintMore
attribute [local go_sem high] c_add c_eql c_neq
attribute [local go_sem] f_store_c f_store_f f_add f_toint f_fold_eq f_fold_ne f_fold_lt f_fold_gt f_fold_le f_fold_ge
attribute [local go_sem] str_leq str_gtr str_geq max2_int min2_int max_two min_two max_three min_three max_four min_four   -- for this text's walks alone
set_option linter.unusedVariables false
set_option linter.unusedSimpArgs false

/-! ### clavigerlaw20_TreeAgain: function 5 -/
mutual
def clavigerlaw20_TreeAgain.j0 : Nat → List (S41) → Bool → Option (Bool)
 | 0, _, _ => none
 | k + 1, x0, x13 => if x13 = true then ((clavigerlaw20_awake.f k).bind fun t391 => (some t391)) else (if 0 < (x0.length : Int) then (if ((rd_T41 x0 0).f2 = true) then ((tree_Kids.f k x0).bind fun t401 => (clavigerlaw20_TreeAgain.l0 k x0 t401 t401 (t401.length : Int) 0)) else ((tree_Kids.f k x0).bind fun t393 => (if (t393.length : Int) = 0 then ((tree_Sub.f k x0 0).bind fun t396 => ((clavigerplain_Same.f k t396 x0).bind fun t399 => (if t399 = true then ((clavigerlaw20_awake.f k).bind fun t400 => (some t400)) else (some false)))) else (some false)))) else (none))
def clavigerlaw20_TreeAgain.l0 : Nat → List (S41) → List (List (S41)) → List (List (S41)) → Int → Int → Option (Bool)
 | 0, _, _, _, _, _ => none
 | k + 1, x0, x3, x35, x36, x37 => if x37 < x36 then (if 0 ≤ x37 then (if x37 < (x35.length : Int) then ((tree_Right.f k (rd_L9 x35 x37)).bind fun t412 => (if t412 = true then ((tree_Depth.f k (rd_L9 x35 x37)).bind fun t413 => ((tree_Depth.f k x0).bind fun t414 => (if t413 ≥ t414 then (some false) else (clavigerlaw20_TreeAgain.l0 k x0 x3 x35 x36 (wrap64 (x37 + 1)))))) else (some false))) else (none)) else (none)) else (if 0 < (x0.length : Int) then ((tree_Of.f k ((rd_T41 x0 0).f0) ((rd_T41 x0 0).f1) x3).bind fun t406 => ((clavigerplain_Same.f k t406 x0).bind fun t409 => (if t409 = true then ((clavigerlaw20_awake.f k).bind fun t410 => (some t410)) else (some false)))) else (none))
end
def clavigerlaw20_TreeAgain.f (k : Nat) (l0 : List (S41)) : Option (Bool) := (clavigerplain_Tree.f k l0 60).bind fun t389 => (if t389 = true then ((clavigerref20_Right.f k l0).bind fun t390 => (clavigerlaw20_TreeAgain.j0 k l0 (!t390))) else (clavigerlaw20_TreeAgain.j0 k l0 true))
theorem clavigerlaw20_TreeAgain.mono_l : ∀ k, (∀ y0 y1, LeO (clavigerlaw20_TreeAgain.j0 k y0 y1) (clavigerlaw20_TreeAgain.j0 (k + 1) y0 y1)) ∧ (∀ y0 y1 y2 y3 y4, LeO (clavigerlaw20_TreeAgain.l0 k y0 y1 y2 y3 y4) (clavigerlaw20_TreeAgain.l0 (k + 1) y0 y1 y2 y3 y4))
 | 0 => ⟨fun _ _ r h => by simp [clavigerlaw20_TreeAgain.j0] at h, fun _ _ _ _ _ r h => by simp [clavigerlaw20_TreeAgain.l0] at h⟩
 | k + 1 => by
  obtain ⟨ih0, ih1⟩ := clavigerlaw20_TreeAgain.mono_l k
  refine ⟨?_, ?_⟩ <;> intros <;> first | unfold clavigerlaw20_TreeAgain.j0 | unfold clavigerlaw20_TreeAgain.l0
  all_goals repeat' first
  | (with_reducible exact ih0 _ _)
  | (with_reducible exact ih1 _ _ _ _ _)
  | (with_reducible exact clavigerlaw20_awake.mono _)
  | (with_reducible exact clavigerplain_Same.mono _ _ _)
  | (with_reducible exact clavigerplain_Tree.mono _ _ _)
  | (with_reducible exact clavigerref20_Right.mono _ _)
  | (with_reducible exact tree_Depth.mono _ _)
  | (with_reducible exact tree_Kids.mono _ _)
  | (with_reducible exact tree_Of.mono _ _ _ _)
  | (with_reducible exact tree_Right.mono _ _)
  | (with_reducible exact tree_Sub.mono _ _ _)
  | (with_reducible exact LeO.refl _)
  | (with_reducible exact LeO.none _)
  | (with_reducible refine LeO.ite ?_ ?_)
  | (with_reducible refine LeO.bind ?_ (fun _ => ?_))
  | exact ih0 _ _
  | exact ih1 _ _ _ _ _
  | exact clavigerlaw20_awake.mono _
  | exact clavigerplain_Same.mono _ _ _
  | exact clavigerplain_Tree.mono _ _ _
  | exact clavigerref20_Right.mono _ _
  | exact tree_Depth.mono _ _
  | exact tree_Kids.mono _ _
  | exact tree_Of.mono _ _ _ _
  | exact tree_Right.mono _ _
  | exact tree_Sub.mono _ _ _
  | exact LeO.none _
  | refine LeO.ite ?_ ?_
  | refine LeO.bind ?_ (fun _ => ?_)
theorem clavigerlaw20_TreeAgain.mono : ∀ a0 k, LeO (clavigerlaw20_TreeAgain.f k a0) (clavigerlaw20_TreeAgain.f (k + 1) a0) := by
 intro a0 k
 obtain ⟨ih0, ih1⟩ := clavigerlaw20_TreeAgain.mono_l k
 unfold clavigerlaw20_TreeAgain.f
 repeat' first
  | (with_reducible exact ih0 _ _)
  | (with_reducible exact ih1 _ _ _ _ _)
  | (with_reducible exact clavigerlaw20_awake.mono _)
  | (with_reducible exact clavigerplain_Same.mono _ _ _)
  | (with_reducible exact clavigerplain_Tree.mono _ _ _)
  | (with_reducible exact clavigerref20_Right.mono _ _)
  | (with_reducible exact tree_Depth.mono _ _)
  | (with_reducible exact tree_Kids.mono _ _)
  | (with_reducible exact tree_Of.mono _ _ _ _)
  | (with_reducible exact tree_Right.mono _ _)
  | (with_reducible exact tree_Sub.mono _ _ _)
  | (with_reducible exact LeO.refl _)
  | (with_reducible exact LeO.none _)
  | (with_reducible refine LeO.ite ?_ ?_)
  | (with_reducible refine LeO.bind ?_ (fun _ => ?_))
  | exact ih0 _ _
  | exact ih1 _ _ _ _ _
  | exact clavigerlaw20_awake.mono _
  | exact clavigerplain_Same.mono _ _ _
  | exact clavigerplain_Tree.mono _ _ _
  | exact clavigerref20_Right.mono _ _
  | exact tree_Depth.mono _ _
  | exact tree_Kids.mono _ _
  | exact tree_Of.mono _ _ _ _
  | exact tree_Right.mono _ _
  | exact tree_Sub.mono _ _ _
  | exact LeO.none _
  | refine LeO.ite ?_ ?_
  | refine LeO.bind ?_ (fun _ => ?_)
def clavigerlaw20_TreeAgain.T12 : Bool × List (List Nat × List Nat) := (true, [([], []), ([0], [0]), ([1], [1]), ([2], [2]), ([], []), ([4], [4]), ([5], [5]), ([6], [6]), ([], []), ([3, 7, 8], [3, 7, 8]), ([], []), ([9, 10, 9], [9, 10]), ([11, 11], [11]), ([12, 12], [12]), ([12, 13], [12, 13]), ([14, 13, 0, 1, 2, 3, 4, 5, 6, 7, 8, 9, 10, 11, 12, 13, 14], [14])])
def clavigerlaw20_TreeAgain.B12 : List Nat := [0, 1, 3, 7, 0, 16, 48, 112, 0, 511, 0, 2047, 4095, 8191, 16383, 32767]
theorem clavigerlaw20_TreeAgain.tab12 : rtab .any (opsOf Tryd.f5 12) = clavigerlaw20_TreeAgain.T12 := by kernel_rfl
theorem clavigerlaw20_TreeAgain.bits12 : waitsOk clavigerlaw20_TreeAgain.T12.2 clavigerlaw20_TreeAgain.B12 = true := by kernel_rfl
set_option maxHeartbeats 8000000 in
set_option maxRecDepth 100000 in
theorem clavigerlaw20_TreeAgain.calls (k : Nat) (A0 : Option Addr) (c0 : Nat) (l0 : List (S41)) (r : Bool) (w : World) (hr0 : Kd.C k41 w A0 l0.length l0) (hc0 : l0.length ≤ c0) (HT_ : Aside0 (TB w)) (HR_ : Aside0 (r = true)) (h : clavigerlaw20_TreeAgain.f k l0 = some r) :
 Calls Tryd.prog 5 #[.slice A0 l0.length c0] w fun e w' => e = .returned (.bool r) ∧ Below w.heap.size w w' := by
 have HR0 := Aside0.mk hr0
 have HC0 := Aside0.mk hc0
 clear hr0 hc0
 have HB := Aside0.mk (Below.refl w.heap.size w)
 have H : ((clavigerplain_Tree.f k l0 60).bind fun t389 => (if t389 = true then ((clavigerref20_Right.f k l0).bind fun t390 => (clavigerlaw20_TreeAgain.j0 k l0 (!t390))) else (clavigerlaw20_TreeAgain.j0 k l0 true))) = some r := h
 clear h
 have HC2 := Aside0.mk H
 clear H
 go_enter Tryd.func5, Tryd.ntmps5
 go_upto_region 1 with (fail)
 go_cut [13] (fun v13 wc => ∃ (kq : Nat) (x13_1 : Bool), v13 = .bool x13_1 ∧ Aside0 (clavigerlaw20_TreeAgain.j0 kq l0 x13_1 = some r) ∧ Aside0 (kq ≤ k) ∧ Aside0 (Below w.heap.size w wc))
 case first =>
  have H := HC2.out
  clear HC2
  replace H := Option.bind_eq_some_iff.mp H
  obtain ⟨t389, A30, H⟩ := H
  replace H : (if t389 = true then ((clavigerref20_Right.f k l0).bind fun t390 => (clavigerlaw20_TreeAgain.j0 k l0 (!t390))) else (clavigerlaw20_TreeAgain.j0 k l0 true)) = some r := H
  have A3 := Aside0.mk A30
  clear A30
  by_cases c4 : t389 = true
  case neg =>
   replace c4 := Bool.eq_false_iff.mpr c4
   subst c4
   have H1 : (clavigerlaw20_TreeAgain.j0 k l0 true) = some r := by rw [if_neg (show ¬ (false = true) by decide)] at H; exact H
   clear H
   have H := H1
   clear H1
   have H' := Aside0.mk H
   clear H
   go_wp2_with (first | ((with_reducible refine gate_callee (f := 7) rfl ?_); refine goesL_ (some 7) rfl rfl Tryd.func7 (by kernel_rfl) rfl #[.slice A0 l0.length c0, .int .i64 60] rfl gargs ?_; (with_reducible refine (clavigerplain_Tree.calls k _ _ l0 60 false _ ?side1 ?side2 A3.out).mono ?_); (case side1 => repeat (first | exact (Kd.C_below HR0.out HB.out) | (with_reducible refine Kd.C_alloc ?_ _) | (with_reducible refine Kd.C_drewN ?_ _) | (with_reducible refine Kd.C_drew ?_))); (case side2 => exact HC0.out); rintro e w' ⟨rfl, ⟨nd, rfl⟩⟩; refine ⟨_, rfl, ?_⟩))
   go_meet
   case rel => exact ⟨_, (true), rsd, H', ⟨by first | omega | exact Nat.le_refl _⟩, ⟨blw⟩⟩
  subst c4
  have H1 : ((clavigerref20_Right.f k l0).bind fun t390 => (clavigerlaw20_TreeAgain.j0 k l0 (!t390))) = some r := by rw [if_pos rfl] at H; exact H
  clear H
  have H := H1
  clear H1
  replace H := Option.bind_eq_some_iff.mp H
  obtain ⟨t390, A50, H⟩ := H
  replace H : (clavigerlaw20_TreeAgain.j0 k l0 (!t390)) = some r := H
  have A5 := Aside0.mk A50
  clear A50
  have H' := Aside0.mk H
  clear H
  go_wp2_with (first | ((with_reducible refine gate_callee (f := 7) rfl ?_); refine goesL_ (some 7) rfl rfl Tryd.func7 (by kernel_rfl) rfl #[.slice A0 l0.length c0, .int .i64 60] rfl gargs ?_; (with_reducible refine (clavigerplain_Tree.calls k _ _ l0 60 true _ ?side1 ?side2 A3.out).mono ?_); (case side1 => repeat (first | exact (Kd.C_below HR0.out HB.out) | (with_reducible refine Kd.C_alloc ?_ _) | (with_reducible refine Kd.C_drewN ?_ _) | (with_reducible refine Kd.C_drew ?_))); (case side2 => exact HC0.out); rintro e w' ⟨rfl, ⟨nd, rfl⟩⟩; refine ⟨_, rfl, ?_⟩) | (go_at_call 12; (with_reducible refine (clavigerref20_Right.calls k _ _ l0 t390 _ ?side1 ?side2 A5.out).mono ?_); (case side1 => repeat (first | exact (Kd.C_below HR0.out blw) | (with_reducible refine Kd.C_alloc ?_ _) | (with_reducible refine Kd.C_drewN ?_ _) | (with_reducible refine Kd.C_drew ?_))); (case side2 => exact HC0.out); rintro e w6 ⟨rfl, hb⟩; have n0_ := Aside0.mk (below_step blw hb); clear HB; have HB := n0_; clear n0_; (try clear hb); (try clear hb2); (try clear hk); (try clear hi)))
  go_meet
  case rel => exact ⟨_, (!t390), rsd, H', ⟨by first | omega | exact Nat.le_refl _⟩, ⟨blw⟩⟩
 case rest =>
  clear HC2
  try clear c4
  obtain ⟨kq, x13_1, rfl, HA, HJ1, HB⟩ := hcut
  cases kq with
  | zero => exact absurd HA.out (by simp [clavigerlaw20_TreeAgain.j0])
  | succ kj1 =>
   have H := HA.out
   clear HA
   simp only [clavigerlaw20_TreeAgain.j0] at H
   by_cases c7 : x13_1 = true
   case pos =>
    subst c7
    have H1 : ((clavigerlaw20_awake.f kj1).bind fun t391 => (some t391)) = some r := by rw [if_pos rfl] at H; exact H
    clear H
    have H := H1
    clear H1
    replace H := Option.bind_eq_some_iff.mp H
    obtain ⟨t391, A80, H⟩ := H
    replace H : (some t391) = some r := H
    have A8 := Aside0.mk A80
    clear A80
    obtain rfl := Option.some.inj H
    go_wp2_with (first | ((with_reducible refine gate_callee (f := 8) rfl ?_); refine goesL_ (some 14) rfl rfl Tryd.func8 (by kernel_rfl) rfl #[] rfl gargs ?_; (with_reducible refine (clavigerlaw20_awake.calls kj1  t391 _ ?tb_ A8.out).mono ?_); (case tb_ => exact ⟨TB.below HT_.out (by repeat (first | (with_reducible first | exact HB.out | apply below_alloc | apply pw_below_drewN | apply below_drew1) | exact HB.out | exact Below.refl _ _))⟩); rintro e w9 ⟨rfl, hb⟩; refine ⟨_, rfl, ?_⟩; have n0_ := Aside0.mk (below_step blw hb); clear HB; have HB := n0_; clear n0_; (try clear hb); (try clear hb2); (try clear hk); (try clear hi)))
    go_ret
    exact ⟨rse, blw⟩
   replace c7 := Bool.eq_false_iff.mpr c7
   subst c7
   have H1 : (if 0 < (l0.length : Int) then (if ((rd_T41 l0 0).f2 = true) then ((tree_Kids.f kj1 l0).bind fun t401 => (clavigerlaw20_TreeAgain.l0 kj1 l0 t401 t401 (t401.length : Int) 0)) else ((tree_Kids.f kj1 l0).bind fun t393 => (if (t393.length : Int) = 0 then ((tree_Sub.f kj1 l0 0).bind fun t396 => ((clavigerplain_Same.f kj1 t396 l0).bind fun t399 => (if t399 = true then ((clavigerlaw20_awake.f kj1).bind fun t400 => (some t400)) else (some false)))) else (some false)))) else (none)) = some r := by rw [if_neg (show ¬ (false = true) by decide)] at H; exact H
   clear H
   have H := H1
   clear H1
   by_cases c10 : 0 < (l0.length : Int)
   case neg =>
    rw [if_neg c10] at H
    exact absurd H (by simp)
   rw [if_pos c10] at H
   have c10b0 : decide (0 < (l0.length : Int)) = true := decide_eq_true c10
   have c10b1 : decide (0 < l0.length) = true := decide_eq_true (by omega)
   clear c10
   obtain ⟨bq11, hbq11⟩ : ∃ b_ : Bool, b_ = ((rd_T41 l0 0).f2) := ⟨_, rfl⟩
   replace H : (if (bq11 = true) then ((tree_Kids.f kj1 l0).bind fun t401 => (clavigerlaw20_TreeAgain.l0 kj1 l0 t401 t401 (t401.length : Int) 0)) else ((tree_Kids.f kj1 l0).bind fun t393 => (if (t393.length : Int) = 0 then ((tree_Sub.f kj1 l0 0).bind fun t396 => ((clavigerplain_Same.f kj1 t396 l0).bind fun t399 => (if t399 = true then ((clavigerlaw20_awake.f kj1).bind fun t400 => (some t400)) else (some false)))) else (some false)))) = some r := by rw [← hbq11] at H; exact H
   have Nbq11 := Aside0.mk hbq11
   clear hbq11
   by_cases c12 : (bq11 = true)
   case neg =>
    replace c12 := Bool.eq_false_iff.mpr c12
    subst c12
    have H1 : ((tree_Kids.f kj1 l0).bind fun t393 => (if (t393.length : Int) = 0 then ((tree_Sub.f kj1 l0 0).bind fun t396 => ((clavigerplain_Same.f kj1 t396 l0).bind fun t399 => (if t399 = true then ((clavigerlaw20_awake.f kj1).bind fun t400 => (some t400)) else (some false)))) else (some false))) = some r := by rw [if_neg (show ¬ (false = true) by decide)] at H; exact H
    clear H
    have H := H1
    clear H1
    replace H := Option.bind_eq_some_iff.mp H
    obtain ⟨t393, A370, H⟩ := H
    replace H : (if (t393.length : Int) = 0 then ((tree_Sub.f kj1 l0 0).bind fun t396 => ((clavigerplain_Same.f kj1 t396 l0).bind fun t399 => (if t399 = true then ((clavigerlaw20_awake.f kj1).bind fun t400 => (some t400)) else (some false)))) else (some false)) = some r := H
    have A37 := Aside0.mk A370
    clear A370
    by_cases c38 : (t393.length : Int) = 0
    case neg =>
     rw [if_neg c38] at H
     have c38b0 : ((t393.length : Int) == 0) = false := beq_eq_false_iff_ne.mpr c38
     have c38b1 : ((t393.length : Int) != 0) = true := bne_iff_ne.mpr c38
     have c38b2 : ¬ (t393 = []) := fun h_ => c38 (by rw [h_]; rfl)
     exact absurd ((Option.some.inj H).trans HR_.out) (by decide)
    rw [if_pos c38] at H
    have c38b0 : ((t393.length : Int) == 0) = true := beq_iff_eq.mpr c38
    have c38b1 : ((t393.length : Int) != 0) = false := bne_eq_false_iff_eq.mpr c38
    clear c38
    replace H := Option.bind_eq_some_iff.mp H
    obtain ⟨t396, A390, H⟩ := H
    replace H : ((clavigerplain_Same.f kj1 t396 l0).bind fun t399 => (if t399 = true then ((clavigerlaw20_awake.f kj1).bind fun t400 => (some t400)) else (some false))) = some r := H
    have A39 := Aside0.mk A390
    clear A390
    replace H := Option.bind_eq_some_iff.mp H
    obtain ⟨t399, A400, H⟩ := H
    replace H : (if t399 = true then ((clavigerlaw20_awake.f kj1).bind fun t400 => (some t400)) else (some false)) = some r := H
    have A40 := Aside0.mk A400
    clear A400
    by_cases c41 : t399 = true
    case neg =>
     replace c41 := Bool.eq_false_iff.mpr c41
     subst c41
     have H1 : (some false) = some r := by rw [if_neg (show ¬ (false = true) by decide)] at H; exact H
     clear H
     have H := H1
     clear H1
     exact absurd ((Option.some.inj H).trans HR_.out) (by decide)
    subst c41
    have H1 : ((clavigerlaw20_awake.f kj1).bind fun t400 => (some t400)) = some r := by rw [if_pos rfl] at H; exact H
    clear H
    have H := H1
    clear H1
    replace H := Option.bind_eq_some_iff.mp H
    obtain ⟨t400, A420, H⟩ := H
    replace H : (some t400) = some r := H
    have A42 := Aside0.mk A420
    clear A420
    obtain rfl := Option.some.inj H
    have p392 : 0 ≤ (0 : Int) := (by omega)
    have q392 : 0 < (l0.length : Int) := odt
    obtain ⟨ad392, A392_4, c392_4, e392, hx392_0, hx392_1, hx392_2, hx392_3, hx392_4, hl392_4, hi392_4⟩ := at_T41 HR0.out 0 p392 q392
    (try rw [← Nbq11.out] at hx392_2)
    cases e392
    have qi392 : (0 < l0.length) = True := eq_true (by omega)
    (try rw [show ((0 : Int)).toNat = 0 from rfl] at hx392_0)
    (try rw [show 0 * 5 = 0 from rfl] at hx392_0)
    (try rw [Addr.add_zero'] at hx392_0)
    (try rw [show ((0 : Int)).toNat = 0 from rfl] at hx392_1)
    (try rw [show 0 * 5 = 0 from rfl] at hx392_1)
    (try rw [Addr.add_zero'] at hx392_1)
    (try rw [show ((0 : Int)).toNat = 0 from rfl] at hx392_2)
    (try rw [show 0 * 5 = 0 from rfl] at hx392_2)
    (try rw [Addr.add_zero'] at hx392_2)
    (try rw [show ((0 : Int)).toNat = 0 from rfl] at hx392_3)
    (try rw [show 0 * 5 = 0 from rfl] at hx392_3)
    (try rw [Addr.add_zero'] at hx392_3)
    (try rw [show ((0 : Int)).toNat = 0 from rfl] at hx392_4)
    (try rw [show 0 * 5 = 0 from rfl] at hx392_4)
    (try rw [Addr.add_zero'] at hx392_4)
    replace hx392_0 := cellB hx392_0
    replace hx392_1 := cellB hx392_1
    replace hx392_2 := cellB hx392_2
    replace hx392_3 := cellB hx392_3
    replace hx392_4 := cellB hx392_4
    have HR392_4 := Aside0.mk hi392_4
    have HC392_4 := Aside0.mk hl392_4
    clear hi392_4 hl392_4
    replace p392 := eq_true p392
    replace q392 := eq_true q392
    go_wp2_with (first | ((with_reducible refine gate_callee (f := 23) rfl ?_); refine goesL_ (some 21) rfl rfl Tryd.func23 (by kernel_rfl) rfl #[.slice (some ad392) l0.length c0] rfl gargs ?_; (with_reducible refine (tree_Kids.calls kj1 _ _ l0 t393 _ ?side1 ?side2 ?tb_ A37.out).mono ?_); (case tb_ => exact ⟨TB.below HT_.out (by repeat (first | (with_reducible first | exact HB.out | apply below_alloc | apply pw_below_drewN | apply below_drew1) | exact HB.out | exact Below.refl _ _))⟩); (case side1 => repeat (first | exact (Kd.C_below HR0.out HB.out) | (with_reducible refine Kd.C_alloc ?_ _) | (with_reducible refine Kd.C_drewN ?_ _) | (with_reducible refine Kd.C_drew ?_))); (case side2 => exact HC0.out); rintro e w43 ⟨v394, rfl, ho0, hb⟩; refine ⟨_, rfl, ?_⟩; have n0_ := Aside0.mk (Kd.R_lower ho0 (below_size blw)); have n1_ := Aside0.mk (below_step blw hb); clear HB; have HO395 := n0_; have HB := n1_; clear n0_ n1_; (try clear hb); (try clear hb2); (try clear hk); (try clear hi); (try clear ho0); obtain ⟨Ao44, co44, eo44⟩ := Kd.R_slice HO395.out; subst eo44) | (go_at_call 17; (with_reducible refine (tree_Sub.calls kj1 _ _ l0 0 t396 _ ?side1 ?side2 ?tb_ A39.out).mono ?_); (case tb_ => exact ⟨TB.below HT_.out (by repeat (first | (with_reducible first | exact HB.out | apply below_alloc | apply pw_below_drewN | apply below_drew1) | exact HB.out | exact Below.refl _ _))⟩); (case side1 => repeat (first | exact (Kd.C_below HR0.out HB.out) | (with_reducible refine Kd.C_alloc ?_ _) | (with_reducible refine Kd.C_drewN ?_ _) | (with_reducible refine Kd.C_drew ?_))); (case side2 => exact HC0.out); rintro e w45 ⟨v397, rfl, ho0, hb⟩; have n0_ := Aside0.mk (Kd.R_elder' (by (with_reducible repeat (first | apply Kd.R_alloc | apply Kd.R_drewN | apply Kd.R_drew)); exact HO395.out) (Kd.S_base ho0) hb); have n1_ := Aside0.mk (Kd.S_lower ho0 (below_size blw)); have n2_ := Aside0.mk (below_step blw hb); clear HO395; clear HB; have HO395 := n0_; have HO398 := n1_; have HB := n2_; clear n0_ n1_ n2_; (try clear hb); (try clear hb2); (try clear hk); (try clear hi); (try clear ho0); obtain ⟨Ao46, co46, eo46⟩ := Kd.S_slice HO398.out; subst eo46) | (go_at_call 16; (with_reducible refine (clavigerplain_Same.calls kj1 _ _ t396 _ _ l0 true _ ?side1 ?side2 ?side3 ?side4 A40.out).mono ?_); (case side1 => repeat (first | exact (Kd.S_reads' HO398.out).2.2 | (with_reducible refine Kd.C_alloc ?_ _) | (with_reducible refine Kd.C_drewN ?_ _) | (with_reducible refine Kd.C_drew ?_))); (case side2 => exact (Kd.S_reads' HO398.out).2.1); (case side3 => repeat (first | exact (Kd.C_below HR0.out HB.out) | (with_reducible refine Kd.C_alloc ?_ _) | (with_reducible refine Kd.C_drewN ?_ _) | (with_reducible refine Kd.C_drew ?_))); (case side4 => exact HC0.out); rintro e w47 ⟨rfl, hb⟩; have n0_ := Aside0.mk (Kd.R_below (by (with_reducible repeat (first | apply Kd.R_alloc | apply Kd.R_drewN | apply Kd.R_drew)); exact HO395.out) hb); have n1_ := Aside0.mk (Kd.S_below (by (with_reducible repeat (first | apply Kd.S_alloc | apply Kd.S_drewN | apply Kd.S_drew)); exact HO398.out) hb); have n2_ := Aside0.mk (below_step blw hb); clear HO395; clear HO398; clear HB; have HO395 := n0_; have HO398 := n1_; have HB := n2_; clear n0_ n1_ n2_; (try clear hb); (try clear hb2); (try clear hk); (try clear hi)) | (go_at_call 8; (with_reducible refine (clavigerlaw20_awake.calls kj1  t400 _ ?tb_ A42.out).mono ?_); (case tb_ => exact ⟨TB.below HT_.out (by repeat (first | (with_reducible first | exact HB.out | apply below_alloc | apply pw_below_drewN | apply below_drew1) | exact HB.out | exact Below.refl _ _))⟩); rintro e w48 ⟨rfl, hb⟩; have n0_ := Aside0.mk (Kd.R_below (by (with_reducible repeat (first | apply Kd.R_alloc | apply Kd.R_drewN | apply Kd.R_drew)); exact HO395.out) hb); have n1_ := Aside0.mk (Kd.S_below (by (with_reducible repeat (first | apply Kd.S_alloc | apply Kd.S_drewN | apply Kd.S_drew)); exact HO398.out) hb); have n2_ := Aside0.mk (below_step blw hb); clear HO395; clear HO398; clear HB; have HO395 := n0_; have HO398 := n1_; have HB := n2_; clear n0_ n1_ n2_; (try clear hb); (try clear hb2); (try clear hk); (try clear hi)))
    go_ret
    exact ⟨rse, blw⟩
   subst c12
   have H1 : ((tree_Kids.f kj1 l0).bind fun t401 => (clavigerlaw20_TreeAgain.l0 kj1 l0 t401 t401 (t401.length : Int) 0)) = some r := by rw [if_pos rfl] at H; exact H
   clear H
   have H := H1
   clear H1
   replace H := Option.bind_eq_some_iff.mp H
   obtain ⟨t401, A130, H⟩ := H
   replace H : (clavigerlaw20_TreeAgain.l0 kj1 l0 t401 t401 (t401.length : Int) 0) = some r := H
   have A13 := Aside0.mk A130
   clear A130
   have H' := Aside0.mk H
   clear H
   have p392 : 0 ≤ (0 : Int) := (by omega)
   have q392 : 0 < (l0.length : Int) := odt
   obtain ⟨ad392, A392_4, c392_4, e392, hx392_0, hx392_1, hx392_2, hx392_3, hx392_4, hl392_4, hi392_4⟩ := at_T41 HR0.out 0 p392 q392
   (try rw [← Nbq11.out] at hx392_2)
   cases e392
   have qi392 : (0 < l0.length) = True := eq_true (by omega)
   (try rw [show ((0 : Int)).toNat = 0 from rfl] at hx392_0)
   (try rw [show 0 * 5 = 0 from rfl] at hx392_0)
   (try rw [Addr.add_zero'] at hx392_0)
   (try rw [show ((0 : Int)).toNat = 0 from rfl] at hx392_1)
   (try rw [show 0 * 5 = 0 from rfl] at hx392_1)
   (try rw [Addr.add_zero'] at hx392_1)
   (try rw [show ((0 : Int)).toNat = 0 from rfl] at hx392_2)
   (try rw [show 0 * 5 = 0 from rfl] at hx392_2)
   (try rw [Addr.add_zero'] at hx392_2)
   (try rw [show ((0 : Int)).toNat = 0 from rfl] at hx392_3)
   (try rw [show 0 * 5 = 0 from rfl] at hx392_3)
   (try rw [Addr.add_zero'] at hx392_3)
   (try rw [show ((0 : Int)).toNat = 0 from rfl] at hx392_4)
   (try rw [show 0 * 5 = 0 from rfl] at hx392_4)
   (try rw [Addr.add_zero'] at hx392_4)
   replace hx392_0 := cellB hx392_0
   replace hx392_1 := cellB hx392_1
   replace hx392_2 := cellB hx392_2
   replace hx392_3 := cellB hx392_3
   replace hx392_4 := cellB hx392_4
   have HR392_4 := Aside0.mk hi392_4
   have HC392_4 := Aside0.mk hl392_4
   clear hi392_4 hl392_4
   replace p392 := eq_true p392
   replace q392 := eq_true q392
   go_wp2_with (first | ((with_reducible refine gate_callee (f := 23) rfl ?_); refine goesL_ (some 34) rfl rfl Tryd.func23 (by kernel_rfl) rfl #[.slice (some ad392) l0.length c0] rfl gargs ?_; (with_reducible refine (tree_Kids.calls kj1 _ _ l0 t401 _ ?side1 ?side2 ?tb_ A13.out).mono ?_); (case tb_ => exact ⟨TB.below HT_.out (by repeat (first | (with_reducible first | exact HB.out | apply below_alloc | apply pw_below_drewN | apply below_drew1) | exact HB.out | exact Below.refl _ _))⟩); (case side1 => repeat (first | exact (Kd.C_below HR0.out HB.out) | (with_reducible refine Kd.C_alloc ?_ _) | (with_reducible refine Kd.C_drewN ?_ _) | (with_reducible refine Kd.C_drew ?_))); (case side2 => exact HC0.out); rintro e w14 ⟨v402, rfl, ho0, hb⟩; refine ⟨_, rfl, ?_⟩; have n0_ := Aside0.mk (Kd.R_lower ho0 (below_size blw)); have n1_ := Aside0.mk (below_step blw hb); clear HB; have HO403 := n0_; have HB := n1_; clear n0_ n1_; (try clear hb); (try clear hb2); (try clear hk); (try clear hi); (try clear ho0); obtain ⟨Ao15, co15, eo15⟩ := Kd.R_slice HO403.out; subst eo15))
   go_loopg [37] kj1 (fun kq v37 w' => ∃ (x37_2 : Int), v37 = .int .i64 x37_2 ∧ Aside0 (clavigerlaw20_TreeAgain.l0 kq l0 t401 t401 (t401.length : Int) x37_2 = some r) ∧ Aside0 (kq ≤ kj1) ∧ Aside0 (Kd.R (Kd.slice 41 k41) 23 w' w.heap.size (fun _ => True) (.slice Ao15 t401.length co15) t401) ∧ Aside0 (Kd.R (Kd.slice 41 k41) 23 w' w.heap.size (fun _ => True) (.slice Ao15 t401.length co15) t401) ∧ Aside0 (Below w.heap.size w w'))
   case atStart => exact ⟨(0), rsd, H', ⟨Nat.le_refl _⟩, ⟨by (with_reducible repeat (first | apply Kd.R_alloc | apply Kd.R_drewN | apply Kd.R_drew)); exact HO403.out⟩, ⟨by (with_reducible repeat (first | apply Kd.R_alloc | apply Kd.R_drewN | apply Kd.R_drew)); exact HO403.out⟩, ⟨blw⟩⟩
   case round =>
    clear H'
    try clear c4
    try clear c7
    try clear c10
    try clear c10b0
    try clear c10b1
    try clear c12
    try clear hx392_0
    try clear hx392_1
    try clear hx392_2
    try clear hx392_3
    try clear hx392_4
    try clear p392
    try clear q392
    obtain ⟨x37_2, rfl, HA, HK2, HO_3, HO_35, HB⟩ := hrel
    cases gk with
    | zero => exact absurd HA.out (by simp [clavigerlaw20_TreeAgain.l0])
    | succ k2 =>
     have H := HA.out
     clear HA
     simp only [clavigerlaw20_TreeAgain.l0] at H
     by_cases c16 : x37_2 < (t401.length : Int)
     case pos =>
      rw [if_pos c16] at H
      have c16b0 : decide (x37_2 < (t401.length : Int)) = true := decide_eq_true c16
      clear c16
      by_cases c17 : 0 ≤ x37_2
      case neg =>
       rw [if_neg c17] at H
       exact absurd H (by simp)
      rw [if_pos c17] at H
      have c17b0 : decide (0 ≤ x37_2) = true := decide_eq_true c17
      clear c17
      by_cases c18 : x37_2 < (t401.length : Int)
      case neg =>
       rw [if_neg c18] at H
       exact absurd H (by simp)
      rw [if_pos c18] at H
      have c18b0 : decide (x37_2 < (t401.length : Int)) = true := decide_eq_true c18
      clear c18
      replace H := Option.bind_eq_some_iff.mp H
      obtain ⟨t412, A190, H⟩ := H
      replace H : (if t412 = true then ((tree_Depth.f k2 (rd_L9 t401 x37_2)).bind fun t413 => ((tree_Depth.f k2 l0).bind fun t414 => (if t413 ≥ t414 then (some false) else (clavigerlaw20_TreeAgain.l0 k2 l0 t401 t401 (t401.length : Int) (wrap64 (x37_2 + 1)))))) else (some false)) = some r := H
      have A19 := Aside0.mk A190
      clear A190
      by_cases c20 : t412 = true
      case neg =>
       replace c20 := Bool.eq_false_iff.mpr c20
       subst c20
       have H1 : (some false) = some r := by rw [if_neg (show ¬ (false = true) by decide)] at H; exact H
       clear H
       have H := H1
       clear H1
       exact absurd ((Option.some.inj H).trans HR_.out) (by decide)
      subst c20
      have H1 : ((tree_Depth.f k2 (rd_L9 t401 x37_2)).bind fun t413 => ((tree_Depth.f k2 l0).bind fun t414 => (if t413 ≥ t414 then (some false) else (clavigerlaw20_TreeAgain.l0 k2 l0 t401 t401 (t401.length : Int) (wrap64 (x37_2 + 1)))))) = some r := by rw [if_pos rfl] at H; exact H
      clear H
      have H := H1
      clear H1
      replace H := Option.bind_eq_some_iff.mp H
      obtain ⟨t413, A210, H⟩ := H
      replace H : ((tree_Depth.f k2 l0).bind fun t414 => (if t413 ≥ t414 then (some false) else (clavigerlaw20_TreeAgain.l0 k2 l0 t401 t401 (t401.length : Int) (wrap64 (x37_2 + 1))))) = some r := H
      have A21 := Aside0.mk A210
      clear A210
      replace H := Option.bind_eq_some_iff.mp H
      obtain ⟨t414, A220, H⟩ := H
      replace H : (if t413 ≥ t414 then (some false) else (clavigerlaw20_TreeAgain.l0 k2 l0 t401 t401 (t401.length : Int) (wrap64 (x37_2 + 1)))) = some r := H
      have A22 := Aside0.mk A220
      clear A220
      by_cases c23 : t413 ≥ t414
      case pos =>
       rw [if_pos c23] at H
       have c23b0 : decide (t414 ≤ t413) = true := decide_eq_true c23
       clear c23
       exact absurd ((Option.some.inj H).trans HR_.out) (by decide)
      rw [if_neg c23] at H
      have c23b0 : decide (t414 ≤ t413) = false := decide_eq_false c23
      clear c23
      have H' := Aside0.mk H
      clear H
      have p411 : 0 ≤ (x37_2 : Int) := odt
      have q411 : x37_2 < (t401.length : Int) := odt
      obtain ⟨ad411, A411_0, c411_0, e411, hx411_0, hl411_0, hi411_0⟩ := at_L9 (Kd.R_reads' HO_35.out).2.2 x37_2 p411 q411
      cases e411
      obtain ⟨ce411, hce411, hMe411, hcc411⟩ := Kd.R_get HO_35.out [] x37_2 p411 (by first | exact q411 | exact odt | (have e_ := (Kd.R_reads' HO_35.out).1; omega))
      obtain ⟨ve411_0, rfl, ge411_0⟩ := hMe411
      have hv411_0 := hcc411 0 _ rfl
      rw [Nat.add_zero, show ((Kd.slice 41 k41)).sz = 1 from rfl, Nat.mul_one] at hv411_0
      replace hv411_0 := Option.some.inj (hv411_0.symm.trans hx411_0)
      rw [hv411_0] at ge411_0
      have HL411_0 := Aside0.mk (show Kd.R k41 41 _ _ _ _ (rd_L9 t401 x37_2) from ge411_0)
      clear hv411_0 ge411_0
      clear hcc411 hce411
      have HR411_0 := Aside0.mk hi411_0
      have HC411_0 := Aside0.mk hl411_0
      clear hi411_0 hl411_0
      replace p411 := eq_true p411
      replace q411 := eq_true q411
      go_wp2_with (first | ((with_reducible refine gate_callee (f := 11) rfl ?_); refine goesL_ (some 42) rfl rfl Tryd.func11 (by kernel_rfl) rfl #[.slice A411_0 (rd_L9 t401 x37_2).length c411_0] rfl gargs ?_; (with_reducible refine (tree_Right.calls k2 _ _ (rd_L9 t401 x37_2) true _ ?side1 ?side2 ?tb_ A19.out).mono ?_); (case tb_ => exact ⟨TB.below HT_.out (by repeat (first | (with_reducible first | exact HB.out | apply below_alloc | apply pw_below_drewN | apply below_drew1) | exact HB.out | exact Below.refl _ _))⟩); (case side1 => repeat (first | exact (by repeat (first | (with_reducible exact HR411_0.out) | (with_reducible refine Kd.C_alloc ?_ _) | (with_reducible refine Kd.C_drewN ?_ _) | (with_reducible refine Kd.C_drew ?_) | exact HR411_0.out)) | (with_reducible refine Kd.C_alloc ?_ _) | (with_reducible refine Kd.C_drewN ?_ _) | (with_reducible refine Kd.C_drew ?_))); (case side2 => exact HC411_0.out); rintro e w24 ⟨rfl, hb⟩; refine ⟨_, rfl, ?_⟩; have n0_ := Aside0.mk (Kd.R_below (by (with_reducible repeat (first | apply Kd.R_alloc | apply Kd.R_drewN | apply Kd.R_drew)); exact HO_3.out) hb); have n1_ := Aside0.mk (Kd.R_below (by (with_reducible repeat (first | apply Kd.R_alloc | apply Kd.R_drewN | apply Kd.R_drew)); exact HO_35.out) hb); have n2_ := Aside0.mk (Kd.R_below (by (with_reducible repeat (first | apply Kd.R_alloc | apply Kd.R_drewN | apply Kd.R_drew)); exact HL411_0.out) hb); have n3_ := Aside0.mk (Kd.C_below (by repeat (first | (with_reducible exact HR411_0.out) | (with_reducible refine Kd.C_alloc ?_ _) | (with_reducible refine Kd.C_drewN ?_ _) | (with_reducible refine Kd.C_drew ?_) | exact HR411_0.out)) hb); have n4_ := Aside0.mk (below_step blw hb); clear HO_3; clear HO_35; clear HL411_0; clear HR411_0; clear HB; have HO_3 := n0_; have HO_35 := n1_; have HL411_0 := n2_; have HR411_0 := n3_; have HB := n4_; clear n0_ n1_ n2_ n3_ n4_; (try clear hb); (try clear hb2); (try clear hk); (try clear hi)) | (go_at_call 14; (with_reducible refine (tree_Depth.calls k2 _ _ (rd_L9 t401 x37_2) t413 _ ?side1 ?side2 ?tb_ A21.out).mono ?_); (case tb_ => exact ⟨TB.below HT_.out (by repeat (first | (with_reducible first | exact HB.out | apply below_alloc | apply pw_below_drewN | apply below_drew1) | exact HB.out | exact Below.refl _ _))⟩); (case side1 => repeat (first | exact (by repeat (first | (with_reducible exact HR411_0.out) | (with_reducible refine Kd.C_alloc ?_ _) | (with_reducible refine Kd.C_drewN ?_ _) | (with_reducible refine Kd.C_drew ?_) | exact HR411_0.out)) | (with_reducible refine Kd.C_alloc ?_ _) | (with_reducible refine Kd.C_drewN ?_ _) | (with_reducible refine Kd.C_drew ?_))); (case side2 => exact HC411_0.out); rintro e w25 ⟨rfl, hb⟩; have n0_ := Aside0.mk (Kd.R_below (by (with_reducible repeat (first | apply Kd.R_alloc | apply Kd.R_drewN | apply Kd.R_drew)); exact HO_3.out) hb); have n1_ := Aside0.mk (Kd.R_below (by (with_reducible repeat (first | apply Kd.R_alloc | apply Kd.R_drewN | apply Kd.R_drew)); exact HO_35.out) hb); have n2_ := Aside0.mk (Kd.R_below (by (with_reducible repeat (first | apply Kd.R_alloc | apply Kd.R_drewN | apply Kd.R_drew)); exact HL411_0.out) hb); have n3_ := Aside0.mk (Kd.C_below (by repeat (first | (with_reducible exact HR411_0.out) | (with_reducible refine Kd.C_alloc ?_ _) | (with_reducible refine Kd.C_drewN ?_ _) | (with_reducible refine Kd.C_drew ?_) | exact HR411_0.out)) hb); have n4_ := Aside0.mk (below_step blw hb); clear HO_3; clear HO_35; clear HL411_0; clear HR411_0; clear HB; have HO_3 := n0_; have HO_35 := n1_; have HL411_0 := n2_; have HR411_0 := n3_; have HB := n4_; clear n0_ n1_ n2_ n3_ n4_; (try clear hb); (try clear hb2); (try clear hk); (try clear hi)) | (go_at_call 14; (with_reducible refine (tree_Depth.calls k2 _ _ l0 t414 _ ?side1 ?side2 ?tb_ A22.out).mono ?_); (case tb_ => exact ⟨TB.below HT_.out (by repeat (first | (with_reducible first | exact HB.out | apply below_alloc | apply pw_below_drewN | apply below_drew1) | exact HB.out | exact Below.refl _ _))⟩); (case side1 => repeat (first | exact (Kd.C_below HR0.out HB.out) | (with_reducible refine Kd.C_alloc ?_ _) | (with_reducible refine Kd.C_drewN ?_ _) | (with_reducible refine Kd.C_drew ?_))); (case side2 => exact HC0.out); rintro e w26 ⟨rfl, hb⟩; have n0_ := Aside0.mk (Kd.R_below (by (with_reducible repeat (first | apply Kd.R_alloc | apply Kd.R_drewN | apply Kd.R_drew)); exact HO_3.out) hb); have n1_ := Aside0.mk (Kd.R_below (by (with_reducible repeat (first | apply Kd.R_alloc | apply Kd.R_drewN | apply Kd.R_drew)); exact HO_35.out) hb); have n2_ := Aside0.mk (Kd.R_below (by (with_reducible repeat (first | apply Kd.R_alloc | apply Kd.R_drewN | apply Kd.R_drew)); exact HL411_0.out) hb); have n3_ := Aside0.mk (Kd.C_below (by repeat (first | (with_reducible exact HR411_0.out) | (with_reducible refine Kd.C_alloc ?_ _) | (with_reducible refine Kd.C_drewN ?_ _) | (with_reducible refine Kd.C_drew ?_) | exact HR411_0.out)) hb); have n4_ := Aside0.mk (below_step blw hb); clear HO_3; clear HO_35; clear HL411_0; clear HR411_0; clear HB; have HO_3 := n0_; have HO_35 := n1_; have HL411_0 := n2_; have HR411_0 := n3_; have HB := n4_; clear n0_ n1_ n2_ n3_ n4_; (try clear hb); (try clear hb2); (try clear hk); (try clear hi)))
      go_roundg k2
      case measure => have := HJ1.out; have := HK2.out; omega
      case rel => exact ⟨(wrap64 (x37_2 + 1)), rsd, H', ⟨by have := HJ1.out; have := HK2.out; omega⟩, ⟨by (with_reducible repeat (first | apply Kd.R_alloc | apply Kd.R_drewN | apply Kd.R_drew)); exact HO_3.out⟩, ⟨by (with_reducible repeat (first | apply Kd.R_alloc | apply Kd.R_drewN | apply Kd.R_drew)); exact HO_35.out⟩, ⟨blw⟩⟩
     rw [if_neg c16] at H
     have c16b0 : decide (x37_2 < (t401.length : Int)) = false := decide_eq_false c16
     clear c16
     by_cases c27 : 0 < (l0.length : Int)
     case neg =>
      rw [if_neg c27] at H
      exact absurd H (by simp)
     rw [if_pos c27] at H
     have c27b0 : decide (0 < (l0.length : Int)) = true := decide_eq_true c27
     have c27b1 : decide (0 < l0.length) = true := decide_eq_true (by omega)
     clear c27
     replace H := Option.bind_eq_some_iff.mp H
     obtain ⟨t406, A280, H⟩ := H
     replace H : ((clavigerplain_Same.f k2 t406 l0).bind fun t409 => (if t409 = true then ((clavigerlaw20_awake.f k2).bind fun t410 => (some t410)) else (some false))) = some r := H
     have A28 := Aside0.mk A280
     clear A280
     replace H := Option.bind_eq_some_iff.mp H
     obtain ⟨t409, A290, H⟩ := H
     replace H : (if t409 = true then ((clavigerlaw20_awake.f k2).bind fun t410 => (some t410)) else (some false)) = some r := H
     have A29 := Aside0.mk A290
     clear A290
     by_cases c30 : t409 = true
     case neg =>
      replace c30 := Bool.eq_false_iff.mpr c30
      subst c30
      have H1 : (some false) = some r := by rw [if_neg (show ¬ (false = true) by decide)] at H; exact H
      clear H
      have H := H1
      clear H1
      exact absurd ((Option.some.inj H).trans HR_.out) (by decide)
     subst c30
     have H1 : ((clavigerlaw20_awake.f k2).bind fun t410 => (some t410)) = some r := by rw [if_pos rfl] at H; exact H
     clear H
     have H := H1
     clear H1
     replace H := Option.bind_eq_some_iff.mp H
     obtain ⟨t410, A310, H⟩ := H
     replace H : (some t410) = some r := H
     have A31 := Aside0.mk A310
     clear A310
     obtain rfl := Option.some.inj H
     try go_wp2
     have n0_ := Aside0.mk (Kd.R_drew HO_3.out)
     have n1_ := Aside0.mk (Kd.R_drew HO_35.out)
     have n2_ := Aside0.mk (below_drew1 HB.out)
     clear HO_3
     clear HO_35
     clear HB
     have HO_3 := n0_
     have HO_35 := n1_
     have HB := n2_
     clear n0_ n1_ n2_
     have p404 : 0 ≤ (0 : Int) := (by omega)
     have q404 : 0 < (l0.length : Int) := odt
     obtain ⟨ad404, A404_4, c404_4, e404, hx404_0, hx404_1, hx404_2, hx404_3, hx404_4, hl404_4, hi404_4⟩ := at_T41 HR0.out 0 p404 q404
     have hw404_4 := hx404_4
     (try rw [show ((0 : Int)).toNat = 0 from rfl] at hw404_4)
     (try rw [show 0 * 5 = 0 from rfl] at hw404_4)
     (try rw [Addr.add_zero'] at hw404_4)
     have hw404_3 := hx404_3
     (try rw [show ((0 : Int)).toNat = 0 from rfl] at hw404_3)
     (try rw [show 0 * 5 = 0 from rfl] at hw404_3)
     (try rw [Addr.add_zero'] at hw404_3)
     have hw404_2 := hx404_2
     (try rw [show ((0 : Int)).toNat = 0 from rfl] at hw404_2)
     (try rw [show 0 * 5 = 0 from rfl] at hw404_2)
     (try rw [Addr.add_zero'] at hw404_2)
     have hw404_1 := hx404_1
     (try rw [show ((0 : Int)).toNat = 0 from rfl] at hw404_1)
     (try rw [show 0 * 5 = 0 from rfl] at hw404_1)
     (try rw [Addr.add_zero'] at hw404_1)
     have hw404_0 := hx404_0
     (try rw [show ((0 : Int)).toNat = 0 from rfl] at hw404_0)
     (try rw [show 0 * 5 = 0 from rfl] at hw404_0)
     (try rw [Addr.add_zero'] at hw404_0)
     (try rw [← Nbq11.out] at hx404_2)
     obtain rfl : ad392 = ad404 := (by injection e404)
     have qi404 : (0 < l0.length) = True := eq_true (by omega)
     (try rw [show ((0 : Int)).toNat = 0 from rfl] at hx404_0)
     (try rw [show 0 * 5 = 0 from rfl] at hx404_0)
     (try rw [Addr.add_zero'] at hx404_0)
     (try rw [show ((0 : Int)).toNat = 0 from rfl] at hx404_1)
     (try rw [show 0 * 5 = 0 from rfl] at hx404_1)
     (try rw [Addr.add_zero'] at hx404_1)
     (try rw [show ((0 : Int)).toNat = 0 from rfl] at hx404_2)
     (try rw [show 0 * 5 = 0 from rfl] at hx404_2)
     (try rw [Addr.add_zero'] at hx404_2)
     (try rw [show ((0 : Int)).toNat = 0 from rfl] at hx404_3)
     (try rw [show 0 * 5 = 0 from rfl] at hx404_3)
     (try rw [Addr.add_zero'] at hx404_3)
     (try rw [show ((0 : Int)).toNat = 0 from rfl] at hx404_4)
     (try rw [show 0 * 5 = 0 from rfl] at hx404_4)
     (try rw [Addr.add_zero'] at hx404_4)
     replace hx404_0 := cellB hx404_0
     replace hx404_1 := cellB hx404_1
     replace hx404_2 := cellB hx404_2
     replace hx404_3 := cellB hx404_3
     replace hx404_4 := cellB hx404_4
     have HR404_4 := Aside0.mk hi404_4
     have HC404_4 := Aside0.mk hl404_4
     clear hi404_4 hl404_4
     replace p404 := eq_true p404
     replace q404 := eq_true q404
     have p405 : 0 ≤ (0 : Int) := (by omega)
     have q405 : 0 < (l0.length : Int) := odt
     obtain ⟨ad405, A405_4, c405_4, e405, hx405_0, hx405_1, hx405_2, hx405_3, hx405_4, hl405_4, hi405_4⟩ := at_T41 HR0.out 0 p405 q405
     have hw405_4 := hx405_4
     (try rw [show ((0 : Int)).toNat = 0 from rfl] at hw405_4)
     (try rw [show 0 * 5 = 0 from rfl] at hw405_4)
     (try rw [Addr.add_zero'] at hw405_4)
     have hw405_3 := hx405_3
     (try rw [show ((0 : Int)).toNat = 0 from rfl] at hw405_3)
     (try rw [show 0 * 5 = 0 from rfl] at hw405_3)
     (try rw [Addr.add_zero'] at hw405_3)
     have hw405_2 := hx405_2
     (try rw [show ((0 : Int)).toNat = 0 from rfl] at hw405_2)
     (try rw [show 0 * 5 = 0 from rfl] at hw405_2)
     (try rw [Addr.add_zero'] at hw405_2)
     have hw405_1 := hx405_1
     (try rw [show ((0 : Int)).toNat = 0 from rfl] at hw405_1)
     (try rw [show 0 * 5 = 0 from rfl] at hw405_1)
     (try rw [Addr.add_zero'] at hw405_1)
     have hw405_0 := hx405_0
     (try rw [show ((0 : Int)).toNat = 0 from rfl] at hw405_0)
     (try rw [show 0 * 5 = 0 from rfl] at hw405_0)
     (try rw [Addr.add_zero'] at hw405_0)
     (try rw [← Nbq11.out] at hx405_2)
     obtain rfl : ad392 = ad405 := (by injection e405)
     have qi405 : (0 < l0.length) = True := eq_true (by omega)
     (try rw [show ((0 : Int)).toNat = 0 from rfl] at hx405_0)
     (try rw [show 0 * 5 = 0 from rfl] at hx405_0)
     (try rw [Addr.add_zero'] at hx405_0)
     (try rw [show ((0 : Int)).toNat = 0 from rfl] at hx405_1)
     (try rw [show 0 * 5 = 0 from rfl] at hx405_1)
     (try rw [Addr.add_zero'] at hx405_1)
     (try rw [show ((0 : Int)).toNat = 0 from rfl] at hx405_2)
     (try rw [show 0 * 5 = 0 from rfl] at hx405_2)
     (try rw [Addr.add_zero'] at hx405_2)
     (try rw [show ((0 : Int)).toNat = 0 from rfl] at hx405_3)
     (try rw [show 0 * 5 = 0 from rfl] at hx405_3)
     (try rw [Addr.add_zero'] at hx405_3)
     (try rw [show ((0 : Int)).toNat = 0 from rfl] at hx405_4)
     (try rw [show 0 * 5 = 0 from rfl] at hx405_4)
     (try rw [Addr.add_zero'] at hx405_4)
     replace hx405_0 := cellB hx405_0
     replace hx405_1 := cellB hx405_1
     replace hx405_2 := cellB hx405_2
     replace hx405_3 := cellB hx405_3
     replace hx405_4 := cellB hx405_4
     have HR405_4 := Aside0.mk hi405_4
     have HC405_4 := Aside0.mk hl405_4
     clear hi405_4 hl405_4
     replace p405 := eq_true p405
     replace q405 := eq_true q405
     have ea_ := Option.some.inj (hx404_4.symm.trans hx405_4)
     injection ea_ with ea_ en_ ec_
     subst ea_
     subst ec_
     clear en_
     refine start_ (n := 16) (S := fun w' => w'.cell? ad392 = some (.int .i64 ((rd_T41 l0 0).f0)) ∧ w'.cell? ⟨ad392.block, ad392.off + 1, none⟩ = some (.int .i64 ((rd_T41 l0 0).f1)) ∧ w'.cell? ⟨ad392.block, ad392.off + 2, none⟩ = some (.bool (true)) ∧ w'.cell? ⟨ad392.block, ad392.off + 3, none⟩ = some (.string ((rd_T41 l0 0).f3)) ∧ w'.cell? ⟨ad392.block, ad392.off + 4, none⟩ = some (.slice A404_4 ((rd_T41 l0 0).f4).length c404_4) ∧ w'.cell? ad392 = some (.int .i64 ((rd_T41 l0 0).f0)) ∧ w'.cell? ⟨ad392.block, ad392.off + 1, none⟩ = some (.int .i64 ((rd_T41 l0 0).f1)) ∧ w'.cell? ⟨ad392.block, ad392.off + 2, none⟩ = some (.bool (true)) ∧ w'.cell? ⟨ad392.block, ad392.off + 3, none⟩ = some (.string ((rd_T41 l0 0).f3)) ∧ w'.cell? ⟨ad392.block, ad392.off + 4, none⟩ = some (.slice A404_4 ((rd_T41 l0 0).f4).length c404_4)) (ds := []) #[false, false, false, false, false, false, false, false, false, false, false, false, false, false, false, false] (by kernel_rfl) rfl rfl ⟨((HB.out.cell (World.block_lt_of_cell? w _ hw404_0)).trans hw404_0), ((HB.out.cell (World.block_lt_of_cell? w _ hw404_1)).trans hw404_1), ((HB.out.cell (World.block_lt_of_cell? w _ hw404_2)).trans (hw404_2.trans (by first | rfl | rw [← Nbq11.out]))), ((HB.out.cell (World.block_lt_of_cell? w _ hw404_3)).trans hw404_3), ((HB.out.cell (World.block_lt_of_cell? w _ hw404_4)).trans hw404_4), ((HB.out.cell (World.block_lt_of_cell? w _ hw405_0)).trans hw405_0), ((HB.out.cell (World.block_lt_of_cell? w _ hw405_1)).trans hw405_1), ((HB.out.cell (World.block_lt_of_cell? w _ hw405_2)).trans (hw405_2.trans (by first | rfl | rw [← Nbq11.out]))), ((HB.out.cell (World.block_lt_of_cell? w _ hw405_3)).trans hw405_3), ((HB.out.cell (World.block_lt_of_cell? w _ hw405_4)).trans hw405_4)⟩ (fun hHeld => ?_); refine with_tabW clavigerlaw20_TreeAgain.tab12 clavigerlaw20_TreeAgain.bits12 (fun HG_ HW_ => ?_)
     generalize wr.drew = w32 at HO_3 HO_35 HB HR404_4 HR405_4 hx404_0 hx404_1 hx404_2 hx404_3 hx404_4 hx405_0 hx405_1 hx405_2 hx405_3 hx405_4 hHeld ⊢
     refine pu 0 (some 52) ?_
     refine pu 1 (some 53) ?_
     refine pu 2 (some 54) ?_
     refine pu 4 (some 56) ?_
     refine pu 5 (some 57) ?_
     refine pu 6 (some 58) ?_
     refine pu 8 (some 60) ?_
     refine pu 10 (some 62) ?_
     refine take_ (i := 3) (N := some 55) (v := ?_) (a' := ?_) #[true, true, true, true, true, true, true, false, true, false, true, false, false, false, false, false] rfl rfl (take_ofW HG_.out HW_.out (by kernel_rfl)) (fun _ _ _ h => h) (Or.inl ⟨by rfl, ?_⟩) hHeld ?_ ?_
     rotate_left
     ·rintro w' ⟨s0, s1, s2, s3, s4, s5, s6, s7, s8, s9⟩
      go_simp
      with_reducible rfl
     rotate_left
     ·simp only [Act.put, List.setIfInBounds_toArray, List.set_cons_zero, List.set_cons_succ, i64_w, i32_w]
      rfl
     refine take_ (i := 7) (N := some 59) (v := ?_) (a' := ?_) #[true, true, true, true, true, true, true, true, true, false, true, false, false, false, false, false] rfl rfl (take_ofW HG_.out HW_.out (by kernel_rfl)) (fun _ _ _ h => h) (Or.inl ⟨by rfl, ?_⟩) hHeld ?_ ?_
     rotate_left
     ·rintro w' ⟨s0, s1, s2, s3, s4, s5, s6, s7, s8, s9⟩
      go_simp
      with_reducible rfl
     rotate_left
     ·simp only [Act.put, List.setIfInBounds_toArray, List.set_cons_zero, List.set_cons_succ, i64_w, i32_w]
      rfl
     refine one_ (i := 9) (N := some 61) #[true, true, true, true, true, true, true, true, true, true, true, false, false, false, false, false] rfl rfl (one_of HG_.out (by kernel_rfl)) (by decide) (fun K hK => ?_)
     refine goes_ Tryd.func19 (by kernel_rfl) rfl #[.int .i64 ((rd_T41 l0 0).f0), .int .i64 ((rd_T41 l0 0).f1), .slice Ao15 t401.length co15] (by rfl) rfl rfl gargs ?_
     with_reducible refine (tree_Of.calls k2 ((rd_T41 l0 0).f0) ((rd_T41 l0 0).f1) _ _ t401 t406 _ ?side1 ?side2 A28.out).mono ?_
     (case side1 => repeat (first | exact (Kd.R_reads' HO_3.out).2.2 | (with_reducible refine Kd.C_alloc ?_ _) | (with_reducible refine Kd.C_drewN ?_ _) | (with_reducible refine Kd.C_drew ?_)))
     (case side2 => exact (Kd.R_reads' HO_3.out).2.1)
     rintro e w33 ⟨v407, rfl, ho0, hb⟩
     refine ⟨_, rfl, ?_⟩
     have n0_ := Aside0.mk (Kd.R_elder' (by (with_reducible repeat (first | apply Kd.R_alloc | apply Kd.R_drewN | apply Kd.R_drew)); exact HO_3.out) (Kd.S_base ho0) hb)
     have n1_ := Aside0.mk (Kd.R_elder' (by (with_reducible repeat (first | apply Kd.R_alloc | apply Kd.R_drewN | apply Kd.R_drew)); exact HO_35.out) (Kd.S_base ho0) hb)
     have n2_ := Aside0.mk (Kd.S_lower ho0 (below_size blw))
     have n3_ := Aside0.mk (below_step blw hb)
     clear HO_3
     clear HO_35
     clear HB
     have HO_3 := n0_
     have HO_35 := n1_
     have HO408 := n2_
     have HB := n3_
     clear n0_ n1_ n2_ n3_
     (try clear hb)
     (try clear hb2)
     (try clear hk)
     (try clear hi)
     (try clear ho0)
     obtain ⟨Ao34, co34, eo34⟩ := Kd.S_slice HO408.out
     (first | subst eo34 | (injection eo34 with f1_ f2_ f3_; have f4_ := f1_.symm; have f5_ := f3_.symm; clear f1_ f2_ f3_; subst f4_; subst f5_))
     refine hK.out _ _ ⟨((HB.out.cell (World.block_lt_of_cell? w _ hw404_0)).trans hw404_0), ((HB.out.cell (World.block_lt_of_cell? w _ hw404_1)).trans hw404_1), ((HB.out.cell (World.block_lt_of_cell? w _ hw404_2)).trans (hw404_2.trans (by first | rfl | rw [← Nbq11.out]))), ((HB.out.cell (World.block_lt_of_cell? w _ hw404_3)).trans hw404_3), ((HB.out.cell (World.block_lt_of_cell? w _ hw404_4)).trans hw404_4), ((HB.out.cell (World.block_lt_of_cell? w _ hw405_0)).trans hw405_0), ((HB.out.cell (World.block_lt_of_cell? w _ hw405_1)).trans hw405_1), ((HB.out.cell (World.block_lt_of_cell? w _ hw405_2)).trans (hw405_2.trans (by first | rfl | rw [← Nbq11.out]))), ((HB.out.cell (World.block_lt_of_cell? w _ hw405_3)).trans hw405_3), ((HB.out.cell (World.block_lt_of_cell? w _ hw405_4)).trans hw405_4)⟩ (fun hHeld => ?_)
     clear hK K
     refine norm_ (a' := ?_) ?_ ?_
     rotate_left
     ·show Act.put _ (some 61) _ = _
      simp only [Act.put, List.setIfInBounds_toArray, List.set_cons_zero, List.set_cons_succ, i64_w, i32_w]
      rfl
     refine one_ (i := 11) (N := some 63) #[true, true, true, true, true, true, true, true, true, true, true, true, false, false, false, false] rfl rfl (one_of HG_.out (by kernel_rfl)) (by decide) (fun K hK => ?_)
     refine goes_ Tryd.func16 (by kernel_rfl) rfl #[.slice Ao34 t406.length co34, .slice (some ad392) l0.length c0] (by rfl) rfl rfl gargs ?_
     with_reducible refine (clavigerplain_Same.calls k2 _ _ t406 _ _ l0 true _ ?side1 ?side2 ?side3 ?side4 A29.out).mono ?_
     (case side1 => repeat (first | exact (Kd.S_reads' HO408.out).2.2 | (with_reducible refine Kd.C_alloc ?_ _) | (with_reducible refine Kd.C_drewN ?_ _) | (with_reducible refine Kd.C_drew ?_)))
     (case side2 => exact (Kd.S_reads' HO408.out).2.1)
     (case side3 => repeat (first | exact (Kd.C_below HR0.out HB.out) | (with_reducible refine Kd.C_alloc ?_ _) | (with_reducible refine Kd.C_drewN ?_ _) | (with_reducible refine Kd.C_drew ?_)))
     (case side4 => exact HC0.out)
     rintro e w35 ⟨rfl, hb⟩
     refine ⟨_, rfl, ?_⟩
     have n0_ := Aside0.mk (Kd.R_below (by (with_reducible repeat (first | apply Kd.R_alloc | apply Kd.R_drewN | apply Kd.R_drew)); exact HO_3.out) hb)
     have n1_ := Aside0.mk (Kd.R_below (by (with_reducible repeat (first | apply Kd.R_alloc | apply Kd.R_drewN | apply Kd.R_drew)); exact HO_35.out) hb)
     have n2_ := Aside0.mk (Kd.S_below (by (with_reducible repeat (first | apply Kd.S_alloc | apply Kd.S_drewN | apply Kd.S_drew)); exact HO408.out) hb)
     have n3_ := Aside0.mk (below_step blw hb)
     clear HO_3
     clear HO_35
     clear HO408
     clear HB
     have HO_3 := n0_
     have HO_35 := n1_
     have HO408 := n2_
     have HB := n3_
     clear n0_ n1_ n2_ n3_
     (try clear hb)
     (try clear hb2)
     (try clear hk)
     (try clear hi)
     refine hK.out _ _ ⟨((HB.out.cell (World.block_lt_of_cell? w _ hw404_0)).trans hw404_0), ((HB.out.cell (World.block_lt_of_cell? w _ hw404_1)).trans hw404_1), ((HB.out.cell (World.block_lt_of_cell? w _ hw404_2)).trans (hw404_2.trans (by first | rfl | rw [← Nbq11.out]))), ((HB.out.cell (World.block_lt_of_cell? w _ hw404_3)).trans hw404_3), ((HB.out.cell (World.block_lt_of_cell? w _ hw404_4)).trans hw404_4), ((HB.out.cell (World.block_lt_of_cell? w _ hw405_0)).trans hw405_0), ((HB.out.cell (World.block_lt_of_cell? w _ hw405_1)).trans hw405_1), ((HB.out.cell (World.block_lt_of_cell? w _ hw405_2)).trans (hw405_2.trans (by first | rfl | rw [← Nbq11.out]))), ((HB.out.cell (World.block_lt_of_cell? w _ hw405_3)).trans hw405_3), ((HB.out.cell (World.block_lt_of_cell? w _ hw405_4)).trans hw405_4)⟩ (fun hHeld => ?_)
     clear hK K
     refine norm_ (a' := ?_) ?_ ?_
     rotate_left
     ·show Act.put _ (some 63) _ = _
      simp only [Act.put, List.setIfInBounds_toArray, List.set_cons_zero, List.set_cons_succ, i64_w, i32_w]
      rfl
     refine pu 12 (some 64) ?_
     refine one_ (i := 13) (N := some 65) #[true, true, true, true, true, true, true, true, true, true, true, true, true, true, false, false] rfl rfl (one_of HG_.out (by kernel_rfl)) (by decide) (fun K hK => ?_)
     refine goes_ Tryd.func8 (by kernel_rfl) rfl #[] (by rfl) rfl rfl gargs ?_
     with_reducible refine (clavigerlaw20_awake.calls k2  t410 _ ?tb_ A31.out).mono ?_
     (case tb_ => exact ⟨TB.below HT_.out (by repeat (first | (with_reducible first | exact HB.out | apply below_alloc | apply pw_below_drewN | apply below_drew1) | exact HB.out | exact Below.refl _ _))⟩)
     rintro e w36 ⟨rfl, hb⟩
     refine ⟨_, rfl, ?_⟩
     have n0_ := Aside0.mk (Kd.R_below (by (with_reducible repeat (first | apply Kd.R_alloc | apply Kd.R_drewN | apply Kd.R_drew)); exact HO_3.out) hb)
     have n1_ := Aside0.mk (Kd.R_below (by (with_reducible repeat (first | apply Kd.R_alloc | apply Kd.R_drewN | apply Kd.R_drew)); exact HO_35.out) hb)
     have n2_ := Aside0.mk (Kd.S_below (by (with_reducible repeat (first | apply Kd.S_alloc | apply Kd.S_drewN | apply Kd.S_drew)); exact HO408.out) hb)
     have n3_ := Aside0.mk (below_step blw hb)
     clear HO_3
     clear HO_35
     clear HO408
     clear HB
     have HO_3 := n0_
     have HO_35 := n1_
     have HO408 := n2_
     have HB := n3_
     clear n0_ n1_ n2_ n3_
     (try clear hb)
     (try clear hb2)
     (try clear hk)
     (try clear hi)
     refine hK.out _ _ ⟨((HB.out.cell (World.block_lt_of_cell? w _ hw404_0)).trans hw404_0), ((HB.out.cell (World.block_lt_of_cell? w _ hw404_1)).trans hw404_1), ((HB.out.cell (World.block_lt_of_cell? w _ hw404_2)).trans (hw404_2.trans (by first | rfl | rw [← Nbq11.out]))), ((HB.out.cell (World.block_lt_of_cell? w _ hw404_3)).trans hw404_3), ((HB.out.cell (World.block_lt_of_cell? w _ hw404_4)).trans hw404_4), ((HB.out.cell (World.block_lt_of_cell? w _ hw405_0)).trans hw405_0), ((HB.out.cell (World.block_lt_of_cell? w _ hw405_1)).trans hw405_1), ((HB.out.cell (World.block_lt_of_cell? w _ hw405_2)).trans (hw405_2.trans (by first | rfl | rw [← Nbq11.out]))), ((HB.out.cell (World.block_lt_of_cell? w _ hw405_3)).trans hw405_3), ((HB.out.cell (World.block_lt_of_cell? w _ hw405_4)).trans hw405_4)⟩ (fun hHeld => ?_)
     clear hK K
     refine norm_ (a' := ?_) ?_ ?_
     rotate_left
     ·show Act.put _ (some 65) _ = _
      simp only [Act.put, List.setIfInBounds_toArray, List.set_cons_zero, List.set_cons_succ, i64_w, i32_w]
      rfl
     refine pu 14 (some 66) ?_
     refine pu 15 (some 2) ?_
     refine done_ (done_of HG_.out (by kernel_rfl)) ?_
     try go_wp2
     go_ret
     exact ⟨rse, blw⟩

def okS41 (b : S41) : Prop := (Lit.int .i64 b.f0).wf = true ∧ (Lit.int .i64 b.f1).wf = true ∧ True ∧ b.f3.size ≤ maxLen ∧ (b.f4.length ≤ maxLen ∧ ∀ a ∈ b.f4, (Lit.int .i64 a).wf = true)

/-- THE ONE PURE STATEMENT of clavigerlaw20_TreeAgain: yours. -/
def clavigerlaw20_TreeAgain.Pure : Prop := ∀ (l0 : List (S41)), l0.length ≤ maxLen → (∀ a ∈ l0, okS41 a) → ∃ k, clavigerlaw20_TreeAgain.f k l0 = some true
theorem clavigerlaw20_TreeAgain.walk (P : clavigerlaw20_TreeAgain.Pure) (A0 : Option Addr) (c0 : Nat) (l0 : List (S41)) (w : World) (hr0 : Kd.C k41 w A0 l0.length l0) (hc0 : l0.length ≤ c0) (g0_0 : l0.length ≤ maxLen) (g0_1 : (∀ a ∈ l0, okS41 a)) (HT_ : Aside0 (TB w)) :
 Calls Tryd.prog 5 #[.slice A0 l0.length c0] w fun e w' => e = .returned (.bool true) ∧ Below w.heap.size w w' := by
 obtain ⟨k, h⟩ := P l0 g0_0 g0_1
 refine (clavigerlaw20_TreeAgain.calls k A0 c0 l0 true w hr0 hc0 HT_ ⟨rfl⟩ h).mono ?_
 rintro e w' ⟨rfl, hd⟩
 exact ⟨rfl, hd⟩

end Go.Proofs.YtcbcojbhbhaimaaDoor.PTreeAgain
