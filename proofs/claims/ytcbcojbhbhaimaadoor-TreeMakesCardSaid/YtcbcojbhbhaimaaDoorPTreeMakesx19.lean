-- laid by a program out of the translation and of templates; not trusted: Lean checks it
import Derived.Test.YtcbcojbhbhaimaaDoorPTreeMakesx0
import Derived.Test.YtcbcojbhbhaimaaDoorPTreeMakesx1
import Derived.Test.YtcbcojbhbhaimaaDoorPTreeMakesx9
import Derived.Test.YtcbcojbhbhaimaaDoorPTreeMakesx10
import Derived.Test.YtcbcojbhbhaimaaDoorPTreeMakesx16
import Derived.Test.YtcbcojbhbhaimaaDoorPTreeMakesx17
import Derived.Test.YtcbcojbhbhaimaaDoorPTreeMakesx18
namespace Go.Proofs.YtcbcojbhbhaimaaDoor.PTreeMakes
open Go.RowKit Go.Proofs.YtcbcojbhbhaimaaDoorW.PrintWords Go.Proofs.YtcbcojbhbhaimaaDoorW.PrintLast Go.Proofs.YtcbcojbhbhaimaaDoorW.PrintMore
attribute [local go_sem high] c_add c_eql c_neq
attribute [local go_sem] f_store_c f_store_f f_add f_toint f_fold_eq f_fold_ne f_fold_lt f_fold_gt f_fold_le f_fold_ge
attribute [local go_sem] str_leq str_gtr str_geq max2_int min2_int max_two min_two max_three min_three max_four min_four   -- for this text's walks alone
set_option linter.unusedVariables false
set_option linter.unusedSimpArgs false

/-! ### clavigerlaw20_TreeMakes: function 4 -/
mutual
def clavigerlaw20_TreeMakes.j0 : Nat → Int → Int → ByteArray → List (List (S41)) → Bool → Option (Bool)
 | 0, _, _, _, _, _ => none
 | k + 1, x0, x1, x2, x3, x23 => if x23 = true then ((clavigerlaw20_awake.f k).bind fun t415 => (some t415)) else (clavigerlaw20_TreeMakes.l0 k x0 x1 x2 x3 x3 (x3.length : Int) 0)
def clavigerlaw20_TreeMakes.l0 : Nat → Int → Int → ByteArray → List (List (S41)) → List (List (S41)) → Int → Int → Option (Bool)
 | 0, _, _, _, _, _, _, _ => none
 | k + 1, x0, x1, x2, x3, x25, x26, x27 => if x27 < x26 then (if 0 ≤ x27 then (if x27 < (x25.length : Int) then ((clavigerplain_Tree.f k (rd_L9 x25 x27) 20).bind fun t417 => (if t417 = true then (clavigerlaw20_TreeMakes.l0 k x0 x1 x2 x3 x25 x26 (wrap64 (x27 + 1))) else ((clavigerlaw20_awake.f k).bind fun t418 => (some t418)))) else (none)) else (none)) else ((tree_Of.f k x0 x1 x3).bind fun t419 => ((clavigerref20_Of.f k x0 x1 x3).bind fun t422 => ((clavigerplain_Same.f k t419 t422).bind fun t425 => (if t425 = true then ((tree_Leaf.f x0 x1 x2).bind fun t426 => ((clavigerref20_Leaf.f x0 x1 x2).bind fun t429 => ((clavigerplain_Same.f k t426 t429).bind fun t432 => (clavigerlaw20_TreeMakes.j2 k x3 t419 (!t432))))) else (clavigerlaw20_TreeMakes.j2 k x3 t419 true)))))
def clavigerlaw20_TreeMakes.j2 : Nat → List (List (S41)) → List (S41) → Bool → Option (Bool)
 | 0, _, _, _ => none
 | k + 1, x3, x11, x58 => if x58 = true then (some false) else ((clavigerref20_Right.f k x11).bind fun t433 => (if t433 = true then ((tree_Kids.f k x11).bind fun t438 => (clavigerlaw20_TreeMakes.l1 k t438 0 x3 (x3.length : Int) 0)) else ((tree_Kids.f k x11).bind fun t434 => (if (t434.length : Int) = 0 then ((clavigerlaw20_awake.f k).bind fun t437 => (some t437)) else (some false)))))
def clavigerlaw20_TreeMakes.l1 : Nat → List (List (S41)) → Int → List (List (S41)) → Int → Int → Option (Bool)
 | 0, _, _, _, _, _ => none
 | k + 1, x12, x13, x71, x72, x73 => if x73 < x72 then (if 0 ≤ x73 then (if x73 < (x71.length : Int) then (if ((rd_L9 x71 x73).length : Int) = 0 then (clavigerlaw20_TreeMakes.l1 k x12 x13 x71 x72 (wrap64 (x73 + 1))) else (if x13 ≥ (x12.length : Int) then (some false) else (if 0 ≤ x13 then (if x13 < (x12.length : Int) then ((clavigerplain_Same.f k (rd_L9 x12 x13) (rd_L9 x71 x73)).bind fun t444 => (if t444 = true then (clavigerlaw20_TreeMakes.l1 k x12 (wrap64 (x13 + 1)) x71 x72 (wrap64 (x73 + 1))) else (some false))) else (none)) else (none)))) else (none)) else (none)) else (if x13 = (x12.length : Int) then ((clavigerlaw20_awake.f k).bind fun t441 => (some t441)) else (some false))
end
def clavigerlaw20_TreeMakes.f (k : Nat) (a0 : Int) (a1 : Int) (a2 : ByteArray) (l3 : List (List (S41))) : Option (Bool) := if (a2.size : Int) > 200 then (clavigerlaw20_TreeMakes.j0 k a0 a1 a2 l3 true) else (clavigerlaw20_TreeMakes.j0 k a0 a1 a2 l3 (decide ((l3.length : Int) > 10)))
theorem clavigerlaw20_TreeMakes.mono_l : ∀ k, (∀ y0 y1 y2 y3 y4, LeO (clavigerlaw20_TreeMakes.j0 k y0 y1 y2 y3 y4) (clavigerlaw20_TreeMakes.j0 (k + 1) y0 y1 y2 y3 y4)) ∧ (∀ y0 y1 y2 y3 y4 y5 y6, LeO (clavigerlaw20_TreeMakes.l0 k y0 y1 y2 y3 y4 y5 y6) (clavigerlaw20_TreeMakes.l0 (k + 1) y0 y1 y2 y3 y4 y5 y6)) ∧ (∀ y0 y1 y2, LeO (clavigerlaw20_TreeMakes.j2 k y0 y1 y2) (clavigerlaw20_TreeMakes.j2 (k + 1) y0 y1 y2)) ∧ (∀ y0 y1 y2 y3 y4, LeO (clavigerlaw20_TreeMakes.l1 k y0 y1 y2 y3 y4) (clavigerlaw20_TreeMakes.l1 (k + 1) y0 y1 y2 y3 y4))
 | 0 => ⟨fun _ _ _ _ _ r h => by simp [clavigerlaw20_TreeMakes.j0] at h, fun _ _ _ _ _ _ _ r h => by simp [clavigerlaw20_TreeMakes.l0] at h, fun _ _ _ r h => by simp [clavigerlaw20_TreeMakes.j2] at h, fun _ _ _ _ _ r h => by simp [clavigerlaw20_TreeMakes.l1] at h⟩
 | k + 1 => by
  obtain ⟨ih0, ih1, ih2, ih3⟩ := clavigerlaw20_TreeMakes.mono_l k
  refine ⟨?_, ?_, ?_, ?_⟩ <;> intros <;> first | unfold clavigerlaw20_TreeMakes.j0 | unfold clavigerlaw20_TreeMakes.l0 | unfold clavigerlaw20_TreeMakes.j2 | unfold clavigerlaw20_TreeMakes.l1
  all_goals repeat' first
  | (with_reducible exact ih0 _ _ _ _ _)
  | (with_reducible exact ih1 _ _ _ _ _ _ _)
  | (with_reducible exact ih2 _ _ _)
  | (with_reducible exact ih3 _ _ _ _ _)
  | (with_reducible exact clavigerlaw20_awake.mono _)
  | (with_reducible exact clavigerplain_Same.mono _ _ _)
  | (with_reducible exact clavigerplain_Tree.mono _ _ _)
  | (with_reducible exact clavigerref20_Of.mono _ _ _ _)
  | (with_reducible exact clavigerref20_Right.mono _ _)
  | (with_reducible exact tree_Kids.mono _ _)
  | (with_reducible exact tree_Of.mono _ _ _ _)
  | (with_reducible exact LeO.refl _)
  | (with_reducible exact LeO.none _)
  | (with_reducible refine LeO.ite ?_ ?_)
  | (with_reducible refine LeO.bind ?_ (fun _ => ?_))
  | exact ih0 _ _ _ _ _
  | exact ih1 _ _ _ _ _ _ _
  | exact ih2 _ _ _
  | exact ih3 _ _ _ _ _
  | exact clavigerlaw20_awake.mono _
  | exact clavigerplain_Same.mono _ _ _
  | exact clavigerplain_Tree.mono _ _ _
  | exact clavigerref20_Of.mono _ _ _ _
  | exact clavigerref20_Right.mono _ _
  | exact tree_Kids.mono _ _
  | exact tree_Of.mono _ _ _ _
  | exact LeO.none _
  | refine LeO.ite ?_ ?_
  | refine LeO.bind ?_ (fun _ => ?_)
theorem clavigerlaw20_TreeMakes.mono : ∀ a0 a1 a2 a3 k, LeO (clavigerlaw20_TreeMakes.f k a0 a1 a2 a3) (clavigerlaw20_TreeMakes.f (k + 1) a0 a1 a2 a3) := by
 intro a0 a1 a2 a3 k
 obtain ⟨ih0, ih1, ih2, ih3⟩ := clavigerlaw20_TreeMakes.mono_l k
 unfold clavigerlaw20_TreeMakes.f
 repeat' first
  | (with_reducible exact ih0 _ _ _ _ _)
  | (with_reducible exact ih1 _ _ _ _ _ _ _)
  | (with_reducible exact ih2 _ _ _)
  | (with_reducible exact ih3 _ _ _ _ _)
  | (with_reducible exact clavigerlaw20_awake.mono _)
  | (with_reducible exact clavigerplain_Same.mono _ _ _)
  | (with_reducible exact clavigerplain_Tree.mono _ _ _)
  | (with_reducible exact clavigerref20_Of.mono _ _ _ _)
  | (with_reducible exact clavigerref20_Right.mono _ _)
  | (with_reducible exact tree_Kids.mono _ _)
  | (with_reducible exact tree_Of.mono _ _ _ _)
  | (with_reducible exact LeO.refl _)
  | (with_reducible exact LeO.none _)
  | (with_reducible refine LeO.ite ?_ ?_)
  | (with_reducible refine LeO.bind ?_ (fun _ => ?_))
  | exact ih0 _ _ _ _ _
  | exact ih1 _ _ _ _ _ _ _
  | exact ih2 _ _ _
  | exact ih3 _ _ _ _ _
  | exact clavigerlaw20_awake.mono _
  | exact clavigerplain_Same.mono _ _ _
  | exact clavigerplain_Tree.mono _ _ _
  | exact clavigerref20_Of.mono _ _ _ _
  | exact clavigerref20_Right.mono _ _
  | exact tree_Kids.mono _ _
  | exact tree_Of.mono _ _ _ _
  | exact LeO.none _
  | refine LeO.ite ?_ ?_
  | refine LeO.bind ?_ (fun _ => ?_)
set_option maxHeartbeats 8000000 in
set_option maxRecDepth 100000 in
theorem clavigerlaw20_TreeMakes.calls (k : Nat) (a0 : Int) (a1 : Int) (a2 : ByteArray) (A3 : Option Addr) (c3 : Nat) (l3 : List (List (S41))) (r : Bool) (w : World) (hr3 : Kd.C (Kd.slice 41 k41) w A3 l3.length l3) (hc3 : l3.length ≤ c3) (HT_ : Aside0 (TB w)) (HR_ : Aside0 (r = true)) (h : clavigerlaw20_TreeMakes.f k a0 a1 a2 l3 = some r) :
 Calls Tryd.prog 4 #[.int .i64 a0, .int .i64 a1, .string a2, .slice A3 l3.length c3] w fun e w' => e = .returned (.bool r) ∧ Below w.heap.size w w' := by
 have HR3 := Aside0.mk hr3
 have HC3 := Aside0.mk hc3
 clear hr3 hc3
 have HB := Aside0.mk (Below.refl w.heap.size w)
 have H : (if (a2.size : Int) > 200 then (clavigerlaw20_TreeMakes.j0 k a0 a1 a2 l3 true) else (clavigerlaw20_TreeMakes.j0 k a0 a1 a2 l3 (decide ((l3.length : Int) > 10)))) = some r := h
 clear h
 have HC5 := Aside0.mk H
 clear H
 go_enter Tryd.func4, Tryd.ntmps4
 go_upto_region 1 with (fail)
 go_cut [23] (fun v23 wc => ∃ (kq : Nat) (x23_4 : Bool), v23 = .bool x23_4 ∧ Aside0 (clavigerlaw20_TreeMakes.j0 kq a0 a1 a2 l3 x23_4 = some r) ∧ Aside0 (kq ≤ k) ∧ Aside0 (Below w.heap.size w wc))
 case first =>
  have H := HC5.out
  clear HC5
  by_cases c6 : (a2.size : Int) > 200
  case neg =>
   rw [if_neg c6] at H
   have c6b0 : decide (200 < (a2.size : Int)) = false := decide_eq_false c6
   have c6b1 : decide (200 < a2.size) = false := decide_eq_false (by omega)
   clear c6
   (first | rw [c6b0] | (simp only [i64_w, i32_w]; rw [c6b0]) | rw [c6b1] | skip)
   have H' := Aside0.mk H
   clear H
   go_wp2
   go_meet
   case rel => exact ⟨_, (decide ((l3.length : Int) > 10)), rsd, H', ⟨by first | omega | exact Nat.le_refl _⟩, ⟨blw⟩⟩
  rw [if_pos c6] at H
  have c6b0 : decide (200 < (a2.size : Int)) = true := decide_eq_true c6
  have c6b1 : decide (200 < a2.size) = true := decide_eq_true (by omega)
  clear c6
  (first | rw [c6b0] | (simp only [i64_w, i32_w]; rw [c6b0]) | rw [c6b1] | skip)
  have H' := Aside0.mk H
  clear H
  go_wp2
  go_meet
  case rel => exact ⟨_, (true), rsd, H', ⟨by first | omega | exact Nat.le_refl _⟩, ⟨blw⟩⟩
 case rest =>
  clear HC5
  try clear c3
  try clear c6
  try clear c6b0
  try clear c6b1
  obtain ⟨kq, x23_4, rfl, HA, HJ4, HB⟩ := hcut
  cases kq with
  | zero => exact absurd HA.out (by simp [clavigerlaw20_TreeMakes.j0])
  | succ kj4 =>
   have H := HA.out
   clear HA
   simp only [clavigerlaw20_TreeMakes.j0] at H
   by_cases c7 : x23_4 = true
   case pos =>
    subst c7
    have H1 : ((clavigerlaw20_awake.f kj4).bind fun t415 => (some t415)) = some r := by rw [if_pos rfl] at H; exact H
    clear H
    have H := H1
    clear H1
    replace H := Option.bind_eq_some_iff.mp H
    obtain ⟨t415, A80, H⟩ := H
    replace H : (some t415) = some r := H
    have A8 := Aside0.mk A80
    clear A80
    obtain rfl := Option.some.inj H
    go_wp2_with (first | ((with_reducible refine gate_callee (f := 8) rfl ?_); refine goesL_ (some 24) rfl rfl Tryd.func8 (by kernel_rfl) rfl #[] rfl gargs ?_; (with_reducible refine (clavigerlaw20_awake.calls kj4  t415 _ ?tb_ A8.out).mono ?_); (case tb_ => exact ⟨TB.below HT_.out (by repeat (first | (with_reducible first | exact HB.out | apply below_alloc | apply pw_below_drewN | apply below_drew1) | exact HB.out | exact Below.refl _ _))⟩); rintro e w9 ⟨rfl, hb⟩; refine ⟨_, rfl, ?_⟩; have n0_ := Aside0.mk (below_step blw hb); clear HB; have HB := n0_; clear n0_; (try clear hb); (try clear hb2); (try clear hk); (try clear hi)))
    go_ret
    exact ⟨rse, blw⟩
   replace c7 := Bool.eq_false_iff.mpr c7
   subst c7
   have H1 : (clavigerlaw20_TreeMakes.l0 kj4 a0 a1 a2 l3 l3 (l3.length : Int) 0) = some r := by rw [if_neg (show ¬ (false = true) by decide)] at H; exact H
   clear H
   have H := H1
   clear H1
   have H' := Aside0.mk H
   clear H
   go_wp2
   go_loopg [27] kj4 (fun kq v27 w' => ∃ (x27_2 : Int), v27 = .int .i64 x27_2 ∧ Aside0 (clavigerlaw20_TreeMakes.l0 kq a0 a1 a2 l3 l3 (l3.length : Int) x27_2 = some r) ∧ Aside0 (kq ≤ kj4) ∧ Aside0 (Below w.heap.size w w'))
   case atStart => exact ⟨(0), rsd, H', ⟨Nat.le_refl _⟩, ⟨blw⟩⟩
   case round =>
    clear H'
    try clear c3
    try clear c6
    try clear c6b0
    try clear c6b1
    try clear c7
    obtain ⟨x27_2, rfl, HA, HK2, HB⟩ := hrel
    cases gk with
    | zero => exact absurd HA.out (by simp [clavigerlaw20_TreeMakes.l0])
    | succ k2 =>
     have H := HA.out
     clear HA
     simp only [clavigerlaw20_TreeMakes.l0] at H
     by_cases c10 : x27_2 < (l3.length : Int)
     case pos =>
      rw [if_pos c10] at H
      have c10b0 : decide (x27_2 < (l3.length : Int)) = true := decide_eq_true c10
      clear c10
      by_cases c11 : 0 ≤ x27_2
      case neg =>
       rw [if_neg c11] at H
       exact absurd H (by simp)
      rw [if_pos c11] at H
      have c11b0 : decide (0 ≤ x27_2) = true := decide_eq_true c11
      clear c11
      by_cases c12 : x27_2 < (l3.length : Int)
      case neg =>
       rw [if_neg c12] at H
       exact absurd H (by simp)
      rw [if_pos c12] at H
      have c12b0 : decide (x27_2 < (l3.length : Int)) = true := decide_eq_true c12
      clear c12
      replace H := Option.bind_eq_some_iff.mp H
      obtain ⟨t417, A130, H⟩ := H
      replace H : (if t417 = true then (clavigerlaw20_TreeMakes.l0 k2 a0 a1 a2 l3 l3 (l3.length : Int) (wrap64 (x27_2 + 1))) else ((clavigerlaw20_awake.f k2).bind fun t418 => (some t418))) = some r := H
      have A13 := Aside0.mk A130
      clear A130
      by_cases c14 : t417 = true
      case pos =>
       subst c14
       have H1 : (clavigerlaw20_TreeMakes.l0 k2 a0 a1 a2 l3 l3 (l3.length : Int) (wrap64 (x27_2 + 1))) = some r := by rw [if_pos rfl] at H; exact H
       clear H
       have H := H1
       clear H1
       have H' := Aside0.mk H
       clear H
       have p416 : 0 ≤ (x27_2 : Int) := odt
       have q416 : x27_2 < (l3.length : Int) := odt
       obtain ⟨ad416, A416_0, c416_0, e416, hx416_0, hl416_0, hi416_0⟩ := at_L9 HR3.out x27_2 p416 q416
       cases e416
       replace hx416_0 := cellB hx416_0
       have HR416_0 := Aside0.mk hi416_0
       have HC416_0 := Aside0.mk hl416_0
       clear hi416_0 hl416_0
       replace p416 := eq_true p416
       replace q416 := eq_true q416
       go_wp2_with (first | ((with_reducible refine gate_callee (f := 7) rfl ?_); refine goesL_ (some 32) rfl rfl Tryd.func7 (by kernel_rfl) rfl #[.slice A416_0 (rd_L9 l3 x27_2).length c416_0, .int .i64 20] rfl gargs ?_; (with_reducible refine (clavigerplain_Tree.calls k2 _ _ (rd_L9 l3 x27_2) 20 true _ ?side1 ?side2 A13.out).mono ?_); (case side1 => repeat (first | exact (Kd.C_below HR416_0.out HB.out) | (with_reducible refine Kd.C_alloc ?_ _) | (with_reducible refine Kd.C_drewN ?_ _) | (with_reducible refine Kd.C_drew ?_))); (case side2 => exact HC416_0.out); rintro e w' ⟨rfl, ⟨nd, rfl⟩⟩; refine ⟨_, rfl, ?_⟩))
       go_roundg k2
       case measure => have := HJ4.out; have := HK2.out; omega
       case rel => exact ⟨(wrap64 (x27_2 + 1)), rsd, H', ⟨by have := HJ4.out; have := HK2.out; omega⟩, ⟨blw⟩⟩
      replace c14 := Bool.eq_false_iff.mpr c14
      subst c14
      have H1 : ((clavigerlaw20_awake.f k2).bind fun t418 => (some t418)) = some r := by rw [if_neg (show ¬ (false = true) by decide)] at H; exact H
      clear H
      have H := H1
      clear H1
      replace H := Option.bind_eq_some_iff.mp H
      obtain ⟨t418, A150, H⟩ := H
      replace H : (some t418) = some r := H
      have A15 := Aside0.mk A150
      clear A150
      obtain rfl := Option.some.inj H
      have p416 : 0 ≤ (x27_2 : Int) := odt
      have q416 : x27_2 < (l3.length : Int) := odt
      obtain ⟨ad416, A416_0, c416_0, e416, hx416_0, hl416_0, hi416_0⟩ := at_L9 HR3.out x27_2 p416 q416
      cases e416
      replace hx416_0 := cellB hx416_0
      have HR416_0 := Aside0.mk hi416_0
      have HC416_0 := Aside0.mk hl416_0
      clear hi416_0 hl416_0
      replace p416 := eq_true p416
      replace q416 := eq_true q416
      go_wp2_with (first | ((with_reducible refine gate_callee (f := 7) rfl ?_); refine goesL_ (some 32) rfl rfl Tryd.func7 (by kernel_rfl) rfl #[.slice A416_0 (rd_L9 l3 x27_2).length c416_0, .int .i64 20] rfl gargs ?_; (with_reducible refine (clavigerplain_Tree.calls k2 _ _ (rd_L9 l3 x27_2) 20 false _ ?side1 ?side2 A13.out).mono ?_); (case side1 => repeat (first | exact (Kd.C_below HR416_0.out HB.out) | (with_reducible refine Kd.C_alloc ?_ _) | (with_reducible refine Kd.C_drewN ?_ _) | (with_reducible refine Kd.C_drew ?_))); (case side2 => exact HC416_0.out); rintro e w' ⟨rfl, ⟨nd, rfl⟩⟩; refine ⟨_, rfl, ?_⟩) | ((with_reducible refine gate_callee (f := 8) rfl ?_); refine goesL_ (some 34) rfl rfl Tryd.func8 (by kernel_rfl) rfl #[] rfl gargs ?_; (with_reducible refine (clavigerlaw20_awake.calls k2  t418 _ ?tb_ A15.out).mono ?_); (case tb_ => exact ⟨TB.below HT_.out (by repeat (first | (with_reducible first | exact HB.out | apply below_alloc | apply pw_below_drewN | apply below_drew1) | exact HB.out | exact Below.refl _ _))⟩); rintro e w16 ⟨rfl, hb⟩; refine ⟨_, rfl, ?_⟩; have n0_ := Aside0.mk (below_step blw hb); clear HB; have HB := n0_; clear n0_; (try clear hb); (try clear hb2); (try clear hk); (try clear hi)))
      go_ret
      exact ⟨rse, blw⟩
     rw [if_neg c10] at H
     have c10b0 : decide (x27_2 < (l3.length : Int)) = false := decide_eq_false c10
     clear c10
     replace H := Option.bind_eq_some_iff.mp H
     obtain ⟨t419, A170, H⟩ := H
     replace H : ((clavigerref20_Of.f k2 a0 a1 l3).bind fun t422 => ((clavigerplain_Same.f k2 t419 t422).bind fun t425 => (if t425 = true then ((tree_Leaf.f a0 a1 a2).bind fun t426 => ((clavigerref20_Leaf.f a0 a1 a2).bind fun t429 => ((clavigerplain_Same.f k2 t426 t429).bind fun t432 => (clavigerlaw20_TreeMakes.j2 k2 l3 t419 (!t432))))) else (clavigerlaw20_TreeMakes.j2 k2 l3 t419 true)))) = some r := H
     have A17 := Aside0.mk A170
     clear A170
     have HC18 := Aside0.mk H
     clear H
     go_upto_region 10 with (first | ((with_reducible refine gate_callee (f := 19) rfl ?_); refine goesL_ (some 39) rfl rfl Tryd.func19 (by kernel_rfl) rfl #[.int .i64 a0, .int .i64 a1, .slice A3 l3.length c3] rfl gargs ?_; (with_reducible refine (tree_Of.calls k2 a0 a1 _ _ l3 t419 _ ?side1 ?side2 A17.out).mono ?_); (case side1 => repeat (first | exact (Kd.C_below HR3.out HB.out) | (with_reducible refine Kd.C_alloc ?_ _) | (with_reducible refine Kd.C_drewN ?_ _) | (with_reducible refine Kd.C_drew ?_))); (case side2 => exact HC3.out); rintro e w19 ⟨v420, rfl, ho0, hb⟩; refine ⟨_, rfl, ?_⟩; have n0_ := Aside0.mk (Kd.S_lower ho0 (below_size blw)); have n1_ := Aside0.mk (below_step blw hb); clear HB; have HO421 := n0_; have HB := n1_; clear n0_ n1_; (try clear hb); (try clear hb2); (try clear hk); (try clear hi); (try clear ho0)))
     (try simp only [Act.put, List.setIfInBounds_toArray, List.set_cons_zero, List.set_cons_succ])
     go_cut [58] (fun v58 wc => ∃ (kq : Nat) (x58_17 : Bool), v58 = .bool x58_17 ∧ Aside0 (clavigerlaw20_TreeMakes.j2 kq l3 t419 x58_17 = some r) ∧ Aside0 (kq ≤ k2) ∧ Aside0 (Kd.S k41 41 wc w.heap.size (fun _ => True) v420 t419) ∧ Aside0 (Below w.heap.size w wc))
     case first =>
      have H := HC18.out
      clear HC18
      replace H := Option.bind_eq_some_iff.mp H
      obtain ⟨t422, A200, H⟩ := H
      replace H : ((clavigerplain_Same.f k2 t419 t422).bind fun t425 => (if t425 = true then ((tree_Leaf.f a0 a1 a2).bind fun t426 => ((clavigerref20_Leaf.f a0 a1 a2).bind fun t429 => ((clavigerplain_Same.f k2 t426 t429).bind fun t432 => (clavigerlaw20_TreeMakes.j2 k2 l3 t419 (!t432))))) else (clavigerlaw20_TreeMakes.j2 k2 l3 t419 true))) = some r := H
      have A20 := Aside0.mk A200
      clear A200
      replace H := Option.bind_eq_some_iff.mp H
      obtain ⟨t425, A210, H⟩ := H
      replace H : (if t425 = true then ((tree_Leaf.f a0 a1 a2).bind fun t426 => ((clavigerref20_Leaf.f a0 a1 a2).bind fun t429 => ((clavigerplain_Same.f k2 t426 t429).bind fun t432 => (clavigerlaw20_TreeMakes.j2 k2 l3 t419 (!t432))))) else (clavigerlaw20_TreeMakes.j2 k2 l3 t419 true)) = some r := H
      have A21 := Aside0.mk A210
      clear A210
      by_cases c22 : t425 = true
      case neg =>
       replace c22 := Bool.eq_false_iff.mpr c22
       subst c22
       have H1 : (clavigerlaw20_TreeMakes.j2 k2 l3 t419 true) = some r := by rw [if_neg (show ¬ (false = true) by decide)] at H; exact H
       clear H
       have H := H1
       clear H1
       have H' := Aside0.mk H
       clear H
       go_wp2_with (first | ((with_reducible refine gate_callee (f := 20) rfl ?_); refine goesL_ (some 44) rfl rfl Tryd.func20 (by kernel_rfl) rfl #[.int .i64 a0, .int .i64 a1, .slice A3 l3.length c3] rfl gargs ?_; (with_reducible refine (clavigerref20_Of.calls k2 a0 a1 _ _ l3 t422 _ ?side1 ?side2 A20.out).mono ?_); (case side1 => repeat (first | exact (Kd.C_below HR3.out HB.out) | (with_reducible refine Kd.C_alloc ?_ _) | (with_reducible refine Kd.C_drewN ?_ _) | (with_reducible refine Kd.C_drew ?_))); (case side2 => exact HC3.out); rintro e w35 ⟨v423, rfl, ho0, hb⟩; refine ⟨_, rfl, ?_⟩; have n0_ := Aside0.mk (Kd.S_elder' (by (with_reducible repeat (first | apply Kd.S_alloc | apply Kd.S_drewN | apply Kd.S_drew)); exact HO421.out) (Kd.S_base ho0) hb); have n1_ := Aside0.mk (Kd.S_lower (Kd.S_new' ho0 (Kd.S_lt (by (with_reducible repeat (first | apply Kd.S_alloc | apply Kd.S_drewN | apply Kd.S_drew)); exact HO421.out))) (below_size blw)); have n2_ := Aside0.mk (below_step blw hb); clear HO421; clear HB; have HO421 := n0_; have HO424 := n1_; have HB := n2_; clear n0_ n1_ n2_; (try clear hb); (try clear hb2); (try clear hk); (try clear hi); (try clear ho0); obtain ⟨Ao36, co36, eo36⟩ := Kd.S_slice HO421.out; subst eo36; obtain ⟨Ao37, co37, eo37⟩ := Kd.S_slice HO424.out; subst eo37) | ((with_reducible refine gate_callee (f := 16) rfl ?_); refine goesL_ (some 45) rfl rfl Tryd.func16 (by kernel_rfl) rfl #[.slice Ao36 t419.length co36, .slice Ao37 t422.length co37] rfl gargs ?_; (with_reducible refine (clavigerplain_Same.calls k2 _ _ t419 _ _ t422 false _ ?side1 ?side2 ?side3 ?side4 A21.out).mono ?_); (case side1 => repeat (first | exact (Kd.S_reads' HO421.out).2.2 | (with_reducible refine Kd.C_alloc ?_ _) | (with_reducible refine Kd.C_drewN ?_ _) | (with_reducible refine Kd.C_drew ?_))); (case side2 => exact (Kd.S_reads' HO421.out).2.1); (case side3 => repeat (first | exact (Kd.S_reads' HO424.out).2.2 | (with_reducible refine Kd.C_alloc ?_ _) | (with_reducible refine Kd.C_drewN ?_ _) | (with_reducible refine Kd.C_drew ?_))); (case side4 => exact (Kd.S_reads' HO424.out).2.1); rintro e w38 ⟨rfl, hb⟩; refine ⟨_, rfl, ?_⟩; have n0_ := Aside0.mk (Kd.S_below (by (with_reducible repeat (first | apply Kd.S_alloc | apply Kd.S_drewN | apply Kd.S_drew)); exact HO421.out) hb); have n1_ := Aside0.mk (Kd.S_below (by (with_reducible repeat (first | apply Kd.S_alloc | apply Kd.S_drewN | apply Kd.S_drew)); exact HO424.out) hb); have n2_ := Aside0.mk (below_step blw hb); clear HO421; clear HO424; clear HB; have HO421 := n0_; have HO424 := n1_; have HB := n2_; clear n0_ n1_ n2_; (try clear hb); (try clear hb2); (try clear hk); (try clear hi)))
       go_meet
       case rel => exact ⟨_, (true), rsd, H', ⟨by have := HJ4.out; have := HK2.out; first | omega | exact Nat.le_refl _⟩, ⟨by (with_reducible repeat (first | apply Kd.S_alloc | apply Kd.S_drewN | apply Kd.S_drew)); exact Kd.S_mono HO421.out (fun _ hk => trivial)⟩, ⟨blw⟩⟩
      subst c22
      have H1 : ((tree_Leaf.f a0 a1 a2).bind fun t426 => ((clavigerref20_Leaf.f a0 a1 a2).bind fun t429 => ((clavigerplain_Same.f k2 t426 t429).bind fun t432 => (clavigerlaw20_TreeMakes.j2 k2 l3 t419 (!t432))))) = some r := by rw [if_pos rfl] at H; exact H
      clear H
      have H := H1
      clear H1
      replace H := Option.bind_eq_some_iff.mp H
      obtain ⟨t426, A230, H⟩ := H
      replace H : ((clavigerref20_Leaf.f a0 a1 a2).bind fun t429 => ((clavigerplain_Same.f k2 t426 t429).bind fun t432 => (clavigerlaw20_TreeMakes.j2 k2 l3 t419 (!t432)))) = some r := H
      have A23 := Aside0.mk A230
      clear A230
      replace H := Option.bind_eq_some_iff.mp H
      obtain ⟨t429, A240, H⟩ := H
      replace H : ((clavigerplain_Same.f k2 t426 t429).bind fun t432 => (clavigerlaw20_TreeMakes.j2 k2 l3 t419 (!t432))) = some r := H
      have A24 := Aside0.mk A240
      clear A240
      replace H := Option.bind_eq_some_iff.mp H
      obtain ⟨t432, A250, H⟩ := H
      replace H : (clavigerlaw20_TreeMakes.j2 k2 l3 t419 (!t432)) = some r := H
      have A25 := Aside0.mk A250
      clear A250
      have H' := Aside0.mk H
      clear H
      go_wp2_with (first | ((with_reducible refine gate_callee (f := 20) rfl ?_); refine goesL_ (some 44) rfl rfl Tryd.func20 (by kernel_rfl) rfl #[.int .i64 a0, .int .i64 a1, .slice A3 l3.length c3] rfl gargs ?_; (with_reducible refine (clavigerref20_Of.calls k2 a0 a1 _ _ l3 t422 _ ?side1 ?side2 A20.out).mono ?_); (case side1 => repeat (first | exact (Kd.C_below HR3.out HB.out) | (with_reducible refine Kd.C_alloc ?_ _) | (with_reducible refine Kd.C_drewN ?_ _) | (with_reducible refine Kd.C_drew ?_))); (case side2 => exact HC3.out); rintro e w26 ⟨v423, rfl, ho0, hb⟩; refine ⟨_, rfl, ?_⟩; have n0_ := Aside0.mk (Kd.S_elder' (by (with_reducible repeat (first | apply Kd.S_alloc | apply Kd.S_drewN | apply Kd.S_drew)); exact HO421.out) (Kd.S_base ho0) hb); have n1_ := Aside0.mk (Kd.S_lower (Kd.S_new' ho0 (Kd.S_lt (by (with_reducible repeat (first | apply Kd.S_alloc | apply Kd.S_drewN | apply Kd.S_drew)); exact HO421.out))) (below_size blw)); have n2_ := Aside0.mk (below_step blw hb); clear HO421; clear HB; have HO421 := n0_; have HO424 := n1_; have HB := n2_; clear n0_ n1_ n2_; (try clear hb); (try clear hb2); (try clear hk); (try clear hi); (try clear ho0); obtain ⟨Ao27, co27, eo27⟩ := Kd.S_slice HO421.out; subst eo27; obtain ⟨Ao28, co28, eo28⟩ := Kd.S_slice HO424.out; subst eo28) | ((with_reducible refine gate_callee (f := 16) rfl ?_); refine goesL_ (some 45) rfl rfl Tryd.func16 (by kernel_rfl) rfl #[.slice Ao27 t419.length co27, .slice Ao28 t422.length co28] rfl gargs ?_; (with_reducible refine (clavigerplain_Same.calls k2 _ _ t419 _ _ t422 true _ ?side1 ?side2 ?side3 ?side4 A21.out).mono ?_); (case side1 => repeat (first | exact (Kd.S_reads' HO421.out).2.2 | (with_reducible refine Kd.C_alloc ?_ _) | (with_reducible refine Kd.C_drewN ?_ _) | (with_reducible refine Kd.C_drew ?_))); (case side2 => exact (Kd.S_reads' HO421.out).2.1); (case side3 => repeat (first | exact (Kd.S_reads' HO424.out).2.2 | (with_reducible refine Kd.C_alloc ?_ _) | (with_reducible refine Kd.C_drewN ?_ _) | (with_reducible refine Kd.C_drew ?_))); (case side4 => exact (Kd.S_reads' HO424.out).2.1); rintro e w29 ⟨rfl, hb⟩; refine ⟨_, rfl, ?_⟩; have n0_ := Aside0.mk (Kd.S_below (by (with_reducible repeat (first | apply Kd.S_alloc | apply Kd.S_drewN | apply Kd.S_drew)); exact HO421.out) hb); have n1_ := Aside0.mk (Kd.S_below (by (with_reducible repeat (first | apply Kd.S_alloc | apply Kd.S_drewN | apply Kd.S_drew)); exact HO424.out) hb); have n2_ := Aside0.mk (below_step blw hb); clear HO421; clear HO424; clear HB; have HO421 := n0_; have HO424 := n1_; have HB := n2_; clear n0_ n1_ n2_; (try clear hb); (try clear hb2); (try clear hk); (try clear hi)) | (go_at_call 21; (with_reducible refine (tree_Leaf.calls a0 a1 a2 t426 _ A23.out).mono ?_); rintro e w30 ⟨v427, rfl, ho0, hb⟩; have n0_ := Aside0.mk (Kd.S_elder' (by (with_reducible repeat (first | apply Kd.S_alloc | apply Kd.S_drewN | apply Kd.S_drew)); exact HO421.out) (Kd.S_base ho0) hb); have n1_ := Aside0.mk (Kd.S_elder' (by (with_reducible repeat (first | apply Kd.S_alloc | apply Kd.S_drewN | apply Kd.S_drew)); exact HO424.out) (Kd.S_base ho0) hb); have n2_ := Aside0.mk (Kd.S_lower (Kd.S_new' (Kd.S_new' ho0 (Kd.S_lt (by (with_reducible repeat (first | apply Kd.S_alloc | apply Kd.S_drewN | apply Kd.S_drew)); exact HO421.out))) (Kd.S_lt (by (with_reducible repeat (first | apply Kd.S_alloc | apply Kd.S_drewN | apply Kd.S_drew)); exact HO424.out))) (below_size blw)); have n3_ := Aside0.mk (below_step blw hb); clear HO421; clear HO424; clear HB; have HO421 := n0_; have HO424 := n1_; have HO428 := n2_; have HB := n3_; clear n0_ n1_ n2_ n3_; (try clear hb); (try clear hb2); (try clear hk); (try clear hi); (try clear ho0)) | (go_at_call 22; (with_reducible refine (clavigerref20_Leaf.calls a0 a1 a2 t429 _ A24.out).mono ?_); rintro e w31 ⟨v430, rfl, ho0, hb⟩; have n0_ := Aside0.mk (Kd.S_elder' (by (with_reducible repeat (first | apply Kd.S_alloc | apply Kd.S_drewN | apply Kd.S_drew)); exact HO421.out) (Kd.S_base ho0) hb); have n1_ := Aside0.mk (Kd.S_elder' (by (with_reducible repeat (first | apply Kd.S_alloc | apply Kd.S_drewN | apply Kd.S_drew)); exact HO424.out) (Kd.S_base ho0) hb); have n2_ := Aside0.mk (Kd.S_elder' (by (with_reducible repeat (first | apply Kd.S_alloc | apply Kd.S_drewN | apply Kd.S_drew)); exact HO428.out) (Kd.S_base ho0) hb); have n3_ := Aside0.mk (Kd.S_lower (Kd.S_new' (Kd.S_new' (Kd.S_new' ho0 (Kd.S_lt (by (with_reducible repeat (first | apply Kd.S_alloc | apply Kd.S_drewN | apply Kd.S_drew)); exact HO421.out))) (Kd.S_lt (by (with_reducible repeat (first | apply Kd.S_alloc | apply Kd.S_drewN | apply Kd.S_drew)); exact HO424.out))) (Kd.S_lt (by (with_reducible repeat (first | apply Kd.S_alloc | apply Kd.S_drewN | apply Kd.S_drew)); exact HO428.out))) (below_size blw)); have n4_ := Aside0.mk (below_step blw hb); clear HO421; clear HO424; clear HO428; clear HB; have HO421 := n0_; have HO424 := n1_; have HO428 := n2_; have HO431 := n3_; have HB := n4_; clear n0_ n1_ n2_ n3_ n4_; (try clear hb); (try clear hb2); (try clear hk); (try clear hi); (try clear ho0); obtain ⟨Ao32, co32, eo32⟩ := Kd.S_slice HO428.out; subst eo32; obtain ⟨Ao33, co33, eo33⟩ := Kd.S_slice HO431.out; subst eo33) | (go_at_call 16; (with_reducible refine (clavigerplain_Same.calls k2 _ _ t426 _ _ t429 t432 _ ?side1 ?side2 ?side3 ?side4 A25.out).mono ?_); (case side1 => repeat (first | exact (Kd.S_reads' HO428.out).2.2 | (with_reducible refine Kd.C_alloc ?_ _) | (with_reducible refine Kd.C_drewN ?_ _) | (with_reducible refine Kd.C_drew ?_))); (case side2 => exact (Kd.S_reads' HO428.out).2.1); (case side3 => repeat (first | exact (Kd.S_reads' HO431.out).2.2 | (with_reducible refine Kd.C_alloc ?_ _) | (with_reducible refine Kd.C_drewN ?_ _) | (with_reducible refine Kd.C_drew ?_))); (case side4 => exact (Kd.S_reads' HO431.out).2.1); rintro e w34 ⟨rfl, hb⟩; have n0_ := Aside0.mk (Kd.S_below (by (with_reducible repeat (first | apply Kd.S_alloc | apply Kd.S_drewN | apply Kd.S_drew)); exact HO421.out) hb); have n1_ := Aside0.mk (Kd.S_below (by (with_reducible repeat (first | apply Kd.S_alloc | apply Kd.S_drewN | apply Kd.S_drew)); exact HO424.out) hb); have n2_ := Aside0.mk (Kd.S_below (by (with_reducible repeat (first | apply Kd.S_alloc | apply Kd.S_drewN | apply Kd.S_drew)); exact HO428.out) hb); have n3_ := Aside0.mk (Kd.S_below (by (with_reducible repeat (first | apply Kd.S_alloc | apply Kd.S_drewN | apply Kd.S_drew)); exact HO431.out) hb); have n4_ := Aside0.mk (below_step blw hb); clear HO421; clear HO424; clear HO428; clear HO431; clear HB; have HO421 := n0_; have HO424 := n1_; have HO428 := n2_; have HO431 := n3_; have HB := n4_; clear n0_ n1_ n2_ n3_ n4_; (try clear hb); (try clear hb2); (try clear hk); (try clear hi)))
      go_meet
      case rel => exact ⟨_, (!t432), rsd, H', ⟨by have := HJ4.out; have := HK2.out; first | omega | exact Nat.le_refl _⟩, ⟨by (with_reducible repeat (first | apply Kd.S_alloc | apply Kd.S_drewN | apply Kd.S_drew)); exact Kd.S_mono HO421.out (fun _ hk => trivial)⟩, ⟨blw⟩⟩
     case rest =>
      clear HC18
      try clear c3
      try clear c6
      try clear c6b0
      try clear c6b1
      try clear c7
      try clear c10
      try clear c10b0
      try clear c11
      try clear c11b0
      try clear c12
      try clear c12b0
      try clear c14
      try clear c22
      try clear hx416_0
      try clear p416
      try clear q416
      obtain ⟨kq, x58_17, rfl, HA, HJ17, HO_11, HB⟩ := hcut
      cases kq with
      | zero => exact absurd HA.out (by simp [clavigerlaw20_TreeMakes.j2])
      | succ kj17 =>
       have H := HA.out
       clear HA
       simp only [clavigerlaw20_TreeMakes.j2] at H
       by_cases c39 : x58_17 = true
       case pos =>
        subst c39
        have H1 : (some false) = some r := by rw [if_pos rfl] at H; exact H
        clear H
        have H := H1
        clear H1
        exact absurd ((Option.some.inj H).trans HR_.out) (by decide)
       replace c39 := Bool.eq_false_iff.mpr c39
       subst c39
       have H1 : ((clavigerref20_Right.f kj17 t419).bind fun t433 => (if t433 = true then ((tree_Kids.f kj17 t419).bind fun t438 => (clavigerlaw20_TreeMakes.l1 kj17 t438 0 l3 (l3.length : Int) 0)) else ((tree_Kids.f kj17 t419).bind fun t434 => (if (t434.length : Int) = 0 then ((clavigerlaw20_awake.f kj17).bind fun t437 => (some t437)) else (some false))))) = some r := by rw [if_neg (show ¬ (false = true) by decide)] at H; exact H
       clear H
       have H := H1
       clear H1
       replace H := Option.bind_eq_some_iff.mp H
       obtain ⟨t433, A400, H⟩ := H
       replace H : (if t433 = true then ((tree_Kids.f kj17 t419).bind fun t438 => (clavigerlaw20_TreeMakes.l1 kj17 t438 0 l3 (l3.length : Int) 0)) else ((tree_Kids.f kj17 t419).bind fun t434 => (if (t434.length : Int) = 0 then ((clavigerlaw20_awake.f kj17).bind fun t437 => (some t437)) else (some false)))) = some r := H
       have A40 := Aside0.mk A400
       clear A400
       by_cases c41 : t433 = true
       case neg =>
        replace c41 := Bool.eq_false_iff.mpr c41
        subst c41
        have H1 : ((tree_Kids.f kj17 t419).bind fun t434 => (if (t434.length : Int) = 0 then ((clavigerlaw20_awake.f kj17).bind fun t437 => (some t437)) else (some false))) = some r := by rw [if_neg (show ¬ (false = true) by decide)] at H; exact H
        clear H
        have H := H1
        clear H1
        replace H := Option.bind_eq_some_iff.mp H
        obtain ⟨t434, A610, H⟩ := H
        replace H : (if (t434.length : Int) = 0 then ((clavigerlaw20_awake.f kj17).bind fun t437 => (some t437)) else (some false)) = some r := H
        have A61 := Aside0.mk A610
        clear A610
        by_cases c62 : (t434.length : Int) = 0
        case neg =>
         rw [if_neg c62] at H
         have c62b0 : ((t434.length : Int) == 0) = false := beq_eq_false_iff_ne.mpr c62
         have c62b1 : ((t434.length : Int) != 0) = true := bne_iff_ne.mpr c62
         have c62b2 : ¬ (t434 = []) := fun h_ => c62 (by rw [h_]; rfl)
         exact absurd ((Option.some.inj H).trans HR_.out) (by decide)
        rw [if_pos c62] at H
        have c62b0 : ((t434.length : Int) == 0) = true := beq_iff_eq.mpr c62
        have c62b1 : ((t434.length : Int) != 0) = false := bne_eq_false_iff_eq.mpr c62
        clear c62
        replace H := Option.bind_eq_some_iff.mp H
        obtain ⟨t437, A630, H⟩ := H
        replace H : (some t437) = some r := H
        have A63 := Aside0.mk A630
        clear A630
        obtain rfl := Option.some.inj H
        obtain ⟨Ao64, co64, eo64⟩ := Kd.S_slice HO_11.out
        subst eo64
        go_wp2_with (first | ((with_reducible refine gate_callee (f := 12) rfl ?_); refine goesL_ (some 60) rfl rfl Tryd.func12 (by kernel_rfl) rfl #[.slice Ao64 t419.length co64] rfl gargs ?_; (with_reducible refine (clavigerref20_Right.calls kj17 _ _ t419 false _ ?side1 ?side2 A40.out).mono ?_); (case side1 => repeat (first | exact (Kd.S_reads' HO_11.out).2.2 | (with_reducible refine Kd.C_alloc ?_ _) | (with_reducible refine Kd.C_drewN ?_ _) | (with_reducible refine Kd.C_drew ?_))); (case side2 => exact (Kd.S_reads' HO_11.out).2.1); rintro e w65 ⟨rfl, hb⟩; refine ⟨_, rfl, ?_⟩; have n0_ := Aside0.mk (Kd.S_below (by (with_reducible repeat (first | apply Kd.S_alloc | apply Kd.S_drewN | apply Kd.S_drew)); exact HO_11.out) hb); have n1_ := Aside0.mk (below_step blw hb); clear HO_11; clear HB; have HO_11 := n0_; have HB := n1_; clear n0_ n1_; (try clear hb); (try clear hb2); (try clear hk); (try clear hi)) | ((with_reducible refine gate_callee (f := 23) rfl ?_); refine goesL_ (some 63) rfl rfl Tryd.func23 (by kernel_rfl) rfl #[.slice Ao64 t419.length co64] rfl gargs ?_; (with_reducible refine (tree_Kids.calls kj17 _ _ t419 t434 _ ?side1 ?side2 ?tb_ A61.out).mono ?_); (case tb_ => exact ⟨TB.below HT_.out (by repeat (first | (with_reducible first | exact HB.out | apply below_alloc | apply pw_below_drewN | apply below_drew1) | exact HB.out | exact Below.refl _ _))⟩); (case side1 => repeat (first | exact (Kd.S_reads' HO_11.out).2.2 | (with_reducible refine Kd.C_alloc ?_ _) | (with_reducible refine Kd.C_drewN ?_ _) | (with_reducible refine Kd.C_drew ?_))); (case side2 => exact (Kd.S_reads' HO_11.out).2.1); rintro e w66 ⟨v435, rfl, ho0, hb⟩; refine ⟨_, rfl, ?_⟩; have n0_ := Aside0.mk (Kd.S_below (by (with_reducible repeat (first | apply Kd.S_alloc | apply Kd.S_drewN | apply Kd.S_drew)); exact HO_11.out) hb); have n1_ := Aside0.mk (Kd.R_lower (Kd.R_new' ho0 (Kd.S_lt (by (with_reducible repeat (first | apply Kd.S_alloc | apply Kd.S_drewN | apply Kd.S_drew)); exact HO_11.out))) (below_size blw)); have n2_ := Aside0.mk (below_step blw hb); clear HO_11; clear HB; have HO_11 := n0_; have HO436 := n1_; have HB := n2_; clear n0_ n1_ n2_; (try clear hb); (try clear hb2); (try clear hk); (try clear hi); (try clear ho0); obtain ⟨Ao67, co67, eo67⟩ := Kd.R_slice HO436.out; subst eo67) | (go_at_call 8; (with_reducible refine (clavigerlaw20_awake.calls kj17  t437 _ ?tb_ A63.out).mono ?_); (case tb_ => exact ⟨TB.below HT_.out (by repeat (first | (with_reducible first | exact HB.out | apply below_alloc | apply pw_below_drewN | apply below_drew1) | exact HB.out | exact Below.refl _ _))⟩); rintro e w68 ⟨rfl, hb⟩; have n0_ := Aside0.mk (Kd.S_below (by (with_reducible repeat (first | apply Kd.S_alloc | apply Kd.S_drewN | apply Kd.S_drew)); exact HO_11.out) hb); have n1_ := Aside0.mk (Kd.R_below (by (with_reducible repeat (first | apply Kd.R_alloc | apply Kd.R_drewN | apply Kd.R_drew)); exact HO436.out) hb); have n2_ := Aside0.mk (below_step blw hb); clear HO_11; clear HO436; clear HB; have HO_11 := n0_; have HO436 := n1_; have HB := n2_; clear n0_ n1_ n2_; (try clear hb); (try clear hb2); (try clear hk); (try clear hi)))
        go_ret
        exact ⟨rse, blw⟩
       subst c41
       have H1 : ((tree_Kids.f kj17 t419).bind fun t438 => (clavigerlaw20_TreeMakes.l1 kj17 t438 0 l3 (l3.length : Int) 0)) = some r := by rw [if_pos rfl] at H; exact H
       clear H
       have H := H1
       clear H1
       replace H := Option.bind_eq_some_iff.mp H
       obtain ⟨t438, A420, H⟩ := H
       replace H : (clavigerlaw20_TreeMakes.l1 kj17 t438 0 l3 (l3.length : Int) 0) = some r := H
       have A42 := Aside0.mk A420
       clear A420
       have H' := Aside0.mk H
       clear H
       obtain ⟨Ao43, co43, eo43⟩ := Kd.S_slice HO_11.out
       subst eo43
       go_wp2_with (first | ((with_reducible refine gate_callee (f := 12) rfl ?_); refine goesL_ (some 60) rfl rfl Tryd.func12 (by kernel_rfl) rfl #[.slice Ao43 t419.length co43] rfl gargs ?_; (with_reducible refine (clavigerref20_Right.calls kj17 _ _ t419 true _ ?side1 ?side2 A40.out).mono ?_); (case side1 => repeat (first | exact (Kd.S_reads' HO_11.out).2.2 | (with_reducible refine Kd.C_alloc ?_ _) | (with_reducible refine Kd.C_drewN ?_ _) | (with_reducible refine Kd.C_drew ?_))); (case side2 => exact (Kd.S_reads' HO_11.out).2.1); rintro e w44 ⟨rfl, hb⟩; refine ⟨_, rfl, ?_⟩; have n0_ := Aside0.mk (Kd.S_below (by (with_reducible repeat (first | apply Kd.S_alloc | apply Kd.S_drewN | apply Kd.S_drew)); exact HO_11.out) hb); have n1_ := Aside0.mk (below_step blw hb); clear HO_11; clear HB; have HO_11 := n0_; have HB := n1_; clear n0_ n1_; (try clear hb); (try clear hb2); (try clear hk); (try clear hi)) | ((with_reducible refine gate_callee (f := 23) rfl ?_); refine goesL_ (some 70) rfl rfl Tryd.func23 (by kernel_rfl) rfl #[.slice Ao43 t419.length co43] rfl gargs ?_; (with_reducible refine (tree_Kids.calls kj17 _ _ t419 t438 _ ?side1 ?side2 ?tb_ A42.out).mono ?_); (case tb_ => exact ⟨TB.below HT_.out (by repeat (first | (with_reducible first | exact HB.out | apply below_alloc | apply pw_below_drewN | apply below_drew1) | exact HB.out | exact Below.refl _ _))⟩); (case side1 => repeat (first | exact (Kd.S_reads' HO_11.out).2.2 | (with_reducible refine Kd.C_alloc ?_ _) | (with_reducible refine Kd.C_drewN ?_ _) | (with_reducible refine Kd.C_drew ?_))); (case side2 => exact (Kd.S_reads' HO_11.out).2.1); rintro e w45 ⟨v439, rfl, ho0, hb⟩; refine ⟨_, rfl, ?_⟩; have n0_ := Aside0.mk (Kd.S_below (by (with_reducible repeat (first | apply Kd.S_alloc | apply Kd.S_drewN | apply Kd.S_drew)); exact HO_11.out) hb); have n1_ := Aside0.mk (Kd.R_lower (Kd.R_new' ho0 (Kd.S_lt (by (with_reducible repeat (first | apply Kd.S_alloc | apply Kd.S_drewN | apply Kd.S_drew)); exact HO_11.out))) (below_size blw)); have n2_ := Aside0.mk (below_step blw hb); clear HO_11; clear HB; have HO_11 := n0_; have HO440 := n1_; have HB := n2_; clear n0_ n1_ n2_; (try clear hb); (try clear hb2); (try clear hk); (try clear hi); (try clear ho0)))
       go_loopg [13, 73] kj17 (fun kq v13 v73 w' => ∃ (x13_4 : Int) (x73_4 : Int), v13 = .int .i64 x13_4 ∧ v73 = .int .i64 x73_4 ∧ Aside0 (clavigerlaw20_TreeMakes.l1 kq t438 x13_4 l3 (l3.length : Int) x73_4 = some r) ∧ Aside0 (kq ≤ kj17) ∧ Aside0 (Kd.R (Kd.slice 41 k41) 23 w' w.heap.size (fun _ => True) v439 t438) ∧ Aside0 (Below w.heap.size w w'))
       case atStart => exact ⟨(0), (0), rsd, rsd, H', ⟨Nat.le_refl _⟩, ⟨by (with_reducible repeat (first | apply Kd.R_alloc | apply Kd.R_drewN | apply Kd.R_drew)); exact Kd.R_mono HO440.out (fun _ hk => trivial)⟩, ⟨blw⟩⟩
       case round =>
        clear H'
        try clear c3
        try clear c6
        try clear c6b0
        try clear c6b1
        try clear c7
        try clear c10
        try clear c10b0
        try clear c11
        try clear c11b0
        try clear c12
        try clear c12b0
        try clear c14
        try clear c22
        try clear c39
        try clear c41
        try clear hx416_0
        try clear p416
        try clear q416
        obtain ⟨x13_4, x73_4, rfl, rfl, HA, HK4, HO_12, HB⟩ := hrel
        cases gk with
        | zero => exact absurd HA.out (by simp [clavigerlaw20_TreeMakes.l1])
        | succ k4 =>
         have H := HA.out
         clear HA
         simp only [clavigerlaw20_TreeMakes.l1] at H
         by_cases c46 : x73_4 < (l3.length : Int)
         case neg =>
          rw [if_neg c46] at H
          have c46b0 : decide (x73_4 < (l3.length : Int)) = false := decide_eq_false c46
          clear c46
          by_cases c57 : x13_4 = (t438.length : Int)
          case neg =>
           rw [if_neg c57] at H
           have c57b0 : (x13_4 == (t438.length : Int)) = false := beq_eq_false_iff_ne.mpr c57
           have c57b1 : (x13_4 != (t438.length : Int)) = true := bne_iff_ne.mpr c57
           exact absurd ((Option.some.inj H).trans HR_.out) (by decide)
          rw [if_pos c57] at H
          have c57b0 : (x13_4 == (t438.length : Int)) = true := beq_iff_eq.mpr c57
          have c57b1 : (x13_4 != (t438.length : Int)) = false := bne_eq_false_iff_eq.mpr c57
          clear c57
          replace H := Option.bind_eq_some_iff.mp H
          obtain ⟨t441, A580, H⟩ := H
          replace H : (some t441) = some r := H
          have A58 := Aside0.mk A580
          clear A580
          obtain rfl := Option.some.inj H
          obtain ⟨Ao59, co59, eo59⟩ := Kd.R_slice HO_12.out
          subst eo59
          go_wp2_with (first | (go_at_call 8; (with_reducible refine (clavigerlaw20_awake.calls k4  t441 _ ?tb_ A58.out).mono ?_); (case tb_ => exact ⟨TB.below HT_.out (by repeat (first | (with_reducible first | exact HB.out | apply below_alloc | apply pw_below_drewN | apply below_drew1) | exact HB.out | exact Below.refl _ _))⟩); rintro e w60 ⟨rfl, hb⟩; have n0_ := Aside0.mk (Kd.R_below (by (with_reducible repeat (first | apply Kd.R_alloc | apply Kd.R_drewN | apply Kd.R_drew)); exact HO_12.out) hb); have n1_ := Aside0.mk (below_step blw hb); clear HO_12; clear HB; have HO_12 := n0_; have HB := n1_; clear n0_ n1_; (try clear hb); (try clear hb2); (try clear hk); (try clear hi)))
          go_ret
          exact ⟨rse, blw⟩
         rw [if_pos c46] at H
         have c46b0 : decide (x73_4 < (l3.length : Int)) = true := decide_eq_true c46
         clear c46
         by_cases c47 : 0 ≤ x73_4
         case neg =>
          rw [if_neg c47] at H
          exact absurd H (by simp)
         rw [if_pos c47] at H
         have c47b0 : decide (0 ≤ x73_4) = true := decide_eq_true c47
         clear c47
         by_cases c48 : x73_4 < (l3.length : Int)
         case neg =>
          rw [if_neg c48] at H
          exact absurd H (by simp)
         rw [if_pos c48] at H
         have c48b0 : decide (x73_4 < (l3.length : Int)) = true := decide_eq_true c48
         clear c48
         by_cases c49 : ((rd_L9 l3 x73_4).length : Int) = 0
         case pos =>
          rw [if_pos c49] at H
          have c49b0 : (((rd_L9 l3 x73_4).length : Int) == 0) = true := beq_iff_eq.mpr c49
          have c49b1 : (((rd_L9 l3 x73_4).length : Int) != 0) = false := bne_eq_false_iff_eq.mpr c49
          clear c49
          have H' := Aside0.mk H
          clear H
          have p442 : 0 ≤ (x73_4 : Int) := odt
          have q442 : x73_4 < (l3.length : Int) := odt
          obtain ⟨ad442, A442_0, c442_0, e442, hx442_0, hl442_0, hi442_0⟩ := at_L9 HR3.out x73_4 p442 q442
          cases e442
          replace hx442_0 := cellB hx442_0
          have HR442_0 := Aside0.mk hi442_0
          have HC442_0 := Aside0.mk hl442_0
          clear hi442_0 hl442_0
          replace p442 := eq_true p442
          replace q442 := eq_true q442
          go_wp2
          go_roundg k4
          case measure => have := HJ4.out; have := HK2.out; have := HJ17.out; have := HK4.out; omega
          case rel => exact ⟨(x13_4), (wrap64 (x73_4 + 1)), rsd, rsd, H', ⟨by have := HJ4.out; have := HK2.out; have := HJ17.out; have := HK4.out; omega⟩, ⟨by (with_reducible repeat (first | apply Kd.R_alloc | apply Kd.R_drewN | apply Kd.R_drew)); exact HO_12.out⟩, ⟨blw⟩⟩
         rw [if_neg c49] at H
         have c49b0 : (((rd_L9 l3 x73_4).length : Int) == 0) = false := beq_eq_false_iff_ne.mpr c49
         have c49b1 : (((rd_L9 l3 x73_4).length : Int) != 0) = true := bne_iff_ne.mpr c49
         have c49b2 : ¬ ((rd_L9 l3 x73_4) = []) := fun h_ => c49 (by rw [h_]; rfl)
         by_cases c50 : x13_4 ≥ (t438.length : Int)
         case pos =>
          rw [if_pos c50] at H
          have c50b0 : decide ((t438.length : Int) ≤ x13_4) = true := decide_eq_true c50
          clear c50
          exact absurd ((Option.some.inj H).trans HR_.out) (by decide)
         rw [if_neg c50] at H
         have c50b0 : decide ((t438.length : Int) ≤ x13_4) = false := decide_eq_false c50
         clear c50
         by_cases c51 : 0 ≤ x13_4
         case neg =>
          rw [if_neg c51] at H
          exact absurd H (by simp)
         rw [if_pos c51] at H
         have c51b0 : decide (0 ≤ x13_4) = true := decide_eq_true c51
         clear c51
         by_cases c52 : x13_4 < (t438.length : Int)
         case neg =>
          rw [if_neg c52] at H
          exact absurd H (by simp)
         rw [if_pos c52] at H
         have c52b0 : decide (x13_4 < (t438.length : Int)) = true := decide_eq_true c52
         clear c52
         replace H := Option.bind_eq_some_iff.mp H
         obtain ⟨t444, A530, H⟩ := H
         replace H : (if t444 = true then (clavigerlaw20_TreeMakes.l1 k4 t438 (wrap64 (x13_4 + 1)) l3 (l3.length : Int) (wrap64 (x73_4 + 1))) else (some false)) = some r := H
         have A53 := Aside0.mk A530
         clear A530
         by_cases c54 : t444 = true
         case neg =>
          replace c54 := Bool.eq_false_iff.mpr c54
          subst c54
          have H1 : (some false) = some r := by rw [if_neg (show ¬ (false = true) by decide)] at H; exact H
          clear H
          have H := H1
          clear H1
          exact absurd ((Option.some.inj H).trans HR_.out) (by decide)
         subst c54
         have H1 : (clavigerlaw20_TreeMakes.l1 k4 t438 (wrap64 (x13_4 + 1)) l3 (l3.length : Int) (wrap64 (x73_4 + 1))) = some r := by rw [if_pos rfl] at H; exact H
         clear H
         have H := H1
         clear H1
         have H' := Aside0.mk H
         clear H
         have p442 : 0 ≤ (x73_4 : Int) := odt
         have q442 : x73_4 < (l3.length : Int) := odt
         obtain ⟨ad442, A442_0, c442_0, e442, hx442_0, hl442_0, hi442_0⟩ := at_L9 HR3.out x73_4 p442 q442
         cases e442
         replace hx442_0 := cellB hx442_0
         have HR442_0 := Aside0.mk hi442_0
         have HC442_0 := Aside0.mk hl442_0
         clear hi442_0 hl442_0
         replace p442 := eq_true p442
         replace q442 := eq_true q442
         obtain ⟨Ao55, co55, eo55⟩ := Kd.R_slice HO_12.out
         subst eo55
         have p443 : 0 ≤ (x13_4 : Int) := odt
         have q443 : x13_4 < (t438.length : Int) := odt
         obtain ⟨ad443, A443_0, c443_0, e443, hx443_0, hl443_0, hi443_0⟩ := at_L9 (Kd.R_reads' HO_12.out).2.2 x13_4 p443 q443
         cases e443
         obtain ⟨ce443, hce443, hMe443, hcc443⟩ := Kd.R_get HO_12.out [] x13_4 p443 (by first | exact q443 | exact odt | (have e_ := (Kd.R_reads' HO_12.out).1; omega))
         obtain ⟨ve443_0, rfl, ge443_0⟩ := hMe443
         have hv443_0 := hcc443 0 _ rfl
         rw [Nat.add_zero, show ((Kd.slice 41 k41)).sz = 1 from rfl, Nat.mul_one] at hv443_0
         replace hv443_0 := Option.some.inj (hv443_0.symm.trans hx443_0)
         rw [hv443_0] at ge443_0
         have HL443_0 := Aside0.mk (show Kd.R k41 41 _ _ _ _ (rd_L9 t438 x13_4) from ge443_0)
         clear hv443_0 ge443_0
         clear hcc443 hce443
         have HR443_0 := Aside0.mk hi443_0
         have HC443_0 := Aside0.mk hl443_0
         clear hi443_0 hl443_0
         replace p443 := eq_true p443
         replace q443 := eq_true q443
         go_wp2_with (first | (go_at_call 16; (with_reducible refine (clavigerplain_Same.calls k4 _ _ (rd_L9 t438 x13_4) _ _ (rd_L9 l3 x73_4) true _ ?side1 ?side2 ?side3 ?side4 A53.out).mono ?_); (case side1 => repeat (first | exact (by repeat (first | (with_reducible exact HR443_0.out) | (with_reducible refine Kd.C_alloc ?_ _) | (with_reducible refine Kd.C_drewN ?_ _) | (with_reducible refine Kd.C_drew ?_) | exact HR443_0.out)) | (with_reducible refine Kd.C_alloc ?_ _) | (with_reducible refine Kd.C_drewN ?_ _) | (with_reducible refine Kd.C_drew ?_))); (case side2 => exact HC443_0.out); (case side3 => repeat (first | exact (Kd.C_below HR442_0.out HB.out) | (with_reducible refine Kd.C_alloc ?_ _) | (with_reducible refine Kd.C_drewN ?_ _) | (with_reducible refine Kd.C_drew ?_))); (case side4 => exact HC442_0.out); rintro e w56 ⟨rfl, hb⟩; have n0_ := Aside0.mk (Kd.R_below (by (with_reducible repeat (first | apply Kd.R_alloc | apply Kd.R_drewN | apply Kd.R_drew)); exact HO_12.out) hb); have n1_ := Aside0.mk (Kd.R_below (by (with_reducible repeat (first | apply Kd.R_alloc | apply Kd.R_drewN | apply Kd.R_drew)); exact HL443_0.out) hb); have n2_ := Aside0.mk (Kd.C_below (by repeat (first | (with_reducible exact HR443_0.out) | (with_reducible refine Kd.C_alloc ?_ _) | (with_reducible refine Kd.C_drewN ?_ _) | (with_reducible refine Kd.C_drew ?_) | exact HR443_0.out)) hb); have n3_ := Aside0.mk (below_step blw hb); clear HO_12; clear HL443_0; clear HR443_0; clear HB; have HO_12 := n0_; have HL443_0 := n1_; have HR443_0 := n2_; have HB := n3_; clear n0_ n1_ n2_ n3_; (try clear hb); (try clear hb2); (try clear hk); (try clear hi)))
         go_roundg k4
         case measure => have := HJ4.out; have := HK2.out; have := HJ17.out; have := HK4.out; omega
         case rel => exact ⟨(wrap64 (x13_4 + 1)), (wrap64 (x73_4 + 1)), rsd, rsd, H', ⟨by have := HJ4.out; have := HK2.out; have := HJ17.out; have := HK4.out; omega⟩, ⟨by (with_reducible repeat (first | apply Kd.R_alloc | apply Kd.R_drewN | apply Kd.R_drew)); exact HO_12.out⟩, ⟨blw⟩⟩

def okS41 (b : S41) : Prop := (Lit.int .i64 b.f0).wf = true ∧ (Lit.int .i64 b.f1).wf = true ∧ True ∧ b.f3.size ≤ maxLen ∧ (b.f4.length ≤ maxLen ∧ ∀ a ∈ b.f4, (Lit.int .i64 a).wf = true)

/-- THE ONE PURE STATEMENT of clavigerlaw20_TreeMakes: yours. -/
def clavigerlaw20_TreeMakes.Pure : Prop := ∀ (a0 : Int) (a1 : Int) (a2 : ByteArray) (l3 : List (List (S41))), (Lit.int .i64 a0).wf = true → (Lit.int .i64 a1).wf = true → a2.size ≤ 140737488351232 → l3.length ≤ maxLen → (∀ a ∈ l3, (a.length ≤ maxLen ∧ ∀ b ∈ a, okS41 b)) → ∃ k, clavigerlaw20_TreeMakes.f k a0 a1 a2 l3 = some true
theorem clavigerlaw20_TreeMakes.walk (P : clavigerlaw20_TreeMakes.Pure) (a0 : Int) (a1 : Int) (a2 : ByteArray) (A3 : Option Addr) (c3 : Nat) (l3 : List (List (S41))) (w : World) (g0_0 : (Lit.int .i64 a0).wf = true) (g1_0 : (Lit.int .i64 a1).wf = true) (g2_0 : a2.size ≤ 140737488351232) (hr3 : Kd.C (Kd.slice 41 k41) w A3 l3.length l3) (hc3 : l3.length ≤ c3) (g3_0 : l3.length ≤ maxLen) (g3_1 : (∀ a ∈ l3, (a.length ≤ maxLen ∧ ∀ b ∈ a, okS41 b))) (HT_ : Aside0 (TB w)) :
 Calls Tryd.prog 4 #[.int .i64 a0, .int .i64 a1, .string a2, .slice A3 l3.length c3] w fun e w' => e = .returned (.bool true) ∧ Below w.heap.size w w' := by
 obtain ⟨k, h⟩ := P a0 a1 a2 l3 g0_0 g1_0 g2_0 g3_0 g3_1
 refine (clavigerlaw20_TreeMakes.calls k a0 a1 a2 A3 c3 l3 true w hr3 hc3 HT_ ⟨rfl⟩ h).mono ?_
 rintro e w' ⟨rfl, hd⟩
 exact ⟨rfl, hd⟩

end Go.Proofs.YtcbcojbhbhaimaaDoor.PTreeMakes
