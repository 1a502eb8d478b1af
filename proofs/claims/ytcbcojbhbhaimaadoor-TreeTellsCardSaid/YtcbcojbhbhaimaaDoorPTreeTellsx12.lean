import Derived.Test.YtcbcojbhbhaimaaDoorPTreeTellsx0
namespace Go.Proofs.YtcbcojbhbhaimaaDoor.PTreeTells
open Go.RowKit Go.Proofs.YtcbcojbhbhaimaaDoorW.PrintWords Go.Proofs.YtcbcojbhbhaimaaDoorW.PrintLast Go.Proofs.YtcbcojbhbhaimaaDoorW.PrintMore
attribute [local go_sem high] c_add c_eql c_neq
attribute [local go_sem] f_store_c f_store_f f_add f_toint f_fold_eq f_fold_ne f_fold_lt f_fold_gt f_fold_le f_fold_ge
attribute [local go_sem] str_leq str_gtr str_geq max2_int min2_int max_two min_two max_three min_three max_four min_four   -- for this text's walks alone
set_option linter.unusedVariables false
set_option linter.unusedSimpArgs false

/-! ### cr17_Right: function 83 -/
mutual
def cr17_Right.j0 : Nat → List Int → Bool → Option (Bool)
 | 0, _, _ => none
 | k + 1, x0, x24 => if x24 = true then (some false) else (cr17_Right.l0 k x0 1)
def cr17_Right.l0 : Nat → List Int → Int → Option (Bool)
 | 0, _, _ => none
 | k + 1, x0, x3 => if x3 < (x0.length : Int) then (if x3 = 1 then (if 0 < (x0.length : Int) then (if (rd x0 0) < 2 then (if 0 ≤ x3 then (if (rd x0 x3) < 0 then (some false) else (if (rd x0 x3) > 39 then (some false) else (cr17_Right.l0 k x0 (wrap64 (x3 + 1))))) else (none)) else (if 0 ≤ x3 then (if (rd x0 x3) < 0 then (some false) else (if (rd x0 x3) > 2147483567 then (some false) else (cr17_Right.l0 k x0 (wrap64 (x3 + 1))))) else (none))) else (none)) else (if 0 ≤ x3 then (if (rd x0 x3) < 0 then (some false) else (if (rd x0 x3) > 2147483647 then (some false) else (cr17_Right.l0 k x0 (wrap64 (x3 + 1))))) else (none))) else (some true)
end
def cr17_Right.f (k : Nat) (l0 : List Int) : Option (Bool) := if (l0.length : Int) < 2 then (cr17_Right.j0 k l0 true) else (if (l0.length : Int) > 20 then (cr17_Right.j0 k l0 true) else (if 0 < (l0.length : Int) then (if (rd l0 0) < 0 then (cr17_Right.j0 k l0 true) else (cr17_Right.j0 k l0 (decide ((rd l0 0) > 2)))) else (none)))
theorem cr17_Right.mono_l : ∀ k, (∀ y0 y1, LeO (cr17_Right.j0 k y0 y1) (cr17_Right.j0 (k + 1) y0 y1)) ∧ (∀ y0 y1, LeO (cr17_Right.l0 k y0 y1) (cr17_Right.l0 (k + 1) y0 y1))
 | 0 => ⟨fun _ _ r h => by simp [cr17_Right.j0] at h, fun _ _ r h => by simp [cr17_Right.l0] at h⟩
 | k + 1 => by
  obtain ⟨ih0, ih1⟩ := cr17_Right.mono_l k
  refine ⟨?_, ?_⟩ <;> intros <;> first | unfold cr17_Right.j0 | unfold cr17_Right.l0
  all_goals repeat' first
  | (with_reducible first | exact ih0 _ _ | exact ih1 _ _ | exact LeO.refl _ | exact LeO.none _ | refine LeO.ite ?_ ?_ | refine LeO.bind ?_ (fun _ => ?_))
  | exact ih0 _ _
  | exact ih1 _ _
  | exact LeO.none _
  | refine LeO.ite ?_ ?_
  | refine LeO.bind ?_ (fun _ => ?_)
theorem cr17_Right.mono : ∀ a0 k, LeO (cr17_Right.f k a0) (cr17_Right.f (k + 1) a0) := by
 intro a0 k
 obtain ⟨ih0, ih1⟩ := cr17_Right.mono_l k
 unfold cr17_Right.f
 repeat' first
  | (with_reducible first | exact ih0 _ _ | exact ih1 _ _ | exact LeO.refl _ | exact LeO.none _ | refine LeO.ite ?_ ?_ | refine LeO.bind ?_ (fun _ => ?_))
  | exact ih0 _ _
  | exact ih1 _ _
  | exact LeO.none _
  | refine LeO.ite ?_ ?_
  | refine LeO.bind ?_ (fun _ => ?_)
set_option maxHeartbeats 8000000 in
set_option maxRecDepth 100000 in
theorem cr17_Right.calls (k : Nat) (A0 : Option Addr) (c0 : Nat) (l0 : List Int) (r : Bool) (w : World) (hr0 : Kd.C (Kd.int .i64) w A0 l0.length l0) (hc0 : l0.length ≤ c0) (h : cr17_Right.f k l0 = some r) :
 Calls Tryd.prog 83 #[.slice A0 l0.length c0] w fun e w' => e = .returned (.bool r) ∧ Drawn0 w w' := by
 have HR0 := Aside0.mk hr0
 have HC0 := Aside0.mk hc0
 clear hr0 hc0
 have H : (if (l0.length : Int) < 2 then (cr17_Right.j0 k l0 true) else (if (l0.length : Int) > 20 then (cr17_Right.j0 k l0 true) else (if 0 < (l0.length : Int) then (if (rd l0 0) < 0 then (cr17_Right.j0 k l0 true) else (cr17_Right.j0 k l0 (decide ((rd l0 0) > 2)))) else (none)))) = some r := h
 clear h
 have HC2 := Aside0.mk H
 clear H
 go_enter Tryd.func83, Tryd.ntmps83
 go_upto_region 1 with (fail)
 go_cut [24] (fun v24 wc => ∃ (kq : Nat) (x24_1 : Bool), v24 = .bool x24_1 ∧ Aside0 (cr17_Right.j0 kq l0 x24_1 = some r) ∧ Aside0 (kq ≤ k) ∧ Drawn0 w wc)
 case first =>
  have H := HC2.out
  clear HC2
  by_cases c3 : (l0.length : Int) < 2
  case pos =>
   rw [if_pos c3] at H
   have c3b0 : decide ((l0.length : Int) < 2) = true := decide_eq_true c3
   have c3b1 : decide (l0.length < 2) = true := decide_eq_true (by omega)
   clear c3
   (first | rw [c3b0] | (simp only [i64_w, i32_w]; rw [c3b0]) | rw [c3b1] | skip)
   have H' := Aside0.mk H
   clear H
   go_wp2
   go_meet
   case rel => exact ⟨_, (true), rsd, H', ⟨by first | omega | exact Nat.le_refl _⟩, drw⟩
  rw [if_neg c3] at H
  have c3b0 : decide ((l0.length : Int) < 2) = false := decide_eq_false c3
  have c3b1 : decide (l0.length < 2) = false := decide_eq_false (by omega)
  clear c3
  (first | rw [c3b0] | (simp only [i64_w, i32_w]; rw [c3b0]) | rw [c3b1] | skip)
  by_cases c4 : (l0.length : Int) > 20
  case pos =>
   rw [if_pos c4] at H
   have c4b0 : decide (20 < (l0.length : Int)) = true := decide_eq_true c4
   have c4b1 : decide (20 < l0.length) = true := decide_eq_true (by omega)
   clear c4
   have H' := Aside0.mk H
   clear H
   go_wp2
   go_meet
   case rel => exact ⟨_, (true), rsd, H', ⟨by first | omega | exact Nat.le_refl _⟩, drw⟩
  rw [if_neg c4] at H
  have c4b0 : decide (20 < (l0.length : Int)) = false := decide_eq_false c4
  have c4b1 : decide (20 < l0.length) = false := decide_eq_false (by omega)
  clear c4
  by_cases c5 : 0 < (l0.length : Int)
  case neg =>
   rw [if_neg c5] at H
   exact absurd H (by simp)
  rw [if_pos c5] at H
  have c5b0 : decide (0 < (l0.length : Int)) = true := decide_eq_true c5
  have c5b1 : decide (0 < l0.length) = true := decide_eq_true (by omega)
  clear c5
  by_cases c6 : (rd l0 0) < 0
  case pos =>
   rw [if_pos c6] at H
   have c6b0 : decide ((rd l0 0) < 0) = true := decide_eq_true c6
   clear c6
   have H' := Aside0.mk H
   clear H
   have p322 : 0 ≤ (0 : Int) := (by omega)
   have q322 : 0 < (l0.length : Int) := odt
   obtain ⟨ad322, e322, hx322_0⟩ := Kd.at_int HR0.out 0 p322 q322
   cases e322
   have qi322 : (0 < l0.length) = True := eq_true (by omega)
   (try rw [show ((0 : Int)).toNat = 0 from rfl] at hx322_0)
   (try rw [Addr.add_zero'] at hx322_0)
   replace p322 := eq_true p322
   replace q322 := eq_true q322
   go_wp2
   go_meet
   case rel => exact ⟨_, (true), rsd, H', ⟨by first | omega | exact Nat.le_refl _⟩, drw⟩
  rw [if_neg c6] at H
  have c6b0 : decide ((rd l0 0) < 0) = false := decide_eq_false c6
  clear c6
  have H' := Aside0.mk H
  clear H
  have p322 : 0 ≤ (0 : Int) := (by omega)
  have q322 : 0 < (l0.length : Int) := odt
  obtain ⟨ad322, e322, hx322_0⟩ := Kd.at_int HR0.out 0 p322 q322
  cases e322
  have qi322 : (0 < l0.length) = True := eq_true (by omega)
  (try rw [show ((0 : Int)).toNat = 0 from rfl] at hx322_0)
  (try rw [Addr.add_zero'] at hx322_0)
  replace p322 := eq_true p322
  replace q322 := eq_true q322
  have p323 : 0 ≤ (0 : Int) := (by omega)
  have q323 : 0 < (l0.length : Int) := odt
  obtain ⟨ad323, e323, hx323_0⟩ := Kd.at_int HR0.out 0 p323 q323
  obtain rfl : ad322 = ad323 := (by injection e323)
  have qi323 : (0 < l0.length) = True := eq_true (by omega)
  (try rw [show ((0 : Int)).toNat = 0 from rfl] at hx323_0)
  (try rw [Addr.add_zero'] at hx323_0)
  replace p323 := eq_true p323
  replace q323 := eq_true q323
  go_wp2
  go_meet
  case rel => exact ⟨_, (decide ((rd l0 0) > 2)), rsd, H', ⟨by first | omega | exact Nat.le_refl _⟩, drw⟩
 case rest =>
  clear HC2
  try clear c3
  try clear c3b0
  try clear c3b1
  try clear c4
  try clear c4b0
  try clear c4b1
  try clear c5
  try clear c5b0
  try clear c5b1
  try clear c6
  try clear c6b0
  try clear hx322_0
  try clear hx323_0
  try clear p322
  try clear p323
  try clear q322
  try clear q323
  obtain ⟨kq, x24_1, rfl, HA, HJ1, ⟨mc1, rfl⟩⟩ := hcut
  cases kq with
  | zero => exact absurd HA.out (by simp [cr17_Right.j0])
  | succ kj1 =>
   have H := HA.out
   clear HA
   simp only [cr17_Right.j0] at H
   by_cases c7 : x24_1 = true
   case pos =>
    subst c7
    have H1 : (some false) = some r := by rw [if_pos rfl] at H; exact H
    clear H
    have H := H1
    clear H1
    obtain rfl := Option.some.inj H
    go_wp2
    go_ret
    exact ⟨rsd, drw⟩
   replace c7 := Bool.eq_false_iff.mpr c7
   subst c7
   have H1 : (cr17_Right.l0 kj1 l0 1) = some r := by rw [if_neg (show ¬ (false = true) by decide)] at H; exact H
   clear H
   have H := H1
   clear H1
   have H' := Aside0.mk H
   clear H
   go_wp2
   go_loopg [3] kj1 (fun kq v3 w' => ∃ (x3_2 : Int), v3 = .int .i64 x3_2 ∧ Aside0 (cr17_Right.l0 kq l0 x3_2 = some r) ∧ Aside0 (kq ≤ kj1) ∧ Drawn0 w w')
   case atStart => exact ⟨(1), rsd, H', ⟨Nat.le_refl _⟩, drw⟩
   case round =>
    clear H'
    try clear c3
    try clear c3b0
    try clear c3b1
    try clear c4
    try clear c4b0
    try clear c4b1
    try clear c5
    try clear c5b0
    try clear c5b1
    try clear c6
    try clear c6b0
    try clear c7
    try clear hx322_0
    try clear hx323_0
    try clear p322
    try clear p323
    try clear q322
    try clear q323
    obtain ⟨x3_2, rfl, HA, HK2, ⟨m2, rfl⟩⟩ := hrel
    cases gk with
    | zero => exact absurd HA.out (by simp [cr17_Right.l0])
    | succ k2 =>
     have H := HA.out
     clear HA
     simp only [cr17_Right.l0] at H
     by_cases c8 : x3_2 < (l0.length : Int)
     case neg =>
      rw [if_neg c8] at H
      have c8b0 : decide (x3_2 < (l0.length : Int)) = false := decide_eq_false c8
      clear c8
      obtain rfl := Option.some.inj H
      go_wp2
      go_ret
      exact ⟨rsd, drw⟩
     rw [if_pos c8] at H
     have c8b0 : decide (x3_2 < (l0.length : Int)) = true := decide_eq_true c8
     clear c8
     by_cases c9 : x3_2 = 1
     case neg =>
      rw [if_neg c9] at H
      have c9b0 : (x3_2 == 1) = false := beq_eq_false_iff_ne.mpr c9
      have c9b1 : (x3_2 != 1) = true := bne_iff_ne.mpr c9
      by_cases c18 : 0 ≤ x3_2
      case neg =>
       rw [if_neg c18] at H
       exact absurd H (by simp)
      rw [if_pos c18] at H
      have c18b0 : decide (0 ≤ x3_2) = true := decide_eq_true c18
      clear c18
      by_cases c19 : (rd l0 x3_2) < 0
      case pos =>
       rw [if_pos c19] at H
       have c19b0 : decide ((rd l0 x3_2) < 0) = true := decide_eq_true c19
       clear c19
       obtain rfl := Option.some.inj H
       have p329 : 0 ≤ (x3_2 : Int) := odt
       have q329 : x3_2 < (l0.length : Int) := odt
       obtain ⟨ad329, e329, hx329_0⟩ := Kd.at_int HR0.out x3_2 p329 q329
       cases e329
       replace p329 := eq_true p329
       replace q329 := eq_true q329
       go_wp2
       go_ret
       exact ⟨rsd, drw⟩
      rw [if_neg c19] at H
      have c19b0 : decide ((rd l0 x3_2) < 0) = false := decide_eq_false c19
      clear c19
      by_cases c20 : (rd l0 x3_2) > 2147483647
      case pos =>
       rw [if_pos c20] at H
       have c20b0 : decide (2147483647 < (rd l0 x3_2)) = true := decide_eq_true c20
       clear c20
       obtain rfl := Option.some.inj H
       have p329 : 0 ≤ (x3_2 : Int) := odt
       have q329 : x3_2 < (l0.length : Int) := odt
       obtain ⟨ad329, e329, hx329_0⟩ := Kd.at_int HR0.out x3_2 p329 q329
       cases e329
       replace p329 := eq_true p329
       replace q329 := eq_true q329
       have p330 : 0 ≤ (x3_2 : Int) := odt
       have q330 : x3_2 < (l0.length : Int) := odt
       obtain ⟨ad330, e330, hx330_0⟩ := Kd.at_int HR0.out x3_2 p330 q330
       obtain rfl : ad329 = ad330 := (by injection e330)
       replace p330 := eq_true p330
       replace q330 := eq_true q330
       go_wp2
       go_ret
       exact ⟨rsd, drw⟩
      rw [if_neg c20] at H
      have c20b0 : decide (2147483647 < (rd l0 x3_2)) = false := decide_eq_false c20
      clear c20
      have H' := Aside0.mk H
      clear H
      have p329 : 0 ≤ (x3_2 : Int) := odt
      have q329 : x3_2 < (l0.length : Int) := odt
      obtain ⟨ad329, e329, hx329_0⟩ := Kd.at_int HR0.out x3_2 p329 q329
      cases e329
      replace p329 := eq_true p329
      replace q329 := eq_true q329
      have p330 : 0 ≤ (x3_2 : Int) := odt
      have q330 : x3_2 < (l0.length : Int) := odt
      obtain ⟨ad330, e330, hx330_0⟩ := Kd.at_int HR0.out x3_2 p330 q330
      obtain rfl : ad329 = ad330 := (by injection e330)
      replace p330 := eq_true p330
      replace q330 := eq_true q330
      go_wp2
      go_roundg k2
      case measure => have := HJ1.out; have := HK2.out; omega
      case rel => exact ⟨(wrap64 (x3_2 + 1)), rsd, H', ⟨by have := HJ1.out; have := HK2.out; omega⟩, drw⟩
     rw [if_pos c9] at H
     have c9b0 : (x3_2 == 1) = true := beq_iff_eq.mpr c9
     have c9b1 : (x3_2 != 1) = false := bne_eq_false_iff_eq.mpr c9
     clear c9
     by_cases c10 : 0 < (l0.length : Int)
     case neg =>
      rw [if_neg c10] at H
      exact absurd H (by simp)
     rw [if_pos c10] at H
     have c10b0 : decide (0 < (l0.length : Int)) = true := decide_eq_true c10
     have c10b1 : decide (0 < l0.length) = true := decide_eq_true (by omega)
     clear c10
     by_cases c11 : (rd l0 0) < 2
     case neg =>
      rw [if_neg c11] at H
      have c11b0 : decide ((rd l0 0) < 2) = false := decide_eq_false c11
      clear c11
      by_cases c15 : 0 ≤ x3_2
      case neg =>
       rw [if_neg c15] at H
       exact absurd H (by simp)
      rw [if_pos c15] at H
      have c15b0 : decide (0 ≤ x3_2) = true := decide_eq_true c15
      clear c15
      by_cases c16 : (rd l0 x3_2) < 0
      case pos =>
       rw [if_pos c16] at H
       have c16b0 : decide ((rd l0 x3_2) < 0) = true := decide_eq_true c16
       clear c16
       obtain rfl := Option.some.inj H
       have p324 : 0 ≤ (0 : Int) := (by omega)
       have q324 : 0 < (l0.length : Int) := odt
       obtain ⟨ad324, e324, hx324_0⟩ := Kd.at_int HR0.out 0 p324 q324
       cases e324
       have qi324 : (0 < l0.length) = True := eq_true (by omega)
       (try rw [show ((0 : Int)).toNat = 0 from rfl] at hx324_0)
       (try rw [Addr.add_zero'] at hx324_0)
       replace p324 := eq_true p324
       replace q324 := eq_true q324
       have p327 : 0 ≤ (x3_2 : Int) := odt
       have q327 : x3_2 < (l0.length : Int) := odt
       obtain ⟨ad327, e327, hx327_0⟩ := Kd.at_int HR0.out x3_2 p327 q327
       obtain rfl : ad324 = ad327 := (by injection e327)
       replace p327 := eq_true p327
       replace q327 := eq_true q327
       go_wp2
       go_ret
       exact ⟨rsd, drw⟩
      rw [if_neg c16] at H
      have c16b0 : decide ((rd l0 x3_2) < 0) = false := decide_eq_false c16
      clear c16
      by_cases c17 : (rd l0 x3_2) > 2147483567
      case pos =>
       rw [if_pos c17] at H
       have c17b0 : decide (2147483567 < (rd l0 x3_2)) = true := decide_eq_true c17
       clear c17
       obtain rfl := Option.some.inj H
       have p324 : 0 ≤ (0 : Int) := (by omega)
       have q324 : 0 < (l0.length : Int) := odt
       obtain ⟨ad324, e324, hx324_0⟩ := Kd.at_int HR0.out 0 p324 q324
       cases e324
       have qi324 : (0 < l0.length) = True := eq_true (by omega)
       (try rw [show ((0 : Int)).toNat = 0 from rfl] at hx324_0)
       (try rw [Addr.add_zero'] at hx324_0)
       replace p324 := eq_true p324
       replace q324 := eq_true q324
       have p327 : 0 ≤ (x3_2 : Int) := odt
       have q327 : x3_2 < (l0.length : Int) := odt
       obtain ⟨ad327, e327, hx327_0⟩ := Kd.at_int HR0.out x3_2 p327 q327
       obtain rfl : ad324 = ad327 := (by injection e327)
       replace p327 := eq_true p327
       replace q327 := eq_true q327
       have p328 : 0 ≤ (x3_2 : Int) := odt
       have q328 : x3_2 < (l0.length : Int) := odt
       obtain ⟨ad328, e328, hx328_0⟩ := Kd.at_int HR0.out x3_2 p328 q328
       obtain rfl : ad324 = ad328 := (by injection e328)
       replace p328 := eq_true p328
       replace q328 := eq_true q328
       go_wp2
       go_ret
       exact ⟨rsd, drw⟩
      rw [if_neg c17] at H
      have c17b0 : decide (2147483567 < (rd l0 x3_2)) = false := decide_eq_false c17
      clear c17
      have H' := Aside0.mk H
      clear H
      have p324 : 0 ≤ (0 : Int) := (by omega)
      have q324 : 0 < (l0.length : Int) := odt
      obtain ⟨ad324, e324, hx324_0⟩ := Kd.at_int HR0.out 0 p324 q324
      cases e324
      have qi324 : (0 < l0.length) = True := eq_true (by omega)
      (try rw [show ((0 : Int)).toNat = 0 from rfl] at hx324_0)
      (try rw [Addr.add_zero'] at hx324_0)
      replace p324 := eq_true p324
      replace q324 := eq_true q324
      have p327 : 0 ≤ (x3_2 : Int) := odt
      have q327 : x3_2 < (l0.length : Int) := odt
      obtain ⟨ad327, e327, hx327_0⟩ := Kd.at_int HR0.out x3_2 p327 q327
      obtain rfl : ad324 = ad327 := (by injection e327)
      replace p327 := eq_true p327
      replace q327 := eq_true q327
      have p328 : 0 ≤ (x3_2 : Int) := odt
      have q328 : x3_2 < (l0.length : Int) := odt
      obtain ⟨ad328, e328, hx328_0⟩ := Kd.at_int HR0.out x3_2 p328 q328
      obtain rfl : ad324 = ad328 := (by injection e328)
      replace p328 := eq_true p328
      replace q328 := eq_true q328
      go_wp2
      go_roundg k2
      case measure => have := HJ1.out; have := HK2.out; omega
      case rel => exact ⟨(wrap64 (x3_2 + 1)), rsd, H', ⟨by have := HJ1.out; have := HK2.out; omega⟩, drw⟩
     rw [if_pos c11] at H
     have c11b0 : decide ((rd l0 0) < 2) = true := decide_eq_true c11
     clear c11
     by_cases c12 : 0 ≤ x3_2
     case neg =>
      rw [if_neg c12] at H
      exact absurd H (by simp)
     rw [if_pos c12] at H
     have c12b0 : decide (0 ≤ x3_2) = true := decide_eq_true c12
     clear c12
     by_cases c13 : (rd l0 x3_2) < 0
     case pos =>
      rw [if_pos c13] at H
      have c13b0 : decide ((rd l0 x3_2) < 0) = true := decide_eq_true c13
      clear c13
      obtain rfl := Option.some.inj H
      have p324 : 0 ≤ (0 : Int) := (by omega)
      have q324 : 0 < (l0.length : Int) := odt
      obtain ⟨ad324, e324, hx324_0⟩ := Kd.at_int HR0.out 0 p324 q324
      cases e324
      have qi324 : (0 < l0.length) = True := eq_true (by omega)
      (try rw [show ((0 : Int)).toNat = 0 from rfl] at hx324_0)
      (try rw [Addr.add_zero'] at hx324_0)
      replace p324 := eq_true p324
      replace q324 := eq_true q324
      have p325 : 0 ≤ (x3_2 : Int) := odt
      have q325 : x3_2 < (l0.length : Int) := odt
      obtain ⟨ad325, e325, hx325_0⟩ := Kd.at_int HR0.out x3_2 p325 q325
      obtain rfl : ad324 = ad325 := (by injection e325)
      replace p325 := eq_true p325
      replace q325 := eq_true q325
      go_wp2
      go_ret
      exact ⟨rsd, drw⟩
     rw [if_neg c13] at H
     have c13b0 : decide ((rd l0 x3_2) < 0) = false := decide_eq_false c13
     clear c13
     by_cases c14 : (rd l0 x3_2) > 39
     case pos =>
      rw [if_pos c14] at H
      have c14b0 : decide (39 < (rd l0 x3_2)) = true := decide_eq_true c14
      clear c14
      obtain rfl := Option.some.inj H
      have p324 : 0 ≤ (0 : Int) := (by omega)
      have q324 : 0 < (l0.length : Int) := odt
      obtain ⟨ad324, e324, hx324_0⟩ := Kd.at_int HR0.out 0 p324 q324
      cases e324
      have qi324 : (0 < l0.length) = True := eq_true (by omega)
      (try rw [show ((0 : Int)).toNat = 0 from rfl] at hx324_0)
      (try rw [Addr.add_zero'] at hx324_0)
      replace p324 := eq_true p324
      replace q324 := eq_true q324
      have p325 : 0 ≤ (x3_2 : Int) := odt
      have q325 : x3_2 < (l0.length : Int) := odt
      obtain ⟨ad325, e325, hx325_0⟩ := Kd.at_int HR0.out x3_2 p325 q325
      obtain rfl : ad324 = ad325 := (by injection e325)
      replace p325 := eq_true p325
      replace q325 := eq_true q325
      have p326 : 0 ≤ (x3_2 : Int) := odt
      have q326 : x3_2 < (l0.length : Int) := odt
      obtain ⟨ad326, e326, hx326_0⟩ := Kd.at_int HR0.out x3_2 p326 q326
      obtain rfl : ad324 = ad326 := (by injection e326)
      replace p326 := eq_true p326
      replace q326 := eq_true q326
      go_wp2
      go_ret
      exact ⟨rsd, drw⟩
     rw [if_neg c14] at H
     have c14b0 : decide (39 < (rd l0 x3_2)) = false := decide_eq_false c14
     clear c14
     have H' := Aside0.mk H
     clear H
     have p324 : 0 ≤ (0 : Int) := (by omega)
     have q324 : 0 < (l0.length : Int) := odt
     obtain ⟨ad324, e324, hx324_0⟩ := Kd.at_int HR0.out 0 p324 q324
     cases e324
     have qi324 : (0 < l0.length) = True := eq_true (by omega)
     (try rw [show ((0 : Int)).toNat = 0 from rfl] at hx324_0)
     (try rw [Addr.add_zero'] at hx324_0)
     replace p324 := eq_true p324
     replace q324 := eq_true q324
     have p325 : 0 ≤ (x3_2 : Int) := odt
     have q325 : x3_2 < (l0.length : Int) := odt
     obtain ⟨ad325, e325, hx325_0⟩ := Kd.at_int HR0.out x3_2 p325 q325
     obtain rfl : ad324 = ad325 := (by injection e325)
     replace p325 := eq_true p325
     replace q325 := eq_true q325
     have p326 : 0 ≤ (x3_2 : Int) := odt
     have q326 : x3_2 < (l0.length : Int) := odt
     obtain ⟨ad326, e326, hx326_0⟩ := Kd.at_int HR0.out x3_2 p326 q326
     obtain rfl : ad324 = ad326 := (by injection e326)
     replace p326 := eq_true p326
     replace q326 := eq_true q326
     go_wp2
     go_roundg k2
     case measure => have := HJ1.out; have := HK2.out; omega
     case rel => exact ⟨(wrap64 (x3_2 + 1)), rsd, H', ⟨by have := HJ1.out; have := HK2.out; omega⟩, drw⟩

/-! ### cr17_digits: function 84 -/
def cr17_digits.l0 : Nat → Int → ByteArray → Option (ByteArray)
 | 0, _, _ => none
 | k + 1, x0, x3 => if x0 > 0 then ((some (([(wrap64 (128 + (Int.tmod x0 128))) % 256] : List Int) : List Int)).bind fun y334 => (if (strOfNums y334).size + x3.size ≤ 9223372036854775807 then (cr17_digits.l0 k (wrap64 (Int.tdiv x0 128)) ((strOfNums y334) ++ x3)) else (none))) else (some x3)
def cr17_digits.f (k : Nat) (a0 : Int) : Option (ByteArray) := cr17_digits.l0 k (wrap64 (Int.tdiv a0 128)) (strOfNums (([(Int.tmod a0 128) % 256] : List Int)))
theorem cr17_digits.mono_l : ∀ k, (∀ y0 y1, LeO (cr17_digits.l0 k y0 y1) (cr17_digits.l0 (k + 1) y0 y1))
 | 0 => fun _ _ r h => by simp [cr17_digits.l0] at h
 | k + 1 => by
  have ih0 := cr17_digits.mono_l k
  ·intro y0 y1
   unfold cr17_digits.l0
   repeat' first
   | (with_reducible first | exact ih0 _ _ | exact LeO.refl _ | exact LeO.none _ | refine LeO.ite ?_ ?_ | refine LeO.bind ?_ (fun _ => ?_))
   | exact ih0 _ _
   | exact LeO.none _
   | refine LeO.ite ?_ ?_
   | refine LeO.bind ?_ (fun _ => ?_)
theorem cr17_digits.mono : ∀ a0 k, LeO (cr17_digits.f k a0) (cr17_digits.f (k + 1) a0) := by
 intro a0 k
 have ih0 := cr17_digits.mono_l k
 unfold cr17_digits.f
 repeat' first
  | (with_reducible first | exact ih0 _ _ | exact LeO.refl _ | exact LeO.none _ | refine LeO.ite ?_ ?_ | refine LeO.bind ?_ (fun _ => ?_))
  | exact ih0 _ _
  | exact LeO.none _
  | refine LeO.ite ?_ ?_
  | refine LeO.bind ?_ (fun _ => ?_)
set_option maxHeartbeats 8000000 in
set_option maxRecDepth 100000 in
theorem cr17_digits.calls (k : Nat) (a0 : Int) (r : ByteArray) (w : World) (h : cr17_digits.f k a0 = some r) :
 Calls Tryd.prog 84 #[.int .i64 a0] w fun e w' => e = .returned (.string r) ∧ Below w.heap.size w w' := by
 have HB := Aside0.mk (Below.refl w.heap.size w)
 have H : (cr17_digits.l0 k (wrap64 (Int.tdiv a0 128)) (strOfNums (([(Int.tmod a0 128) % 256] : List Int)))) = some r := h
 clear h
 obtain ⟨y331, hy331⟩ : ∃ y_ : List Int, y_ = (([(Int.tmod a0 128) % 256] : List Int)) := ⟨_, rfl⟩
 replace H : (cr17_digits.l0 k (wrap64 (Int.tdiv a0 128)) (strOfNums y331)) = some r := by first | (rw [hy331]; with_reducible exact H) | (have H2_ := (Option.bind_some _ _).symm.trans H; rw [hy331]; with_reducible exact H2_) | (have H2_ := (Option.bind_some _ _).symm.trans H; with_reducible exact H2_) | with_reducible exact H | (rw [hy331]; exact H) | exact H
 have Ny331 := Aside0.mk hy331
 clear hy331
 have H' := Aside0.mk H
 clear H
 go_enter Tryd.func84, Tryd.ntmps84
 go_wp2_with (first | ((with_reducible refine gate_dst (N := 7) rfl ?_); refine Kd.R_lit (Kd.int .u8) _ 5 ?hg (N := 7) ?hd (xs := ([(Int.tmod a0 128) % 256] : List Int)) (inner := [.int .u8 ((Int.tmod a0 128) % 256)]) (ok := fun _ => True) (okp := fun _ => True) ?hr ?hp (fun _ hk => hk) trivial (Below.refl _ _) (Nat.le_refl _) (by simp) ?_; (case hd => rfl); (case hg => rfl); (case hr => first | (go_simp; done) | (go_simp; rfl)); (case hp => exact (Reps.one (show Kd.M (Kd.int .u8) _ _ _ ((Int.tmod a0 128) % 256) [.int .u8 ((Int.tmod a0 128) % 256)] from rfl) (Reps.none _ _))); intro v332 w2 ho3 hb hg_ hnew_; clear hg_ hnew_; (first | rw [← Ny331.out] at ho3 | (simp only [Int.reduceToNat] at ho3; rw [← Ny331.out] at ho3)); have n0_ := Aside0.mk (Kd.R_lower ho3 (below_size blw)); have n1_ := Aside0.mk (below_step blw hb); clear HB; have HO333 := n0_; have HB := n1_; clear n0_ n1_; clear hb ho3; have hcv4 := own_string (P := Tryd.prog) Tryd.underlying50 Tryd.underlying5 Tryd.underlying9 (Kd.own_of_R HO333.out)))
 go_loopg [0, 3] k (fun kq v0 v3 w' => ∃ (x0_1 : Int) (x3_1 : ByteArray), v0 = .int .i64 x0_1 ∧ v3 = .string x3_1 ∧ Aside0 (cr17_digits.l0 kq x0_1 x3_1 = some r) ∧ Aside0 (kq ≤ k) ∧ Aside0 (Below w.heap.size w w'))
 case atStart => exact ⟨(wrap64 (Int.tdiv a0 128)), (strOfNums y331), rsd, rsd, H', ⟨Nat.le_refl _⟩, ⟨blw⟩⟩
 case round =>
  clear H'
  try clear hcv4
  obtain ⟨x0_1, x3_1, rfl, rfl, HA, HK1, HB⟩ := hrel
  cases gk with
  | zero => exact absurd HA.out (by simp [cr17_digits.l0])
  | succ k1 =>
   have H := HA.out
   clear HA
   simp only [cr17_digits.l0] at H
   by_cases c5 : x0_1 > 0
   case neg =>
    rw [if_neg c5] at H
    have c5b0 : decide (0 < x0_1) = false := decide_eq_false c5
    clear c5
    obtain rfl := Option.some.inj H
    go_wp2
    go_ret
    exact ⟨rse, blw⟩
   rw [if_pos c5] at H
   have c5b0 : decide (0 < x0_1) = true := decide_eq_true c5
   clear c5
   obtain ⟨y334, hy334⟩ : ∃ y_ : List Int, y_ = (([(wrap64 (128 + (Int.tmod x0_1 128))) % 256] : List Int)) := ⟨_, rfl⟩
   replace H : (if (strOfNums y334).size + x3_1.size ≤ 9223372036854775807 then (cr17_digits.l0 k1 (wrap64 (Int.tdiv x0_1 128)) ((strOfNums y334) ++ x3_1)) else (none)) = some r := by first | (rw [hy334]; with_reducible exact H) | (have H2_ := (Option.bind_some _ _).symm.trans H; rw [hy334]; with_reducible exact H2_) | (have H2_ := (Option.bind_some _ _).symm.trans H; with_reducible exact H2_) | with_reducible exact H | (rw [hy334]; exact H) | exact H
   have Ny334 := Aside0.mk hy334
   clear hy334
   by_cases c6 : (strOfNums y334).size + x3_1.size ≤ 9223372036854775807
   case neg =>
    rw [if_neg c6] at H
    exact absurd H (by simp)
   rw [if_pos c6] at H
   have c6b0 := eq_true c6
   have c6b1 : decide ((strOfNums y334).size + x3_1.size ≤ 9223372036854775807) = true := decide_eq_true c6
   try have c6b2 : (9223372036854775807 < (strOfNums y334).size + x3_1.size) = False := eq_false (Nat.not_lt.2 c6)
   have H' := Aside0.mk H
   clear H
   go_wp2_with (first | ((with_reducible refine gate_dst (N := 17) rfl ?_); refine Kd.R_lit (Kd.int .u8) _ 5 ?hg (N := 17) ?hd (xs := ([(wrap64 (128 + (Int.tmod x0_1 128))) % 256] : List Int)) (inner := [.int .u8 ((wrap64 (128 + (Int.tmod x0_1 128))) % 256)]) (ok := fun _ => True) (okp := fun _ => True) ?hr ?hp (fun _ hk => hk) trivial (Below.refl _ _) (Nat.le_refl _) (by simp) ?_; (case hd => rfl); (case hg => rfl); (case hr => first | (go_simp; done) | (go_simp; rfl)); (case hp => exact (Reps.one (show Kd.M (Kd.int .u8) _ _ _ ((wrap64 (128 + (Int.tmod x0_1 128))) % 256) [.int .u8 ((wrap64 (128 + (Int.tmod x0_1 128))) % 256)] from rfl) (Reps.none _ _))); intro v335 w7 ho8 hb hg_ hnew_; clear hg_ hnew_; (first | rw [← Ny334.out] at ho8 | (simp only [Int.reduceToNat] at ho8; rw [← Ny334.out] at ho8)); have n0_ := Aside0.mk (Kd.R_lower ho8 (below_size blw)); have n1_ := Aside0.mk (below_step blw hb); clear HB; have HO336 := n0_; have HB := n1_; clear n0_ n1_; clear hb ho8; have hcv9 := own_string (P := Tryd.prog) Tryd.underlying50 Tryd.underlying5 Tryd.underlying9 (Kd.own_of_R HO336.out)))
   go_roundg k1
   case measure => have := HK1.out; omega
   case rel => exact ⟨(wrap64 (Int.tdiv x0_1 128)), ((strOfNums y334) ++ x3_1), rsd, rsd, H', ⟨by have := HK1.out; omega⟩, ⟨blw⟩⟩

/-! ### cr17_Encode: function 76 -/
def cr17_Encode.l0 : Nat → List Int → ByteArray → Int → Option (ByteArray × Bool)
 | 0, _, _, _ => none
 | k + 1, x0, x4, x5 => if x5 < (x0.length : Int) then (if 0 ≤ x5 then ((cr17_digits.f k (rd x0 x5)).bind fun t342 => (if x4.size + t342.size ≤ 9223372036854775807 then (cr17_Encode.l0 k x0 (x4 ++ t342) (wrap64 (x5 + 1))) else (none))) else (none)) else (some (x4, true))
def cr17_Encode.f (k : Nat) (l0 : List Int) : Option (ByteArray × Bool) := (cr17_Right.f k l0).bind fun t337 => (if t337 = true then (if 0 < (l0.length : Int) then (if 1 < (l0.length : Int) then ((cr17_digits.f k (wrap64 ((wrap64 (40 * (rd l0 0))) + (rd l0 1)))).bind fun t340 => (cr17_Encode.l0 k l0 t340 2)) else (none)) else (none)) else (some ((⟨#[]⟩ : ByteArray), false)))
theorem cr17_Encode.mono_l : ∀ k, (∀ y0 y1 y2, LeO (cr17_Encode.l0 k y0 y1 y2) (cr17_Encode.l0 (k + 1) y0 y1 y2))
 | 0 => fun _ _ _ r h => by simp [cr17_Encode.l0] at h
 | k + 1 => by
  have ih0 := cr17_Encode.mono_l k
  ·intro y0 y1 y2
   unfold cr17_Encode.l0
   repeat' first
   | (with_reducible first | exact ih0 _ _ _ | exact cr17_Right.mono _ _ | exact cr17_digits.mono _ _ | exact LeO.refl _ | exact LeO.none _ | refine LeO.ite ?_ ?_ | refine LeO.bind ?_ (fun _ => ?_))
   | exact ih0 _ _ _
   | exact cr17_Right.mono _ _
   | exact cr17_digits.mono _ _
   | exact LeO.none _
   | refine LeO.ite ?_ ?_
   | refine LeO.bind ?_ (fun _ => ?_)
theorem cr17_Encode.mono : ∀ a0 k, LeO (cr17_Encode.f k a0) (cr17_Encode.f (k + 1) a0) := by
 intro a0 k
 have ih0 := cr17_Encode.mono_l k
 unfold cr17_Encode.f
 repeat' first
  | (with_reducible first | exact ih0 _ _ _ | exact cr17_Right.mono _ _ | exact cr17_digits.mono _ _ | exact LeO.refl _ | exact LeO.none _ | refine LeO.ite ?_ ?_ | refine LeO.bind ?_ (fun _ => ?_))
  | exact ih0 _ _ _
  | exact cr17_Right.mono _ _
  | exact cr17_digits.mono _ _
  | exact LeO.none _
  | refine LeO.ite ?_ ?_
  | refine LeO.bind ?_ (fun _ => ?_)
def cr17_Encode.T3 : Bool × List (List Nat × List Nat) := (true, [([], []), ([0], [0]), ([1], [1]), ([2], [2]), ([], []), ([4], [4]), ([5], [5]), ([3, 6], [3, 6]), ([7], [7]), ([8, 8, 0, 1, 2, 3, 4, 5, 6, 7, 8], [8])])
def cr17_Encode.B3 : List Nat := [0, 1, 3, 7, 0, 16, 48, 127, 255, 511]
theorem cr17_Encode.tab3 : rtab .any (opsOf Tryd.f76 3) = cr17_Encode.T3 := by kernel_rfl
theorem cr17_Encode.bits3 : waitsOk cr17_Encode.T3.2 cr17_Encode.B3 = true := by kernel_rfl
set_option maxHeartbeats 8000000 in
set_option maxRecDepth 100000 in
theorem cr17_Encode.calls (k : Nat) (A0 : Option Addr) (c0 : Nat) (l0 : List Int) (r1 : ByteArray) (r2 : Bool) (w : World) (hr0 : Kd.C (Kd.int .i64) w A0 l0.length l0) (hc0 : l0.length ≤ c0) (h : cr17_Encode.f k l0 = some (r1, r2)) :
 Calls Tryd.prog 76 #[.slice A0 l0.length c0] w fun e w' => e = .returned (.tuple #[.string r1, .bool r2]) ∧ Below w.heap.size w w' := by
 have HR0 := Aside0.mk hr0
 have HC0 := Aside0.mk hc0
 clear hr0 hc0
 have HB := Aside0.mk (Below.refl w.heap.size w)
 have H : ((cr17_Right.f k l0).bind fun t337 => (if t337 = true then (if 0 < (l0.length : Int) then (if 1 < (l0.length : Int) then ((cr17_digits.f k (wrap64 ((wrap64 (40 * (rd l0 0))) + (rd l0 1)))).bind fun t340 => (cr17_Encode.l0 k l0 t340 2)) else (none)) else (none)) else (some ((⟨#[]⟩ : ByteArray), false)))) = some (r1, r2) := h
 clear h
 replace H := Option.bind_eq_some_iff.mp H
 obtain ⟨t337, A20, H⟩ := H
 replace H : (if t337 = true then (if 0 < (l0.length : Int) then (if 1 < (l0.length : Int) then ((cr17_digits.f k (wrap64 ((wrap64 (40 * (rd l0 0))) + (rd l0 1)))).bind fun t340 => (cr17_Encode.l0 k l0 t340 2)) else (none)) else (none)) else (some ((⟨#[]⟩ : ByteArray), false))) = some (r1, r2) := H
 have A2 := Aside0.mk A20
 clear A20
 by_cases c3 : t337 = true
 case neg =>
  replace c3 := Bool.eq_false_iff.mpr c3
  subst c3
  have H1 : (some ((⟨#[]⟩ : ByteArray), false)) = some (r1, r2) := by rw [if_neg (show ¬ (false = true) by decide)] at H; exact H
  clear H
  have H := H1
  clear H1
  simp only [Option.some.injEq, Prod.mk.injEq] at H
  obtain ⟨rfl, rfl⟩ := H
  go_enter Tryd.func76, Tryd.ntmps76
  go_wp2_with (first | ((with_reducible refine gate_callee (f := 83) rfl ?_); refine goesL_ (some 7) rfl rfl Tryd.func83 (by kernel_rfl) rfl #[.slice A0 l0.length c0] rfl gargs ?_; (with_reducible refine (cr17_Right.calls k _ _ l0 false _ ?side1 ?side2 A2.out).mono ?_); (case side1 => exact kcW HR0.out); (case side2 => exact HC0.out); rintro e w' ⟨rfl, ⟨nd, rfl⟩⟩; refine ⟨_, rfl, ?_⟩))
  go_ret2
  exact ⟨rse, blw⟩
 subst c3
 have H1 : (if 0 < (l0.length : Int) then (if 1 < (l0.length : Int) then ((cr17_digits.f k (wrap64 ((wrap64 (40 * (rd l0 0))) + (rd l0 1)))).bind fun t340 => (cr17_Encode.l0 k l0 t340 2)) else (none)) else (none)) = some (r1, r2) := by rw [if_pos rfl] at H; exact H
 clear H
 have H := H1
 clear H1
 by_cases c4 : 0 < (l0.length : Int)
 case neg =>
  rw [if_neg c4] at H
  exact absurd H (by simp)
 rw [if_pos c4] at H
 have c4b0 : decide (0 < (l0.length : Int)) = true := decide_eq_true c4
 have c4b1 : decide (0 < l0.length) = true := decide_eq_true (by omega)
 clear c4
 by_cases c5 : 1 < (l0.length : Int)
 case neg =>
  rw [if_neg c5] at H
  exact absurd H (by simp)
 rw [if_pos c5] at H
 have c5b0 : decide (1 < (l0.length : Int)) = true := decide_eq_true c5
 have c5b1 : decide (1 < l0.length) = true := decide_eq_true (by omega)
 clear c5
 replace H := Option.bind_eq_some_iff.mp H
 obtain ⟨t340, A60, H⟩ := H
 replace H : (cr17_Encode.l0 k l0 t340 2) = some (r1, r2) := H
 have A6 := Aside0.mk A60
 clear A60
 have H' := Aside0.mk H
 clear H
 go_enter Tryd.func76, Tryd.ntmps76
 try go_wp2_with (first | ((with_reducible refine gate_callee (f := 83) rfl ?_); refine goesL_ (some 7) rfl rfl Tryd.func83 (by kernel_rfl) rfl #[.slice A0 l0.length c0] rfl gargs ?_; (with_reducible refine (cr17_Right.calls k _ _ l0 true _ ?side1 ?side2 A2.out).mono ?_); (case side1 => exact kcW HR0.out); (case side2 => exact HC0.out); rintro e w' ⟨rfl, ⟨nd, rfl⟩⟩; refine ⟨_, rfl, ?_⟩))
 (rw [drewN_self w]; generalize hq_ : World.drewN w _ = w7; have n_ : Aside0 (Below w.heap.size w w7) := ⟨by rw [← hq_]; apply pw_below_drewN; exact HB.out⟩; clear HB hq_; have HB := n_; clear n_)
 have n0_ := Aside0.mk (below_drew1 HB.out)
 clear HB
 have HB := n0_
 clear n0_
 have p338 : 0 ≤ (0 : Int) := (by omega)
 have q338 : 0 < (l0.length : Int) := odt
 obtain ⟨ad338, e338, hx338_0⟩ := Kd.at_int HR0.out 0 p338 q338
 have hw338_0 := hx338_0
 (try rw [show ((0 : Int)).toNat = 0 from rfl] at hw338_0)
 (try rw [show 0 * 1 = 0 from rfl] at hw338_0)
 (try rw [Addr.add_zero'] at hw338_0)
 cases e338
 have qi338 : (0 < l0.length) = True := eq_true (by omega)
 (try rw [show ((0 : Int)).toNat = 0 from rfl] at hx338_0)
 (try rw [Addr.add_zero'] at hx338_0)
 replace hx338_0 := cellB hx338_0
 replace p338 := eq_true p338
 replace q338 := eq_true q338
 have p339 : 0 ≤ (1 : Int) := (by omega)
 have q339 : 1 < (l0.length : Int) := odt
 obtain ⟨ad339, e339, hx339_0⟩ := Kd.at_int HR0.out 1 p339 q339
 have hw339_0 := hx339_0
 (try rw [show ((1 : Int)).toNat = 1 from rfl] at hw339_0)
 (try rw [show 1 * 1 = 1 from rfl] at hw339_0)
 (try simp only [Nat.reduceMul, Nat.reduceEqDiff, Go.Addr.add, ↓reduceIte] at hw339_0)
 obtain rfl : ad338 = ad339 := (by injection e339)
 (try simp only [show (1 : Int).toNat = 1 from rfl, Nat.reduceMul, Nat.reduceEqDiff, Go.Addr.add, ↓reduceIte] at hx339_0)
 have qi339 : (1 < l0.length) = True := eq_true (by omega)
 (try rw [show ((1 : Int)).toNat = 1 from rfl] at hx339_0)
 replace hx339_0 := cellB hx339_0
 replace p339 := eq_true p339
 replace q339 := eq_true q339
 refine start_ (n := 10) (S := fun w' => w'.cell? ad338 = some (.int .i64 (rd l0 0)) ∧ w'.cell? ⟨ad338.block, ad338.off + 1, none⟩ = some (.int .i64 (rd l0 1))) (ds := []) #[false, false, false, false, false, false, false, false, false, false] (by kernel_rfl) rfl rfl ⟨(cellB hw338_0), (cellB hw339_0)⟩ (fun hHeld => ?_); refine with_tabW cr17_Encode.tab3 cr17_Encode.bits3 (fun HG_ HW_ => ?_)
 generalize w7.drew = w8 at HB hx338_0 hx339_0 hHeld ⊢
 refine pu 0 (some 9) ?_
 refine pu 1 (some 10) ?_
 refine pu 4 (some 13) ?_
 refine pu 5 (some 14) ?_
 refine take_ (i := 2) (N := some 11) (v := ?_) (a' := ?_) #[true, true, true, false, true, true, false, false, false, false] rfl rfl (take_ofW HG_.out HW_.out (by kernel_rfl)) (fun _ _ _ h => h) (Or.inl ⟨by rfl, ?_⟩) hHeld ?_ ?_
 rotate_left
 ·rintro w' ⟨s0, s1⟩
  go_simp
  with_reducible rfl
 rotate_left
 ·simp only [Act.put, List.setIfInBounds_toArray, List.set_cons_zero, List.set_cons_succ, i64_w, i32_w]
  rfl
 refine pu 3 (some 12) ?_
 refine take_ (i := 6) (N := some 15) (v := ?_) (a' := ?_) #[true, true, true, true, true, true, true, false, false, false] rfl rfl (take_ofW HG_.out HW_.out (by kernel_rfl)) (fun _ _ _ h => h) (Or.inl ⟨by rfl, ?_⟩) hHeld ?_ ?_
 rotate_left
 ·rintro w' ⟨s0, s1⟩
  go_simp
  with_reducible rfl
 rotate_left
 ·simp only [Act.put, List.setIfInBounds_toArray, List.set_cons_zero, List.set_cons_succ, i64_w, i32_w]
  rfl
 refine pu 7 (some 16) ?_
 refine one_ (i := 8) (N := some 17) #[true, true, true, true, true, true, true, true, true, false] rfl rfl (one_of HG_.out (by kernel_rfl)) (by decide) (fun K hK => ?_)
 refine goes_ Tryd.func84 (by kernel_rfl) rfl #[.int .i64 (wrap64 ((wrap64 (40 * (rd l0 0))) + (rd l0 1)))] (by rfl) rfl rfl gargs ?_
 with_reducible refine (cr17_digits.calls k (wrap64 ((wrap64 (40 * (rd l0 0))) + (rd l0 1))) t340 _ A6.out).mono ?_
 rintro e w9 ⟨rfl, hb⟩
 refine ⟨_, rfl, ?_⟩
 have n0_ := Aside0.mk (below_step blw hb)
 clear HB
 have HB := n0_
 clear n0_
 (try clear hb)
 (try clear hb2)
 (try clear hk)
 (try clear hi)
 refine hK.out _ _ ⟨(cellB hw338_0), (cellB hw339_0)⟩ (fun hHeld => ?_)
 clear hK K
 refine norm_ (a' := ?_) ?_ ?_
 rotate_left
 ·show Act.put _ (some 17) _ = _
  simp only [Act.put, List.setIfInBounds_toArray, List.set_cons_zero, List.set_cons_succ, i64_w, i32_w]
  rfl
 refine pu 9 (some 4) ?_
 refine done_ (done_of HG_.out (by kernel_rfl)) ?_
 try go_wp2
 go_loopg [4, 5] k (fun kq v4 v5 w' => ∃ (x4_1 : ByteArray) (x5_1 : Int), v4 = .string x4_1 ∧ v5 = .int .i64 x5_1 ∧ Aside0 (cr17_Encode.l0 kq l0 x4_1 x5_1 = some (r1, r2)) ∧ Aside0 (kq ≤ k) ∧ Aside0 (Below w.heap.size w w'))
 case atStart => exact ⟨(t340), (2), rsd, rsd, H', ⟨Nat.le_refl _⟩, ⟨blw⟩⟩
 case round =>
  clear H'
  try clear c3
  try clear c4
  try clear c4b0
  try clear c4b1
  try clear c5
  try clear c5b0
  try clear c5b1
  try clear hx338_0
  try clear hx339_0
  try clear p338
  try clear p339
  try clear q338
  try clear q339
  obtain ⟨x4_1, x5_1, rfl, rfl, HA, HK1, HB⟩ := hrel
  cases gk with
  | zero => exact absurd HA.out (by simp [cr17_Encode.l0])
  | succ k1 =>
   have H := HA.out
   clear HA
   simp only [cr17_Encode.l0] at H
   by_cases c10 : x5_1 < (l0.length : Int)
   case neg =>
    rw [if_neg c10] at H
    have c10b0 : decide (x5_1 < (l0.length : Int)) = false := decide_eq_false c10
    clear c10
    simp only [Option.some.injEq, Prod.mk.injEq] at H
    obtain ⟨rfl, rfl⟩ := H
    go_wp2
    go_ret2
    exact ⟨rse, blw⟩
   rw [if_pos c10] at H
   have c10b0 : decide (x5_1 < (l0.length : Int)) = true := decide_eq_true c10
   clear c10
   by_cases c11 : 0 ≤ x5_1
   case neg =>
    rw [if_neg c11] at H
    exact absurd H (by simp)
   rw [if_pos c11] at H
   have c11b0 : decide (0 ≤ x5_1) = true := decide_eq_true c11
   clear c11
   replace H := Option.bind_eq_some_iff.mp H
   obtain ⟨t342, A120, H⟩ := H
   replace H : (if x4_1.size + t342.size ≤ 9223372036854775807 then (cr17_Encode.l0 k1 l0 (x4_1 ++ t342) (wrap64 (x5_1 + 1))) else (none)) = some (r1, r2) := H
   have A12 := Aside0.mk A120
   clear A120
   by_cases c13 : x4_1.size + t342.size ≤ 9223372036854775807
   case neg =>
    rw [if_neg c13] at H
    exact absurd H (by simp)
   rw [if_pos c13] at H
   have c13b0 := eq_true c13
   have c13b1 : decide (x4_1.size + t342.size ≤ 9223372036854775807) = true := decide_eq_true c13
   try have c13b2 : (9223372036854775807 < x4_1.size + t342.size) = False := eq_false (Nat.not_lt.2 c13)
   have H' := Aside0.mk H
   clear H
   have p341 : 0 ≤ (x5_1 : Int) := odt
   have q341 : x5_1 < (l0.length : Int) := odt
   obtain ⟨ad341, e341, hx341_0⟩ := Kd.at_int HR0.out x5_1 p341 q341
   obtain rfl : ad338 = ad341 := (by injection e341)
   replace hx341_0 := cellB hx341_0
   replace p341 := eq_true p341
   replace q341 := eq_true q341
   go_wp2_with (first | ((with_reducible refine gate_callee (f := 84) rfl ?_); refine goesL_ (some 29) rfl rfl Tryd.func84 (by kernel_rfl) rfl #[.int .i64 (rd l0 x5_1)] rfl gargs ?_; (with_reducible refine (cr17_digits.calls k1 (rd l0 x5_1) t342 _ A12.out).mono ?_); rintro e w14 ⟨rfl, hb⟩; refine ⟨_, rfl, ?_⟩; replace HB := Aside0.mk (below_step blw hb); (try clear hb); (try clear hb2); (try clear hk); (try clear hi)))
   go_roundg k1
   case measure => have := HK1.out; omega
   case rel => exact ⟨(x4_1 ++ t342), (wrap64 (x5_1 + 1)), rsd, rsd, H', ⟨by have := HK1.out; omega⟩, ⟨blw⟩⟩

end Go.Proofs.YtcbcojbhbhaimaaDoor.PTreeTells
