import Derived.Test.YtcbcojbhbhaimaaDoorPTreeTellsx0
import Derived.Test.YtcbcojbhbhaimaaDoorPTreeTellsx15
namespace Go.Proofs.YtcbcojbhbhaimaaDoor.PTreeTells
open Go.RowKit Go.Proofs.YtcbcojbhbhaimaaDoorW.PrintWords Go.Proofs.YtcbcojbhbhaimaaDoorW.PrintLast Go.Proofs.YtcbcojbhbhaimaaDoorW.PrintMore
attribute [local go_sem high] c_add c_eql c_neq
attribute [local go_sem] f_store_c f_store_f f_add f_toint f_fold_eq f_fold_ne f_fold_lt f_fold_gt f_fold_le f_fold_ge
attribute [local go_sem] str_leq str_gtr str_geq max2_int min2_int max_two min_two max_three min_three max_four min_four   -- for this text's walks alone
set_option linter.unusedVariables false
set_option linter.unusedSimpArgs false

/-! ### cr20_behind: function 29 -/
mutual
def cr20_behind.j0 : Nat → List (S41) → Int → Int → Bool → Option (Int)
 | 0, _, _, _, _ => none
 | k + 1, x0, x1, x2, x24 => if x24 = true then (some (-1)) else (cr20_behind.l0 k x0 x1 x2 (wrap64 (x1 + 1)) 0)
def cr20_behind.l0 : Nat → List (S41) → Int → Int → Int → Int → Option (Int)
 | 0, _, _, _, _, _ => none
 | k + 1, x0, x1, x2, x7, x8 => if 0 ≤ x1 then (if x1 < (x0.length : Int) then (if x8 < (((rd_T41 x0 x1).f4).length : Int) then (if 0 ≤ x8 then (if (rd ((rd_T41 x0 x1).f4) x8) = x7 then ((cr20_behind.f k x0 x7 (wrap64 (x2 + 1))).bind fun t380 => (if t380 < 0 then (some (-1)) else (cr20_behind.l0 k x0 x1 x2 t380 (wrap64 (x8 + 1))))) else (some (-1))) else (none)) else (some x7)) else (none)) else (none)
def cr20_behind.f : Nat → List (S41) → Int → Int → Option (Int)
 | 0, _, _, _ => none
 | k + 1, l0, a1, a2 => if a1 ≥ (l0.length : Int) then (cr20_behind.j0 k l0 a1 a2 true) else (if a2 > 16 then (cr20_behind.j0 k l0 a1 a2 true) else (if 0 ≤ a1 then (if a1 < (l0.length : Int) then ((cr20_one.f k ((rd_T41 l0 a1).f0) ((rd_T41 l0 a1).f1) ((rd_T41 l0 a1).f2) ((rd_T41 l0 a1).f3) ((rd_T41 l0 a1).f4)).bind fun t376 => (cr20_behind.j0 k l0 a1 a2 (!t376))) else (none)) else (none)))
end
theorem cr20_behind.mono_l : ∀ k, (∀ y0 y1 y2, LeO (cr20_behind.f k y0 y1 y2) (cr20_behind.f (k + 1) y0 y1 y2)) ∧ (∀ y0 y1 y2 y3, LeO (cr20_behind.j0 k y0 y1 y2 y3) (cr20_behind.j0 (k + 1) y0 y1 y2 y3)) ∧ (∀ y0 y1 y2 y3 y4, LeO (cr20_behind.l0 k y0 y1 y2 y3 y4) (cr20_behind.l0 (k + 1) y0 y1 y2 y3 y4))
 | 0 => ⟨fun _ _ _ r h => by simp [cr20_behind.f] at h, fun _ _ _ _ r h => by simp [cr20_behind.j0] at h, fun _ _ _ _ _ r h => by simp [cr20_behind.l0] at h⟩
 | k + 1 => by
  obtain ⟨ih0, ih1, ih2⟩ := cr20_behind.mono_l k
  refine ⟨?_, ?_, ?_⟩ <;> intros <;> first | unfold cr20_behind.f | unfold cr20_behind.j0 | unfold cr20_behind.l0
  all_goals repeat' first
  | (with_reducible first | exact ih0 _ _ _ | exact ih1 _ _ _ _ | exact ih2 _ _ _ _ _ | exact cr20_one.mono _ _ _ _ _ _ | exact LeO.refl _ | exact LeO.none _ | refine LeO.ite ?_ ?_ | refine LeO.bind ?_ (fun _ => ?_))
  | exact ih0 _ _ _
  | exact ih1 _ _ _ _
  | exact ih2 _ _ _ _ _
  | exact cr20_one.mono _ _ _ _ _ _
  | exact LeO.none _
  | refine LeO.ite ?_ ?_
  | refine LeO.bind ?_ (fun _ => ?_)
theorem cr20_behind.mono : ∀ a0 a1 a2 k, LeO (cr20_behind.f k a0 a1 a2) (cr20_behind.f (k + 1) a0 a1 a2) := by
 intro a0 a1 a2 k
 obtain ⟨ih0, ih1, ih2⟩ := cr20_behind.mono_l k
 exact ih0 a0 a1 a2
set_option maxHeartbeats 8000000 in
set_option maxRecDepth 100000 in
theorem cr20_behind.calls (k : Nat) : ∀ (A0 : Option Addr) (c0 : Nat) (l0 : List (S41)) (a1 : Int) (a2 : Int) (r : Int) (w : World) (hr0 : Kd.C k41 w A0 l0.length l0) (hc0 : l0.length ≤ c0) (h : cr20_behind.f k l0 a1 a2 = some r),
 Calls Tryd.prog 29 #[.slice A0 l0.length c0, .int .i64 a1, .int .i64 a2] w fun e w' => e = .returned (.int .i64 r) ∧ Below w.heap.size w w' := by
 induction k using Nat.strongRecOn with
 | _ k ih =>
 intro A0 c0 l0 a1 a2 r w hr0 hc0 h
 cases k with
 | zero => exact absurd h (by simp [cr20_behind.f])
 | succ k =>
 simp only [cr20_behind.f] at h
 have hu41 := Tryd.underlying41
 have HR0 := Aside0.mk hr0
 have HC0 := Aside0.mk hc0
 clear hr0 hc0
 have HB := Aside0.mk (Below.refl w.heap.size w)
 have H : (if a1 ≥ (l0.length : Int) then (cr20_behind.j0 k l0 a1 a2 true) else (if a2 > 16 then (cr20_behind.j0 k l0 a1 a2 true) else (if 0 ≤ a1 then (if a1 < (l0.length : Int) then ((cr20_one.f k ((rd_T41 l0 a1).f0) ((rd_T41 l0 a1).f1) ((rd_T41 l0 a1).f2) ((rd_T41 l0 a1).f3) ((rd_T41 l0 a1).f4)).bind fun t376 => (cr20_behind.j0 k l0 a1 a2 (!t376))) else (none)) else (none)))) = some r := h
 clear h
 have HC4 := Aside0.mk H
 clear H
 go_enter Tryd.func29, Tryd.ntmps29
 go_upto_region 1 with (fail)
 go_cut [24] (fun v24 wc => ∃ (kq : Nat) (x24_3 : Bool), v24 = .bool x24_3 ∧ Aside0 (cr20_behind.j0 kq l0 a1 a2 x24_3 = some r) ∧ Aside0 (kq ≤ k) ∧ Aside0 (Below w.heap.size w wc))
 case first =>
  have H := HC4.out
  clear HC4
  by_cases c5 : a1 ≥ (l0.length : Int)
  case pos =>
   rw [if_pos c5] at H
   have c5b0 : decide ((l0.length : Int) ≤ a1) = true := decide_eq_true c5
   clear c5
   (first | rw [c5b0] | (simp only [i64_w, i32_w]; rw [c5b0]) | rw [c5b1] | skip)
   have H' := Aside0.mk H
   clear H
   go_wp2
   go_meet
   case rel => exact ⟨_, (true), rsd, H', ⟨by first | omega | exact Nat.le_refl _⟩, ⟨blw⟩⟩
  rw [if_neg c5] at H
  have c5b0 : decide ((l0.length : Int) ≤ a1) = false := decide_eq_false c5
  clear c5
  (first | rw [c5b0] | (simp only [i64_w, i32_w]; rw [c5b0]) | rw [c5b1] | skip)
  by_cases c6 : a2 > 16
  case pos =>
   rw [if_pos c6] at H
   have c6b0 : decide (16 < a2) = true := decide_eq_true c6
   clear c6
   have H' := Aside0.mk H
   clear H
   go_wp2
   go_meet
   case rel => exact ⟨_, (true), rsd, H', ⟨by first | omega | exact Nat.le_refl _⟩, ⟨blw⟩⟩
  rw [if_neg c6] at H
  have c6b0 : decide (16 < a2) = false := decide_eq_false c6
  clear c6
  by_cases c7 : 0 ≤ a1
  case neg =>
   rw [if_neg c7] at H
   exact absurd H (by simp)
  rw [if_pos c7] at H
  have c7b0 : decide (0 ≤ a1) = true := decide_eq_true c7
  clear c7
  by_cases c8 : a1 < (l0.length : Int)
  case neg =>
   rw [if_neg c8] at H
   exact absurd H (by simp)
  rw [if_pos c8] at H
  have c8b0 : decide (a1 < (l0.length : Int)) = true := decide_eq_true c8
  clear c8
  replace H := Option.bind_eq_some_iff.mp H
  obtain ⟨t376, A90, H⟩ := H
  replace H : (cr20_behind.j0 k l0 a1 a2 (!t376)) = some r := H
  have A9 := Aside0.mk A90
  clear A90
  have H' := Aside0.mk H
  clear H
  have p375 : 0 ≤ (a1 : Int) := odt
  have q375 : a1 < (l0.length : Int) := odt
  obtain ⟨ad375, A375_4, c375_4, e375, hx375_0, hx375_1, hx375_2, hx375_3, hx375_4, hl375_4, hi375_4⟩ := at_T41 HR0.out a1 p375 q375
  cases e375
  replace hx375_0 := cellB hx375_0
  replace hx375_1 := cellB hx375_1
  replace hx375_2 := cellB hx375_2
  replace hx375_3 := cellB hx375_3
  replace hx375_4 := cellB hx375_4
  have HR375_4 := Aside0.mk hi375_4
  have HC375_4 := Aside0.mk hl375_4
  clear hi375_4 hl375_4
  replace p375 := eq_true p375
  replace q375 := eq_true q375
  go_wp2_with (first | (go_at_call 40; (with_reducible refine (cr20_one.calls k ((rd_T41 l0 a1).f0) ((rd_T41 l0 a1).f1) ((rd_T41 l0 a1).f2) ((rd_T41 l0 a1).f3) _ _ ((rd_T41 l0 a1).f4) t376 _ ?side1 ?side2 A9.out).mono ?_); (case side1 => exact kcW (Kd.C_below HR375_4.out HB.out)); (case side2 => exact HC375_4.out); rintro e w10 ⟨rfl, hb⟩; replace HB := Aside0.mk (below_step blw hb); (try clear hb); (try clear hb2); (try clear hk); (try clear hi)))
  go_meet
  case rel => exact ⟨_, (!t376), rsd, H', ⟨by first | omega | exact Nat.le_refl _⟩, ⟨blw⟩⟩
 case rest =>
  clear HC4
  try clear c5
  try clear c5b0
  try clear c5b1
  try clear c6
  try clear c6b0
  try clear c7
  try clear c7b0
  try clear c8
  try clear c8b0
  try clear hx375_0
  try clear hx375_1
  try clear hx375_2
  try clear hx375_3
  try clear hx375_4
  try clear p375
  try clear q375
  obtain ⟨kq, x24_3, rfl, HA, HJ3, HB⟩ := hcut
  cases kq with
  | zero => exact absurd HA.out (by simp [cr20_behind.j0])
  | succ kj3 =>
   have H := HA.out
   clear HA
   simp only [cr20_behind.j0] at H
   by_cases c11 : x24_3 = true
   case pos =>
    subst c11
    have H1 : (some (-1)) = some r := by rw [if_pos rfl] at H; exact H
    clear H
    have H := H1
    clear H1
    obtain rfl := Option.some.inj H
    go_wp2
    go_ret
    exact ⟨rse, blw⟩
   replace c11 := Bool.eq_false_iff.mpr c11
   subst c11
   have H1 : (cr20_behind.l0 kj3 l0 a1 a2 (wrap64 (a1 + 1)) 0) = some r := by rw [if_neg (show ¬ (false = true) by decide)] at H; exact H
   clear H
   have H := H1
   clear H1
   have H' := Aside0.mk H
   clear H
   go_wp2
   go_loopg [7, 8] kj3 (fun kq v7 v8 w' => ∃ (x7_2 : Int) (x8_2 : Int), v7 = .int .i64 x7_2 ∧ v8 = .int .i64 x8_2 ∧ Aside0 (cr20_behind.l0 kq l0 a1 a2 x7_2 x8_2 = some r) ∧ Aside0 (kq ≤ kj3) ∧ Aside0 (Below w.heap.size w w'))
   case atStart => exact ⟨(wrap64 (a1 + 1)), (0), rsd, rsd, H', ⟨Nat.le_refl _⟩, ⟨blw⟩⟩
   case round =>
    clear H'
    try clear c5
    try clear c5b0
    try clear c5b1
    try clear c6
    try clear c6b0
    try clear c7
    try clear c7b0
    try clear c8
    try clear c8b0
    try clear c11
    try clear hx375_0
    try clear hx375_1
    try clear hx375_2
    try clear hx375_3
    try clear hx375_4
    try clear p375
    try clear q375
    obtain ⟨x7_2, x8_2, rfl, rfl, HA, HK2, HB⟩ := hrel
    cases gk with
    | zero => exact absurd HA.out (by simp [cr20_behind.l0])
    | succ k2 =>
     have H := HA.out
     clear HA
     simp only [cr20_behind.l0] at H
     by_cases c12 : 0 ≤ a1
     case neg =>
      rw [if_neg c12] at H
      exact absurd H (by simp)
     rw [if_pos c12] at H
     have c12b0 : decide (0 ≤ a1) = true := decide_eq_true c12
     clear c12
     by_cases c13 : a1 < (l0.length : Int)
     case neg =>
      rw [if_neg c13] at H
      exact absurd H (by simp)
     rw [if_pos c13] at H
     have c13b0 : decide (a1 < (l0.length : Int)) = true := decide_eq_true c13
     clear c13
     by_cases c14 : x8_2 < (((rd_T41 l0 a1).f4).length : Int)
     case neg =>
      rw [if_neg c14] at H
      have c14b0 : decide (x8_2 < (((rd_T41 l0 a1).f4).length : Int)) = false := decide_eq_false c14
      clear c14
      obtain rfl := Option.some.inj H
      have p377 : 0 ≤ (a1 : Int) := odt
      have q377 : a1 < (l0.length : Int) := odt
      obtain ⟨ad377, A377_4, c377_4, e377, hx377_0, hx377_1, hx377_2, hx377_3, hx377_4, hl377_4, hi377_4⟩ := at_T41 HR0.out a1 p377 q377
      cases e377
      replace hx377_0 := cellB hx377_0
      replace hx377_1 := cellB hx377_1
      replace hx377_2 := cellB hx377_2
      replace hx377_3 := cellB hx377_3
      replace hx377_4 := cellB hx377_4
      have HR377_4 := Aside0.mk hi377_4
      have HC377_4 := Aside0.mk hl377_4
      clear hi377_4 hl377_4
      replace p377 := eq_true p377
      replace q377 := eq_true q377
      go_wp2
      go_ret
      exact ⟨rse, blw⟩
     rw [if_pos c14] at H
     have c14b0 : decide (x8_2 < (((rd_T41 l0 a1).f4).length : Int)) = true := decide_eq_true c14
     clear c14
     by_cases c15 : 0 ≤ x8_2
     case neg =>
      rw [if_neg c15] at H
      exact absurd H (by simp)
     rw [if_pos c15] at H
     have c15b0 : decide (0 ≤ x8_2) = true := decide_eq_true c15
     clear c15
     by_cases c16 : (rd ((rd_T41 l0 a1).f4) x8_2) = x7_2
     case neg =>
      rw [if_neg c16] at H
      have c16b0 : ((rd ((rd_T41 l0 a1).f4) x8_2) == x7_2) = false := beq_eq_false_iff_ne.mpr c16
      have c16b1 : ((rd ((rd_T41 l0 a1).f4) x8_2) != x7_2) = true := bne_iff_ne.mpr c16
      obtain rfl := Option.some.inj H
      have p377 : 0 ≤ (a1 : Int) := odt
      have q377 : a1 < (l0.length : Int) := odt
      obtain ⟨ad377, A377_4, c377_4, e377, hx377_0, hx377_1, hx377_2, hx377_3, hx377_4, hl377_4, hi377_4⟩ := at_T41 HR0.out a1 p377 q377
      cases e377
      replace hx377_0 := cellB hx377_0
      replace hx377_1 := cellB hx377_1
      replace hx377_2 := cellB hx377_2
      replace hx377_3 := cellB hx377_3
      replace hx377_4 := cellB hx377_4
      have HR377_4 := Aside0.mk hi377_4
      have HC377_4 := Aside0.mk hl377_4
      clear hi377_4 hl377_4
      replace p377 := eq_true p377
      replace q377 := eq_true q377
      have p378 : 0 ≤ (a1 : Int) := odt
      have q378 : a1 < (l0.length : Int) := odt
      obtain ⟨ad378, A378_4, c378_4, e378, hx378_0, hx378_1, hx378_2, hx378_3, hx378_4, hl378_4, hi378_4⟩ := at_T41 HR0.out a1 p378 q378
      obtain rfl : ad377 = ad378 := (by injection e378)
      replace hx378_0 := cellB hx378_0
      replace hx378_1 := cellB hx378_1
      replace hx378_2 := cellB hx378_2
      replace hx378_3 := cellB hx378_3
      replace hx378_4 := cellB hx378_4
      have HR378_4 := Aside0.mk hi378_4
      have HC378_4 := Aside0.mk hl378_4
      clear hi378_4 hl378_4
      replace p378 := eq_true p378
      replace q378 := eq_true q378
      have ea_ := Option.some.inj (hx377_4.symm.trans hx378_4)
      injection ea_ with ea_ en_ ec_
      subst ea_
      subst ec_
      clear en_
      have p379 : 0 ≤ (x8_2 : Int) := odt
      have q379 : x8_2 < (((rd_T41 l0 a1).f4).length : Int) := odt
      obtain ⟨ad379, e379, hx379_0⟩ := Kd.at_int HR378_4.out x8_2 p379 q379
      cases e379
      replace hx379_0 := cellB hx379_0
      replace p379 := eq_true p379
      replace q379 := eq_true q379
      go_wp2
      go_ret
      exact ⟨rse, blw⟩
     rw [if_pos c16] at H
     have c16b0 : ((rd ((rd_T41 l0 a1).f4) x8_2) == x7_2) = true := beq_iff_eq.mpr c16
     have c16b1 : ((rd ((rd_T41 l0 a1).f4) x8_2) != x7_2) = false := bne_eq_false_iff_eq.mpr c16
     clear c16
     replace H := Option.bind_eq_some_iff.mp H
     obtain ⟨t380, A170, H⟩ := H
     replace H : (if t380 < 0 then (some (-1)) else (cr20_behind.l0 k2 l0 a1 a2 t380 (wrap64 (x8_2 + 1)))) = some r := H
     have A17 := Aside0.mk A170
     clear A170
     by_cases c18 : t380 < 0
     case pos =>
      rw [if_pos c18] at H
      have c18b0 : decide (t380 < 0) = true := decide_eq_true c18
      clear c18
      obtain rfl := Option.some.inj H
      have p377 : 0 ≤ (a1 : Int) := odt
      have q377 : a1 < (l0.length : Int) := odt
      obtain ⟨ad377, A377_4, c377_4, e377, hx377_0, hx377_1, hx377_2, hx377_3, hx377_4, hl377_4, hi377_4⟩ := at_T41 HR0.out a1 p377 q377
      cases e377
      replace hx377_0 := cellB hx377_0
      replace hx377_1 := cellB hx377_1
      replace hx377_2 := cellB hx377_2
      replace hx377_3 := cellB hx377_3
      replace hx377_4 := cellB hx377_4
      have HR377_4 := Aside0.mk hi377_4
      have HC377_4 := Aside0.mk hl377_4
      clear hi377_4 hl377_4
      replace p377 := eq_true p377
      replace q377 := eq_true q377
      have p378 : 0 ≤ (a1 : Int) := odt
      have q378 : a1 < (l0.length : Int) := odt
      obtain ⟨ad378, A378_4, c378_4, e378, hx378_0, hx378_1, hx378_2, hx378_3, hx378_4, hl378_4, hi378_4⟩ := at_T41 HR0.out a1 p378 q378
      obtain rfl : ad377 = ad378 := (by injection e378)
      replace hx378_0 := cellB hx378_0
      replace hx378_1 := cellB hx378_1
      replace hx378_2 := cellB hx378_2
      replace hx378_3 := cellB hx378_3
      replace hx378_4 := cellB hx378_4
      have HR378_4 := Aside0.mk hi378_4
      have HC378_4 := Aside0.mk hl378_4
      clear hi378_4 hl378_4
      replace p378 := eq_true p378
      replace q378 := eq_true q378
      have ea_ := Option.some.inj (hx377_4.symm.trans hx378_4)
      injection ea_ with ea_ en_ ec_
      subst ea_
      subst ec_
      clear en_
      have p379 : 0 ≤ (x8_2 : Int) := odt
      have q379 : x8_2 < (((rd_T41 l0 a1).f4).length : Int) := odt
      obtain ⟨ad379, e379, hx379_0⟩ := Kd.at_int HR378_4.out x8_2 p379 q379
      cases e379
      replace hx379_0 := cellB hx379_0
      replace p379 := eq_true p379
      replace q379 := eq_true q379
      go_wp2_with (first | ((with_reducible refine gate_callee (f := 29) rfl ?_); refine goesL_ (some 51) rfl rfl Tryd.func29 (by kernel_rfl) rfl #[.slice (some ad377) l0.length c0, .int .i64 x7_2, .int .i64 (wrap64 (a2 + 1))] rfl gargs ?_; (with_reducible refine (ih k2 (by have := HJ3.out; have := HK2.out; omega) _ _ l0 x7_2 (wrap64 (a2 + 1)) t380 _ ?side1 ?side2 A17.out).mono ?_); (case side1 => exact kcW (Kd.C_below HR0.out HB.out)); (case side2 => exact HC0.out); rintro e w19 ⟨rfl, hb⟩; refine ⟨_, rfl, ?_⟩; replace HB := Aside0.mk (below_step blw hb); (try clear hb); (try clear hb2); (try clear hk); (try clear hi)))
      go_ret
      exact ⟨rse, blw⟩
     rw [if_neg c18] at H
     have c18b0 : decide (t380 < 0) = false := decide_eq_false c18
     clear c18
     have H' := Aside0.mk H
     clear H
     have p377 : 0 ≤ (a1 : Int) := odt
     have q377 : a1 < (l0.length : Int) := odt
     obtain ⟨ad377, A377_4, c377_4, e377, hx377_0, hx377_1, hx377_2, hx377_3, hx377_4, hl377_4, hi377_4⟩ := at_T41 HR0.out a1 p377 q377
     cases e377
     replace hx377_0 := cellB hx377_0
     replace hx377_1 := cellB hx377_1
     replace hx377_2 := cellB hx377_2
     replace hx377_3 := cellB hx377_3
     replace hx377_4 := cellB hx377_4
     have HR377_4 := Aside0.mk hi377_4
     have HC377_4 := Aside0.mk hl377_4
     clear hi377_4 hl377_4
     replace p377 := eq_true p377
     replace q377 := eq_true q377
     have p378 : 0 ≤ (a1 : Int) := odt
     have q378 : a1 < (l0.length : Int) := odt
     obtain ⟨ad378, A378_4, c378_4, e378, hx378_0, hx378_1, hx378_2, hx378_3, hx378_4, hl378_4, hi378_4⟩ := at_T41 HR0.out a1 p378 q378
     obtain rfl : ad377 = ad378 := (by injection e378)
     replace hx378_0 := cellB hx378_0
     replace hx378_1 := cellB hx378_1
     replace hx378_2 := cellB hx378_2
     replace hx378_3 := cellB hx378_3
     replace hx378_4 := cellB hx378_4
     have HR378_4 := Aside0.mk hi378_4
     have HC378_4 := Aside0.mk hl378_4
     clear hi378_4 hl378_4
     replace p378 := eq_true p378
     replace q378 := eq_true q378
     have ea_ := Option.some.inj (hx377_4.symm.trans hx378_4)
     injection ea_ with ea_ en_ ec_
     subst ea_
     subst ec_
     clear en_
     have p379 : 0 ≤ (x8_2 : Int) := odt
     have q379 : x8_2 < (((rd_T41 l0 a1).f4).length : Int) := odt
     obtain ⟨ad379, e379, hx379_0⟩ := Kd.at_int HR378_4.out x8_2 p379 q379
     cases e379
     replace hx379_0 := cellB hx379_0
     replace p379 := eq_true p379
     replace q379 := eq_true q379
     go_wp2_with (first | ((with_reducible refine gate_callee (f := 29) rfl ?_); refine goesL_ (some 51) rfl rfl Tryd.func29 (by kernel_rfl) rfl #[.slice (some ad377) l0.length c0, .int .i64 x7_2, .int .i64 (wrap64 (a2 + 1))] rfl gargs ?_; (with_reducible refine (ih k2 (by have := HJ3.out; have := HK2.out; omega) _ _ l0 x7_2 (wrap64 (a2 + 1)) t380 _ ?side1 ?side2 A17.out).mono ?_); (case side1 => exact kcW (Kd.C_below HR0.out HB.out)); (case side2 => exact HC0.out); rintro e w20 ⟨rfl, hb⟩; refine ⟨_, rfl, ?_⟩; replace HB := Aside0.mk (below_step blw hb); (try clear hb); (try clear hb2); (try clear hk); (try clear hi)))
     go_roundg k2
     case measure => have := HJ3.out; have := HK2.out; omega
     case rel => exact ⟨(t380), (wrap64 (x8_2 + 1)), rsd, rsd, H', ⟨by have := HJ3.out; have := HK2.out; omega⟩, ⟨blw⟩⟩

/-! ### cr20_Right: function 12 -/
def cr20_Right.f (k : Nat) (l0 : List (S41)) : Option (Bool) := if (l0.length : Int) > 0 then (if (l0.length : Int) ≤ 1000 then ((cr20_behind.f k l0 0 1).bind fun t381 => (some (t381 == (l0.length : Int)))) else (some false)) else (some false)
theorem cr20_Right.mono : ∀ a0 k, LeO (cr20_Right.f k a0) (cr20_Right.f (k + 1) a0) := by
 intro a0 k
 unfold cr20_Right.f
 repeat' first
  | (with_reducible first | exact cr20_behind.mono _ _ _ _ | exact LeO.refl _ | exact LeO.none _ | refine LeO.ite ?_ ?_ | refine LeO.bind ?_ (fun _ => ?_))
  | exact cr20_behind.mono _ _ _ _
  | exact LeO.none _
  | refine LeO.ite ?_ ?_
  | refine LeO.bind ?_ (fun _ => ?_)
set_option maxHeartbeats 8000000 in
set_option maxRecDepth 100000 in
theorem cr20_Right.calls (k : Nat) (A0 : Option Addr) (c0 : Nat) (l0 : List (S41)) (r : Bool) (w : World) (hr0 : Kd.C k41 w A0 l0.length l0) (hc0 : l0.length ≤ c0) (h : cr20_Right.f k l0 = some r) :
 Calls Tryd.prog 12 #[.slice A0 l0.length c0] w fun e w' => e = .returned (.bool r) ∧ Below w.heap.size w w' := by
 have HR0 := Aside0.mk hr0
 have HC0 := Aside0.mk hc0
 clear hr0 hc0
 have HB := Aside0.mk (Below.refl w.heap.size w)
 have H : (if (l0.length : Int) > 0 then (if (l0.length : Int) ≤ 1000 then ((cr20_behind.f k l0 0 1).bind fun t381 => (some (t381 == (l0.length : Int)))) else (some false)) else (some false)) = some r := h
 clear h
 by_cases c2 : (l0.length : Int) > 0
 case neg =>
  rw [if_neg c2] at H
  have c2b0 : decide (0 < (l0.length : Int)) = false := decide_eq_false c2
  have c2b1 : decide (0 < l0.length) = false := decide_eq_false (by omega)
  clear c2
  obtain rfl := Option.some.inj H
  go_enter Tryd.func12, Tryd.ntmps12
  go_wp2
  go_ret
  exact ⟨rse, blw⟩
 rw [if_pos c2] at H
 have c2b0 : decide (0 < (l0.length : Int)) = true := decide_eq_true c2
 have c2b1 : decide (0 < l0.length) = true := decide_eq_true (by omega)
 clear c2
 by_cases c3 : (l0.length : Int) ≤ 1000
 case neg =>
  rw [if_neg c3] at H
  have c3b0 : decide ((l0.length : Int) ≤ 1000) = false := decide_eq_false c3
  have c3b1 : decide (l0.length ≤ 1000) = false := decide_eq_false (by omega)
  clear c3
  obtain rfl := Option.some.inj H
  go_enter Tryd.func12, Tryd.ntmps12
  go_wp2
  go_ret
  exact ⟨rse, blw⟩
 rw [if_pos c3] at H
 have c3b0 : decide ((l0.length : Int) ≤ 1000) = true := decide_eq_true c3
 have c3b1 : decide (l0.length ≤ 1000) = true := decide_eq_true (by omega)
 clear c3
 replace H := Option.bind_eq_some_iff.mp H
 obtain ⟨t381, A40, H⟩ := H
 replace H : (some (t381 == (l0.length : Int))) = some r := H
 have A4 := Aside0.mk A40
 clear A40
 obtain rfl := Option.some.inj H
 go_enter Tryd.func12, Tryd.ntmps12
 go_wp2_with (first | (go_at_call 29; (with_reducible refine (cr20_behind.calls k _ _ l0 0 1 t381 _ ?side1 ?side2 A4.out).mono ?_); (case side1 => exact kcW HR0.out); (case side2 => exact HC0.out); rintro e w5 ⟨rfl, hb⟩; replace HB := Aside0.mk (below_step blw hb); (try clear hb); (try clear hb2); (try clear hk); (try clear hi)))
 go_ret
 exact ⟨rse, blw⟩

/-! ### cr15_may: function 49 -/
def cr15_may.f (a0_0 : Int) (a0_1 : Int) (a0_2 : Bool) (a0_3 : Int) : Option (Bool) := if a0_0 ≥ 0 then (if a0_0 < 4 then (if a0_1 ≥ 0 then (if a0_1 ≤ 2097151 then (if a0_3 ≥ 0 then (some (decide (a0_3 ≤ 65535))) else (some false)) else (some false)) else (some false)) else (some false)) else (some false)
set_option maxHeartbeats 8000000 in
set_option maxRecDepth 100000 in
theorem cr15_may.calls (a0_0 : Int) (a0_1 : Int) (a0_2 : Bool) (a0_3 : Int) (r : Bool) (w : World) (h : cr15_may.f a0_0 a0_1 a0_2 a0_3 = some r) :
 Calls Tryd.prog 49 #[.agg #[.int .i64 a0_0, .int .i64 a0_1, .bool a0_2, .int .i64 a0_3]] w fun e w' => e = .returned (.bool r) ∧ Below w.heap.size w w' := by
 have hu70 := Tryd.underlying70
 have HB := Aside0.mk (Below.refl w.heap.size w)
 have H : (if a0_0 ≥ 0 then (if a0_0 < 4 then (if a0_1 ≥ 0 then (if a0_1 ≤ 2097151 then (if a0_3 ≥ 0 then (some (decide (a0_3 ≤ 65535))) else (some false)) else (some false)) else (some false)) else (some false)) else (some false)) = some r := h
 clear h
 by_cases c2 : a0_0 ≥ 0
 case neg =>
  rw [if_neg c2] at H
  have c2b0 : decide (0 ≤ a0_0) = false := decide_eq_false c2
  clear c2
  obtain rfl := Option.some.inj H
  go_enter Tryd.func49, Tryd.ntmps49
  go_wp2_with (first | ((with_reducible refine gate_dst (N := 1) rfl ?_); refine box_event ?hg (N := 1) ?hd (cs := #[.int .i64 a0_0, .int .i64 a0_1, .bool a0_2, .int .i64 a0_3]) (t := 70) ?hr ?_; (case hd => rfl); (case hg => rfl); (case hr => first | (go_simp; done) | (go_simp; rfl)); intro gb382 hg w17 hbox hb; have n0_ := Aside0.mk (below_step blw hb); have n1_ := Aside0.mk (hbox); have n2_ := Aside0.mk ((by rw [hg]; exact (below_size blw) : w.heap.size ≤ gb382)); have n3_ := Aside0.mk ((by rw [hg]; exact (below_size blw) : w.heap.size ≤ gb382)); clear HB; have HB := n0_; have BK382 := n1_; have GW382 := n2_; have GE382 := n3_; clear n0_ n1_ n2_ n3_; clear hb hbox hg; have hcz18_0 : w17.cell? ⟨gb382, 0, none⟩ = some (.int .i64 a0_0) := (blk_cell BK382.out 0).trans rfl; have hcz18_1 : w17.cell? ⟨gb382, 1, none⟩ = some (.int .i64 a0_1) := (blk_cell BK382.out 1).trans rfl; have hcz18_2 : w17.cell? ⟨gb382, 2, none⟩ = some (.bool a0_2) := (blk_cell BK382.out 2).trans rfl; have hcz18_3 : w17.cell? ⟨gb382, 3, none⟩ = some (.int .i64 a0_3) := (blk_cell BK382.out 3).trans rfl; have hfz18_0 := blk_frozen BK382.out 0; have hfz18_1 := blk_frozen BK382.out 1; have hfz18_2 := blk_frozen BK382.out 2; have hfz18_3 := blk_frozen BK382.out 3))
  go_ret
  exact ⟨rse, by repeat (first | (with_reducible first | exact HB.out | apply below_alloc | apply pw_below_drewN | apply below_drew1 | refine below_set ?_ GE382.out) | exact HB.out)⟩
 rw [if_pos c2] at H
 have c2b0 : decide (0 ≤ a0_0) = true := decide_eq_true c2
 clear c2
 by_cases c3 : a0_0 < 4
 case neg =>
  rw [if_neg c3] at H
  have c3b0 : decide (a0_0 < 4) = false := decide_eq_false c3
  clear c3
  obtain rfl := Option.some.inj H
  go_enter Tryd.func49, Tryd.ntmps49
  go_wp2_with (first | ((with_reducible refine gate_dst (N := 1) rfl ?_); refine box_event ?hg (N := 1) ?hd (cs := #[.int .i64 a0_0, .int .i64 a0_1, .bool a0_2, .int .i64 a0_3]) (t := 70) ?hr ?_; (case hd => rfl); (case hg => rfl); (case hr => first | (go_simp; done) | (go_simp; rfl)); intro gb382 hg w15 hbox hb; have n0_ := Aside0.mk (below_step blw hb); have n1_ := Aside0.mk (hbox); have n2_ := Aside0.mk ((by rw [hg]; exact (below_size blw) : w.heap.size ≤ gb382)); have n3_ := Aside0.mk ((by rw [hg]; exact (below_size blw) : w.heap.size ≤ gb382)); clear HB; have HB := n0_; have BK382 := n1_; have GW382 := n2_; have GE382 := n3_; clear n0_ n1_ n2_ n3_; clear hb hbox hg; have hcz16_0 : w15.cell? ⟨gb382, 0, none⟩ = some (.int .i64 a0_0) := (blk_cell BK382.out 0).trans rfl; have hcz16_1 : w15.cell? ⟨gb382, 1, none⟩ = some (.int .i64 a0_1) := (blk_cell BK382.out 1).trans rfl; have hcz16_2 : w15.cell? ⟨gb382, 2, none⟩ = some (.bool a0_2) := (blk_cell BK382.out 2).trans rfl; have hcz16_3 : w15.cell? ⟨gb382, 3, none⟩ = some (.int .i64 a0_3) := (blk_cell BK382.out 3).trans rfl; have hfz16_0 := blk_frozen BK382.out 0; have hfz16_1 := blk_frozen BK382.out 1; have hfz16_2 := blk_frozen BK382.out 2; have hfz16_3 := blk_frozen BK382.out 3))
  go_ret
  exact ⟨rse, by repeat (first | (with_reducible first | exact HB.out | apply below_alloc | apply pw_below_drewN | apply below_drew1 | refine below_set ?_ GE382.out) | exact HB.out)⟩
 rw [if_pos c3] at H
 have c3b0 : decide (a0_0 < 4) = true := decide_eq_true c3
 clear c3
 by_cases c4 : a0_1 ≥ 0
 case neg =>
  rw [if_neg c4] at H
  have c4b0 : decide (0 ≤ a0_1) = false := decide_eq_false c4
  clear c4
  obtain rfl := Option.some.inj H
  go_enter Tryd.func49, Tryd.ntmps49
  go_wp2_with (first | ((with_reducible refine gate_dst (N := 1) rfl ?_); refine box_event ?hg (N := 1) ?hd (cs := #[.int .i64 a0_0, .int .i64 a0_1, .bool a0_2, .int .i64 a0_3]) (t := 70) ?hr ?_; (case hd => rfl); (case hg => rfl); (case hr => first | (go_simp; done) | (go_simp; rfl)); intro gb382 hg w13 hbox hb; have n0_ := Aside0.mk (below_step blw hb); have n1_ := Aside0.mk (hbox); have n2_ := Aside0.mk ((by rw [hg]; exact (below_size blw) : w.heap.size ≤ gb382)); have n3_ := Aside0.mk ((by rw [hg]; exact (below_size blw) : w.heap.size ≤ gb382)); clear HB; have HB := n0_; have BK382 := n1_; have GW382 := n2_; have GE382 := n3_; clear n0_ n1_ n2_ n3_; clear hb hbox hg; have hcz14_0 : w13.cell? ⟨gb382, 0, none⟩ = some (.int .i64 a0_0) := (blk_cell BK382.out 0).trans rfl; have hcz14_1 : w13.cell? ⟨gb382, 1, none⟩ = some (.int .i64 a0_1) := (blk_cell BK382.out 1).trans rfl; have hcz14_2 : w13.cell? ⟨gb382, 2, none⟩ = some (.bool a0_2) := (blk_cell BK382.out 2).trans rfl; have hcz14_3 : w13.cell? ⟨gb382, 3, none⟩ = some (.int .i64 a0_3) := (blk_cell BK382.out 3).trans rfl; have hfz14_0 := blk_frozen BK382.out 0; have hfz14_1 := blk_frozen BK382.out 1; have hfz14_2 := blk_frozen BK382.out 2; have hfz14_3 := blk_frozen BK382.out 3))
  go_ret
  exact ⟨rse, by repeat (first | (with_reducible first | exact HB.out | apply below_alloc | apply pw_below_drewN | apply below_drew1 | refine below_set ?_ GE382.out) | exact HB.out)⟩
 rw [if_pos c4] at H
 have c4b0 : decide (0 ≤ a0_1) = true := decide_eq_true c4
 clear c4
 by_cases c5 : a0_1 ≤ 2097151
 case neg =>
  rw [if_neg c5] at H
  have c5b0 : decide (a0_1 ≤ 2097151) = false := decide_eq_false c5
  clear c5
  obtain rfl := Option.some.inj H
  go_enter Tryd.func49, Tryd.ntmps49
  go_wp2_with (first | ((with_reducible refine gate_dst (N := 1) rfl ?_); refine box_event ?hg (N := 1) ?hd (cs := #[.int .i64 a0_0, .int .i64 a0_1, .bool a0_2, .int .i64 a0_3]) (t := 70) ?hr ?_; (case hd => rfl); (case hg => rfl); (case hr => first | (go_simp; done) | (go_simp; rfl)); intro gb382 hg w11 hbox hb; have n0_ := Aside0.mk (below_step blw hb); have n1_ := Aside0.mk (hbox); have n2_ := Aside0.mk ((by rw [hg]; exact (below_size blw) : w.heap.size ≤ gb382)); have n3_ := Aside0.mk ((by rw [hg]; exact (below_size blw) : w.heap.size ≤ gb382)); clear HB; have HB := n0_; have BK382 := n1_; have GW382 := n2_; have GE382 := n3_; clear n0_ n1_ n2_ n3_; clear hb hbox hg; have hcz12_0 : w11.cell? ⟨gb382, 0, none⟩ = some (.int .i64 a0_0) := (blk_cell BK382.out 0).trans rfl; have hcz12_1 : w11.cell? ⟨gb382, 1, none⟩ = some (.int .i64 a0_1) := (blk_cell BK382.out 1).trans rfl; have hcz12_2 : w11.cell? ⟨gb382, 2, none⟩ = some (.bool a0_2) := (blk_cell BK382.out 2).trans rfl; have hcz12_3 : w11.cell? ⟨gb382, 3, none⟩ = some (.int .i64 a0_3) := (blk_cell BK382.out 3).trans rfl; have hfz12_0 := blk_frozen BK382.out 0; have hfz12_1 := blk_frozen BK382.out 1; have hfz12_2 := blk_frozen BK382.out 2; have hfz12_3 := blk_frozen BK382.out 3))
  go_ret
  exact ⟨rse, by repeat (first | (with_reducible first | exact HB.out | apply below_alloc | apply pw_below_drewN | apply below_drew1 | refine below_set ?_ GE382.out) | exact HB.out)⟩
 rw [if_pos c5] at H
 have c5b0 : decide (a0_1 ≤ 2097151) = true := decide_eq_true c5
 clear c5
 by_cases c6 : a0_3 ≥ 0
 case neg =>
  rw [if_neg c6] at H
  have c6b0 : decide (0 ≤ a0_3) = false := decide_eq_false c6
  clear c6
  obtain rfl := Option.some.inj H
  go_enter Tryd.func49, Tryd.ntmps49
  go_wp2_with (first | ((with_reducible refine gate_dst (N := 1) rfl ?_); refine box_event ?hg (N := 1) ?hd (cs := #[.int .i64 a0_0, .int .i64 a0_1, .bool a0_2, .int .i64 a0_3]) (t := 70) ?hr ?_; (case hd => rfl); (case hg => rfl); (case hr => first | (go_simp; done) | (go_simp; rfl)); intro gb382 hg w9 hbox hb; have n0_ := Aside0.mk (below_step blw hb); have n1_ := Aside0.mk (hbox); have n2_ := Aside0.mk ((by rw [hg]; exact (below_size blw) : w.heap.size ≤ gb382)); have n3_ := Aside0.mk ((by rw [hg]; exact (below_size blw) : w.heap.size ≤ gb382)); clear HB; have HB := n0_; have BK382 := n1_; have GW382 := n2_; have GE382 := n3_; clear n0_ n1_ n2_ n3_; clear hb hbox hg; have hcz10_0 : w9.cell? ⟨gb382, 0, none⟩ = some (.int .i64 a0_0) := (blk_cell BK382.out 0).trans rfl; have hcz10_1 : w9.cell? ⟨gb382, 1, none⟩ = some (.int .i64 a0_1) := (blk_cell BK382.out 1).trans rfl; have hcz10_2 : w9.cell? ⟨gb382, 2, none⟩ = some (.bool a0_2) := (blk_cell BK382.out 2).trans rfl; have hcz10_3 : w9.cell? ⟨gb382, 3, none⟩ = some (.int .i64 a0_3) := (blk_cell BK382.out 3).trans rfl; have hfz10_0 := blk_frozen BK382.out 0; have hfz10_1 := blk_frozen BK382.out 1; have hfz10_2 := blk_frozen BK382.out 2; have hfz10_3 := blk_frozen BK382.out 3))
  go_ret
  exact ⟨rse, by repeat (first | (with_reducible first | exact HB.out | apply below_alloc | apply pw_below_drewN | apply below_drew1 | refine below_set ?_ GE382.out) | exact HB.out)⟩
 rw [if_pos c6] at H
 have c6b0 : decide (0 ≤ a0_3) = true := decide_eq_true c6
 clear c6
 obtain rfl := Option.some.inj H
 go_enter Tryd.func49, Tryd.ntmps49
 go_wp2_with (first | ((with_reducible refine gate_dst (N := 1) rfl ?_); refine box_event ?hg (N := 1) ?hd (cs := #[.int .i64 a0_0, .int .i64 a0_1, .bool a0_2, .int .i64 a0_3]) (t := 70) ?hr ?_; (case hd => rfl); (case hg => rfl); (case hr => first | (go_simp; done) | (go_simp; rfl)); intro gb382 hg w7 hbox hb; have n0_ := Aside0.mk (below_step blw hb); have n1_ := Aside0.mk (hbox); have n2_ := Aside0.mk ((by rw [hg]; exact (below_size blw) : w.heap.size ≤ gb382)); have n3_ := Aside0.mk ((by rw [hg]; exact (below_size blw) : w.heap.size ≤ gb382)); clear HB; have HB := n0_; have BK382 := n1_; have GW382 := n2_; have GE382 := n3_; clear n0_ n1_ n2_ n3_; clear hb hbox hg; have hcz8_0 : w7.cell? ⟨gb382, 0, none⟩ = some (.int .i64 a0_0) := (blk_cell BK382.out 0).trans rfl; have hcz8_1 : w7.cell? ⟨gb382, 1, none⟩ = some (.int .i64 a0_1) := (blk_cell BK382.out 1).trans rfl; have hcz8_2 : w7.cell? ⟨gb382, 2, none⟩ = some (.bool a0_2) := (blk_cell BK382.out 2).trans rfl; have hcz8_3 : w7.cell? ⟨gb382, 3, none⟩ = some (.int .i64 a0_3) := (blk_cell BK382.out 3).trans rfl; have hfz8_0 := blk_frozen BK382.out 0; have hfz8_1 := blk_frozen BK382.out 1; have hfz8_2 := blk_frozen BK382.out 2; have hfz8_3 := blk_frozen BK382.out 3))
 go_ret
 exact ⟨rse, by repeat (first | (with_reducible first | exact HB.out | apply below_alloc | apply pw_below_drewN | apply below_drew1 | refine below_set ?_ GE382.out) | exact HB.out)⟩

/-! ### cr15_digits: function 50 -/
def cr15_digits.l0 : Nat → Int → ByteArray → Option (ByteArray)
 | 0, _, _ => none
 | k + 1, x0, x3 => if x0 > 0 then ((some (([(wrap64 (128 + (Int.tmod x0 128))) % 256] : List Int) : List Int)).bind fun y386 => (if (strOfNums y386).size + x3.size ≤ 9223372036854775807 then (cr15_digits.l0 k (wrap64 (Int.tdiv x0 128)) ((strOfNums y386) ++ x3)) else (none))) else (some x3)
def cr15_digits.f (k : Nat) (a0 : Int) : Option (ByteArray) := cr15_digits.l0 k (wrap64 (Int.tdiv a0 128)) (strOfNums (([(Int.tmod a0 128) % 256] : List Int)))
theorem cr15_digits.mono_l : ∀ k, (∀ y0 y1, LeO (cr15_digits.l0 k y0 y1) (cr15_digits.l0 (k + 1) y0 y1))
 | 0 => fun _ _ r h => by simp [cr15_digits.l0] at h
 | k + 1 => by
  have ih0 := cr15_digits.mono_l k
  ·intro y0 y1
   unfold cr15_digits.l0
   repeat' first
   | (with_reducible first | exact ih0 _ _ | exact LeO.refl _ | exact LeO.none _ | refine LeO.ite ?_ ?_ | refine LeO.bind ?_ (fun _ => ?_))
   | exact ih0 _ _
   | exact LeO.none _
   | refine LeO.ite ?_ ?_
   | refine LeO.bind ?_ (fun _ => ?_)
theorem cr15_digits.mono : ∀ a0 k, LeO (cr15_digits.f k a0) (cr15_digits.f (k + 1) a0) := by
 intro a0 k
 have ih0 := cr15_digits.mono_l k
 unfold cr15_digits.f
 repeat' first
  | (with_reducible first | exact ih0 _ _ | exact LeO.refl _ | exact LeO.none _ | refine LeO.ite ?_ ?_ | refine LeO.bind ?_ (fun _ => ?_))
  | exact ih0 _ _
  | exact LeO.none _
  | refine LeO.ite ?_ ?_
  | refine LeO.bind ?_ (fun _ => ?_)
set_option maxHeartbeats 8000000 in
set_option maxRecDepth 100000 in
theorem cr15_digits.calls (k : Nat) (a0 : Int) (r : ByteArray) (w : World) (h : cr15_digits.f k a0 = some r) :
 Calls Tryd.prog 50 #[.int .i64 a0] w fun e w' => e = .returned (.string r) ∧ Below w.heap.size w w' := by
 have HB := Aside0.mk (Below.refl w.heap.size w)
 have H : (cr15_digits.l0 k (wrap64 (Int.tdiv a0 128)) (strOfNums (([(Int.tmod a0 128) % 256] : List Int)))) = some r := h
 clear h
 obtain ⟨y383, hy383⟩ : ∃ y_ : List Int, y_ = (([(Int.tmod a0 128) % 256] : List Int)) := ⟨_, rfl⟩
 replace H : (cr15_digits.l0 k (wrap64 (Int.tdiv a0 128)) (strOfNums y383)) = some r := by first | (rw [hy383]; with_reducible exact H) | (have H2_ := (Option.bind_some _ _).symm.trans H; rw [hy383]; with_reducible exact H2_) | (have H2_ := (Option.bind_some _ _).symm.trans H; with_reducible exact H2_) | with_reducible exact H | (rw [hy383]; exact H) | exact H
 have Ny383 := Aside0.mk hy383
 clear hy383
 have H' := Aside0.mk H
 clear H
 go_enter Tryd.func50, Tryd.ntmps50
 go_wp2_with (first | ((with_reducible refine gate_dst (N := 7) rfl ?_); refine Kd.R_lit (Kd.int .u8) _ 5 ?hg (N := 7) ?hd (xs := ([(Int.tmod a0 128) % 256] : List Int)) (inner := [.int .u8 ((Int.tmod a0 128) % 256)]) (ok := fun _ => True) (okp := fun _ => True) ?hr ?hp (fun _ hk => hk) trivial (Below.refl _ _) (Nat.le_refl _) (by simp) ?_; (case hd => rfl); (case hg => rfl); (case hr => first | (go_simp; done) | (go_simp; rfl)); (case hp => exact (Reps.one (show Kd.M (Kd.int .u8) _ _ _ ((Int.tmod a0 128) % 256) [.int .u8 ((Int.tmod a0 128) % 256)] from rfl) (Reps.none _ _))); intro v384 w2 ho3 hb hg_ hnew_; clear hg_ hnew_; (first | rw [← Ny383.out] at ho3 | (simp only [Int.reduceToNat] at ho3; rw [← Ny383.out] at ho3)); have n0_ := Aside0.mk (Kd.R_lower ho3 (below_size blw)); have n1_ := Aside0.mk (below_step blw hb); clear HB; have HO385 := n0_; have HB := n1_; clear n0_ n1_; clear hb ho3; have hcv4 := own_string (P := Tryd.prog) Tryd.underlying50 Tryd.underlying5 Tryd.underlying9 (Kd.own_of_R HO385.out)))
 go_loopg [0, 3] k (fun kq v0 v3 w' => ∃ (x0_1 : Int) (x3_1 : ByteArray), v0 = .int .i64 x0_1 ∧ v3 = .string x3_1 ∧ Aside0 (cr15_digits.l0 kq x0_1 x3_1 = some r) ∧ Aside0 (kq ≤ k) ∧ Aside0 (Below w.heap.size w w'))
 case atStart => exact ⟨(wrap64 (Int.tdiv a0 128)), (strOfNums y383), rsd, rsd, H', ⟨Nat.le_refl _⟩, ⟨blw⟩⟩
 case round =>
  clear H'
  try clear hcv4
  obtain ⟨x0_1, x3_1, rfl, rfl, HA, HK1, HB⟩ := hrel
  cases gk with
  | zero => exact absurd HA.out (by simp [cr15_digits.l0])
  | succ k1 =>
   have H := HA.out
   clear HA
   simp only [cr15_digits.l0] at H
   by_cases c5 : x0_1 > 0
   case neg =>
    rw [if_neg c5] at H
    have c5b0 : decide (0 < x0_1) = false := decide_eq_false c5
    clear c5
    obtain rfl := Option.some.inj H
    go_wp2
    go_ret
    exact ⟨rse, blw⟩
   rw [if_pos c5] at H
   have c5b0 : decide (0 < x0_1) = true := decide_eq_true c5
   clear c5
   obtain ⟨y386, hy386⟩ : ∃ y_ : List Int, y_ = (([(wrap64 (128 + (Int.tmod x0_1 128))) % 256] : List Int)) := ⟨_, rfl⟩
   replace H : (if (strOfNums y386).size + x3_1.size ≤ 9223372036854775807 then (cr15_digits.l0 k1 (wrap64 (Int.tdiv x0_1 128)) ((strOfNums y386) ++ x3_1)) else (none)) = some r := by first | (rw [hy386]; with_reducible exact H) | (have H2_ := (Option.bind_some _ _).symm.trans H; rw [hy386]; with_reducible exact H2_) | (have H2_ := (Option.bind_some _ _).symm.trans H; with_reducible exact H2_) | with_reducible exact H | (rw [hy386]; exact H) | exact H
   have Ny386 := Aside0.mk hy386
   clear hy386
   by_cases c6 : (strOfNums y386).size + x3_1.size ≤ 9223372036854775807
   case neg =>
    rw [if_neg c6] at H
    exact absurd H (by simp)
   rw [if_pos c6] at H
   have c6b0 := eq_true c6
   have c6b1 : decide ((strOfNums y386).size + x3_1.size ≤ 9223372036854775807) = true := decide_eq_true c6
   try have c6b2 : (9223372036854775807 < (strOfNums y386).size + x3_1.size) = False := eq_false (Nat.not_lt.2 c6)
   have H' := Aside0.mk H
   clear H
   go_wp2_with (first | ((with_reducible refine gate_dst (N := 17) rfl ?_); refine Kd.R_lit (Kd.int .u8) _ 5 ?hg (N := 17) ?hd (xs := ([(wrap64 (128 + (Int.tmod x0_1 128))) % 256] : List Int)) (inner := [.int .u8 ((wrap64 (128 + (Int.tmod x0_1 128))) % 256)]) (ok := fun _ => True) (okp := fun _ => True) ?hr ?hp (fun _ hk => hk) trivial (Below.refl _ _) (Nat.le_refl _) (by simp) ?_; (case hd => rfl); (case hg => rfl); (case hr => first | (go_simp; done) | (go_simp; rfl)); (case hp => exact (Reps.one (show Kd.M (Kd.int .u8) _ _ _ ((wrap64 (128 + (Int.tmod x0_1 128))) % 256) [.int .u8 ((wrap64 (128 + (Int.tmod x0_1 128))) % 256)] from rfl) (Reps.none _ _))); intro v387 w7 ho8 hb hg_ hnew_; clear hg_ hnew_; (first | rw [← Ny386.out] at ho8 | (simp only [Int.reduceToNat] at ho8; rw [← Ny386.out] at ho8)); have n0_ := Aside0.mk (Kd.R_lower ho8 (below_size blw)); have n1_ := Aside0.mk (below_step blw hb); clear HB; have HO388 := n0_; have HB := n1_; clear n0_ n1_; clear hb ho8; have hcv9 := own_string (P := Tryd.prog) Tryd.underlying50 Tryd.underlying5 Tryd.underlying9 (Kd.own_of_R HO388.out)))
   go_roundg k1
   case measure => have := HK1.out; omega
   case rel => exact ⟨(wrap64 (Int.tdiv x0_1 128)), ((strOfNums y386) ++ x3_1), rsd, rsd, H', ⟨by have := HK1.out; omega⟩, ⟨blw⟩⟩

end Go.Proofs.YtcbcojbhbhaimaaDoor.PTreeTells
