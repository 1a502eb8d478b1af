import Derived.Test.YtcbcojbhbhaimaaDoorPTreeTellsx0
import Derived.Test.YtcbcojbhbhaimaaDoorPTreeTellsx1
import Derived.Test.YtcbcojbhbhaimaaDoorPTreeTellsx5
import Derived.Test.YtcbcojbhbhaimaaDoorPTreeTellsx8
import Derived.Test.YtcbcojbhbhaimaaDoorPTreeTellsx9
import Derived.Test.YtcbcojbhbhaimaaDoorPTreeTellsx10
import Derived.Test.YtcbcojbhbhaimaaDoorPTreeTellsx16
import Derived.Test.YtcbcojbhbhaimaaDoorPTreeTellsx18
import Derived.Test.YtcbcojbhbhaimaaDoorPTreeTellsx19
namespace Go.Proofs.YtcbcojbhbhaimaaDoor.PTreeTells
open Go.RowKit Go.Proofs.YtcbcojbhbhaimaaDoorW.PrintWords Go.Proofs.YtcbcojbhbhaimaaDoorW.PrintLast Go.Proofs.YtcbcojbhbhaimaaDoorW.PrintMore
attribute [local go_sem high] c_add c_eql c_neq
attribute [local go_sem] f_store_c f_store_f f_add f_toint f_fold_eq f_fold_ne f_fold_lt f_fold_gt f_fold_le f_fold_ge
attribute [local go_sem] str_leq str_gtr str_geq max2_int min2_int max_two min_two max_three min_three max_four min_four   -- for this text's walks alone
set_option linter.unusedVariables false
set_option linter.unusedSimpArgs false

/-! ### cr20_Sub: function 18 -/
mutual
def cr20_Sub.j0 : Nat → List (S41) → Int → List (S41) → Bool → Option ((List (S41)))
 | 0, _, _, _, _ => none
 | k + 1, x0, x1, x5, x21 => if x21 = true then (some x5) else ((cr20_behind.f k x0 x1 1).bind fun t435 => (cr20_Sub.l0 k x0 x1 x5 t435 x1))
def cr20_Sub.l0 : Nat → List (S41) → Int → List (S41) → Int → Int → Option ((List (S41)))
 | 0, _, _, _, _, _ => none
 | k + 1, x0, x1, x5, x6, x7 => if x7 < x6 then (if 0 ≤ x7 then (if x7 < (x0.length : Int) then ((cr20_moved.f k ((rd_T41 x0 x7).f4) (wrap64 (-x1))).bind fun t438 => (if x5.length < 2199023255552 then (cr20_Sub.l0 k x0 x1 (x5 ++ [(⟨(rd_T41 x0 x7).f0, (rd_T41 x0 x7).f1, (rd_T41 x0 x7).f2, (rd_T41 x0 x7).f3, t438⟩ : S41)]) x6 (wrap64 (x7 + 1))) else (none))) else (none)) else (none)) else (some x5)
end
def cr20_Sub.f (k : Nat) (l0 : List (S41)) (a1 : Int) : Option ((List (S41))) := (cr20_Right.f k l0).bind fun t434 => (if t434 = true then (if a1 < 0 then (cr20_Sub.j0 k l0 a1 ([] : List (S41)) true) else (cr20_Sub.j0 k l0 a1 ([] : List (S41)) (decide (a1 ≥ (l0.length : Int))))) else (cr20_Sub.j0 k l0 a1 ([] : List (S41)) true))
theorem cr20_Sub.mono_l : ∀ k, (∀ y0 y1 y2 y3, LeO (cr20_Sub.j0 k y0 y1 y2 y3) (cr20_Sub.j0 (k + 1) y0 y1 y2 y3)) ∧ (∀ y0 y1 y2 y3 y4, LeO (cr20_Sub.l0 k y0 y1 y2 y3 y4) (cr20_Sub.l0 (k + 1) y0 y1 y2 y3 y4))
 | 0 => ⟨fun _ _ _ _ r h => by simp [cr20_Sub.j0] at h, fun _ _ _ _ _ r h => by simp [cr20_Sub.l0] at h⟩
 | k + 1 => by
  obtain ⟨ih0, ih1⟩ := cr20_Sub.mono_l k
  refine ⟨?_, ?_⟩ <;> intros <;> first | unfold cr20_Sub.j0 | unfold cr20_Sub.l0
  all_goals repeat' first
  | (with_reducible first | exact ih0 _ _ _ _ | exact ih1 _ _ _ _ _ | exact cr20_Right.mono _ _ | exact cr20_behind.mono _ _ _ _ | exact cr20_moved.mono _ _ _ | exact LeO.refl _ | exact LeO.none _ | refine LeO.ite ?_ ?_ | refine LeO.bind ?_ (fun _ => ?_))
  | exact ih0 _ _ _ _
  | exact ih1 _ _ _ _ _
  | exact cr20_Right.mono _ _
  | exact cr20_behind.mono _ _ _ _
  | exact cr20_moved.mono _ _ _
  | exact LeO.none _
  | refine LeO.ite ?_ ?_
  | refine LeO.bind ?_ (fun _ => ?_)
theorem cr20_Sub.mono : ∀ a0 a1 k, LeO (cr20_Sub.f k a0 a1) (cr20_Sub.f (k + 1) a0 a1) := by
 intro a0 a1 k
 obtain ⟨ih0, ih1⟩ := cr20_Sub.mono_l k
 unfold cr20_Sub.f
 repeat' first
  | (with_reducible first | exact ih0 _ _ _ _ | exact ih1 _ _ _ _ _ | exact cr20_Right.mono _ _ | exact cr20_behind.mono _ _ _ _ | exact cr20_moved.mono _ _ _ | exact LeO.refl _ | exact LeO.none _ | refine LeO.ite ?_ ?_ | refine LeO.bind ?_ (fun _ => ?_))
  | exact ih0 _ _ _ _
  | exact ih1 _ _ _ _ _
  | exact cr20_Right.mono _ _
  | exact cr20_behind.mono _ _ _ _
  | exact cr20_moved.mono _ _ _
  | exact LeO.none _
  | refine LeO.ite ?_ ?_
  | refine LeO.bind ?_ (fun _ => ?_)
set_option maxHeartbeats 8000000 in
set_option maxRecDepth 100000 in
theorem cr20_Sub.calls (k : Nat) (A0 : Option Addr) (c0 : Nat) (l0 : List (S41)) (a1 : Int) (r : List (S41)) (w : World) (hr0 : Kd.C k41 w A0 l0.length l0) (hc0 : l0.length ≤ c0) (h : cr20_Sub.f k l0 a1 = some r) :
 Calls Tryd.prog 18 #[.slice A0 l0.length c0, .int .i64 a1] w fun e w' => ∃ v0_ : Value, e = .returned (v0_) ∧ Kd.S k41 41 w' w.heap.size (fun _ => True) v0_ r ∧ Below w.heap.size w w' := by
 have hu41 := Tryd.underlying41
 have HR0 := Aside0.mk hr0
 have HC0 := Aside0.mk hc0
 clear hr0 hc0
 have HB := Aside0.mk (Below.refl w.heap.size w)
 have H : ((cr20_Right.f k l0).bind fun t434 => (if t434 = true then (if a1 < 0 then (cr20_Sub.j0 k l0 a1 ([] : List (S41)) true) else (cr20_Sub.j0 k l0 a1 ([] : List (S41)) (decide (a1 ≥ (l0.length : Int))))) else (cr20_Sub.j0 k l0 a1 ([] : List (S41)) true))) = some r := h
 clear h
 have HC3 := Aside0.mk H
 clear H
 go_enter Tryd.func18, Tryd.ntmps18
 go_upto_region 2 with (fail)
 go_cut [21] (fun v21 wc => ∃ (kq : Nat) (x21_2 : Bool), v21 = .bool x21_2 ∧ Aside0 (cr20_Sub.j0 kq l0 a1 ([] : List (S41)) x21_2 = some r) ∧ Aside0 (kq ≤ k) ∧ Aside0 (Kd.S k41 41 wc w.heap.size (fun _ => True) (.slice none 0 0) ([] : List (S41))) ∧ Aside0 (Below w.heap.size w wc))
 case first =>
  have H := HC3.out
  clear HC3
  replace H := Option.bind_eq_some_iff.mp H
  obtain ⟨t434, A40, H⟩ := H
  replace H : (if t434 = true then (if a1 < 0 then (cr20_Sub.j0 k l0 a1 ([] : List (S41)) true) else (cr20_Sub.j0 k l0 a1 ([] : List (S41)) (decide (a1 ≥ (l0.length : Int))))) else (cr20_Sub.j0 k l0 a1 ([] : List (S41)) true)) = some r := H
  have A4 := Aside0.mk A40
  clear A40
  by_cases c5 : t434 = true
  case neg =>
   replace c5 := Bool.eq_false_iff.mpr c5
   subst c5
   have H1 : (cr20_Sub.j0 k l0 a1 ([] : List (S41)) true) = some r := by rw [if_neg (show ¬ (false = true) by decide)] at H; exact H
   clear H
   have H := H1
   clear H1
   have H' := Aside0.mk H
   clear H
   go_wp2_with (first | ((with_reducible refine gate_callee (f := 12) rfl ?_); refine goesL_ (some 10) rfl rfl Tryd.func12 (by kernel_rfl) rfl #[.slice A0 l0.length c0] rfl gargs ?_; (with_reducible refine (cr20_Right.calls k _ _ l0 false _ ?side1 ?side2 A4.out).mono ?_); (case side1 => exact kcW (Kd.C_below HR0.out HB.out)); (case side2 => exact HC0.out); rintro e w9 ⟨rfl, hb⟩; refine ⟨_, rfl, ?_⟩; replace HB := Aside0.mk (below_step blw hb); (try clear hb); (try clear hb2); (try clear hk); (try clear hi)))
   go_meet
   case rel => exact ⟨_, (true), rsd, H', ⟨by first | omega | exact Nat.le_refl _⟩, ⟨by first | exact Kd.S_nil _ _ _ _ _ | exact Kd.N_nil _ _ _ _ _ | exact Kd.V_nil _ _ _ _ _ | exact Kd.Q_nil _ _ _ _ _ | exact Kd.R_nil _ _ _ _ _⟩, ⟨blw⟩⟩
  subst c5
  have H1 : (if a1 < 0 then (cr20_Sub.j0 k l0 a1 ([] : List (S41)) true) else (cr20_Sub.j0 k l0 a1 ([] : List (S41)) (decide (a1 ≥ (l0.length : Int))))) = some r := by rw [if_pos rfl] at H; exact H
  clear H
  have H := H1
  clear H1
  by_cases c6 : a1 < 0
  case neg =>
   rw [if_neg c6] at H
   have c6b0 : decide (a1 < 0) = false := decide_eq_false c6
   clear c6
   (first | rw [c6b0] | (simp only [i64_w, i32_w]; rw [c6b0]) | rw [c6b1] | skip)
   have H' := Aside0.mk H
   clear H
   go_wp2_with (first | ((with_reducible refine gate_callee (f := 12) rfl ?_); refine goesL_ (some 10) rfl rfl Tryd.func12 (by kernel_rfl) rfl #[.slice A0 l0.length c0] rfl gargs ?_; (with_reducible refine (cr20_Right.calls k _ _ l0 true _ ?side1 ?side2 A4.out).mono ?_); (case side1 => exact kcW (Kd.C_below HR0.out HB.out)); (case side2 => exact HC0.out); rintro e w8 ⟨rfl, hb⟩; refine ⟨_, rfl, ?_⟩; replace HB := Aside0.mk (below_step blw hb); (try clear hb); (try clear hb2); (try clear hk); (try clear hi)))
   go_meet
   case rel => exact ⟨_, (decide (a1 ≥ (l0.length : Int))), rsd, H', ⟨by first | omega | exact Nat.le_refl _⟩, ⟨by first | exact Kd.S_nil _ _ _ _ _ | exact Kd.N_nil _ _ _ _ _ | exact Kd.V_nil _ _ _ _ _ | exact Kd.Q_nil _ _ _ _ _ | exact Kd.R_nil _ _ _ _ _⟩, ⟨blw⟩⟩
  rw [if_pos c6] at H
  have c6b0 : decide (a1 < 0) = true := decide_eq_true c6
  clear c6
  (first | rw [c6b0] | (simp only [i64_w, i32_w]; rw [c6b0]) | rw [c6b1] | skip)
  have H' := Aside0.mk H
  clear H
  go_wp2_with (first | ((with_reducible refine gate_callee (f := 12) rfl ?_); refine goesL_ (some 10) rfl rfl Tryd.func12 (by kernel_rfl) rfl #[.slice A0 l0.length c0] rfl gargs ?_; (with_reducible refine (cr20_Right.calls k _ _ l0 true _ ?side1 ?side2 A4.out).mono ?_); (case side1 => exact kcW (Kd.C_below HR0.out HB.out)); (case side2 => exact HC0.out); rintro e w7 ⟨rfl, hb⟩; refine ⟨_, rfl, ?_⟩; replace HB := Aside0.mk (below_step blw hb); (try clear hb); (try clear hb2); (try clear hk); (try clear hi)))
  go_meet
  case rel => exact ⟨_, (true), rsd, H', ⟨by first | omega | exact Nat.le_refl _⟩, ⟨by first | exact Kd.S_nil _ _ _ _ _ | exact Kd.N_nil _ _ _ _ _ | exact Kd.V_nil _ _ _ _ _ | exact Kd.Q_nil _ _ _ _ _ | exact Kd.R_nil _ _ _ _ _⟩, ⟨blw⟩⟩
 case rest =>
  clear HC3
  try clear c5
  try clear c6
  try clear c6b0
  try clear c6b1
  obtain ⟨kq, x21_2, rfl, HA, HJ2, HO_5, HB⟩ := hcut
  cases kq with
  | zero => exact absurd HA.out (by simp [cr20_Sub.j0])
  | succ kj2 =>
   have H := HA.out
   clear HA
   simp only [cr20_Sub.j0] at H
   by_cases c10 : x21_2 = true
   case pos =>
    subst c10
    have H1 : (some ([] : List (S41))) = some r := by rw [if_pos rfl] at H; exact H
    clear H
    have H := H1
    clear H1
    obtain rfl := Option.some.inj H
    go_wp2
    go_ret
    exact ⟨_, rse, soW HO_5.out, blw⟩
   replace c10 := Bool.eq_false_iff.mpr c10
   subst c10
   have H1 : ((cr20_behind.f kj2 l0 a1 1).bind fun t435 => (cr20_Sub.l0 kj2 l0 a1 ([] : List (S41)) t435 a1)) = some r := by rw [if_neg (show ¬ (false = true) by decide)] at H; exact H
   clear H
   have H := H1
   clear H1
   replace H := Option.bind_eq_some_iff.mp H
   obtain ⟨t435, A110, H⟩ := H
   replace H : (cr20_Sub.l0 kj2 l0 a1 ([] : List (S41)) t435 a1) = some r := H
   have A11 := Aside0.mk A110
   clear A110
   have H' := Aside0.mk H
   clear H
   go_wp2_with (first | ((with_reducible refine gate_callee (f := 29) rfl ?_); refine goesL_ (some 25) rfl rfl Tryd.func29 (by kernel_rfl) rfl #[.slice A0 l0.length c0, .int .i64 a1, .int .i64 1] rfl gargs ?_; (with_reducible refine (cr20_behind.calls kj2 _ _ l0 a1 1 t435 _ ?side1 ?side2 A11.out).mono ?_); (case side1 => exact kcW (Kd.C_below HR0.out HB.out)); (case side2 => exact HC0.out); rintro e w12 ⟨rfl, hb⟩; refine ⟨_, rfl, ?_⟩; have n0_ := Aside0.mk (Kd.S_below (soW HO_5.out) hb); have n1_ := Aside0.mk (below_step blw hb); clear HO_5; clear HB; have HO_5 := n0_; have HB := n1_; clear n0_ n1_; (try clear hb); (try clear hb2); (try clear hk); (try clear hi)))
   go_loopg [5, 7] kj2 (fun kq v5 v7 w' => ∃ (x5_2 : List (S41)) (x7_2 : Int), v7 = .int .i64 x7_2 ∧ Aside0 (cr20_Sub.l0 kq l0 a1 x5_2 t435 x7_2 = some r) ∧ Aside0 (kq ≤ kj2) ∧ Aside0 (Kd.S k41 41 w' w.heap.size (fun _ => True) v5 x5_2) ∧ Aside0 (Below w.heap.size w w'))
   case atStart => exact ⟨(([] : List (S41))), (a1), rsd, H', ⟨Nat.le_refl _⟩, ⟨soW HO_5.out⟩, ⟨blw⟩⟩
   case round =>
    clear H'
    try clear c5
    try clear c6
    try clear c6b0
    try clear c6b1
    try clear c10
    obtain ⟨x5_2, x7_2, rfl, HA, HK2, HO_5, HB⟩ := hrel
    cases gk with
    | zero => exact absurd HA.out (by simp [cr20_Sub.l0])
    | succ k2 =>
     have H := HA.out
     clear HA
     simp only [cr20_Sub.l0] at H
     by_cases c13 : x7_2 < t435
     case neg =>
      rw [if_neg c13] at H
      have c13b0 : decide (x7_2 < t435) = false := decide_eq_false c13
      clear c13
      obtain rfl := Option.some.inj H
      go_wp2
      go_ret
      exact ⟨_, rse, soW HO_5.out, blw⟩
     rw [if_pos c13] at H
     have c13b0 : decide (x7_2 < t435) = true := decide_eq_true c13
     clear c13
     by_cases c14 : 0 ≤ x7_2
     case neg =>
      rw [if_neg c14] at H
      exact absurd H (by simp)
     rw [if_pos c14] at H
     have c14b0 : decide (0 ≤ x7_2) = true := decide_eq_true c14
     clear c14
     by_cases c15 : x7_2 < (l0.length : Int)
     case neg =>
      rw [if_neg c15] at H
      exact absurd H (by simp)
     rw [if_pos c15] at H
     have c15b0 : decide (x7_2 < (l0.length : Int)) = true := decide_eq_true c15
     clear c15
     replace H := Option.bind_eq_some_iff.mp H
     obtain ⟨t438, A160, H⟩ := H
     replace H : (if x5_2.length < 2199023255552 then (cr20_Sub.l0 k2 l0 a1 (x5_2 ++ [(⟨(rd_T41 l0 x7_2).f0, (rd_T41 l0 x7_2).f1, (rd_T41 l0 x7_2).f2, (rd_T41 l0 x7_2).f3, t438⟩ : S41)]) t435 (wrap64 (x7_2 + 1))) else (none)) = some r := H
     have A16 := Aside0.mk A160
     clear A160
     by_cases c17 : x5_2.length < 2199023255552
     case neg =>
      rw [if_neg c17] at H
      exact absurd H (by simp)
     rw [if_pos c17] at H
     have LMc17 := Aside0.mk c17
     clear c17
     obtain ⟨y441, hy441⟩ : ∃ y_ : List (S41), y_ = (x5_2 ++ [(⟨(rd_T41 l0 x7_2).f0, (rd_T41 l0 x7_2).f1, (rd_T41 l0 x7_2).f2, (rd_T41 l0 x7_2).f3, t438⟩ : S41)]) := ⟨_, rfl⟩
     replace H : (cr20_Sub.l0 k2 l0 a1 y441 t435 (wrap64 (x7_2 + 1))) = some r := by first | (rw [hy441]; with_reducible exact H) | (have H2_ := (Option.bind_some _ _).symm.trans H; rw [hy441]; with_reducible exact H2_) | (have H2_ := (Option.bind_some _ _).symm.trans H; with_reducible exact H2_) | with_reducible exact H | (rw [hy441]; exact H) | exact H
     have Ny441 := Aside0.mk hy441
     clear hy441
     have H' := Aside0.mk H
     clear H
     have p436 : 0 ≤ (x7_2 : Int) := odt
     have q436 : x7_2 < (l0.length : Int) := odt
     obtain ⟨ad436, A436_4, c436_4, e436, hx436_0, hx436_1, hx436_2, hx436_3, hx436_4, hl436_4, hi436_4⟩ := at_T41 HR0.out x7_2 p436 q436
     cases e436
     replace hx436_0 := cellB hx436_0
     replace hx436_1 := cellB hx436_1
     replace hx436_2 := cellB hx436_2
     replace hx436_3 := cellB hx436_3
     replace hx436_4 := cellB hx436_4
     have HR436_4 := Aside0.mk hi436_4
     have HC436_4 := Aside0.mk hl436_4
     clear hi436_4 hl436_4
     replace p436 := eq_true p436
     replace q436 := eq_true q436
     go_wp2_with (first | ((with_reducible refine gate_dst (N := 8) rfl ?_); (try (refine gate_guard (by rfl) ?_; dsimp only)); refine box_event ?hg (N := 8) ?hd (cs := #[.int .i64 0, .int .i64 0, .bool false, .string (⟨#[]⟩ : ByteArray), .slice none 0 0]) (t := 41) ?hr ?_; (case hd => rfl); (case hg => rfl); (case hr => first | (go_simp; done) | (go_simp; rfl)); intro gb437 hg w18 hbox hb; have n0_ := Aside0.mk (Kd.S_below (Kd.S_elderB (soW HO_5.out) gb437 (Nat.le_of_eq hg.symm)) hb); have n1_ := Aside0.mk (below_step blw hb); have n2_ := Aside0.mk (hbox); have n3_ := Aside0.mk ((by rw [hg]; exact (below_size blw) : w.heap.size ≤ gb437)); have n4_ := Aside0.mk ((by rw [hg]; exact (below_size blw) : w.heap.size ≤ gb437)); clear HO_5; clear HB; have HO_5 := n0_; have HB := n1_; have BK437 := n2_; have GW437 := n3_; have GE437 := n4_; clear n0_ n1_ n2_ n3_ n4_; clear hb hbox hg; have hcz19_0 : w18.cell? ⟨gb437, 0, none⟩ = some (.int .i64 0) := (blk_cell BK437.out 0).trans rfl; have hcz19_1 : w18.cell? ⟨gb437, 1, none⟩ = some (.int .i64 0) := (blk_cell BK437.out 1).trans rfl; have hcz19_2 : w18.cell? ⟨gb437, 2, none⟩ = some (.bool false) := (blk_cell BK437.out 2).trans rfl; have hcz19_3 : w18.cell? ⟨gb437, 3, none⟩ = some (.string (⟨#[]⟩ : ByteArray)) := (blk_cell BK437.out 3).trans rfl; have hcz19_4 : w18.cell? ⟨gb437, 4, none⟩ = some (.slice none 0 0) := (blk_cell BK437.out 4).trans rfl; have hfz19_0 := blk_frozen BK437.out 0; have hfz19_1 := blk_frozen BK437.out 1; have hfz19_2 := blk_frozen BK437.out 2; have hfz19_3 := blk_frozen BK437.out 3; have hfz19_4 := blk_frozen BK437.out 4) | ((with_reducible refine gate_callee (f := 34) rfl ?_); refine goesL_ (some 40) rfl rfl Tryd.func34 (by kernel_rfl) rfl #[.slice A436_4 ((rd_T41 l0 x7_2).f4).length c436_4, .int .i64 (wrap64 (-a1))] rfl gargs ?_; (with_reducible refine (cr20_moved.calls k2 _ _ ((rd_T41 l0 x7_2).f4) (wrap64 (-a1)) t438 _ ?side1 ?side2 A16.out).mono ?_); (case side1 => exact Kd.C_below HR436_4.out (by repeat (first | (with_reducible first | exact HB.out | apply below_alloc | apply pw_below_drewN | apply below_drew1 | refine below_set ?_ GE437.out) | exact HB.out))); (case side2 => exact HC436_4.out); rintro e w20 ⟨v439, rfl, ho0, hb⟩; refine ⟨_, rfl, ?_⟩; have n0_ := Aside0.mk (Kd.S_elder' (by (with_reducible repeat (first | apply Kd.S_alloc | apply Kd.S_drewN | apply Kd.S_drew)); exact (Kd.S_mono (Kd.S_far (p := ⟨gb437, 4, none⟩) (Kd.S_far (p := ⟨gb437, 3, none⟩) (Kd.S_far (p := ⟨gb437, 2, none⟩) (Kd.S_far (p := ⟨gb437, 1, none⟩) (Kd.S_far (p := ⟨gb437, 0, none⟩) (Kd.S_mono HO_5.out (fun k_ hk => (⟨hk, hk.2⟩ : _ ∧ k_ ≠ gb437))) (fun _ hk => hk.2) (.int .i64 ((rd_T41 l0 x7_2).f0))) (fun _ hk => hk.2) (.int .i64 ((rd_T41 l0 x7_2).f1))) (fun _ hk => hk.2) (.bool ((rd_T41 l0 x7_2).f2))) (fun _ hk => hk.2) (.string ((rd_T41 l0 x7_2).f3))) (fun _ hk => hk.2) (.slice A436_4 ((rd_T41 l0 x7_2).f4).length c436_4)) (fun _ h_ => h_.1))) (Kd.R_base ho0) hb); have n1_ := Aside0.mk (Kd.R_lower ho0 (below_size (by repeat (first | (with_reducible first | exact HB.out | apply below_alloc | apply pw_below_drewN | apply below_drew1 | refine below_set ?_ GE437.out) | exact HB.out)))); have n2_ := Aside0.mk (blk_below (g := gb437) (o := .cells #[.int .i64 ((rd_T41 l0 x7_2).f0), .int .i64 ((rd_T41 l0 x7_2).f1), .bool ((rd_T41 l0 x7_2).f2), .string ((rd_T41 l0 x7_2).f3), .slice A436_4 ((rd_T41 l0 x7_2).f4).length c436_4] 41 (0, 0)) (by (with_reducible repeat (first | refine blk_drewN ?_ _ | refine blk_drew ?_ | refine blk_alloc ?_ _)); refine blk_put (cs := #[.int .i64 ((rd_T41 l0 x7_2).f0), .int .i64 ((rd_T41 l0 x7_2).f1), .bool ((rd_T41 l0 x7_2).f2), .string ((rd_T41 l0 x7_2).f3), .slice none 0 0]) ?_ 4 _ rfl; (with_reducible repeat (first | refine blk_drewN ?_ _ | refine blk_drew ?_ | refine blk_alloc ?_ _)); refine blk_put (cs := #[.int .i64 ((rd_T41 l0 x7_2).f0), .int .i64 ((rd_T41 l0 x7_2).f1), .bool ((rd_T41 l0 x7_2).f2), .string (⟨#[]⟩ : ByteArray), .slice none 0 0]) ?_ 3 _ rfl; (with_reducible repeat (first | refine blk_drewN ?_ _ | refine blk_drew ?_ | refine blk_alloc ?_ _)); refine blk_put (cs := #[.int .i64 ((rd_T41 l0 x7_2).f0), .int .i64 ((rd_T41 l0 x7_2).f1), .bool false, .string (⟨#[]⟩ : ByteArray), .slice none 0 0]) ?_ 2 _ rfl; (with_reducible repeat (first | refine blk_drewN ?_ _ | refine blk_drew ?_ | refine blk_alloc ?_ _)); refine blk_put (cs := #[.int .i64 ((rd_T41 l0 x7_2).f0), .int .i64 0, .bool false, .string (⟨#[]⟩ : ByteArray), .slice none 0 0]) ?_ 1 _ rfl; (with_reducible repeat (first | refine blk_drewN ?_ _ | refine blk_drew ?_ | refine blk_alloc ?_ _)); refine blk_put (cs := #[.int .i64 0, .int .i64 0, .bool false, .string (⟨#[]⟩ : ByteArray), .slice none 0 0]) ?_ 0 _ rfl; (with_reducible repeat (first | refine blk_drewN ?_ _ | refine blk_drew ?_ | refine blk_alloc ?_ _)); exact BK437.out) hb); have n3_ := Aside0.mk (below_step (by repeat (first | (with_reducible first | exact HB.out | apply below_alloc | apply pw_below_drewN | apply below_drew1 | refine below_set ?_ GE437.out) | exact HB.out)) hb); clear HO_5; clear BK437; clear HB; have HO_5 := n0_; have HO440 := n1_; have BK437 := n2_; have HB := n3_; clear n0_ n1_ n2_ n3_; (try clear hb); (try clear hb2); (try clear hk); (try clear hi); (try clear ho0); obtain ⟨Ao21, co21, eo21⟩ := Kd.R_slice HO440.out; subst eo21; have hcz22_0 : w20.cell? ⟨gb437, 0, none⟩ = some (.int .i64 ((rd_T41 l0 x7_2).f0)) := (blk_cell BK437.out 0).trans rfl; have hcz22_1 : w20.cell? ⟨gb437, 1, none⟩ = some (.int .i64 ((rd_T41 l0 x7_2).f1)) := (blk_cell BK437.out 1).trans rfl; have hcz22_2 : w20.cell? ⟨gb437, 2, none⟩ = some (.bool ((rd_T41 l0 x7_2).f2)) := (blk_cell BK437.out 2).trans rfl; have hcz22_3 : w20.cell? ⟨gb437, 3, none⟩ = some (.string ((rd_T41 l0 x7_2).f3)) := (blk_cell BK437.out 3).trans rfl; have hcz22_4 : w20.cell? ⟨gb437, 4, none⟩ = some (.slice A436_4 ((rd_T41 l0 x7_2).f4).length c436_4) := (blk_cell BK437.out 4).trans rfl; have hfz22_0 := blk_frozen BK437.out 0; have hfz22_1 := blk_frozen BK437.out 1; have hfz22_2 := blk_frozen BK437.out 2; have hfz22_3 := blk_frozen BK437.out 3; have hfz22_4 := blk_frozen BK437.out 4) | ((with_reducible refine gate_store (t := 39) (p := 41) rfl ?_); refine store_event (t := 39) (p := 41) (v := ?vo_w23) (w1 := (w20.setCell ⟨gb437, 4, none⟩ (.slice Ao21 t438.length co21))) ?hg ?ho ?hn ?hr ?_; (case ho => rfl); (case hg => rfl); (case hn => rfl); (case hr => first | (go_simp; done) | (go_simp; rfl)); intro w23 hw; have n0_ : Aside0 (Kd.S k41 41 w23 w.heap.size (fun k_ => some k_ ≠ (.slice Ao21 t438.length co21 : Value).ownBlock ∧ k_ ≠ gb437) u5 x5_2) := ⟨(by rw [hw]; exact (by (with_reducible repeat (first | apply Kd.S_alloc | apply Kd.S_drewN | apply Kd.S_drew)); exact Kd.S_mono (Kd.S_far (p := ⟨gb437, 4, none⟩) (Kd.S_mono HO_5.out (fun k_ hk => (⟨hk, hk.1.2⟩ : _ ∧ k_ ≠ gb437))) (fun _ hk => hk.2) (.slice Ao21 t438.length co21)) (fun _ hk => ⟨hk.1.2, hk.1.1.2⟩)))⟩; have n1_ : Aside0 (Kd.R (Kd.int .i64) 3 w23 w.heap.size (fun _ => True) (.slice Ao21 t438.length co21) t438) := ⟨(by rw [hw]; exact (by (with_reducible repeat (first | apply Kd.R_alloc | apply Kd.R_drewN | apply Kd.R_drew)); exact Kd.R_mono (Kd.R_far (p := ⟨gb437, 4, none⟩) (Kd.R_types HO440.out BK437.out (by decide)) (fun _ hk => hk.2) (.slice Ao21 t438.length co21)) (fun _ hk => trivial)))⟩; have n2_ : Aside0 (w23.heap[gb437]? = some (.cells #[.int .i64 ((rd_T41 l0 x7_2).f0), .int .i64 ((rd_T41 l0 x7_2).f1), .bool ((rd_T41 l0 x7_2).f2), .string ((rd_T41 l0 x7_2).f3), .slice Ao21 t438.length co21] 41 (0, 0))) := ⟨(by rw [hw]; exact (by (with_reducible repeat (first | refine blk_drewN ?_ _ | refine blk_drew ?_ | refine blk_alloc ?_ _)); refine blk_put (cs := #[.int .i64 ((rd_T41 l0 x7_2).f0), .int .i64 ((rd_T41 l0 x7_2).f1), .bool ((rd_T41 l0 x7_2).f2), .string ((rd_T41 l0 x7_2).f3), .slice A436_4 ((rd_T41 l0 x7_2).f4).length c436_4]) ?_ 4 _ rfl; (with_reducible repeat (first | refine blk_drewN ?_ _ | refine blk_drew ?_ | refine blk_alloc ?_ _)); exact BK437.out))⟩; have n3_ : Aside0 (Below w.heap.size w w23) := ⟨(by rw [hw]; exact (by repeat (first | (with_reducible first | exact HB.out | apply below_alloc | apply pw_below_drewN | apply below_drew1 | refine below_set ?_ GE437.out) | exact HB.out)))⟩; clear hw; clear HO_5; clear HO440; clear BK437; clear HB; have HO_5 := n0_; have HO440 := n1_; have BK437 := n2_; have HB := n3_; clear n0_ n1_ n2_ n3_; have hcz24_0 : w23.cell? ⟨gb437, 0, none⟩ = some (.int .i64 ((rd_T41 l0 x7_2).f0)) := (blk_cell BK437.out 0).trans rfl; have hcz24_1 : w23.cell? ⟨gb437, 1, none⟩ = some (.int .i64 ((rd_T41 l0 x7_2).f1)) := (blk_cell BK437.out 1).trans rfl; have hcz24_2 : w23.cell? ⟨gb437, 2, none⟩ = some (.bool ((rd_T41 l0 x7_2).f2)) := (blk_cell BK437.out 2).trans rfl; have hcz24_3 : w23.cell? ⟨gb437, 3, none⟩ = some (.string ((rd_T41 l0 x7_2).f3)) := (blk_cell BK437.out 3).trans rfl; have hcz24_4 : w23.cell? ⟨gb437, 4, none⟩ = some (.slice Ao21 t438.length co21) := (blk_cell BK437.out 4).trans rfl; have hfz24_0 := blk_frozen BK437.out 0; have hfz24_1 := blk_frozen BK437.out 1; have hfz24_2 := blk_frozen BK437.out 2; have hfz24_3 := blk_frozen BK437.out 3; have hfz24_4 := blk_frozen BK437.out 4) | ((with_reducible refine gate_builtin (b := .append) (xs := #[.tmp 42, .tmp 44]) rfl ?_); (try (refine gate_guard (by rfl) ?_; dsimp only)); at_builtin; refine Kd.S_append k41 (w0 := w) w.heap.size rfl (.tmp 42) (.tmp 44) 23 41 (.agg #[(.int .i64 0), (.int .i64 0), (.bool false), (.string ⟨#[]⟩), (.slice none 0 0)]) 64 rfl Tryd.underlying23 info41 rfl (by decide) (by omega) u5 x5_2 (⟨(rd_T41 l0 x7_2).f0, (rd_T41 l0 x7_2).f1, (rd_T41 l0 x7_2).f2, (rd_T41 l0 x7_2).f3, t438⟩ : S41) [.int .i64 ((rd_T41 l0 x7_2).f0), .int .i64 ((rd_T41 l0 x7_2).f1), .bool ((rd_T41 l0 x7_2).f2), .string ((rd_T41 l0 x7_2).f3), .slice Ao21 t438.length co21] (fun k_ => k_ ≠ gb437) (fun k_ => some k_ = (.slice Ao21 t438.length co21 : Value).ownBlock) rfl rfl ?aP (fun k_ hk_ => ((Kd.R_mono (ok' := fun k_ => ((fun k_ => k_ ≠ gb437)) k_ ∧ some k_ ≠ (u5 : Value).ownBlock) (Kd.R_types (Kd.R_apart' (HO440.out) (Kd.S_typed HO_5.out) (by decide)) BK437.out (by decide)) (fun k_ hk => ⟨hk.2, hk.1.2⟩))).1 k_ hk_.symm) ?aF ?aO ?aB ?aS ?aL ?_; (case aP => exact k41_mkM _ _ _ (⟨(rd_T41 l0 x7_2).f0, (rd_T41 l0 x7_2).f1, (rd_T41 l0 x7_2).f2, (rd_T41 l0 x7_2).f3, t438⟩ : S41) (Kd.R_mono (Kd.R_tight rfl (Kd.R_mono (ok' := fun k_ => ((fun k_ => k_ ≠ gb437)) k_ ∧ some k_ ≠ (u5 : Value).ownBlock) (Kd.R_types (Kd.R_apart' (HO440.out) (Kd.S_typed HO_5.out) (by decide)) BK437.out (by decide)) (fun k_ hk => ⟨hk.2, hk.1.2⟩))) (fun _ h_ => h_))); (case aB => exact (by repeat (first | (with_reducible first | exact HB.out | apply below_alloc | apply pw_below_drewN | apply below_drew1 | refine below_set ?_ GE437.out) | exact HB.out))); (case aF => exact (fun k_ hk => Kd.freshB (g := gb437) (o := .cells #[.int .i64 ((rd_T41 l0 x7_2).f0), .int .i64 ((rd_T41 l0 x7_2).f1), .bool ((rd_T41 l0 x7_2).f2), .string ((rd_T41 l0 x7_2).f3), .slice Ao21 t438.length co21] 41 (0, 0)) (boW BK437.out) k_ hk)); (case aO => exact (by (with_reducible repeat (first | apply Kd.S_alloc | apply Kd.S_drewN | apply Kd.S_drew)); exact Kd.S_mono HO_5.out (fun k_ hk => ⟨hk.2, fun e_ => hk.1 e_⟩))); (case aS => exact (below_size (by repeat (first | (with_reducible first | exact HB.out | apply below_alloc | apply pw_below_drewN | apply below_drew1 | refine below_set ?_ GE437.out) | exact HB.out)))); (case aL => have := LMc17.out; omega); intro v442 w25 ho hb hg hat; rw [← Ny441.out] at ho; have n0_ := Aside0.mk (blk_grown (g := gb437) (o := .cells #[.int .i64 ((rd_T41 l0 x7_2).f0), .int .i64 ((rd_T41 l0 x7_2).f1), .bool ((rd_T41 l0 x7_2).f2), .string ((rd_T41 l0 x7_2).f3), .slice Ao21 t438.length co21] 41 (0, 0)) (boW BK437.out) hg (Kd.S_away HO_5.out (fun _ hk => hk.2))); have n1_ := Aside0.mk (hb); have n2_ := Aside0.mk (ho); clear BK437; clear HB; clear HO_5; clear HO440; have BK437 := n0_; have HB := n1_; have HO443 := n2_; clear n0_ n1_ n2_; clear ho hb hg hat))
     go_roundg k2
     case measure => have := HJ2.out; have := HK2.out; omega
     case rel => exact ⟨(y441), (wrap64 (x7_2 + 1)), rsd, H', ⟨by have := HJ2.out; have := HK2.out; omega⟩, ⟨by (with_reducible repeat (first | apply Kd.S_alloc | apply Kd.S_drewN | apply Kd.S_drew)); exact Kd.S_mono HO443.out (fun _ hk => trivial)⟩, ⟨by repeat (first | (with_reducible first | exact HB.out | apply below_alloc | apply pw_below_drewN | apply below_drew1 | refine below_set ?_ GE437.out) | exact HB.out)⟩⟩

/-! ### clavigerlaw20_TreeTells: function 3 -/
def clavigerlaw20_TreeTells.f (k : Nat) (l0 : List (S41)) (a1 : Int) : Option (Bool) := (cp_Tree.f k l0 60).bind fun t444 => (if t444 = true then ((tree_Encode.f k l0).bind fun bt446 => ((cr20_Encode.f k l0).bind fun bt448 => ((tree_Right.f k l0).bind fun t450 => ((cr20_Right.f k l0).bind fun t451 => (if (t450 == t451) = true then (if bt446.1.toList = bt448.1.toList then (if bt446.2 = bt448.2 then ((tree_Size.f k l0).bind fun t452 => (if t452 = (bt448.1.size : Int) then ((tree_Depth.f k l0).bind fun t453 => ((cr20_Depth.f k l0).bind fun t454 => (if t453 = t454 then ((tree_Sub.f k l0 a1).bind fun t455 => ((cr20_Sub.f k l0 a1).bind fun t458 => ((cp_Same.f k t455 t458).bind fun t461 => (if t461 = true then ((clavigerlaw20_awake.f k).bind fun t462 => (some t462)) else (some false))))) else (some false)))) else (some false))) else (some false)) else (some false)) else (some false)))))) else ((clavigerlaw20_awake.f k).bind fun t445 => (some t445)))
theorem clavigerlaw20_TreeTells.mono : ∀ a0 a1 k, LeO (clavigerlaw20_TreeTells.f k a0 a1) (clavigerlaw20_TreeTells.f (k + 1) a0 a1) := by
 intro a0 a1 k
 unfold clavigerlaw20_TreeTells.f
 repeat' first
  | (with_reducible first | exact clavigerlaw20_awake.mono _ | exact cp_Same.mono _ _ _ | exact cp_Tree.mono _ _ _ | exact cr20_Depth.mono _ _ | exact cr20_Encode.mono _ _ | exact cr20_Right.mono _ _ | exact cr20_Sub.mono _ _ _ | exact tree_Depth.mono _ _ | exact tree_Encode.mono _ _ | exact tree_Right.mono _ _ | exact tree_Size.mono _ _ | exact tree_Sub.mono _ _ _ | exact LeO.refl _ | exact LeO.none _ | refine LeO.ite ?_ ?_ | refine LeO.bind ?_ (fun _ => ?_))
  | exact clavigerlaw20_awake.mono _
  | exact cp_Same.mono _ _ _
  | exact cp_Tree.mono _ _ _
  | exact cr20_Depth.mono _ _
  | exact cr20_Encode.mono _ _
  | exact cr20_Right.mono _ _
  | exact cr20_Sub.mono _ _ _
  | exact tree_Depth.mono _ _
  | exact tree_Encode.mono _ _
  | exact tree_Right.mono _ _
  | exact tree_Size.mono _ _
  | exact tree_Sub.mono _ _ _
  | exact LeO.none _
  | refine LeO.ite ?_ ?_
  | refine LeO.bind ?_ (fun _ => ?_)
set_option maxHeartbeats 8000000 in
set_option maxRecDepth 100000 in
theorem clavigerlaw20_TreeTells.calls (k : Nat) (A0 : Option Addr) (c0 : Nat) (l0 : List (S41)) (a1 : Int) (r : Bool) (w : World) (hr0 : Kd.C k41 w A0 l0.length l0) (hc0 : l0.length ≤ c0) (HT_ : Aside0 (TB w)) (HR_ : Aside0 (r = true)) (h : clavigerlaw20_TreeTells.f k l0 a1 = some r) :
 Calls Tryd.prog 3 #[.slice A0 l0.length c0, .int .i64 a1] w fun e w' => e = .returned (.bool r) ∧ Below w.heap.size w w' := by
 have HR0 := Aside0.mk hr0
 have HC0 := Aside0.mk hc0
 clear hr0 hc0
 have HB := Aside0.mk (Below.refl w.heap.size w)
 have H : ((cp_Tree.f k l0 60).bind fun t444 => (if t444 = true then ((tree_Encode.f k l0).bind fun bt446 => ((cr20_Encode.f k l0).bind fun bt448 => ((tree_Right.f k l0).bind fun t450 => ((cr20_Right.f k l0).bind fun t451 => (if (t450 == t451) = true then (if bt446.1.toList = bt448.1.toList then (if bt446.2 = bt448.2 then ((tree_Size.f k l0).bind fun t452 => (if t452 = (bt448.1.size : Int) then ((tree_Depth.f k l0).bind fun t453 => ((cr20_Depth.f k l0).bind fun t454 => (if t453 = t454 then ((tree_Sub.f k l0 a1).bind fun t455 => ((cr20_Sub.f k l0 a1).bind fun t458 => ((cp_Same.f k t455 t458).bind fun t461 => (if t461 = true then ((clavigerlaw20_awake.f k).bind fun t462 => (some t462)) else (some false))))) else (some false)))) else (some false))) else (some false)) else (some false)) else (some false)))))) else ((clavigerlaw20_awake.f k).bind fun t445 => (some t445)))) = some r := h
 clear h
 replace H := Option.bind_eq_some_iff.mp H
 obtain ⟨t444, A30, H⟩ := H
 replace H : (if t444 = true then ((tree_Encode.f k l0).bind fun bt446 => ((cr20_Encode.f k l0).bind fun bt448 => ((tree_Right.f k l0).bind fun t450 => ((cr20_Right.f k l0).bind fun t451 => (if (t450 == t451) = true then (if bt446.1.toList = bt448.1.toList then (if bt446.2 = bt448.2 then ((tree_Size.f k l0).bind fun t452 => (if t452 = (bt448.1.size : Int) then ((tree_Depth.f k l0).bind fun t453 => ((cr20_Depth.f k l0).bind fun t454 => (if t453 = t454 then ((tree_Sub.f k l0 a1).bind fun t455 => ((cr20_Sub.f k l0 a1).bind fun t458 => ((cp_Same.f k t455 t458).bind fun t461 => (if t461 = true then ((clavigerlaw20_awake.f k).bind fun t462 => (some t462)) else (some false))))) else (some false)))) else (some false))) else (some false)) else (some false)) else (some false)))))) else ((clavigerlaw20_awake.f k).bind fun t445 => (some t445))) = some r := H
 have A3 := Aside0.mk A30
 clear A30
 by_cases c4 : t444 = true
 case neg =>
  replace c4 := Bool.eq_false_iff.mpr c4
  subst c4
  have H1 : ((clavigerlaw20_awake.f k).bind fun t445 => (some t445)) = some r := by rw [if_neg (show ¬ (false = true) by decide)] at H; exact H
  clear H
  have H := H1
  clear H1
  replace H := Option.bind_eq_some_iff.mp H
  obtain ⟨t445, A350, H⟩ := H
  replace H : (some t445) = some r := H
  have A35 := Aside0.mk A350
  clear A350
  obtain rfl := Option.some.inj H
  go_enter Tryd.func3, Tryd.ntmps3
  go_wp2_with (first | ((with_reducible refine gate_callee (f := 7) rfl ?_); refine goesL_ (some 10) rfl rfl Tryd.func7 (by kernel_rfl) rfl #[.slice A0 l0.length c0, .int .i64 60] rfl gargs ?_; (with_reducible refine (cp_Tree.calls k _ _ l0 60 false _ ?side1 ?side2 A3.out).mono ?_); (case side1 => exact kcW HR0.out); (case side2 => exact HC0.out); rintro e w' ⟨rfl, ⟨nd, rfl⟩⟩; refine ⟨_, rfl, ?_⟩) | ((with_reducible refine gate_callee (f := 8) rfl ?_); refine goesL_ (some 12) rfl rfl Tryd.func8 (by kernel_rfl) rfl #[] rfl gargs ?_; (with_reducible refine (clavigerlaw20_awake.calls k  t445 _ ?tb_ A35.out).mono ?_); (case tb_ => exact tbw); rintro e w36 ⟨rfl, hb⟩; refine ⟨_, rfl, ?_⟩; replace HB := Aside0.mk (below_step blw hb); (try clear hb); (try clear hb2); (try clear hk); (try clear hi)))
  go_ret
  exact ⟨rse, blw⟩
 subst c4
 have H1 : ((tree_Encode.f k l0).bind fun bt446 => ((cr20_Encode.f k l0).bind fun bt448 => ((tree_Right.f k l0).bind fun t450 => ((cr20_Right.f k l0).bind fun t451 => (if (t450 == t451) = true then (if bt446.1.toList = bt448.1.toList then (if bt446.2 = bt448.2 then ((tree_Size.f k l0).bind fun t452 => (if t452 = (bt448.1.size : Int) then ((tree_Depth.f k l0).bind fun t453 => ((cr20_Depth.f k l0).bind fun t454 => (if t453 = t454 then ((tree_Sub.f k l0 a1).bind fun t455 => ((cr20_Sub.f k l0 a1).bind fun t458 => ((cp_Same.f k t455 t458).bind fun t461 => (if t461 = true then ((clavigerlaw20_awake.f k).bind fun t462 => (some t462)) else (some false))))) else (some false)))) else (some false))) else (some false)) else (some false)) else (some false)))))) = some r := by rw [if_pos rfl] at H; exact H
 clear H
 have H := H1
 clear H1
 replace H := Option.bind_eq_some_iff.mp H
 obtain ⟨⟨t446, t447⟩, A50, H⟩ := H
 replace H : ((cr20_Encode.f k l0).bind fun bt448 => ((tree_Right.f k l0).bind fun t450 => ((cr20_Right.f k l0).bind fun t451 => (if (t450 == t451) = true then (if t446.toList = bt448.1.toList then (if t447 = bt448.2 then ((tree_Size.f k l0).bind fun t452 => (if t452 = (bt448.1.size : Int) then ((tree_Depth.f k l0).bind fun t453 => ((cr20_Depth.f k l0).bind fun t454 => (if t453 = t454 then ((tree_Sub.f k l0 a1).bind fun t455 => ((cr20_Sub.f k l0 a1).bind fun t458 => ((cp_Same.f k t455 t458).bind fun t461 => (if t461 = true then ((clavigerlaw20_awake.f k).bind fun t462 => (some t462)) else (some false))))) else (some false)))) else (some false))) else (some false)) else (some false)) else (some false))))) = some r := H
 have A5 := Aside0.mk A50
 clear A50
 replace H := Option.bind_eq_some_iff.mp H
 obtain ⟨⟨t448, t449⟩, A60, H⟩ := H
 replace H : ((tree_Right.f k l0).bind fun t450 => ((cr20_Right.f k l0).bind fun t451 => (if (t450 == t451) = true then (if t446.toList = t448.toList then (if t447 = t449 then ((tree_Size.f k l0).bind fun t452 => (if t452 = (t448.size : Int) then ((tree_Depth.f k l0).bind fun t453 => ((cr20_Depth.f k l0).bind fun t454 => (if t453 = t454 then ((tree_Sub.f k l0 a1).bind fun t455 => ((cr20_Sub.f k l0 a1).bind fun t458 => ((cp_Same.f k t455 t458).bind fun t461 => (if t461 = true then ((clavigerlaw20_awake.f k).bind fun t462 => (some t462)) else (some false))))) else (some false)))) else (some false))) else (some false)) else (some false)) else (some false)))) = some r := H
 have A6 := Aside0.mk A60
 clear A60
 replace H := Option.bind_eq_some_iff.mp H
 obtain ⟨t450, A70, H⟩ := H
 replace H : ((cr20_Right.f k l0).bind fun t451 => (if (t450 == t451) = true then (if t446.toList = t448.toList then (if t447 = t449 then ((tree_Size.f k l0).bind fun t452 => (if t452 = (t448.size : Int) then ((tree_Depth.f k l0).bind fun t453 => ((cr20_Depth.f k l0).bind fun t454 => (if t453 = t454 then ((tree_Sub.f k l0 a1).bind fun t455 => ((cr20_Sub.f k l0 a1).bind fun t458 => ((cp_Same.f k t455 t458).bind fun t461 => (if t461 = true then ((clavigerlaw20_awake.f k).bind fun t462 => (some t462)) else (some false))))) else (some false)))) else (some false))) else (some false)) else (some false)) else (some false))) = some r := H
 have A7 := Aside0.mk A70
 clear A70
 replace H := Option.bind_eq_some_iff.mp H
 obtain ⟨t451, A80, H⟩ := H
 replace H : (if (t450 == t451) = true then (if t446.toList = t448.toList then (if t447 = t449 then ((tree_Size.f k l0).bind fun t452 => (if t452 = (t448.size : Int) then ((tree_Depth.f k l0).bind fun t453 => ((cr20_Depth.f k l0).bind fun t454 => (if t453 = t454 then ((tree_Sub.f k l0 a1).bind fun t455 => ((cr20_Sub.f k l0 a1).bind fun t458 => ((cp_Same.f k t455 t458).bind fun t461 => (if t461 = true then ((clavigerlaw20_awake.f k).bind fun t462 => (some t462)) else (some false))))) else (some false)))) else (some false))) else (some false)) else (some false)) else (some false)) = some r := H
 have A8 := Aside0.mk A80
 clear A80
 by_cases c9 : (t450 == t451) = true
 case neg =>
  rw [if_neg c9] at H
  have c9b0 : (t450 == t451) = false := by simpa using c9
  (try (have c9b1 : decide (t450 = t451) = false := by simpa using c9))
  (try (have c9b2 : (t450 == t451) = false := by simpa using c9))
  (try (have c9b3 : ¬ (t450 = t451) := by simpa using c9))
  clear c9
  exact absurd ((Option.some.inj H).trans HR_.out) (by decide)
 rw [if_pos c9] at H
 have c9b0 : (t450 == t451) = true := c9
 (try (have c9b1 : decide (t450 = t451) = true := by simpa using c9))
 (try (have c9b2 : (t450 == t451) = true := by simpa using c9))
 clear c9
 by_cases c10 : t446.toList = t448.toList
 case neg =>
  rw [if_neg c10] at H
  have c10b0 : (t446.toList == t448.toList) = false := beq_eq_false_iff_ne.mpr c10
  have c10b1 : (t446.toList != t448.toList) = true := bne_iff_ne.mpr c10
  exact absurd ((Option.some.inj H).trans HR_.out) (by decide)
 rw [if_pos c10] at H
 have c10b0 : (t446.toList == t448.toList) = true := beq_iff_eq.mpr c10
 have c10b1 : (t446.toList != t448.toList) = false := bne_eq_false_iff_eq.mpr c10
 clear c10
 by_cases c11 : t447 = t449
 case neg =>
  rw [if_neg c11] at H
  have c11b0 : (t447 == t449) = false := beq_eq_false_iff_ne.mpr c11
  have c11b1 : (t447 != t449) = true := bne_iff_ne.mpr c11
  exact absurd ((Option.some.inj H).trans HR_.out) (by decide)
 rw [if_pos c11] at H
 have c11b0 : (t447 == t449) = true := beq_iff_eq.mpr c11
 have c11b1 : (t447 != t449) = false := bne_eq_false_iff_eq.mpr c11
 clear c11
 replace H := Option.bind_eq_some_iff.mp H
 obtain ⟨t452, A120, H⟩ := H
 replace H : (if t452 = (t448.size : Int) then ((tree_Depth.f k l0).bind fun t453 => ((cr20_Depth.f k l0).bind fun t454 => (if t453 = t454 then ((tree_Sub.f k l0 a1).bind fun t455 => ((cr20_Sub.f k l0 a1).bind fun t458 => ((cp_Same.f k t455 t458).bind fun t461 => (if t461 = true then ((clavigerlaw20_awake.f k).bind fun t462 => (some t462)) else (some false))))) else (some false)))) else (some false)) = some r := H
 have A12 := Aside0.mk A120
 clear A120
 by_cases c13 : t452 = (t448.size : Int)
 case neg =>
  rw [if_neg c13] at H
  have c13b0 : (t452 == (t448.size : Int)) = false := beq_eq_false_iff_ne.mpr c13
  have c13b1 : (t452 != (t448.size : Int)) = true := bne_iff_ne.mpr c13
  exact absurd ((Option.some.inj H).trans HR_.out) (by decide)
 rw [if_pos c13] at H
 have c13b0 : (t452 == (t448.size : Int)) = true := beq_iff_eq.mpr c13
 have c13b1 : (t452 != (t448.size : Int)) = false := bne_eq_false_iff_eq.mpr c13
 clear c13
 replace H := Option.bind_eq_some_iff.mp H
 obtain ⟨t453, A140, H⟩ := H
 replace H : ((cr20_Depth.f k l0).bind fun t454 => (if t453 = t454 then ((tree_Sub.f k l0 a1).bind fun t455 => ((cr20_Sub.f k l0 a1).bind fun t458 => ((cp_Same.f k t455 t458).bind fun t461 => (if t461 = true then ((clavigerlaw20_awake.f k).bind fun t462 => (some t462)) else (some false))))) else (some false))) = some r := H
 have A14 := Aside0.mk A140
 clear A140
 replace H := Option.bind_eq_some_iff.mp H
 obtain ⟨t454, A150, H⟩ := H
 replace H : (if t453 = t454 then ((tree_Sub.f k l0 a1).bind fun t455 => ((cr20_Sub.f k l0 a1).bind fun t458 => ((cp_Same.f k t455 t458).bind fun t461 => (if t461 = true then ((clavigerlaw20_awake.f k).bind fun t462 => (some t462)) else (some false))))) else (some false)) = some r := H
 have A15 := Aside0.mk A150
 clear A150
 by_cases c16 : t453 = t454
 case neg =>
  rw [if_neg c16] at H
  have c16b0 : (t453 == t454) = false := beq_eq_false_iff_ne.mpr c16
  have c16b1 : (t453 != t454) = true := bne_iff_ne.mpr c16
  exact absurd ((Option.some.inj H).trans HR_.out) (by decide)
 rw [if_pos c16] at H
 have c16b0 : (t453 == t454) = true := beq_iff_eq.mpr c16
 have c16b1 : (t453 != t454) = false := bne_eq_false_iff_eq.mpr c16
 clear c16
 replace H := Option.bind_eq_some_iff.mp H
 obtain ⟨t455, A170, H⟩ := H
 replace H : ((cr20_Sub.f k l0 a1).bind fun t458 => ((cp_Same.f k t455 t458).bind fun t461 => (if t461 = true then ((clavigerlaw20_awake.f k).bind fun t462 => (some t462)) else (some false)))) = some r := H
 have A17 := Aside0.mk A170
 clear A170
 replace H := Option.bind_eq_some_iff.mp H
 obtain ⟨t458, A180, H⟩ := H
 replace H : ((cp_Same.f k t455 t458).bind fun t461 => (if t461 = true then ((clavigerlaw20_awake.f k).bind fun t462 => (some t462)) else (some false))) = some r := H
 have A18 := Aside0.mk A180
 clear A180
 replace H := Option.bind_eq_some_iff.mp H
 obtain ⟨t461, A190, H⟩ := H
 replace H : (if t461 = true then ((clavigerlaw20_awake.f k).bind fun t462 => (some t462)) else (some false)) = some r := H
 have A19 := Aside0.mk A190
 clear A190
 by_cases c20 : t461 = true
 case neg =>
  replace c20 := Bool.eq_false_iff.mpr c20
  subst c20
  have H1 : (some false) = some r := by rw [if_neg (show ¬ (false = true) by decide)] at H; exact H
  clear H
  have H := H1
  clear H1
  exact absurd ((Option.some.inj H).trans HR_.out) (by decide)
 subst c20
 have H1 : ((clavigerlaw20_awake.f k).bind fun t462 => (some t462)) = some r := by rw [if_pos rfl] at H; exact H
 clear H
 have H := H1
 clear H1
 replace H := Option.bind_eq_some_iff.mp H
 obtain ⟨t462, A210, H⟩ := H
 replace H : (some t462) = some r := H
 have A21 := Aside0.mk A210
 clear A210
 obtain rfl := Option.some.inj H
 go_enter Tryd.func3, Tryd.ntmps3
 go_wp2_with (first | ((with_reducible refine gate_callee (f := 7) rfl ?_); refine goesL_ (some 10) rfl rfl Tryd.func7 (by kernel_rfl) rfl #[.slice A0 l0.length c0, .int .i64 60] rfl gargs ?_; (with_reducible refine (cp_Tree.calls k _ _ l0 60 true _ ?side1 ?side2 A3.out).mono ?_); (case side1 => exact kcW HR0.out); (case side2 => exact HC0.out); rintro e w' ⟨rfl, ⟨nd, rfl⟩⟩; refine ⟨_, rfl, ?_⟩) | ((with_reducible refine gate_callee (f := 9) rfl ?_); refine goesL_ (some 15) rfl rfl Tryd.func9 (by kernel_rfl) rfl #[.slice A0 l0.length c0] rfl gargs ?_; (with_reducible refine (tree_Encode.calls k _ _ l0 t446 t447 _ ?side1 ?side2 ?tb_ A5.out).mono ?_); (case tb_ => exact tbw); (case side1 => exact kcW HR0.out); (case side2 => exact HC0.out); rintro e w22 ⟨rfl, hb⟩; refine ⟨_, rfl, ?_⟩; replace HB := Aside0.mk (below_step blw hb); (try clear hb); (try clear hb2); (try clear hk); (try clear hi)) | ((with_reducible refine gate_callee (f := 10) rfl ?_); refine goesL_ (some 20) rfl rfl Tryd.func10 (by kernel_rfl) rfl #[.slice A0 l0.length c0] rfl gargs ?_; (with_reducible refine (cr20_Encode.calls k _ _ l0 t448 t449 _ ?side1 ?side2 A6.out).mono ?_); (case side1 => exact kcW (Kd.C_below HR0.out HB.out)); (case side2 => exact HC0.out); rintro e w23 ⟨rfl, hb⟩; refine ⟨_, rfl, ?_⟩; replace HB := Aside0.mk (below_step blw hb); (try clear hb); (try clear hb2); (try clear hk); (try clear hi)) | ((with_reducible refine gate_callee (f := 11) rfl ?_); refine goesL_ (some 24) rfl rfl Tryd.func11 (by kernel_rfl) rfl #[.slice A0 l0.length c0] rfl gargs ?_; (with_reducible refine (tree_Right.calls k _ _ l0 t450 _ ?side1 ?side2 ?tb_ A7.out).mono ?_); (case tb_ => exact tbw); (case side1 => exact kcW (Kd.C_below HR0.out HB.out)); (case side2 => exact HC0.out); rintro e w24 ⟨rfl, hb⟩; refine ⟨_, rfl, ?_⟩; replace HB := Aside0.mk (below_step blw hb); (try clear hb); (try clear hb2); (try clear hk); (try clear hi)) | ((with_reducible refine gate_callee (f := 12) rfl ?_); refine goesL_ (some 26) rfl rfl Tryd.func12 (by kernel_rfl) rfl #[.slice A0 l0.length c0] rfl gargs ?_; (with_reducible refine (cr20_Right.calls k _ _ l0 t451 _ ?side1 ?side2 A8.out).mono ?_); (case side1 => exact kcW (Kd.C_below HR0.out HB.out)); (case side2 => exact HC0.out); rintro e w25 ⟨rfl, hb⟩; refine ⟨_, rfl, ?_⟩; replace HB := Aside0.mk (below_step blw hb); (try clear hb); (try clear hb2); (try clear hk); (try clear hi)) | (go_at_call 13; (with_reducible refine (tree_Size.calls k _ _ l0 t452 _ ?side1 ?side2 ?tb_ A12.out).mono ?_); (case tb_ => exact tbw); (case side1 => exact kcW (Kd.C_below HR0.out HB.out)); (case side2 => exact HC0.out); rintro e w26 ⟨rfl, hb⟩; replace HB := Aside0.mk (below_step blw hb); (try clear hb); (try clear hb2); (try clear hk); (try clear hi)) | (go_at_call 14; (with_reducible refine (tree_Depth.calls k _ _ l0 t453 _ ?side1 ?side2 ?tb_ A14.out).mono ?_); (case tb_ => exact tbw); (case side1 => exact kcW (Kd.C_below HR0.out HB.out)); (case side2 => exact HC0.out); rintro e w27 ⟨rfl, hb⟩; replace HB := Aside0.mk (below_step blw hb); (try clear hb); (try clear hb2); (try clear hk); (try clear hi)) | (go_at_call 15; (with_reducible refine (cr20_Depth.calls k _ _ l0 t454 _ ?side1 ?side2 A15.out).mono ?_); (case side1 => exact kcW (Kd.C_below HR0.out HB.out)); (case side2 => exact HC0.out); rintro e w28 ⟨rfl, hb⟩; replace HB := Aside0.mk (below_step blw hb); (try clear hb); (try clear hb2); (try clear hk); (try clear hi)) | (go_at_call 17; (with_reducible refine (tree_Sub.calls k _ _ l0 a1 t455 _ ?side1 ?side2 ?tb_ A17.out).mono ?_); (case tb_ => exact tbw); (case side1 => exact kcW (Kd.C_below HR0.out HB.out)); (case side2 => exact HC0.out); rintro e w29 ⟨v456, rfl, ho0, hb⟩; have n0_ := Aside0.mk (Kd.S_lower ho0 (below_size blw)); have n1_ := Aside0.mk (below_step blw hb); clear HB; have HO457 := n0_; have HB := n1_; clear n0_ n1_; (try clear hb); (try clear hb2); (try clear hk); (try clear hi); (try clear ho0)) | (go_at_call 18; (with_reducible refine (cr20_Sub.calls k _ _ l0 a1 t458 _ ?side1 ?side2 A18.out).mono ?_); (case side1 => exact kcW (Kd.C_below HR0.out HB.out)); (case side2 => exact HC0.out); rintro e w30 ⟨v459, rfl, ho0, hb⟩; have n0_ := Aside0.mk (Kd.S_elder' (soW HO457.out) (Kd.S_base ho0) hb); have n1_ := Aside0.mk (Kd.S_lower (Kd.S_new' ho0 (Kd.S_lt (soW HO457.out))) (below_size blw)); have n2_ := Aside0.mk (below_step blw hb); clear HO457; clear HB; have HO457 := n0_; have HO460 := n1_; have HB := n2_; clear n0_ n1_ n2_; (try clear hb); (try clear hb2); (try clear hk); (try clear hi); (try clear ho0); obtain ⟨Ao31, co31, eo31⟩ := Kd.S_slice HO457.out; subst eo31; obtain ⟨Ao32, co32, eo32⟩ := Kd.S_slice HO460.out; subst eo32) | (go_at_call 16; (with_reducible refine (cp_Same.calls k _ _ t455 _ _ t458 true _ ?side1 ?side2 ?side3 ?side4 A19.out).mono ?_); (case side1 => exact kcW (Kd.S_reads' HO457.out).2.2); (case side2 => exact (Kd.S_reads' HO457.out).2.1); (case side3 => exact kcW (Kd.S_reads' HO460.out).2.2); (case side4 => exact (Kd.S_reads' HO460.out).2.1); rintro e w33 ⟨rfl, hb⟩; have n0_ := Aside0.mk (Kd.S_below (soW HO457.out) hb); have n1_ := Aside0.mk (Kd.S_below (soW HO460.out) hb); have n2_ := Aside0.mk (below_step blw hb); clear HO457; clear HO460; clear HB; have HO457 := n0_; have HO460 := n1_; have HB := n2_; clear n0_ n1_ n2_; (try clear hb); (try clear hb2); (try clear hk); (try clear hi)) | (go_at_call 8; (with_reducible refine (clavigerlaw20_awake.calls k  t462 _ ?tb_ A21.out).mono ?_); (case tb_ => exact tbw); rintro e w34 ⟨rfl, hb⟩; have n0_ := Aside0.mk (Kd.S_below (soW HO457.out) hb); have n1_ := Aside0.mk (Kd.S_below (soW HO460.out) hb); have n2_ := Aside0.mk (below_step blw hb); clear HO457; clear HO460; clear HB; have HO457 := n0_; have HO460 := n1_; have HB := n2_; clear n0_ n1_ n2_; (try clear hb); (try clear hb2); (try clear hk); (try clear hi)))
 go_ret
 exact ⟨rse, blw⟩

def okS41 (b : S41) : Prop := (Lit.int .i64 b.f0).wf = true ∧ (Lit.int .i64 b.f1).wf = true ∧ True ∧ b.f3.size ≤ maxLen ∧ (b.f4.length ≤ maxLen ∧ ∀ a ∈ b.f4, (Lit.int .i64 a).wf = true)

/-- THE ONE PURE STATEMENT of clavigerlaw20_TreeTells: yours. -/
def clavigerlaw20_TreeTells.Pure : Prop := ∀ (l0 : List (S41)) (a1 : Int), l0.length ≤ maxLen → (∀ a ∈ l0, okS41 a) → (Lit.int .i64 a1).wf = true → ∃ k, clavigerlaw20_TreeTells.f k l0 a1 = some true
theorem clavigerlaw20_TreeTells.walk (P : clavigerlaw20_TreeTells.Pure) (A0 : Option Addr) (c0 : Nat) (l0 : List (S41)) (a1 : Int) (w : World) (hr0 : Kd.C k41 w A0 l0.length l0) (hc0 : l0.length ≤ c0) (g0_0 : l0.length ≤ maxLen) (g0_1 : (∀ a ∈ l0, okS41 a)) (g1_0 : (Lit.int .i64 a1).wf = true) (HT_ : Aside0 (TB w)) :
 Calls Tryd.prog 3 #[.slice A0 l0.length c0, .int .i64 a1] w fun e w' => e = .returned (.bool true) ∧ Below w.heap.size w w' := by
 obtain ⟨k, h⟩ := P l0 a1 g0_0 g0_1 g1_0
 refine (clavigerlaw20_TreeTells.calls k A0 c0 l0 a1 true w hr0 hc0 HT_ ⟨rfl⟩ h).mono ?_
 rintro e w' ⟨rfl, hd⟩
 exact ⟨rfl, hd⟩

end Go.Proofs.YtcbcojbhbhaimaaDoor.PTreeTells
