import Derived.Test.YtcbcojbhbhaimaaDoorPTreeTellsx0
import Derived.Test.YtcbcojbhbhaimaaDoorPTreeTellsx12
namespace Go.Proofs.YtcbcojbhbhaimaaDoor.PTreeTells
open Go.RowKit Go.Proofs.YtcbcojbhbhaimaaDoorW.PrintWords Go.Proofs.YtcbcojbhbhaimaaDoorW.PrintLast Go.Proofs.YtcbcojbhbhaimaaDoorW.PrintMore
attribute [local go_sem high] c_add c_eql c_neq
attribute [local go_sem] f_store_c f_store_f f_add f_toint f_fold_eq f_fold_ne f_fold_lt f_fold_gt f_fold_le f_fold_ge
attribute [local go_sem] str_leq str_gtr str_geq max2_int min2_int max_two min_two max_three min_three max_four min_four   -- for this text's walks alone
set_option linter.unusedVariables false
set_option linter.unusedSimpArgs false

/-! ### cr17_Decode: function 65 -/
mutual
def cr17_Decode.l0 : Nat → ByteArray → List Int → Int → Int → Option (List Int × Bool)
 | 0, _, _, _, _ => none
 | k + 1, x0, x4, x5, x6 => if x6 < (x0.size : Int) then (cr17_Decode.j1 k x0 x4 x5 x6 (decide ((x4.length : Int) < 21))) else (cr17_Decode.j1 k x0 x4 x5 x6 false)
def cr17_Decode.j1 : Nat → ByteArray → List Int → Int → Int → Bool → Option (List Int × Bool)
 | 0, _, _, _, _, _ => none
 | k + 1, x0, x4, x5, x6, x18 => if x18 = true then (if 0 ≤ x6 then (if x6 < (x0.size : Int) then (if (wrap64 ((wrap64 (128 * x5)) + (Int.tmod (wrap64 (bt x0 x6)) 128))) > 4294967296 then (some (([] : List Int), false)) else (if (bt x0 x6) > 127 then (cr17_Decode.l0 k x0 x4 (wrap64 ((wrap64 (128 * x5)) + (Int.tmod (wrap64 (bt x0 x6)) 128))) (wrap64 (x6 + 1))) else (if (x4.length : Int) = 0 then (if (wrap64 (Int.tdiv (wrap64 ((wrap64 (128 * x5)) + (Int.tmod (wrap64 (bt x0 x6)) 128))) 40)) > 2 then (if x4.length < 17592186044416 then ((some (x4 ++ [2] : List Int)).bind fun y345 => (if y345.length < 17592186044416 then (cr17_Decode.l0 k x0 (y345 ++ [wrap64 ((wrap64 ((wrap64 (128 * x5)) + (Int.tmod (wrap64 (bt x0 x6)) 128))) - 80)]) 0 (wrap64 (x6 + 1))) else (none))) else (none)) else (if x4.length < 17592186044416 then ((some (x4 ++ [wrap64 (Int.tdiv (wrap64 ((wrap64 (128 * x5)) + (Int.tmod (wrap64 (bt x0 x6)) 128))) 40)] : List Int)).bind fun y351 => (if y351.length < 17592186044416 then (cr17_Decode.l0 k x0 (y351 ++ [wrap64 ((wrap64 ((wrap64 (128 * x5)) + (Int.tmod (wrap64 (bt x0 x6)) 128))) - (wrap64 (40 * (wrap64 (Int.tdiv (wrap64 ((wrap64 (128 * x5)) + (Int.tmod (wrap64 (bt x0 x6)) 128))) 40)))))]) 0 (wrap64 (x6 + 1))) else (none))) else (none))) else (if x4.length < 17592186044416 then (cr17_Decode.l0 k x0 (x4 ++ [wrap64 ((wrap64 (128 * x5)) + (Int.tmod (wrap64 (bt x0 x6)) 128))]) 0 (wrap64 (x6 + 1))) else (none))))) else (none)) else (none)) else ((cr17_Encode.f k x4).bind fun bt343 => (if bt343.2 = true then (if bt343.1.toList = x0.toList then (some (x4, true)) else (some (([] : List Int), false))) else (some (([] : List Int), false))))
end
def cr17_Decode.f (k : Nat) (a0 : ByteArray) : Option (List Int × Bool) := cr17_Decode.l0 k a0 ([] : List Int) 0 0
theorem cr17_Decode.mono_l : ∀ k, (∀ y0 y1 y2 y3, LeO (cr17_Decode.l0 k y0 y1 y2 y3) (cr17_Decode.l0 (k + 1) y0 y1 y2 y3)) ∧ (∀ y0 y1 y2 y3 y4, LeO (cr17_Decode.j1 k y0 y1 y2 y3 y4) (cr17_Decode.j1 (k + 1) y0 y1 y2 y3 y4))
 | 0 => ⟨fun _ _ _ _ r h => by simp [cr17_Decode.l0] at h, fun _ _ _ _ _ r h => by simp [cr17_Decode.j1] at h⟩
 | k + 1 => by
  obtain ⟨ih0, ih1⟩ := cr17_Decode.mono_l k
  refine ⟨?_, ?_⟩ <;> intros <;> first | unfold cr17_Decode.l0 | unfold cr17_Decode.j1
  all_goals repeat' first
  | (with_reducible first | exact ih0 _ _ _ _ | exact ih1 _ _ _ _ _ | exact cr17_Encode.mono _ _ | exact LeO.refl _ | exact LeO.none _ | refine LeO.ite ?_ ?_ | refine LeO.bind ?_ (fun _ => ?_))
  | exact ih0 _ _ _ _
  | exact ih1 _ _ _ _ _
  | exact cr17_Encode.mono _ _
  | exact LeO.none _
  | refine LeO.ite ?_ ?_
  | refine LeO.bind ?_ (fun _ => ?_)
theorem cr17_Decode.mono : ∀ a0 k, LeO (cr17_Decode.f k a0) (cr17_Decode.f (k + 1) a0) := by
 intro a0 k
 obtain ⟨ih0, ih1⟩ := cr17_Decode.mono_l k
 unfold cr17_Decode.f
 repeat' first
  | (with_reducible first | exact ih0 _ _ _ _ | exact ih1 _ _ _ _ _ | exact cr17_Encode.mono _ _ | exact LeO.refl _ | exact LeO.none _ | refine LeO.ite ?_ ?_ | refine LeO.bind ?_ (fun _ => ?_))
  | exact ih0 _ _ _ _
  | exact ih1 _ _ _ _ _
  | exact cr17_Encode.mono _ _
  | exact LeO.none _
  | refine LeO.ite ?_ ?_
  | refine LeO.bind ?_ (fun _ => ?_)
set_option maxHeartbeats 8000000 in
set_option maxRecDepth 100000 in
theorem cr17_Decode.calls (k : Nat) (a0 : ByteArray) (r1 : List Int) (r2 : Bool) (w : World) (h : cr17_Decode.f k a0 = some (r1, r2)) :
 Calls Tryd.prog 65 #[.string a0] w fun e w' => ∃ v0_ : Value, e = .returned (.tuple #[v0_, .bool r2]) ∧ Kd.R (Kd.int .i64) 3 w' w.heap.size (fun _ => True) v0_ r1 ∧ Below w.heap.size w w' := by
 have HB := Aside0.mk (Below.refl w.heap.size w)
 have H : (cr17_Decode.l0 k a0 ([] : List Int) 0 0) = some (r1, r2) := h
 clear h
 have H' := Aside0.mk H
 clear H
 go_enter Tryd.func65, Tryd.ntmps65
 go_wp2
 go_loopg [4, 5, 6] k (fun kq v4 v5 v6 w' => ∃ (x4_1 : List Int) (x5_1 : Int) (x6_1 : Int), v5 = .int .i64 x5_1 ∧ v6 = .int .i64 x6_1 ∧ Aside0 (cr17_Decode.l0 kq a0 x4_1 x5_1 x6_1 = some (r1, r2)) ∧ Aside0 (kq ≤ k) ∧ Aside0 (Kd.R (Kd.int .i64) 3 w' w.heap.size (fun _ => True) v4 x4_1) ∧ Aside0 (Below w.heap.size w w'))
 case atStart => exact ⟨(([] : List Int)), (0), (0), rsd, rsd, H', ⟨Nat.le_refl _⟩, ⟨by first | exact Kd.R_nil _ _ _ _ _ | exact Kd.N_nil _ _ _ _ _ | exact Kd.V_nil _ _ _ _ _ | exact Kd.Q_nil _ _ _ _ _ | exact Kd.S_nil _ _ _ _ _⟩, ⟨blw⟩⟩
 case round =>
  clear H'
  obtain ⟨x4_1, x5_1, x6_1, rfl, rfl, HA, HK1, HO_4, HB⟩ := hrel
  cases gk with
  | zero => exact absurd HA.out (by simp [cr17_Decode.l0])
  | succ k1 =>
   have H := HA.out
   clear HA
   simp only [cr17_Decode.l0] at H
   have HC2 := Aside0.mk H
   clear H
   go_upto_region 4 with (fail)
   go_cut [18] (fun v18 wc => ∃ (kq : Nat) (x18_1 : Bool), v18 = .bool x18_1 ∧ Aside0 (cr17_Decode.j1 kq a0 x4_1 x5_1 x6_1 x18_1 = some (r1, r2)) ∧ Aside0 (kq ≤ k1) ∧ Aside0 (Kd.R (Kd.int .i64) 3 wc w.heap.size (fun _ => True) u4 x4_1) ∧ Aside0 (Below w.heap.size w wc))
   case first =>
    have H := HC2.out
    clear HC2
    by_cases c3 : x6_1 < (a0.size : Int)
    case neg =>
     rw [if_neg c3] at H
     have c3b0 : decide (x6_1 < (a0.size : Int)) = false := decide_eq_false c3
     clear c3
     (first | rw [c3b0] | (simp only [i64_w, i32_w]; rw [c3b0]) | rw [c3b1] | skip)
     have H' := Aside0.mk H
     clear H
     go_wp2
     go_meet
     case rel => exact ⟨_, (false), rsd, H', ⟨by have := HK1.out; first | omega | exact Nat.le_refl _⟩, ⟨roW HO_4.out⟩, ⟨blw⟩⟩
    rw [if_pos c3] at H
    have c3b0 : decide (x6_1 < (a0.size : Int)) = true := decide_eq_true c3
    clear c3
    (first | rw [c3b0] | (simp only [i64_w, i32_w]; rw [c3b0]) | rw [c3b1] | skip)
    have H' := Aside0.mk H
    clear H
    obtain ⟨Ao4, co4, eo4⟩ := Kd.R_slice HO_4.out
    subst eo4
    go_wp2
    go_meet
    case rel => exact ⟨_, (decide ((x4_1.length : Int) < 21)), rsd, H', ⟨by have := HK1.out; first | omega | exact Nat.le_refl _⟩, ⟨roW HO_4.out⟩, ⟨blw⟩⟩
   case rest =>
    clear HC2
    try clear c3
    try clear c3b0
    try clear c3b1
    obtain ⟨kq, x18_1, rfl, HA, HJ1, HO_4, HB⟩ := hcut
    cases kq with
    | zero => exact absurd HA.out (by simp [cr17_Decode.j1])
    | succ kj1 =>
     have H := HA.out
     clear HA
     simp only [cr17_Decode.j1] at H
     by_cases c5 : x18_1 = true
     case neg =>
      replace c5 := Bool.eq_false_iff.mpr c5
      subst c5
      have H1 : ((cr17_Encode.f kj1 x4_1).bind fun bt343 => (if bt343.2 = true then (if bt343.1.toList = a0.toList then (some (x4_1, true)) else (some (([] : List Int), false))) else (some (([] : List Int), false)))) = some (r1, r2) := by rw [if_neg (show ¬ (false = true) by decide)] at H; exact H
      clear H
      have H := H1
      clear H1
      replace H := Option.bind_eq_some_iff.mp H
      obtain ⟨⟨t343, t344⟩, A270, H⟩ := H
      replace H : (if t344 = true then (if t343.toList = a0.toList then (some (x4_1, true)) else (some (([] : List Int), false))) else (some (([] : List Int), false))) = some (r1, r2) := H
      have A27 := Aside0.mk A270
      clear A270
      by_cases c28 : t344 = true
      case neg =>
       replace c28 := Bool.eq_false_iff.mpr c28
       subst c28
       have H1 : (some (([] : List Int), false)) = some (r1, r2) := by rw [if_neg (show ¬ (false = true) by decide)] at H; exact H
       clear H
       have H := H1
       clear H1
       simp only [Option.some.injEq, Prod.mk.injEq] at H
       obtain ⟨rfl, rfl⟩ := H
       obtain ⟨Ao34, co34, eo34⟩ := Kd.R_slice HO_4.out
       subst eo34
       go_wp2_with (first | ((with_reducible refine gate_callee (f := 76) rfl ?_); refine goesL_ (some 56) rfl rfl Tryd.func76 (by kernel_rfl) rfl #[.slice Ao34 x4_1.length co34] rfl gargs ?_; (with_reducible refine (cr17_Encode.calls kj1 _ _ x4_1 t343 false _ ?side1 ?side2 A27.out).mono ?_); (case side1 => exact kcW (Kd.R_reads' HO_4.out).2.2); (case side2 => exact (Kd.R_reads' HO_4.out).2.1); rintro e w35 ⟨rfl, hb⟩; refine ⟨_, rfl, ?_⟩; have n0_ := Aside0.mk (Kd.R_below (roW HO_4.out) hb); have n1_ := Aside0.mk (below_step blw hb); clear HO_4; clear HB; have HO_4 := n0_; have HB := n1_; clear n0_ n1_; (try clear hb); (try clear hb2); (try clear hk); (try clear hi)))
       go_ret2
       exact ⟨_, rse, by first | exact Kd.R_nil _ _ _ _ _ | exact Kd.N_nil _ _ _ _ _ | exact Kd.V_nil _ _ _ _ _ | exact Kd.Q_nil _ _ _ _ _ | exact Kd.S_nil _ _ _ _ _, blw⟩
      subst c28
      have H1 : (if t343.toList = a0.toList then (some (x4_1, true)) else (some (([] : List Int), false))) = some (r1, r2) := by rw [if_pos rfl] at H; exact H
      clear H
      have H := H1
      clear H1
      by_cases c29 : t343.toList = a0.toList
      case neg =>
       rw [if_neg c29] at H
       have c29b0 : (t343.toList == a0.toList) = false := beq_eq_false_iff_ne.mpr c29
       have c29b1 : (t343.toList != a0.toList) = true := bne_iff_ne.mpr c29
       simp only [Option.some.injEq, Prod.mk.injEq] at H
       obtain ⟨rfl, rfl⟩ := H
       obtain ⟨Ao32, co32, eo32⟩ := Kd.R_slice HO_4.out
       subst eo32
       go_wp2_with (first | ((with_reducible refine gate_callee (f := 76) rfl ?_); refine goesL_ (some 56) rfl rfl Tryd.func76 (by kernel_rfl) rfl #[.slice Ao32 x4_1.length co32] rfl gargs ?_; (with_reducible refine (cr17_Encode.calls kj1 _ _ x4_1 t343 true _ ?side1 ?side2 A27.out).mono ?_); (case side1 => exact kcW (Kd.R_reads' HO_4.out).2.2); (case side2 => exact (Kd.R_reads' HO_4.out).2.1); rintro e w33 ⟨rfl, hb⟩; refine ⟨_, rfl, ?_⟩; have n0_ := Aside0.mk (Kd.R_below (roW HO_4.out) hb); have n1_ := Aside0.mk (below_step blw hb); clear HO_4; clear HB; have HO_4 := n0_; have HB := n1_; clear n0_ n1_; (try clear hb); (try clear hb2); (try clear hk); (try clear hi)))
       go_ret2
       exact ⟨_, rse, by first | exact Kd.R_nil _ _ _ _ _ | exact Kd.N_nil _ _ _ _ _ | exact Kd.V_nil _ _ _ _ _ | exact Kd.Q_nil _ _ _ _ _ | exact Kd.S_nil _ _ _ _ _, blw⟩
      rw [if_pos c29] at H
      have c29b0 : (t343.toList == a0.toList) = true := beq_iff_eq.mpr c29
      have c29b1 : (t343.toList != a0.toList) = false := bne_eq_false_iff_eq.mpr c29
      clear c29
      simp only [Option.some.injEq, Prod.mk.injEq] at H
      obtain ⟨rfl, rfl⟩ := H
      obtain ⟨Ao30, co30, eo30⟩ := Kd.R_slice HO_4.out
      subst eo30
      go_wp2_with (first | ((with_reducible refine gate_callee (f := 76) rfl ?_); refine goesL_ (some 56) rfl rfl Tryd.func76 (by kernel_rfl) rfl #[.slice Ao30 x4_1.length co30] rfl gargs ?_; (with_reducible refine (cr17_Encode.calls kj1 _ _ x4_1 t343 true _ ?side1 ?side2 A27.out).mono ?_); (case side1 => exact kcW (Kd.R_reads' HO_4.out).2.2); (case side2 => exact (Kd.R_reads' HO_4.out).2.1); rintro e w31 ⟨rfl, hb⟩; refine ⟨_, rfl, ?_⟩; have n0_ := Aside0.mk (Kd.R_below (roW HO_4.out) hb); have n1_ := Aside0.mk (below_step blw hb); clear HO_4; clear HB; have HO_4 := n0_; have HB := n1_; clear n0_ n1_; (try clear hb); (try clear hb2); (try clear hk); (try clear hi)))
      go_ret2
      exact ⟨_, rse, roW HO_4.out, blw⟩
     subst c5
     have H1 : (if 0 ≤ x6_1 then (if x6_1 < (a0.size : Int) then (if (wrap64 ((wrap64 (128 * x5_1)) + (Int.tmod (wrap64 (bt a0 x6_1)) 128))) > 4294967296 then (some (([] : List Int), false)) else (if (bt a0 x6_1) > 127 then (cr17_Decode.l0 kj1 a0 x4_1 (wrap64 ((wrap64 (128 * x5_1)) + (Int.tmod (wrap64 (bt a0 x6_1)) 128))) (wrap64 (x6_1 + 1))) else (if (x4_1.length : Int) = 0 then (if (wrap64 (Int.tdiv (wrap64 ((wrap64 (128 * x5_1)) + (Int.tmod (wrap64 (bt a0 x6_1)) 128))) 40)) > 2 then (if x4_1.length < 17592186044416 then ((some (x4_1 ++ [2] : List Int)).bind fun y345 => (if y345.length < 17592186044416 then (cr17_Decode.l0 kj1 a0 (y345 ++ [wrap64 ((wrap64 ((wrap64 (128 * x5_1)) + (Int.tmod (wrap64 (bt a0 x6_1)) 128))) - 80)]) 0 (wrap64 (x6_1 + 1))) else (none))) else (none)) else (if x4_1.length < 17592186044416 then ((some (x4_1 ++ [wrap64 (Int.tdiv (wrap64 ((wrap64 (128 * x5_1)) + (Int.tmod (wrap64 (bt a0 x6_1)) 128))) 40)] : List Int)).bind fun y351 => (if y351.length < 17592186044416 then (cr17_Decode.l0 kj1 a0 (y351 ++ [wrap64 ((wrap64 ((wrap64 (128 * x5_1)) + (Int.tmod (wrap64 (bt a0 x6_1)) 128))) - (wrap64 (40 * (wrap64 (Int.tdiv (wrap64 ((wrap64 (128 * x5_1)) + (Int.tmod (wrap64 (bt a0 x6_1)) 128))) 40)))))]) 0 (wrap64 (x6_1 + 1))) else (none))) else (none))) else (if x4_1.length < 17592186044416 then (cr17_Decode.l0 kj1 a0 (x4_1 ++ [wrap64 ((wrap64 (128 * x5_1)) + (Int.tmod (wrap64 (bt a0 x6_1)) 128))]) 0 (wrap64 (x6_1 + 1))) else (none))))) else (none)) else (none)) = some (r1, r2) := by rw [if_pos rfl] at H; exact H
     clear H
     have H := H1
     clear H1
     by_cases c6 : 0 ≤ x6_1
     case neg =>
      rw [if_neg c6] at H
      exact absurd H (by simp)
     rw [if_pos c6] at H
     have c6b0 : decide (0 ≤ x6_1) = true := decide_eq_true c6
     clear c6
     by_cases c7 : x6_1 < (a0.size : Int)
     case neg =>
      rw [if_neg c7] at H
      exact absurd H (by simp)
     rw [if_pos c7] at H
     have c7b0 : decide (x6_1 < (a0.size : Int)) = true := decide_eq_true c7
     clear c7
     by_cases c9 : (wrap64 ((wrap64 (128 * x5_1)) + (Int.tmod (wrap64 (bt a0 x6_1)) 128))) > 4294967296
     case pos =>
      rw [if_pos c9] at H
      have c9b0 : decide (4294967296 < (wrap64 ((wrap64 (128 * x5_1)) + (Int.tmod (wrap64 (bt a0 x6_1)) 128)))) = true := decide_eq_true c9
      clear c9
      simp only [Option.some.injEq, Prod.mk.injEq] at H
      obtain ⟨rfl, rfl⟩ := H
      have p8 : 0 ≤ (x6_1 : Int) := odt
      have q8 : x6_1 < (a0.size : Int) := odt
      have hx8 := bt_at a0 x6_1
      replace p8 := eq_true p8
      replace q8 := eq_true q8
      go_wp2
      go_ret2
      exact ⟨_, rse, by first | exact Kd.R_nil _ _ _ _ _ | exact Kd.N_nil _ _ _ _ _ | exact Kd.V_nil _ _ _ _ _ | exact Kd.Q_nil _ _ _ _ _ | exact Kd.S_nil _ _ _ _ _, blw⟩
     rw [if_neg c9] at H
     have c9b0 : decide (4294967296 < (wrap64 ((wrap64 (128 * x5_1)) + (Int.tmod (wrap64 (bt a0 x6_1)) 128)))) = false := decide_eq_false c9
     clear c9
     by_cases c11 : (bt a0 x6_1) > 127
     case pos =>
      rw [if_pos c11] at H
      have c11b0 : decide (127 < (bt a0 x6_1)) = true := decide_eq_true c11
      clear c11
      have H' := Aside0.mk H
      clear H
      have p8 : 0 ≤ (x6_1 : Int) := odt
      have q8 : x6_1 < (a0.size : Int) := odt
      have hx8 := bt_at a0 x6_1
      replace p8 := eq_true p8
      replace q8 := eq_true q8
      have p10 : 0 ≤ (x6_1 : Int) := odt
      have q10 : x6_1 < (a0.size : Int) := odt
      have hx10 := bt_at a0 x6_1
      replace p10 := eq_true p10
      replace q10 := eq_true q10
      go_wp2
      go_roundg kj1
      case measure => have := HK1.out; have := HJ1.out; omega
      case rel => exact ⟨(x4_1), (wrap64 ((wrap64 (128 * x5_1)) + (Int.tmod (wrap64 (bt a0 x6_1)) 128))), (wrap64 (x6_1 + 1)), rsd, rsd, H', ⟨by have := HK1.out; have := HJ1.out; omega⟩, ⟨roW HO_4.out⟩, ⟨blw⟩⟩
     rw [if_neg c11] at H
     have c11b0 : decide (127 < (bt a0 x6_1)) = false := decide_eq_false c11
     clear c11
     by_cases c12 : (x4_1.length : Int) = 0
     case neg =>
      rw [if_neg c12] at H
      have c12b0 : ((x4_1.length : Int) == 0) = false := beq_eq_false_iff_ne.mpr c12
      have c12b1 : ((x4_1.length : Int) != 0) = true := bne_iff_ne.mpr c12
      have c12b2 : ¬ (x4_1 = []) := fun h_ => c12 (by rw [h_]; rfl)
      by_cases c24 : x4_1.length < 17592186044416
      case neg =>
       rw [if_neg c24] at H
       exact absurd H (by simp)
      rw [if_pos c24] at H
      have LMc24 := Aside0.mk c24
      clear c24
      obtain ⟨y357, hy357⟩ : ∃ y_ : List Int, y_ = (x4_1 ++ [wrap64 ((wrap64 (128 * x5_1)) + (Int.tmod (wrap64 (bt a0 x6_1)) 128))]) := ⟨_, rfl⟩
      replace H : (cr17_Decode.l0 kj1 a0 y357 0 (wrap64 (x6_1 + 1))) = some (r1, r2) := by first | (rw [hy357]; with_reducible exact H) | (have H2_ := (Option.bind_some _ _).symm.trans H; rw [hy357]; with_reducible exact H2_) | (have H2_ := (Option.bind_some _ _).symm.trans H; with_reducible exact H2_) | with_reducible exact H | (rw [hy357]; exact H) | exact H
      have Ny357 := Aside0.mk hy357
      clear hy357
      have H' := Aside0.mk H
      clear H
      have p8 : 0 ≤ (x6_1 : Int) := odt
      have q8 : x6_1 < (a0.size : Int) := odt
      have hx8 := bt_at a0 x6_1
      replace p8 := eq_true p8
      replace q8 := eq_true q8
      have p10 : 0 ≤ (x6_1 : Int) := odt
      have q10 : x6_1 < (a0.size : Int) := odt
      have hx10 := bt_at a0 x6_1
      replace p10 := eq_true p10
      replace q10 := eq_true q10
      obtain ⟨Ao25, co25, eo25⟩ := Kd.R_slice HO_4.out
      subst eo25
      go_wp2_with (first | ((with_reducible refine gate_builtin (b := .append) (xs := #[.tmp 50, .tmp 52]) rfl ?_); (try (refine gate_guard (by rfl) ?_; dsimp only)); at_builtin; refine Kd.R_append (Kd.int .i64) (w0 := w) w.heap.size rfl (.tmp 50) (.tmp 52) 39 3 (.int .i64 0) 8 rfl Tryd.underlying39 info3 rfl (by decide) (by omega) (.slice Ao25 x4_1.length co25) x4_1 (wrap64 ((wrap64 (128 * x5_1)) + (Int.tmod (wrap64 (bt a0 x6_1)) 128))) [.int .i64 (wrap64 ((wrap64 (128 * x5_1)) + (Int.tmod (wrap64 (bt a0 x6_1)) 128)))] (fun _ => True) (fun _ => False) rfl rfl ?aP (fun _ hk => hk.elim) ?aF ?aO ?aB ?aS ?aL ?_; (case aP => exact rfl); (case aB => exact blw); (case aF => exact (fun _ _ => trivial)); (case aO => exact (roW HO_4.out)); (case aS => exact (below_size blw)); (case aL => have := LMc24.out; omega); intro v358 w26 ho hb hg hat; rw [← Ny357.out] at ho; have n0_ := Aside0.mk (hb); have n1_ := Aside0.mk (ho); clear HB; clear HO_4; have HB := n0_; have HO359 := n1_; clear n0_ n1_; clear ho hb hg hat))
      go_roundg kj1
      case measure => have := HK1.out; have := HJ1.out; omega
      case rel => exact ⟨(y357), (0), (wrap64 (x6_1 + 1)), rsd, rsd, H', ⟨by have := HK1.out; have := HJ1.out; omega⟩, ⟨roW HO359.out⟩, ⟨blw⟩⟩
     rw [if_pos c12] at H
     have c12b0 : ((x4_1.length : Int) == 0) = true := beq_iff_eq.mpr c12
     have c12b1 : ((x4_1.length : Int) != 0) = false := bne_eq_false_iff_eq.mpr c12
     clear c12
     by_cases c13 : (wrap64 (Int.tdiv (wrap64 ((wrap64 (128 * x5_1)) + (Int.tmod (wrap64 (bt a0 x6_1)) 128))) 40)) > 2
     case neg =>
      rw [if_neg c13] at H
      have c13b0 : decide (2 < (wrap64 (Int.tdiv (wrap64 ((wrap64 (128 * x5_1)) + (Int.tmod (wrap64 (bt a0 x6_1)) 128))) 40))) = false := decide_eq_false c13
      clear c13
      by_cases c19 : x4_1.length < 17592186044416
      case neg =>
       rw [if_neg c19] at H
       exact absurd H (by simp)
      rw [if_pos c19] at H
      have LMc19 := Aside0.mk c19
      clear c19
      obtain ⟨y351, hy351⟩ : ∃ y_ : List Int, y_ = (x4_1 ++ [wrap64 (Int.tdiv (wrap64 ((wrap64 (128 * x5_1)) + (Int.tmod (wrap64 (bt a0 x6_1)) 128))) 40)]) := ⟨_, rfl⟩
      replace H : (if y351.length < 17592186044416 then (cr17_Decode.l0 kj1 a0 (y351 ++ [wrap64 ((wrap64 ((wrap64 (128 * x5_1)) + (Int.tmod (wrap64 (bt a0 x6_1)) 128))) - (wrap64 (40 * (wrap64 (Int.tdiv (wrap64 ((wrap64 (128 * x5_1)) + (Int.tmod (wrap64 (bt a0 x6_1)) 128))) 40)))))]) 0 (wrap64 (x6_1 + 1))) else (none)) = some (r1, r2) := by first | (rw [hy351]; with_reducible exact H) | (have H2_ := (Option.bind_some _ _).symm.trans H; rw [hy351]; with_reducible exact H2_) | (have H2_ := (Option.bind_some _ _).symm.trans H; with_reducible exact H2_) | with_reducible exact H | (rw [hy351]; exact H) | exact H
      have Ny351 := Aside0.mk hy351
      clear hy351
      by_cases c20 : y351.length < 17592186044416
      case neg =>
       rw [if_neg c20] at H
       exact absurd H (by simp)
      rw [if_pos c20] at H
      have LMc20 := Aside0.mk c20
      clear c20
      obtain ⟨y354, hy354⟩ : ∃ y_ : List Int, y_ = (y351 ++ [wrap64 ((wrap64 ((wrap64 (128 * x5_1)) + (Int.tmod (wrap64 (bt a0 x6_1)) 128))) - (wrap64 (40 * (wrap64 (Int.tdiv (wrap64 ((wrap64 (128 * x5_1)) + (Int.tmod (wrap64 (bt a0 x6_1)) 128))) 40)))))]) := ⟨_, rfl⟩
      replace H : (cr17_Decode.l0 kj1 a0 y354 0 (wrap64 (x6_1 + 1))) = some (r1, r2) := by first | (rw [hy354]; with_reducible exact H) | (have H2_ := (Option.bind_some _ _).symm.trans H; rw [hy354]; with_reducible exact H2_) | (have H2_ := (Option.bind_some _ _).symm.trans H; with_reducible exact H2_) | with_reducible exact H | (rw [hy354]; exact H) | exact H
      have Ny354 := Aside0.mk hy354
      clear hy354
      have H' := Aside0.mk H
      clear H
      have p8 : 0 ≤ (x6_1 : Int) := odt
      have q8 : x6_1 < (a0.size : Int) := odt
      have hx8 := bt_at a0 x6_1
      replace p8 := eq_true p8
      replace q8 := eq_true q8
      have p10 : 0 ≤ (x6_1 : Int) := odt
      have q10 : x6_1 < (a0.size : Int) := odt
      have hx10 := bt_at a0 x6_1
      replace p10 := eq_true p10
      replace q10 := eq_true q10
      obtain ⟨Ao21, co21, eo21⟩ := Kd.R_slice HO_4.out
      subst eo21
      go_wp2_with (first | ((with_reducible refine gate_builtin (b := .append) (xs := #[.tmp 42, .tmp 44]) rfl ?_); (try (refine gate_guard (by rfl) ?_; dsimp only)); at_builtin; refine Kd.R_append (Kd.int .i64) (w0 := w) w.heap.size rfl (.tmp 42) (.tmp 44) 39 3 (.int .i64 0) 8 rfl Tryd.underlying39 info3 rfl (by decide) (by omega) (.slice Ao21 x4_1.length co21) x4_1 (wrap64 (Int.tdiv (wrap64 ((wrap64 (128 * x5_1)) + (Int.tmod (wrap64 (bt a0 x6_1)) 128))) 40)) [.int .i64 (wrap64 (Int.tdiv (wrap64 ((wrap64 (128 * x5_1)) + (Int.tmod (wrap64 (bt a0 x6_1)) 128))) 40))] (fun _ => True) (fun _ => False) rfl rfl ?aP (fun _ hk => hk.elim) ?aF ?aO ?aB ?aS ?aL ?_; (case aP => exact rfl); (case aB => exact blw); (case aF => exact (fun _ _ => trivial)); (case aO => exact (roW HO_4.out)); (case aS => exact (below_size blw)); (case aL => have := LMc19.out; omega); intro v352 w22 ho hb hg hat; rw [← Ny351.out] at ho; have n0_ := Aside0.mk (hb); have n1_ := Aside0.mk (ho); clear HB; clear HO_4; have HB := n0_; have HO353 := n1_; clear n0_ n1_; clear ho hb hg hat) | ((with_reducible refine gate_builtin (b := .append) (xs := #[.tmp 50, .tmp 52]) rfl ?_); (try (refine gate_guard (by rfl) ?_; dsimp only)); at_builtin; refine Kd.R_append (Kd.int .i64) (w0 := w) w.heap.size rfl (.tmp 50) (.tmp 52) 39 3 (.int .i64 0) 8 rfl Tryd.underlying39 info3 rfl (by decide) (by omega) v352 y351 (wrap64 ((wrap64 ((wrap64 (128 * x5_1)) + (Int.tmod (wrap64 (bt a0 x6_1)) 128))) - (wrap64 (40 * (wrap64 (Int.tdiv (wrap64 ((wrap64 (128 * x5_1)) + (Int.tmod (wrap64 (bt a0 x6_1)) 128))) 40)))))) [.int .i64 (wrap64 ((wrap64 ((wrap64 (128 * x5_1)) + (Int.tmod (wrap64 (bt a0 x6_1)) 128))) - (wrap64 (40 * (wrap64 (Int.tdiv (wrap64 ((wrap64 (128 * x5_1)) + (Int.tmod (wrap64 (bt a0 x6_1)) 128))) 40))))))] (fun _ => True) (fun _ => False) rfl rfl ?aP (fun _ hk => hk.elim) ?aF ?aO ?aB ?aS ?aL ?_; (case aP => exact rfl); (case aB => exact blw); (case aF => exact (fun _ _ => trivial)); (case aO => exact (roW HO353.out)); (case aS => exact (below_size blw)); (case aL => have := LMc20.out; omega); intro v355 w23 ho hb hg hat; rw [← Ny354.out] at ho; have n0_ := Aside0.mk (hb); have n1_ := Aside0.mk (ho); clear HB; clear HO353; have HB := n0_; have HO356 := n1_; clear n0_ n1_; clear ho hb hg hat))
      go_roundg kj1
      case measure => have := HK1.out; have := HJ1.out; omega
      case rel => exact ⟨(y354), (0), (wrap64 (x6_1 + 1)), rsd, rsd, H', ⟨by have := HK1.out; have := HJ1.out; omega⟩, ⟨roW HO356.out⟩, ⟨blw⟩⟩
     rw [if_pos c13] at H
     have c13b0 : decide (2 < (wrap64 (Int.tdiv (wrap64 ((wrap64 (128 * x5_1)) + (Int.tmod (wrap64 (bt a0 x6_1)) 128))) 40))) = true := decide_eq_true c13
     clear c13
     by_cases c14 : x4_1.length < 17592186044416
     case neg =>
      rw [if_neg c14] at H
      exact absurd H (by simp)
     rw [if_pos c14] at H
     have LMc14 := Aside0.mk c14
     clear c14
     obtain ⟨y345, hy345⟩ : ∃ y_ : List Int, y_ = (x4_1 ++ [2]) := ⟨_, rfl⟩
     replace H : (if y345.length < 17592186044416 then (cr17_Decode.l0 kj1 a0 (y345 ++ [wrap64 ((wrap64 ((wrap64 (128 * x5_1)) + (Int.tmod (wrap64 (bt a0 x6_1)) 128))) - 80)]) 0 (wrap64 (x6_1 + 1))) else (none)) = some (r1, r2) := by first | (rw [hy345]; with_reducible exact H) | (have H2_ := (Option.bind_some _ _).symm.trans H; rw [hy345]; with_reducible exact H2_) | (have H2_ := (Option.bind_some _ _).symm.trans H; with_reducible exact H2_) | with_reducible exact H | (rw [hy345]; exact H) | exact H
     have Ny345 := Aside0.mk hy345
     clear hy345
     by_cases c15 : y345.length < 17592186044416
     case neg =>
      rw [if_neg c15] at H
      exact absurd H (by simp)
     rw [if_pos c15] at H
     have LMc15 := Aside0.mk c15
     clear c15
     obtain ⟨y348, hy348⟩ : ∃ y_ : List Int, y_ = (y345 ++ [wrap64 ((wrap64 ((wrap64 (128 * x5_1)) + (Int.tmod (wrap64 (bt a0 x6_1)) 128))) - 80)]) := ⟨_, rfl⟩
     replace H : (cr17_Decode.l0 kj1 a0 y348 0 (wrap64 (x6_1 + 1))) = some (r1, r2) := by first | (rw [hy348]; with_reducible exact H) | (have H2_ := (Option.bind_some _ _).symm.trans H; rw [hy348]; with_reducible exact H2_) | (have H2_ := (Option.bind_some _ _).symm.trans H; with_reducible exact H2_) | with_reducible exact H | (rw [hy348]; exact H) | exact H
     have Ny348 := Aside0.mk hy348
     clear hy348
     have H' := Aside0.mk H
     clear H
     have p8 : 0 ≤ (x6_1 : Int) := odt
     have q8 : x6_1 < (a0.size : Int) := odt
     have hx8 := bt_at a0 x6_1
     replace p8 := eq_true p8
     replace q8 := eq_true q8
     have p10 : 0 ≤ (x6_1 : Int) := odt
     have q10 : x6_1 < (a0.size : Int) := odt
     have hx10 := bt_at a0 x6_1
     replace p10 := eq_true p10
     replace q10 := eq_true q10
     obtain ⟨Ao16, co16, eo16⟩ := Kd.R_slice HO_4.out
     subst eo16
     go_wp2_with (first | ((with_reducible refine gate_builtin (b := .append) (xs := #[.tmp 42, .tmp 44]) rfl ?_); (try (refine gate_guard (by rfl) ?_; dsimp only)); at_builtin; refine Kd.R_append (Kd.int .i64) (w0 := w) w.heap.size rfl (.tmp 42) (.tmp 44) 39 3 (.int .i64 0) 8 rfl Tryd.underlying39 info3 rfl (by decide) (by omega) (.slice Ao16 x4_1.length co16) x4_1 2 [.int .i64 2] (fun _ => True) (fun _ => False) rfl rfl ?aP (fun _ hk => hk.elim) ?aF ?aO ?aB ?aS ?aL ?_; (case aP => exact rfl); (case aB => exact blw); (case aF => exact (fun _ _ => trivial)); (case aO => exact (roW HO_4.out)); (case aS => exact (below_size blw)); (case aL => have := LMc14.out; omega); intro v346 w17 ho hb hg hat; rw [← Ny345.out] at ho; have n0_ := Aside0.mk (hb); have n1_ := Aside0.mk (ho); clear HB; clear HO_4; have HB := n0_; have HO347 := n1_; clear n0_ n1_; clear ho hb hg hat) | ((with_reducible refine gate_builtin (b := .append) (xs := #[.tmp 50, .tmp 52]) rfl ?_); (try (refine gate_guard (by rfl) ?_; dsimp only)); at_builtin; refine Kd.R_append (Kd.int .i64) (w0 := w) w.heap.size rfl (.tmp 50) (.tmp 52) 39 3 (.int .i64 0) 8 rfl Tryd.underlying39 info3 rfl (by decide) (by omega) v346 y345 (wrap64 ((wrap64 ((wrap64 (128 * x5_1)) + (Int.tmod (wrap64 (bt a0 x6_1)) 128))) - 80)) [.int .i64 (wrap64 ((wrap64 ((wrap64 (128 * x5_1)) + (Int.tmod (wrap64 (bt a0 x6_1)) 128))) - 80))] (fun _ => True) (fun _ => False) rfl rfl ?aP (fun _ hk => hk.elim) ?aF ?aO ?aB ?aS ?aL ?_; (case aP => exact rfl); (case aB => exact blw); (case aF => exact (fun _ _ => trivial)); (case aO => exact (roW HO347.out)); (case aS => exact (below_size blw)); (case aL => have := LMc15.out; omega); intro v349 w18 ho hb hg hat; rw [← Ny348.out] at ho; have n0_ := Aside0.mk (hb); have n1_ := Aside0.mk (ho); clear HB; clear HO347; have HB := n0_; have HO350 := n1_; clear n0_ n1_; clear ho hb hg hat))
     go_roundg kj1
     case measure => have := HK1.out; have := HJ1.out; omega
     case rel => exact ⟨(y348), (0), (wrap64 (x6_1 + 1)), rsd, rsd, H', ⟨by have := HK1.out; have := HJ1.out; omega⟩, ⟨roW HO350.out⟩, ⟨blw⟩⟩

end Go.Proofs.YtcbcojbhbhaimaaDoor.PTreeTells
