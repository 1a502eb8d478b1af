import Derived.Test.YtcbcojbhbhaimaaDoorPTreeTellsx0
namespace Go.Proofs.YtcbcojbhbhaimaaDoor.PTreeTells
open Go.RowKit Go.Proofs.YtcbcojbhbhaimaaDoorW.PrintWords Go.Proofs.YtcbcojbhbhaimaaDoorW.PrintLast Go.Proofs.YtcbcojbhbhaimaaDoorW.PrintMore
attribute [local go_sem high] c_add c_eql c_neq
attribute [local go_sem] f_store_c f_store_f f_add f_toint f_fold_eq f_fold_ne f_fold_lt f_fold_gt f_fold_le f_fold_ge
attribute [local go_sem] str_leq str_gtr str_geq max2_int min2_int max_two min_two max_three min_three max_four min_four   -- for this text's walks alone
set_option linter.unusedVariables false
set_option linter.unusedSimpArgs false

/-! ### oid_numbers: function 69 -/
mutual
def oid_numbers.l0 : Nat → ByteArray → List Int → Int → Bool → Int → Int → Option (List Int × Bool)
 | 0, _, _, _, _, _, _ => none
 | k + 1, x0, x4, x5, x6, x9, x10 => if x10 < x9 then (if x6 = true then (oid_numbers.j1 k x0 x4 x5 x10 x9 x10 (decide (x5 > 2147483647))) else (if 0 ≤ x10 then (if x10 < (x0.size : Int) then (if (bt x0 x10) = 128 then (oid_numbers.j1 k x0 x4 x5 x10 x9 x10 true) else (oid_numbers.j1 k x0 x4 x5 x10 x9 x10 (decide (x5 > 2147483647)))) else (none)) else (none))) else (if x6 = true then (some (x4, false)) else (if (x4.length : Int) > 0 then (some (x4, decide ((x4.length : Int) < 20))) else (some (x4, false))))
def oid_numbers.j1 : Nat → ByteArray → List Int → Int → Int → Int → Int → Bool → Option (List Int × Bool)
 | 0, _, _, _, _, _, _, _ => none
 | k + 1, x0, x4, x5, x7, x9, x10, x24 => if x24 = true then (some (([] : List Int), false)) else (if 0 ≤ x7 then (if x7 < (x0.size : Int) then (if ((bt x0 x7) ≥ 128) then (oid_numbers.l0 k x0 x4 (Go.bits .or .i64 (wrap64 (x5 * 128)) (wrap64 (Go.bits .and .u8 (bt x0 x7) 127))) (decide ((bt x0 x7) ≥ 128)) x9 (wrap64 (x10 + 1))) else (if x4.length < 17592186044416 then (oid_numbers.l0 k x0 (x4 ++ [Go.bits .or .i64 (wrap64 (x5 * 128)) (wrap64 (Go.bits .and .u8 (bt x0 x7) 127))]) 0 (decide ((bt x0 x7) ≥ 128)) x9 (wrap64 (x10 + 1))) else (none))) else (none)) else (none))
end
def oid_numbers.f (k : Nat) (a0 : ByteArray) : Option (List Int × Bool) := oid_numbers.l0 k a0 ([] : List Int) 0 false (a0.size : Int) 0
theorem oid_numbers.mono_l : ∀ k, (∀ y0 y1 y2 y3 y4 y5, LeO (oid_numbers.l0 k y0 y1 y2 y3 y4 y5) (oid_numbers.l0 (k + 1) y0 y1 y2 y3 y4 y5)) ∧ (∀ y0 y1 y2 y3 y4 y5 y6, LeO (oid_numbers.j1 k y0 y1 y2 y3 y4 y5 y6) (oid_numbers.j1 (k + 1) y0 y1 y2 y3 y4 y5 y6))
 | 0 => ⟨fun _ _ _ _ _ _ r h => by simp [oid_numbers.l0] at h, fun _ _ _ _ _ _ _ r h => by simp [oid_numbers.j1] at h⟩
 | k + 1 => by
  obtain ⟨ih0, ih1⟩ := oid_numbers.mono_l k
  refine ⟨?_, ?_⟩ <;> intros <;> first | unfold oid_numbers.l0 | unfold oid_numbers.j1
  all_goals repeat' first
  | (with_reducible first | exact ih0 _ _ _ _ _ _ | exact ih1 _ _ _ _ _ _ _ | exact LeO.refl _ | exact LeO.none _ | refine LeO.ite ?_ ?_ | refine LeO.bind ?_ (fun _ => ?_))
  | exact ih0 _ _ _ _ _ _
  | exact ih1 _ _ _ _ _ _ _
  | exact LeO.none _
  | refine LeO.ite ?_ ?_
  | refine LeO.bind ?_ (fun _ => ?_)
theorem oid_numbers.mono : ∀ a0 k, LeO (oid_numbers.f k a0) (oid_numbers.f (k + 1) a0) := by
 intro a0 k
 obtain ⟨ih0, ih1⟩ := oid_numbers.mono_l k
 unfold oid_numbers.f
 repeat' first
  | (with_reducible first | exact ih0 _ _ _ _ _ _ | exact ih1 _ _ _ _ _ _ _ | exact LeO.refl _ | exact LeO.none _ | refine LeO.ite ?_ ?_ | refine LeO.bind ?_ (fun _ => ?_))
  | exact ih0 _ _ _ _ _ _
  | exact ih1 _ _ _ _ _ _ _
  | exact LeO.none _
  | refine LeO.ite ?_ ?_
  | refine LeO.bind ?_ (fun _ => ?_)
set_option maxHeartbeats 8000000 in
set_option maxRecDepth 100000 in
theorem oid_numbers.calls (k : Nat) (a0 : ByteArray) (r1 : List Int) (r2 : Bool) (w : World) (h : oid_numbers.f k a0 = some (r1, r2)) :
 Calls Tryd.prog 69 #[.string a0] w fun e w' => ∃ v0_ : Value, e = .returned (.tuple #[v0_, .bool r2]) ∧ Kd.R (Kd.int .i64) 3 w' w.heap.size (fun _ => True) v0_ r1 ∧ Below w.heap.size w w' := by
 have HB := Aside0.mk (Below.refl w.heap.size w)
 have H : (oid_numbers.l0 k a0 ([] : List Int) 0 false (a0.size : Int) 0) = some (r1, r2) := h
 clear h
 have H' := Aside0.mk H
 clear H
 go_enter Tryd.func69, Tryd.ntmps69
 go_wp2
 go_loopg [4, 5, 6, 10] k (fun kq v4 v5 v6 v10 w' => ∃ (x4_1 : List Int) (x5_1 : Int) (x6_1 : Bool) (x10_1 : Int), v5 = .int .i64 x5_1 ∧ v6 = .bool x6_1 ∧ v10 = .int .i64 x10_1 ∧ Aside0 (oid_numbers.l0 kq a0 x4_1 x5_1 x6_1 (a0.size : Int) x10_1 = some (r1, r2)) ∧ Aside0 (kq ≤ k) ∧ Aside0 (Kd.R (Kd.int .i64) 3 w' w.heap.size (fun _ => True) v4 x4_1) ∧ Aside0 (Below w.heap.size w w'))
 case atStart => exact ⟨(([] : List Int)), (0), (false), (0), rsd, rsd, rsd, H', ⟨Nat.le_refl _⟩, ⟨by first | exact Kd.R_nil _ _ _ _ _ | exact Kd.N_nil _ _ _ _ _ | exact Kd.V_nil _ _ _ _ _ | exact Kd.Q_nil _ _ _ _ _ | exact Kd.S_nil _ _ _ _ _⟩, ⟨blw⟩⟩
 case round =>
  clear H'
  obtain ⟨x4_1, x5_1, x6_1, x10_1, rfl, rfl, rfl, HA, HK1, HO_4, HB⟩ := hrel
  cases gk with
  | zero => exact absurd HA.out (by simp [oid_numbers.l0])
  | succ k1 =>
   have H := HA.out
   clear HA
   simp only [oid_numbers.l0] at H
   by_cases c2 : x10_1 < (a0.size : Int)
   case neg =>
    rw [if_neg c2] at H
    have c2b0 : decide (x10_1 < (a0.size : Int)) = false := decide_eq_false c2
    clear c2
    by_cases c17 : x6_1 = true
    case pos =>
     subst c17
     have H1 : (some (x4_1, false)) = some (r1, r2) := by rw [if_pos rfl] at H; exact H
     clear H
     have H := H1
     clear H1
     simp only [Option.some.injEq, Prod.mk.injEq] at H
     obtain ⟨rfl, rfl⟩ := H
     go_wp2
     go_ret2
     exact ⟨_, rse, roW HO_4.out, blw⟩
    replace c17 := Bool.eq_false_iff.mpr c17
    subst c17
    have H1 : (if (x4_1.length : Int) > 0 then (some (x4_1, decide ((x4_1.length : Int) < 20))) else (some (x4_1, false))) = some (r1, r2) := by rw [if_neg (show ¬ (false = true) by decide)] at H; exact H
    clear H
    have H := H1
    clear H1
    by_cases c18 : (x4_1.length : Int) > 0
    case neg =>
     rw [if_neg c18] at H
     have c18b0 : decide (0 < (x4_1.length : Int)) = false := decide_eq_false c18
     have c18b1 : decide (0 < x4_1.length) = false := decide_eq_false (by omega)
     clear c18
     simp only [Option.some.injEq, Prod.mk.injEq] at H
     obtain ⟨rfl, rfl⟩ := H
     obtain ⟨Ao20, co20, eo20⟩ := Kd.R_slice HO_4.out
     subst eo20
     go_wp2
     go_ret2
     exact ⟨_, rse, roW HO_4.out, blw⟩
    rw [if_pos c18] at H
    have c18b0 : decide (0 < (x4_1.length : Int)) = true := decide_eq_true c18
    have c18b1 : decide (0 < x4_1.length) = true := decide_eq_true (by omega)
    clear c18
    simp only [Option.some.injEq, Prod.mk.injEq] at H
    obtain ⟨rfl, rfl⟩ := H
    obtain ⟨Ao19, co19, eo19⟩ := Kd.R_slice HO_4.out
    subst eo19
    go_wp2
    go_ret2
    exact ⟨_, rse, roW HO_4.out, blw⟩
   rw [if_pos c2] at H
   have c2b0 : decide (x10_1 < (a0.size : Int)) = true := decide_eq_true c2
   clear c2
   have HC3 := Aside0.mk H
   clear H
   go_upto_region 6 with (fail)
   go_cut [24] (fun v24 wc => ∃ (kq : Nat) (x24_2 : Bool), v24 = .bool x24_2 ∧ Aside0 (oid_numbers.j1 kq a0 x4_1 x5_1 x10_1 (a0.size : Int) x10_1 x24_2 = some (r1, r2)) ∧ Aside0 (kq ≤ k1) ∧ Aside0 (Kd.R (Kd.int .i64) 3 wc w.heap.size (fun _ => True) u4 x4_1) ∧ Aside0 (Below w.heap.size w wc))
   case first =>
    have H := HC3.out
    clear HC3
    by_cases c4 : x6_1 = true
    case pos =>
     subst c4
     have H1 : (oid_numbers.j1 k1 a0 x4_1 x5_1 x10_1 (a0.size : Int) x10_1 (decide (x5_1 > 2147483647))) = some (r1, r2) := by rw [if_pos rfl] at H; exact H
     clear H
     have H := H1
     clear H1
     have H' := Aside0.mk H
     clear H
     go_wp2
     go_meet
     case rel => exact ⟨_, (decide (x5_1 > 2147483647)), rsd, H', ⟨by have := HK1.out; first | omega | exact Nat.le_refl _⟩, ⟨roW HO_4.out⟩, ⟨blw⟩⟩
    replace c4 := Bool.eq_false_iff.mpr c4
    subst c4
    have H1 : (if 0 ≤ x10_1 then (if x10_1 < (a0.size : Int) then (if (bt a0 x10_1) = 128 then (oid_numbers.j1 k1 a0 x4_1 x5_1 x10_1 (a0.size : Int) x10_1 true) else (oid_numbers.j1 k1 a0 x4_1 x5_1 x10_1 (a0.size : Int) x10_1 (decide (x5_1 > 2147483647)))) else (none)) else (none)) = some (r1, r2) := by rw [if_neg (show ¬ (false = true) by decide)] at H; exact H
    clear H
    have H := H1
    clear H1
    by_cases c5 : 0 ≤ x10_1
    case neg =>
     rw [if_neg c5] at H
     exact absurd H (by simp)
    rw [if_pos c5] at H
    have c5b0 : decide (0 ≤ x10_1) = true := decide_eq_true c5
    clear c5
    (first | rw [c5b0] | (simp only [i64_w, i32_w]; rw [c5b0]) | rw [c5b1] | skip)
    by_cases c6 : x10_1 < (a0.size : Int)
    case neg =>
     rw [if_neg c6] at H
     exact absurd H (by simp)
    rw [if_pos c6] at H
    have c6b0 : decide (x10_1 < (a0.size : Int)) = true := decide_eq_true c6
    clear c6
    by_cases c8 : (bt a0 x10_1) = 128
    case neg =>
     rw [if_neg c8] at H
     have c8b0 : ((bt a0 x10_1) == 128) = false := beq_eq_false_iff_ne.mpr c8
     have c8b1 : ((bt a0 x10_1) != 128) = true := bne_iff_ne.mpr c8
     have H' := Aside0.mk H
     clear H
     have p7 : 0 ≤ (x10_1 : Int) := odt
     have q7 : x10_1 < (a0.size : Int) := odt
     have hx7 := bt_at a0 x10_1
     replace p7 := eq_true p7
     replace q7 := eq_true q7
     go_wp2
     go_meet
     case rel => exact ⟨_, (decide (x5_1 > 2147483647)), rsd, H', ⟨by have := HK1.out; first | omega | exact Nat.le_refl _⟩, ⟨roW HO_4.out⟩, ⟨blw⟩⟩
    rw [if_pos c8] at H
    have c8b0 : ((bt a0 x10_1) == 128) = true := beq_iff_eq.mpr c8
    have c8b1 : ((bt a0 x10_1) != 128) = false := bne_eq_false_iff_eq.mpr c8
    clear c8
    have H' := Aside0.mk H
    clear H
    have p7 : 0 ≤ (x10_1 : Int) := odt
    have q7 : x10_1 < (a0.size : Int) := odt
    have hx7 := bt_at a0 x10_1
    replace p7 := eq_true p7
    replace q7 := eq_true q7
    go_wp2
    go_meet
    case rel => exact ⟨_, (true), rsd, H', ⟨by have := HK1.out; first | omega | exact Nat.le_refl _⟩, ⟨roW HO_4.out⟩, ⟨blw⟩⟩
   case rest =>
    clear HC3
    try clear c2
    try clear c2b0
    try clear c4
    try clear c5
    try clear c5b0
    try clear c5b1
    try clear c6
    try clear c6b0
    try clear p7
    try clear q7
    try clear hx7
    try clear c8
    try clear c8b0
    try clear c8b1
    try clear p7
    try clear q7
    obtain ⟨kq, x24_2, rfl, HA, HJ2, HO_4, HB⟩ := hcut
    cases kq with
    | zero => exact absurd HA.out (by simp [oid_numbers.j1])
    | succ kj2 =>
     have H := HA.out
     clear HA
     simp only [oid_numbers.j1] at H
     by_cases c9 : x24_2 = true
     case pos =>
      subst c9
      have H1 : (some (([] : List Int), false)) = some (r1, r2) := by rw [if_pos rfl] at H; exact H
      clear H
      have H := H1
      clear H1
      simp only [Option.some.injEq, Prod.mk.injEq] at H
      obtain ⟨rfl, rfl⟩ := H
      go_wp2
      go_ret2
      exact ⟨_, rse, by first | exact Kd.R_nil _ _ _ _ _ | exact Kd.N_nil _ _ _ _ _ | exact Kd.V_nil _ _ _ _ _ | exact Kd.Q_nil _ _ _ _ _ | exact Kd.S_nil _ _ _ _ _, blw⟩
     replace c9 := Bool.eq_false_iff.mpr c9
     subst c9
     have H1 : (if 0 ≤ x10_1 then (if x10_1 < (a0.size : Int) then (if ((bt a0 x10_1) ≥ 128) then (oid_numbers.l0 kj2 a0 x4_1 (Go.bits .or .i64 (wrap64 (x5_1 * 128)) (wrap64 (Go.bits .and .u8 (bt a0 x10_1) 127))) (decide ((bt a0 x10_1) ≥ 128)) (a0.size : Int) (wrap64 (x10_1 + 1))) else (if x4_1.length < 17592186044416 then (oid_numbers.l0 kj2 a0 (x4_1 ++ [Go.bits .or .i64 (wrap64 (x5_1 * 128)) (wrap64 (Go.bits .and .u8 (bt a0 x10_1) 127))]) 0 (decide ((bt a0 x10_1) ≥ 128)) (a0.size : Int) (wrap64 (x10_1 + 1))) else (none))) else (none)) else (none)) = some (r1, r2) := by rw [if_neg (show ¬ (false = true) by decide)] at H; exact H
     clear H
     have H := H1
     clear H1
     by_cases c10 : 0 ≤ x10_1
     case neg =>
      rw [if_neg c10] at H
      exact absurd H (by simp)
     rw [if_pos c10] at H
     have c10b0 : decide (0 ≤ x10_1) = true := decide_eq_true c10
     clear c10
     by_cases c11 : x10_1 < (a0.size : Int)
     case neg =>
      rw [if_neg c11] at H
      exact absurd H (by simp)
     rw [if_pos c11] at H
     have c11b0 : decide (x10_1 < (a0.size : Int)) = true := decide_eq_true c11
     clear c11
     by_cases c14 : ((bt a0 x10_1) ≥ 128)
     case pos =>
      rw [if_pos c14] at H
      have c14b0 : decide (128 ≤ (bt a0 x10_1)) = true := decide_eq_true c14
      clear c14
      have H' := Aside0.mk H
      clear H
      have p12 : 0 ≤ (x10_1 : Int) := odt
      have q12 : x10_1 < (a0.size : Int) := odt
      have hx12 := bt_at a0 x10_1
      replace p12 := eq_true p12
      replace q12 := eq_true q12
      have p13 : 0 ≤ (x10_1 : Int) := odt
      have q13 : x10_1 < (a0.size : Int) := odt
      have hx13 := bt_at a0 x10_1
      replace p13 := eq_true p13
      replace q13 := eq_true q13
      go_wp2
      go_roundg kj2
      case measure => have := HK1.out; have := HJ2.out; omega
      case rel => exact ⟨(x4_1), (Go.bits .or .i64 (wrap64 (x5_1 * 128)) (wrap64 (Go.bits .and .u8 (bt a0 x10_1) 127))), (decide ((bt a0 x10_1) ≥ 128)), (wrap64 (x10_1 + 1)), rsd, rsd, rsd, H', ⟨by have := HK1.out; have := HJ2.out; omega⟩, ⟨roW HO_4.out⟩, ⟨blw⟩⟩
     rw [if_neg c14] at H
     have c14b0 : decide (128 ≤ (bt a0 x10_1)) = false := decide_eq_false c14
     clear c14
     by_cases c15 : x4_1.length < 17592186044416
     case neg =>
      rw [if_neg c15] at H
      exact absurd H (by simp)
     rw [if_pos c15] at H
     have LMc15 := Aside0.mk c15
     clear c15
     obtain ⟨y103, hy103⟩ : ∃ y_ : List Int, y_ = (x4_1 ++ [Go.bits .or .i64 (wrap64 (x5_1 * 128)) (wrap64 (Go.bits .and .u8 (bt a0 x10_1) 127))]) := ⟨_, rfl⟩
     replace H : (oid_numbers.l0 kj2 a0 y103 0 (decide ((bt a0 x10_1) ≥ 128)) (a0.size : Int) (wrap64 (x10_1 + 1))) = some (r1, r2) := by first | (rw [hy103]; with_reducible exact H) | (have H2_ := (Option.bind_some _ _).symm.trans H; rw [hy103]; with_reducible exact H2_) | (have H2_ := (Option.bind_some _ _).symm.trans H; with_reducible exact H2_) | with_reducible exact H | (rw [hy103]; exact H) | exact H
     have Ny103 := Aside0.mk hy103
     clear hy103
     have H' := Aside0.mk H
     clear H
     have p12 : 0 ≤ (x10_1 : Int) := odt
     have q12 : x10_1 < (a0.size : Int) := odt
     have hx12 := bt_at a0 x10_1
     replace p12 := eq_true p12
     replace q12 := eq_true q12
     have p13 : 0 ≤ (x10_1 : Int) := odt
     have q13 : x10_1 < (a0.size : Int) := odt
     have hx13 := bt_at a0 x10_1
     replace p13 := eq_true p13
     replace q13 := eq_true q13
     go_wp2_with (first | ((with_reducible refine gate_builtin (b := .append) (xs := #[.tmp 39, .tmp 41]) rfl ?_); (try (refine gate_guard (by rfl) ?_; dsimp only)); at_builtin; refine Kd.R_append (Kd.int .i64) (w0 := w) w.heap.size rfl (.tmp 39) (.tmp 41) 39 3 (.int .i64 0) 8 rfl Tryd.underlying39 info3 rfl (by decide) (by omega) u4 x4_1 (Go.bits .or .i64 (wrap64 (x5_1 * 128)) (wrap64 (Go.bits .and .u8 (bt a0 x10_1) 127))) [.int .i64 (Go.bits .or .i64 (wrap64 (x5_1 * 128)) (wrap64 (Go.bits .and .u8 (bt a0 x10_1) 127)))] (fun _ => True) (fun _ => False) rfl rfl ?aP (fun _ hk => hk.elim) ?aF ?aO ?aB ?aS ?aL ?_; (case aP => exact rfl); (case aB => exact blw); (case aF => exact (fun _ _ => trivial)); (case aO => exact (roW HO_4.out)); (case aS => exact (below_size blw)); (case aL => have := LMc15.out; omega); intro v104 w16 ho hb hg hat; rw [← Ny103.out] at ho; have n0_ := Aside0.mk (hb); have n1_ := Aside0.mk (ho); clear HB; clear HO_4; have HB := n0_; have HO105 := n1_; clear n0_ n1_; clear ho hb hg hat))
     go_roundg kj2
     case measure => have := HK1.out; have := HJ2.out; omega
     case rel => exact ⟨(y103), (0), (decide ((bt a0 x10_1) ≥ 128)), (wrap64 (x10_1 + 1)), rsd, rsd, rsd, H', ⟨by have := HK1.out; have := HJ2.out; omega⟩, ⟨roW HO105.out⟩, ⟨blw⟩⟩

/-! ### oid_most: function 79 -/
def oid_most.f (l0 : List Int) (a1 : Int) : Option (Int) := if a1 = 0 then (some 2) else (if a1 > 1 then (some 2147483647) else (if 0 < (l0.length : Int) then (if (rd l0 0) < 2 then (some 39) else (some 2147483567)) else (none)))
set_option maxHeartbeats 8000000 in
set_option maxRecDepth 100000 in
theorem oid_most.calls (A0 : Option Addr) (c0 : Nat) (l0 : List Int) (a1 : Int) (r : Int) (w : World) (hr0 : Kd.C (Kd.int .i64) w A0 l0.length l0) (hc0 : l0.length ≤ c0) (h : oid_most.f l0 a1 = some r) :
 Calls Tryd.prog 79 #[.slice A0 l0.length c0, .int .i64 a1] w fun e w' => e = .returned (.int .i64 r) ∧ Drawn0 w w' := by
 have HR0 := Aside0.mk hr0
 have HC0 := Aside0.mk hc0
 clear hr0 hc0
 have H : (if a1 = 0 then (some 2) else (if a1 > 1 then (some 2147483647) else (if 0 < (l0.length : Int) then (if (rd l0 0) < 2 then (some 39) else (some 2147483567)) else (none)))) = some r := h
 clear h
 by_cases c3 : a1 = 0
 case pos =>
  rw [if_pos c3] at H
  have c3b0 : (a1 == 0) = true := beq_iff_eq.mpr c3
  have c3b1 : (a1 != 0) = false := bne_eq_false_iff_eq.mpr c3
  clear c3
  obtain rfl := Option.some.inj H
  go_enter Tryd.func79, Tryd.ntmps79
  go_wp2
  go_ret
  exact ⟨rsd, drw⟩
 rw [if_neg c3] at H
 have c3b0 : (a1 == 0) = false := beq_eq_false_iff_ne.mpr c3
 have c3b1 : (a1 != 0) = true := bne_iff_ne.mpr c3
 by_cases c4 : a1 > 1
 case pos =>
  rw [if_pos c4] at H
  have c4b0 : decide (1 < a1) = true := decide_eq_true c4
  clear c4
  obtain rfl := Option.some.inj H
  go_enter Tryd.func79, Tryd.ntmps79
  go_wp2
  go_ret
  exact ⟨rsd, drw⟩
 rw [if_neg c4] at H
 have c4b0 : decide (1 < a1) = false := decide_eq_false c4
 clear c4
 by_cases c5 : 0 < (l0.length : Int)
 case neg =>
  rw [if_neg c5] at H
  exact absurd H (by simp)
 rw [if_pos c5] at H
 have c5b0 : decide (0 < (l0.length : Int)) = true := decide_eq_true c5
 have c5b1 : decide (0 < l0.length) = true := decide_eq_true (by omega)
 clear c5
 by_cases c6 : (rd l0 0) < 2
 case neg =>
  rw [if_neg c6] at H
  have c6b0 : decide ((rd l0 0) < 2) = false := decide_eq_false c6
  clear c6
  obtain rfl := Option.some.inj H
  have p106 : 0 ≤ (0 : Int) := (by omega)
  have q106 : 0 < (l0.length : Int) := odt
  obtain ⟨ad106, e106, hx106_0⟩ := Kd.at_int HR0.out 0 p106 q106
  cases e106
  have qi106 : (0 < l0.length) = True := eq_true (by omega)
  (try rw [show ((0 : Int)).toNat = 0 from rfl] at hx106_0)
  (try rw [Addr.add_zero'] at hx106_0)
  replace p106 := eq_true p106
  replace q106 := eq_true q106
  go_enter Tryd.func79, Tryd.ntmps79
  go_wp2
  go_ret
  exact ⟨rsd, drw⟩
 rw [if_pos c6] at H
 have c6b0 : decide ((rd l0 0) < 2) = true := decide_eq_true c6
 clear c6
 obtain rfl := Option.some.inj H
 have p106 : 0 ≤ (0 : Int) := (by omega)
 have q106 : 0 < (l0.length : Int) := odt
 obtain ⟨ad106, e106, hx106_0⟩ := Kd.at_int HR0.out 0 p106 q106
 cases e106
 have qi106 : (0 < l0.length) = True := eq_true (by omega)
 (try rw [show ((0 : Int)).toNat = 0 from rfl] at hx106_0)
 (try rw [Addr.add_zero'] at hx106_0)
 replace p106 := eq_true p106
 replace q106 := eq_true q106
 go_enter Tryd.func79, Tryd.ntmps79
 go_wp2
 go_ret
 exact ⟨rsd, drw⟩

/-! ### oid_Right: function 70 -/
mutual
def oid_Right.j0 : Nat → List Int → Bool → Option (Bool)
 | 0, _, _ => none
 | k + 1, x0, x12 => if x12 = true then (some false) else (oid_Right.l0 k x0 x0 (x0.length : Int) 0)
def oid_Right.l0 : Nat → List Int → List Int → Int → Int → Option (Bool)
 | 0, _, _, _, _ => none
 | k + 1, x0, x13, x14, x15 => if x15 < x14 then (if 0 ≤ x15 then (if x15 < (x13.length : Int) then (if (rd x13 x15) < 0 then (some false) else ((oid_most.f x0 x15).bind fun t108 => (if (rd x13 x15) > t108 then (some false) else (oid_Right.l0 k x0 x13 x14 (wrap64 (x15 + 1)))))) else (none)) else (none)) else (some true)
end
def oid_Right.f (k : Nat) (l0 : List Int) : Option (Bool) := if (l0.length : Int) < 2 then (oid_Right.j0 k l0 true) else (oid_Right.j0 k l0 (decide ((l0.length : Int) > 20)))
theorem oid_Right.mono_l : ∀ k, (∀ y0 y1, LeO (oid_Right.j0 k y0 y1) (oid_Right.j0 (k + 1) y0 y1)) ∧ (∀ y0 y1 y2 y3, LeO (oid_Right.l0 k y0 y1 y2 y3) (oid_Right.l0 (k + 1) y0 y1 y2 y3))
 | 0 => ⟨fun _ _ r h => by simp [oid_Right.j0] at h, fun _ _ _ _ r h => by simp [oid_Right.l0] at h⟩
 | k + 1 => by
  obtain ⟨ih0, ih1⟩ := oid_Right.mono_l k
  refine ⟨?_, ?_⟩ <;> intros <;> first | unfold oid_Right.j0 | unfold oid_Right.l0
  all_goals repeat' first
  | (with_reducible first | exact ih0 _ _ | exact ih1 _ _ _ _ | exact LeO.refl _ | exact LeO.none _ | refine LeO.ite ?_ ?_ | refine LeO.bind ?_ (fun _ => ?_))
  | exact ih0 _ _
  | exact ih1 _ _ _ _
  | exact LeO.none _
  | refine LeO.ite ?_ ?_
  | refine LeO.bind ?_ (fun _ => ?_)
theorem oid_Right.mono : ∀ a0 k, LeO (oid_Right.f k a0) (oid_Right.f (k + 1) a0) := by
 intro a0 k
 obtain ⟨ih0, ih1⟩ := oid_Right.mono_l k
 unfold oid_Right.f
 repeat' first
  | (with_reducible first | exact ih0 _ _ | exact ih1 _ _ _ _ | exact LeO.refl _ | exact LeO.none _ | refine LeO.ite ?_ ?_ | refine LeO.bind ?_ (fun _ => ?_))
  | exact ih0 _ _
  | exact ih1 _ _ _ _
  | exact LeO.none _
  | refine LeO.ite ?_ ?_
  | refine LeO.bind ?_ (fun _ => ?_)
set_option maxHeartbeats 8000000 in
set_option maxRecDepth 100000 in
theorem oid_Right.calls (k : Nat) (A0 : Option Addr) (c0 : Nat) (l0 : List Int) (r : Bool) (w : World) (hr0 : Kd.C (Kd.int .i64) w A0 l0.length l0) (hc0 : l0.length ≤ c0) (h : oid_Right.f k l0 = some r) :
 Calls Tryd.prog 70 #[.slice A0 l0.length c0] w fun e w' => e = .returned (.bool r) ∧ Drawn0 w w' := by
 have HR0 := Aside0.mk hr0
 have HC0 := Aside0.mk hc0
 clear hr0 hc0
 have H : (if (l0.length : Int) < 2 then (oid_Right.j0 k l0 true) else (oid_Right.j0 k l0 (decide ((l0.length : Int) > 20)))) = some r := h
 clear h
 have HC2 := Aside0.mk H
 clear H
 go_enter Tryd.func70, Tryd.ntmps70
 go_upto_region 1 with (fail)
 go_cut [12] (fun v12 wc => ∃ (kq : Nat) (x12_1 : Bool), v12 = .bool x12_1 ∧ Aside0 (oid_Right.j0 kq l0 x12_1 = some r) ∧ Aside0 (kq ≤ k) ∧ Drawn0 w wc)
 case first =>
  have H := HC2.out
  clear HC2
  by_cases c3 : (l0.length : Int) < 2
  case neg =>
   rw [if_neg c3] at H
   have c3b0 : decide ((l0.length : Int) < 2) = false := decide_eq_false c3
   have c3b1 : decide (l0.length < 2) = false := decide_eq_false (by omega)
   clear c3
   (first | rw [c3b0] | (simp only [i64_w, i32_w]; rw [c3b0]) | rw [c3b1] | skip)
   have H' := Aside0.mk H
   clear H
   go_wp2
   go_meet
   case rel => exact ⟨_, (decide ((l0.length : Int) > 20)), rsd, H', ⟨by first | omega | exact Nat.le_refl _⟩, drw⟩
  rw [if_pos c3] at H
  have c3b0 : decide ((l0.length : Int) < 2) = true := decide_eq_true c3
  have c3b1 : decide (l0.length < 2) = true := decide_eq_true (by omega)
  clear c3
  (first | rw [c3b0] | (simp only [i64_w, i32_w]; rw [c3b0]) | rw [c3b1] | skip)
  have H' := Aside0.mk H
  clear H
  go_wp2
  go_meet
  case rel => exact ⟨_, (true), rsd, H', ⟨by first | omega | exact Nat.le_refl _⟩, drw⟩
 case rest =>
  clear HC2
  try clear c3
  try clear c3b0
  try clear c3b1
  obtain ⟨kq, x12_1, rfl, HA, HJ1, ⟨mc1, rfl⟩⟩ := hcut
  cases kq with
  | zero => exact absurd HA.out (by simp [oid_Right.j0])
  | succ kj1 =>
   have H := HA.out
   clear HA
   simp only [oid_Right.j0] at H
   by_cases c4 : x12_1 = true
   case pos =>
    subst c4
    have H1 : (some false) = some r := by rw [if_pos rfl] at H; exact H
    clear H
    have H := H1
    clear H1
    obtain rfl := Option.some.inj H
    go_wp2
    go_ret
    exact ⟨rsd, drw⟩
   replace c4 := Bool.eq_false_iff.mpr c4
   subst c4
   have H1 : (oid_Right.l0 kj1 l0 l0 (l0.length : Int) 0) = some r := by rw [if_neg (show ¬ (false = true) by decide)] at H; exact H
   clear H
   have H := H1
   clear H1
   have H' := Aside0.mk H
   clear H
   go_wp2
   go_loopg [15] kj1 (fun kq v15 w' => ∃ (x15_2 : Int), v15 = .int .i64 x15_2 ∧ Aside0 (oid_Right.l0 kq l0 l0 (l0.length : Int) x15_2 = some r) ∧ Aside0 (kq ≤ kj1) ∧ Drawn0 w w')
   case atStart => exact ⟨(0), rsd, H', ⟨Nat.le_refl _⟩, drw⟩
   case round =>
    clear H'
    try clear c3
    try clear c3b0
    try clear c3b1
    try clear c4
    obtain ⟨x15_2, rfl, HA, HK2, ⟨m2, rfl⟩⟩ := hrel
    cases gk with
    | zero => exact absurd HA.out (by simp [oid_Right.l0])
    | succ k2 =>
     have H := HA.out
     clear HA
     simp only [oid_Right.l0] at H
     by_cases c5 : x15_2 < (l0.length : Int)
     case neg =>
      rw [if_neg c5] at H
      have c5b0 : decide (x15_2 < (l0.length : Int)) = false := decide_eq_false c5
      clear c5
      obtain rfl := Option.some.inj H
      go_wp2
      go_ret
      exact ⟨rsd, drw⟩
     rw [if_pos c5] at H
     have c5b0 : decide (x15_2 < (l0.length : Int)) = true := decide_eq_true c5
     clear c5
     by_cases c6 : 0 ≤ x15_2
     case neg =>
      rw [if_neg c6] at H
      exact absurd H (by simp)
     rw [if_pos c6] at H
     have c6b0 : decide (0 ≤ x15_2) = true := decide_eq_true c6
     clear c6
     by_cases c7 : x15_2 < (l0.length : Int)
     case neg =>
      rw [if_neg c7] at H
      exact absurd H (by simp)
     rw [if_pos c7] at H
     have c7b0 : decide (x15_2 < (l0.length : Int)) = true := decide_eq_true c7
     clear c7
     by_cases c8 : (rd l0 x15_2) < 0
     case pos =>
      rw [if_pos c8] at H
      have c8b0 : decide ((rd l0 x15_2) < 0) = true := decide_eq_true c8
      clear c8
      obtain rfl := Option.some.inj H
      have p107 : 0 ≤ (x15_2 : Int) := odt
      have q107 : x15_2 < (l0.length : Int) := odt
      obtain ⟨ad107, e107, hx107_0⟩ := Kd.at_int HR0.out x15_2 p107 q107
      cases e107
      replace p107 := eq_true p107
      replace q107 := eq_true q107
      go_wp2
      go_ret
      exact ⟨rsd, drw⟩
     rw [if_neg c8] at H
     have c8b0 : decide ((rd l0 x15_2) < 0) = false := decide_eq_false c8
     clear c8
     replace H := Option.bind_eq_some_iff.mp H
     obtain ⟨t108, A90, H⟩ := H
     replace H : (if (rd l0 x15_2) > t108 then (some false) else (oid_Right.l0 k2 l0 l0 (l0.length : Int) (wrap64 (x15_2 + 1)))) = some r := H
     have A9 := Aside0.mk A90
     clear A90
     by_cases c10 : (rd l0 x15_2) > t108
     case pos =>
      rw [if_pos c10] at H
      have c10b0 : decide (t108 < (rd l0 x15_2)) = true := decide_eq_true c10
      clear c10
      obtain rfl := Option.some.inj H
      have p107 : 0 ≤ (x15_2 : Int) := odt
      have q107 : x15_2 < (l0.length : Int) := odt
      obtain ⟨ad107, e107, hx107_0⟩ := Kd.at_int HR0.out x15_2 p107 q107
      cases e107
      replace p107 := eq_true p107
      replace q107 := eq_true q107
      go_wp2_with (first | (go_at_call 79; (with_reducible refine (oid_most.calls _ _ l0 x15_2 t108 _ ?side1 ?side2 A9.out).mono ?_); (case side1 => exact kcW HR0.out); (case side2 => exact HC0.out); rintro e w' ⟨rfl, ⟨nd, rfl⟩⟩))
      go_ret
      exact ⟨rsd, drw⟩
     rw [if_neg c10] at H
     have c10b0 : decide (t108 < (rd l0 x15_2)) = false := decide_eq_false c10
     clear c10
     have H' := Aside0.mk H
     clear H
     have p107 : 0 ≤ (x15_2 : Int) := odt
     have q107 : x15_2 < (l0.length : Int) := odt
     obtain ⟨ad107, e107, hx107_0⟩ := Kd.at_int HR0.out x15_2 p107 q107
     cases e107
     replace p107 := eq_true p107
     replace q107 := eq_true q107
     go_wp2_with (first | (go_at_call 79; (with_reducible refine (oid_most.calls _ _ l0 x15_2 t108 _ ?side1 ?side2 A9.out).mono ?_); (case side1 => exact kcW HR0.out); (case side2 => exact HC0.out); rintro e w' ⟨rfl, ⟨nd, rfl⟩⟩))
     go_roundg k2
     case measure => have := HJ1.out; have := HK2.out; omega
     case rel => exact ⟨(wrap64 (x15_2 + 1)), rsd, H', ⟨by have := HJ1.out; have := HK2.out; omega⟩, drw⟩

end Go.Proofs.YtcbcojbhbhaimaaDoor.PTreeTells
