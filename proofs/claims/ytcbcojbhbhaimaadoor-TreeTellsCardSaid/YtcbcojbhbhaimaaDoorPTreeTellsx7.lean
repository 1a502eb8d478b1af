import Derived.Test.YtcbcojbhbhaimaaDoorPTreeTellsx0
import Derived.Test.YtcbcojbhbhaimaaDoorPTreeTellsx6
namespace Go.Proofs.YtcbcojbhbhaimaaDoor.PTreeTells
open Go.RowKit Go.Proofs.YtcbcojbhbhaimaaDoorW.PrintWords Go.Proofs.YtcbcojbhbhaimaaDoorW.PrintLast Go.Proofs.YtcbcojbhbhaimaaDoorW.PrintMore
attribute [local go_sem high] c_add c_eql c_neq
attribute [local go_sem] f_store_c f_store_f f_add f_toint f_fold_eq f_fold_ne f_fold_lt f_fold_gt f_fold_le f_fold_ge
attribute [local go_sem] str_leq str_gtr str_geq max2_int min2_int max_two min_two max_three min_three max_four min_four   -- for this text's walks alone
set_option linter.unusedVariables false
set_option linter.unusedSimpArgs false

/-! ### tree_sizes: function 25 -/
mutual
def tree_sizes.l0 : Nat → List (S41) → List (Nat × Nat) → Int → Option (List (Nat × Nat) × Bool)
 | 0, _, _, _ => none
 | k + 1, x0, x4, x5 => if x5 ≥ 0 then (if 0 ≤ x5 then (if x5 < (x0.length : Int) then (tree_sizes.l1 k x0 x4 x5 (((rd_T41 x0 x5).f3).size : Int) ((rd_T41 x0 x5).f4) (((rd_T41 x0 x5).f4).length : Int) 0) else (none)) else (none)) else (some (x4, true))
def tree_sizes.l1 : Nat → List (S41) → List (Nat × Nat) → Int → Int → List Int → Int → Int → Option (List (Nat × Nat) × Bool)
 | 0, _, _, _, _, _, _, _ => none
 | k + 1, x0, x4, x5, x6, x30, x31, x32 => if x32 < x31 then (if 0 ≤ x32 then (if x32 < (x30.length : Int) then (if 0 ≤ (rd x30 x32) then (if (rd x30 x32) < (x4.length : Int) then (if fok ((rdOf ((0, 0) : Nat × Nat) x4 (rd x30 x32)).1) ((rdOf ((0, 0) : Nat × Nat) x4 (rd x30 x32)).2) = true then (if fiok (fadd ((rdOf ((0, 0) : Nat × Nat) x4 (rd x30 x32)).1) ((rdOf ((0, 0) : Nat × Nat) x4 (rd x30 x32)).2)) = true then (tree_sizes.l1 k x0 x4 x5 (wrap64 (x6 + (fint (fadd ((rdOf ((0, 0) : Nat × Nat) x4 (rd x30 x32)).1) ((rdOf ((0, 0) : Nat × Nat) x4 (rd x30 x32)).2))))) x30 x31 (wrap64 (x32 + 1))) else (none)) else (none)) else (none)) else (none)) else (none)) else (none)) else (if 0 ≤ x5 then (if x5 < (x0.length : Int) then ((head_Size.f k ((rd_T41 x0 x5).f0) ((rd_T41 x0 x5).f1) ((rd_T41 x0 x5).f2) x6).bind fun t212 => (if t212 = 0 then (some (([] : List (Nat × Nat)), false)) else (if (wrap64 (t212 + x6)) > 65535 then (some (([] : List (Nat × Nat)), false)) else (if x5 < (x4.length : Int) then (tree_sizes.l0 k x0 (x4.set (x5 : Int).toNat (floatOfInt .f64 t212, floatOfInt .f64 x6)) (wrap64 (x5 - 1))) else (none))))) else (none)) else (none))
end
def tree_sizes.f (k : Nat) (l0 : List (S41)) : Option (List (Nat × Nat) × Bool) := if 0 ≤ (l0.length : Int) then (if ((l0.length : Int) : Int).toNat ≤ 17592186044416 then (tree_sizes.l0 k l0 (List.replicate ((l0.length : Int) : Int).toNat ((0, 0) : Nat × Nat)) (wrap64 ((l0.length : Int) - 1))) else (none)) else (none)
theorem tree_sizes.mono_l : ∀ k, (∀ y0 y1 y2, LeO (tree_sizes.l0 k y0 y1 y2) (tree_sizes.l0 (k + 1) y0 y1 y2)) ∧ (∀ y0 y1 y2 y3 y4 y5 y6, LeO (tree_sizes.l1 k y0 y1 y2 y3 y4 y5 y6) (tree_sizes.l1 (k + 1) y0 y1 y2 y3 y4 y5 y6))
 | 0 => ⟨fun _ _ _ r h => by simp [tree_sizes.l0] at h, fun _ _ _ _ _ _ _ r h => by simp [tree_sizes.l1] at h⟩
 | k + 1 => by
  obtain ⟨ih0, ih1⟩ := tree_sizes.mono_l k
  refine ⟨?_, ?_⟩ <;> intros <;> first | unfold tree_sizes.l0 | unfold tree_sizes.l1
  all_goals repeat' first
  | (with_reducible first | exact ih0 _ _ _ | exact ih1 _ _ _ _ _ _ _ | exact head_Size.mono _ _ _ _ _ | exact LeO.refl _ | exact LeO.none _ | refine LeO.ite ?_ ?_ | refine LeO.bind ?_ (fun _ => ?_))
  | exact ih0 _ _ _
  | exact ih1 _ _ _ _ _ _ _
  | exact head_Size.mono _ _ _ _ _
  | exact LeO.none _
  | refine LeO.ite ?_ ?_
  | refine LeO.bind ?_ (fun _ => ?_)
theorem tree_sizes.mono : ∀ a0 k, LeO (tree_sizes.f k a0) (tree_sizes.f (k + 1) a0) := by
 intro a0 k
 obtain ⟨ih0, ih1⟩ := tree_sizes.mono_l k
 unfold tree_sizes.f
 repeat' first
  | (with_reducible first | exact ih0 _ _ _ | exact ih1 _ _ _ _ _ _ _ | exact head_Size.mono _ _ _ _ _ | exact LeO.refl _ | exact LeO.none _ | refine LeO.ite ?_ ?_ | refine LeO.bind ?_ (fun _ => ?_))
  | exact ih0 _ _ _
  | exact ih1 _ _ _ _ _ _ _
  | exact head_Size.mono _ _ _ _ _
  | exact LeO.none _
  | refine LeO.ite ?_ ?_
  | refine LeO.bind ?_ (fun _ => ?_)
def tree_sizes.T9 : Bool × List (List Nat × List Nat) := (true, [([], []), ([], []), ([], []), ([1, 2], [1, 2]), ([3], [3]), ([4], [4]), ([], []), ([], []), ([6, 7], [6, 7]), ([8], [8]), ([9], [9]), ([5, 10], [5, 10]), ([11], [11]), ([0, 12], [0, 12]), ([13, 0, 1, 2, 3, 4, 5, 6, 7, 8, 9, 10, 11, 12, 13], [0, 13])])
def tree_sizes.B9 : List Nat := [0, 0, 0, 6, 14, 30, 0, 0, 192, 448, 960, 2046, 4094, 8191, 16383]
theorem tree_sizes.tab9 : rtab .any (opsOf Tryd.f25 9) = tree_sizes.T9 := by kernel_rfl
theorem tree_sizes.bits9 : waitsOk tree_sizes.T9.2 tree_sizes.B9 = true := by kernel_rfl
def tree_sizes.T11 : Bool × List (List Nat × List Nat) := (true, [([], []), ([], []), ([0, 1], [0, 1]), ([2], [2]), ([3], [3]), ([], []), ([], []), ([5, 6], [5, 6]), ([7], [7]), ([8], [8]), ([], []), ([], []), ([10, 11], [10, 11]), ([12], [12]), ([13], [13]), ([], []), ([4, 9, 14, 15], [4, 9, 14, 15]), ([16], [16]), ([17, 17, 0, 1, 2, 3, 4, 5, 6, 7, 8, 9, 10, 11, 12, 13, 14, 15, 16, 17], [17])])
def tree_sizes.B11 : List Nat := [0, 0, 3, 7, 15, 0, 0, 96, 224, 480, 0, 0, 3072, 7168, 15360, 0, 65535, 131071, 262143]
theorem tree_sizes.tab11 : rtab .any (opsOf Tryd.f25 11) = tree_sizes.T11 := by kernel_rfl
theorem tree_sizes.bits11 : waitsOk tree_sizes.T11.2 tree_sizes.B11 = true := by kernel_rfl
set_option maxHeartbeats 8000000 in
set_option maxRecDepth 100000 in
theorem tree_sizes.calls (k : Nat) (A0 : Option Addr) (c0 : Nat) (l0 : List (S41)) (r1 : List (Nat × Nat)) (r2 : Bool) (w : World) (hr0 : Kd.C k41 w A0 l0.length l0) (hc0 : l0.length ≤ c0) (h : tree_sizes.f k l0 = some (r1, r2)) :
 Calls Tryd.prog 25 #[.slice A0 l0.length c0] w fun e w' => ∃ v0_ : Value, e = .returned (.tuple #[v0_, .bool r2]) ∧ Kd.R Kd.cplx 53 w' w.heap.size (fun _ => True) v0_ r1 ∧ Below w.heap.size w w' := by
 have hu55 := Tryd.underlying55
 have HR0 := Aside0.mk hr0
 have HC0 := Aside0.mk hc0
 clear hr0 hc0
 have HB := Aside0.mk (Below.refl w.heap.size w)
 have H : (if 0 ≤ (l0.length : Int) then (if ((l0.length : Int) : Int).toNat ≤ 17592186044416 then (tree_sizes.l0 k l0 (List.replicate ((l0.length : Int) : Int).toNat ((0, 0) : Nat × Nat)) (wrap64 ((l0.length : Int) - 1))) else (none)) else (none)) = some (r1, r2) := h
 clear h
 by_cases c2 : 0 ≤ (l0.length : Int)
 case neg =>
  rw [if_neg c2] at H
  exact absurd H (by simp)
 rw [if_pos c2] at H
 have c2b0 := eq_true c2
 have c2b1 : decide (0 ≤ (l0.length : Int)) = true := decide_eq_true c2
 clear c2
 by_cases c3 : ((l0.length : Int) : Int).toNat ≤ 17592186044416
 case neg =>
  rw [if_neg c3] at H
  exact absurd H (by simp)
 rw [if_pos c3] at H
 have c3b0 := eq_true c3
 have c3b1 : decide (((l0.length : Int) : Int).toNat ≤ 17592186044416) = true := decide_eq_true c3
 clear c3
 obtain ⟨y201, hy201⟩ : ∃ y_ : List (Nat × Nat), y_ = (List.replicate ((l0.length : Int) : Int).toNat ((0, 0) : Nat × Nat)) := ⟨_, rfl⟩
 replace H : (tree_sizes.l0 k l0 y201 (wrap64 ((l0.length : Int) - 1))) = some (r1, r2) := by first | (rw [hy201]; with_reducible exact H) | (have H2_ := (Option.bind_some _ _).symm.trans H; rw [hy201]; with_reducible exact H2_) | (have H2_ := (Option.bind_some _ _).symm.trans H; with_reducible exact H2_) | with_reducible exact H | (rw [hy201]; exact H) | exact H
 have Ny201 := Aside0.mk hy201
 clear hy201
 have H' := Aside0.mk H
 clear H
 go_enter Tryd.func25, Tryd.ntmps25
 go_wp2_with (first | ((with_reducible refine gate_dst (N := 12) rfl ?_); refine Kd.R_make Kd.cplx _ 53 rfl (N := 12) rfl 47 _ _ rfl (l0.length : Int) rfl rfl Tryd.underlying47 (.complex .f64 0 0) 16 info53 rfl (by decide) (by omega) ((0, 0) : Nat × Nat) (ok := fun _ => True) (okp := fun _ => True) rfl (fun _ hk => hk) trivial odt (Nat.le_trans (Nat.mul_le_mul_right _ (odt : (l0.length : Int).toNat ≤ 17592186044416)) (by omega)) (Below.refl _ _) (Nat.le_refl _) ?_; intro v202 w4 ho5 hb hg_ hnew_; clear hg_ hnew_; (first | rw [← Ny201.out] at ho5 | (simp only [Int.reduceToNat] at ho5; rw [← Ny201.out] at ho5)); have n0_ := Aside0.mk (Kd.R_lower ho5 (below_size blw)); have n1_ := Aside0.mk (below_step blw hb); clear HB; have HO203 := n0_; have HB := n1_; clear n0_ n1_; clear hb ho5))
 go_loopg [5] k (fun kq v5 w' => ∃ (x4_1 : List (Nat × Nat)) (x5_1 : Int), v5 = .int .i64 x5_1 ∧ Aside0 (tree_sizes.l0 kq l0 x4_1 x5_1 = some (r1, r2)) ∧ Aside0 (kq ≤ k) ∧ Aside0 (Kd.R Kd.cplx 53 w' w.heap.size (fun _ => True) v202 x4_1) ∧ Aside0 (Below w.heap.size w w'))
 case atStart => exact ⟨(y201), (wrap64 ((l0.length : Int) - 1)), rsd, H', ⟨Nat.le_refl _⟩, ⟨roW HO203.out⟩, ⟨blw⟩⟩
 case round =>
  clear H'
  try clear c2
  try clear c2b0
  try clear c2b1
  try clear c3
  try clear c3b0
  try clear c3b1
  obtain ⟨x4_1, x5_1, rfl, HA, HK1, HO_4, HB⟩ := hrel
  cases gk with
  | zero => exact absurd HA.out (by simp [tree_sizes.l0])
  | succ k1 =>
   have H := HA.out
   clear HA
   simp only [tree_sizes.l0] at H
   by_cases c6 : x5_1 ≥ 0
   case neg =>
    rw [if_neg c6] at H
    have c6b0 : decide (0 ≤ x5_1) = false := decide_eq_false c6
    clear c6
    simp only [Option.some.injEq, Prod.mk.injEq] at H
    obtain ⟨rfl, rfl⟩ := H
    go_wp2
    go_ret2
    exact ⟨_, rse, roW HO_4.out, blw⟩
   rw [if_pos c6] at H
   have c6b0 : decide (0 ≤ x5_1) = true := decide_eq_true c6
   clear c6
   by_cases c7 : 0 ≤ x5_1
   case neg =>
    rw [if_neg c7] at H
    exact absurd H (by simp)
   rw [if_pos c7] at H
   have c7b0 : decide (0 ≤ x5_1) = true := decide_eq_true c7
   clear c7
   by_cases c8 : x5_1 < (l0.length : Int)
   case neg =>
    rw [if_neg c8] at H
    exact absurd H (by simp)
   rw [if_pos c8] at H
   have c8b0 : decide (x5_1 < (l0.length : Int)) = true := decide_eq_true c8
   clear c8
   have H' := Aside0.mk H
   clear H
   have p204 : 0 ≤ (x5_1 : Int) := odt
   have q204 : x5_1 < (l0.length : Int) := odt
   obtain ⟨ad204, A204_4, c204_4, e204, hx204_0, hx204_1, hx204_2, hx204_3, hx204_4, hl204_4, hi204_4⟩ := at_T41 HR0.out x5_1 p204 q204
   cases e204
   replace hx204_0 := cellB hx204_0
   replace hx204_1 := cellB hx204_1
   replace hx204_2 := cellB hx204_2
   replace hx204_3 := cellB hx204_3
   replace hx204_4 := cellB hx204_4
   have HR204_4 := Aside0.mk hi204_4
   have HC204_4 := Aside0.mk hl204_4
   clear hi204_4 hl204_4
   replace p204 := eq_true p204
   replace q204 := eq_true q204
   have p205 : 0 ≤ (x5_1 : Int) := odt
   have q205 : x5_1 < (l0.length : Int) := odt
   obtain ⟨ad205, A205_4, c205_4, e205, hx205_0, hx205_1, hx205_2, hx205_3, hx205_4, hl205_4, hi205_4⟩ := at_T41 HR0.out x5_1 p205 q205
   obtain rfl : ad204 = ad205 := (by injection e205)
   replace hx205_0 := cellB hx205_0
   replace hx205_1 := cellB hx205_1
   replace hx205_2 := cellB hx205_2
   replace hx205_3 := cellB hx205_3
   replace hx205_4 := cellB hx205_4
   have HR205_4 := Aside0.mk hi205_4
   have HC205_4 := Aside0.mk hl205_4
   clear hi205_4 hl205_4
   replace p205 := eq_true p205
   replace q205 := eq_true q205
   have ea_ := Option.some.inj (hx204_4.symm.trans hx205_4)
   injection ea_ with ea_ en_ ec_
   subst ea_
   subst ec_
   clear en_
   go_wp2
   go_loopg [6, 32] k1 (fun kq v6 v32 w' => ∃ (x6_2 : Int) (x32_2 : Int), v6 = .int .i64 x6_2 ∧ v32 = .int .i64 x32_2 ∧ Aside0 (tree_sizes.l1 kq l0 x4_1 x5_1 x6_2 ((rd_T41 l0 x5_1).f4) (((rd_T41 l0 x5_1).f4).length : Int) x32_2 = some (r1, r2)) ∧ Aside0 (kq ≤ k1) ∧ Aside0 (Kd.R Kd.cplx 53 w' w.heap.size (fun _ => True) v202 x4_1) ∧ Aside0 (Below w.heap.size w w'))
   case atStart => exact ⟨((((rd_T41 l0 x5_1).f3).size : Int)), (0), rsd, rsd, H', ⟨Nat.le_refl _⟩, ⟨roW HO_4.out⟩, ⟨blw⟩⟩
   case round =>
    clear H'
    try clear c2
    try clear c2b0
    try clear c2b1
    try clear c3
    try clear c3b0
    try clear c3b1
    try clear c6
    try clear c6b0
    try clear c7
    try clear c7b0
    try clear c8
    try clear c8b0
    try clear hx204_0
    try clear hx204_1
    try clear hx204_2
    try clear hx204_3
    try clear hx204_4
    try clear hx205_0
    try clear hx205_1
    try clear hx205_2
    try clear hx205_3
    try clear hx205_4
    try clear p204
    try clear p205
    try clear q204
    try clear q205
    obtain ⟨x6_2, x32_2, rfl, rfl, HA, HK2, HO_4, HB⟩ := hrel
    cases gk with
    | zero => exact absurd HA.out (by simp [tree_sizes.l1])
    | succ k2 =>
     have H := HA.out
     clear HA
     simp only [tree_sizes.l1] at H
     by_cases c9 : x32_2 < (((rd_T41 l0 x5_1).f4).length : Int)
     case pos =>
      rw [if_pos c9] at H
      have c9b0 : decide (x32_2 < (((rd_T41 l0 x5_1).f4).length : Int)) = true := decide_eq_true c9
      clear c9
      by_cases c10 : 0 ≤ x32_2
      case neg =>
       rw [if_neg c10] at H
       exact absurd H (by simp)
      rw [if_pos c10] at H
      have c10b0 : decide (0 ≤ x32_2) = true := decide_eq_true c10
      clear c10
      by_cases c11 : x32_2 < (((rd_T41 l0 x5_1).f4).length : Int)
      case neg =>
       rw [if_neg c11] at H
       exact absurd H (by simp)
      rw [if_pos c11] at H
      have c11b0 : decide (x32_2 < (((rd_T41 l0 x5_1).f4).length : Int)) = true := decide_eq_true c11
      clear c11
      by_cases c12 : 0 ≤ (rd ((rd_T41 l0 x5_1).f4) x32_2)
      case neg =>
       rw [if_neg c12] at H
       exact absurd H (by simp)
      rw [if_pos c12] at H
      have c12b0 : decide (0 ≤ (rd ((rd_T41 l0 x5_1).f4) x32_2)) = true := decide_eq_true c12
      clear c12
      by_cases c13 : (rd ((rd_T41 l0 x5_1).f4) x32_2) < (x4_1.length : Int)
      case neg =>
       rw [if_neg c13] at H
       exact absurd H (by simp)
      rw [if_pos c13] at H
      have c13b0 : decide ((rd ((rd_T41 l0 x5_1).f4) x32_2) < (x4_1.length : Int)) = true := decide_eq_true c13
      clear c13
      by_cases c14 : fok ((rdOf ((0, 0) : Nat × Nat) x4_1 (rd ((rd_T41 l0 x5_1).f4) x32_2)).1) ((rdOf ((0, 0) : Nat × Nat) x4_1 (rd ((rd_T41 l0 x5_1).f4) x32_2)).2) = true
      case neg =>
       rw [if_neg c14] at H
       exact absurd H (by simp)
      rw [if_pos c14] at H
      have c14b0 : fok ((rdOf ((0, 0) : Nat × Nat) x4_1 (rd ((rd_T41 l0 x5_1).f4) x32_2)).1) ((rdOf ((0, 0) : Nat × Nat) x4_1 (rd ((rd_T41 l0 x5_1).f4) x32_2)).2) = true := c14
      clear c14
      by_cases c15 : fiok (fadd ((rdOf ((0, 0) : Nat × Nat) x4_1 (rd ((rd_T41 l0 x5_1).f4) x32_2)).1) ((rdOf ((0, 0) : Nat × Nat) x4_1 (rd ((rd_T41 l0 x5_1).f4) x32_2)).2)) = true
      case neg =>
       rw [if_neg c15] at H
       exact absurd H (by simp)
      rw [if_pos c15] at H
      have c15b0 : fiok (fadd ((rdOf ((0, 0) : Nat × Nat) x4_1 (rd ((rd_T41 l0 x5_1).f4) x32_2)).1) ((rdOf ((0, 0) : Nat × Nat) x4_1 (rd ((rd_T41 l0 x5_1).f4) x32_2)).2)) = true := c15
      clear c15
      have H' := Aside0.mk H
      clear H
      have p206 : 0 ≤ (x32_2 : Int) := odt
      have q206 : x32_2 < (((rd_T41 l0 x5_1).f4).length : Int) := odt
      obtain ⟨ad206, e206, hx206_0⟩ := Kd.at_int HR205_4.out x32_2 p206 q206
      cases e206
      replace hx206_0 := cellB hx206_0
      replace p206 := eq_true p206
      replace q206 := eq_true q206
      try go_wp2
      have n0_ := Aside0.mk (Kd.R_drew HO_4.out)
      have n1_ := Aside0.mk (below_drew1 HB.out)
      clear HO_4
      clear HB
      have HO_4 := n0_
      have HB := n1_
      clear n0_ n1_
      obtain ⟨Ao17, co17, eo17⟩ := Kd.R_slice HO_4.out
      (first | subst eo17 | (injection eo17 with f1_ f2_ f3_; have f4_ := f1_.symm; have f5_ := f3_.symm; clear f1_ f2_ f3_; subst f4_; subst f5_))
      have p207 : 0 ≤ ((rd ((rd_T41 l0 x5_1).f4) x32_2) : Int) := odt
      have q207 : (rd ((rd_T41 l0 x5_1).f4) x32_2) < (x4_1.length : Int) := odt
      obtain ⟨ad207, e207, hx207_0⟩ := Kd.at_cplx (Kd.R_reads' HO_4.out).2.2 (rd ((rd_T41 l0 x5_1).f4) x32_2) p207 q207
      cases e207
      replace p207 := eq_true p207
      replace q207 := eq_true q207
      have p208 : 0 ≤ ((rd ((rd_T41 l0 x5_1).f4) x32_2) : Int) := odt
      have q208 : (rd ((rd_T41 l0 x5_1).f4) x32_2) < (x4_1.length : Int) := odt
      obtain ⟨ad208, e208, hx208_0⟩ := Kd.at_cplx (Kd.R_reads' HO_4.out).2.2 (rd ((rd_T41 l0 x5_1).f4) x32_2) p208 q208
      obtain rfl : ad207 = ad208 := (by injection e208)
      replace p208 := eq_true p208
      replace q208 := eq_true q208
      refine start_ (n := 15) (S := fun w' => w'.cell? (ad207.add ((rd ((rd_T41 l0 x5_1).f4) x32_2)).toNat) = some (.complex .f64 (rdOf ((0, 0) : Nat × Nat) x4_1 (rd ((rd_T41 l0 x5_1).f4) x32_2)).1 (rdOf ((0, 0) : Nat × Nat) x4_1 (rd ((rd_T41 l0 x5_1).f4) x32_2)).2) ∧ w'.cell? (ad207.add ((rd ((rd_T41 l0 x5_1).f4) x32_2)).toNat) = some (.complex .f64 (rdOf ((0, 0) : Nat × Nat) x4_1 (rd ((rd_T41 l0 x5_1).f4) x32_2)).1 (rdOf ((0, 0) : Nat × Nat) x4_1 (rd ((rd_T41 l0 x5_1).f4) x32_2)).2)) (ds := []) #[false, false, false, false, false, false, false, false, false, false, false, false, false, false, false] (by kernel_rfl) rfl rfl ⟨hx207_0, hx208_0⟩ (fun hHeld => ?_); refine with_tabW tree_sizes.tab9 tree_sizes.bits9 (fun HG_ HW_ => ?_)
      generalize wr.drew = w16 at HO_4 HB hx207_0 hx208_0 hHeld ⊢
      refine pu 0 (some 36) ?_
      refine pu 1 (some 37) ?_
      refine pu 2 (some 38) ?_
      refine pu 3 (some 39) ?_
      refine pu 6 (some 42) ?_
      refine pu 7 (some 43) ?_
      refine pu 8 (some 44) ?_
      refine take_ (i := 4) (N := some 40) (v := ?_) (a' := ?_) #[true, true, true, true, true, false, true, true, true, false, false, false, false, false, false] rfl rfl (take_ofW HG_.out HW_.out (by kernel_rfl)) (fun _ _ _ h => h) (Or.inl ⟨by rfl, ?_⟩) hHeld ?_ ?_
      rotate_left
      ·rintro w' ⟨s0, s1⟩
       go_simp
       with_reducible rfl
      rotate_left
      ·simp only [Act.put, List.setIfInBounds_toArray, List.set_cons_zero, List.set_cons_succ, i64_w, i32_w]
       rfl
      refine pu 5 (some 41) ?_
      refine take_ (i := 9) (N := some 45) (v := ?_) (a' := ?_) #[true, true, true, true, true, true, true, true, true, true, false, false, false, false, false] rfl rfl (take_ofW HG_.out HW_.out (by kernel_rfl)) (fun _ _ _ h => h) (Or.inl ⟨by rfl, ?_⟩) hHeld ?_ ?_
      rotate_left
      ·rintro w' ⟨s0, s1⟩
       go_simp
       with_reducible rfl
      rotate_left
      ·simp only [Act.put, List.setIfInBounds_toArray, List.set_cons_zero, List.set_cons_succ, i64_w, i32_w]
       rfl
      refine pu 10 (some 46) ?_
      refine pu 11 (some 47) ?_
      refine pu 12 (some 48) ?_
      refine pu 13 (some 49) ?_
      refine pu 14 (some 6) ?_
      refine done_ (done_of HG_.out (by kernel_rfl)) ?_
      try go_wp2
      go_roundg k2
      case measure => have := HK1.out; have := HK2.out; omega
      case rel => exact ⟨(wrap64 (x6_2 + (fint (fadd ((rdOf ((0, 0) : Nat × Nat) x4_1 (rd ((rd_T41 l0 x5_1).f4) x32_2)).1) ((rdOf ((0, 0) : Nat × Nat) x4_1 (rd ((rd_T41 l0 x5_1).f4) x32_2)).2))))), (wrap64 (x32_2 + 1)), rsd, rsd, H', ⟨by have := HK1.out; have := HK2.out; omega⟩, ⟨roW HO_4.out⟩, ⟨blw⟩⟩
     rw [if_neg c9] at H
     have c9b0 : decide (x32_2 < (((rd_T41 l0 x5_1).f4).length : Int)) = false := decide_eq_false c9
     clear c9
     by_cases c18 : 0 ≤ x5_1
     case neg =>
      rw [if_neg c18] at H
      exact absurd H (by simp)
     rw [if_pos c18] at H
     have c18b0 : decide (0 ≤ x5_1) = true := decide_eq_true c18
     clear c18
     by_cases c19 : x5_1 < (l0.length : Int)
     case neg =>
      rw [if_neg c19] at H
      exact absurd H (by simp)
     rw [if_pos c19] at H
     have c19b0 : decide (x5_1 < (l0.length : Int)) = true := decide_eq_true c19
     clear c19
     replace H := Option.bind_eq_some_iff.mp H
     obtain ⟨t212, A200, H⟩ := H
     replace H : (if t212 = 0 then (some (([] : List (Nat × Nat)), false)) else (if (wrap64 (t212 + x6_2)) > 65535 then (some (([] : List (Nat × Nat)), false)) else (if x5_1 < (x4_1.length : Int) then (tree_sizes.l0 k2 l0 (x4_1.set (x5_1 : Int).toNat (floatOfInt .f64 t212, floatOfInt .f64 x6_2)) (wrap64 (x5_1 - 1))) else (none)))) = some (r1, r2) := H
     have A20 := Aside0.mk A200
     clear A200
     by_cases c21 : t212 = 0
     case pos =>
      rw [if_pos c21] at H
      have c21b0 : (t212 == 0) = true := beq_iff_eq.mpr c21
      have c21b1 : (t212 != 0) = false := bne_eq_false_iff_eq.mpr c21
      clear c21
      simp only [Option.some.injEq, Prod.mk.injEq] at H
      obtain ⟨rfl, rfl⟩ := H
      try go_wp2
      have n0_ := Aside0.mk (Kd.R_drew HO_4.out)
      have n1_ := Aside0.mk (below_drew1 HB.out)
      clear HO_4
      clear HB
      have HO_4 := n0_
      have HB := n1_
      clear n0_ n1_
      have p209 : 0 ≤ (x5_1 : Int) := odt
      have q209 : x5_1 < (l0.length : Int) := odt
      obtain ⟨ad209, A209_4, c209_4, e209, hx209_0, hx209_1, hx209_2, hx209_3, hx209_4, hl209_4, hi209_4⟩ := at_T41 HR0.out x5_1 p209 q209
      have hw209_4 := hx209_4
      have hw209_3 := hx209_3
      have hw209_2 := hx209_2
      have hw209_1 := hx209_1
      have hw209_0 := hx209_0
      obtain rfl : ad204 = ad209 := (by injection e209)
      replace hx209_0 := cellB hx209_0
      replace hx209_1 := cellB hx209_1
      replace hx209_2 := cellB hx209_2
      replace hx209_3 := cellB hx209_3
      replace hx209_4 := cellB hx209_4
      have HR209_4 := Aside0.mk hi209_4
      have HC209_4 := Aside0.mk hl209_4
      clear hi209_4 hl209_4
      replace p209 := eq_true p209
      replace q209 := eq_true q209
      have p210 : 0 ≤ (x5_1 : Int) := odt
      have q210 : x5_1 < (l0.length : Int) := odt
      obtain ⟨ad210, A210_4, c210_4, e210, hx210_0, hx210_1, hx210_2, hx210_3, hx210_4, hl210_4, hi210_4⟩ := at_T41 HR0.out x5_1 p210 q210
      have hw210_4 := hx210_4
      have hw210_3 := hx210_3
      have hw210_2 := hx210_2
      have hw210_1 := hx210_1
      have hw210_0 := hx210_0
      obtain rfl : ad204 = ad210 := (by injection e210)
      replace hx210_0 := cellB hx210_0
      replace hx210_1 := cellB hx210_1
      replace hx210_2 := cellB hx210_2
      replace hx210_3 := cellB hx210_3
      replace hx210_4 := cellB hx210_4
      have HR210_4 := Aside0.mk hi210_4
      have HC210_4 := Aside0.mk hl210_4
      clear hi210_4 hl210_4
      replace p210 := eq_true p210
      replace q210 := eq_true q210
      have ea_ := Option.some.inj (hx209_4.symm.trans hx210_4)
      injection ea_ with ea_ en_ ec_
      subst ea_
      subst ec_
      clear en_
      have p211 : 0 ≤ (x5_1 : Int) := odt
      have q211 : x5_1 < (l0.length : Int) := odt
      obtain ⟨ad211, A211_4, c211_4, e211, hx211_0, hx211_1, hx211_2, hx211_3, hx211_4, hl211_4, hi211_4⟩ := at_T41 HR0.out x5_1 p211 q211
      have hw211_4 := hx211_4
      have hw211_3 := hx211_3
      have hw211_2 := hx211_2
      have hw211_1 := hx211_1
      have hw211_0 := hx211_0
      obtain rfl : ad204 = ad211 := (by injection e211)
      replace hx211_0 := cellB hx211_0
      replace hx211_1 := cellB hx211_1
      replace hx211_2 := cellB hx211_2
      replace hx211_3 := cellB hx211_3
      replace hx211_4 := cellB hx211_4
      have HR211_4 := Aside0.mk hi211_4
      have HC211_4 := Aside0.mk hl211_4
      clear hi211_4 hl211_4
      replace p211 := eq_true p211
      replace q211 := eq_true q211
      have ea_ := Option.some.inj (hx209_4.symm.trans hx211_4)
      injection ea_ with ea_ en_ ec_
      subst ea_
      subst ec_
      clear en_
      refine start_ (n := 19) (S := fun w' => w'.cell? (ad204.add ((x5_1).toNat * 5)) = some (.int .i64 ((rd_T41 l0 x5_1).f0)) ∧ w'.cell? ⟨(ad204.add ((x5_1).toNat * 5)).block, (ad204.add ((x5_1).toNat * 5)).off + 1, none⟩ = some (.int .i64 ((rd_T41 l0 x5_1).f1)) ∧ w'.cell? ⟨(ad204.add ((x5_1).toNat * 5)).block, (ad204.add ((x5_1).toNat * 5)).off + 2, none⟩ = some (.bool ((rd_T41 l0 x5_1).f2)) ∧ w'.cell? ⟨(ad204.add ((x5_1).toNat * 5)).block, (ad204.add ((x5_1).toNat * 5)).off + 3, none⟩ = some (.string ((rd_T41 l0 x5_1).f3)) ∧ w'.cell? ⟨(ad204.add ((x5_1).toNat * 5)).block, (ad204.add ((x5_1).toNat * 5)).off + 4, none⟩ = some (.slice A209_4 ((rd_T41 l0 x5_1).f4).length c209_4) ∧ w'.cell? (ad204.add ((x5_1).toNat * 5)) = some (.int .i64 ((rd_T41 l0 x5_1).f0)) ∧ w'.cell? ⟨(ad204.add ((x5_1).toNat * 5)).block, (ad204.add ((x5_1).toNat * 5)).off + 1, none⟩ = some (.int .i64 ((rd_T41 l0 x5_1).f1)) ∧ w'.cell? ⟨(ad204.add ((x5_1).toNat * 5)).block, (ad204.add ((x5_1).toNat * 5)).off + 2, none⟩ = some (.bool ((rd_T41 l0 x5_1).f2)) ∧ w'.cell? ⟨(ad204.add ((x5_1).toNat * 5)).block, (ad204.add ((x5_1).toNat * 5)).off + 3, none⟩ = some (.string ((rd_T41 l0 x5_1).f3)) ∧ w'.cell? ⟨(ad204.add ((x5_1).toNat * 5)).block, (ad204.add ((x5_1).toNat * 5)).off + 4, none⟩ = some (.slice A209_4 ((rd_T41 l0 x5_1).f4).length c209_4) ∧ w'.cell? (ad204.add ((x5_1).toNat * 5)) = some (.int .i64 ((rd_T41 l0 x5_1).f0)) ∧ w'.cell? ⟨(ad204.add ((x5_1).toNat * 5)).block, (ad204.add ((x5_1).toNat * 5)).off + 1, none⟩ = some (.int .i64 ((rd_T41 l0 x5_1).f1)) ∧ w'.cell? ⟨(ad204.add ((x5_1).toNat * 5)).block, (ad204.add ((x5_1).toNat * 5)).off + 2, none⟩ = some (.bool ((rd_T41 l0 x5_1).f2)) ∧ w'.cell? ⟨(ad204.add ((x5_1).toNat * 5)).block, (ad204.add ((x5_1).toNat * 5)).off + 3, none⟩ = some (.string ((rd_T41 l0 x5_1).f3)) ∧ w'.cell? ⟨(ad204.add ((x5_1).toNat * 5)).block, (ad204.add ((x5_1).toNat * 5)).off + 4, none⟩ = some (.slice A209_4 ((rd_T41 l0 x5_1).f4).length c209_4)) (ds := []) #[false, false, false, false, false, false, false, false, false, false, false, false, false, false, false, false, false, false, false] (by kernel_rfl) rfl rfl ⟨(cellB hw209_0), (cellB hw209_1), (cellB hw209_2), (cellB hw209_3), (cellB hw209_4), (cellB hw210_0), (cellB hw210_1), (cellB hw210_2), (cellB hw210_3), (cellB hw210_4), (cellB hw211_0), (cellB hw211_1), (cellB hw211_2), (cellB hw211_3), (cellB hw211_4)⟩ (fun hHeld => ?_); refine with_tabW tree_sizes.tab11 tree_sizes.bits11 (fun HG_ HW_ => ?_)
      generalize wr.drew = w22 at HO_4 HB HR209_4 HR210_4 HR211_4 hx209_0 hx209_1 hx209_2 hx209_3 hx209_4 hx210_0 hx210_1 hx210_2 hx210_3 hx210_4 hx211_0 hx211_1 hx211_2 hx211_3 hx211_4 hHeld ⊢
      refine pu 0 (some 51) ?_
      refine pu 1 (some 52) ?_
      refine pu 2 (some 53) ?_
      refine pu 3 (some 54) ?_
      refine pu 5 (some 56) ?_
      refine pu 6 (some 57) ?_
      refine pu 7 (some 58) ?_
      refine pu 8 (some 59) ?_
      refine pu 10 (some 61) ?_
      refine pu 11 (some 62) ?_
      refine pu 12 (some 63) ?_
      refine pu 13 (some 64) ?_
      refine pu 15 (some 66) ?_
      refine take_ (i := 4) (N := some 55) (v := ?_) (a' := ?_) #[true, true, true, true, true, true, true, true, true, false, true, true, true, true, false, true, false, false, false] rfl rfl (take_ofW HG_.out HW_.out (by kernel_rfl)) (fun _ _ _ h => h) (Or.inl ⟨by rfl, ?_⟩) hHeld ?_ ?_
      rotate_left
      ·rintro w' ⟨s0, s1, s2, s3, s4, s5, s6, s7, s8, s9, s10, s11, s12, s13, s14⟩
       go_simp
       with_reducible rfl
      rotate_left
      ·simp only [Act.put, List.setIfInBounds_toArray, List.set_cons_zero, List.set_cons_succ, i64_w, i32_w]
       rfl
      refine take_ (i := 9) (N := some 60) (v := ?_) (a' := ?_) #[true, true, true, true, true, true, true, true, true, true, true, true, true, true, false, true, false, false, false] rfl rfl (take_ofW HG_.out HW_.out (by kernel_rfl)) (fun _ _ _ h => h) (Or.inl ⟨by rfl, ?_⟩) hHeld ?_ ?_
      rotate_left
      ·rintro w' ⟨s0, s1, s2, s3, s4, s5, s6, s7, s8, s9, s10, s11, s12, s13, s14⟩
       go_simp
       with_reducible rfl
      rotate_left
      ·simp only [Act.put, List.setIfInBounds_toArray, List.set_cons_zero, List.set_cons_succ, i64_w, i32_w]
       rfl
      refine take_ (i := 14) (N := some 65) (v := ?_) (a' := ?_) #[true, true, true, true, true, true, true, true, true, true, true, true, true, true, true, true, false, false, false] rfl rfl (take_ofW HG_.out HW_.out (by kernel_rfl)) (fun _ _ _ h => h) (Or.inl ⟨by rfl, ?_⟩) hHeld ?_ ?_
      rotate_left
      ·rintro w' ⟨s0, s1, s2, s3, s4, s5, s6, s7, s8, s9, s10, s11, s12, s13, s14⟩
       go_simp
       with_reducible rfl
      rotate_left
      ·simp only [Act.put, List.setIfInBounds_toArray, List.set_cons_zero, List.set_cons_succ, i64_w, i32_w]
       rfl
      refine pu 16 (some 67) ?_
      refine one_ (i := 17) (N := some 68) #[true, true, true, true, true, true, true, true, true, true, true, true, true, true, true, true, true, true, false] rfl rfl (one_of HG_.out (by kernel_rfl)) (by decide) (fun K hK => ?_)
      refine goes_ Tryd.func36 (by kernel_rfl) rfl #[.agg #[.int .i64 ((rd_T41 l0 x5_1).f0), .int .i64 ((rd_T41 l0 x5_1).f1), .bool ((rd_T41 l0 x5_1).f2), .int .i64 x6_2]] (by rfl) rfl rfl gargs ?_
      with_reducible refine (head_Size.calls k2 ((rd_T41 l0 x5_1).f0) ((rd_T41 l0 x5_1).f1) ((rd_T41 l0 x5_1).f2) x6_2 t212 _ A20.out).mono ?_
      rintro e w23 ⟨rfl, hb⟩
      refine ⟨_, rfl, ?_⟩
      have n0_ := Aside0.mk (Kd.R_below (roW HO_4.out) hb)
      have n1_ := Aside0.mk (below_step blw hb)
      clear HO_4
      clear HB
      have HO_4 := n0_
      have HB := n1_
      clear n0_ n1_
      (try clear hb)
      (try clear hb2)
      (try clear hk)
      (try clear hi)
      refine hK.out _ _ ⟨(cellB hw209_0), (cellB hw209_1), (cellB hw209_2), (cellB hw209_3), (cellB hw209_4), (cellB hw210_0), (cellB hw210_1), (cellB hw210_2), (cellB hw210_3), (cellB hw210_4), (cellB hw211_0), (cellB hw211_1), (cellB hw211_2), (cellB hw211_3), (cellB hw211_4)⟩ (fun hHeld => ?_)
      clear hK K
      refine norm_ (a' := ?_) ?_ ?_
      rotate_left
      ·show Act.put _ (some 68) _ = _
       simp only [Act.put, List.setIfInBounds_toArray, List.set_cons_zero, List.set_cons_succ, i64_w, i32_w]
       rfl
      refine pu 18 (some 9) ?_
      refine done_ (done_of HG_.out (by kernel_rfl)) ?_
      try go_wp2
      go_ret2
      exact ⟨_, rse, by first | exact Kd.R_nil _ _ _ _ _ | exact Kd.N_nil _ _ _ _ _ | exact Kd.V_nil _ _ _ _ _ | exact Kd.Q_nil _ _ _ _ _ | exact Kd.S_nil _ _ _ _ _, blw⟩
     rw [if_neg c21] at H
     have c21b0 : (t212 == 0) = false := beq_eq_false_iff_ne.mpr c21
     have c21b1 : (t212 != 0) = true := bne_iff_ne.mpr c21
     by_cases c24 : (wrap64 (t212 + x6_2)) > 65535
     case pos =>
      rw [if_pos c24] at H
      have c24b0 : decide (65535 < (wrap64 (t212 + x6_2))) = true := decide_eq_true c24
      clear c24
      simp only [Option.some.injEq, Prod.mk.injEq] at H
      obtain ⟨rfl, rfl⟩ := H
      try go_wp2
      have n0_ := Aside0.mk (Kd.R_drew HO_4.out)
      have n1_ := Aside0.mk (below_drew1 HB.out)
      clear HO_4
      clear HB
      have HO_4 := n0_
      have HB := n1_
      clear n0_ n1_
      have p209 : 0 ≤ (x5_1 : Int) := odt
      have q209 : x5_1 < (l0.length : Int) := odt
      obtain ⟨ad209, A209_4, c209_4, e209, hx209_0, hx209_1, hx209_2, hx209_3, hx209_4, hl209_4, hi209_4⟩ := at_T41 HR0.out x5_1 p209 q209
      have hw209_4 := hx209_4
      have hw209_3 := hx209_3
      have hw209_2 := hx209_2
      have hw209_1 := hx209_1
      have hw209_0 := hx209_0
      obtain rfl : ad204 = ad209 := (by injection e209)
      replace hx209_0 := cellB hx209_0
      replace hx209_1 := cellB hx209_1
      replace hx209_2 := cellB hx209_2
      replace hx209_3 := cellB hx209_3
      replace hx209_4 := cellB hx209_4
      have HR209_4 := Aside0.mk hi209_4
      have HC209_4 := Aside0.mk hl209_4
      clear hi209_4 hl209_4
      replace p209 := eq_true p209
      replace q209 := eq_true q209
      have p210 : 0 ≤ (x5_1 : Int) := odt
      have q210 : x5_1 < (l0.length : Int) := odt
      obtain ⟨ad210, A210_4, c210_4, e210, hx210_0, hx210_1, hx210_2, hx210_3, hx210_4, hl210_4, hi210_4⟩ := at_T41 HR0.out x5_1 p210 q210
      have hw210_4 := hx210_4
      have hw210_3 := hx210_3
      have hw210_2 := hx210_2
      have hw210_1 := hx210_1
      have hw210_0 := hx210_0
      obtain rfl : ad204 = ad210 := (by injection e210)
      replace hx210_0 := cellB hx210_0
      replace hx210_1 := cellB hx210_1
      replace hx210_2 := cellB hx210_2
      replace hx210_3 := cellB hx210_3
      replace hx210_4 := cellB hx210_4
      have HR210_4 := Aside0.mk hi210_4
      have HC210_4 := Aside0.mk hl210_4
      clear hi210_4 hl210_4
      replace p210 := eq_true p210
      replace q210 := eq_true q210
      have ea_ := Option.some.inj (hx209_4.symm.trans hx210_4)
      injection ea_ with ea_ en_ ec_
      subst ea_
      subst ec_
      clear en_
      have p211 : 0 ≤ (x5_1 : Int) := odt
      have q211 : x5_1 < (l0.length : Int) := odt
      obtain ⟨ad211, A211_4, c211_4, e211, hx211_0, hx211_1, hx211_2, hx211_3, hx211_4, hl211_4, hi211_4⟩ := at_T41 HR0.out x5_1 p211 q211
      have hw211_4 := hx211_4
      have hw211_3 := hx211_3
      have hw211_2 := hx211_2
      have hw211_1 := hx211_1
      have hw211_0 := hx211_0
      obtain rfl : ad204 = ad211 := (by injection e211)
      replace hx211_0 := cellB hx211_0
      replace hx211_1 := cellB hx211_1
      replace hx211_2 := cellB hx211_2
      replace hx211_3 := cellB hx211_3
      replace hx211_4 := cellB hx211_4
      have HR211_4 := Aside0.mk hi211_4
      have HC211_4 := Aside0.mk hl211_4
      clear hi211_4 hl211_4
      replace p211 := eq_true p211
      replace q211 := eq_true q211
      have ea_ := Option.some.inj (hx209_4.symm.trans hx211_4)
      injection ea_ with ea_ en_ ec_
      subst ea_
      subst ec_
      clear en_
      refine start_ (n := 19) (S := fun w' => w'.cell? (ad204.add ((x5_1).toNat * 5)) = some (.int .i64 ((rd_T41 l0 x5_1).f0)) ∧ w'.cell? ⟨(ad204.add ((x5_1).toNat * 5)).block, (ad204.add ((x5_1).toNat * 5)).off + 1, none⟩ = some (.int .i64 ((rd_T41 l0 x5_1).f1)) ∧ w'.cell? ⟨(ad204.add ((x5_1).toNat * 5)).block, (ad204.add ((x5_1).toNat * 5)).off + 2, none⟩ = some (.bool ((rd_T41 l0 x5_1).f2)) ∧ w'.cell? ⟨(ad204.add ((x5_1).toNat * 5)).block, (ad204.add ((x5_1).toNat * 5)).off + 3, none⟩ = some (.string ((rd_T41 l0 x5_1).f3)) ∧ w'.cell? ⟨(ad204.add ((x5_1).toNat * 5)).block, (ad204.add ((x5_1).toNat * 5)).off + 4, none⟩ = some (.slice A209_4 ((rd_T41 l0 x5_1).f4).length c209_4) ∧ w'.cell? (ad204.add ((x5_1).toNat * 5)) = some (.int .i64 ((rd_T41 l0 x5_1).f0)) ∧ w'.cell? ⟨(ad204.add ((x5_1).toNat * 5)).block, (ad204.add ((x5_1).toNat * 5)).off + 1, none⟩ = some (.int .i64 ((rd_T41 l0 x5_1).f1)) ∧ w'.cell? ⟨(ad204.add ((x5_1).toNat * 5)).block, (ad204.add ((x5_1).toNat * 5)).off + 2, none⟩ = some (.bool ((rd_T41 l0 x5_1).f2)) ∧ w'.cell? ⟨(ad204.add ((x5_1).toNat * 5)).block, (ad204.add ((x5_1).toNat * 5)).off + 3, none⟩ = some (.string ((rd_T41 l0 x5_1).f3)) ∧ w'.cell? ⟨(ad204.add ((x5_1).toNat * 5)).block, (ad204.add ((x5_1).toNat * 5)).off + 4, none⟩ = some (.slice A209_4 ((rd_T41 l0 x5_1).f4).length c209_4) ∧ w'.cell? (ad204.add ((x5_1).toNat * 5)) = some (.int .i64 ((rd_T41 l0 x5_1).f0)) ∧ w'.cell? ⟨(ad204.add ((x5_1).toNat * 5)).block, (ad204.add ((x5_1).toNat * 5)).off + 1, none⟩ = some (.int .i64 ((rd_T41 l0 x5_1).f1)) ∧ w'.cell? ⟨(ad204.add ((x5_1).toNat * 5)).block, (ad204.add ((x5_1).toNat * 5)).off + 2, none⟩ = some (.bool ((rd_T41 l0 x5_1).f2)) ∧ w'.cell? ⟨(ad204.add ((x5_1).toNat * 5)).block, (ad204.add ((x5_1).toNat * 5)).off + 3, none⟩ = some (.string ((rd_T41 l0 x5_1).f3)) ∧ w'.cell? ⟨(ad204.add ((x5_1).toNat * 5)).block, (ad204.add ((x5_1).toNat * 5)).off + 4, none⟩ = some (.slice A209_4 ((rd_T41 l0 x5_1).f4).length c209_4)) (ds := []) #[false, false, false, false, false, false, false, false, false, false, false, false, false, false, false, false, false, false, false] (by kernel_rfl) rfl rfl ⟨(cellB hw209_0), (cellB hw209_1), (cellB hw209_2), (cellB hw209_3), (cellB hw209_4), (cellB hw210_0), (cellB hw210_1), (cellB hw210_2), (cellB hw210_3), (cellB hw210_4), (cellB hw211_0), (cellB hw211_1), (cellB hw211_2), (cellB hw211_3), (cellB hw211_4)⟩ (fun hHeld => ?_); refine with_tabW tree_sizes.tab11 tree_sizes.bits11 (fun HG_ HW_ => ?_)
      generalize wr.drew = w25 at HO_4 HB HR209_4 HR210_4 HR211_4 hx209_0 hx209_1 hx209_2 hx209_3 hx209_4 hx210_0 hx210_1 hx210_2 hx210_3 hx210_4 hx211_0 hx211_1 hx211_2 hx211_3 hx211_4 hHeld ⊢
      refine pu 0 (some 51) ?_
      refine pu 1 (some 52) ?_
      refine pu 2 (some 53) ?_
      refine pu 3 (some 54) ?_
      refine pu 5 (some 56) ?_
      refine pu 6 (some 57) ?_
      refine pu 7 (some 58) ?_
      refine pu 8 (some 59) ?_
      refine pu 10 (some 61) ?_
      refine pu 11 (some 62) ?_
      refine pu 12 (some 63) ?_
      refine pu 13 (some 64) ?_
      refine pu 15 (some 66) ?_
      refine take_ (i := 4) (N := some 55) (v := ?_) (a' := ?_) #[true, true, true, true, true, true, true, true, true, false, true, true, true, true, false, true, false, false, false] rfl rfl (take_ofW HG_.out HW_.out (by kernel_rfl)) (fun _ _ _ h => h) (Or.inl ⟨by rfl, ?_⟩) hHeld ?_ ?_
      rotate_left
      ·rintro w' ⟨s0, s1, s2, s3, s4, s5, s6, s7, s8, s9, s10, s11, s12, s13, s14⟩
       go_simp
       with_reducible rfl
      rotate_left
      ·simp only [Act.put, List.setIfInBounds_toArray, List.set_cons_zero, List.set_cons_succ, i64_w, i32_w]
       rfl
      refine take_ (i := 9) (N := some 60) (v := ?_) (a' := ?_) #[true, true, true, true, true, true, true, true, true, true, true, true, true, true, false, true, false, false, false] rfl rfl (take_ofW HG_.out HW_.out (by kernel_rfl)) (fun _ _ _ h => h) (Or.inl ⟨by rfl, ?_⟩) hHeld ?_ ?_
      rotate_left
      ·rintro w' ⟨s0, s1, s2, s3, s4, s5, s6, s7, s8, s9, s10, s11, s12, s13, s14⟩
       go_simp
       with_reducible rfl
      rotate_left
      ·simp only [Act.put, List.setIfInBounds_toArray, List.set_cons_zero, List.set_cons_succ, i64_w, i32_w]
       rfl
      refine take_ (i := 14) (N := some 65) (v := ?_) (a' := ?_) #[true, true, true, true, true, true, true, true, true, true, true, true, true, true, true, true, false, false, false] rfl rfl (take_ofW HG_.out HW_.out (by kernel_rfl)) (fun _ _ _ h => h) (Or.inl ⟨by rfl, ?_⟩) hHeld ?_ ?_
      rotate_left
      ·rintro w' ⟨s0, s1, s2, s3, s4, s5, s6, s7, s8, s9, s10, s11, s12, s13, s14⟩
       go_simp
       with_reducible rfl
      rotate_left
      ·simp only [Act.put, List.setIfInBounds_toArray, List.set_cons_zero, List.set_cons_succ, i64_w, i32_w]
       rfl
      refine pu 16 (some 67) ?_
      refine one_ (i := 17) (N := some 68) #[true, true, true, true, true, true, true, true, true, true, true, true, true, true, true, true, true, true, false] rfl rfl (one_of HG_.out (by kernel_rfl)) (by decide) (fun K hK => ?_)
      refine goes_ Tryd.func36 (by kernel_rfl) rfl #[.agg #[.int .i64 ((rd_T41 l0 x5_1).f0), .int .i64 ((rd_T41 l0 x5_1).f1), .bool ((rd_T41 l0 x5_1).f2), .int .i64 x6_2]] (by rfl) rfl rfl gargs ?_
      with_reducible refine (head_Size.calls k2 ((rd_T41 l0 x5_1).f0) ((rd_T41 l0 x5_1).f1) ((rd_T41 l0 x5_1).f2) x6_2 t212 _ A20.out).mono ?_
      rintro e w26 ⟨rfl, hb⟩
      refine ⟨_, rfl, ?_⟩
      have n0_ := Aside0.mk (Kd.R_below (roW HO_4.out) hb)
      have n1_ := Aside0.mk (below_step blw hb)
      clear HO_4
      clear HB
      have HO_4 := n0_
      have HB := n1_
      clear n0_ n1_
      (try clear hb)
      (try clear hb2)
      (try clear hk)
      (try clear hi)
      refine hK.out _ _ ⟨(cellB hw209_0), (cellB hw209_1), (cellB hw209_2), (cellB hw209_3), (cellB hw209_4), (cellB hw210_0), (cellB hw210_1), (cellB hw210_2), (cellB hw210_3), (cellB hw210_4), (cellB hw211_0), (cellB hw211_1), (cellB hw211_2), (cellB hw211_3), (cellB hw211_4)⟩ (fun hHeld => ?_)
      clear hK K
      refine norm_ (a' := ?_) ?_ ?_
      rotate_left
      ·show Act.put _ (some 68) _ = _
       simp only [Act.put, List.setIfInBounds_toArray, List.set_cons_zero, List.set_cons_succ, i64_w, i32_w]
       rfl
      refine pu 18 (some 9) ?_
      refine done_ (done_of HG_.out (by kernel_rfl)) ?_
      try go_wp2
      go_ret2
      exact ⟨_, rse, by first | exact Kd.R_nil _ _ _ _ _ | exact Kd.N_nil _ _ _ _ _ | exact Kd.V_nil _ _ _ _ _ | exact Kd.Q_nil _ _ _ _ _ | exact Kd.S_nil _ _ _ _ _, blw⟩
     rw [if_neg c24] at H
     have c24b0 : decide (65535 < (wrap64 (t212 + x6_2))) = false := decide_eq_false c24
     clear c24
     by_cases c27 : x5_1 < (x4_1.length : Int)
     case neg =>
      rw [if_neg c27] at H
      exact absurd H (by simp)
     rw [if_pos c27] at H
     have c27b0 : decide (x5_1 < (x4_1.length : Int)) = true := decide_eq_true c27
     clear c27
     obtain ⟨y213, hy213⟩ : ∃ y_ : List (Nat × Nat), y_ = (x4_1.set (x5_1 : Int).toNat (floatOfInt .f64 t212, floatOfInt .f64 x6_2)) := ⟨_, rfl⟩
     replace H : (tree_sizes.l0 k2 l0 y213 (wrap64 (x5_1 - 1))) = some (r1, r2) := by first | (rw [hy213]; with_reducible exact H) | (have H2_ := (Option.bind_some _ _).symm.trans H; rw [hy213]; with_reducible exact H2_) | (have H2_ := (Option.bind_some _ _).symm.trans H; with_reducible exact H2_) | with_reducible exact H | (rw [hy213]; exact H) | exact H
     have Ny213 := Aside0.mk hy213
     clear hy213
     have H' := Aside0.mk H
     clear H
     try go_wp2
     have n0_ := Aside0.mk (Kd.R_drew HO_4.out)
     have n1_ := Aside0.mk (below_drew1 HB.out)
     clear HO_4
     clear HB
     have HO_4 := n0_
     have HB := n1_
     clear n0_ n1_
     have p209 : 0 ≤ (x5_1 : Int) := odt
     have q209 : x5_1 < (l0.length : Int) := odt
     obtain ⟨ad209, A209_4, c209_4, e209, hx209_0, hx209_1, hx209_2, hx209_3, hx209_4, hl209_4, hi209_4⟩ := at_T41 HR0.out x5_1 p209 q209
     have hw209_4 := hx209_4
     have hw209_3 := hx209_3
     have hw209_2 := hx209_2
     have hw209_1 := hx209_1
     have hw209_0 := hx209_0
     obtain rfl : ad204 = ad209 := (by injection e209)
     replace hx209_0 := cellB hx209_0
     replace hx209_1 := cellB hx209_1
     replace hx209_2 := cellB hx209_2
     replace hx209_3 := cellB hx209_3
     replace hx209_4 := cellB hx209_4
     have HR209_4 := Aside0.mk hi209_4
     have HC209_4 := Aside0.mk hl209_4
     clear hi209_4 hl209_4
     replace p209 := eq_true p209
     replace q209 := eq_true q209
     have p210 : 0 ≤ (x5_1 : Int) := odt
     have q210 : x5_1 < (l0.length : Int) := odt
     obtain ⟨ad210, A210_4, c210_4, e210, hx210_0, hx210_1, hx210_2, hx210_3, hx210_4, hl210_4, hi210_4⟩ := at_T41 HR0.out x5_1 p210 q210
     have hw210_4 := hx210_4
     have hw210_3 := hx210_3
     have hw210_2 := hx210_2
     have hw210_1 := hx210_1
     have hw210_0 := hx210_0
     obtain rfl : ad204 = ad210 := (by injection e210)
     replace hx210_0 := cellB hx210_0
     replace hx210_1 := cellB hx210_1
     replace hx210_2 := cellB hx210_2
     replace hx210_3 := cellB hx210_3
     replace hx210_4 := cellB hx210_4
     have HR210_4 := Aside0.mk hi210_4
     have HC210_4 := Aside0.mk hl210_4
     clear hi210_4 hl210_4
     replace p210 := eq_true p210
     replace q210 := eq_true q210
     have ea_ := Option.some.inj (hx209_4.symm.trans hx210_4)
     injection ea_ with ea_ en_ ec_
     subst ea_
     subst ec_
     clear en_
     have p211 : 0 ≤ (x5_1 : Int) := odt
     have q211 : x5_1 < (l0.length : Int) := odt
     obtain ⟨ad211, A211_4, c211_4, e211, hx211_0, hx211_1, hx211_2, hx211_3, hx211_4, hl211_4, hi211_4⟩ := at_T41 HR0.out x5_1 p211 q211
     have hw211_4 := hx211_4
     have hw211_3 := hx211_3
     have hw211_2 := hx211_2
     have hw211_1 := hx211_1
     have hw211_0 := hx211_0
     obtain rfl : ad204 = ad211 := (by injection e211)
     replace hx211_0 := cellB hx211_0
     replace hx211_1 := cellB hx211_1
     replace hx211_2 := cellB hx211_2
     replace hx211_3 := cellB hx211_3
     replace hx211_4 := cellB hx211_4
     have HR211_4 := Aside0.mk hi211_4
     have HC211_4 := Aside0.mk hl211_4
     clear hi211_4 hl211_4
     replace p211 := eq_true p211
     replace q211 := eq_true q211
     have ea_ := Option.some.inj (hx209_4.symm.trans hx211_4)
     injection ea_ with ea_ en_ ec_
     subst ea_
     subst ec_
     clear en_
     refine start_ (n := 19) (S := fun w' => w'.cell? (ad204.add ((x5_1).toNat * 5)) = some (.int .i64 ((rd_T41 l0 x5_1).f0)) ∧ w'.cell? ⟨(ad204.add ((x5_1).toNat * 5)).block, (ad204.add ((x5_1).toNat * 5)).off + 1, none⟩ = some (.int .i64 ((rd_T41 l0 x5_1).f1)) ∧ w'.cell? ⟨(ad204.add ((x5_1).toNat * 5)).block, (ad204.add ((x5_1).toNat * 5)).off + 2, none⟩ = some (.bool ((rd_T41 l0 x5_1).f2)) ∧ w'.cell? ⟨(ad204.add ((x5_1).toNat * 5)).block, (ad204.add ((x5_1).toNat * 5)).off + 3, none⟩ = some (.string ((rd_T41 l0 x5_1).f3)) ∧ w'.cell? ⟨(ad204.add ((x5_1).toNat * 5)).block, (ad204.add ((x5_1).toNat * 5)).off + 4, none⟩ = some (.slice A209_4 ((rd_T41 l0 x5_1).f4).length c209_4) ∧ w'.cell? (ad204.add ((x5_1).toNat * 5)) = some (.int .i64 ((rd_T41 l0 x5_1).f0)) ∧ w'.cell? ⟨(ad204.add ((x5_1).toNat * 5)).block, (ad204.add ((x5_1).toNat * 5)).off + 1, none⟩ = some (.int .i64 ((rd_T41 l0 x5_1).f1)) ∧ w'.cell? ⟨(ad204.add ((x5_1).toNat * 5)).block, (ad204.add ((x5_1).toNat * 5)).off + 2, none⟩ = some (.bool ((rd_T41 l0 x5_1).f2)) ∧ w'.cell? ⟨(ad204.add ((x5_1).toNat * 5)).block, (ad204.add ((x5_1).toNat * 5)).off + 3, none⟩ = some (.string ((rd_T41 l0 x5_1).f3)) ∧ w'.cell? ⟨(ad204.add ((x5_1).toNat * 5)).block, (ad204.add ((x5_1).toNat * 5)).off + 4, none⟩ = some (.slice A209_4 ((rd_T41 l0 x5_1).f4).length c209_4) ∧ w'.cell? (ad204.add ((x5_1).toNat * 5)) = some (.int .i64 ((rd_T41 l0 x5_1).f0)) ∧ w'.cell? ⟨(ad204.add ((x5_1).toNat * 5)).block, (ad204.add ((x5_1).toNat * 5)).off + 1, none⟩ = some (.int .i64 ((rd_T41 l0 x5_1).f1)) ∧ w'.cell? ⟨(ad204.add ((x5_1).toNat * 5)).block, (ad204.add ((x5_1).toNat * 5)).off + 2, none⟩ = some (.bool ((rd_T41 l0 x5_1).f2)) ∧ w'.cell? ⟨(ad204.add ((x5_1).toNat * 5)).block, (ad204.add ((x5_1).toNat * 5)).off + 3, none⟩ = some (.string ((rd_T41 l0 x5_1).f3)) ∧ w'.cell? ⟨(ad204.add ((x5_1).toNat * 5)).block, (ad204.add ((x5_1).toNat * 5)).off + 4, none⟩ = some (.slice A209_4 ((rd_T41 l0 x5_1).f4).length c209_4)) (ds := []) #[false, false, false, false, false, false, false, false, false, false, false, false, false, false, false, false, false, false, false] (by kernel_rfl) rfl rfl ⟨(cellB hw209_0), (cellB hw209_1), (cellB hw209_2), (cellB hw209_3), (cellB hw209_4), (cellB hw210_0), (cellB hw210_1), (cellB hw210_2), (cellB hw210_3), (cellB hw210_4), (cellB hw211_0), (cellB hw211_1), (cellB hw211_2), (cellB hw211_3), (cellB hw211_4)⟩ (fun hHeld => ?_); refine with_tabW tree_sizes.tab11 tree_sizes.bits11 (fun HG_ HW_ => ?_)
     generalize wr.drew = w29 at HO_4 HB HR209_4 HR210_4 HR211_4 hx209_0 hx209_1 hx209_2 hx209_3 hx209_4 hx210_0 hx210_1 hx210_2 hx210_3 hx210_4 hx211_0 hx211_1 hx211_2 hx211_3 hx211_4 hHeld ⊢
     refine pu 0 (some 51) ?_
     refine pu 1 (some 52) ?_
     refine pu 2 (some 53) ?_
     refine pu 3 (some 54) ?_
     refine pu 5 (some 56) ?_
     refine pu 6 (some 57) ?_
     refine pu 7 (some 58) ?_
     refine pu 8 (some 59) ?_
     refine pu 10 (some 61) ?_
     refine pu 11 (some 62) ?_
     refine pu 12 (some 63) ?_
     refine pu 13 (some 64) ?_
     refine pu 15 (some 66) ?_
     refine take_ (i := 4) (N := some 55) (v := ?_) (a' := ?_) #[true, true, true, true, true, true, true, true, true, false, true, true, true, true, false, true, false, false, false] rfl rfl (take_ofW HG_.out HW_.out (by kernel_rfl)) (fun _ _ _ h => h) (Or.inl ⟨by rfl, ?_⟩) hHeld ?_ ?_
     rotate_left
     ·rintro w' ⟨s0, s1, s2, s3, s4, s5, s6, s7, s8, s9, s10, s11, s12, s13, s14⟩
      go_simp
      with_reducible rfl
     rotate_left
     ·simp only [Act.put, List.setIfInBounds_toArray, List.set_cons_zero, List.set_cons_succ, i64_w, i32_w]
      rfl
     refine take_ (i := 9) (N := some 60) (v := ?_) (a' := ?_) #[true, true, true, true, true, true, true, true, true, true, true, true, true, true, false, true, false, false, false] rfl rfl (take_ofW HG_.out HW_.out (by kernel_rfl)) (fun _ _ _ h => h) (Or.inl ⟨by rfl, ?_⟩) hHeld ?_ ?_
     rotate_left
     ·rintro w' ⟨s0, s1, s2, s3, s4, s5, s6, s7, s8, s9, s10, s11, s12, s13, s14⟩
      go_simp
      with_reducible rfl
     rotate_left
     ·simp only [Act.put, List.setIfInBounds_toArray, List.set_cons_zero, List.set_cons_succ, i64_w, i32_w]
      rfl
     refine take_ (i := 14) (N := some 65) (v := ?_) (a' := ?_) #[true, true, true, true, true, true, true, true, true, true, true, true, true, true, true, true, false, false, false] rfl rfl (take_ofW HG_.out HW_.out (by kernel_rfl)) (fun _ _ _ h => h) (Or.inl ⟨by rfl, ?_⟩) hHeld ?_ ?_
     rotate_left
     ·rintro w' ⟨s0, s1, s2, s3, s4, s5, s6, s7, s8, s9, s10, s11, s12, s13, s14⟩
      go_simp
      with_reducible rfl
     rotate_left
     ·simp only [Act.put, List.setIfInBounds_toArray, List.set_cons_zero, List.set_cons_succ, i64_w, i32_w]
      rfl
     refine pu 16 (some 67) ?_
     refine one_ (i := 17) (N := some 68) #[true, true, true, true, true, true, true, true, true, true, true, true, true, true, true, true, true, true, false] rfl rfl (one_of HG_.out (by kernel_rfl)) (by decide) (fun K hK => ?_)
     refine goes_ Tryd.func36 (by kernel_rfl) rfl #[.agg #[.int .i64 ((rd_T41 l0 x5_1).f0), .int .i64 ((rd_T41 l0 x5_1).f1), .bool ((rd_T41 l0 x5_1).f2), .int .i64 x6_2]] (by rfl) rfl rfl gargs ?_
     with_reducible refine (head_Size.calls k2 ((rd_T41 l0 x5_1).f0) ((rd_T41 l0 x5_1).f1) ((rd_T41 l0 x5_1).f2) x6_2 t212 _ A20.out).mono ?_
     rintro e w30 ⟨rfl, hb⟩
     refine ⟨_, rfl, ?_⟩
     have n0_ := Aside0.mk (Kd.R_below (roW HO_4.out) hb)
     have n1_ := Aside0.mk (below_step blw hb)
     clear HO_4
     clear HB
     have HO_4 := n0_
     have HB := n1_
     clear n0_ n1_
     (try clear hb)
     (try clear hb2)
     (try clear hk)
     (try clear hi)
     refine hK.out _ _ ⟨(cellB hw209_0), (cellB hw209_1), (cellB hw209_2), (cellB hw209_3), (cellB hw209_4), (cellB hw210_0), (cellB hw210_1), (cellB hw210_2), (cellB hw210_3), (cellB hw210_4), (cellB hw211_0), (cellB hw211_1), (cellB hw211_2), (cellB hw211_3), (cellB hw211_4)⟩ (fun hHeld => ?_)
     clear hK K
     refine norm_ (a' := ?_) ?_ ?_
     rotate_left
     ·show Act.put _ (some 68) _ = _
      simp only [Act.put, List.setIfInBounds_toArray, List.set_cons_zero, List.set_cons_succ, i64_w, i32_w]
      rfl
     refine pu 18 (some 9) ?_
     refine done_ (done_of HG_.out (by kernel_rfl)) ?_
     have p28 : 0 ≤ (x5_1 : Int) := odt
     have q28 : (x5_1 : Int) < ((x4_1.length : Int) : Int) := odt
     obtain ⟨go28, co28, eo28, gb28, gl28, cl28, HG28⟩ := Kd.R_form HO_4.out (by omega)
     (first | cases eo28 | (injection eo28 with ea_ en_ ec_; (first | subst ea_ | (injection ea_ with ea_; subst ea_)); subst ec_; clear en_))
     have GB28 := Aside0.mk gb28
     have GG28 := Aside0.mk HG28
     clear gb28 gl28 HG28
     obtain ⟨hx28_0, hf28_0⟩ := Kd.R_celln ((0, 0) : Nat × Nat) HO_4.out (x5_1 : Int) p28 q28
     replace p28 := eq_true p28
     replace q28 := eq_true q28
     obtain ⟨hy31_, hz31_⟩ := Kd.R_celln ((0, 0) : Nat × Nat) HO_4.out (x5_1 : Int) odt odt
     have HP31 := Kd.R_putg HO_4.out (x5_1 : Int) (floatOfInt .f64 t212, floatOfInt .f64 x6_2)
     try go_wp2_with (first | ((with_reducible refine gate_store (t := 53) (p := 84) rfl ?_); refine store_event (t := 53) (p := 84) (v := ?vo_w32) (w1 := (w30.setCell ⟨go28, (x5_1 : Int).toNat, none⟩ (.complex .f64 (floatOfInt .f64 t212) (floatOfInt .f64 x6_2)))) ?hg ?ho ?hn ?hr ?_; (case ho => rfl); (case hg => rfl); (case hn => rfl); (case hr => first | (go_simp; done) | (go_simp; rfl)); intro w32 hw; have hg : w30.grownBy w32 (some go28) := (by rw [hw]; exact HP31.2); have hp_ : Kd.R Kd.cplx 53 w32 w.heap.size (fun _ => True) (.slice (some ⟨go28, 0, none⟩) x4_1.length co28) y213 := (by rw [hw, Ny213.out]; exact HP31.1); clear HP31; have n0_ := Aside0.mk (hp_); have n1_ := Aside0.mk ((by rw [hw]; exact below_set (HB.out) GB28.out : Below w.heap.size w w32)); clear HO_4; clear HB; have HO_4 := n0_; have HB := n1_; clear n0_ n1_; clear hg hw hp_))
     go_roundg k2
     case measure => have := HK1.out; have := HK2.out; omega
     case rel => exact ⟨(y213), (wrap64 (x5_1 - 1)), rsd, H', ⟨by have := HK1.out; have := HK2.out; omega⟩, ⟨roW HO_4.out⟩, ⟨blw⟩⟩

end Go.Proofs.YtcbcojbhbhaimaaDoor.PTreeTells
