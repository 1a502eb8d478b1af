import Derived.Test.YtcbcojbhbhaimaaDoorPTreeTellsx0
import Derived.Test.YtcbcojbhbhaimaaDoorPTreeTellsx5
import Derived.Test.YtcbcojbhbhaimaaDoorPTreeTellsx6
import Derived.Test.YtcbcojbhbhaimaaDoorPTreeTellsx7
import Derived.Test.YtcbcojbhbhaimaaDoorShelf
namespace Go.Proofs.YtcbcojbhbhaimaaDoor.PTreeTells
open Go.RowKit Go.Proofs.YtcbcojbhbhaimaaDoorW.PrintWords Go.Proofs.YtcbcojbhbhaimaaDoorW.PrintLast Go.Proofs.YtcbcojbhbhaimaaDoorW.PrintMore
attribute [local go_sem high] c_add c_eql c_neq
attribute [local go_sem] f_store_c f_store_f f_add f_toint f_fold_eq f_fold_ne f_fold_lt f_fold_gt f_fold_le f_fold_ge
attribute [local go_sem] str_leq str_gtr str_geq max2_int min2_int max_two min_two max_three min_three max_four min_four   -- for this text's walks alone
set_option linter.unusedVariables false
set_option linter.unusedSimpArgs false

/-! ### tree_Encode: function 9 -/
def tree_Encode.l0 : Nat → List (Nat × Nat) → List Int → List (S41) → Int → Int → Option (ByteArray × Int)
 | 0, _, _, _, _, _ => none
 | k + 1, x4, x6, x21, x22, x23 => if x23 < x22 then (if 0 ≤ x23 then (if x23 < (x21.length : Int) then (if x23 < (x4.length : Int) then (if fiok ((rdOf ((0, 0) : Nat × Nat) x4 x23).2) = true then ((head_Encode.f k ((rd_T41 x21 x23).f0) ((rd_T41 x21 x23).f1) ((rd_T41 x21 x23).f2) (fint ((rdOf ((0, 0) : Nat × Nat) x4 x23).2))).bind fun bt222 => (if x6.length + bt222.1.size < 140737488355328 then ((some (x6 ++ bytesOf bt222.1 : List Int)).bind fun y224 => (if y224.length + ((rd_T41 x21 x23).f3).size < 140737488355328 then (tree_Encode.l0 k x4 (y224 ++ bytesOf ((rd_T41 x21 x23).f3)) x21 x22 (wrap64 (x23 + 1))) else (none))) else (none))) else (none)) else (none)) else (none)) else (none)) else (some (strOfNums x6, 0))
def tree_Encode.f (k : Nat) (l0 : List (S41)) : Option (ByteArray × Int) := (tree_Right.f k l0).bind fun t214 => (if t214 = true then ((tree_sizes.f k l0).bind fun bt215 => (if bt215.2 = true then (tree_Encode.l0 k bt215.1 ([] : List Int) l0 (l0.length : Int) 0) else (some ((⟨#[]⟩ : ByteArray), 4)))) else (some ((⟨#[]⟩ : ByteArray), 1)))
theorem tree_Encode.mono_l : ∀ k, (∀ y0 y1 y2 y3 y4, LeO (tree_Encode.l0 k y0 y1 y2 y3 y4) (tree_Encode.l0 (k + 1) y0 y1 y2 y3 y4))
 | 0 => fun _ _ _ _ _ r h => by simp [tree_Encode.l0] at h
 | k + 1 => by
  have ih0 := tree_Encode.mono_l k
  ·intro y0 y1 y2 y3 y4
   unfold tree_Encode.l0
   repeat' first
   | (with_reducible first | exact ih0 _ _ _ _ _ | exact head_Encode.mono _ _ _ _ _ | exact tree_Right.mono _ _ | exact tree_sizes.mono _ _ | exact LeO.refl _ | exact LeO.none _ | refine LeO.ite ?_ ?_ | refine LeO.bind ?_ (fun _ => ?_))
   | exact ih0 _ _ _ _ _
   | exact head_Encode.mono _ _ _ _ _
   | exact tree_Right.mono _ _
   | exact tree_sizes.mono _ _
   | exact LeO.none _
   | refine LeO.ite ?_ ?_
   | refine LeO.bind ?_ (fun _ => ?_)
theorem tree_Encode.mono : ∀ a0 k, LeO (tree_Encode.f k a0) (tree_Encode.f (k + 1) a0) := by
 intro a0 k
 have ih0 := tree_Encode.mono_l k
 unfold tree_Encode.f
 repeat' first
  | (with_reducible first | exact ih0 _ _ _ _ _ | exact head_Encode.mono _ _ _ _ _ | exact tree_Right.mono _ _ | exact tree_sizes.mono _ _ | exact LeO.refl _ | exact LeO.none _ | refine LeO.ite ?_ ?_ | refine LeO.bind ?_ (fun _ => ?_))
  | exact ih0 _ _ _ _ _
  | exact head_Encode.mono _ _ _ _ _
  | exact tree_Right.mono _ _
  | exact tree_sizes.mono _ _
  | exact LeO.none _
  | refine LeO.ite ?_ ?_
  | refine LeO.bind ?_ (fun _ => ?_)
def tree_Encode.T10 : Bool × List (List Nat × List Nat) := (true, [([], []), ([0], [0]), ([], []), ([2], [2]), ([], []), ([4], [4]), ([], []), ([], []), ([6, 7], [6, 7]), ([8], [8]), ([9], [9]), ([10], [10]), ([1, 3, 5, 11], [1, 3, 5, 11]), ([12], [12]), ([13], [13]), ([14], [14]), ([14], [14]), ([15, 13, 0, 1, 2, 3, 4, 5, 6, 7, 8, 9, 10, 11, 12, 13, 14, 15], [15]), ([16, 17, 0, 1, 2, 3, 4, 5, 6, 7, 8, 9, 10, 11, 12, 13, 14, 15, 16, 17], [16])])
def tree_Encode.B10 : List Nat := [0, 1, 0, 4, 0, 16, 0, 0, 192, 448, 960, 1984, 4095, 8191, 16383, 32767, 32767, 65535, 262143]
theorem tree_Encode.tab10 : rtab .any (opsOf Tryd.f9 10) = tree_Encode.T10 := by kernel_rfl
theorem tree_Encode.bits10 : waitsOk tree_Encode.T10.2 tree_Encode.B10 = true := by kernel_rfl
set_option maxHeartbeats 8000000 in
set_option maxRecDepth 100000 in
theorem tree_Encode.calls (k : Nat) (A0 : Option Addr) (c0 : Nat) (l0 : List (S41)) (r1 : ByteArray) (r2 : Int) (w : World) (hr0 : Kd.C k41 w A0 l0.length l0) (hc0 : l0.length ≤ c0) (HT_ : Aside0 (TB w)) (h : tree_Encode.f k l0 = some (r1, r2)) :
 Calls Tryd.prog 9 #[.slice A0 l0.length c0] w fun e w' => e = .returned (.tuple #[.string r1, .int .i64 r2]) ∧ Below w.heap.size w w' := by
 have hu41 := Tryd.underlying41
 have hu55 := Tryd.underlying55
 have HR0 := Aside0.mk hr0
 have HC0 := Aside0.mk hc0
 clear hr0 hc0
 have HB := Aside0.mk (Below.refl w.heap.size w)
 have H : ((tree_Right.f k l0).bind fun t214 => (if t214 = true then ((tree_sizes.f k l0).bind fun bt215 => (if bt215.2 = true then (tree_Encode.l0 k bt215.1 ([] : List Int) l0 (l0.length : Int) 0) else (some ((⟨#[]⟩ : ByteArray), 4)))) else (some ((⟨#[]⟩ : ByteArray), 1)))) = some (r1, r2) := h
 clear h
 replace H := Option.bind_eq_some_iff.mp H
 obtain ⟨t214, A20, H⟩ := H
 replace H : (if t214 = true then ((tree_sizes.f k l0).bind fun bt215 => (if bt215.2 = true then (tree_Encode.l0 k bt215.1 ([] : List Int) l0 (l0.length : Int) 0) else (some ((⟨#[]⟩ : ByteArray), 4)))) else (some ((⟨#[]⟩ : ByteArray), 1))) = some (r1, r2) := H
 have A2 := Aside0.mk A20
 clear A20
 by_cases c3 : t214 = true
 case neg =>
  replace c3 := Bool.eq_false_iff.mpr c3
  subst c3
  have H1 : (some ((⟨#[]⟩ : ByteArray), 1)) = some (r1, r2) := by rw [if_neg (show ¬ (false = true) by decide)] at H; exact H
  clear H
  have H := H1
  clear H1
  simp only [Option.some.injEq, Prod.mk.injEq] at H
  obtain ⟨rfl, rfl⟩ := H
  go_enter Tryd.func9, Tryd.ntmps9
  go_wp2_with (first | ((with_reducible refine gate_callee (f := 11) rfl ?_); refine goesL_ (some 12) rfl rfl Tryd.func11 (by kernel_rfl) rfl #[.slice A0 l0.length c0] rfl gargs ?_; (with_reducible refine (tree_Right.calls k _ _ l0 false _ ?side1 ?side2 ?tb_ A2.out).mono ?_); (case tb_ => exact tbw); (case side1 => exact kcW HR0.out); (case side2 => exact HC0.out); rintro e w28 ⟨rfl, hb⟩; refine ⟨_, rfl, ?_⟩; replace HB := Aside0.mk (below_step blw hb); (try clear hb); (try clear hb2); (try clear hk); (try clear hi)))
  go_ret2
  exact ⟨rse, blw⟩
 subst c3
 have H1 : ((tree_sizes.f k l0).bind fun bt215 => (if bt215.2 = true then (tree_Encode.l0 k bt215.1 ([] : List Int) l0 (l0.length : Int) 0) else (some ((⟨#[]⟩ : ByteArray), 4)))) = some (r1, r2) := by rw [if_pos rfl] at H; exact H
 clear H
 have H := H1
 clear H1
 replace H := Option.bind_eq_some_iff.mp H
 obtain ⟨⟨t215, t216⟩, A40, H⟩ := H
 replace H : (if t216 = true then (tree_Encode.l0 k t215 ([] : List Int) l0 (l0.length : Int) 0) else (some ((⟨#[]⟩ : ByteArray), 4))) = some (r1, r2) := H
 have A4 := Aside0.mk A40
 clear A40
 by_cases c5 : t216 = true
 case neg =>
  replace c5 := Bool.eq_false_iff.mpr c5
  subst c5
  have H1 : (some ((⟨#[]⟩ : ByteArray), 4)) = some (r1, r2) := by rw [if_neg (show ¬ (false = true) by decide)] at H; exact H
  clear H
  have H := H1
  clear H1
  simp only [Option.some.injEq, Prod.mk.injEq] at H
  obtain ⟨rfl, rfl⟩ := H
  go_enter Tryd.func9, Tryd.ntmps9
  go_wp2_with (first | ((with_reducible refine gate_callee (f := 11) rfl ?_); refine goesL_ (some 12) rfl rfl Tryd.func11 (by kernel_rfl) rfl #[.slice A0 l0.length c0] rfl gargs ?_; (with_reducible refine (tree_Right.calls k _ _ l0 true _ ?side1 ?side2 ?tb_ A2.out).mono ?_); (case tb_ => exact tbw); (case side1 => exact kcW HR0.out); (case side2 => exact HC0.out); rintro e w26 ⟨rfl, hb⟩; refine ⟨_, rfl, ?_⟩; replace HB := Aside0.mk (below_step blw hb); (try clear hb); (try clear hb2); (try clear hk); (try clear hi)) | ((with_reducible refine gate_callee (f := 25) rfl ?_); refine goesL_ (some 16) rfl rfl Tryd.func25 (by kernel_rfl) rfl #[.slice A0 l0.length c0] rfl gargs ?_; (with_reducible refine (tree_sizes.calls k _ _ l0 t215 false _ ?side1 ?side2 A4.out).mono ?_); (case side1 => exact kcW (Kd.C_below HR0.out HB.out)); (case side2 => exact HC0.out); rintro e w27 ⟨v217, rfl, ho0, hb⟩; refine ⟨_, rfl, ?_⟩; have n0_ := Aside0.mk (Kd.R_lower ho0 (below_size blw)); have n1_ := Aside0.mk (below_step blw hb); clear HB; have HO218 := n0_; have HB := n1_; clear n0_ n1_; (try clear hb); (try clear hb2); (try clear hk); (try clear hi); (try clear ho0)))
  go_ret2
  exact ⟨rse, blw⟩
 subst c5
 have H1 : (tree_Encode.l0 k t215 ([] : List Int) l0 (l0.length : Int) 0) = some (r1, r2) := by rw [if_pos rfl] at H; exact H
 clear H
 have H := H1
 clear H1
 have H' := Aside0.mk H
 clear H
 go_enter Tryd.func9, Tryd.ntmps9
 go_wp2_with (first | ((with_reducible refine gate_callee (f := 11) rfl ?_); refine goesL_ (some 12) rfl rfl Tryd.func11 (by kernel_rfl) rfl #[.slice A0 l0.length c0] rfl gargs ?_; (with_reducible refine (tree_Right.calls k _ _ l0 true _ ?side1 ?side2 ?tb_ A2.out).mono ?_); (case tb_ => exact tbw); (case side1 => exact kcW HR0.out); (case side2 => exact HC0.out); rintro e w6 ⟨rfl, hb⟩; refine ⟨_, rfl, ?_⟩; replace HB := Aside0.mk (below_step blw hb); (try clear hb); (try clear hb2); (try clear hk); (try clear hi)) | ((with_reducible refine gate_callee (f := 25) rfl ?_); refine goesL_ (some 16) rfl rfl Tryd.func25 (by kernel_rfl) rfl #[.slice A0 l0.length c0] rfl gargs ?_; (with_reducible refine (tree_sizes.calls k _ _ l0 t215 true _ ?side1 ?side2 A4.out).mono ?_); (case side1 => exact kcW (Kd.C_below HR0.out HB.out)); (case side2 => exact HC0.out); rintro e w7 ⟨v217, rfl, ho0, hb⟩; refine ⟨_, rfl, ?_⟩; have n0_ := Aside0.mk (Kd.R_lower ho0 (below_size blw)); have n1_ := Aside0.mk (below_step blw hb); clear HB; have HO218 := n0_; have HB := n1_; clear n0_ n1_; (try clear hb); (try clear hb2); (try clear hk); (try clear hi); (try clear ho0)))
 go_loopg [6, 23] k (fun kq v6 v23 w' => ∃ (x6_1 : List Int) (x23_1 : Int), v23 = .int .i64 x23_1 ∧ Aside0 (tree_Encode.l0 kq t215 x6_1 l0 (l0.length : Int) x23_1 = some (r1, r2)) ∧ Aside0 (kq ≤ k) ∧ Aside0 (Kd.R Kd.cplx 53 w' w.heap.size (fun _ => True) v217 t215) ∧ Aside0 (Kd.R (Kd.int .u8) 5 w' w.heap.size (fun _ => True) v6 x6_1) ∧ Aside0 (Below w.heap.size w w'))
 case atStart => exact ⟨(([] : List Int)), (0), rsd, H', ⟨Nat.le_refl _⟩, ⟨roW HO218.out⟩, ⟨by first | exact Kd.R_nil _ _ _ _ _ | exact Kd.N_nil _ _ _ _ _ | exact Kd.V_nil _ _ _ _ _ | exact Kd.Q_nil _ _ _ _ _ | exact Kd.S_nil _ _ _ _ _⟩, ⟨blw⟩⟩
 case round =>
  clear H'
  try clear c3
  try clear c5
  obtain ⟨x6_1, x23_1, rfl, HA, HK1, HO_4, HO_6, HB⟩ := hrel
  cases gk with
  | zero => exact absurd HA.out (by simp [tree_Encode.l0])
  | succ k1 =>
   have H := HA.out
   clear HA
   simp only [tree_Encode.l0] at H
   by_cases c8 : x23_1 < (l0.length : Int)
   case neg =>
    rw [if_neg c8] at H
    have c8b0 : decide (x23_1 < (l0.length : Int)) = false := decide_eq_false c8
    clear c8
    simp only [Option.some.injEq, Prod.mk.injEq] at H
    obtain ⟨rfl, rfl⟩ := H
    have hcv25 := own_string (P := Tryd.prog) Tryd.underlying50 Tryd.underlying5 Tryd.underlying9 (Kd.own_of_R HO_6.out)
    go_wp2
    go_ret2
    exact ⟨rse, blw⟩
   rw [if_pos c8] at H
   have c8b0 : decide (x23_1 < (l0.length : Int)) = true := decide_eq_true c8
   clear c8
   by_cases c9 : 0 ≤ x23_1
   case neg =>
    rw [if_neg c9] at H
    exact absurd H (by simp)
   rw [if_pos c9] at H
   have c9b0 : decide (0 ≤ x23_1) = true := decide_eq_true c9
   clear c9
   by_cases c10 : x23_1 < (l0.length : Int)
   case neg =>
    rw [if_neg c10] at H
    exact absurd H (by simp)
   rw [if_pos c10] at H
   have c10b0 : decide (x23_1 < (l0.length : Int)) = true := decide_eq_true c10
   clear c10
   by_cases c11 : x23_1 < (t215.length : Int)
   case neg =>
    rw [if_neg c11] at H
    exact absurd H (by simp)
   rw [if_pos c11] at H
   have c11b0 : decide (x23_1 < (t215.length : Int)) = true := decide_eq_true c11
   clear c11
   by_cases c12 : fiok ((rdOf ((0, 0) : Nat × Nat) t215 x23_1).2) = true
   case neg =>
    rw [if_neg c12] at H
    exact absurd H (by simp)
   rw [if_pos c12] at H
   have c12b0 : fiok ((rdOf ((0, 0) : Nat × Nat) t215 x23_1).2) = true := c12
   clear c12
   replace H := Option.bind_eq_some_iff.mp H
   obtain ⟨⟨t222, t223⟩, A130, H⟩ := H
   replace H : (if x6_1.length + t222.size < 140737488355328 then ((some (x6_1 ++ bytesOf t222 : List Int)).bind fun y224 => (if y224.length + ((rd_T41 l0 x23_1).f3).size < 140737488355328 then (tree_Encode.l0 k1 t215 (y224 ++ bytesOf ((rd_T41 l0 x23_1).f3)) l0 (l0.length : Int) (wrap64 (x23_1 + 1))) else (none))) else (none)) = some (r1, r2) := H
   have A13 := Aside0.mk A130
   clear A130
   by_cases c14 : x6_1.length + t222.size < 140737488355328
   case neg =>
    rw [if_neg c14] at H
    exact absurd H (by simp)
   rw [if_pos c14] at H
   have LMc14 := Aside0.mk c14
   clear c14
   obtain ⟨y224, hy224⟩ : ∃ y_ : List Int, y_ = (x6_1 ++ bytesOf t222) := ⟨_, rfl⟩
   replace H : (if y224.length + ((rd_T41 l0 x23_1).f3).size < 140737488355328 then (tree_Encode.l0 k1 t215 (y224 ++ bytesOf ((rd_T41 l0 x23_1).f3)) l0 (l0.length : Int) (wrap64 (x23_1 + 1))) else (none)) = some (r1, r2) := by first | (rw [hy224]; with_reducible exact H) | (have H2_ := (Option.bind_some _ _).symm.trans H; rw [hy224]; with_reducible exact H2_) | (have H2_ := (Option.bind_some _ _).symm.trans H; with_reducible exact H2_) | with_reducible exact H | (rw [hy224]; exact H) | exact H
   have Ny224 := Aside0.mk hy224
   clear hy224
   by_cases c15 : y224.length + ((rd_T41 l0 x23_1).f3).size < 140737488355328
   case neg =>
    rw [if_neg c15] at H
    exact absurd H (by simp)
   rw [if_pos c15] at H
   have LMc15 := Aside0.mk c15
   clear c15
   obtain ⟨y227, hy227⟩ : ∃ y_ : List Int, y_ = (y224 ++ bytesOf ((rd_T41 l0 x23_1).f3)) := ⟨_, rfl⟩
   replace H : (tree_Encode.l0 k1 t215 y227 l0 (l0.length : Int) (wrap64 (x23_1 + 1))) = some (r1, r2) := by first | (rw [hy227]; with_reducible exact H) | (have H2_ := (Option.bind_some _ _).symm.trans H; rw [hy227]; with_reducible exact H2_) | (have H2_ := (Option.bind_some _ _).symm.trans H; with_reducible exact H2_) | with_reducible exact H | (rw [hy227]; exact H) | exact H
   have Ny227 := Aside0.mk hy227
   clear hy227
   have H' := Aside0.mk H
   clear H
   have p219 : 0 ≤ (x23_1 : Int) := odt
   have q219 : x23_1 < (l0.length : Int) := odt
   obtain ⟨ad219, A219_4, c219_4, e219, hx219_0, hx219_1, hx219_2, hx219_3, hx219_4, hl219_4, hi219_4⟩ := at_T41 HR0.out x23_1 p219 q219
   cases e219
   replace hx219_0 := cellB hx219_0
   replace hx219_1 := cellB hx219_1
   replace hx219_2 := cellB hx219_2
   replace hx219_3 := cellB hx219_3
   replace hx219_4 := cellB hx219_4
   have HR219_4 := Aside0.mk hi219_4
   have HC219_4 := Aside0.mk hl219_4
   clear hi219_4 hl219_4
   replace p219 := eq_true p219
   replace q219 := eq_true q219
   try go_wp2_with (first | ((with_reducible refine gate_dst (N := 8) rfl ?_); refine box_event ?hg (N := 8) ?hd (cs := #[.int .i64 0, .int .i64 0, .bool false, .string (⟨#[]⟩ : ByteArray), .slice none 0 0]) (t := 41) ?hr ?_; (case hd => rfl); (case hg => rfl); (case hr => first | (go_simp; done) | (go_simp; rfl)); intro gb220 hg w16 hbox hb; have n0_ := Aside0.mk (Kd.R_below (roW HO_4.out) hb); have n1_ := Aside0.mk (Kd.R_below (roW HO_6.out) hb); have n2_ := Aside0.mk (below_step blw hb); have n3_ := Aside0.mk (hbox); have n4_ := Aside0.mk ((by rw [hg]; exact (below_size blw) : w.heap.size ≤ gb220)); have n5_ := Aside0.mk ((by rw [hg]; exact (below_size blw) : w.heap.size ≤ gb220)); clear HO_4; clear HO_6; clear HB; have HO_4 := n0_; have HO_6 := n1_; have HB := n2_; have BK220 := n3_; have GW220 := n4_; have GE220 := n5_; clear n0_ n1_ n2_ n3_ n4_ n5_; clear hb hbox hg; have hcz17_0 : w16.cell? ⟨gb220, 0, none⟩ = some (.int .i64 0) := (blk_cell BK220.out 0).trans rfl; have hcz17_1 : w16.cell? ⟨gb220, 1, none⟩ = some (.int .i64 0) := (blk_cell BK220.out 1).trans rfl; have hcz17_2 : w16.cell? ⟨gb220, 2, none⟩ = some (.bool false) := (blk_cell BK220.out 2).trans rfl; have hcz17_3 : w16.cell? ⟨gb220, 3, none⟩ = some (.string (⟨#[]⟩ : ByteArray)) := (blk_cell BK220.out 3).trans rfl; have hcz17_4 : w16.cell? ⟨gb220, 4, none⟩ = some (.slice none 0 0) := (blk_cell BK220.out 4).trans rfl; have hfz17_0 := blk_frozen BK220.out 0; have hfz17_1 := blk_frozen BK220.out 1; have hfz17_2 := blk_frozen BK220.out 2; have hfz17_3 := blk_frozen BK220.out 3; have hfz17_4 := blk_frozen BK220.out 4))
   have n0_ : Aside0 (Kd.R Kd.cplx 53 (((((w16.setCell ⟨gb220, 0, none⟩ (.int .i64 ((rd_T41 l0 x23_1).f0))).setCell ⟨gb220, 1, none⟩ (.int .i64 ((rd_T41 l0 x23_1).f1))).setCell ⟨gb220, 2, none⟩ (.bool ((rd_T41 l0 x23_1).f2))).setCell ⟨gb220, 3, none⟩ (.string ((rd_T41 l0 x23_1).f3))).setCell ⟨gb220, 4, none⟩ (.slice A219_4 ((rd_T41 l0 x23_1).f4).length c219_4)) w.heap.size (fun _ => True) v217 t215) := ⟨by (with_reducible repeat (first | apply Kd.R_alloc | apply Kd.R_drewN | apply Kd.R_drew)); exact Kd.R_mono (Kd.R_far (p := ⟨gb220, 4, none⟩) (Kd.R_far (p := ⟨gb220, 3, none⟩) (Kd.R_far (p := ⟨gb220, 2, none⟩) (Kd.R_far (p := ⟨gb220, 1, none⟩) (Kd.R_far (p := ⟨gb220, 0, none⟩) (Kd.R_types HO_4.out BK220.out (by decide)) (fun _ hk => hk.2) (.int .i64 ((rd_T41 l0 x23_1).f0))) (fun _ hk => hk.2) (.int .i64 ((rd_T41 l0 x23_1).f1))) (fun _ hk => hk.2) (.bool ((rd_T41 l0 x23_1).f2))) (fun _ hk => hk.2) (.string ((rd_T41 l0 x23_1).f3))) (fun _ hk => hk.2) (.slice A219_4 ((rd_T41 l0 x23_1).f4).length c219_4)) (fun _ hk => trivial)⟩
   have n1_ : Aside0 (Kd.R (Kd.int .u8) 5 (((((w16.setCell ⟨gb220, 0, none⟩ (.int .i64 ((rd_T41 l0 x23_1).f0))).setCell ⟨gb220, 1, none⟩ (.int .i64 ((rd_T41 l0 x23_1).f1))).setCell ⟨gb220, 2, none⟩ (.bool ((rd_T41 l0 x23_1).f2))).setCell ⟨gb220, 3, none⟩ (.string ((rd_T41 l0 x23_1).f3))).setCell ⟨gb220, 4, none⟩ (.slice A219_4 ((rd_T41 l0 x23_1).f4).length c219_4)) w.heap.size (fun _ => True) u6 x6_1) := ⟨by (with_reducible repeat (first | apply Kd.R_alloc | apply Kd.R_drewN | apply Kd.R_drew)); exact Kd.R_mono (Kd.R_far (p := ⟨gb220, 4, none⟩) (Kd.R_far (p := ⟨gb220, 3, none⟩) (Kd.R_far (p := ⟨gb220, 2, none⟩) (Kd.R_far (p := ⟨gb220, 1, none⟩) (Kd.R_far (p := ⟨gb220, 0, none⟩) (Kd.R_types HO_6.out BK220.out (by decide)) (fun _ hk => hk.2) (.int .i64 ((rd_T41 l0 x23_1).f0))) (fun _ hk => hk.2) (.int .i64 ((rd_T41 l0 x23_1).f1))) (fun _ hk => hk.2) (.bool ((rd_T41 l0 x23_1).f2))) (fun _ hk => hk.2) (.string ((rd_T41 l0 x23_1).f3))) (fun _ hk => hk.2) (.slice A219_4 ((rd_T41 l0 x23_1).f4).length c219_4)) (fun _ hk => trivial)⟩
   have n2_ : Aside0 ((((((w16.setCell ⟨gb220, 0, none⟩ (.int .i64 ((rd_T41 l0 x23_1).f0))).setCell ⟨gb220, 1, none⟩ (.int .i64 ((rd_T41 l0 x23_1).f1))).setCell ⟨gb220, 2, none⟩ (.bool ((rd_T41 l0 x23_1).f2))).setCell ⟨gb220, 3, none⟩ (.string ((rd_T41 l0 x23_1).f3))).setCell ⟨gb220, 4, none⟩ (.slice A219_4 ((rd_T41 l0 x23_1).f4).length c219_4)).heap[gb220]? = some (.cells #[.int .i64 ((rd_T41 l0 x23_1).f0), .int .i64 ((rd_T41 l0 x23_1).f1), .bool ((rd_T41 l0 x23_1).f2), .string ((rd_T41 l0 x23_1).f3), .slice A219_4 ((rd_T41 l0 x23_1).f4).length c219_4] 41 (0, 0))) := ⟨by (with_reducible repeat (first | refine blk_drewN ?_ _ | refine blk_drew ?_ | refine blk_alloc ?_ _)); refine blk_put (cs := #[.int .i64 ((rd_T41 l0 x23_1).f0), .int .i64 ((rd_T41 l0 x23_1).f1), .bool ((rd_T41 l0 x23_1).f2), .string ((rd_T41 l0 x23_1).f3), .slice none 0 0]) ?_ 4 _ rfl; (with_reducible repeat (first | refine blk_drewN ?_ _ | refine blk_drew ?_ | refine blk_alloc ?_ _)); refine blk_put (cs := #[.int .i64 ((rd_T41 l0 x23_1).f0), .int .i64 ((rd_T41 l0 x23_1).f1), .bool ((rd_T41 l0 x23_1).f2), .string (⟨#[]⟩ : ByteArray), .slice none 0 0]) ?_ 3 _ rfl; (with_reducible repeat (first | refine blk_drewN ?_ _ | refine blk_drew ?_ | refine blk_alloc ?_ _)); refine blk_put (cs := #[.int .i64 ((rd_T41 l0 x23_1).f0), .int .i64 ((rd_T41 l0 x23_1).f1), .bool false, .string (⟨#[]⟩ : ByteArray), .slice none 0 0]) ?_ 2 _ rfl; (with_reducible repeat (first | refine blk_drewN ?_ _ | refine blk_drew ?_ | refine blk_alloc ?_ _)); refine blk_put (cs := #[.int .i64 ((rd_T41 l0 x23_1).f0), .int .i64 0, .bool false, .string (⟨#[]⟩ : ByteArray), .slice none 0 0]) ?_ 1 _ rfl; (with_reducible repeat (first | refine blk_drewN ?_ _ | refine blk_drew ?_ | refine blk_alloc ?_ _)); refine blk_put (cs := #[.int .i64 0, .int .i64 0, .bool false, .string (⟨#[]⟩ : ByteArray), .slice none 0 0]) ?_ 0 _ rfl; (with_reducible repeat (first | refine blk_drewN ?_ _ | refine blk_drew ?_ | refine blk_alloc ?_ _)); exact BK220.out⟩
   have n3_ : Aside0 (Below w.heap.size w (((((w16.setCell ⟨gb220, 0, none⟩ (.int .i64 ((rd_T41 l0 x23_1).f0))).setCell ⟨gb220, 1, none⟩ (.int .i64 ((rd_T41 l0 x23_1).f1))).setCell ⟨gb220, 2, none⟩ (.bool ((rd_T41 l0 x23_1).f2))).setCell ⟨gb220, 3, none⟩ (.string ((rd_T41 l0 x23_1).f3))).setCell ⟨gb220, 4, none⟩ (.slice A219_4 ((rd_T41 l0 x23_1).f4).length c219_4))) := ⟨by repeat (first | (with_reducible first | exact HB.out | apply below_alloc | apply pw_below_drewN | apply below_drew1 | refine below_set ?_ GE220.out) | exact HB.out)⟩
   (try clear HO_4)
   (try clear HO_6)
   (try clear BK220)
   (try clear HB)
   generalize (((((w16.setCell ⟨gb220, 0, none⟩ (.int .i64 ((rd_T41 l0 x23_1).f0))).setCell ⟨gb220, 1, none⟩ (.int .i64 ((rd_T41 l0 x23_1).f1))).setCell ⟨gb220, 2, none⟩ (.bool ((rd_T41 l0 x23_1).f2))).setCell ⟨gb220, 3, none⟩ (.string ((rd_T41 l0 x23_1).f3))).setCell ⟨gb220, 4, none⟩ (.slice A219_4 ((rd_T41 l0 x23_1).f4).length c219_4)) = w18 at n0_ n1_ n2_ n3_ ⊢
   have HO_4 := n0_
   have HO_6 := n1_
   have BK220 := n2_
   have HB := n3_
   clear n0_ n1_ n2_ n3_
   have n0_ := Aside0.mk (Kd.R_drew HO_4.out)
   have n1_ := Aside0.mk (Kd.R_drew HO_6.out)
   have n2_ := Aside0.mk (blk_drew BK220.out)
   have n3_ := Aside0.mk (below_drew1 HB.out)
   clear HO_4
   clear HO_6
   clear BK220
   clear HB
   have HO_4 := n0_
   have HO_6 := n1_
   have BK220 := n2_
   have HB := n3_
   clear n0_ n1_ n2_ n3_
   obtain ⟨Ao20, co20, eo20⟩ := Kd.R_slice HO_4.out
   (first | subst eo20 | (injection eo20 with f1_ f2_ f3_; have f4_ := f1_.symm; have f5_ := f3_.symm; clear f1_ f2_ f3_; subst f4_; subst f5_))
   have p221 : 0 ≤ (x23_1 : Int) := odt
   have q221 : x23_1 < (t215.length : Int) := odt
   obtain ⟨ad221, e221, hx221_0⟩ := Kd.at_cplx (Kd.R_reads' HO_4.out).2.2 x23_1 p221 q221
   cases e221
   replace p221 := eq_true p221
   replace q221 := eq_true q221
   refine start_ (n := 19) (S := fun w' => w'.cell? ⟨gb220, 0, none⟩ = some (.int .i64 ((rd_T41 l0 x23_1).f0)) ∧ w'.cell? ⟨gb220, 1, none⟩ = some (.int .i64 ((rd_T41 l0 x23_1).f1)) ∧ w'.cell? ⟨gb220, 2, none⟩ = some (.bool ((rd_T41 l0 x23_1).f2)) ∧ w'.cell? ⟨gb220, 3, none⟩ = some (.string ((rd_T41 l0 x23_1).f3)) ∧ w'.cell? ⟨gb220, 4, none⟩ = some (.slice A219_4 ((rd_T41 l0 x23_1).f4).length c219_4) ∧ w'.cell? (ad221.add (x23_1).toNat) = some (.complex .f64 (rdOf ((0, 0) : Nat × Nat) t215 x23_1).1 (rdOf ((0, 0) : Nat × Nat) t215 x23_1).2)) (ds := []) #[false, false, false, false, false, false, false, false, false, false, false, false, false, false, false, false, false, false, false] (by kernel_rfl) rfl rfl ⟨(blk_cell BK220.out 0).trans rfl, (blk_cell BK220.out 1).trans rfl, (blk_cell BK220.out 2).trans rfl, (blk_cell BK220.out 3).trans rfl, (blk_cell BK220.out 4).trans rfl, hx221_0⟩ (fun hHeld => ?_); refine with_tabW tree_Encode.tab10 tree_Encode.bits10 (fun HG_ HW_ => ?_)
   generalize w18.drew = w19 at HO_4 HO_6 BK220 HB hx221_0 hHeld ⊢
   refine pu 0 (some 29) ?_
   refine pu 2 (some 31) ?_
   refine pu 4 (some 33) ?_
   refine pu 6 (some 35) ?_
   refine pu 7 (some 36) ?_
   refine pu 8 (some 37) ?_
   refine take_ (i := 1) (N := some 30) (v := ?_) (a' := ?_) #[true, true, true, false, true, false, true, true, true, false, false, false, false, false, false, false, false, false, false] rfl rfl (take_ofW HG_.out HW_.out (by kernel_rfl)) (fun _ _ _ h => h) (Or.inl ⟨by rfl, ?_⟩) hHeld ?_ ?_
   rotate_left
   ·rintro w' ⟨s0, s1, s2, s3, s4, s5⟩
    go_simp
    with_reducible rfl
   rotate_left
   ·simp only [Act.put, List.setIfInBounds_toArray, List.set_cons_zero, List.set_cons_succ, i64_w, i32_w]
    rfl
   refine take_ (i := 3) (N := some 32) (v := ?_) (a' := ?_) #[true, true, true, true, true, false, true, true, true, false, false, false, false, false, false, false, false, false, false] rfl rfl (take_ofW HG_.out HW_.out (by kernel_rfl)) (fun _ _ _ h => h) (Or.inl ⟨by rfl, ?_⟩) hHeld ?_ ?_
   rotate_left
   ·rintro w' ⟨s0, s1, s2, s3, s4, s5⟩
    go_simp
    with_reducible rfl
   rotate_left
   ·simp only [Act.put, List.setIfInBounds_toArray, List.set_cons_zero, List.set_cons_succ, i64_w, i32_w]
    rfl
   refine take_ (i := 5) (N := some 34) (v := ?_) (a' := ?_) #[true, true, true, true, true, true, true, true, true, false, false, false, false, false, false, false, false, false, false] rfl rfl (take_ofW HG_.out HW_.out (by kernel_rfl)) (fun _ _ _ h => h) (Or.inl ⟨by rfl, ?_⟩) hHeld ?_ ?_
   rotate_left
   ·rintro w' ⟨s0, s1, s2, s3, s4, s5⟩
    go_simp
    with_reducible rfl
   rotate_left
   ·simp only [Act.put, List.setIfInBounds_toArray, List.set_cons_zero, List.set_cons_succ, i64_w, i32_w]
    rfl
   refine take_ (i := 9) (N := some 38) (v := ?_) (a' := ?_) #[true, true, true, true, true, true, true, true, true, true, false, false, false, false, false, false, false, false, false] rfl rfl (take_ofW HG_.out HW_.out (by kernel_rfl)) (fun _ _ _ h => h) (Or.inl ⟨by rfl, ?_⟩) hHeld ?_ ?_
   rotate_left
   ·rintro w' ⟨s0, s1, s2, s3, s4, s5⟩
    go_simp
    with_reducible rfl
   rotate_left
   ·simp only [Act.put, List.setIfInBounds_toArray, List.set_cons_zero, List.set_cons_succ, i64_w, i32_w]
    rfl
   refine pu 10 (some 39) ?_
   refine pu 11 (some 40) ?_
   refine pu 12 (some 41) ?_
   refine one_ (i := 13) (N := some 42) #[true, true, true, true, true, true, true, true, true, true, true, true, true, true, false, false, false, false, false] rfl rfl (one_of HG_.out (by kernel_rfl)) (by decide) (fun K hK => ?_)
   refine goes_ Tryd.func26 (by kernel_rfl) rfl #[.agg #[.int .i64 ((rd_T41 l0 x23_1).f0), .int .i64 ((rd_T41 l0 x23_1).f1), .bool ((rd_T41 l0 x23_1).f2), .int .i64 (fint ((rdOf ((0, 0) : Nat × Nat) t215 x23_1).2))]] (by rfl) rfl rfl gargs ?_
   with_reducible refine (head_Encode.calls k1 ((rd_T41 l0 x23_1).f0) ((rd_T41 l0 x23_1).f1) ((rd_T41 l0 x23_1).f2) (fint ((rdOf ((0, 0) : Nat × Nat) t215 x23_1).2)) t222 t223 _ A13.out).mono ?_
   rintro e w21 ⟨rfl, hb⟩
   have HS5_ := (hb.cell (World.block_lt_of_cell? _ _ (hHeld.2.2.2.2.2))).trans (hHeld.2.2.2.2.2)
   refine ⟨_, rfl, ?_⟩
   have n0_ := Aside0.mk (Kd.R_below (roW HO_4.out) hb)
   have n1_ := Aside0.mk (Kd.R_below (roW HO_6.out) hb)
   have n2_ := Aside0.mk (blk_below (g := gb220) (o := .cells #[.int .i64 ((rd_T41 l0 x23_1).f0), .int .i64 ((rd_T41 l0 x23_1).f1), .bool ((rd_T41 l0 x23_1).f2), .string ((rd_T41 l0 x23_1).f3), .slice A219_4 ((rd_T41 l0 x23_1).f4).length c219_4] 41 (0, 0)) (boW BK220.out) hb)
   have n3_ := Aside0.mk (below_step (by repeat (first | (with_reducible first | exact HB.out | apply below_alloc | apply pw_below_drewN | apply below_drew1 | refine below_set ?_ GE220.out) | exact HB.out)) hb)
   clear HO_4
   clear HO_6
   clear BK220
   clear HB
   have HO_4 := n0_
   have HO_6 := n1_
   have BK220 := n2_
   have HB := n3_
   clear n0_ n1_ n2_ n3_
   (try clear hb)
   (try clear hb2)
   (try clear hk)
   (try clear hi)
   refine hK.out _ _ ⟨(blk_cell BK220.out 0).trans rfl, (blk_cell BK220.out 1).trans rfl, (blk_cell BK220.out 2).trans rfl, (blk_cell BK220.out 3).trans rfl, (blk_cell BK220.out 4).trans rfl, HS5_⟩ (fun hHeld => ?_)
   clear hK K
   refine norm_ (a' := ?_) ?_ ?_
   rotate_left
   ·show Act.put _ (some 42) _ = _
    simp only [Act.put, List.setIfInBounds_toArray, List.set_cons_zero, List.set_cons_succ, i64_w, i32_w]
    rfl
   refine pu 14 (some 28) ?_
   refine pu 15 (some 43) ?_
   refine pu 16 (some 44) ?_
   refine pu 17 (some 9) ?_
   refine pu 18 (some 10) ?_
   refine done_ (done_of HG_.out (by kernel_rfl)) ?_
   try go_wp2
   have n0_ := Aside0.mk (Kd.R_drew HO_4.out)
   have n1_ := Aside0.mk (Kd.R_drew HO_6.out)
   have n2_ := Aside0.mk (blk_drew BK220.out)
   have n3_ := Aside0.mk (below_drew1 HB.out)
   clear HO_4
   clear HO_6
   clear BK220
   clear HB
   have HO_4 := n0_
   have HO_6 := n1_
   have BK220 := n2_
   have HB := n3_
   clear n0_ n1_ n2_ n3_
   refine start_ (n := 7) (S := fun w' => w'.cell? ⟨gb220, 0, none⟩ = some (.int .i64 ((rd_T41 l0 x23_1).f0)) ∧ w'.cell? ⟨gb220, 1, none⟩ = some (.int .i64 ((rd_T41 l0 x23_1).f1)) ∧ w'.cell? ⟨gb220, 2, none⟩ = some (.bool ((rd_T41 l0 x23_1).f2)) ∧ w'.cell? ⟨gb220, 3, none⟩ = some (.string ((rd_T41 l0 x23_1).f3)) ∧ w'.cell? ⟨gb220, 4, none⟩ = some (.slice A219_4 ((rd_T41 l0 x23_1).f4).length c219_4)) (ds := []) #[false, false, false, false, false, false, false] (by kernel_rfl) rfl rfl ⟨(blk_cell BK220.out 0).trans rfl, (blk_cell BK220.out 1).trans rfl, (blk_cell BK220.out 2).trans rfl, (blk_cell BK220.out 3).trans rfl, (blk_cell BK220.out 4).trans rfl⟩ (fun hHeld => ?_)
   generalize w21.drew = w22 at HO_4 HO_6 BK220 HB hHeld ⊢
   refine pure_ (i := 0) (N := some 45) (v := ?_) (a' := ?_) #[true, false, false, false, false, false, false] rfl rfl (by kernel_rfl) (fun _ _ _ h => h) (Or.inl ⟨by rfl, ?_⟩) ?_ ?_
   rotate_left
   ·intro w'
    go_simp
    with_reducible rfl
   rotate_left
   ·simp only [Act.put, List.setIfInBounds_toArray, List.set_cons_zero, List.set_cons_succ, i64_w, i32_w]
    rfl
   refine pure_ (i := 1) (N := some 46) (v := ?_) (a' := ?_) #[true, true, false, false, false, false, false] rfl rfl (by kernel_rfl) (fun _ _ _ h => h) (Or.inl ⟨by rfl, ?_⟩) ?_ ?_
   rotate_left
   ·intro w'
    go_simp
    with_reducible rfl
   rotate_left
   ·simp only [Act.put, List.setIfInBounds_toArray, List.set_cons_zero, List.set_cons_succ, i64_w, i32_w]
    rfl
   refine pure_ (i := 3) (N := some 48) (v := ?_) (a' := ?_) #[true, true, false, true, false, false, false] rfl rfl (by kernel_rfl) (fun _ _ _ h => h) (Or.inl ⟨by rfl, ?_⟩) ?_ ?_
   rotate_left
   ·intro w'
    go_simp
    with_reducible rfl
   rotate_left
   ·simp only [Act.put, List.setIfInBounds_toArray, List.set_cons_zero, List.set_cons_succ, i64_w, i32_w]
    rfl
   refine take_ (i := 4) (N := some 49) (v := ?_) (a' := ?_) #[true, true, false, true, true, false, false] rfl rfl (by kernel_rfl) (fun _ _ _ h => h) (Or.inl ⟨by rfl, ?_⟩) hHeld ?_ ?_
   rotate_left
   ·rintro w' ⟨s0, s1, s2, s3, s4⟩
    go_simp
    with_reducible rfl
   rotate_left
   ·simp only [Act.put, List.setIfInBounds_toArray, List.set_cons_zero, List.set_cons_succ, i64_w, i32_w]
    rfl
   refine one_ (i := 2) (N := some 47) #[true, true, true, true, true, false, false] rfl rfl (by kernel_rfl) (by decide) (fun K hK => ?_)
   refine print_append_str_step (w0 := w) w.heap.size (by rfl) (.tmp 45) _ 50 9 5 rfl Tryd.underlying50 Tryd.underlying9 info5 u6 x6_1 t222 rfl rfl ?aO ?aB ?aS ?aL ?_
   (case aB => exact (by repeat (first | (with_reducible first | exact HB.out | apply below_alloc | apply pw_below_drewN | apply below_drew1 | refine below_set ?_ GE220.out) | exact HB.out)))
   (case aO => exact (Kd.own_of_R (roW HO_6.out)))
   (case aS => exact (below_size (by repeat (first | (with_reducible first | exact HB.out | apply below_alloc | apply pw_below_drewN | apply below_drew1 | refine below_set ?_ GE220.out) | exact HB.out))))
   (case aL => have := LMc14.out; omega)
   intro v225 w23 ho0 hb hg
   have ho := Kd.R_of_own (h1 := fun _ => rfl) (ok := fun _ => True) ho0 (fun _ _ => trivial)
   clear ho0
   have hat := True.intro
   rw [← Ny224.out] at ho
   change Kd.R (Kd.int .u8) 5 w23 w.heap.size (fun _ => True) v225 y224 at ho
   have n0_ := Aside0.mk (Kd.R_over' (roW HO_4.out) (Kd.R_typed (roW HO_6.out)) (by decide) hg)
   have n1_ := Aside0.mk (blk_grown (g := gb220) (o := .cells #[.int .i64 ((rd_T41 l0 x23_1).f0), .int .i64 ((rd_T41 l0 x23_1).f1), .bool ((rd_T41 l0 x23_1).f2), .string ((rd_T41 l0 x23_1).f3), .slice A219_4 ((rd_T41 l0 x23_1).f4).length c219_4] 41 (0, 0)) (boW BK220.out) hg (Kd.R_ne HO_6.out BK220.out (by decide)))
   have n2_ := Aside0.mk (hb)
   have n3_ := Aside0.mk (ho)
   clear HO_4
   clear BK220
   clear HB
   clear HO_6
   have HO_4 := n0_
   have BK220 := n1_
   have HB := n2_
   have HO226 := n3_
   clear n0_ n1_ n2_ n3_
   clear ho hb hg hat
   refine hK.out _ _ ⟨(blk_cell BK220.out 0).trans rfl, (blk_cell BK220.out 1).trans rfl, (blk_cell BK220.out 2).trans rfl, (blk_cell BK220.out 3).trans rfl, (blk_cell BK220.out 4).trans rfl⟩ (fun hHeld => ?_)
   clear hK K
   refine norm_ (a' := ?_) ?_ ?_
   rotate_left
   ·show Act.put _ (some 47) _ = _
    simp only [Act.put, List.setIfInBounds_toArray, List.set_cons_zero, List.set_cons_succ, i64_w, i32_w]
    rfl
   refine one_ (i := 5) (N := some 50) #[true, true, true, true, true, true, false] rfl rfl (by kernel_rfl) (by decide) (fun K hK => ?_)
   refine print_append_str_step (w0 := w) w.heap.size (by rfl) (.tmp 47) _ 50 9 5 rfl Tryd.underlying50 Tryd.underlying9 info5 v225 y224 ((rd_T41 l0 x23_1).f3) rfl rfl ?aO ?aB ?aS ?aL ?_
   (case aB => exact (by repeat (first | (with_reducible first | exact HB.out | apply below_alloc | apply pw_below_drewN | apply below_drew1 | refine below_set ?_ GE220.out) | exact HB.out)))
   (case aO => exact (Kd.own_of_R (roW HO226.out)))
   (case aS => exact (below_size (by repeat (first | (with_reducible first | exact HB.out | apply below_alloc | apply pw_below_drewN | apply below_drew1 | refine below_set ?_ GE220.out) | exact HB.out))))
   (case aL => have := LMc15.out; omega)
   intro v228 w24 ho0 hb hg
   have ho := Kd.R_of_own (h1 := fun _ => rfl) (ok := fun _ => True) ho0 (fun _ _ => trivial)
   clear ho0
   have hat := True.intro
   rw [← Ny227.out] at ho
   change Kd.R (Kd.int .u8) 5 w24 w.heap.size (fun _ => True) v228 y227 at ho
   have n0_ := Aside0.mk (Kd.R_over' (roW HO_4.out) (Kd.R_typed (roW HO226.out)) (by decide) hg)
   have n1_ := Aside0.mk (blk_grown (g := gb220) (o := .cells #[.int .i64 ((rd_T41 l0 x23_1).f0), .int .i64 ((rd_T41 l0 x23_1).f1), .bool ((rd_T41 l0 x23_1).f2), .string ((rd_T41 l0 x23_1).f3), .slice A219_4 ((rd_T41 l0 x23_1).f4).length c219_4] 41 (0, 0)) (boW BK220.out) hg (Kd.R_ne HO226.out BK220.out (by decide)))
   have n2_ := Aside0.mk (hb)
   have n3_ := Aside0.mk (ho)
   clear HO_4
   clear BK220
   clear HB
   clear HO226
   have HO_4 := n0_
   have BK220 := n1_
   have HB := n2_
   have HO229 := n3_
   clear n0_ n1_ n2_ n3_
   clear ho hb hg hat
   refine hK.out _ _ ⟨(blk_cell BK220.out 0).trans rfl, (blk_cell BK220.out 1).trans rfl, (blk_cell BK220.out 2).trans rfl, (blk_cell BK220.out 3).trans rfl, (blk_cell BK220.out 4).trans rfl⟩ (fun hHeld => ?_)
   clear hK K
   refine norm_ (a' := ?_) ?_ ?_
   rotate_left
   ·show Act.put _ (some 50) _ = _
    simp only [Act.put, List.setIfInBounds_toArray, List.set_cons_zero, List.set_cons_succ, i64_w, i32_w]
    rfl
   refine pure_ (i := 6) (N := some 6) (v := ?_) (a' := ?_) #[true, true, true, true, true, true, true] rfl rfl (by kernel_rfl) (fun _ _ _ h => h) (Or.inl ⟨by rfl, ?_⟩) ?_ ?_
   rotate_left
   ·intro w'
    go_simp
    with_reducible rfl
   rotate_left
   ·simp only [Act.put, List.setIfInBounds_toArray, List.set_cons_zero, List.set_cons_succ, i64_w, i32_w]
    rfl
   refine done_ (by kernel_rfl) ?_
   try go_wp2
   go_roundg k1
   case measure => have := HK1.out; omega
   case rel => exact ⟨(y227), (wrap64 (x23_1 + 1)), rsd, H', ⟨by have := HK1.out; omega⟩, ⟨roW HO_4.out⟩, ⟨roW HO229.out⟩, ⟨by repeat (first | (with_reducible first | exact HB.out | apply below_alloc | apply pw_below_drewN | apply below_drew1 | refine below_set ?_ GE220.out) | exact HB.out)⟩⟩

/-! ### tree_Size: function 13 -/
def tree_Size.f (k : Nat) (l0 : List (S41)) : Option (Int) := (tree_Encode.f k l0).bind fun bt230 => (some (bt230.1.size : Int))
theorem tree_Size.mono : ∀ a0 k, LeO (tree_Size.f k a0) (tree_Size.f (k + 1) a0) := by
 intro a0 k
 unfold tree_Size.f
 repeat' first
  | (with_reducible first | exact tree_Encode.mono _ _ | exact LeO.refl _ | exact LeO.none _ | refine LeO.ite ?_ ?_ | refine LeO.bind ?_ (fun _ => ?_))
  | exact tree_Encode.mono _ _
  | exact LeO.none _
  | refine LeO.ite ?_ ?_
  | refine LeO.bind ?_ (fun _ => ?_)
set_option maxHeartbeats 8000000 in
set_option maxRecDepth 100000 in
theorem tree_Size.calls (k : Nat) (A0 : Option Addr) (c0 : Nat) (l0 : List (S41)) (r : Int) (w : World) (hr0 : Kd.C k41 w A0 l0.length l0) (hc0 : l0.length ≤ c0) (HT_ : Aside0 (TB w)) (h : tree_Size.f k l0 = some r) :
 Calls Tryd.prog 13 #[.slice A0 l0.length c0] w fun e w' => e = .returned (.int .i64 r) ∧ Below w.heap.size w w' := by
 have HR0 := Aside0.mk hr0
 have HC0 := Aside0.mk hc0
 clear hr0 hc0
 have HB := Aside0.mk (Below.refl w.heap.size w)
 have H : ((tree_Encode.f k l0).bind fun bt230 => (some (bt230.1.size : Int))) = some r := h
 clear h
 replace H := Option.bind_eq_some_iff.mp H
 obtain ⟨⟨t230, t231⟩, A20, H⟩ := H
 replace H : (some (t230.size : Int)) = some r := H
 have A2 := Aside0.mk A20
 clear A20
 obtain rfl := Option.some.inj H
 go_enter Tryd.func13, Tryd.ntmps13
 go_wp2_with (first | ((with_reducible refine gate_callee (f := 9) rfl ?_); refine goesL_ (some 7) rfl rfl Tryd.func9 (by kernel_rfl) rfl #[.slice A0 l0.length c0] rfl gargs ?_; (with_reducible refine (tree_Encode.calls k _ _ l0 t230 t231 _ ?side1 ?side2 ?tb_ A2.out).mono ?_); (case tb_ => exact tbw); (case side1 => exact kcW HR0.out); (case side2 => exact HC0.out); rintro e w3 ⟨rfl, hb⟩; refine ⟨_, rfl, ?_⟩; replace HB := Aside0.mk (below_step blw hb); (try clear hb); (try clear hb2); (try clear hk); (try clear hi)))
 go_ret
 exact ⟨rse, blw⟩

/-! ### tree_Depth: function 14 -/
def tree_Depth.f (k : Nat) (l0 : List (S41)) : Option (Int) := (tree_depth.f k l0).bind fun t232 => (some t232)
theorem tree_Depth.mono : ∀ a0 k, LeO (tree_Depth.f k a0) (tree_Depth.f (k + 1) a0) := by
 intro a0 k
 unfold tree_Depth.f
 repeat' first
  | (with_reducible first | exact tree_depth.mono _ _ | exact LeO.refl _ | exact LeO.none _ | refine LeO.ite ?_ ?_ | refine LeO.bind ?_ (fun _ => ?_))
  | exact tree_depth.mono _ _
  | exact LeO.none _
  | refine LeO.ite ?_ ?_
  | refine LeO.bind ?_ (fun _ => ?_)
set_option maxHeartbeats 8000000 in
set_option maxRecDepth 100000 in
theorem tree_Depth.calls (k : Nat) (A0 : Option Addr) (c0 : Nat) (l0 : List (S41)) (r : Int) (w : World) (hr0 : Kd.C k41 w A0 l0.length l0) (hc0 : l0.length ≤ c0) (HT_ : Aside0 (TB w)) (h : tree_Depth.f k l0 = some r) :
 Calls Tryd.prog 14 #[.slice A0 l0.length c0] w fun e w' => e = .returned (.int .i64 r) ∧ Below w.heap.size w w' := by
 have HR0 := Aside0.mk hr0
 have HC0 := Aside0.mk hc0
 clear hr0 hc0
 have HB := Aside0.mk (Below.refl w.heap.size w)
 have H : ((tree_depth.f k l0).bind fun t232 => (some t232)) = some r := h
 clear h
 replace H := Option.bind_eq_some_iff.mp H
 obtain ⟨t232, A20, H⟩ := H
 replace H : (some t232) = some r := H
 have A2 := Aside0.mk A20
 clear A20
 obtain rfl := Option.some.inj H
 go_enter Tryd.func14, Tryd.ntmps14
 go_wp2_with (first | ((with_reducible refine gate_callee (f := 28) rfl ?_); refine goesL_ (some 4) rfl rfl Tryd.func28 (by kernel_rfl) rfl #[.slice A0 l0.length c0] rfl gargs ?_; (with_reducible refine (tree_depth.calls k _ _ l0 t232 _ ?side1 ?side2 ?tb_ A2.out).mono ?_); (case tb_ => exact tbw); (case side1 => exact kcW HR0.out); (case side2 => exact HC0.out); rintro e w3 ⟨rfl, hb⟩; refine ⟨_, rfl, ?_⟩; replace HB := Aside0.mk (below_step blw hb); (try clear hb); (try clear hb2); (try clear hk); (try clear hi)))
 go_ret
 exact ⟨rse, blw⟩

/-! ### tree_end: function 32 -/
def tree_end.l0 : Nat → List (S41) → Int → Option (Int)
 | 0, _, _ => none
 | k + 1, x0, x1 => if 0 ≤ x1 then (if x1 < (x0.length : Int) then (if (((rd_T41 x0 x1).f4).length : Int) > 0 then (if 0 ≤ (wrap64 ((((rd_T41 x0 x1).f4).length : Int) - 1)) then (if (wrap64 ((((rd_T41 x0 x1).f4).length : Int) - 1)) < (((rd_T41 x0 x1).f4).length : Int) then (tree_end.l0 k x0 (rd ((rd_T41 x0 x1).f4) (wrap64 ((((rd_T41 x0 x1).f4).length : Int) - 1)))) else (none)) else (none)) else (some (wrap64 (x1 + 1)))) else (none)) else (none)
def tree_end.f (k : Nat) (l0 : List (S41)) (a1 : Int) : Option (Int) := tree_end.l0 k l0 a1
theorem tree_end.mono_l : ∀ k, (∀ y0 y1, LeO (tree_end.l0 k y0 y1) (tree_end.l0 (k + 1) y0 y1))
 | 0 => fun _ _ r h => by simp [tree_end.l0] at h
 | k + 1 => by
  have ih0 := tree_end.mono_l k
  ·intro y0 y1
   unfold tree_end.l0
   repeat' first
   | (with_reducible first | exact ih0 _ _ | exact LeO.refl _ | exact LeO.none _ | refine LeO.ite ?_ ?_ | refine LeO.bind ?_ (fun _ => ?_))
   | exact ih0 _ _
   | exact LeO.none _
   | refine LeO.ite ?_ ?_
   | refine LeO.bind ?_ (fun _ => ?_)
theorem tree_end.mono : ∀ a0 a1 k, LeO (tree_end.f k a0 a1) (tree_end.f (k + 1) a0 a1) := by
 intro a0 a1 k
 have ih0 := tree_end.mono_l k
 unfold tree_end.f
 repeat' first
  | (with_reducible first | exact ih0 _ _ | exact LeO.refl _ | exact LeO.none _ | refine LeO.ite ?_ ?_ | refine LeO.bind ?_ (fun _ => ?_))
  | exact ih0 _ _
  | exact LeO.none _
  | refine LeO.ite ?_ ?_
  | refine LeO.bind ?_ (fun _ => ?_)
set_option maxHeartbeats 8000000 in
set_option maxRecDepth 100000 in
theorem tree_end.calls (k : Nat) (A0 : Option Addr) (c0 : Nat) (l0 : List (S41)) (a1 : Int) (r : Int) (w : World) (hr0 : Kd.C k41 w A0 l0.length l0) (hc0 : l0.length ≤ c0) (h : tree_end.f k l0 a1 = some r) :
 Calls Tryd.prog 32 #[.slice A0 l0.length c0, .int .i64 a1] w fun e w' => e = .returned (.int .i64 r) ∧ Drawn0 w w' := by
 have HR0 := Aside0.mk hr0
 have HC0 := Aside0.mk hc0
 clear hr0 hc0
 have H : (tree_end.l0 k l0 a1) = some r := h
 clear h
 have H' := Aside0.mk H
 clear H
 go_enter Tryd.func32, Tryd.ntmps32
 go_wp2
 repeat (go_quiet (fail); try go_wp2)
 go_loopg [1] k (fun kq v1 w' => ∃ (x1_1 : Int), v1 = .int .i64 x1_1 ∧ Aside0 (tree_end.l0 kq l0 x1_1 = some r) ∧ Aside0 (kq ≤ k) ∧ Drawn0 w w')
 case atStart => exact ⟨(a1), rsd, H', ⟨Nat.le_refl _⟩, drw⟩
 case round =>
  clear H'
  obtain ⟨x1_1, rfl, HA, HK1, ⟨m1, rfl⟩⟩ := hrel
  cases gk with
  | zero => exact absurd HA.out (by simp [tree_end.l0])
  | succ k1 =>
   have H := HA.out
   clear HA
   simp only [tree_end.l0] at H
   by_cases c3 : 0 ≤ x1_1
   case neg =>
    rw [if_neg c3] at H
    exact absurd H (by simp)
   rw [if_pos c3] at H
   have c3b0 : decide (0 ≤ x1_1) = true := decide_eq_true c3
   clear c3
   by_cases c4 : x1_1 < (l0.length : Int)
   case neg =>
    rw [if_neg c4] at H
    exact absurd H (by simp)
   rw [if_pos c4] at H
   have c4b0 : decide (x1_1 < (l0.length : Int)) = true := decide_eq_true c4
   clear c4
   by_cases c5 : (((rd_T41 l0 x1_1).f4).length : Int) > 0
   case neg =>
    rw [if_neg c5] at H
    have c5b0 : decide (0 < (((rd_T41 l0 x1_1).f4).length : Int)) = false := decide_eq_false c5
    have c5b1 : decide (0 < ((rd_T41 l0 x1_1).f4).length) = false := decide_eq_false (by omega)
    clear c5
    obtain rfl := Option.some.inj H
    have p233 : 0 ≤ (x1_1 : Int) := odt
    have q233 : x1_1 < (l0.length : Int) := odt
    obtain ⟨ad233, A233_4, c233_4, e233, hx233_0, hx233_1, hx233_2, hx233_3, hx233_4, hl233_4, hi233_4⟩ := at_T41 HR0.out x1_1 p233 q233
    cases e233
    have HR233_4 := Aside0.mk hi233_4
    have HC233_4 := Aside0.mk hl233_4
    clear hi233_4 hl233_4
    replace p233 := eq_true p233
    replace q233 := eq_true q233
    go_wp2
    repeat (go_quiet (fail); try go_wp2)
    go_ret
    exact ⟨rsd, drw⟩
   rw [if_pos c5] at H
   have c5b0 : decide (0 < (((rd_T41 l0 x1_1).f4).length : Int)) = true := decide_eq_true c5
   have c5b1 : decide (0 < ((rd_T41 l0 x1_1).f4).length) = true := decide_eq_true (by omega)
   clear c5
   obtain ⟨ji6, hji6⟩ : ∃ j_ : Int, (wrap64 ((((rd_T41 l0 x1_1).f4).length : Int) - 1)) = j_ := ⟨_, rfl⟩
   replace H : (if 0 ≤ (ji6) then (if (ji6) < (((rd_T41 l0 x1_1).f4).length : Int) then (tree_end.l0 k1 l0 (rd ((rd_T41 l0 x1_1).f4) (ji6))) else (none)) else (none)) = some r := by first | (rw [hji6] at H; exact H) | (simp only [hji6] at H ⊢; exact H)
   have hji6w : (IntKind.i64.wrap ((((rd_T41 l0 x1_1).f4).length : Int) - 1)) = ji6 := (i64_w _).trans hji6
   by_cases c7 : 0 ≤ (ji6)
   case neg =>
    rw [if_neg c7] at H
    exact absurd H (by simp)
   rw [if_pos c7] at H
   have c7b0 : decide (0 ≤ (ji6)) = true := decide_eq_true c7
   clear c7
   by_cases c8 : (ji6) < (((rd_T41 l0 x1_1).f4).length : Int)
   case neg =>
    rw [if_neg c8] at H
    exact absurd H (by simp)
   rw [if_pos c8] at H
   have c8b0 : decide ((ji6) < (((rd_T41 l0 x1_1).f4).length : Int)) = true := decide_eq_true c8
   clear c8
   have H' := Aside0.mk H
   clear H
   have p233 : 0 ≤ (x1_1 : Int) := odt
   have q233 : x1_1 < (l0.length : Int) := odt
   obtain ⟨ad233, A233_4, c233_4, e233, hx233_0, hx233_1, hx233_2, hx233_3, hx233_4, hl233_4, hi233_4⟩ := at_T41 HR0.out x1_1 p233 q233
   cases e233
   have HR233_4 := Aside0.mk hi233_4
   have HC233_4 := Aside0.mk hl233_4
   clear hi233_4 hl233_4
   replace p233 := eq_true p233
   replace q233 := eq_true q233
   have p234 : 0 ≤ (x1_1 : Int) := odt
   have q234 : x1_1 < (l0.length : Int) := odt
   obtain ⟨ad234, A234_4, c234_4, e234, hx234_0, hx234_1, hx234_2, hx234_3, hx234_4, hl234_4, hi234_4⟩ := at_T41 HR0.out x1_1 p234 q234
   obtain rfl : ad233 = ad234 := (by injection e234)
   have HR234_4 := Aside0.mk hi234_4
   have HC234_4 := Aside0.mk hl234_4
   clear hi234_4 hl234_4
   replace p234 := eq_true p234
   replace q234 := eq_true q234
   have ea_ := Option.some.inj (hx233_4.symm.trans hx234_4)
   injection ea_ with ea_ en_ ec_
   subst ea_
   subst ec_
   clear en_
   have p235 : 0 ≤ (x1_1 : Int) := odt
   have q235 : x1_1 < (l0.length : Int) := odt
   obtain ⟨ad235, A235_4, c235_4, e235, hx235_0, hx235_1, hx235_2, hx235_3, hx235_4, hl235_4, hi235_4⟩ := at_T41 HR0.out x1_1 p235 q235
   obtain rfl : ad233 = ad235 := (by injection e235)
   have HR235_4 := Aside0.mk hi235_4
   have HC235_4 := Aside0.mk hl235_4
   clear hi235_4 hl235_4
   replace p235 := eq_true p235
   replace q235 := eq_true q235
   have ea_ := Option.some.inj (hx233_4.symm.trans hx235_4)
   injection ea_ with ea_ en_ ec_
   subst ea_
   subst ec_
   clear en_
   have p236 : 0 ≤ ((ji6) : Int) := odt
   have q236 : (ji6) < (((rd_T41 l0 x1_1).f4).length : Int) := odt
   obtain ⟨ad236, e236, hx236_0⟩ := Kd.at_int HR234_4.out (ji6) p236 q236
   cases e236
   replace p236 := eq_true p236
   replace q236 := eq_true q236
   go_wp2
   repeat (go_quiet (fail); try go_wp2)
   go_roundg k1
   case measure => have := HK1.out; omega
   case rel => exact ⟨(rd ((rd_T41 l0 x1_1).f4) (ji6)), (by first | rfl | (simp; done) | (simp only [← hji6] <;> (first | rfl | simp)) | (simp [*]; done)), H', ⟨by have := HK1.out; omega⟩, drw⟩

/-! ### slices_Clone_int_int: function 41 (a text given by hand: clone.tmpl) -/
-- @import Derived.Test.YtcbcojbhbhaimaaDoorShelf
def slices_Clone_int_int.f (l0 : List Int) : Option (List Int) := if l0.length ≤ 17592186044416 then some l0 else none
theorem cell_spotI {w : World} {ad : Addr} {v : Value} (h : w.cell? ad = some v) : ad.spot = none := by
 rcases ad with ⟨b, o, s⟩
 cases s with
 | none => rfl
 | some s =>
  simp [World.cell?] at h
  split at h <;> cases h
theorem slices_Clone_int_int.calls (A0 : Option Addr) (c0 : Nat) (l0 r : List Int) (w : World) (hr0 : Kd.C (Kd.int .i64) w A0 l0.length l0) (hc0 : l0.length ≤ c0) (h : slices_Clone_int_int.f l0 = some r) :
 Calls Tryd.prog 41 #[.slice A0 l0.length c0] w fun e w' => ∃ v0_ : Value, e = .returned v0_ ∧ Kd.R (Kd.int .i64) 3 w' w.heap.size (fun _ => True) v0_ r ∧ Below w.heap.size w w' := by
 unfold slices_Clone_int_int.f at h
 by_cases hl : l0.length ≤ 17592186044416
 case neg => rw [if_neg hl] at h; cases h
 rw [if_pos hl] at h
 obtain rfl := Option.some.inj h
 cases A0 with
 | none =>
  have h0 : l0.length = 0 := by
   rcases Nat.eq_zero_or_pos l0.length with h0 | h0
   ·exact h0
   ·obtain ⟨ad, e, _⟩ := hr0.2.2 h0
    cases e
  obtain rfl : l0 = [] := List.eq_nil_of_length_eq_zero h0
  refine (Tryd.slices_Clone_int_nil 0 c0 w).mono ?_
  rintro e w' ⟨rfl, rfl⟩
  exact ⟨_, rfl, Kd.R_nil _ _ _ _ _, Below.refl _ _⟩
 | some ad =>
  by_cases h0 : l0.length = 0
  ·obtain rfl : l0 = [] := List.eq_nil_of_length_eq_zero h0
   refine (Tryd.slices_Clone_int_zero ad c0 w).mono ?_
   rintro e w' ⟨v, rfl, ho, _, hb⟩
   exact ⟨v, rfl, Kd.R_of_own ho (fun _ _ => trivial), hb⟩
  ·obtain ⟨ad1, e1, hc1⟩ := Kd.at_int hr0 0 (by omega) (by omega)
   injection e1 with e1
   subst e1
   have hs : ad.spot = none := by
    have := cell_spotI hc1
    simpa [Addr.add] using this
   rcases ad with ⟨b, off, s⟩
   simp only at hs
   subst hs
   have hc : ∀ j, j < l0.length → w.cell? ⟨b, off + j, none⟩ = some (.int .i64 (l0.getD j 0)) := by
    intro j hj
    obtain ⟨ad2, e2, hc2⟩ := Kd.at_int hr0 (j : Int) (by omega) (by omega)
    injection e2 with e2
    subst e2
    rw [show (⟨b, off, none⟩ : Addr).add ((j : Int)).toNat = ⟨b, off + j, none⟩ by simp only [Addr.add, Int.toNat_natCast]; split <;> simp_all] at hc2
    rw [hc2]
    simp [rd]
   refine (Tryd.slices_Clone_int b off l0.length c0 l0 w (Nat.le_refl _) (by omega) hc).mono ?_
   rintro e w' ⟨v, rfl, ho, _, hb⟩
   rw [List.take_length] at ho
   exact ⟨v, rfl, Kd.R_of_own ho (fun _ _ => trivial), hb⟩

end Go.Proofs.YtcbcojbhbhaimaaDoor.PTreeTells
