import Derived.Test.YtcbcojbhbhaimaaDoorPTreeTellsx0
import Derived.Test.YtcbcojbhbhaimaaDoorPTreeTellsx2
import Derived.Laws.RangeString
import Derived.Laws.Runes
import Derived.Lib.LaidU8T
import Derived.MakeChecks
import Derived.Shelf.Unicode.ValidAny
import Derived.Test.YtcbcojbhbhaimaaDoorShelf
import Derived.WalkMore
namespace Go.Proofs.YtcbcojbhbhaimaaDoor.PTreeTells
open Go.RowKit Go.Proofs.YtcbcojbhbhaimaaDoorW.PrintWords Go.Proofs.YtcbcojbhbhaimaaDoorW.PrintLast Go.Proofs.YtcbcojbhbhaimaaDoorW.PrintMore
attribute [local go_sem high] c_add c_eql c_neq
attribute [local go_sem] f_store_c f_store_f f_add f_toint f_fold_eq f_fold_ne f_fold_lt f_fold_gt f_fold_le f_fold_ge
attribute [local go_sem] str_leq str_gtr str_geq max2_int min2_int max_two min_two max_three min_three max_four min_four   -- for this text's walks alone
set_option linter.unusedVariables false
set_option linter.unusedSimpArgs false

/-! ### oid_Decode: function 59 -/
def oid_Decode.f (k : Nat) (a0 : ByteArray) : Option (List Int × Bool) := (oid_numbers.f k a0).bind fun bt109 => (if bt109.2 = true then (if 0 < (bt109.1.length : Int) then ((some (([mn 2 (wrap64 (Int.tdiv (rd bt109.1 0) 40)), wrap64 ((rd bt109.1 0) - (wrap64 (40 * (mn 2 (wrap64 (Int.tdiv (rd bt109.1 0) 40))))))] : List Int) : List Int)).bind fun y115 => (if 1 ≤ (bt109.1.length : Int) then ((some (bt109.1.drop 1 : List Int)).bind fun y118 => (if y115.length + y118.length < 17592186044416 then ((some (y115 ++ y118 : List Int)).bind fun y122 => ((oid_Right.f k y122).bind fun t125 => (if t125 = true then (some (y122, true)) else (some (([] : List Int), false))))) else (none))) else (none))) else (none)) else (some (([] : List Int), false)))
theorem oid_Decode.mono : ∀ a0 k, LeO (oid_Decode.f k a0) (oid_Decode.f (k + 1) a0) := by
 intro a0 k
 unfold oid_Decode.f
 repeat' first
  | (with_reducible first | exact oid_Right.mono _ _ | exact oid_numbers.mono _ _ | exact LeO.refl _ | exact LeO.none _ | refine LeO.ite ?_ ?_ | refine LeO.bind ?_ (fun _ => ?_))
  | exact oid_Right.mono _ _
  | exact oid_numbers.mono _ _
  | exact LeO.none _
  | refine LeO.ite ?_ ?_
  | refine LeO.bind ?_ (fun _ => ?_)
def oid_Decode.T5 : Bool × List (List Nat × List Nat) := (true, [([], []), ([], []), ([1], [1]), ([2], [2]), ([], []), ([4], [4]), ([3, 5], [3, 5]), ([0, 6], [0, 6]), ([], []), ([8], [8]), ([7, 9], [7, 9]), ([10, 10, 0, 1, 2, 3, 4, 5, 6, 7, 8, 9, 10], [10])])
def oid_Decode.B5 : List Nat := [0, 0, 2, 6, 0, 16, 62, 127, 0, 256, 1023, 2047]
theorem oid_Decode.tab5 : rtab .any (opsOf Tryd.f59 5) = oid_Decode.T5 := by kernel_rfl
theorem oid_Decode.bits5 : waitsOk oid_Decode.T5.2 oid_Decode.B5 = true := by kernel_rfl
set_option maxHeartbeats 8000000 in
set_option maxRecDepth 100000 in
theorem oid_Decode.calls (k : Nat) (a0 : ByteArray) (r1 : List Int) (r2 : Bool) (w : World) (h : oid_Decode.f k a0 = some (r1, r2)) :
 Calls Tryd.prog 59 #[.string a0] w fun e w' => ∃ v0_ : Value, e = .returned (.tuple #[v0_, .bool r2]) ∧ Kd.R (Kd.int .i64) 3 w' w.heap.size (fun _ => True) v0_ r1 ∧ Below w.heap.size w w' := by
 have HB := Aside0.mk (Below.refl w.heap.size w)
 have H : ((oid_numbers.f k a0).bind fun bt109 => (if bt109.2 = true then (if 0 < (bt109.1.length : Int) then ((some (([mn 2 (wrap64 (Int.tdiv (rd bt109.1 0) 40)), wrap64 ((rd bt109.1 0) - (wrap64 (40 * (mn 2 (wrap64 (Int.tdiv (rd bt109.1 0) 40))))))] : List Int) : List Int)).bind fun y115 => (if 1 ≤ (bt109.1.length : Int) then ((some (bt109.1.drop 1 : List Int)).bind fun y118 => (if y115.length + y118.length < 17592186044416 then ((some (y115 ++ y118 : List Int)).bind fun y122 => ((oid_Right.f k y122).bind fun t125 => (if t125 = true then (some (y122, true)) else (some (([] : List Int), false))))) else (none))) else (none))) else (none)) else (some (([] : List Int), false)))) = some (r1, r2) := h
 clear h
 replace H := Option.bind_eq_some_iff.mp H
 obtain ⟨⟨t109, t110⟩, A20, H⟩ := H
 replace H : (if t110 = true then (if 0 < (t109.length : Int) then ((some (([mn 2 (wrap64 (Int.tdiv (rd t109 0) 40)), wrap64 ((rd t109 0) - (wrap64 (40 * (mn 2 (wrap64 (Int.tdiv (rd t109 0) 40))))))] : List Int) : List Int)).bind fun y115 => (if 1 ≤ (t109.length : Int) then ((some (t109.drop 1 : List Int)).bind fun y118 => (if y115.length + y118.length < 17592186044416 then ((some (y115 ++ y118 : List Int)).bind fun y122 => ((oid_Right.f k y122).bind fun t125 => (if t125 = true then (some (y122, true)) else (some (([] : List Int), false))))) else (none))) else (none))) else (none)) else (some (([] : List Int), false))) = some (r1, r2) := H
 have A2 := Aside0.mk A20
 clear A20
 by_cases c3 : t110 = true
 case neg =>
  replace c3 := Bool.eq_false_iff.mpr c3
  subst c3
  have H1 : (some (([] : List Int), false)) = some (r1, r2) := by rw [if_neg (show ¬ (false = true) by decide)] at H; exact H
  clear H
  have H := H1
  clear H1
  simp only [Option.some.injEq, Prod.mk.injEq] at H
  obtain ⟨rfl, rfl⟩ := H
  go_enter Tryd.func59, Tryd.ntmps59
  go_wp2_with (first | ((with_reducible refine gate_callee (f := 69) rfl ?_); refine goesL_ (some 10) rfl rfl Tryd.func69 (by kernel_rfl) rfl #[.string a0] rfl gargs ?_; (with_reducible refine (oid_numbers.calls k a0 t109 false _ A2.out).mono ?_); rintro e w26 ⟨v111, rfl, ho0, hb⟩; refine ⟨_, rfl, ?_⟩; have n0_ := Aside0.mk (Kd.R_lower ho0 (below_size blw)); have n1_ := Aside0.mk (below_step blw hb); clear HB; have HO112 := n0_; have HB := n1_; clear n0_ n1_; (try clear hb); (try clear hb2); (try clear hk); (try clear hi); (try clear ho0)))
  go_ret2
  exact ⟨_, rse, by first | exact Kd.R_nil _ _ _ _ _ | exact Kd.N_nil _ _ _ _ _ | exact Kd.V_nil _ _ _ _ _ | exact Kd.Q_nil _ _ _ _ _ | exact Kd.S_nil _ _ _ _ _, blw⟩
 subst c3
 have H1 : (if 0 < (t109.length : Int) then ((some (([mn 2 (wrap64 (Int.tdiv (rd t109 0) 40)), wrap64 ((rd t109 0) - (wrap64 (40 * (mn 2 (wrap64 (Int.tdiv (rd t109 0) 40))))))] : List Int) : List Int)).bind fun y115 => (if 1 ≤ (t109.length : Int) then ((some (t109.drop 1 : List Int)).bind fun y118 => (if y115.length + y118.length < 17592186044416 then ((some (y115 ++ y118 : List Int)).bind fun y122 => ((oid_Right.f k y122).bind fun t125 => (if t125 = true then (some (y122, true)) else (some (([] : List Int), false))))) else (none))) else (none))) else (none)) = some (r1, r2) := by rw [if_pos rfl] at H; exact H
 clear H
 have H := H1
 clear H1
 by_cases c4 : 0 < (t109.length : Int)
 case neg =>
  rw [if_neg c4] at H
  exact absurd H (by simp)
 rw [if_pos c4] at H
 have c4b0 : decide (0 < (t109.length : Int)) = true := decide_eq_true c4
 have c4b1 : decide (0 < t109.length) = true := decide_eq_true (by omega)
 clear c4
 obtain ⟨ji5, hji5⟩ : ∃ j_ : Int, (mn 2 (wrap64 (Int.tdiv (rd t109 0) 40))) = j_ := ⟨_, rfl⟩
 replace H : ((some (([ji5, wrap64 ((rd t109 0) - (wrap64 (40 * (ji5))))] : List Int) : List Int)).bind fun y115 => (if 1 ≤ (t109.length : Int) then ((some (t109.drop 1 : List Int)).bind fun y118 => (if y115.length + y118.length < 17592186044416 then ((some (y115 ++ y118 : List Int)).bind fun y122 => ((oid_Right.f k y122).bind fun t125 => (if t125 = true then (some (y122, true)) else (some (([] : List Int), false))))) else (none))) else (none))) = some (r1, r2) := by first | (rw [hji5] at H; exact H) | (simp only [hji5] at H ⊢; exact H)
 (try rw [hji5] at A2)
 (try (have hji5h : ji5 ≤ 2 := by (rw [← hji5]; unfold mn; (repeat' split) <;> omega)))
 (try (have hji5g : ji5 ≤ 64 := by omega))
 have hji5_ : (if (wrap64 (Int.tdiv (rd t109 0) 40)) < 2 then (wrap64 (Int.tdiv (rd t109 0) 40)) else 2) = ji5 := hji5
 obtain ⟨y115, hy115⟩ : ∃ y_ : List Int, y_ = (([ji5, wrap64 ((rd t109 0) - (wrap64 (40 * (ji5))))] : List Int)) := ⟨_, rfl⟩
 replace H : (if 1 ≤ (t109.length : Int) then ((some (t109.drop 1 : List Int)).bind fun y118 => (if y115.length + y118.length < 17592186044416 then ((some (y115 ++ y118 : List Int)).bind fun y122 => ((oid_Right.f k y122).bind fun t125 => (if t125 = true then (some (y122, true)) else (some (([] : List Int), false))))) else (none))) else (none)) = some (r1, r2) := by first | (rw [hy115]; with_reducible exact H) | (have H2_ := (Option.bind_some _ _).symm.trans H; rw [hy115]; with_reducible exact H2_) | (have H2_ := (Option.bind_some _ _).symm.trans H; with_reducible exact H2_) | with_reducible exact H | (rw [hy115]; exact H) | exact H
 have Ny115 := Aside0.mk hy115
 clear hy115
 by_cases c6 : 1 ≤ (t109.length : Int)
 case neg =>
  rw [if_neg c6] at H
  exact absurd H (by simp)
 rw [if_pos c6] at H
 have c6b0 := eq_true c6
 have c6b1 : decide (1 ≤ (t109.length : Int)) = true := decide_eq_true c6
 clear c6
 obtain ⟨y118, hy118⟩ : ∃ y_ : List Int, y_ = (t109.drop 1) := ⟨_, rfl⟩
 replace H : (if y115.length + y118.length < 17592186044416 then ((some (y115 ++ y118 : List Int)).bind fun y122 => ((oid_Right.f k y122).bind fun t125 => (if t125 = true then (some (y122, true)) else (some (([] : List Int), false))))) else (none)) = some (r1, r2) := by first | (rw [hy118]; with_reducible exact H) | (have H2_ := (Option.bind_some _ _).symm.trans H; rw [hy118]; with_reducible exact H2_) | (have H2_ := (Option.bind_some _ _).symm.trans H; with_reducible exact H2_) | with_reducible exact H | (rw [hy118]; exact H) | exact H
 have Ny118 := Aside0.mk hy118
 clear hy118
 by_cases c7 : y115.length + y118.length < 17592186044416
 case neg =>
  rw [if_neg c7] at H
  exact absurd H (by simp)
 rw [if_pos c7] at H
 have LMc7 := Aside0.mk c7
 clear c7
 obtain ⟨y122, hy122⟩ : ∃ y_ : List Int, y_ = (y115 ++ y118) := ⟨_, rfl⟩
 replace H : ((oid_Right.f k y122).bind fun t125 => (if t125 = true then (some (y122, true)) else (some (([] : List Int), false)))) = some (r1, r2) := by first | (rw [hy122]; with_reducible exact H) | (have H2_ := (Option.bind_some _ _).symm.trans H; rw [hy122]; with_reducible exact H2_) | (have H2_ := (Option.bind_some _ _).symm.trans H; with_reducible exact H2_) | with_reducible exact H | (rw [hy122]; exact H) | exact H
 have Ny122 := Aside0.mk hy122
 clear hy122
 replace H := Option.bind_eq_some_iff.mp H
 obtain ⟨t125, A80, H⟩ := H
 replace H : (if t125 = true then (some (y122, true)) else (some (([] : List Int), false))) = some (r1, r2) := H
 have A8 := Aside0.mk A80
 clear A80
 by_cases c9 : t125 = true
 case pos =>
  subst c9
  have H1 : (some (y122, true)) = some (r1, r2) := by rw [if_pos rfl] at H; exact H
  clear H
  have H := H1
  clear H1
  simp only [Option.some.injEq, Prod.mk.injEq] at H
  obtain ⟨rfl, rfl⟩ := H
  go_enter Tryd.func59, Tryd.ntmps59
  try go_wp2_with (first | ((with_reducible refine gate_callee (f := 69) rfl ?_); refine goesL_ (some 10) rfl rfl Tryd.func69 (by kernel_rfl) rfl #[.string a0] rfl gargs ?_; (with_reducible refine (oid_numbers.calls k a0 t109 true _ A2.out).mono ?_); rintro e w10 ⟨v111, rfl, ho0, hb⟩; refine ⟨_, rfl, ?_⟩; have n0_ := Aside0.mk (Kd.R_lower ho0 (below_size blw)); have n1_ := Aside0.mk (below_step blw hb); clear HB; have HO112 := n0_; have HB := n1_; clear n0_ n1_; (try clear hb); (try clear hb2); (try clear hk); (try clear hi); (try clear ho0); obtain ⟨Ao11, co11, eo11⟩ := Kd.R_slice HO112.out; subst eo11; have p113 : 0 ≤ (0 : Int) := (by omega); have q113 : 0 < (t109.length : Int) := odt; obtain ⟨ad113, e113, hx113_0⟩ := Kd.at_int (Kd.R_reads' HO112.out).2.2 0 p113 q113; cases e113; have qi113 : (0 < t109.length) = True := eq_true (by omega); (try rw [show ((0 : Int)).toNat = 0 from rfl] at hx113_0); (try rw [Addr.add_zero'] at hx113_0); replace p113 := eq_true p113; replace q113 := eq_true q113))
  have n0_ := Aside0.mk (Kd.R_drew HO112.out)
  have n1_ := Aside0.mk (below_drew1 HB.out)
  clear HO112
  clear HB
  have HO112 := n0_
  have HB := n1_
  clear n0_ n1_
  have p114 : 0 ≤ (0 : Int) := (by omega)
  have q114 : 0 < (t109.length : Int) := odt
  obtain ⟨ad114, e114, hx114_0⟩ := Kd.at_int (Kd.R_reads' HO112.out).2.2 0 p114 q114
  obtain rfl : ad113 = ad114 := (by injection e114)
  have qi114 : (0 < t109.length) = True := eq_true (by omega)
  (try rw [show ((0 : Int)).toNat = 0 from rfl] at hx114_0)
  (try rw [Addr.add_zero'] at hx114_0)
  replace p114 := eq_true p114
  replace q114 := eq_true q114
  have q13 : (1 : Int) ≤ ((t109.length : Int) : Int) := odt
  obtain ⟨i013, hi013, _, hsz13, _⟩ := info_parts info3
  have hroom13 : t109.length ≤ co11 := (Kd.R_reads' HO112.out).2.1
  have hC13 : Kd.C (Kd.int .i64) _ (some ad113) t109.length t109 := (Kd.R_reads' HO112.out).2.2
  have hcut13 := cut_from (P := Tryd.prog) 39 3 .i64 Tryd.underlying39 hi013 1 hsz13 (some ad113) t109.length co11 1 (by omega) q13
  have hr13 := Kd.C_drop (m := (1 : Int).toNat) (c := co11) hC13 (by omega) hroom13
  obtain ⟨A13, hA13⟩ : ∃ A1, A1 = (if co11 = (1 : Int).toNat then (some ad113) else ((some ad113) : Option Addr).map (·.add ((1 : Int).toNat * 1))) := ⟨_, rfl⟩
  obtain ⟨c13, hc13⟩ : ∃ c1, c1 = co11 - (1 : Int).toNat := ⟨_, rfl⟩
  have hy13 : y118.length = t109.length - (1 : Int).toNat := (by rw [Ny118.out, List.length_drop] <;> omega)
  rw [show (t109).drop (1 : Int).toNat = y118 from Ny118.out.symm] at hr13
  replace hr13 : Kd.C (Kd.int .i64) _ A13 y118.length y118 := (by rw [hA13]; exact hr13)
  rw [← hy13, ← hA13, ← hc13] at hcut13
  have HR121 := Aside0.mk hr13
  have HC121 := Aside0.mk (show y118.length ≤ c13 from by rw [hy13, hc13]; exact Nat.sub_le_sub_right hroom13 _)
  clear hr13 hC13 hroom13 hi013 hsz13 hc13
  have KY13 := Aside0.mk hy13
  have KA13 := Aside0.mk hA13
  clear hy13 hA13
  have KL13 := Aside0.mk (show 1 ≤ t109.length from by omega)
  replace q13 := eq_true q13
  refine start_ (n := 12) (S := fun w' => w'.cell? ad113 = some (.int .i64 (rd t109 0))) (ds := [10]) #[false, false, false, false, false, false, false, false, false, false, false, false] (by kernel_rfl) rfl rfl (hx114_0) (fun hHeld => ?_); refine with_tabW oid_Decode.tab5 oid_Decode.bits5 (fun HG_ HW_ => ?_)
  generalize w10.drew = w12 at HO112 HB HR121 hx114_0 hHeld ⊢
  refine pu 0 (some 20) ?_
  refine pu 1 (some 21) ?_
  refine pu 2 (some 22) ?_
  refine pu 4 (some 24) ?_
  refine pu 5 (some 25) ?_
  refine pu 8 (some 28) ?_
  refine pu 9 (some 29) ?_
  refine take_ (i := 3) (N := some 23) (v := ?_) (a' := ?_) #[true, true, true, true, true, true, false, false, true, true, false, false] rfl rfl (take_ofW HG_.out HW_.out (by kernel_rfl)) (fun _ _ _ h => h) (Or.inl ⟨by rfl, ?_⟩) hHeld ?_ ?_
  rotate_left
  ·intro w' s0
   go_simp
   with_reducible rfl
  rotate_left
  ·simp only [Act.put, List.setIfInBounds_toArray, List.set_cons_zero, List.set_cons_succ, i64_w, i32_w]
   rfl
  refine pu 6 (some 26) ?_
  refine one_ (i := 7) (N := some 27) #[true, true, true, true, true, true, true, true, true, true, false, false] rfl rfl (one_of HG_.out (by kernel_rfl)) (by decide) (fun K hK => ?_)
  refine Kd.R_lit_step (Kd.int .i64) _ 3 ?hg (N := 27) ?hd (xs := ([ji5, wrap64 ((rd t109 0) - (wrap64 (40 * (ji5))))] : List Int)) (inner := [.int .i64 ji5, .int .i64 (wrap64 ((rd t109 0) - (wrap64 (40 * (ji5)))))]) (ok := fun _ => True) (okp := fun _ => True) ?hr ?hp (fun _ hk => hk) trivial (Below.refl _ _) (Nat.le_refl _) (by simp) ?_; (case hd => rfl); (case hg => rfl); (case hr => first | (go_simp; done) | (go_simp; rfl)); (case hp => exact (Reps.one (show Kd.M (Kd.int .i64) _ _ _ ji5 [.int .i64 ji5] from rfl) (Reps.one (show Kd.M (Kd.int .i64) _ _ _ (wrap64 ((rd t109 0) - (wrap64 (40 * (ji5))))) [.int .i64 (wrap64 ((rd t109 0) - (wrap64 (40 * (ji5)))))] from rfl) (Reps.none _ _))))
  intro v116 w14 ho15 hb hg_ hnew_
  have HS0_ := (hb.cell (World.block_lt_of_cell? _ _ (hHeld))).trans (hHeld)
  clear hg_ hnew_
  (first | rw [← Ny115.out] at ho15 | (simp only [Int.reduceToNat] at ho15; rw [← Ny115.out] at ho15))
  have n0_ := Aside0.mk (Kd.R_elder' (roW HO112.out) (Kd.R_base ho15) hb)
  have n1_ := Aside0.mk (Kd.R_lower (Kd.R_new' ho15 (Kd.R_lt (roW HO112.out))) (below_size blw))
  have n2_ := Aside0.mk (Kd.C_below (by repeat (first | (with_reducible exact HR121.out) | (with_reducible refine Kd.C_alloc ?_ _) | (with_reducible refine Kd.C_drewN ?_ _) | (with_reducible refine Kd.C_drew ?_) | exact HR121.out)) hb)
  have n3_ := Aside0.mk (below_step blw hb)
  clear HO112
  clear HR121
  clear HB
  have HO112 := n0_
  have HO117 := n1_
  have HR121 := n2_
  have HB := n3_
  clear n0_ n1_ n2_ n3_
  clear hb ho15
  refine hK.out _ _ (HS0_) (fun hHeld => ?_)
  clear hK K
  refine norm_ (a' := ?_) ?_ ?_
  rotate_left
  ·show Act.put _ (some 27) _ = _
   simp only [Act.put, List.setIfInBounds_toArray, List.set_cons_zero, List.set_cons_succ, i64_w, i32_w]
   rfl
  refine last_ (i := 10) (N := some 30) #[true, true, true, true, true, true, true, true, true, true, true, false] rfl rfl (one_of HG_.out (by kernel_rfl)) (by decide) (fun K hK => ?_)
  refine Kd.R_append_rows_step (Kd.int .i64) (w0 := w) w.heap.size (by rfl) (.tmp 27) (.tmp 29) 39 3 (.int .i64 0) 8 rfl Tryd.underlying39 info3 rfl (by decide) (by omega) v116 y115 y118 _ _ _ (fun k_ => some k_ ≠ (.slice (some ad113) t109.length co11 : Value).ownBlock) (fun _ => False) rfl rfl ?aO ?aR (fun _ _ h => h) (fun _ h => h.elim) ?aF ?aB ?aS ?aL ?_
  (case aR => repeat (first | exact (by repeat (first | (with_reducible exact HR121.out) | (with_reducible refine Kd.C_alloc ?_ _) | (with_reducible refine Kd.C_drewN ?_ _) | (with_reducible refine Kd.C_drew ?_) | exact HR121.out)) | (with_reducible refine Kd.C_alloc ?_ _) | (with_reducible refine Kd.C_drewN ?_ _) | (with_reducible refine Kd.C_drew ?_)))
  (case aB => exact blw)
  (case aF => exact (fun k_ hk => Kd.fresh' (Kd.R_lt (roW HO112.out)) k_ hk))
  (case aO => exact (by (with_reducible repeat (first | apply Kd.R_alloc | apply Kd.R_drewN | apply Kd.R_drew)); exact Kd.R_mono HO117.out (fun _ hk => hk.2)))
  (case aS => exact (below_size blw))
  (case aL => have := LMc7.out; omega)
  intro v123 w16 ho hb hg hat
  rw [← Ny122.out] at ho
  have n0_ := Aside0.mk (Kd.R_after (ok := (fun _ => True)) (roW HO112.out) hg hat)
  have n1_ := Aside0.mk (hb)
  have n2_ := Aside0.mk ((show Kd.C (Kd.int .i64) w16 A13 y118.length y118 from by rw [Ny118.out, KA13.out]; exact Kd.C_drop (m := 1) (c := co11) ((Kd.R_reads' (Kd.R_after (ok := (fun _ => True)) (roW HO112.out) hg hat)).2.2) KL13.out ((Kd.R_reads' (Kd.R_after (ok := (fun _ => True)) (roW HO112.out) hg hat)).2.1)))
  have n3_ := Aside0.mk (ho)
  clear HO112
  clear HB
  clear HR121
  clear HO117
  have HO112 := n0_
  have HB := n1_
  have HR121 := n2_
  have HO124 := n3_
  clear n0_ n1_ n2_ n3_
  clear ho hb hg hat
  refine hK.out _ _ ?_
  clear hK K
  refine norm_ (a' := ?_) ?_ ?_
  rotate_left
  ·show Act.put _ (some 30) _ = _
   simp only [Act.put, List.setIfInBounds_toArray, List.set_cons_zero, List.set_cons_succ, i64_w, i32_w]
   rfl
  refine pu 11 (some 7) ?_
  refine done_ (done_of HG_.out (by kernel_rfl)) ?_
  obtain ⟨Ao17, co17, eo17⟩ := Kd.R_slice HO124.out
  subst eo17
  try go_wp2_with (first | ((with_reducible refine gate_callee (f := 70) rfl ?_); refine goesL_ (some 32) rfl rfl Tryd.func70 (by kernel_rfl) rfl #[.slice Ao17 y122.length co17] rfl gargs ?_; (with_reducible refine (oid_Right.calls k _ _ y122 true _ ?side1 ?side2 A8.out).mono ?_); (case side1 => exact kcW (Kd.R_reads' HO124.out).2.2); (case side2 => exact (Kd.R_reads' HO124.out).2.1); rintro e w' ⟨rfl, ⟨nd, rfl⟩⟩; refine ⟨_, rfl, ?_⟩))
  go_ret2
  exact ⟨_, by first | rfl | (simp [errW_none, errW_some] <;> rfl) | (simp only [← hji5]; first | rfl | (simp [errW_none, errW_some] <;> rfl)) | (simp [*, errW_none, errW_some] <;> rfl), by (with_reducible repeat (first | apply Kd.R_alloc | apply Kd.R_drewN | apply Kd.R_drew)); exact Kd.R_mono HO124.out (fun _ hk => trivial), blw⟩
 replace c9 := Bool.eq_false_iff.mpr c9
 subst c9
 have H1 : (some (([] : List Int), false)) = some (r1, r2) := by rw [if_neg (show ¬ (false = true) by decide)] at H; exact H
 clear H
 have H := H1
 clear H1
 simp only [Option.some.injEq, Prod.mk.injEq] at H
 obtain ⟨rfl, rfl⟩ := H
 go_enter Tryd.func59, Tryd.ntmps59
 try go_wp2_with (first | ((with_reducible refine gate_callee (f := 69) rfl ?_); refine goesL_ (some 10) rfl rfl Tryd.func69 (by kernel_rfl) rfl #[.string a0] rfl gargs ?_; (with_reducible refine (oid_numbers.calls k a0 t109 true _ A2.out).mono ?_); rintro e w18 ⟨v111, rfl, ho0, hb⟩; refine ⟨_, rfl, ?_⟩; have n0_ := Aside0.mk (Kd.R_lower ho0 (below_size blw)); have n1_ := Aside0.mk (below_step blw hb); clear HB; have HO112 := n0_; have HB := n1_; clear n0_ n1_; (try clear hb); (try clear hb2); (try clear hk); (try clear hi); (try clear ho0); obtain ⟨Ao19, co19, eo19⟩ := Kd.R_slice HO112.out; subst eo19; have p113 : 0 ≤ (0 : Int) := (by omega); have q113 : 0 < (t109.length : Int) := odt; obtain ⟨ad113, e113, hx113_0⟩ := Kd.at_int (Kd.R_reads' HO112.out).2.2 0 p113 q113; cases e113; have qi113 : (0 < t109.length) = True := eq_true (by omega); (try rw [show ((0 : Int)).toNat = 0 from rfl] at hx113_0); (try rw [Addr.add_zero'] at hx113_0); replace p113 := eq_true p113; replace q113 := eq_true q113))
 have n0_ := Aside0.mk (Kd.R_drew HO112.out)
 have n1_ := Aside0.mk (below_drew1 HB.out)
 clear HO112
 clear HB
 have HO112 := n0_
 have HB := n1_
 clear n0_ n1_
 have p114 : 0 ≤ (0 : Int) := (by omega)
 have q114 : 0 < (t109.length : Int) := odt
 obtain ⟨ad114, e114, hx114_0⟩ := Kd.at_int (Kd.R_reads' HO112.out).2.2 0 p114 q114
 obtain rfl : ad113 = ad114 := (by injection e114)
 have qi114 : (0 < t109.length) = True := eq_true (by omega)
 (try rw [show ((0 : Int)).toNat = 0 from rfl] at hx114_0)
 (try rw [Addr.add_zero'] at hx114_0)
 replace p114 := eq_true p114
 replace q114 := eq_true q114
 have q21 : (1 : Int) ≤ ((t109.length : Int) : Int) := odt
 obtain ⟨i021, hi021, _, hsz21, _⟩ := info_parts info3
 have hroom21 : t109.length ≤ co19 := (Kd.R_reads' HO112.out).2.1
 have hC21 : Kd.C (Kd.int .i64) _ (some ad113) t109.length t109 := (Kd.R_reads' HO112.out).2.2
 have hcut21 := cut_from (P := Tryd.prog) 39 3 .i64 Tryd.underlying39 hi021 1 hsz21 (some ad113) t109.length co19 1 (by omega) q21
 have hr21 := Kd.C_drop (m := (1 : Int).toNat) (c := co19) hC21 (by omega) hroom21
 obtain ⟨A21, hA21⟩ : ∃ A1, A1 = (if co19 = (1 : Int).toNat then (some ad113) else ((some ad113) : Option Addr).map (·.add ((1 : Int).toNat * 1))) := ⟨_, rfl⟩
 obtain ⟨c21, hc21⟩ : ∃ c1, c1 = co19 - (1 : Int).toNat := ⟨_, rfl⟩
 have hy21 : y118.length = t109.length - (1 : Int).toNat := (by rw [Ny118.out, List.length_drop] <;> omega)
 rw [show (t109).drop (1 : Int).toNat = y118 from Ny118.out.symm] at hr21
 replace hr21 : Kd.C (Kd.int .i64) _ A21 y118.length y118 := (by rw [hA21]; exact hr21)
 rw [← hy21, ← hA21, ← hc21] at hcut21
 have HR121 := Aside0.mk hr21
 have HC121 := Aside0.mk (show y118.length ≤ c21 from by rw [hy21, hc21]; exact Nat.sub_le_sub_right hroom21 _)
 clear hr21 hC21 hroom21 hi021 hsz21 hc21
 have KY21 := Aside0.mk hy21
 have KA21 := Aside0.mk hA21
 clear hy21 hA21
 have KL21 := Aside0.mk (show 1 ≤ t109.length from by omega)
 replace q21 := eq_true q21
 refine start_ (n := 12) (S := fun w' => w'.cell? ad113 = some (.int .i64 (rd t109 0))) (ds := [10]) #[false, false, false, false, false, false, false, false, false, false, false, false] (by kernel_rfl) rfl rfl (hx114_0) (fun hHeld => ?_); refine with_tabW oid_Decode.tab5 oid_Decode.bits5 (fun HG_ HW_ => ?_)
 generalize w18.drew = w20 at HO112 HB HR121 hx114_0 hHeld ⊢
 refine pu 0 (some 20) ?_
 refine pu 1 (some 21) ?_
 refine pu 2 (some 22) ?_
 refine pu 4 (some 24) ?_
 refine pu 5 (some 25) ?_
 refine pu 8 (some 28) ?_
 refine pu 9 (some 29) ?_
 refine take_ (i := 3) (N := some 23) (v := ?_) (a' := ?_) #[true, true, true, true, true, true, false, false, true, true, false, false] rfl rfl (take_ofW HG_.out HW_.out (by kernel_rfl)) (fun _ _ _ h => h) (Or.inl ⟨by rfl, ?_⟩) hHeld ?_ ?_
 rotate_left
 ·intro w' s0
  go_simp
  with_reducible rfl
 rotate_left
 ·simp only [Act.put, List.setIfInBounds_toArray, List.set_cons_zero, List.set_cons_succ, i64_w, i32_w]
  rfl
 refine pu 6 (some 26) ?_
 refine one_ (i := 7) (N := some 27) #[true, true, true, true, true, true, true, true, true, true, false, false] rfl rfl (one_of HG_.out (by kernel_rfl)) (by decide) (fun K hK => ?_)
 refine Kd.R_lit_step (Kd.int .i64) _ 3 ?hg (N := 27) ?hd (xs := ([ji5, wrap64 ((rd t109 0) - (wrap64 (40 * (ji5))))] : List Int)) (inner := [.int .i64 ji5, .int .i64 (wrap64 ((rd t109 0) - (wrap64 (40 * (ji5)))))]) (ok := fun _ => True) (okp := fun _ => True) ?hr ?hp (fun _ hk => hk) trivial (Below.refl _ _) (Nat.le_refl _) (by simp) ?_; (case hd => rfl); (case hg => rfl); (case hr => first | (go_simp; done) | (go_simp; rfl)); (case hp => exact (Reps.one (show Kd.M (Kd.int .i64) _ _ _ ji5 [.int .i64 ji5] from rfl) (Reps.one (show Kd.M (Kd.int .i64) _ _ _ (wrap64 ((rd t109 0) - (wrap64 (40 * (ji5))))) [.int .i64 (wrap64 ((rd t109 0) - (wrap64 (40 * (ji5)))))] from rfl) (Reps.none _ _))))
 intro v116 w22 ho23 hb hg_ hnew_
 have HS0_ := (hb.cell (World.block_lt_of_cell? _ _ (hHeld))).trans (hHeld)
 clear hg_ hnew_
 (first | rw [← Ny115.out] at ho23 | (simp only [Int.reduceToNat] at ho23; rw [← Ny115.out] at ho23))
 have n0_ := Aside0.mk (Kd.R_elder' (roW HO112.out) (Kd.R_base ho23) hb)
 have n1_ := Aside0.mk (Kd.R_lower (Kd.R_new' ho23 (Kd.R_lt (roW HO112.out))) (below_size blw))
 have n2_ := Aside0.mk (Kd.C_below (by repeat (first | (with_reducible exact HR121.out) | (with_reducible refine Kd.C_alloc ?_ _) | (with_reducible refine Kd.C_drewN ?_ _) | (with_reducible refine Kd.C_drew ?_) | exact HR121.out)) hb)
 have n3_ := Aside0.mk (below_step blw hb)
 clear HO112
 clear HR121
 clear HB
 have HO112 := n0_
 have HO117 := n1_
 have HR121 := n2_
 have HB := n3_
 clear n0_ n1_ n2_ n3_
 clear hb ho23
 refine hK.out _ _ (HS0_) (fun hHeld => ?_)
 clear hK K
 refine norm_ (a' := ?_) ?_ ?_
 rotate_left
 ·show Act.put _ (some 27) _ = _
  simp only [Act.put, List.setIfInBounds_toArray, List.set_cons_zero, List.set_cons_succ, i64_w, i32_w]
  rfl
 refine last_ (i := 10) (N := some 30) #[true, true, true, true, true, true, true, true, true, true, true, false] rfl rfl (one_of HG_.out (by kernel_rfl)) (by decide) (fun K hK => ?_)
 refine Kd.R_append_rows_step (Kd.int .i64) (w0 := w) w.heap.size (by rfl) (.tmp 27) (.tmp 29) 39 3 (.int .i64 0) 8 rfl Tryd.underlying39 info3 rfl (by decide) (by omega) v116 y115 y118 _ _ _ (fun k_ => some k_ ≠ (.slice (some ad113) t109.length co19 : Value).ownBlock) (fun _ => False) rfl rfl ?aO ?aR (fun _ _ h => h) (fun _ h => h.elim) ?aF ?aB ?aS ?aL ?_
 (case aR => repeat (first | exact (by repeat (first | (with_reducible exact HR121.out) | (with_reducible refine Kd.C_alloc ?_ _) | (with_reducible refine Kd.C_drewN ?_ _) | (with_reducible refine Kd.C_drew ?_) | exact HR121.out)) | (with_reducible refine Kd.C_alloc ?_ _) | (with_reducible refine Kd.C_drewN ?_ _) | (with_reducible refine Kd.C_drew ?_)))
 (case aB => exact blw)
 (case aF => exact (fun k_ hk => Kd.fresh' (Kd.R_lt (roW HO112.out)) k_ hk))
 (case aO => exact (by (with_reducible repeat (first | apply Kd.R_alloc | apply Kd.R_drewN | apply Kd.R_drew)); exact Kd.R_mono HO117.out (fun _ hk => hk.2)))
 (case aS => exact (below_size blw))
 (case aL => have := LMc7.out; omega)
 intro v123 w24 ho hb hg hat
 rw [← Ny122.out] at ho
 have n0_ := Aside0.mk (Kd.R_after (ok := (fun _ => True)) (roW HO112.out) hg hat)
 have n1_ := Aside0.mk (hb)
 have n2_ := Aside0.mk ((show Kd.C (Kd.int .i64) w24 A21 y118.length y118 from by rw [Ny118.out, KA21.out]; exact Kd.C_drop (m := 1) (c := co19) ((Kd.R_reads' (Kd.R_after (ok := (fun _ => True)) (roW HO112.out) hg hat)).2.2) KL21.out ((Kd.R_reads' (Kd.R_after (ok := (fun _ => True)) (roW HO112.out) hg hat)).2.1)))
 have n3_ := Aside0.mk (ho)
 clear HO112
 clear HB
 clear HR121
 clear HO117
 have HO112 := n0_
 have HB := n1_
 have HR121 := n2_
 have HO124 := n3_
 clear n0_ n1_ n2_ n3_
 clear ho hb hg hat
 refine hK.out _ _ ?_
 clear hK K
 refine norm_ (a' := ?_) ?_ ?_
 rotate_left
 ·show Act.put _ (some 30) _ = _
  simp only [Act.put, List.setIfInBounds_toArray, List.set_cons_zero, List.set_cons_succ, i64_w, i32_w]
  rfl
 refine pu 11 (some 7) ?_
 refine done_ (done_of HG_.out (by kernel_rfl)) ?_
 obtain ⟨Ao25, co25, eo25⟩ := Kd.R_slice HO124.out
 subst eo25
 try go_wp2_with (first | ((with_reducible refine gate_callee (f := 70) rfl ?_); refine goesL_ (some 32) rfl rfl Tryd.func70 (by kernel_rfl) rfl #[.slice Ao25 y122.length co25] rfl gargs ?_; (with_reducible refine (oid_Right.calls k _ _ y122 false _ ?side1 ?side2 A8.out).mono ?_); (case side1 => exact kcW (Kd.R_reads' HO124.out).2.2); (case side2 => exact (Kd.R_reads' HO124.out).2.1); rintro e w' ⟨rfl, ⟨nd, rfl⟩⟩; refine ⟨_, rfl, ?_⟩))
 go_ret2
 exact ⟨_, by first | rfl | (simp [errW_none, errW_some] <;> rfl) | (simp only [← hji5]; first | rfl | (simp [errW_none, errW_some] <;> rfl)) | (simp [*, errW_none, errW_some] <;> rfl), by first | exact Kd.R_nil _ _ _ _ _ | exact Kd.N_nil _ _ _ _ _ | exact Kd.V_nil _ _ _ _ _ | exact Kd.Q_nil _ _ _ _ _ | exact Kd.S_nil _ _ _ _ _, blw⟩

/-! ### utf8_ValidString: function 71 (a text given by hand: strs.tmpl) -/
-- @import Derived.Test.YtcbcojbhbhaimaaDoorShelf
-- @import Derived.Shelf.Unicode.ValidAny
-- @import Derived.Lib.LaidU8T
-- @import Derived.MakeChecks
/-- What is listed of utf8's tables, in any later world. -/
theorem utf8_ValidString.tab {w : World} (h : TB w) : Lib.Utf8Tabs 0 1 w := by
 obtain ⟨W, hW, hB⟩ := h
 rw [MakeChecks.laidMetH_plain _ _ _ (by kernel_rfl)] at hW
 have hm1 : ("unicode/utf8.first", Lib.firstData) ∈ Rows.treeTellsRow.laid := by
  have e : Lib.firstData = Rows.laid_unicode_utf8_first := by kernel_rfl
  rw [e]
  repeat (first | exact List.mem_cons_self | apply List.mem_cons_of_mem)
 have hm2 : ("unicode/utf8.acceptRanges", Lib.acceptData) ∈ Rows.treeTellsRow.laid := by
  have e : Lib.acceptData = Rows.laid_unicode_utf8_acceptRanges := by kernel_rfl
  rw [e]
  repeat (first | exact List.mem_cons_self | apply List.mem_cons_of_mem)
 have h1 : Lib.Utf8Tabs 0 1 W := utf8Tabs_of_readsT (U8Types.of196 Tryd.laysValid) ⟨by kernel_rfl, by kernel_rfl, by kernel_rfl, by kernel_rfl, by kernel_rfl, by kernel_rfl, by kernel_rfl⟩ (Lib.laidMet.reads hW hm1) (Lib.laidMet.reads hW hm2)
 have mv : ∀ p v, W.cell? p = some v → w.cell? p = some v := fun p v hp => by
  have hlt := World.block_lt_of_cell? W _ hp
  unfold World.cell? at hp ⊢
  rw [hB.block _ hlt]
  exact hp
 exact ⟨fun c hc => mv _ _ (h1.1 c hc), fun i hi => ⟨mv _ _ (h1.2 i hi).1, mv _ _ (h1.2 i hi).2⟩⟩
def utf8_ValidString.f (a0 : ByteArray) : Option Bool := if a0.size ≤ 9223372036854775807 then some (Lib.validD a0.data.toList) else none
theorem utf8_ValidString.calls (a0 : ByteArray) (r : Bool) (w : World) (HT_ : Aside0 (TB w)) (h : utf8_ValidString.f a0 = some r) :
 Calls Tryd.prog 71 #[.string a0] w fun e w' => e = .returned (.bool r) ∧ Below w.heap.size w w' := by
 unfold utf8_ValidString.f at h
 split at h
 ·rename_i hc
  obtain rfl := Option.some.inj h
  exact Any.utf8_ValidString Tryd.laysValid a0 w hc (utf8_ValidString.tab HT_.out)
 ·cases h

/-! ### strs_Utf: function 60 -/
def strs_Utf.f (a0 : ByteArray) : Option (Bool) := (utf8_ValidString.f a0).bind fun t126 => (some t126)
set_option maxHeartbeats 8000000 in
set_option maxRecDepth 100000 in
theorem strs_Utf.calls (a0 : ByteArray) (r : Bool) (w : World) (HT_ : Aside0 (TB w)) (h : strs_Utf.f a0 = some r) :
 Calls Tryd.prog 60 #[.string a0] w fun e w' => e = .returned (.bool r) ∧ Below w.heap.size w w' := by
 have HB := Aside0.mk (Below.refl w.heap.size w)
 have H : ((utf8_ValidString.f a0).bind fun t126 => (some t126)) = some r := h
 clear h
 replace H := Option.bind_eq_some_iff.mp H
 obtain ⟨t126, A20, H⟩ := H
 replace H : (some t126) = some r := H
 have A2 := Aside0.mk A20
 clear A20
 obtain rfl := Option.some.inj H
 go_enter Tryd.func60, Tryd.ntmps60
 go_wp2_with (first | ((with_reducible refine gate_callee (f := 71) rfl ?_); refine goesL_ (some 4) rfl rfl Tryd.func71 (by kernel_rfl) rfl #[.string a0] rfl gargs ?_; (with_reducible refine (utf8_ValidString.calls a0 t126 _ ?tb_ A2.out).mono ?_); (case tb_ => exact tbw); rintro e w3 ⟨rfl, hb⟩; refine ⟨_, rfl, ?_⟩; replace HB := Aside0.mk (below_step blw hb); (try clear hb); (try clear hb2); (try clear hk); (try clear hi)))
 go_ret
 exact ⟨rse, blw⟩

/-! ### strings_IndexRune: function 81 (a text given by hand: strs.tmpl) -/
-- @import Derived.Test.YtcbcojbhbhaimaaDoorShelf
-- @import Derived.WalkMore
-- @import Derived.Laws.Runes
-- @import Derived.Laws.RangeString
def strings_IndexRune.others : ByteArray := ⟨#[32, 39, 40, 41, 43, 44, 45, 46, 47, 58, 61, 63]⟩
def strings_IndexRune.f (a0 : ByteArray) (a1 : Int) : Option Int := if 0 ≤ a1 ∧ a1 < 128 then some (Lib.indexByte a0.data.toList a1.toNat.toUInt8) else if a0 = strings_IndexRune.others ∧ 128 ≤ a1 then some (-1) else none
theorem index_far : ∀ (l : List UInt8) (c : UInt8), (∀ b ∈ l, b.toNat < 128) → 128 ≤ c.toNat → Lib.indexByte l c = -1
 | [], _, _, _ => rfl
 | b :: l, c, h, hc => by
  have hb := h b (by simp)
  have e : (b == c) = false := beq_eq_false_iff_ne.2 (fun e => by subst e; omega)
  have ih := index_far l c (fun x hx => h x (List.mem_cons_of_mem _ hx)) hc
  simp [Lib.indexByte, e, ih]
theorem below_iter (w : World) (s : ByteArray) (p : Nat) : Below w.heap.size w (w.iter s p) := below_alloc (Below.refl _ _) _
theorem strings_IndexRune.iw2 : IntKind.i64.wrap 2 = 2 := by decide
theorem strings_IndexRune.iw3 : IntKind.i64.wrap 3 = 3 := by decide
theorem strings_IndexRune.iw4 : IntKind.i64.wrap 4 = 4 := by decide
attribute [local go_sem] strings_IndexRune.iw2 strings_IndexRune.iw3 strings_IndexRune.iw4
set_option maxHeartbeats 8000000 in
set_option maxRecDepth 100000 in
theorem strings_IndexRune.err (w : World) : Calls Tryd.prog 81 #[.string (⟨#[32, 39, 40, 41, 43, 44, 45, 46, 47, 58, 61, 63]⟩ : ByteArray), .int .i32 65533] w fun e w' => e = .returned (.int .i64 (-1)) ∧ Below w.heap.size w w' := by
 have hn0 := fun ty => run_next_ascii (P := Tryd.prog) w (⟨#[32, 39, 40, 41, 43, 44, 45, 46, 47, 58, 61, 63]⟩ : ByteArray) 0 ty (by decide) (by decide)
 have hn1 := fun ty => run_next_ascii (P := Tryd.prog) w (⟨#[32, 39, 40, 41, 43, 44, 45, 46, 47, 58, 61, 63]⟩ : ByteArray) 1 ty (by decide) (by decide)
 have hn2 := fun ty => run_next_ascii (P := Tryd.prog) w (⟨#[32, 39, 40, 41, 43, 44, 45, 46, 47, 58, 61, 63]⟩ : ByteArray) 2 ty (by decide) (by decide)
 have hn3 := fun ty => run_next_ascii (P := Tryd.prog) w (⟨#[32, 39, 40, 41, 43, 44, 45, 46, 47, 58, 61, 63]⟩ : ByteArray) 3 ty (by decide) (by decide)
 have hn4 := fun ty => run_next_ascii (P := Tryd.prog) w (⟨#[32, 39, 40, 41, 43, 44, 45, 46, 47, 58, 61, 63]⟩ : ByteArray) 4 ty (by decide) (by decide)
 have hn5 := fun ty => run_next_ascii (P := Tryd.prog) w (⟨#[32, 39, 40, 41, 43, 44, 45, 46, 47, 58, 61, 63]⟩ : ByteArray) 5 ty (by decide) (by decide)
 have hn6 := fun ty => run_next_ascii (P := Tryd.prog) w (⟨#[32, 39, 40, 41, 43, 44, 45, 46, 47, 58, 61, 63]⟩ : ByteArray) 6 ty (by decide) (by decide)
 have hn7 := fun ty => run_next_ascii (P := Tryd.prog) w (⟨#[32, 39, 40, 41, 43, 44, 45, 46, 47, 58, 61, 63]⟩ : ByteArray) 7 ty (by decide) (by decide)
 have hn8 := fun ty => run_next_ascii (P := Tryd.prog) w (⟨#[32, 39, 40, 41, 43, 44, 45, 46, 47, 58, 61, 63]⟩ : ByteArray) 8 ty (by decide) (by decide)
 have hn9 := fun ty => run_next_ascii (P := Tryd.prog) w (⟨#[32, 39, 40, 41, 43, 44, 45, 46, 47, 58, 61, 63]⟩ : ByteArray) 9 ty (by decide) (by decide)
 have hn10 := fun ty => run_next_ascii (P := Tryd.prog) w (⟨#[32, 39, 40, 41, 43, 44, 45, 46, 47, 58, 61, 63]⟩ : ByteArray) 10 ty (by decide) (by decide)
 have hn11 := fun ty => run_next_ascii (P := Tryd.prog) w (⟨#[32, 39, 40, 41, 43, 44, 45, 46, 47, 58, 61, 63]⟩ : ByteArray) 11 ty (by decide) (by decide)
 have hn12 := fun ty => run_next_end (P := Tryd.prog) w (⟨#[32, 39, 40, 41, 43, 44, 45, 46, 47, 58, 61, 63]⟩ : ByteArray) 12 ty (by decide)
 go_enter Tryd.func81, Tryd.ntmps81
 go_wp2
 refine wp_loop_rounds 13 ?_
 repeat any_goals (rw [rounds_succ]; go_wp2)
 go_ret
 exact ⟨rfl, below_iter _ _ _⟩
set_option maxHeartbeats 8000000 in
set_option maxRecDepth 100000 in
theorem strings_IndexRune.bad (r : Int) (w : World) (h128 : 128 ≤ r) (hne : r ≠ 65533) (hv : Lib.validRune r = false) :
 Calls Tryd.prog 81 #[.string (⟨#[32, 39, 40, 41, 43, 44, 45, 46, 47, 58, 61, 63]⟩ : ByteArray), .int .i32 r] w fun e w' => e = .returned (.int .i64 (-1)) ∧ Below w.heap.size w w' := by
 have e1 : decide ((0 : Int) ≤ r) = true := decide_eq_true (by omega)
 have e2 : decide (r < 128) = false := decide_eq_false (by omega)
 have e3 : (r == 65533) = false := beq_eq_false_iff_ne.2 hne
 have e4 : (r != 65533) = true := bne_iff_ne.2 hne
 clear hne
 go_enter Tryd.func81, Tryd.ntmps81
 go_wp2_with (go_at_call 86; refine (Tryd.utf8_ValidRune _ _).mono ?_; rintro e w' ⟨rfl, rfl⟩)
 go_ret
 exact ⟨rfl, by repeat (first | exact Below.refl _ _ | apply below_drew1 | apply pw_below_drewN)⟩
set_option maxHeartbeats 8000000 in
set_option maxRecDepth 100000 in
theorem strings_IndexRune.far1 (r : Int) (w : World) (c : UInt8) (h128 : 128 ≤ r) (hne : r ≠ 65533) (hv : Lib.validRune r = true) (hsz : (Utf8.encode r).size = 2)
 (hc : ∀ h : 1 < (Utf8.encode r).size, (Utf8.encode r)[1]'h = c) (hc128 : 128 ≤ c.toNat)
 (C : ∀ W : World, Calls Tryd.prog 85 #[.string ⟨#[40, 41, 43, 44, 45, 46, 47, 58, 61, 63]⟩, .int .u8 (c.toNat : Int)] W fun e w' => e = .returned (.int .i64 (-1)) ∧ w' = W) :
 Calls Tryd.prog 81 #[.string ⟨#[32, 39, 40, 41, 43, 44, 45, 46, 47, 58, 61, 63]⟩, .int .i32 r] w fun e w' => e = .returned (.int .i64 (-1)) ∧ Below w.heap.size w w' := by
 have e1 : decide ((0 : Int) ≤ r) = true := decide_eq_true (by omega)
 have e2 : decide (r < 128) = false := decide_eq_false (by omega)
 have e3 : (r == 65533) = false := beq_eq_false_iff_ne.2 hne
 have e4 : (r != 65533) = true := bne_iff_ne.2 hne
 have e6 : (((⟨#[32, 39, 40, 41, 43, 44, 45, 46, 47, 58, 61, 63]⟩ : ByteArray)[1].toNat : Int) != (c.toNat : Int)) = true := bne_iff_ne.2 (show (39 : Int) ≠ _ by omega)
 have hx : (⟨#[32, 39, 40, 41, 43, 44, 45, 46, 47, 58, 61, 63]⟩ : ByteArray).extract 2 12 = ⟨#[40, 41, 43, 44, 45, 46, 47, 58, 61, 63]⟩ := by rfl
 clear hne
 go_enter Tryd.func81, Tryd.ntmps81
 go_wp2_with (go_at_call 86; refine (Tryd.utf8_ValidRune _ _).mono ?_; rintro e w' ⟨rfl, rfl⟩)
 go_step3
 go_wp2
 refine wp_loop_rounds 2 ?_
 rw [rounds_succ]; go_wp2
 go_step3
 go_wp2
 go_quiet (fail)
 go_wp2
 go_quiet ((go_at_call 85; refine (C _).mono ?_; rintro e w2 ⟨rfl, rfl⟩; exact ⟨rfl, _, rfl⟩))
 go_wp2
 simp only [Exit.noGoto, Exit.inBlock, Exit.then]
 refine bodyPost_ret (results_tmp rfl _ _ _) rfl ?_
 exact ⟨rfl, by repeat (first | exact Below.refl _ _ | apply below_drew1 | apply pw_below_drewN)⟩
set_option maxHeartbeats 8000000 in
set_option maxRecDepth 100000 in
theorem strings_IndexRune.far2 (r : Int) (w : World) (c : UInt8) (h128 : 128 ≤ r) (hne : r ≠ 65533) (hv : Lib.validRune r = true) (hsz : (Utf8.encode r).size = 3)
 (hc : ∀ h : 2 < (Utf8.encode r).size, (Utf8.encode r)[2]'h = c) (hc128 : 128 ≤ c.toNat)
 (C : ∀ W : World, Calls Tryd.prog 85 #[.string ⟨#[41, 43, 44, 45, 46, 47, 58, 61, 63]⟩, .int .u8 (c.toNat : Int)] W fun e w' => e = .returned (.int .i64 (-1)) ∧ w' = W) :
 Calls Tryd.prog 81 #[.string ⟨#[32, 39, 40, 41, 43, 44, 45, 46, 47, 58, 61, 63]⟩, .int .i32 r] w fun e w' => e = .returned (.int .i64 (-1)) ∧ Below w.heap.size w w' := by
 have e1 : decide ((0 : Int) ≤ r) = true := decide_eq_true (by omega)
 have e2 : decide (r < 128) = false := decide_eq_false (by omega)
 have e3 : (r == 65533) = false := beq_eq_false_iff_ne.2 hne
 have e4 : (r != 65533) = true := bne_iff_ne.2 hne
 have e6 : (((⟨#[32, 39, 40, 41, 43, 44, 45, 46, 47, 58, 61, 63]⟩ : ByteArray)[2].toNat : Int) != (c.toNat : Int)) = true := bne_iff_ne.2 (show (40 : Int) ≠ _ by omega)
 have hx : (⟨#[32, 39, 40, 41, 43, 44, 45, 46, 47, 58, 61, 63]⟩ : ByteArray).extract 3 12 = ⟨#[41, 43, 44, 45, 46, 47, 58, 61, 63]⟩ := by rfl
 clear hne
 go_enter Tryd.func81, Tryd.ntmps81
 go_wp2_with (go_at_call 86; refine (Tryd.utf8_ValidRune _ _).mono ?_; rintro e w' ⟨rfl, rfl⟩)
 go_step3
 go_wp2
 refine wp_loop_rounds 2 ?_
 rw [rounds_succ]; go_wp2
 go_step3
 go_wp2
 go_quiet (fail)
 go_wp2
 go_quiet ((go_at_call 85; refine (C _).mono ?_; rintro e w2 ⟨rfl, rfl⟩; exact ⟨rfl, _, rfl⟩))
 go_wp2
 simp only [Exit.noGoto, Exit.inBlock, Exit.then]
 refine bodyPost_ret (results_tmp rfl _ _ _) rfl ?_
 exact ⟨rfl, by repeat (first | exact Below.refl _ _ | apply below_drew1 | apply pw_below_drewN)⟩
set_option maxHeartbeats 8000000 in
set_option maxRecDepth 100000 in
theorem strings_IndexRune.far3 (r : Int) (w : World) (c : UInt8) (h128 : 128 ≤ r) (hne : r ≠ 65533) (hv : Lib.validRune r = true) (hsz : (Utf8.encode r).size = 4)
 (hc : ∀ h : 3 < (Utf8.encode r).size, (Utf8.encode r)[3]'h = c) (hc128 : 128 ≤ c.toNat)
 (C : ∀ W : World, Calls Tryd.prog 85 #[.string ⟨#[43, 44, 45, 46, 47, 58, 61, 63]⟩, .int .u8 (c.toNat : Int)] W fun e w' => e = .returned (.int .i64 (-1)) ∧ w' = W) :
 Calls Tryd.prog 81 #[.string ⟨#[32, 39, 40, 41, 43, 44, 45, 46, 47, 58, 61, 63]⟩, .int .i32 r] w fun e w' => e = .returned (.int .i64 (-1)) ∧ Below w.heap.size w w' := by
 have e1 : decide ((0 : Int) ≤ r) = true := decide_eq_true (by omega)
 have e2 : decide (r < 128) = false := decide_eq_false (by omega)
 have e3 : (r == 65533) = false := beq_eq_false_iff_ne.2 hne
 have e4 : (r != 65533) = true := bne_iff_ne.2 hne
 have e6 : (((⟨#[32, 39, 40, 41, 43, 44, 45, 46, 47, 58, 61, 63]⟩ : ByteArray)[3].toNat : Int) != (c.toNat : Int)) = true := bne_iff_ne.2 (show (41 : Int) ≠ _ by omega)
 have hx : (⟨#[32, 39, 40, 41, 43, 44, 45, 46, 47, 58, 61, 63]⟩ : ByteArray).extract 4 12 = ⟨#[43, 44, 45, 46, 47, 58, 61, 63]⟩ := by rfl
 clear hne
 go_enter Tryd.func81, Tryd.ntmps81
 go_wp2_with (go_at_call 86; refine (Tryd.utf8_ValidRune _ _).mono ?_; rintro e w' ⟨rfl, rfl⟩)
 go_step3
 go_wp2
 refine wp_loop_rounds 2 ?_
 rw [rounds_succ]; go_wp2
 go_step3
 go_wp2
 go_quiet (fail)
 go_wp2
 go_quiet ((go_at_call 85; refine (C _).mono ?_; rintro e w2 ⟨rfl, rfl⟩; exact ⟨rfl, _, rfl⟩))
 go_wp2
 simp only [Exit.noGoto, Exit.inBlock, Exit.then]
 refine bodyPost_ret (results_tmp rfl _ _ _) rfl ?_
 exact ⟨rfl, by repeat (first | exact Below.refl _ _ | apply below_drew1 | apply pw_below_drewN)⟩
theorem strings_IndexRune.calls (a0 : ByteArray) (a1 : Int) (r : Int) (w : World) (h : strings_IndexRune.f a0 a1 = some r) :
 Calls Tryd.prog 81 #[.string a0, .int .i32 a1] w fun e w' => e = .returned (.int .i64 r) ∧ Below w.heap.size w w' := by
 unfold strings_IndexRune.f at h
 split at h
 ·rename_i hc
  obtain rfl := Option.some.inj h
  refine (Tryd.strings_IndexRune_ascii a0 a1 w hc.1 hc.2).mono ?_
  rintro e w' ⟨rfl, rfl⟩
  exact ⟨rfl, Below.refl _ _⟩
 split at h
 ·rename_i hc hd
  obtain rfl := Option.some.inj h
  obtain ⟨rfl, h128⟩ := hd
  have hcs : ∀ (s : ByteArray) (c : UInt8), (∀ b ∈ s.data.toList, b.toNat < 128) → 128 ≤ c.toNat → ∀ W : World, Calls Tryd.prog 85 #[.string s, .int .u8 (c.toNat : Int)] W fun e w' => e = .returned (.int .i64 (-1)) ∧ w' = W := by
   intro s c hs hc W
   refine (Tryd.strings_IndexByte s (c.toNat : Int) W).mono ?_
   rintro e w' ⟨rfl, rfl⟩
   refine ⟨?_, rfl⟩
   rw [show ((c.toNat : Int)).toNat.toUInt8 = c by simp, index_far _ _ hs hc]
  by_cases he : a1 = 65533
  ·subst he
   exact strings_IndexRune.err w
  cases hv : Lib.validRune a1 with
  | false => exact strings_IndexRune.bad a1 w h128 he hv
  | true =>
   have hv2 : Utf8.valid a1 = true := by
    simp only [Lib.validRune, decide_eq_true_eq] at hv
    simp only [Utf8.valid, Bool.or_eq_true, Bool.and_eq_true, decide_eq_true_eq]
    omega
   obtain ⟨h2, h4, hl⟩ := encode_facts a1 hv2 h128
   rcases (by omega : (Utf8.encode a1).size = 2 ∨ (Utf8.encode a1).size = 3 ∨ (Utf8.encode a1).size = 4) with hs | hs | hs
   ·have hb := hl (by omega)
    exact strings_IndexRune.far1 a1 w ((Utf8.encode a1)[1]'(by omega)) h128 he hv hs (fun _ => rfl) (by simpa [hs] using hb) (hcs _ _ (by decide) (by simpa [hs] using hb))
   ·have hb := hl (by omega)
    exact strings_IndexRune.far2 a1 w ((Utf8.encode a1)[2]'(by omega)) h128 he hv hs (fun _ => rfl) (by simpa [hs] using hb) (hcs _ _ (by decide) (by simpa [hs] using hb))
   ·have hb := hl (by omega)
    exact strings_IndexRune.far3 a1 w ((Utf8.encode a1)[3]'(by omega)) h128 he hv hs (fun _ => rfl) (by simpa [hs] using hb) (hcs _ _ (by decide) (by simpa [hs] using hb))
 ·cases h

/-! ### strings_ContainsRune: function 73 -/
def strings_ContainsRune.f (a0 : ByteArray) (a1 : Int) : Option (Bool) := (strings_IndexRune.f a0 a1).bind fun t127 => (some (decide (t127 ≥ 0)))
set_option maxHeartbeats 8000000 in
set_option maxRecDepth 100000 in
theorem strings_ContainsRune.calls (a0 : ByteArray) (a1 : Int) (r : Bool) (w : World) (h : strings_ContainsRune.f a0 a1 = some r) :
 Calls Tryd.prog 73 #[.string a0, .int .i32 a1] w fun e w' => e = .returned (.bool r) ∧ Below w.heap.size w w' := by
 have HB := Aside0.mk (Below.refl w.heap.size w)
 have H : ((strings_IndexRune.f a0 a1).bind fun t127 => (some (decide (t127 ≥ 0)))) = some r := h
 clear h
 replace H := Option.bind_eq_some_iff.mp H
 obtain ⟨t127, A30, H⟩ := H
 replace H : (some (decide (t127 ≥ 0))) = some r := H
 have A3 := Aside0.mk A30
 clear A30
 obtain rfl := Option.some.inj H
 go_enter Tryd.func73, Tryd.ntmps73
 go_wp2_with (first | ((with_reducible refine gate_callee (f := 81) rfl ?_); refine goesL_ (some 7) rfl rfl Tryd.func81 (by kernel_rfl) rfl #[.string a0, .int .i32 a1] rfl gargs ?_; (with_reducible refine (strings_IndexRune.calls a0 a1 t127 _ A3.out).mono ?_); rintro e w4 ⟨rfl, hb⟩; refine ⟨_, rfl, ?_⟩; replace HB := Aside0.mk (below_step blw hb); (try clear hb); (try clear hb2); (try clear hk); (try clear hi)))
 go_ret
 exact ⟨rse, blw⟩

/-! ### strs_Printable_1: function 72 -/
mutual
def strs_Printable_1.j0 : Nat → Int → Bool → Option (Bool)
 | 0, _, _ => none
 | k + 1, x0, x3 => if x3 = true then (some false) else (if x0 ≥ 97 then (strs_Printable_1.j1 k x0 (decide (x0 ≤ 122))) else (strs_Printable_1.j1 k x0 false))
def strs_Printable_1.j1 : Nat → Int → Bool → Option (Bool)
 | 0, _, _ => none
 | k + 1, x0, x3 => if x3 = true then (some false) else (if x0 ≥ 48 then (if x0 ≤ 57 then (some false) else ((strings_ContainsRune.f (⟨#[32, 39, 40, 41, 43, 44, 45, 46, 47, 58, 61, 63]⟩ : ByteArray) x0).bind fun t128 => (some (!t128)))) else ((strings_ContainsRune.f (⟨#[32, 39, 40, 41, 43, 44, 45, 46, 47, 58, 61, 63]⟩ : ByteArray) x0).bind fun t129 => (some (!t129))))
end
def strs_Printable_1.f (k : Nat) (a0 : Int) : Option (Bool) := if a0 ≥ 65 then (strs_Printable_1.j0 k a0 (decide (a0 ≤ 90))) else (strs_Printable_1.j0 k a0 false)
theorem strs_Printable_1.mono_l : ∀ k, (∀ y0 y1, LeO (strs_Printable_1.j0 k y0 y1) (strs_Printable_1.j0 (k + 1) y0 y1)) ∧ (∀ y0 y1, LeO (strs_Printable_1.j1 k y0 y1) (strs_Printable_1.j1 (k + 1) y0 y1))
 | 0 => ⟨fun _ _ r h => by simp [strs_Printable_1.j0] at h, fun _ _ r h => by simp [strs_Printable_1.j1] at h⟩
 | k + 1 => by
  obtain ⟨ih0, ih1⟩ := strs_Printable_1.mono_l k
  refine ⟨?_, ?_⟩ <;> intros <;> first | unfold strs_Printable_1.j0 | unfold strs_Printable_1.j1
  all_goals repeat' first
  | (with_reducible first | exact ih0 _ _ | exact ih1 _ _ | exact LeO.refl _ | exact LeO.none _ | refine LeO.ite ?_ ?_ | refine LeO.bind ?_ (fun _ => ?_))
  | exact ih0 _ _
  | exact ih1 _ _
  | exact LeO.none _
  | refine LeO.ite ?_ ?_
  | refine LeO.bind ?_ (fun _ => ?_)
theorem strs_Printable_1.mono : ∀ a0 k, LeO (strs_Printable_1.f k a0) (strs_Printable_1.f (k + 1) a0) := by
 intro a0 k
 obtain ⟨ih0, ih1⟩ := strs_Printable_1.mono_l k
 unfold strs_Printable_1.f
 repeat' first
  | (with_reducible first | exact ih0 _ _ | exact ih1 _ _ | exact LeO.refl _ | exact LeO.none _ | refine LeO.ite ?_ ?_ | refine LeO.bind ?_ (fun _ => ?_))
  | exact ih0 _ _
  | exact ih1 _ _
  | exact LeO.none _
  | refine LeO.ite ?_ ?_
  | refine LeO.bind ?_ (fun _ => ?_)
set_option maxHeartbeats 8000000 in
set_option maxRecDepth 100000 in
theorem strs_Printable_1.calls (k : Nat) (a0 : Int) (r : Bool) (w : World) (h : strs_Printable_1.f k a0 = some r) :
 Calls Tryd.prog 72 #[.int .i32 a0] w fun e w' => e = .returned (.bool r) ∧ Below w.heap.size w w' := by
 have HB := Aside0.mk (Below.refl w.heap.size w)
 have H : (if a0 ≥ 65 then (strs_Printable_1.j0 k a0 (decide (a0 ≤ 90))) else (strs_Printable_1.j0 k a0 false)) = some r := h
 clear h
 have HC2 := Aside0.mk H
 clear H
 go_enter Tryd.func72, Tryd.ntmps72
 go_upto_region 1 with (fail)
 go_cut [3] (fun v3 wc => ∃ (kq : Nat) (x3_1 : Bool), v3 = .bool x3_1 ∧ Aside0 (strs_Printable_1.j0 kq a0 x3_1 = some r) ∧ Aside0 (kq ≤ k) ∧ Aside0 (Below w.heap.size w wc))
 case first =>
  have H := HC2.out
  clear HC2
  by_cases c3 : a0 ≥ 65
  case neg =>
   rw [if_neg c3] at H
   have c3b0 : decide (65 ≤ a0) = false := decide_eq_false c3
   clear c3
   (first | rw [c3b0] | (simp only [i64_w, i32_w]; rw [c3b0]) | rw [c3b1] | skip)
   have H' := Aside0.mk H
   clear H
   go_wp2
   go_meet
   case rel => exact ⟨_, (false), rsd, H', ⟨by first | omega | exact Nat.le_refl _⟩, ⟨blw⟩⟩
  rw [if_pos c3] at H
  have c3b0 : decide (65 ≤ a0) = true := decide_eq_true c3
  clear c3
  (first | rw [c3b0] | (simp only [i64_w, i32_w]; rw [c3b0]) | rw [c3b1] | skip)
  have H' := Aside0.mk H
  clear H
  go_wp2
  go_meet
  case rel => exact ⟨_, (decide (a0 ≤ 90)), rsd, H', ⟨by first | omega | exact Nat.le_refl _⟩, ⟨blw⟩⟩
 case rest =>
  clear HC2
  try clear c3
  try clear c3b0
  try clear c3b1
  obtain ⟨kq, x3_1, rfl, HA, HJ1, HB⟩ := hcut
  cases kq with
  | zero => exact absurd HA.out (by simp [strs_Printable_1.j0])
  | succ kj1 =>
   have H := HA.out
   clear HA
   simp only [strs_Printable_1.j0] at H
   by_cases c4 : x3_1 = true
   case pos =>
    subst c4
    have H1 : (some false) = some r := by rw [if_pos rfl] at H; exact H
    clear H
    have H := H1
    clear H1
    obtain rfl := Option.some.inj H
    go_wp2
    go_ret
    exact ⟨rse, blw⟩
   replace c4 := Bool.eq_false_iff.mpr c4
   subst c4
   have H1 : (if a0 ≥ 97 then (strs_Printable_1.j1 kj1 a0 (decide (a0 ≤ 122))) else (strs_Printable_1.j1 kj1 a0 false)) = some r := by rw [if_neg (show ¬ (false = true) by decide)] at H; exact H
   clear H
   have H := H1
   clear H1
   have HC5 := Aside0.mk H
   clear H
   go_upto_region 2 with (fail)
   go_cut [3] (fun v3 wc => ∃ (kq : Nat) (x3_4 : Bool), v3 = .bool x3_4 ∧ Aside0 (strs_Printable_1.j1 kq a0 x3_4 = some r) ∧ Aside0 (kq ≤ kj1) ∧ Aside0 (Below w.heap.size w wc))
   case first =>
    have H := HC5.out
    clear HC5
    by_cases c6 : a0 ≥ 97
    case neg =>
     rw [if_neg c6] at H
     have c6b0 : decide (97 ≤ a0) = false := decide_eq_false c6
     clear c6
     (first | rw [c6b0] | (simp only [i64_w, i32_w]; rw [c6b0]) | rw [c6b1] | skip)
     have H' := Aside0.mk H
     clear H
     go_wp2
     go_meet
     case rel => exact ⟨_, (false), rsd, H', ⟨by have := HJ1.out; first | omega | exact Nat.le_refl _⟩, ⟨blw⟩⟩
    rw [if_pos c6] at H
    have c6b0 : decide (97 ≤ a0) = true := decide_eq_true c6
    clear c6
    (first | rw [c6b0] | (simp only [i64_w, i32_w]; rw [c6b0]) | rw [c6b1] | skip)
    have H' := Aside0.mk H
    clear H
    go_wp2
    go_meet
    case rel => exact ⟨_, (decide (a0 ≤ 122)), rsd, H', ⟨by have := HJ1.out; first | omega | exact Nat.le_refl _⟩, ⟨blw⟩⟩
   case rest =>
    clear HC5
    try clear c3
    try clear c3b0
    try clear c3b1
    try clear c4
    try clear c6
    try clear c6b0
    try clear c6b1
    obtain ⟨kq, x3_4, rfl, HA, HJ4, HB⟩ := hcut
    cases kq with
    | zero => exact absurd HA.out (by simp [strs_Printable_1.j1])
    | succ kj4 =>
     have H := HA.out
     clear HA
     simp only [strs_Printable_1.j1] at H
     by_cases c7 : x3_4 = true
     case pos =>
      subst c7
      have H1 : (some false) = some r := by rw [if_pos rfl] at H; exact H
      clear H
      have H := H1
      clear H1
      obtain rfl := Option.some.inj H
      go_wp2
      go_ret
      exact ⟨rse, blw⟩
     replace c7 := Bool.eq_false_iff.mpr c7
     subst c7
     have H1 : (if a0 ≥ 48 then (if a0 ≤ 57 then (some false) else ((strings_ContainsRune.f (⟨#[32, 39, 40, 41, 43, 44, 45, 46, 47, 58, 61, 63]⟩ : ByteArray) a0).bind fun t128 => (some (!t128)))) else ((strings_ContainsRune.f (⟨#[32, 39, 40, 41, 43, 44, 45, 46, 47, 58, 61, 63]⟩ : ByteArray) a0).bind fun t129 => (some (!t129)))) = some r := by rw [if_neg (show ¬ (false = true) by decide)] at H; exact H
     clear H
     have H := H1
     clear H1
     by_cases c8 : a0 ≥ 48
     case neg =>
      rw [if_neg c8] at H
      have c8b0 : decide (48 ≤ a0) = false := decide_eq_false c8
      clear c8
      replace H := Option.bind_eq_some_iff.mp H
      obtain ⟨t129, A120, H⟩ := H
      replace H : (some (!t129)) = some r := H
      have A12 := Aside0.mk A120
      clear A120
      obtain rfl := Option.some.inj H
      go_wp2_with (first | ((with_reducible refine gate_callee (f := 73) rfl ?_); refine goesL_ (some 23) rfl rfl Tryd.func73 (by kernel_rfl) rfl #[.string (⟨#[32, 39, 40, 41, 43, 44, 45, 46, 47, 58, 61, 63]⟩ : ByteArray), .int .i32 a0] rfl gargs ?_; (with_reducible refine (strings_ContainsRune.calls (⟨#[32, 39, 40, 41, 43, 44, 45, 46, 47, 58, 61, 63]⟩ : ByteArray) a0 t129 _ A12.out).mono ?_); rintro e w13 ⟨rfl, hb⟩; refine ⟨_, rfl, ?_⟩; replace HB := Aside0.mk (below_step blw hb); (try clear hb); (try clear hb2); (try clear hk); (try clear hi)))
      go_ret
      exact ⟨rse, blw⟩
     rw [if_pos c8] at H
     have c8b0 : decide (48 ≤ a0) = true := decide_eq_true c8
     clear c8
     by_cases c9 : a0 ≤ 57
     case pos =>
      rw [if_pos c9] at H
      have c9b0 : decide (a0 ≤ 57) = true := decide_eq_true c9
      clear c9
      obtain rfl := Option.some.inj H
      go_wp2
      go_ret
      exact ⟨rse, blw⟩
     rw [if_neg c9] at H
     have c9b0 : decide (a0 ≤ 57) = false := decide_eq_false c9
     clear c9
     replace H := Option.bind_eq_some_iff.mp H
     obtain ⟨t128, A100, H⟩ := H
     replace H : (some (!t128)) = some r := H
     have A10 := Aside0.mk A100
     clear A100
     obtain rfl := Option.some.inj H
     go_wp2_with (first | ((with_reducible refine gate_callee (f := 73) rfl ?_); refine goesL_ (some 23) rfl rfl Tryd.func73 (by kernel_rfl) rfl #[.string (⟨#[32, 39, 40, 41, 43, 44, 45, 46, 47, 58, 61, 63]⟩ : ByteArray), .int .i32 a0] rfl gargs ?_; (with_reducible refine (strings_ContainsRune.calls (⟨#[32, 39, 40, 41, 43, 44, 45, 46, 47, 58, 61, 63]⟩ : ByteArray) a0 t128 _ A10.out).mono ?_); rintro e w11 ⟨rfl, hb⟩; refine ⟨_, rfl, ?_⟩; replace HB := Aside0.mk (below_step blw hb); (try clear hb); (try clear hb2); (try clear hk); (try clear hi)))
     go_ret
     exact ⟨rse, blw⟩

/-! ### strs_Printable: function 61 (a text given by hand: strs.tmpl) -/
-- @import Derived.Test.YtcbcojbhbhaimaaDoorShelf
/-- A rune that is none of them. -/
def noneR (x : Nat) : Bool := (strs_Printable_1.f 10 (x : Int)) == some true
theorem contains_is (x : Nat) : ∃ b, strings_ContainsRune.f (⟨#[32, 39, 40, 41, 43, 44, 45, 46, 47, 58, 61, 63]⟩ : ByteArray) (x : Int) = some b := by
 have h : ∃ i, strings_IndexRune.f (⟨#[32, 39, 40, 41, 43, 44, 45, 46, 47, 58, 61, 63]⟩ : ByteArray) (x : Int) = some i := by
  unfold strings_IndexRune.f
  split
  ·exact ⟨_, rfl⟩
  ·rename_i hx
   rw [if_pos ⟨rfl, by omega⟩]
   exact ⟨_, rfl⟩
 obtain ⟨i, hi⟩ := h
 unfold strings_ContainsRune.f
 rw [hi]
 exact ⟨_, rfl⟩
theorem noneR_is (x : Nat) : strs_Printable_1.f 10 (x : Int) = some (noneR x) := by
 have h : ∃ b, strs_Printable_1.f 10 (x : Int) = some b := by
  obtain ⟨b, hb⟩ := contains_is x
  simp only [strs_Printable_1.f, strs_Printable_1.j0, strs_Printable_1.j1, hb, Option.bind_some]
  repeat' split
  all_goals exact ⟨_, rfl⟩
 obtain ⟨b, hb⟩ := h
 rw [noneR, hb]
 cases b <;> rfl
def strs_Printable.f (a0 : ByteArray) : Option Bool := some (!decide (0 ≤ Lib.idxFunc noneR true a0))
set_option maxHeartbeats 8000000 in
set_option maxRecDepth 100000 in
theorem strs_Printable.calls (a0 : ByteArray) (r : Bool) (w : World) (h : strs_Printable.f a0 = some r) :
 Calls Tryd.prog 61 #[.string a0] w fun e w' => e = .returned (.bool r) ∧ Below w.heap.size w w' := by
 obtain rfl := Option.some.inj h
 have hp : PredGrows Tryd.prog 72 #[] noneR w := fun W x hx hb => strs_Printable_1.calls 10 (x : Int) (noneR x) W (noneR_is x)
 go_enter Tryd.func61, Tryd.ntmps61
 go_wp2_with (go_at_call 74; refine (Tryd.strings_ContainsFunc_grows 72 #[] (enters_of Tryd.func72 (by kernel_rfl) rfl) noneR a0 w hp).mono ?_; rintro e w' ⟨rfl, hb⟩)
 go_ret
 exact ⟨rfl, hb⟩

end Go.Proofs.YtcbcojbhbhaimaaDoor.PTreeTells
