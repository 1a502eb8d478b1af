import Derived.Test.YtcbcojbhbhaimaaDoorPTreeTellsx0
import Derived.Test.YtcbcojbhbhaimaaDoorPTreeTellsx5
import Derived.Test.YtcbcojbhbhaimaaDoorPTreeTellsx8
namespace Go.Proofs.YtcbcojbhbhaimaaDoor.PTreeTells
open Go.RowKit Go.Proofs.YtcbcojbhbhaimaaDoorW.PrintWords Go.Proofs.YtcbcojbhbhaimaaDoorW.PrintLast Go.Proofs.YtcbcojbhbhaimaaDoorW.PrintMore
attribute [local go_sem high] c_add c_eql c_neq
attribute [local go_sem] f_store_c f_store_f f_add f_toint f_fold_eq f_fold_ne f_fold_lt f_fold_gt f_fold_le f_fold_ge
attribute [local go_sem] str_leq str_gtr str_geq max2_int min2_int max_two min_two max_three min_three max_four min_four   -- for this text's walks alone
set_option linter.unusedVariables false
set_option linter.unusedSimpArgs false

/-! ### tree_moved: function 33 -/
def tree_moved.l0 : Nat → Int → Int → Int → Int → Int → Bool → ByteArray → List Int → Option (Int × Int × Bool × ByteArray × List Int)
 | 0, _, _, _, _, _, _, _, _ => none
 | k + 1, x1, x12, x13, x238000, x238001, x238002, x238003, x238004 => if x13 < x12 then (if 0 ≤ x13 then (if x13 < (x238004.length : Int) then (tree_moved.l0 k x1 x12 (wrap64 (x13 + 1)) x238000 x238001 x238002 x238003 (x238004.set (x13 : Int).toNat (wrap64 ((rd x238004 x13) + x1)))) else (none)) else (none)) else (some (x238000, x238001, x238002, x238003, x238004))
def tree_moved.f (k : Nat) (a0_0 : Int) (a0_1 : Int) (a0_2 : Bool) (a0_3 : ByteArray) (l0_4 : List Int) (a1 : Int) : Option (Int × Int × Bool × ByteArray × List Int) := (slices_Clone_int_int.f l0_4).bind fun t239 => (tree_moved.l0 k a1 (t239.length : Int) 0 a0_0 a0_1 a0_2 a0_3 t239)
theorem tree_moved.mono_l : ∀ k, (∀ y0 y1 y2 y3 y4 y5 y6 y7, LeO (tree_moved.l0 k y0 y1 y2 y3 y4 y5 y6 y7) (tree_moved.l0 (k + 1) y0 y1 y2 y3 y4 y5 y6 y7))
 | 0 => fun _ _ _ _ _ _ _ _ r h => by simp [tree_moved.l0] at h
 | k + 1 => by
  have ih0 := tree_moved.mono_l k
  ·intro y0 y1 y2 y3 y4 y5 y6 y7
   unfold tree_moved.l0
   repeat' first
   | (with_reducible first | exact ih0 _ _ _ _ _ _ _ _ | exact LeO.refl _ | exact LeO.none _ | refine LeO.ite ?_ ?_ | refine LeO.bind ?_ (fun _ => ?_))
   | exact ih0 _ _ _ _ _ _ _ _
   | exact LeO.none _
   | refine LeO.ite ?_ ?_
   | refine LeO.bind ?_ (fun _ => ?_)
theorem tree_moved.mono : ∀ a0 a1 a2 a3 a4 a5 k, LeO (tree_moved.f k a0 a1 a2 a3 a4 a5) (tree_moved.f (k + 1) a0 a1 a2 a3 a4 a5) := by
 intro a0 a1 a2 a3 a4 a5 k
 have ih0 := tree_moved.mono_l k
 unfold tree_moved.f
 repeat' first
  | (with_reducible first | exact ih0 _ _ _ _ _ _ _ _ | exact LeO.refl _ | exact LeO.none _ | refine LeO.ite ?_ ?_ | refine LeO.bind ?_ (fun _ => ?_))
  | exact ih0 _ _ _ _ _ _ _ _
  | exact LeO.none _
  | refine LeO.ite ?_ ?_
  | refine LeO.bind ?_ (fun _ => ?_)
set_option maxHeartbeats 8000000 in
set_option maxRecDepth 100000 in
theorem tree_moved.calls (k : Nat) (a0_0 : Int) (a0_1 : Int) (a0_2 : Bool) (a0_3 : ByteArray) (A0_4 : Option Addr) (c0_4 : Nat) (l0_4 : List Int) (a1 : Int) (r1 : Int) (r2 : Int) (r3 : Bool) (r4 : ByteArray) (r5 : List Int) (w : World) (hr0_4 : Kd.C (Kd.int .i64) w A0_4 l0_4.length l0_4) (hc0_4 : l0_4.length ≤ c0_4) (h : tree_moved.f k a0_0 a0_1 a0_2 a0_3 l0_4 a1 = some (r1, r2, r3, r4, r5)) :
 Calls Tryd.prog 33 #[.agg #[.int .i64 a0_0, .int .i64 a0_1, .bool a0_2, .string a0_3, .slice A0_4 l0_4.length c0_4], .int .i64 a1] w fun e w' => ∃ v4_ : Value, e = .returned (.agg #[.int .i64 r1, .int .i64 r2, .bool r3, .string r4, v4_]) ∧ Kd.R (Kd.int .i64) 3 w' w.heap.size (fun _ => True) v4_ r5 ∧ Below w.heap.size w w' := by
 have hu41 := Tryd.underlying41
 have HR0_4 := Aside0.mk hr0_4
 have HC0_4 := Aside0.mk hc0_4
 clear hr0_4 hc0_4
 have HB := Aside0.mk (Below.refl w.heap.size w)
 have H : ((slices_Clone_int_int.f l0_4).bind fun t239 => (tree_moved.l0 k a1 (t239.length : Int) 0 a0_0 a0_1 a0_2 a0_3 t239)) = some (r1, r2, r3, r4, r5) := h
 clear h
 replace H := Option.bind_eq_some_iff.mp H
 obtain ⟨t239, A30, H⟩ := H
 replace H : (tree_moved.l0 k a1 (t239.length : Int) 0 a0_0 a0_1 a0_2 a0_3 t239) = some (r1, r2, r3, r4, r5) := H
 have A3 := Aside0.mk A30
 clear A30
 have H' := Aside0.mk H
 clear H
 go_enter Tryd.func33, Tryd.ntmps33
 go_wp2_with (first | ((with_reducible refine gate_dst (N := 2) rfl ?_); refine box_event ?hg (N := 2) ?hd (cs := #[.int .i64 a0_0, .int .i64 a0_1, .bool a0_2, .string a0_3, .slice A0_4 l0_4.length c0_4]) (t := 41) ?hr ?_; (case hd => rfl); (case hg => rfl); (case hr => first | (go_simp; done) | (go_simp; rfl)); intro gb237 hg w4 hbox hb; have n0_ := Aside0.mk (below_step blw hb); have n1_ := Aside0.mk (hbox); have n2_ := Aside0.mk ((by rw [hg]; exact (below_size blw) : w.heap.size ≤ gb237)); have n3_ := Aside0.mk ((by rw [hg]; exact (below_size blw) : w.heap.size ≤ gb237)); clear HB; have HB := n0_; have BK237 := n1_; have GW237 := n2_; have GE237 := n3_; clear n0_ n1_ n2_ n3_; clear hb hbox hg) | ((with_reducible refine gate_dst (N := 4) rfl ?_); refine box_event ?hg (N := 4) ?hd (cs := #[.int .i64 0, .int .i64 0, .bool false, .string (⟨#[]⟩ : ByteArray), .slice none 0 0]) (t := 41) ?hr ?_; (case hd => rfl); (case hg => rfl); (case hr => first | (go_simp; done) | (go_simp; rfl)); intro gb238 hg w5 hbox hb; have n0_ := Aside0.mk (blk_below (g := gb237) (o := .cells #[.int .i64 a0_0, .int .i64 a0_1, .bool a0_2, .string a0_3, .slice A0_4 l0_4.length c0_4] 41 (0, 0)) (boW BK237.out) hb); have n1_ := Aside0.mk (below_step (by repeat (first | (with_reducible first | exact HB.out | apply below_alloc | apply pw_below_drewN | apply below_drew1 | refine below_set ?_ GE237.out) | exact HB.out)) hb); have n2_ := Aside0.mk (hbox); have n3_ := Aside0.mk ((by rw [hg]; exact (below_size (by repeat (first | (with_reducible first | exact HB.out | apply below_alloc | apply pw_below_drewN | apply below_drew1 | refine below_set ?_ GE237.out) | exact HB.out))) : w.heap.size ≤ gb238)); have n4_ := Aside0.mk ((by rw [hg]; exact (below_size (by repeat (first | (with_reducible first | exact HB.out | apply below_alloc | apply pw_below_drewN | apply below_drew1 | refine below_set ?_ GE237.out) | exact HB.out))) : w.heap.size ≤ gb238)); have n5_ := Aside0.mk ((by rw [hg]; exact Nat.ne_of_lt (blk_lt (g := gb237) (o := .cells #[.int .i64 a0_0, .int .i64 a0_1, .bool a0_2, .string a0_3, .slice A0_4 l0_4.length c0_4] 41 (0, 0)) (boW BK237.out)) : gb237 ≠ gb238)); have n6_ := Aside0.mk ((by rw [hg]; exact Nat.ne_of_gt (blk_lt (g := gb237) (o := .cells #[.int .i64 a0_0, .int .i64 a0_1, .bool a0_2, .string a0_3, .slice A0_4 l0_4.length c0_4] 41 (0, 0)) (boW BK237.out)) : gb238 ≠ gb237)); clear BK237; clear HB; have BK237 := n0_; have HB := n1_; have BK238 := n2_; have GW238 := n3_; have GE238 := n4_; have NB237_238 := n5_; have NB238_237 := n6_; clear n0_ n1_ n2_ n3_ n4_ n5_ n6_; clear hb hbox hg; have hnb6 := NB237_238.out; have hnc6 := NB238_237.out; have hcz7_0 : w5.cell? ⟨gb237, 0, none⟩ = some (.int .i64 a0_0) := (blk_cell BK237.out 0).trans rfl; have hcz7_1 : w5.cell? ⟨gb237, 1, none⟩ = some (.int .i64 a0_1) := (blk_cell BK237.out 1).trans rfl; have hcz7_2 : w5.cell? ⟨gb237, 2, none⟩ = some (.bool a0_2) := (blk_cell BK237.out 2).trans rfl; have hcz7_3 : w5.cell? ⟨gb237, 3, none⟩ = some (.string a0_3) := (blk_cell BK237.out 3).trans rfl; have hcz7_4 : w5.cell? ⟨gb237, 4, none⟩ = some (.slice A0_4 l0_4.length c0_4) := (blk_cell BK237.out 4).trans rfl; have hfz7_0 := blk_frozen BK237.out 0; have hfz7_1 := blk_frozen BK237.out 1; have hfz7_2 := blk_frozen BK237.out 2; have hfz7_3 := blk_frozen BK237.out 3; have hfz7_4 := blk_frozen BK237.out 4) | ((with_reducible refine gate_callee (f := 41) rfl ?_); refine goesL_ (some 8) rfl rfl Tryd.func41 (by kernel_rfl) rfl #[.slice A0_4 l0_4.length c0_4] rfl gargs ?_; (with_reducible refine (slices_Clone_int_int.calls _ _ l0_4 t239 _ ?side1 ?side2 A3.out).mono ?_); (case side1 => exact kcW (Kd.C_below HR0_4.out HB.out)); (case side2 => exact HC0_4.out); rintro e w8 ⟨v240, rfl, ho0, hb⟩; refine ⟨_, rfl, ?_⟩; have n0_ := Aside0.mk (Kd.R_lower ho0 (below_size (by repeat (first | (with_reducible first | exact HB.out | apply below_alloc | apply pw_below_drewN | apply below_drew1 | refine below_set ?_ GE237.out | refine below_set ?_ GE238.out) | exact HB.out)))); have n1_ := Aside0.mk (blk_below (g := gb237) (o := .cells #[.int .i64 a0_0, .int .i64 a0_1, .bool a0_2, .string a0_3, .slice A0_4 l0_4.length c0_4] 41 (0, 0)) (boW BK237.out) hb); have n2_ := Aside0.mk (blk_below (g := gb238) (o := .cells #[.int .i64 0, .int .i64 0, .bool false, .string (⟨#[]⟩ : ByteArray), .slice none 0 0] 41 (0, 0)) (boW BK238.out) hb); have n3_ := Aside0.mk (below_step (by repeat (first | (with_reducible first | exact HB.out | apply below_alloc | apply pw_below_drewN | apply below_drew1 | refine below_set ?_ GE237.out | refine below_set ?_ GE238.out) | exact HB.out)) hb); clear BK237; clear BK238; clear HB; have HO241 := n0_; have BK237 := n1_; have BK238 := n2_; have HB := n3_; clear n0_ n1_ n2_ n3_; (try clear hb); (try clear hb2); (try clear hk); (try clear hi); (try clear ho0); obtain ⟨Ao9, co9, eo9⟩ := Kd.R_slice HO241.out; subst eo9; have hcz10_0 : w8.cell? ⟨gb237, 0, none⟩ = some (.int .i64 a0_0) := (blk_cell BK237.out 0).trans rfl; have hcz10_1 : w8.cell? ⟨gb237, 1, none⟩ = some (.int .i64 a0_1) := (blk_cell BK237.out 1).trans rfl; have hcz10_2 : w8.cell? ⟨gb237, 2, none⟩ = some (.bool a0_2) := (blk_cell BK237.out 2).trans rfl; have hcz10_3 : w8.cell? ⟨gb237, 3, none⟩ = some (.string a0_3) := (blk_cell BK237.out 3).trans rfl; have hcz10_4 : w8.cell? ⟨gb237, 4, none⟩ = some (.slice A0_4 l0_4.length c0_4) := (blk_cell BK237.out 4).trans rfl; have hfz10_0 := blk_frozen BK237.out 0; have hfz10_1 := blk_frozen BK237.out 1; have hfz10_2 := blk_frozen BK237.out 2; have hfz10_3 := blk_frozen BK237.out 3; have hfz10_4 := blk_frozen BK237.out 4))
 go_loopg [13] k (fun kq v13 w' => ∃ (x13_1 : Int) (x238004_1 : List Int) (u238004 : Value), v13 = .int .i64 x13_1 ∧ Aside0 (tree_moved.l0 kq a1 (t239.length : Int) x13_1 a0_0 a0_1 a0_2 a0_3 x238004_1 = some (r1, r2, r3, r4, r5)) ∧ Aside0 (kq ≤ k) ∧ Aside0 (Kd.R (Kd.int .i64) 3 w' w.heap.size (fun _ => True) u238004 x238004_1) ∧ Aside0 (w'.heap[gb237]? = some (.cells #[.int .i64 a0_0, .int .i64 a0_1, .bool a0_2, .string a0_3, u238004] 41 (0, 0))) ∧ Aside0 (w'.heap[gb238]? = some (.cells #[.int .i64 0, .int .i64 0, .bool false, .string (⟨#[]⟩ : ByteArray), (.slice none 0 0)] 41 (0, 0))) ∧ Aside0 (Below w.heap.size w w'))
 case atStart => exact ⟨(0), (t239), (.slice Ao9 t239.length co9), rsd, H', ⟨Nat.le_refl _⟩, ⟨by (with_reducible repeat (first | apply Kd.R_alloc | apply Kd.R_drewN | apply Kd.R_drew)); exact Kd.R_mono (Kd.R_far (p := ⟨gb237, 4, none⟩) (Kd.R_types HO241.out BK237.out (by decide)) (fun _ hk => hk.2) (.slice Ao9 t239.length co9)) (fun _ hk => trivial)⟩, ⟨by (with_reducible repeat (first | refine blk_drewN ?_ _ | refine blk_drew ?_ | refine blk_alloc ?_ _)); refine blk_put (cs := #[.int .i64 a0_0, .int .i64 a0_1, .bool a0_2, .string a0_3, .slice A0_4 l0_4.length c0_4]) ?_ 4 _ rfl; (with_reducible repeat (first | refine blk_drewN ?_ _ | refine blk_drew ?_ | refine blk_alloc ?_ _)); exact BK237.out⟩, ⟨by (with_reducible repeat (first | refine blk_drewN ?_ _ | refine blk_drew ?_ | refine blk_alloc ?_ _)); refine blk_far ?_ NB238_237.out _; (with_reducible repeat (first | refine blk_drewN ?_ _ | refine blk_drew ?_ | refine blk_alloc ?_ _)); exact BK238.out⟩, ⟨by repeat (first | (with_reducible first | exact HB.out | apply below_alloc | apply pw_below_drewN | apply below_drew1 | refine below_set ?_ GE237.out | refine below_set ?_ GE238.out) | exact HB.out)⟩⟩
 case round =>
  clear H'
  try clear hcz10_0
  try clear hcz10_1
  try clear hcz10_2
  try clear hcz10_3
  try clear hcz10_4
  try clear hcz7_0
  try clear hcz7_1
  try clear hcz7_2
  try clear hcz7_3
  try clear hcz7_4
  try clear hfz10_0
  try clear hfz10_1
  try clear hfz10_2
  try clear hfz10_3
  try clear hfz10_4
  try clear hfz7_0
  try clear hfz7_1
  try clear hfz7_2
  try clear hfz7_3
  try clear hfz7_4
  obtain ⟨x13_1, x238004_1, u238004, rfl, HA, HK1, HO_238004, BK237, BK238, HB⟩ := hrel
  cases gk with
  | zero => exact absurd HA.out (by simp [tree_moved.l0])
  | succ k1 =>
   have H := HA.out
   clear HA
   simp only [tree_moved.l0] at H
   by_cases c11 : x13_1 < (t239.length : Int)
   case neg =>
    rw [if_neg c11] at H
    have c11b0 : decide (x13_1 < (t239.length : Int)) = false := decide_eq_false c11
    clear c11
    simp only [Option.some.injEq, Prod.mk.injEq] at H
    obtain ⟨rfl, rfl, rfl, rfl, rfl⟩ := H
    have hnb20 := NB237_238.out
    have hnc20 := NB238_237.out
    have hcz21_0 : wr.cell? ⟨gb237, 0, none⟩ = some (.int .i64 a0_0) := (blk_cell BK237.out 0).trans rfl
    have hcz21_1 : wr.cell? ⟨gb237, 1, none⟩ = some (.int .i64 a0_1) := (blk_cell BK237.out 1).trans rfl
    have hcz21_2 : wr.cell? ⟨gb237, 2, none⟩ = some (.bool a0_2) := (blk_cell BK237.out 2).trans rfl
    have hcz21_3 : wr.cell? ⟨gb237, 3, none⟩ = some (.string a0_3) := (blk_cell BK237.out 3).trans rfl
    have hcz21_4 : wr.cell? ⟨gb237, 4, none⟩ = some (u238004) := (blk_cell BK237.out 4).trans rfl
    have hfz21_0 := blk_frozen BK237.out 0
    have hfz21_1 := blk_frozen BK237.out 1
    have hfz21_2 := blk_frozen BK237.out 2
    have hfz21_3 := blk_frozen BK237.out 3
    have hfz21_4 := blk_frozen BK237.out 4
    have hcz22_0 : wr.cell? ⟨gb238, 0, none⟩ = some (.int .i64 0) := (blk_cell BK238.out 0).trans rfl
    have hcz22_1 : wr.cell? ⟨gb238, 1, none⟩ = some (.int .i64 0) := (blk_cell BK238.out 1).trans rfl
    have hcz22_2 : wr.cell? ⟨gb238, 2, none⟩ = some (.bool false) := (blk_cell BK238.out 2).trans rfl
    have hcz22_3 : wr.cell? ⟨gb238, 3, none⟩ = some (.string (⟨#[]⟩ : ByteArray)) := (blk_cell BK238.out 3).trans rfl
    have hcz22_4 : wr.cell? ⟨gb238, 4, none⟩ = some (.slice none 0 0) := (blk_cell BK238.out 4).trans rfl
    have hfz22_0 := blk_frozen BK238.out 0
    have hfz22_1 := blk_frozen BK238.out 1
    have hfz22_2 := blk_frozen BK238.out 2
    have hfz22_3 := blk_frozen BK238.out 3
    have hfz22_4 := blk_frozen BK238.out 4
    obtain ⟨Ao23, co23, eo23⟩ := Kd.R_slice HO_238004.out
    subst eo23
    go_wp2
    refine bodyPost_ret (results_cell_row rfl _ _ gb238 41 #[.int .i64 a0_0, .int .i64 a0_1, .bool a0_2, .string a0_3, .slice Ao23 x238004_1.length co23] (0, 0) _ rfl (by (with_reducible repeat (first | refine blk_drewN ?_ _ | refine blk_drew ?_ | refine blk_alloc ?_ _)); refine blk_put (cs := #[.int .i64 a0_0, .int .i64 a0_1, .bool a0_2, .string a0_3, .slice none 0 0]) ?_ 4 _ rfl; (with_reducible repeat (first | refine blk_drewN ?_ _ | refine blk_drew ?_ | refine blk_alloc ?_ _)); refine blk_put (cs := #[.int .i64 a0_0, .int .i64 a0_1, .bool a0_2, .string (⟨#[]⟩ : ByteArray), .slice none 0 0]) ?_ 3 _ rfl; (with_reducible repeat (first | refine blk_drewN ?_ _ | refine blk_drew ?_ | refine blk_alloc ?_ _)); refine blk_put (cs := #[.int .i64 a0_0, .int .i64 a0_1, .bool false, .string (⟨#[]⟩ : ByteArray), .slice none 0 0]) ?_ 2 _ rfl; (with_reducible repeat (first | refine blk_drewN ?_ _ | refine blk_drew ?_ | refine blk_alloc ?_ _)); refine blk_put (cs := #[.int .i64 a0_0, .int .i64 0, .bool false, .string (⟨#[]⟩ : ByteArray), .slice none 0 0]) ?_ 1 _ rfl; (with_reducible repeat (first | refine blk_drewN ?_ _ | refine blk_drew ?_ | refine blk_alloc ?_ _)); refine blk_put (cs := #[.int .i64 0, .int .i64 0, .bool false, .string (⟨#[]⟩ : ByteArray), .slice none 0 0]) ?_ 0 _ rfl; (with_reducible repeat (first | refine blk_drewN ?_ _ | refine blk_drew ?_ | refine blk_alloc ?_ _)); exact BK238.out) Tryd.underlying41 rfl (by kernel_rfl)) rfl ?_
    exact ⟨_, rse, by (with_reducible repeat (first | apply Kd.R_alloc | apply Kd.R_drewN | apply Kd.R_drew)); exact Kd.R_mono (Kd.R_far (p := ⟨gb238, 4, none⟩) (Kd.R_far (p := ⟨gb238, 3, none⟩) (Kd.R_far (p := ⟨gb238, 2, none⟩) (Kd.R_far (p := ⟨gb238, 1, none⟩) (Kd.R_far (p := ⟨gb238, 0, none⟩) (Kd.R_types HO_238004.out BK238.out (by decide)) (fun _ hk => hk.2) (.int .i64 a0_0)) (fun _ hk => hk.2) (.int .i64 a0_1)) (fun _ hk => hk.2) (.bool a0_2)) (fun _ hk => hk.2) (.string a0_3)) (fun _ hk => hk.2) (.slice Ao23 x238004_1.length co23)) (fun _ hk => trivial), by repeat (first | (with_reducible first | exact HB.out | apply below_alloc | apply pw_below_drewN | apply below_drew1 | refine below_set ?_ GE237.out | refine below_set ?_ GE238.out) | exact HB.out)⟩
   rw [if_pos c11] at H
   have c11b0 : decide (x13_1 < (t239.length : Int)) = true := decide_eq_true c11
   clear c11
   by_cases c12 : 0 ≤ x13_1
   case neg =>
    rw [if_neg c12] at H
    exact absurd H (by simp)
   rw [if_pos c12] at H
   have c12b0 : decide (0 ≤ x13_1) = true := decide_eq_true c12
   clear c12
   by_cases c13 : x13_1 < (x238004_1.length : Int)
   case neg =>
    rw [if_neg c13] at H
    exact absurd H (by simp)
   rw [if_pos c13] at H
   have c13b0 : decide (x13_1 < (x238004_1.length : Int)) = true := decide_eq_true c13
   clear c13
   obtain ⟨y243, hy243⟩ : ∃ y_ : List Int, y_ = (x238004_1.set (x13_1 : Int).toNat (wrap64 ((rd x238004_1 x13_1) + a1))) := ⟨_, rfl⟩
   replace H : (tree_moved.l0 k1 a1 (t239.length : Int) (wrap64 (x13_1 + 1)) a0_0 a0_1 a0_2 a0_3 y243) = some (r1, r2, r3, r4, r5) := by first | (rw [hy243]; with_reducible exact H) | (have H2_ := (Option.bind_some _ _).symm.trans H; rw [hy243]; with_reducible exact H2_) | (have H2_ := (Option.bind_some _ _).symm.trans H; with_reducible exact H2_) | with_reducible exact H | (rw [hy243]; exact H) | exact H
   have Ny243 := Aside0.mk hy243
   clear hy243
   have H' := Aside0.mk H
   clear H
   have hnb15 := NB237_238.out
   have hnc15 := NB238_237.out
   have hcz16_0 : wr.cell? ⟨gb237, 0, none⟩ = some (.int .i64 a0_0) := (blk_cell BK237.out 0).trans rfl
   have hcz16_1 : wr.cell? ⟨gb237, 1, none⟩ = some (.int .i64 a0_1) := (blk_cell BK237.out 1).trans rfl
   have hcz16_2 : wr.cell? ⟨gb237, 2, none⟩ = some (.bool a0_2) := (blk_cell BK237.out 2).trans rfl
   have hcz16_3 : wr.cell? ⟨gb237, 3, none⟩ = some (.string a0_3) := (blk_cell BK237.out 3).trans rfl
   have hcz16_4 : wr.cell? ⟨gb237, 4, none⟩ = some (u238004) := (blk_cell BK237.out 4).trans rfl
   have hfz16_0 := blk_frozen BK237.out 0
   have hfz16_1 := blk_frozen BK237.out 1
   have hfz16_2 := blk_frozen BK237.out 2
   have hfz16_3 := blk_frozen BK237.out 3
   have hfz16_4 := blk_frozen BK237.out 4
   obtain ⟨Ao17, co17, eo17⟩ := Kd.R_slice HO_238004.out
   subst eo17
   have p242 : 0 ≤ (x13_1 : Int) := odt
   have q242 : x13_1 < (x238004_1.length : Int) := odt
   obtain ⟨ad242, e242, hx242_0⟩ := Kd.at_int (Kd.R_reads' HO_238004.out).2.2 x13_1 p242 q242
   cases e242
   replace p242 := eq_true p242
   replace q242 := eq_true q242
   have p14 : 0 ≤ (x13_1 : Int) := odt
   have q14 : (x13_1 : Int) < ((x238004_1.length : Int) : Int) := odt
   obtain ⟨go14, co14, eo14, gb14, gl14, cl14, HG14⟩ := Kd.R_form HO_238004.out (by omega)
   (first | cases eo14 | (injection eo14 with ea_ en_ ec_; (first | subst ea_ | (injection ea_ with ea_; subst ea_)); subst ec_; clear en_))
   have GB14 := Aside0.mk gb14
   have GG14 := Aside0.mk HG14
   clear gb14 gl14 HG14
   (first | simp only [add_plain] at hx242_0 | skip)
   obtain ⟨hx14_0, hf14_0⟩ := Kd.R_celln 0 HO_238004.out (x13_1 : Int) p14 q14
   replace p14 := eq_true p14
   replace q14 := eq_true q14
   have HP18 := Kd.R_putg HO_238004.out (x13_1 : Int) (wrap64 ((rd x238004_1 x13_1) + a1))
   go_wp2_with (first | ((with_reducible refine gate_store (t := 3) (p := 23) rfl ?_); refine store_event (t := 3) (p := 23) (v := ?vo_w19) (w1 := (wr.setCell ⟨go14, (x13_1 : Int).toNat, none⟩ (.int .i64 (wrap64 ((rd x238004_1 x13_1) + a1))))) ?hg ?ho ?hn ?hr ?_; (case ho => rfl); (case hg => rfl); (case hn => rfl); (case hr => first | (go_simp; done) | (go_simp; rfl)); intro w19 hw; have hg : wr.grownBy w19 (some go14) := (by rw [hw]; exact HP18.2); have hp_ : Kd.R (Kd.int .i64) 3 w19 w.heap.size (fun _ => True) (.slice (some ⟨go14, 0, none⟩) x238004_1.length co17) y243 := (by rw [hw, Ny243.out]; exact HP18.1); clear HP18; have n0_ := Aside0.mk (hp_); have n1_ := Aside0.mk (blk_grown (g := gb237) (o := .cells #[.int .i64 a0_0, .int .i64 a0_1, .bool a0_2, .string a0_3, .slice (some ⟨go14, 0, none⟩) x238004_1.length co17] 41 (0, 0)) (boW BK237.out) hg (Kd.R_ne HO_238004.out BK237.out (by decide))); have n2_ := Aside0.mk (blk_grown (g := gb238) (o := .cells #[.int .i64 0, .int .i64 0, .bool false, .string (⟨#[]⟩ : ByteArray), .slice none 0 0] 41 (0, 0)) (boW BK238.out) hg (Kd.R_ne HO_238004.out BK238.out (by decide))); have n3_ := Aside0.mk ((by rw [hw]; exact below_set (HB.out) GB14.out : Below w.heap.size w w19)); clear HO_238004; clear BK237; clear BK238; clear HB; have HO_238004 := n0_; have BK237 := n1_; have BK238 := n2_; have HB := n3_; clear n0_ n1_ n2_ n3_; clear hg hw hp_))
   go_roundg k1
   case measure => have := HK1.out; omega
   case rel => exact ⟨(wrap64 (x13_1 + 1)), (y243), (.slice (some ⟨go14, 0, none⟩) x238004_1.length co17), rsd, H', ⟨by have := HK1.out; omega⟩, ⟨roW HO_238004.out⟩, ⟨boW BK237.out⟩, ⟨boW BK238.out⟩, ⟨by repeat (first | (with_reducible first | exact HB.out | apply below_alloc | apply pw_below_drewN | apply below_drew1 | refine below_set ?_ GE237.out | refine below_set ?_ GE238.out) | exact HB.out)⟩⟩

/-! ### tree_Sub: function 17 -/
mutual
def tree_Sub.j0 : Nat → List (S41) → Int → Bool → Option ((List (S41)))
 | 0, _, _, _ => none
 | k + 1, x0, x1, x20 => if x20 = true then (some ([] : List (S41))) else ((tree_end.f k x0 x1).bind fun t245 => (if 0 ≤ x1 then (if x1 ≤ t245 then (if t245 ≤ (x0.length : Int) then ((some ((x0.take (t245 : Int).toNat).drop (x1 : Int).toNat : List (S41))).bind fun y246 => (tree_Sub.l0 k x1 ([] : List (S41)) y246 (y246.length : Int) 0)) else (none)) else (none)) else (none)))
def tree_Sub.l0 : Nat → Int → List (S41) → List (S41) → Int → Int → Option ((List (S41)))
 | 0, _, _, _, _, _ => none
 | k + 1, x1, x5, x26, x27, x28 => if x28 < x27 then (if 0 ≤ x28 then (if x28 < (x26.length : Int) then ((tree_moved.f k ((rd_T41 x26 x28).f0) ((rd_T41 x26 x28).f1) ((rd_T41 x26 x28).f2) ((rd_T41 x26 x28).f3) ((rd_T41 x26 x28).f4) (wrap64 (-x1))).bind fun bt252 => (if x5.length < 2199023255552 then (tree_Sub.l0 k x1 (x5 ++ [(⟨bt252.1, bt252.2.1, bt252.2.2.1, bt252.2.2.2.1, bt252.2.2.2.2⟩ : S41)]) x26 x27 (wrap64 (x28 + 1))) else (none))) else (none)) else (none)) else (some x5)
end
def tree_Sub.f (k : Nat) (l0 : List (S41)) (a1 : Int) : Option ((List (S41))) := if a1 < 0 then (tree_Sub.j0 k l0 a1 true) else (if a1 ≥ (l0.length : Int) then (tree_Sub.j0 k l0 a1 true) else ((tree_Right.f k l0).bind fun t244 => (tree_Sub.j0 k l0 a1 (!t244))))
theorem tree_Sub.mono_l : ∀ k, (∀ y0 y1 y2, LeO (tree_Sub.j0 k y0 y1 y2) (tree_Sub.j0 (k + 1) y0 y1 y2)) ∧ (∀ y0 y1 y2 y3 y4, LeO (tree_Sub.l0 k y0 y1 y2 y3 y4) (tree_Sub.l0 (k + 1) y0 y1 y2 y3 y4))
 | 0 => ⟨fun _ _ _ r h => by simp [tree_Sub.j0] at h, fun _ _ _ _ _ r h => by simp [tree_Sub.l0] at h⟩
 | k + 1 => by
  obtain ⟨ih0, ih1⟩ := tree_Sub.mono_l k
  refine ⟨?_, ?_⟩ <;> intros <;> first | unfold tree_Sub.j0 | unfold tree_Sub.l0
  all_goals repeat' first
  | (with_reducible first | exact ih0 _ _ _ | exact ih1 _ _ _ _ _ | exact tree_Right.mono _ _ | exact tree_end.mono _ _ _ | exact tree_moved.mono _ _ _ _ _ _ _ | exact LeO.refl _ | exact LeO.none _ | refine LeO.ite ?_ ?_ | refine LeO.bind ?_ (fun _ => ?_))
  | exact ih0 _ _ _
  | exact ih1 _ _ _ _ _
  | exact tree_Right.mono _ _
  | exact tree_end.mono _ _ _
  | exact tree_moved.mono _ _ _ _ _ _ _
  | exact LeO.none _
  | refine LeO.ite ?_ ?_
  | refine LeO.bind ?_ (fun _ => ?_)
theorem tree_Sub.mono : ∀ a0 a1 k, LeO (tree_Sub.f k a0 a1) (tree_Sub.f (k + 1) a0 a1) := by
 intro a0 a1 k
 obtain ⟨ih0, ih1⟩ := tree_Sub.mono_l k
 unfold tree_Sub.f
 repeat' first
  | (with_reducible first | exact ih0 _ _ _ | exact ih1 _ _ _ _ _ | exact tree_Right.mono _ _ | exact tree_end.mono _ _ _ | exact tree_moved.mono _ _ _ _ _ _ _ | exact LeO.refl _ | exact LeO.none _ | refine LeO.ite ?_ ?_ | refine LeO.bind ?_ (fun _ => ?_))
  | exact ih0 _ _ _
  | exact ih1 _ _ _ _ _
  | exact tree_Right.mono _ _
  | exact tree_end.mono _ _ _
  | exact tree_moved.mono _ _ _ _ _ _ _
  | exact LeO.none _
  | refine LeO.ite ?_ ?_
  | refine LeO.bind ?_ (fun _ => ?_)
set_option maxHeartbeats 8000000 in
set_option maxRecDepth 100000 in
theorem tree_Sub.calls (k : Nat) (A0 : Option Addr) (c0 : Nat) (l0 : List (S41)) (a1 : Int) (r : List (S41)) (w : World) (hr0 : Kd.C k41 w A0 l0.length l0) (hc0 : l0.length ≤ c0) (HT_ : Aside0 (TB w)) (h : tree_Sub.f k l0 a1 = some r) :
 Calls Tryd.prog 17 #[.slice A0 l0.length c0, .int .i64 a1] w fun e w' => ∃ v0_ : Value, e = .returned (v0_) ∧ Kd.S k41 41 w' w.heap.size (fun _ => True) v0_ r ∧ Below w.heap.size w w' := by
 have hu41 := Tryd.underlying41
 have HR0 := Aside0.mk hr0
 have HC0 := Aside0.mk hc0
 clear hr0 hc0
 have HB := Aside0.mk (Below.refl w.heap.size w)
 have H : (if a1 < 0 then (tree_Sub.j0 k l0 a1 true) else (if a1 ≥ (l0.length : Int) then (tree_Sub.j0 k l0 a1 true) else ((tree_Right.f k l0).bind fun t244 => (tree_Sub.j0 k l0 a1 (!t244))))) = some r := h
 clear h
 have HC3 := Aside0.mk H
 clear H
 go_enter Tryd.func17, Tryd.ntmps17
 go_upto_region 1 with (fail)
 go_cut [20] (fun v20 wc => ∃ (kq : Nat) (x20_2 : Bool), v20 = .bool x20_2 ∧ Aside0 (tree_Sub.j0 kq l0 a1 x20_2 = some r) ∧ Aside0 (kq ≤ k) ∧ Aside0 (Below w.heap.size w wc))
 case first =>
  have H := HC3.out
  clear HC3
  by_cases c4 : a1 < 0
  case pos =>
   rw [if_pos c4] at H
   have c4b0 : decide (a1 < 0) = true := decide_eq_true c4
   clear c4
   (first | rw [c4b0] | (simp only [i64_w, i32_w]; rw [c4b0]) | rw [c4b1] | skip)
   have H' := Aside0.mk H
   clear H
   go_wp2
   go_meet
   case rel => exact ⟨_, (true), rsd, H', ⟨by first | omega | exact Nat.le_refl _⟩, ⟨blw⟩⟩
  rw [if_neg c4] at H
  have c4b0 : decide (a1 < 0) = false := decide_eq_false c4
  clear c4
  (first | rw [c4b0] | (simp only [i64_w, i32_w]; rw [c4b0]) | rw [c4b1] | skip)
  by_cases c5 : a1 ≥ (l0.length : Int)
  case pos =>
   rw [if_pos c5] at H
   have c5b0 : decide ((l0.length : Int) ≤ a1) = true := decide_eq_true c5
   clear c5
   have H' := Aside0.mk H
   clear H
   go_wp2
   go_meet
   case rel => exact ⟨_, (true), rsd, H', ⟨by first | omega | exact Nat.le_refl _⟩, ⟨blw⟩⟩
  rw [if_neg c5] at H
  have c5b0 : decide ((l0.length : Int) ≤ a1) = false := decide_eq_false c5
  clear c5
  replace H := Option.bind_eq_some_iff.mp H
  obtain ⟨t244, A60, H⟩ := H
  replace H : (tree_Sub.j0 k l0 a1 (!t244)) = some r := H
  have A6 := Aside0.mk A60
  clear A60
  have H' := Aside0.mk H
  clear H
  go_wp2_with (first | (go_at_call 11; (with_reducible refine (tree_Right.calls k _ _ l0 t244 _ ?side1 ?side2 ?tb_ A6.out).mono ?_); (case tb_ => exact tbw); (case side1 => exact kcW (Kd.C_below HR0.out HB.out)); (case side2 => exact HC0.out); rintro e w7 ⟨rfl, hb⟩; replace HB := Aside0.mk (below_step blw hb); (try clear hb); (try clear hb2); (try clear hk); (try clear hi)))
  go_meet
  case rel => exact ⟨_, (!t244), rsd, H', ⟨by first | omega | exact Nat.le_refl _⟩, ⟨blw⟩⟩
 case rest =>
  clear HC3
  try clear c4
  try clear c4b0
  try clear c4b1
  try clear c5
  try clear c5b0
  obtain ⟨kq, x20_2, rfl, HA, HJ2, HB⟩ := hcut
  cases kq with
  | zero => exact absurd HA.out (by simp [tree_Sub.j0])
  | succ kj2 =>
   have H := HA.out
   clear HA
   simp only [tree_Sub.j0] at H
   by_cases c8 : x20_2 = true
   case pos =>
    subst c8
    have H1 : (some ([] : List (S41))) = some r := by rw [if_pos rfl] at H; exact H
    clear H
    have H := H1
    clear H1
    obtain rfl := Option.some.inj H
    go_wp2
    go_ret
    exact ⟨_, rse, by first | exact Kd.S_nil _ _ _ _ _ | exact Kd.N_nil _ _ _ _ _ | exact Kd.V_nil _ _ _ _ _ | exact Kd.Q_nil _ _ _ _ _ | exact Kd.R_nil _ _ _ _ _, blw⟩
   replace c8 := Bool.eq_false_iff.mpr c8
   subst c8
   have H1 : ((tree_end.f kj2 l0 a1).bind fun t245 => (if 0 ≤ a1 then (if a1 ≤ t245 then (if t245 ≤ (l0.length : Int) then ((some ((l0.take (t245 : Int).toNat).drop (a1 : Int).toNat : List (S41))).bind fun y246 => (tree_Sub.l0 kj2 a1 ([] : List (S41)) y246 (y246.length : Int) 0)) else (none)) else (none)) else (none))) = some r := by rw [if_neg (show ¬ (false = true) by decide)] at H; exact H
   clear H
   have H := H1
   clear H1
   replace H := Option.bind_eq_some_iff.mp H
   obtain ⟨t245, A90, H⟩ := H
   replace H : (if 0 ≤ a1 then (if a1 ≤ t245 then (if t245 ≤ (l0.length : Int) then ((some ((l0.take (t245 : Int).toNat).drop (a1 : Int).toNat : List (S41))).bind fun y246 => (tree_Sub.l0 kj2 a1 ([] : List (S41)) y246 (y246.length : Int) 0)) else (none)) else (none)) else (none)) = some r := H
   have A9 := Aside0.mk A90
   clear A90
   by_cases c10 : 0 ≤ a1
   case neg =>
    rw [if_neg c10] at H
    exact absurd H (by simp)
   rw [if_pos c10] at H
   have c10b0 := eq_true c10
   have c10b1 : decide (0 ≤ a1) = true := decide_eq_true c10
   clear c10
   by_cases c11 : a1 ≤ t245
   case neg =>
    rw [if_neg c11] at H
    exact absurd H (by simp)
   rw [if_pos c11] at H
   have c11b0 := eq_true c11
   have c11b1 : decide (a1 ≤ t245) = true := decide_eq_true c11
   clear c11
   by_cases c12 : t245 ≤ (l0.length : Int)
   case neg =>
    rw [if_neg c12] at H
    exact absurd H (by simp)
   rw [if_pos c12] at H
   have c12b0 := eq_true c12
   have c12b1 : decide (t245 ≤ (l0.length : Int)) = true := decide_eq_true c12
   clear c12
   obtain ⟨y246, hy246⟩ : ∃ y_ : List (S41), y_ = ((l0.take (t245 : Int).toNat).drop (a1 : Int).toNat) := ⟨_, rfl⟩
   replace H : (tree_Sub.l0 kj2 a1 ([] : List (S41)) y246 (y246.length : Int) 0) = some r := by first | (rw [hy246]; with_reducible exact H) | (have H2_ := (Option.bind_some _ _).symm.trans H; rw [hy246]; with_reducible exact H2_) | (have H2_ := (Option.bind_some _ _).symm.trans H; with_reducible exact H2_) | with_reducible exact H | (rw [hy246]; exact H) | exact H
   have Ny246 := Aside0.mk hy246
   clear hy246
   have H' := Aside0.mk H
   clear H
   go_wp2_with (first | ((with_reducible refine gate_callee (f := 32) rfl ?_); refine goesL_ (some 25) rfl rfl Tryd.func32 (by kernel_rfl) rfl #[.slice A0 l0.length c0, .int .i64 a1] rfl gargs ?_; (with_reducible refine (tree_end.calls kj2 _ _ l0 a1 t245 _ ?side1 ?side2 A9.out).mono ?_); (case side1 => exact kcW (Kd.C_below HR0.out HB.out)); (case side2 => exact HC0.out); rintro e w' ⟨rfl, ⟨nd, rfl⟩⟩; refine ⟨_, rfl, ?_⟩; have q13 : (t245 : Int) ≤ ((l0.length : Int) : Int) := odt; obtain ⟨i013, hi013, _, hsz13, _⟩ := info_parts info41; have hroom13 : l0.length ≤ c0 := HC0.out; have hC13 : Kd.C k41 _ A0 l0.length l0 := HR0.out; have ql13 : (a1 : Int) ≤ (t245 : Int) := odt; have q013 : (0 : Int) ≤ (a1 : Int) := odt; have hcut13 := cut_mid (P := Tryd.prog) 23 41 .i64 .i64 Tryd.underlying23 hi013 5 hsz13 A0 l0.length c0 a1 t245 q013 ql13 q13 hroom13; have hr13 := Kd.C_mid (lo := (a1 : Int).toNat) (hi := (t245 : Int).toNat) (c := c0) hC13 (by omega) (by omega) hroom13; obtain ⟨A13, hA13⟩ : ∃ A1, A1 = (if c0 = (a1 : Int).toNat then A0 else (A0 : Option Addr).map (·.add ((a1 : Int).toNat * 5))) := ⟨_, rfl⟩; obtain ⟨c13, hc13⟩ : ∃ c1, c1 = c0 - (a1 : Int).toNat := ⟨_, rfl⟩; have hy13 : y246.length = (t245 : Int).toNat - (a1 : Int).toNat := (by rw [Ny246.out, List.length_drop, List.length_take] <;> omega); rw [show ((l0).take (t245 : Int).toNat).drop (a1 : Int).toNat = y246 from Ny246.out.symm] at hr13; replace hr13 : Kd.C k41 _ A13 y246.length y246 := (by rw [hA13]; exact hr13); rw [← hy13, ← hA13, ← hc13] at hcut13; have HR249 := Aside0.mk hr13; have HC249 := Aside0.mk (show y246.length ≤ c13 from by rw [hy13, hc13]; exact Nat.sub_le_sub_right (Nat.le_trans (by omega) hroom13) _); clear hr13 hC13 hroom13 hi013 hsz13 hc13; have KY13 := Aside0.mk hy13; have KA13 := Aside0.mk hA13; clear hy13 hA13; replace q13 := eq_true q13))
   go_loopg [5, 28] kj2 (fun kq v5 v28 w' => ∃ (x5_2 : List (S41)) (x28_2 : Int), v28 = .int .i64 x28_2 ∧ Aside0 (tree_Sub.l0 kq a1 x5_2 y246 (y246.length : Int) x28_2 = some r) ∧ Aside0 (kq ≤ kj2) ∧ Aside0 (Kd.S k41 41 w' w.heap.size (fun _ => True) v5 x5_2) ∧ Aside0 (Below w.heap.size w w'))
   case atStart => exact ⟨(([] : List (S41))), (0), rsd, H', ⟨Nat.le_refl _⟩, ⟨by first | exact Kd.S_nil _ _ _ _ _ | exact Kd.N_nil _ _ _ _ _ | exact Kd.V_nil _ _ _ _ _ | exact Kd.Q_nil _ _ _ _ _ | exact Kd.R_nil _ _ _ _ _⟩, ⟨blw⟩⟩
   case round =>
    clear H'
    try clear c1
    try clear c4
    try clear c4b0
    try clear c4b1
    try clear c5
    try clear c5b0
    try clear c8
    try clear c10
    try clear c10b0
    try clear c10b1
    try clear c11
    try clear c11b0
    try clear c11b1
    try clear c12
    try clear c12b0
    try clear c12b1
    try clear c13
    try clear q13
    try clear q013
    try clear q13
    obtain ⟨x5_2, x28_2, rfl, HA, HK2, HO_5, HB⟩ := hrel
    cases gk with
    | zero => exact absurd HA.out (by simp [tree_Sub.l0])
    | succ k2 =>
     have H := HA.out
     clear HA
     simp only [tree_Sub.l0] at H
     by_cases c14 : x28_2 < (y246.length : Int)
     case neg =>
      rw [if_neg c14] at H
      have c14b0 : decide (x28_2 < (y246.length : Int)) = false := decide_eq_false c14
      clear c14
      obtain rfl := Option.some.inj H
      go_wp2
      go_ret
      exact ⟨_, rse, soW HO_5.out, blw⟩
     rw [if_pos c14] at H
     have c14b0 : decide (x28_2 < (y246.length : Int)) = true := decide_eq_true c14
     clear c14
     by_cases c15 : 0 ≤ x28_2
     case neg =>
      rw [if_neg c15] at H
      exact absurd H (by simp)
     rw [if_pos c15] at H
     have c15b0 : decide (0 ≤ x28_2) = true := decide_eq_true c15
     clear c15
     by_cases c16 : x28_2 < (y246.length : Int)
     case neg =>
      rw [if_neg c16] at H
      exact absurd H (by simp)
     rw [if_pos c16] at H
     have c16b0 : decide (x28_2 < (y246.length : Int)) = true := decide_eq_true c16
     clear c16
     replace H := Option.bind_eq_some_iff.mp H
     obtain ⟨⟨t252, t253, t254, t255, t256⟩, A170, H⟩ := H
     replace H : (if x5_2.length < 2199023255552 then (tree_Sub.l0 k2 a1 (x5_2 ++ [(⟨t252, t253, t254, t255, t256⟩ : S41)]) y246 (y246.length : Int) (wrap64 (x28_2 + 1))) else (none)) = some r := H
     have A17 := Aside0.mk A170
     clear A170
     by_cases c18 : x5_2.length < 2199023255552
     case neg =>
      rw [if_neg c18] at H
      exact absurd H (by simp)
     rw [if_pos c18] at H
     have LMc18 := Aside0.mk c18
     clear c18
     obtain ⟨y259, hy259⟩ : ∃ y_ : List (S41), y_ = (x5_2 ++ [(⟨t252, t253, t254, t255, t256⟩ : S41)]) := ⟨_, rfl⟩
     replace H : (tree_Sub.l0 k2 a1 y259 y246 (y246.length : Int) (wrap64 (x28_2 + 1))) = some r := by first | (rw [hy259]; with_reducible exact H) | (have H2_ := (Option.bind_some _ _).symm.trans H; rw [hy259]; with_reducible exact H2_) | (have H2_ := (Option.bind_some _ _).symm.trans H; with_reducible exact H2_) | with_reducible exact H | (rw [hy259]; exact H) | exact H
     have Ny259 := Aside0.mk hy259
     clear hy259
     have H' := Aside0.mk H
     clear H
     have p250 : 0 ≤ (x28_2 : Int) := odt
     have q250 : x28_2 < (y246.length : Int) := odt
     obtain ⟨ad250, A250_4, c250_4, e250, hx250_0, hx250_1, hx250_2, hx250_3, hx250_4, hl250_4, hi250_4⟩ := at_T41 HR249.out x28_2 p250 q250
     cases e250
     replace hx250_0 := cellB hx250_0
     replace hx250_1 := cellB hx250_1
     replace hx250_2 := cellB hx250_2
     replace hx250_3 := cellB hx250_3
     replace hx250_4 := cellB hx250_4
     have HR250_4 := Aside0.mk hi250_4
     have HC250_4 := Aside0.mk hl250_4
     clear hi250_4 hl250_4
     replace p250 := eq_true p250
     replace q250 := eq_true q250
     go_wp2_with (first | ((with_reducible refine gate_dst (N := 7) rfl ?_); (try (refine gate_guard (by rfl) ?_; dsimp only)); refine box_event ?hg (N := 7) ?hd (cs := #[.int .i64 0, .int .i64 0, .bool false, .string (⟨#[]⟩ : ByteArray), .slice none 0 0]) (t := 41) ?hr ?_; (case hd => rfl); (case hg => rfl); (case hr => first | (go_simp; done) | (go_simp; rfl)); intro gb251 hg w19 hbox hb; have n0_ := Aside0.mk (Kd.S_below (Kd.S_elderB (soW HO_5.out) gb251 (Nat.le_of_eq hg.symm)) hb); have n1_ := Aside0.mk (below_step blw hb); have n2_ := Aside0.mk (hbox); have n3_ := Aside0.mk ((by rw [hg]; exact (below_size blw) : w.heap.size ≤ gb251)); have n4_ := Aside0.mk ((by rw [hg]; exact (below_size blw) : w.heap.size ≤ gb251)); clear HO_5; clear HB; have HO_5 := n0_; have HB := n1_; have BK251 := n2_; have GW251 := n3_; have GE251 := n4_; clear n0_ n1_ n2_ n3_ n4_; clear hb hbox hg; have hcz20_0 : w19.cell? ⟨gb251, 0, none⟩ = some (.int .i64 0) := (blk_cell BK251.out 0).trans rfl; have hcz20_1 : w19.cell? ⟨gb251, 1, none⟩ = some (.int .i64 0) := (blk_cell BK251.out 1).trans rfl; have hcz20_2 : w19.cell? ⟨gb251, 2, none⟩ = some (.bool false) := (blk_cell BK251.out 2).trans rfl; have hcz20_3 : w19.cell? ⟨gb251, 3, none⟩ = some (.string (⟨#[]⟩ : ByteArray)) := (blk_cell BK251.out 3).trans rfl; have hcz20_4 : w19.cell? ⟨gb251, 4, none⟩ = some (.slice none 0 0) := (blk_cell BK251.out 4).trans rfl; have hfz20_0 := blk_frozen BK251.out 0; have hfz20_1 := blk_frozen BK251.out 1; have hfz20_2 := blk_frozen BK251.out 2; have hfz20_3 := blk_frozen BK251.out 3; have hfz20_4 := blk_frozen BK251.out 4) | ((with_reducible refine gate_callee (f := 33) rfl ?_); refine goesL_ (some 36) rfl rfl Tryd.func33 (by kernel_rfl) rfl #[.agg #[.int .i64 ((rd_T41 y246 x28_2).f0), .int .i64 ((rd_T41 y246 x28_2).f1), .bool ((rd_T41 y246 x28_2).f2), .string ((rd_T41 y246 x28_2).f3), .slice A250_4 ((rd_T41 y246 x28_2).f4).length c250_4], .int .i64 (wrap64 (-a1))] rfl gargs ?_; (with_reducible refine (tree_moved.calls k2 ((rd_T41 y246 x28_2).f0) ((rd_T41 y246 x28_2).f1) ((rd_T41 y246 x28_2).f2) ((rd_T41 y246 x28_2).f3) _ _ ((rd_T41 y246 x28_2).f4) (wrap64 (-a1)) t252 t253 t254 t255 t256 _ ?side1 ?side2 A17.out).mono ?_); (case side1 => exact Kd.C_below HR250_4.out (by repeat (first | (with_reducible first | exact HB.out | apply below_alloc | apply pw_below_drewN | apply below_drew1 | refine below_set ?_ GE251.out) | exact HB.out))); (case side2 => exact HC250_4.out); rintro e w21 ⟨v257, rfl, ho0, hb⟩; refine ⟨_, rfl, ?_⟩; have n0_ := Aside0.mk (Kd.S_elder' (by (with_reducible repeat (first | apply Kd.S_alloc | apply Kd.S_drewN | apply Kd.S_drew)); exact (Kd.S_mono (Kd.S_far (p := ⟨gb251, 4, none⟩) (Kd.S_far (p := ⟨gb251, 3, none⟩) (Kd.S_far (p := ⟨gb251, 2, none⟩) (Kd.S_far (p := ⟨gb251, 1, none⟩) (Kd.S_far (p := ⟨gb251, 0, none⟩) (Kd.S_mono HO_5.out (fun k_ hk => (⟨hk, hk.2⟩ : _ ∧ k_ ≠ gb251))) (fun _ hk => hk.2) (.int .i64 ((rd_T41 y246 x28_2).f0))) (fun _ hk => hk.2) (.int .i64 ((rd_T41 y246 x28_2).f1))) (fun _ hk => hk.2) (.bool ((rd_T41 y246 x28_2).f2))) (fun _ hk => hk.2) (.string ((rd_T41 y246 x28_2).f3))) (fun _ hk => hk.2) (.slice A250_4 ((rd_T41 y246 x28_2).f4).length c250_4)) (fun _ h_ => h_.1))) (Kd.R_base ho0) hb); have n1_ := Aside0.mk (Kd.R_lower ho0 (below_size (by repeat (first | (with_reducible first | exact HB.out | apply below_alloc | apply pw_below_drewN | apply below_drew1 | refine below_set ?_ GE251.out) | exact HB.out)))); have n2_ := Aside0.mk (blk_below (g := gb251) (o := .cells #[.int .i64 ((rd_T41 y246 x28_2).f0), .int .i64 ((rd_T41 y246 x28_2).f1), .bool ((rd_T41 y246 x28_2).f2), .string ((rd_T41 y246 x28_2).f3), .slice A250_4 ((rd_T41 y246 x28_2).f4).length c250_4] 41 (0, 0)) (by (with_reducible repeat (first | refine blk_drewN ?_ _ | refine blk_drew ?_ | refine blk_alloc ?_ _)); refine blk_put (cs := #[.int .i64 ((rd_T41 y246 x28_2).f0), .int .i64 ((rd_T41 y246 x28_2).f1), .bool ((rd_T41 y246 x28_2).f2), .string ((rd_T41 y246 x28_2).f3), .slice none 0 0]) ?_ 4 _ rfl; (with_reducible repeat (first | refine blk_drewN ?_ _ | refine blk_drew ?_ | refine blk_alloc ?_ _)); refine blk_put (cs := #[.int .i64 ((rd_T41 y246 x28_2).f0), .int .i64 ((rd_T41 y246 x28_2).f1), .bool ((rd_T41 y246 x28_2).f2), .string (⟨#[]⟩ : ByteArray), .slice none 0 0]) ?_ 3 _ rfl; (with_reducible repeat (first | refine blk_drewN ?_ _ | refine blk_drew ?_ | refine blk_alloc ?_ _)); refine blk_put (cs := #[.int .i64 ((rd_T41 y246 x28_2).f0), .int .i64 ((rd_T41 y246 x28_2).f1), .bool false, .string (⟨#[]⟩ : ByteArray), .slice none 0 0]) ?_ 2 _ rfl; (with_reducible repeat (first | refine blk_drewN ?_ _ | refine blk_drew ?_ | refine blk_alloc ?_ _)); refine blk_put (cs := #[.int .i64 ((rd_T41 y246 x28_2).f0), .int .i64 0, .bool false, .string (⟨#[]⟩ : ByteArray), .slice none 0 0]) ?_ 1 _ rfl; (with_reducible repeat (first | refine blk_drewN ?_ _ | refine blk_drew ?_ | refine blk_alloc ?_ _)); refine blk_put (cs := #[.int .i64 0, .int .i64 0, .bool false, .string (⟨#[]⟩ : ByteArray), .slice none 0 0]) ?_ 0 _ rfl; (with_reducible repeat (first | refine blk_drewN ?_ _ | refine blk_drew ?_ | refine blk_alloc ?_ _)); exact BK251.out) hb); have n3_ := Aside0.mk (below_step (by repeat (first | (with_reducible first | exact HB.out | apply below_alloc | apply pw_below_drewN | apply below_drew1 | refine below_set ?_ GE251.out) | exact HB.out)) hb); clear HO_5; clear BK251; clear HB; have HO_5 := n0_; have HO258 := n1_; have BK251 := n2_; have HB := n3_; clear n0_ n1_ n2_ n3_; (try clear hb); (try clear hb2); (try clear hk); (try clear hi); (try clear ho0); obtain ⟨Ao23, co23, eo23⟩ := Kd.R_slice HO258.out; subst eo23) | ((with_reducible refine gate_builtin (b := .append) (xs := #[.tmp 32, .tmp 37]) rfl ?_); (try (refine gate_guard (by rfl) ?_; dsimp only)); at_builtin; refine Kd.S_append k41 (w0 := w) w.heap.size rfl (.tmp 32) (.tmp 37) 23 41 (.agg #[(.int .i64 0), (.int .i64 0), (.bool false), (.string ⟨#[]⟩), (.slice none 0 0)]) 64 rfl Tryd.underlying23 info41 rfl (by decide) (by omega) u5 x5_2 (⟨t252, t253, t254, t255, t256⟩ : S41) [.int .i64 t252, .int .i64 t253, .bool t254, .string t255, .slice Ao23 t256.length co23] (fun k_ => k_ ≠ gb251) (fun k_ => some k_ = (.slice Ao23 t256.length co23 : Value).ownBlock) rfl rfl ?aP (fun k_ hk_ => ((Kd.R_mono (ok' := fun k_ => ((fun k_ => k_ ≠ gb251)) k_ ∧ some k_ ≠ (u5 : Value).ownBlock) (Kd.R_types (Kd.R_apart' (HO258.out) (Kd.S_typed HO_5.out) (by decide)) BK251.out (by decide)) (fun k_ hk => ⟨hk.2, hk.1.2⟩))).1 k_ hk_.symm) ?aF ?aO ?aB ?aS ?aL ?_; (case aP => exact k41_mkM _ _ _ (⟨t252, t253, t254, t255, t256⟩ : S41) (Kd.R_mono (Kd.R_tight rfl (Kd.R_mono (ok' := fun k_ => ((fun k_ => k_ ≠ gb251)) k_ ∧ some k_ ≠ (u5 : Value).ownBlock) (Kd.R_types (Kd.R_apart' (HO258.out) (Kd.S_typed HO_5.out) (by decide)) BK251.out (by decide)) (fun k_ hk => ⟨hk.2, hk.1.2⟩))) (fun _ h_ => h_))); (case aB => exact (by repeat (first | (with_reducible first | exact HB.out | apply below_alloc | apply pw_below_drewN | apply below_drew1 | refine below_set ?_ GE251.out) | exact HB.out))); (case aF => exact (fun k_ hk => Kd.freshB (g := gb251) (o := .cells #[.int .i64 ((rd_T41 y246 x28_2).f0), .int .i64 ((rd_T41 y246 x28_2).f1), .bool ((rd_T41 y246 x28_2).f2), .string ((rd_T41 y246 x28_2).f3), .slice A250_4 ((rd_T41 y246 x28_2).f4).length c250_4] 41 (0, 0)) (boW BK251.out) k_ hk)); (case aO => exact (by (with_reducible repeat (first | apply Kd.S_alloc | apply Kd.S_drewN | apply Kd.S_drew)); exact Kd.S_mono HO_5.out (fun k_ hk => ⟨hk.1.2, fun e_ => hk.2 e_⟩))); (case aS => exact (below_size (by repeat (first | (with_reducible first | exact HB.out | apply below_alloc | apply pw_below_drewN | apply below_drew1 | refine below_set ?_ GE251.out) | exact HB.out)))); (case aL => have := LMc18.out; omega); intro v260 w22 ho hb hg hat; rw [← Ny259.out] at ho; have n0_ := Aside0.mk (blk_grown (g := gb251) (o := .cells #[.int .i64 ((rd_T41 y246 x28_2).f0), .int .i64 ((rd_T41 y246 x28_2).f1), .bool ((rd_T41 y246 x28_2).f2), .string ((rd_T41 y246 x28_2).f3), .slice A250_4 ((rd_T41 y246 x28_2).f4).length c250_4] 41 (0, 0)) (boW BK251.out) hg (Kd.S_away HO_5.out (fun _ hk => hk.1.2))); have n1_ := Aside0.mk (hb); have n2_ := Aside0.mk (ho); clear BK251; clear HB; clear HO_5; clear HO258; have BK251 := n0_; have HB := n1_; have HO261 := n2_; clear n0_ n1_ n2_; clear ho hb hg hat))
     go_roundg k2
     case measure => have := HJ2.out; have := HK2.out; omega
     case rel => exact ⟨(y259), (wrap64 (x28_2 + 1)), rsd, H', ⟨by have := HJ2.out; have := HK2.out; omega⟩, ⟨by (with_reducible repeat (first | apply Kd.S_alloc | apply Kd.S_drewN | apply Kd.S_drew)); exact Kd.S_mono HO261.out (fun _ hk => trivial)⟩, ⟨by repeat (first | (with_reducible first | exact HB.out | apply below_alloc | apply pw_below_drewN | apply below_drew1 | refine below_set ?_ GE251.out) | exact HB.out)⟩⟩

/-! ### tree_Of: function 19 -/
mutual
def tree_Of.l0 : Nat → List (S41) → List (List (S41)) → Int → Int → Option ((List (S41)))
 | 0, _, _, _, _ => none
 | k + 1, x7, x17, x18, x19 => if x19 < x18 then (if 0 ≤ x19 then (if x19 < (x17.length : Int) then (if ((rd_L9 x17 x19).length : Int) > 0 then (if 0 < (x7.length : Int) then (if ((rd_T41 x7 0).f4).length < 17592186044416 then (tree_Of.j1 k (x7.set (0 : Int).toNat (⟨(rd_T41 x7 0).f0, (rd_T41 x7 0).f1, (rd_T41 x7 0).f2, (rd_T41 x7 0).f3, (((rd_T41 x7 0).f4) ++ [(x7.length : Int)])⟩ : S41)) (rd_L9 x17 x19) (x7.length : Int) x17 x18 x19) else (none)) else (none)) else (tree_Of.j1 k x7 (rd_L9 x17 x19) (x7.length : Int) x17 x18 x19)) else (none)) else (none)) else (some x7)
def tree_Of.j1 : Nat → List (S41) → List (S41) → Int → List (List (S41)) → Int → Int → Option ((List (S41)))
 | 0, _, _, _, _, _, _ => none
 | k + 1, x7, x9, x10, x17, x18, x19 => tree_Of.l1 k x7 x10 x17 x18 x19 x9 (x9.length : Int) 0
def tree_Of.l1 : Nat → List (S41) → Int → List (List (S41)) → Int → Int → List (S41) → Int → Int → Option ((List (S41)))
 | 0, _, _, _, _, _, _, _, _ => none
 | k + 1, x7, x10, x17, x18, x19, x38, x39, x40 => if x40 < x39 then (if 0 ≤ x40 then (if x40 < (x38.length : Int) then ((tree_moved.f k ((rd_T41 x38 x40).f0) ((rd_T41 x38 x40).f1) ((rd_T41 x38 x40).f2) ((rd_T41 x38 x40).f3) ((rd_T41 x38 x40).f4) x10).bind fun bt273 => (if x7.length < 2199023255552 then (tree_Of.l1 k (x7 ++ [(⟨bt273.1, bt273.2.1, bt273.2.2.1, bt273.2.2.2.1, bt273.2.2.2.2⟩ : S41)]) x10 x17 x18 x19 x38 x39 (wrap64 (x40 + 1))) else (none))) else (none)) else (none)) else (tree_Of.l0 k x7 x17 x18 (wrap64 (x19 + 1)))
end
def tree_Of.f (k : Nat) (a0 : Int) (a1 : Int) (l2 : List (List (S41))) : Option ((List (S41))) := tree_Of.l0 k (([(⟨a0, a1, true, (⟨#[]⟩ : ByteArray), ([] : List Int)⟩ : S41)] : List (S41))) l2 (l2.length : Int) 0
theorem tree_Of.mono_l : ∀ k, (∀ y0 y1 y2 y3, LeO (tree_Of.l0 k y0 y1 y2 y3) (tree_Of.l0 (k + 1) y0 y1 y2 y3)) ∧ (∀ y0 y1 y2 y3 y4 y5, LeO (tree_Of.j1 k y0 y1 y2 y3 y4 y5) (tree_Of.j1 (k + 1) y0 y1 y2 y3 y4 y5)) ∧ (∀ y0 y1 y2 y3 y4 y5 y6 y7, LeO (tree_Of.l1 k y0 y1 y2 y3 y4 y5 y6 y7) (tree_Of.l1 (k + 1) y0 y1 y2 y3 y4 y5 y6 y7))
 | 0 => ⟨fun _ _ _ _ r h => by simp [tree_Of.l0] at h, fun _ _ _ _ _ _ r h => by simp [tree_Of.j1] at h, fun _ _ _ _ _ _ _ _ r h => by simp [tree_Of.l1] at h⟩
 | k + 1 => by
  obtain ⟨ih0, ih1, ih2⟩ := tree_Of.mono_l k
  refine ⟨?_, ?_, ?_⟩ <;> intros <;> first | unfold tree_Of.l0 | unfold tree_Of.j1 | unfold tree_Of.l1
  all_goals repeat' first
  | (with_reducible first | exact ih0 _ _ _ _ | exact ih1 _ _ _ _ _ _ | exact ih2 _ _ _ _ _ _ _ _ | exact tree_moved.mono _ _ _ _ _ _ _ | exact LeO.refl _ | exact LeO.none _ | refine LeO.ite ?_ ?_ | refine LeO.bind ?_ (fun _ => ?_))
  | exact ih0 _ _ _ _
  | exact ih1 _ _ _ _ _ _
  | exact ih2 _ _ _ _ _ _ _ _
  | exact tree_moved.mono _ _ _ _ _ _ _
  | exact LeO.none _
  | refine LeO.ite ?_ ?_
  | refine LeO.bind ?_ (fun _ => ?_)
theorem tree_Of.mono : ∀ a0 a1 a2 k, LeO (tree_Of.f k a0 a1 a2) (tree_Of.f (k + 1) a0 a1 a2) := by
 intro a0 a1 a2 k
 obtain ⟨ih0, ih1, ih2⟩ := tree_Of.mono_l k
 unfold tree_Of.f
 repeat' first
  | (with_reducible first | exact ih0 _ _ _ _ | exact ih1 _ _ _ _ _ _ | exact ih2 _ _ _ _ _ _ _ _ | exact tree_moved.mono _ _ _ _ _ _ _ | exact LeO.refl _ | exact LeO.none _ | refine LeO.ite ?_ ?_ | refine LeO.bind ?_ (fun _ => ?_))
  | exact ih0 _ _ _ _
  | exact ih1 _ _ _ _ _ _
  | exact ih2 _ _ _ _ _ _ _ _
  | exact tree_moved.mono _ _ _ _ _ _ _
  | exact LeO.none _
  | refine LeO.ite ?_ ?_
  | refine LeO.bind ?_ (fun _ => ?_)
set_option maxHeartbeats 8000000 in
set_option maxRecDepth 100000 in
theorem tree_Of.calls (k : Nat) (a0 : Int) (a1 : Int) (A2 : Option Addr) (c2 : Nat) (l2 : List (List (S41))) (r : List (S41)) (w : World) (hr2 : Kd.C (Kd.slice 41 k41) w A2 l2.length l2) (hc2 : l2.length ≤ c2) (h : tree_Of.f k a0 a1 l2 = some r) :
 Calls Tryd.prog 19 #[.int .i64 a0, .int .i64 a1, .slice A2 l2.length c2] w fun e w' => ∃ v0_ : Value, e = .returned (v0_) ∧ Kd.S k41 41 w' w.heap.size (fun _ => True) v0_ r ∧ Below w.heap.size w w' := by
 have hu41 := Tryd.underlying41
 have HR2 := Aside0.mk hr2
 have HC2 := Aside0.mk hc2
 clear hr2 hc2
 have HB := Aside0.mk (Below.refl w.heap.size w)
 have H : (tree_Of.l0 k (([(⟨a0, a1, true, (⟨#[]⟩ : ByteArray), ([] : List Int)⟩ : S41)] : List (S41))) l2 (l2.length : Int) 0) = some r := h
 clear h
 obtain ⟨y262, hy262⟩ : ∃ y_ : List (S41), y_ = (([(⟨a0, a1, true, (⟨#[]⟩ : ByteArray), ([] : List Int)⟩ : S41)] : List (S41))) := ⟨_, rfl⟩
 replace H : (tree_Of.l0 k y262 l2 (l2.length : Int) 0) = some r := by first | (rw [hy262]; with_reducible exact H) | (have H2_ := (Option.bind_some _ _).symm.trans H; rw [hy262]; with_reducible exact H2_) | (have H2_ := (Option.bind_some _ _).symm.trans H; with_reducible exact H2_) | with_reducible exact H | (rw [hy262]; exact H) | exact H
 have Ny262 := Aside0.mk hy262
 clear hy262
 have H' := Aside0.mk H
 clear H
 go_enter Tryd.func19, Tryd.ntmps19
 go_wp2_with (first | ((with_reducible refine gate_dst (N := 16) rfl ?_); refine Kd.S_lit k41 _ 41 ?hg (N := 16) ?hd (xs := ([(⟨a0, a1, true, (⟨#[]⟩ : ByteArray), ([] : List Int)⟩ : S41)] : List (S41))) (inner := [.int .i64 a0, .int .i64 a1, .bool true, .string (⟨#[]⟩ : ByteArray), .slice none 0 0]) (ok := fun _ => True) (okp := fun _ => True) ?hr ?hp (fun _ hk => hk) trivial (Below.refl _ _) (Nat.le_refl _) (by simp) ?_; (case hd => rfl); (case hg => rfl); (case hr => first | (go_simp; done) | (go_simp; rfl)); (case hp => exact (Reps.c5 (show Kd.M k41 _ _ _ (⟨a0, a1, true, (⟨#[]⟩ : ByteArray), ([] : List Int)⟩ : S41) [.int .i64 a0, .int .i64 a1, .bool true, .string (⟨#[]⟩ : ByteArray), .slice none 0 0] from (k41_mkM _ _ _ (⟨a0, a1, true, (⟨#[]⟩ : ByteArray), ([] : List Int)⟩ : S41) (Kd.R_nil _ _ _ _ _))) (Reps.none _ _))); intro v263 w4 ho5 hb hg_ hnew_; clear hg_ hnew_; (first | rw [← Ny262.out] at ho5 | (simp only [Int.reduceToNat] at ho5; rw [← Ny262.out] at ho5)); have n0_ := Aside0.mk (Kd.S_lower ho5 (below_size blw)); have n1_ := Aside0.mk (below_step blw hb); clear HB; have HO264 := n0_; have HB := n1_; clear n0_ n1_; clear hb ho5))
 go_loopg [7, 19] k (fun kq v7 v19 w' => ∃ (x7_1 : List (S41)) (x19_1 : Int), v19 = .int .i64 x19_1 ∧ Aside0 (tree_Of.l0 kq x7_1 l2 (l2.length : Int) x19_1 = some r) ∧ Aside0 (kq ≤ k) ∧ Aside0 (Kd.S k41 41 w' w.heap.size (fun _ => True) v7 x7_1) ∧ Aside0 (Below w.heap.size w w'))
 case atStart => exact ⟨(y262), (0), rsd, H', ⟨Nat.le_refl _⟩, ⟨soW HO264.out⟩, ⟨blw⟩⟩
 case round =>
  clear H'
  try clear c2
  try clear c5
  obtain ⟨x7_1, x19_1, rfl, HA, HK1, HO_7, HB⟩ := hrel
  cases gk with
  | zero => exact absurd HA.out (by simp [tree_Of.l0])
  | succ k1 =>
   have H := HA.out
   clear HA
   simp only [tree_Of.l0] at H
   by_cases c6 : x19_1 < (l2.length : Int)
   case neg =>
    rw [if_neg c6] at H
    have c6b0 : decide (x19_1 < (l2.length : Int)) = false := decide_eq_false c6
    clear c6
    obtain rfl := Option.some.inj H
    go_wp2
    go_ret
    exact ⟨_, rse, soW HO_7.out, blw⟩
   rw [if_pos c6] at H
   have c6b0 : decide (x19_1 < (l2.length : Int)) = true := decide_eq_true c6
   clear c6
   by_cases c7 : 0 ≤ x19_1
   case neg =>
    rw [if_neg c7] at H
    exact absurd H (by simp)
   rw [if_pos c7] at H
   have c7b0 : decide (0 ≤ x19_1) = true := decide_eq_true c7
   clear c7
   by_cases c8 : x19_1 < (l2.length : Int)
   case neg =>
    rw [if_neg c8] at H
    exact absurd H (by simp)
   rw [if_pos c8] at H
   have c8b0 : decide (x19_1 < (l2.length : Int)) = true := decide_eq_true c8
   clear c8
   have HC9 := Aside0.mk H
   clear H
   have p265 : 0 ≤ (x19_1 : Int) := odt
   have q265 : x19_1 < (l2.length : Int) := odt
   obtain ⟨ad265, A265_0, c265_0, e265, hx265_0, hl265_0, hi265_0⟩ := at_L9 HR2.out x19_1 p265 q265
   cases e265
   replace hx265_0 := cellB hx265_0
   have HR265_0 := Aside0.mk hi265_0
   have HC265_0 := Aside0.mk hl265_0
   clear hi265_0 hl265_0
   replace p265 := eq_true p265
   replace q265 := eq_true q265
   obtain ⟨Ao10, co10, eo10⟩ := Kd.S_slice HO_7.out
   subst eo10
   go_upto_if 27 with (fail)
   go_cut [] (fun wc => ∃ (kq : Nat) (x7_8 : List (S41)), Aside0 (tree_Of.j1 kq x7_8 (rd_L9 l2 x19_1) (x7_1.length : Int) l2 (l2.length : Int) x19_1 = some r) ∧ Aside0 (kq ≤ k1) ∧ Aside0 (Kd.S k41 41 wc w.heap.size (fun _ => True) (.slice Ao10 x7_1.length co10) x7_8) ∧ Aside0 (Below w.heap.size w wc))
   case first =>
    have H := HC9.out
    clear HC9
    by_cases c11 : ((rd_L9 l2 x19_1).length : Int) > 0
    case neg =>
     rw [if_neg c11] at H
     have c11b0 : decide (0 < ((rd_L9 l2 x19_1).length : Int)) = false := decide_eq_false c11
     have c11b1 : decide (0 < (rd_L9 l2 x19_1).length) = false := decide_eq_false (by omega)
     clear c11
     (first | rw [c11b0] | (simp only [i64_w, i32_w]; rw [c11b0]) | rw [c11b1] | skip)
     have H' := Aside0.mk H
     clear H
     go_wp2
     go_meet
     case rel => exact ⟨_, (x7_1), H', ⟨by have := HK1.out; first | omega | exact Nat.le_refl _⟩, ⟨soW HO_7.out⟩, ⟨blw⟩⟩
    rw [if_pos c11] at H
    have c11b0 : decide (0 < ((rd_L9 l2 x19_1).length : Int)) = true := decide_eq_true c11
    have c11b1 : decide (0 < (rd_L9 l2 x19_1).length) = true := decide_eq_true (by omega)
    clear c11
    (first | rw [c11b0] | (simp only [i64_w, i32_w]; rw [c11b0]) | rw [c11b1] | skip)
    by_cases c12 : 0 < (x7_1.length : Int)
    case neg =>
     rw [if_neg c12] at H
     exact absurd H (by simp)
    rw [if_pos c12] at H
    have c12b0 : decide (0 < (x7_1.length : Int)) = true := decide_eq_true c12
    have c12b1 : decide (0 < x7_1.length) = true := decide_eq_true (by omega)
    clear c12
    by_cases c13 : ((rd_T41 x7_1 0).f4).length < 17592186044416
    case neg =>
     rw [if_neg c13] at H
     exact absurd H (by simp)
    rw [if_pos c13] at H
    have LMc13 := Aside0.mk c13
    clear c13
    obtain ⟨y267, hy267⟩ : ∃ y_ : List Int, y_ = (((rd_T41 x7_1 0).f4) ++ [(x7_1.length : Int)]) := ⟨_, rfl⟩
    replace H : (tree_Of.j1 k1 (x7_1.set (0 : Int).toNat (⟨(rd_T41 x7_1 0).f0, (rd_T41 x7_1 0).f1, (rd_T41 x7_1 0).f2, (rd_T41 x7_1 0).f3, y267⟩ : S41)) (rd_L9 l2 x19_1) (x7_1.length : Int) l2 (l2.length : Int) x19_1) = some r := by first | (rw [hy267]; with_reducible exact H) | (have H2_ := (Option.bind_some _ _).symm.trans H; rw [hy267]; with_reducible exact H2_) | (have H2_ := (Option.bind_some _ _).symm.trans H; with_reducible exact H2_) | with_reducible exact H | (rw [hy267]; exact H) | exact H
    have Ny267 := Aside0.mk hy267
    clear hy267
    obtain ⟨y270, hy270⟩ : ∃ y_ : List (S41), y_ = (x7_1.set (0 : Int).toNat (⟨(rd_T41 x7_1 0).f0, (rd_T41 x7_1 0).f1, (rd_T41 x7_1 0).f2, (rd_T41 x7_1 0).f3, y267⟩ : S41)) := ⟨_, rfl⟩
    replace H : (tree_Of.j1 k1 y270 (rd_L9 l2 x19_1) (x7_1.length : Int) l2 (l2.length : Int) x19_1) = some r := by first | (rw [hy270]; with_reducible exact H) | (have H2_ := (Option.bind_some _ _).symm.trans H; rw [hy270]; with_reducible exact H2_) | (have H2_ := (Option.bind_some _ _).symm.trans H; with_reducible exact H2_) | with_reducible exact H | (rw [hy270]; exact H) | exact H
    have Ny270 := Aside0.mk hy270
    clear hy270
    have H' := Aside0.mk H
    clear H
    have p266 : 0 ≤ (0 : Int) := (by omega)
    have q266 : 0 < (x7_1.length : Int) := odt
    obtain ⟨ad266, A266_4, c266_4, e266, hx266_0, hx266_1, hx266_2, hx266_3, hx266_4, hl266_4, hi266_4⟩ := at_T41 (Kd.S_reads' HO_7.out).2.2 0 p266 q266
    cases e266
    obtain ⟨ce266, hce266, hMe266, hcc266⟩ := Kd.S_get HO_7.out z41 0 p266 (by first | exact q266 | exact odt | (have e_ := (Kd.S_reads' HO_7.out).1; omega))
    obtain ⟨ve266_4, rfl, ge266_4⟩ := k41_openM hMe266
    have hv266_4 := hcc266 4 _ rfl
    rw [add_field _ _ 4 (by omega)] at hv266_4
    replace hv266_4 := Option.some.inj (hv266_4.symm.trans hx266_4)
    rw [hv266_4] at ge266_4
    have HL266_4 := Aside0.mk (show Kd.R (Kd.int .i64) 3 _ _ _ _ ((rd_T41 x7_1 0).f4) from ge266_4)
    clear hv266_4 ge266_4
    have HX266_4 := Aside0.mk hx266_4
    clear hcc266 hce266
    have qi266 : (0 < x7_1.length) = True := eq_true (by omega)
    (try rw [show ((0 : Int)).toNat = 0 from rfl] at hx266_0)
    (try rw [show 0 * 5 = 0 from rfl] at hx266_0)
    (try rw [Addr.add_zero'] at hx266_0)
    (try rw [show ((0 : Int)).toNat = 0 from rfl] at hx266_1)
    (try rw [show 0 * 5 = 0 from rfl] at hx266_1)
    (try rw [Addr.add_zero'] at hx266_1)
    (try rw [show ((0 : Int)).toNat = 0 from rfl] at hx266_2)
    (try rw [show 0 * 5 = 0 from rfl] at hx266_2)
    (try rw [Addr.add_zero'] at hx266_2)
    (try rw [show ((0 : Int)).toNat = 0 from rfl] at hx266_3)
    (try rw [show 0 * 5 = 0 from rfl] at hx266_3)
    (try rw [Addr.add_zero'] at hx266_3)
    (try rw [show ((0 : Int)).toNat = 0 from rfl] at hx266_4)
    (try rw [show 0 * 5 = 0 from rfl] at hx266_4)
    (try rw [Addr.add_zero'] at hx266_4)
    have HR266_4 := Aside0.mk hi266_4
    have HC266_4 := Aside0.mk hl266_4
    clear hi266_4 hl266_4
    replace p266 := eq_true p266
    replace q266 := eq_true q266
    obtain ⟨go15, co15, eo15, gb15, gl15, cl15, HG15⟩ := Kd.S_form HO_7.out (by have h_ : (0 : Int) < ((x7_1.length : Int) : Int) := odt; have h2_ : 0 ≤ (0 : Int) := (by omega); omega)
    (first | cases eo15 | (injection eo15 with ea_ en_ ec_; (first | subst ea_ | (injection ea_ with ea_; subst ea_)); subst ec_; clear en_))
    have GB15 := Aside0.mk gb15
    have GG15 := Aside0.mk HG15
    clear gb15 gl15 HG15
    (first | simp only [add_plain] at hx266_0 | skip)
    (first | simp only [add_plain] at hx266_1 | skip)
    (first | simp only [add_plain] at hx266_2 | skip)
    (first | simp only [add_plain] at hx266_3 | skip)
    (first | simp only [add_plain] at hx266_4 | skip)
    obtain ⟨oki15, ce15, hcl15, hM15, hcc15, _, _, hH15⟩ := Kd.S_elem HO_7.out z41 (0 : Int) (by omega) (by have h_ : (0 : Int) < ((x7_1.length : Int) : Int) := odt; first | exact h_ | (have e_ := (Kd.S_reads' HO_7.out).1; omega) | simpa using h_)
    obtain ⟨ve15_4, rfl, ge15_4⟩ := k41_openM hM15
    have hv15 := hcc15 4 _ rfl
    have hX15 := HX266_4.out
    (try simp only [add_plain] at hX15)
    (try simp only [Nat.add_zero] at hv15)
    replace hv15 := Option.some.inj (hv15.symm.trans hX15)
    subst hv15
    clear hX15 hcc15 hcl15
    have UU15 := Aside0.mk (show Kd.R (Kd.int .i64) 3 _ w.heap.size oki15 (.slice A266_4 ((rd_T41 x7_1 0).f4).length c266_4) ((rd_T41 x7_1 0).f4) from ge15_4)
    have HH15 := Aside0.mk hH15
    have HN15 := Aside0.mk (Kd.S_reads' HO_7.out).1
    clear hH15 ge15_4
    go_wp2_with (first | ((with_reducible refine gate_builtin (b := .append) (xs := #[.tmp 32, .tmp 34]) rfl ?_); at_builtin; refine Kd.R_append (Kd.int .i64) (w0 := w) w.heap.size rfl (.tmp 32) (.tmp 34) 39 3 (.int .i64 0) 8 rfl Tryd.underlying39 info3 rfl (by decide) (by omega) (.slice A266_4 ((rd_T41 x7_1 0).f4).length c266_4) ((rd_T41 x7_1 0).f4) (x7_1.length : Int) [.int .i64 (x7_1.length : Int)] (fun k_ => oki15 k_ ∨ ((fun _ => True)) k_ ∧ wr.heap.size ≤ k_) (fun _ => False) rfl rfl ?aP (fun _ hk => hk.elim) ?aF ?aO ?aB ?aS ?aL ?_; (case aP => exact rfl); (case aB => exact blw); (case aF => exact (fun k_ hk => .inr ⟨trivial, hk⟩)); (case aO => exact (by (with_reducible repeat (first | apply Kd.R_alloc | apply Kd.R_drewN | apply Kd.R_drew)); exact Kd.R_mono UU15.out (fun _ hk => .inl hk))); (case aS => exact (below_size blw)); (case aL => have := LMc13.out; omega); intro v268 w16 ho hb hg hat; rw [← Ny267.out] at ho; have n0_ := Aside0.mk (hb); have n1_ := Aside0.mk (Kd.H_grown (Kd.H_widen (by repeat (first | exact HH15.out | refine Kd.H_alloc ?_ _ | refine Kd.H_drewN ?_ _ | refine Kd.H_drew ?_))) hg (fun k_ e_ => .inl (UU15.out.1 k_ e_))); have n2_ := Aside0.mk (ho); clear HB; clear HH15; clear HO_7; clear UU15; clear HL266_4; have HB := n0_; have HH15 := n1_; have HO269 := n2_; clear n0_ n1_ n2_; clear ho hb hg hat; have p14 : 0 ≤ (0 : Int) := (by omega); have q14 : (0 : Int) < ((x7_1.length : Int) : Int) := odt; replace p14 := eq_true p14; replace q14 := eq_true q14; obtain ⟨Ao19, co19, eo19⟩ := Kd.R_slice HO269.out; subst eo19; obtain ⟨_, _, hraw17, _, _, hcc17, _⟩ := Kd.H_raw HH15.out (by omega) (by have h_ : (0 : Int) < ((x7_1.length : Int) : Int) := odt; first | exact h_ | (have e_ := (HN15.out); omega) | simpa using h_); obtain ⟨_, hfr17⟩ := Kd.H_at HH15.out (by omega) (by have h_ : (0 : Int) < ((x7_1.length : Int) : Int) := odt; first | exact h_ | (have e_ := (HN15.out); omega) | simpa using h_); have hx17_0 := hcc17 4 _ rfl; have hf17_0 := hfr17 4; (try rw [show (k41).sz = 5 from rfl] at hx17_0); (try rw [show (k41).sz = 5 from rfl] at hf17_0); (try rw [show ((0 : Int)).toNat = 0 from rfl] at hx17_0); (try simp only [Nat.reduceMul, Nat.zero_mul, Nat.zero_add, Nat.reduceAdd] at hx17_0); (try rw [show ((0 : Int)).toNat = 0 from rfl] at hf17_0); (try simp only [Nat.reduceMul, Nat.zero_mul, Nat.zero_add, Nat.reduceAdd] at hf17_0); have HP17 := Kd.S_seg0 HH15.out (by omega) (by have h_ : (0 : Int) < ((x7_1.length : Int) : Int) := odt; first | exact h_ | (have e_ := (HN15.out); omega) | simpa using h_) (seg := [.slice Ao19 y267.length co19]) (j := 4) (show 5 ≤ 5 from by decide) (x' := (⟨(rd_T41 x7_1 0).f0, (rd_T41 x7_1 0).f1, (rd_T41 x7_1 0).f2, (rd_T41 x7_1 0).f3, y267⟩ : S41)) (k41_mkM _ _ _ (⟨(rd_T41 x7_1 0).f0, (rd_T41 x7_1 0).f1, (rd_T41 x7_1 0).f2, (rd_T41 x7_1 0).f3, y267⟩ : S41) HO269.out) (fun _ hk => hk); clear hcc17 hfr17) | ((with_reducible refine gate_store (t := 39) (p := 37) rfl ?_); refine store_event (t := 39) (p := 37) (v := ?vo_w18) (w1 := (w16.setCell ⟨go15, (0 : Int).toNat * 5 + 4, none⟩ (.slice Ao19 y267.length co19))) ?hg ?ho ?hn ?hr ?_; (case ho => rfl); (case hg => rfl); (case hn => rfl); (case hr => first | (go_simp; done) | (go_simp; rfl)); intro w18 hw; have hg : w16.grownBy w18 (some go15) := (by rw [hw]; exact HP17.2); have hp_ : Kd.S k41 41 w18 w.heap.size (fun _ => True) (.slice (some ⟨go15, 0, none⟩) x7_1.length co10) y270 := (by rw [hw, Ny270.out]; exact HP17.1); clear HP17; have n0_ := Aside0.mk ((by rw [hw]; exact below_set HB.out GB15.out : Below w.heap.size w w18)); have n1_ := Aside0.mk (hp_); clear HB; clear HO269; clear HH15; have HB := n0_; have HO_7 := n1_; clear n0_ n1_; clear hg hw hp_ hraw17))
    go_meet
    case rel => exact ⟨_, (y270), H', ⟨by have := HK1.out; first | omega | exact Nat.le_refl _⟩, ⟨soW HO_7.out⟩, ⟨blw⟩⟩
   case rest =>
    clear HC9
    try clear c2
    try clear c5
    try clear c6
    try clear c6b0
    try clear c7
    try clear c7b0
    try clear c8
    try clear c8b0
    try clear c11
    try clear c11b0
    try clear c11b1
    try clear c12
    try clear c12b0
    try clear c12b1
    try clear c13
    try clear p14
    try clear q14
    try clear hx17_0
    try clear hx265_0
    try clear hx266_0
    try clear hx266_1
    try clear hx266_2
    try clear hx266_3
    try clear hx266_4
    try clear p14
    try clear p265
    try clear p266
    try clear q14
    try clear q265
    try clear q266
    obtain ⟨kq, x7_8, HA, HJ8, HO_7, HB⟩ := hcut
    have hl7_8 := (Kd.S_reads' HO_7.out).1
    rw [hl7_8] at HO_7
    (try simp only [hl7_8])
    cases kq with
    | zero => exact absurd HA.out (by simp [tree_Of.j1])
    | succ kj8 =>
     have H := HA.out
     clear HA
     simp only [tree_Of.j1] at H
     have H' := Aside0.mk H
     clear H
     go_wp2
     go_loopg [7, 40] kj8 (fun kq v7 v40 w' => ∃ (x7_3 : List (S41)) (x40_3 : Int), v40 = .int .i64 x40_3 ∧ Aside0 (tree_Of.l1 kq x7_3 (x7_1.length : Int) l2 (l2.length : Int) x19_1 (rd_L9 l2 x19_1) ((rd_L9 l2 x19_1).length : Int) x40_3 = some r) ∧ Aside0 (kq ≤ kj8) ∧ Aside0 (Kd.S k41 41 w' w.heap.size (fun _ => True) v7 x7_3) ∧ Aside0 (Below w.heap.size w w'))
     case atStart => exact ⟨(x7_8), (0), rsd, H', ⟨Nat.le_refl _⟩, ⟨by (try simp only [hl7_8]); (with_reducible repeat (first | apply Kd.S_alloc | apply Kd.S_drewN | apply Kd.S_drew)); exact HO_7.out⟩, ⟨blw⟩⟩
     case round =>
      clear H'
      try clear c2
      try clear c5
      try clear c6
      try clear c6b0
      try clear c7
      try clear c7b0
      try clear c8
      try clear c8b0
      try clear c11
      try clear c11b0
      try clear c11b1
      try clear c12
      try clear c12b0
      try clear c12b1
      try clear c13
      try clear p14
      try clear q14
      try clear hx17_0
      try clear hx265_0
      try clear hx266_0
      try clear hx266_1
      try clear hx266_2
      try clear hx266_3
      try clear hx266_4
      try clear p14
      try clear p265
      try clear p266
      try clear q14
      try clear q265
      try clear q266
      obtain ⟨x7_3, x40_3, rfl, HA, HK3, HO_7, HB⟩ := hrel
      cases gk with
      | zero => exact absurd HA.out (by simp [tree_Of.l1])
      | succ k3 =>
       have H := HA.out
       clear HA
       simp only [tree_Of.l1] at H
       by_cases c20 : x40_3 < ((rd_L9 l2 x19_1).length : Int)
       case neg =>
        rw [if_neg c20] at H
        have c20b0 : decide (x40_3 < ((rd_L9 l2 x19_1).length : Int)) = false := decide_eq_false c20
        try (have c20b0x := c20b0; rw [hl7_8] at c20b0x)
        clear c20
        have H' := Aside0.mk H
        clear H
        go_wp2
        (try simp only [← hl7_8])
        go_roundg k3
        case measure => have := HK1.out; have := HJ8.out; have := HK3.out; omega
        case rel => exact ⟨(x7_3), (wrap64 (x19_1 + 1)), rsd, H', ⟨by have := HK1.out; have := HJ8.out; have := HK3.out; omega⟩, ⟨by (try simp only [hl7_8]); (with_reducible repeat (first | apply Kd.S_alloc | apply Kd.S_drewN | apply Kd.S_drew)); exact HO_7.out⟩, ⟨blw⟩⟩
       rw [if_pos c20] at H
       have c20b0 : decide (x40_3 < ((rd_L9 l2 x19_1).length : Int)) = true := decide_eq_true c20
       try (have c20b0x := c20b0; rw [hl7_8] at c20b0x)
       clear c20
       by_cases c21 : 0 ≤ x40_3
       case neg =>
        rw [if_neg c21] at H
        exact absurd H (by simp)
       rw [if_pos c21] at H
       have c21b0 : decide (0 ≤ x40_3) = true := decide_eq_true c21
       clear c21
       by_cases c22 : x40_3 < ((rd_L9 l2 x19_1).length : Int)
       case neg =>
        rw [if_neg c22] at H
        exact absurd H (by simp)
       rw [if_pos c22] at H
       have c22b0 : decide (x40_3 < ((rd_L9 l2 x19_1).length : Int)) = true := decide_eq_true c22
       try (have c22b0x := c22b0; rw [hl7_8] at c22b0x)
       clear c22
       replace H := Option.bind_eq_some_iff.mp H
       obtain ⟨⟨t273, t274, t275, t276, t277⟩, A230, H⟩ := H
       replace H : (if x7_3.length < 2199023255552 then (tree_Of.l1 k3 (x7_3 ++ [(⟨t273, t274, t275, t276, t277⟩ : S41)]) (x7_1.length : Int) l2 (l2.length : Int) x19_1 (rd_L9 l2 x19_1) ((rd_L9 l2 x19_1).length : Int) (wrap64 (x40_3 + 1))) else (none)) = some r := H
       have A23 := Aside0.mk A230
       clear A230
       by_cases c24 : x7_3.length < 2199023255552
       case neg =>
        rw [if_neg c24] at H
        exact absurd H (by simp)
       rw [if_pos c24] at H
       have LMc24 := Aside0.mk c24
       clear c24
       obtain ⟨y280, hy280⟩ : ∃ y_ : List (S41), y_ = (x7_3 ++ [(⟨t273, t274, t275, t276, t277⟩ : S41)]) := ⟨_, rfl⟩
       replace H : (tree_Of.l1 k3 y280 (x7_1.length : Int) l2 (l2.length : Int) x19_1 (rd_L9 l2 x19_1) ((rd_L9 l2 x19_1).length : Int) (wrap64 (x40_3 + 1))) = some r := by first | (rw [hy280]; with_reducible exact H) | (have H2_ := (Option.bind_some _ _).symm.trans H; rw [hy280]; with_reducible exact H2_) | (have H2_ := (Option.bind_some _ _).symm.trans H; with_reducible exact H2_) | with_reducible exact H | (rw [hy280]; exact H) | exact H
       have Ny280 := Aside0.mk hy280
       clear hy280
       have H' := Aside0.mk H
       clear H
       have p271 : 0 ≤ (x40_3 : Int) := odt
       have q271 : x40_3 < ((rd_L9 l2 x19_1).length : Int) := odt
       obtain ⟨ad271, A271_4, c271_4, e271, hx271_0, hx271_1, hx271_2, hx271_3, hx271_4, hl271_4, hi271_4⟩ := at_T41 HR265_0.out x40_3 p271 q271
       cases e271
       replace hx271_0 := cellB hx271_0
       replace hx271_1 := cellB hx271_1
       replace hx271_2 := cellB hx271_2
       replace hx271_3 := cellB hx271_3
       replace hx271_4 := cellB hx271_4
       have HR271_4 := Aside0.mk hi271_4
       have HC271_4 := Aside0.mk hl271_4
       clear hi271_4 hl271_4
       replace p271 := eq_true p271
       replace q271 := eq_true q271
       go_wp2_with (first | ((with_reducible refine gate_dst (N := 12) rfl ?_); refine box_event ?hg (N := 12) ?hd (cs := #[.int .i64 0, .int .i64 0, .bool false, .string (⟨#[]⟩ : ByteArray), .slice none 0 0]) (t := 41) ?hr ?_; (case hd => rfl); (case hg => rfl); (case hr => first | (go_simp; done) | (go_simp; rfl)); intro gb272 hg w25 hbox hb; have n0_ := Aside0.mk (Kd.S_below (Kd.S_elderB (soW HO_7.out) gb272 (Nat.le_of_eq hg.symm)) hb); have n1_ := Aside0.mk (below_step blw hb); have n2_ := Aside0.mk (hbox); have n3_ := Aside0.mk ((by rw [hg]; exact (below_size blw) : w.heap.size ≤ gb272)); have n4_ := Aside0.mk ((by rw [hg]; exact (below_size blw) : w.heap.size ≤ gb272)); clear HO_7; clear HB; have HO_7 := n0_; have HB := n1_; have BK272 := n2_; have GW272 := n3_; have GE272 := n4_; clear n0_ n1_ n2_ n3_ n4_; clear hb hbox hg; have hcz26_0 : w25.cell? ⟨gb272, 0, none⟩ = some (.int .i64 0) := (blk_cell BK272.out 0).trans rfl; have hcz26_1 : w25.cell? ⟨gb272, 1, none⟩ = some (.int .i64 0) := (blk_cell BK272.out 1).trans rfl; have hcz26_2 : w25.cell? ⟨gb272, 2, none⟩ = some (.bool false) := (blk_cell BK272.out 2).trans rfl; have hcz26_3 : w25.cell? ⟨gb272, 3, none⟩ = some (.string (⟨#[]⟩ : ByteArray)) := (blk_cell BK272.out 3).trans rfl; have hcz26_4 : w25.cell? ⟨gb272, 4, none⟩ = some (.slice none 0 0) := (blk_cell BK272.out 4).trans rfl; have hfz26_0 := blk_frozen BK272.out 0; have hfz26_1 := blk_frozen BK272.out 1; have hfz26_2 := blk_frozen BK272.out 2; have hfz26_3 := blk_frozen BK272.out 3; have hfz26_4 := blk_frozen BK272.out 4) | ((with_reducible refine gate_callee (f := 33) rfl ?_); refine goesL_ (some 47) rfl rfl Tryd.func33 (by kernel_rfl) rfl #[.agg #[.int .i64 ((rd_T41 (rd_L9 l2 x19_1) x40_3).f0), .int .i64 ((rd_T41 (rd_L9 l2 x19_1) x40_3).f1), .bool ((rd_T41 (rd_L9 l2 x19_1) x40_3).f2), .string ((rd_T41 (rd_L9 l2 x19_1) x40_3).f3), .slice A271_4 ((rd_T41 (rd_L9 l2 x19_1) x40_3).f4).length c271_4], .int .i64 (x7_1.length : Int)] rfl (by (try simp only [List.map_toArray, List.map_cons, List.map_nil]); first | done | (simp only [hl7_8]; rfl) | rfl | (simp only [List.length_drop, List.length_take]; rfl) | exact congrArg (fun z => #[Value.int .i64 z]) (w64 (by omega) (by omega)).symm) ?_; (with_reducible refine (tree_moved.calls k3 ((rd_T41 (rd_L9 l2 x19_1) x40_3).f0) ((rd_T41 (rd_L9 l2 x19_1) x40_3).f1) ((rd_T41 (rd_L9 l2 x19_1) x40_3).f2) ((rd_T41 (rd_L9 l2 x19_1) x40_3).f3) _ _ ((rd_T41 (rd_L9 l2 x19_1) x40_3).f4) (x7_1.length : Int) t273 t274 t275 t276 t277 _ ?side1 ?side2 A23.out).mono ?_); (case side1 => exact Kd.C_below HR271_4.out (by repeat (first | (with_reducible first | exact HB.out | apply below_alloc | apply pw_below_drewN | apply below_drew1 | refine below_set ?_ GE272.out) | exact HB.out))); (case side2 => exact HC271_4.out); rintro e w27 ⟨v278, rfl, ho0, hb⟩; refine ⟨_, rfl, ?_⟩; have n0_ := Aside0.mk (Kd.S_elder' (by (with_reducible repeat (first | apply Kd.S_alloc | apply Kd.S_drewN | apply Kd.S_drew)); exact (Kd.S_mono (Kd.S_far (p := ⟨gb272, 4, none⟩) (Kd.S_far (p := ⟨gb272, 3, none⟩) (Kd.S_far (p := ⟨gb272, 2, none⟩) (Kd.S_far (p := ⟨gb272, 1, none⟩) (Kd.S_far (p := ⟨gb272, 0, none⟩) (Kd.S_mono HO_7.out (fun k_ hk => (⟨hk, hk.2⟩ : _ ∧ k_ ≠ gb272))) (fun _ hk => hk.2) (.int .i64 ((rd_T41 (rd_L9 l2 x19_1) x40_3).f0))) (fun _ hk => hk.2) (.int .i64 ((rd_T41 (rd_L9 l2 x19_1) x40_3).f1))) (fun _ hk => hk.2) (.bool ((rd_T41 (rd_L9 l2 x19_1) x40_3).f2))) (fun _ hk => hk.2) (.string ((rd_T41 (rd_L9 l2 x19_1) x40_3).f3))) (fun _ hk => hk.2) (.slice A271_4 ((rd_T41 (rd_L9 l2 x19_1) x40_3).f4).length c271_4)) (fun _ h_ => h_.1))) (Kd.R_base ho0) hb); have n1_ := Aside0.mk (Kd.R_lower ho0 (below_size (by repeat (first | (with_reducible first | exact HB.out | apply below_alloc | apply pw_below_drewN | apply below_drew1 | refine below_set ?_ GE272.out) | exact HB.out)))); have n2_ := Aside0.mk (blk_below (g := gb272) (o := .cells #[.int .i64 ((rd_T41 (rd_L9 l2 x19_1) x40_3).f0), .int .i64 ((rd_T41 (rd_L9 l2 x19_1) x40_3).f1), .bool ((rd_T41 (rd_L9 l2 x19_1) x40_3).f2), .string ((rd_T41 (rd_L9 l2 x19_1) x40_3).f3), .slice A271_4 ((rd_T41 (rd_L9 l2 x19_1) x40_3).f4).length c271_4] 41 (0, 0)) (by (with_reducible repeat (first | refine blk_drewN ?_ _ | refine blk_drew ?_ | refine blk_alloc ?_ _)); refine blk_put (cs := #[.int .i64 ((rd_T41 (rd_L9 l2 x19_1) x40_3).f0), .int .i64 ((rd_T41 (rd_L9 l2 x19_1) x40_3).f1), .bool ((rd_T41 (rd_L9 l2 x19_1) x40_3).f2), .string ((rd_T41 (rd_L9 l2 x19_1) x40_3).f3), .slice none 0 0]) ?_ 4 _ rfl; (with_reducible repeat (first | refine blk_drewN ?_ _ | refine blk_drew ?_ | refine blk_alloc ?_ _)); refine blk_put (cs := #[.int .i64 ((rd_T41 (rd_L9 l2 x19_1) x40_3).f0), .int .i64 ((rd_T41 (rd_L9 l2 x19_1) x40_3).f1), .bool ((rd_T41 (rd_L9 l2 x19_1) x40_3).f2), .string (⟨#[]⟩ : ByteArray), .slice none 0 0]) ?_ 3 _ rfl; (with_reducible repeat (first | refine blk_drewN ?_ _ | refine blk_drew ?_ | refine blk_alloc ?_ _)); refine blk_put (cs := #[.int .i64 ((rd_T41 (rd_L9 l2 x19_1) x40_3).f0), .int .i64 ((rd_T41 (rd_L9 l2 x19_1) x40_3).f1), .bool false, .string (⟨#[]⟩ : ByteArray), .slice none 0 0]) ?_ 2 _ rfl; (with_reducible repeat (first | refine blk_drewN ?_ _ | refine blk_drew ?_ | refine blk_alloc ?_ _)); refine blk_put (cs := #[.int .i64 ((rd_T41 (rd_L9 l2 x19_1) x40_3).f0), .int .i64 0, .bool false, .string (⟨#[]⟩ : ByteArray), .slice none 0 0]) ?_ 1 _ rfl; (with_reducible repeat (first | refine blk_drewN ?_ _ | refine blk_drew ?_ | refine blk_alloc ?_ _)); refine blk_put (cs := #[.int .i64 0, .int .i64 0, .bool false, .string (⟨#[]⟩ : ByteArray), .slice none 0 0]) ?_ 0 _ rfl; (with_reducible repeat (first | refine blk_drewN ?_ _ | refine blk_drew ?_ | refine blk_alloc ?_ _)); exact BK272.out) hb); have n3_ := Aside0.mk (below_step (by repeat (first | (with_reducible first | exact HB.out | apply below_alloc | apply pw_below_drewN | apply below_drew1 | refine below_set ?_ GE272.out) | exact HB.out)) hb); clear HO_7; clear BK272; clear HB; have HO_7 := n0_; have HO279 := n1_; have BK272 := n2_; have HB := n3_; clear n0_ n1_ n2_ n3_; (try clear hb); (try clear hb2); (try clear hk); (try clear hi); (try clear ho0); obtain ⟨Ao29, co29, eo29⟩ := Kd.R_slice HO279.out; subst eo29) | ((with_reducible refine gate_builtin (b := .append) (xs := #[.tmp 44, .tmp 48]) rfl ?_); at_builtin; refine Kd.S_append k41 (w0 := w) w.heap.size rfl (.tmp 44) (.tmp 48) 23 41 (.agg #[(.int .i64 0), (.int .i64 0), (.bool false), (.string ⟨#[]⟩), (.slice none 0 0)]) 64 rfl Tryd.underlying23 info41 rfl (by decide) (by omega) u7 x7_3 (⟨t273, t274, t275, t276, t277⟩ : S41) [.int .i64 t273, .int .i64 t274, .bool t275, .string t276, .slice Ao29 t277.length co29] (fun k_ => k_ ≠ gb272) (fun k_ => some k_ = (.slice Ao29 t277.length co29 : Value).ownBlock) rfl rfl ?aP (fun k_ hk_ => ((Kd.R_mono (ok' := fun k_ => ((fun k_ => k_ ≠ gb272)) k_ ∧ some k_ ≠ (u7 : Value).ownBlock) (Kd.R_types (Kd.R_apart' (HO279.out) (Kd.S_typed HO_7.out) (by decide)) BK272.out (by decide)) (fun k_ hk => ⟨hk.2, hk.1.2⟩))).1 k_ hk_.symm) ?aF ?aO ?aB ?aS ?aL ?_; (case aP => exact k41_mkM _ _ _ (⟨t273, t274, t275, t276, t277⟩ : S41) (Kd.R_mono (Kd.R_tight rfl (Kd.R_mono (ok' := fun k_ => ((fun k_ => k_ ≠ gb272)) k_ ∧ some k_ ≠ (u7 : Value).ownBlock) (Kd.R_types (Kd.R_apart' (HO279.out) (Kd.S_typed HO_7.out) (by decide)) BK272.out (by decide)) (fun k_ hk => ⟨hk.2, hk.1.2⟩))) (fun _ h_ => h_))); (case aB => exact (by repeat (first | (with_reducible first | exact HB.out | apply below_alloc | apply pw_below_drewN | apply below_drew1 | refine below_set ?_ GE272.out) | exact HB.out))); (case aF => exact (fun k_ hk => Kd.freshB (g := gb272) (o := .cells #[.int .i64 ((rd_T41 (rd_L9 l2 x19_1) x40_3).f0), .int .i64 ((rd_T41 (rd_L9 l2 x19_1) x40_3).f1), .bool ((rd_T41 (rd_L9 l2 x19_1) x40_3).f2), .string ((rd_T41 (rd_L9 l2 x19_1) x40_3).f3), .slice A271_4 ((rd_T41 (rd_L9 l2 x19_1) x40_3).f4).length c271_4] 41 (0, 0)) (boW BK272.out) k_ hk)); (case aO => exact (by (with_reducible repeat (first | apply Kd.S_alloc | apply Kd.S_drewN | apply Kd.S_drew)); exact Kd.S_mono HO_7.out (fun k_ hk => ⟨hk.1.2, fun e_ => hk.2 e_⟩))); (case aS => exact (below_size (by repeat (first | (with_reducible first | exact HB.out | apply below_alloc | apply pw_below_drewN | apply below_drew1 | refine below_set ?_ GE272.out) | exact HB.out)))); (case aL => have := LMc24.out; omega); intro v281 w28 ho hb hg hat; rw [← Ny280.out] at ho; have n0_ := Aside0.mk (blk_grown (g := gb272) (o := .cells #[.int .i64 ((rd_T41 (rd_L9 l2 x19_1) x40_3).f0), .int .i64 ((rd_T41 (rd_L9 l2 x19_1) x40_3).f1), .bool ((rd_T41 (rd_L9 l2 x19_1) x40_3).f2), .string ((rd_T41 (rd_L9 l2 x19_1) x40_3).f3), .slice A271_4 ((rd_T41 (rd_L9 l2 x19_1) x40_3).f4).length c271_4] 41 (0, 0)) (boW BK272.out) hg (Kd.S_away HO_7.out (fun _ hk => hk.1.2))); have n1_ := Aside0.mk (hb); have n2_ := Aside0.mk (ho); clear BK272; clear HB; clear HO_7; clear HO279; have BK272 := n0_; have HB := n1_; have HO282 := n2_; clear n0_ n1_ n2_; clear ho hb hg hat))
       go_roundg k3
       case measure => have := HK1.out; have := HJ8.out; have := HK3.out; omega
       case rel => exact ⟨(y280), (wrap64 (x40_3 + 1)), rsd, H', ⟨by have := HK1.out; have := HJ8.out; have := HK3.out; omega⟩, ⟨by (try simp only [hl7_8]); (with_reducible repeat (first | apply Kd.S_alloc | apply Kd.S_drewN | apply Kd.S_drew)); exact Kd.S_mono HO282.out (fun _ hk => trivial)⟩, ⟨by repeat (first | (with_reducible first | exact HB.out | apply below_alloc | apply pw_below_drewN | apply below_drew1 | refine below_set ?_ GE272.out) | exact HB.out)⟩⟩

/-! ### tree_Leaf: function 21 -/
def tree_Leaf.f (a0 : Int) (a1 : Int) (a2 : ByteArray) : Option ((List (S41))) := some (([(⟨a0, a1, false, a2, ([] : List Int)⟩ : S41)] : List (S41)))
set_option maxHeartbeats 8000000 in
set_option maxRecDepth 100000 in
theorem tree_Leaf.calls (a0 : Int) (a1 : Int) (a2 : ByteArray) (r : List (S41)) (w : World) (h : tree_Leaf.f a0 a1 a2 = some r) :
 Calls Tryd.prog 21 #[.int .i64 a0, .int .i64 a1, .string a2] w fun e w' => ∃ v0_ : Value, e = .returned (v0_) ∧ Kd.S k41 41 w' w.heap.size (fun _ => True) v0_ r ∧ Below w.heap.size w w' := by
 have hu41 := Tryd.underlying41
 have HB := Aside0.mk (Below.refl w.heap.size w)
 have H : (some (([(⟨a0, a1, false, a2, ([] : List Int)⟩ : S41)] : List (S41)))) = some r := h
 clear h
 obtain ⟨y283, hy283⟩ : ∃ y_ : List (S41), y_ = (([(⟨a0, a1, false, a2, ([] : List Int)⟩ : S41)] : List (S41))) := ⟨_, rfl⟩
 replace H : (some y283) = some r := by first | (rw [hy283]; with_reducible exact H) | (have H2_ := (Option.bind_some _ _).symm.trans H; rw [hy283]; with_reducible exact H2_) | (have H2_ := (Option.bind_some _ _).symm.trans H; with_reducible exact H2_) | with_reducible exact H | (rw [hy283]; exact H) | exact H
 have Ny283 := Aside0.mk hy283
 clear hy283
 obtain rfl := Option.some.inj H
 go_enter Tryd.func21, Tryd.ntmps21
 go_wp2_with (first | ((with_reducible refine gate_dst (N := 11) rfl ?_); refine Kd.S_lit k41 _ 41 ?hg (N := 11) ?hd (xs := ([(⟨a0, a1, false, a2, ([] : List Int)⟩ : S41)] : List (S41))) (inner := [.int .i64 a0, .int .i64 a1, .bool false, .string a2, .slice none 0 0]) (ok := fun _ => True) (okp := fun _ => True) ?hr ?hp (fun _ hk => hk) trivial (Below.refl _ _) (Nat.le_refl _) (by simp) ?_; (case hd => rfl); (case hg => rfl); (case hr => first | (go_simp; done) | (go_simp; rfl)); (case hp => exact (Reps.c5 (show Kd.M k41 _ _ _ (⟨a0, a1, false, a2, ([] : List Int)⟩ : S41) [.int .i64 a0, .int .i64 a1, .bool false, .string a2, .slice none 0 0] from (k41_mkM _ _ _ (⟨a0, a1, false, a2, ([] : List Int)⟩ : S41) (Kd.R_nil _ _ _ _ _))) (Reps.none _ _))); intro v284 w4 ho5 hb hg_ hnew_; clear hg_ hnew_; (first | rw [← Ny283.out] at ho5 | (simp only [Int.reduceToNat] at ho5; rw [← Ny283.out] at ho5)); have n0_ := Aside0.mk (Kd.S_lower ho5 (below_size blw)); have n1_ := Aside0.mk (below_step blw hb); clear HB; have HO285 := n0_; have HB := n1_; clear n0_ n1_; clear hb ho5))
 go_ret
 exact ⟨_, rse, soW HO285.out, blw⟩

end Go.Proofs.YtcbcojbhbhaimaaDoor.PTreeTells
