import Derived.Test.YtcbcojbhbhaimaaDoorPTreeTellsx0
import Derived.Test.YtcbcojbhbhaimaaDoorPTreeTellsx1
import Derived.Test.YtcbcojbhbhaimaaDoorPTreeTellsx3
namespace Go.Proofs.YtcbcojbhbhaimaaDoor.PTreeTells
open Go.RowKit Go.Proofs.YtcbcojbhbhaimaaDoorW.PrintWords Go.Proofs.YtcbcojbhbhaimaaDoorW.PrintLast Go.Proofs.YtcbcojbhbhaimaaDoorW.PrintMore
attribute [local go_sem high] c_add c_eql c_neq
attribute [local go_sem] f_store_c f_store_f f_add f_toint f_fold_eq f_fold_ne f_fold_lt f_fold_gt f_fold_le f_fold_ge
attribute [local go_sem] str_leq str_gtr str_geq max2_int min2_int max_two min_two max_three min_three max_four min_four   -- for this text's walks alone
set_option linter.unusedVariables false
set_option linter.unusedSimpArgs false

/-! ### strs_Right: function 52 -/
def strs_Right.f (k : Nat) (a0 : Int) (a1 : ByteArray) : Option (Bool) := if a0 = 1 then ((strs_Unbool.f a1).bind fun bt130 => (some bt130.2)) else (if a0 = 2 then ((whole_Right.f a1).bind fun t132 => (some t132)) else (if a0 = 3 then ((strs_Unbits.f k a1).bind fun bt133 => (some bt133.2.2)) else (if a0 = 4 then (some true) else (if a0 = 5 then (some (a1.toList == ([] : List UInt8))) else (if a0 = 6 then ((oid_Decode.f k a1).bind fun bt136 => (some bt136.2)) else (if a0 = 12 then ((strs_Utf.f a1).bind fun t140 => (some t140)) else (if a0 = 19 then ((strs_Printable.f a1).bind fun t141 => (some t141)) else (some false))))))))
theorem strs_Right.mono : ∀ a0 a1 k, LeO (strs_Right.f k a0 a1) (strs_Right.f (k + 1) a0 a1) := by
 intro a0 a1 k
 unfold strs_Right.f
 repeat' first
  | (with_reducible first | exact oid_Decode.mono _ _ | exact strs_Unbits.mono _ _ | exact LeO.refl _ | exact LeO.none _ | refine LeO.ite ?_ ?_ | refine LeO.bind ?_ (fun _ => ?_))
  | exact oid_Decode.mono _ _
  | exact strs_Unbits.mono _ _
  | exact LeO.none _
  | refine LeO.ite ?_ ?_
  | refine LeO.bind ?_ (fun _ => ?_)
set_option maxHeartbeats 8000000 in
set_option maxRecDepth 100000 in
theorem strs_Right.calls (k : Nat) (a0 : Int) (a1 : ByteArray) (r : Bool) (w : World) (HT_ : Aside0 (TB w)) (h : strs_Right.f k a0 a1 = some r) :
 Calls Tryd.prog 52 #[.int .i64 a0, .string a1] w fun e w' => e = .returned (.bool r) ∧ Below w.heap.size w w' := by
 have HB := Aside0.mk (Below.refl w.heap.size w)
 have H : (if a0 = 1 then ((strs_Unbool.f a1).bind fun bt130 => (some bt130.2)) else (if a0 = 2 then ((whole_Right.f a1).bind fun t132 => (some t132)) else (if a0 = 3 then ((strs_Unbits.f k a1).bind fun bt133 => (some bt133.2.2)) else (if a0 = 4 then (some true) else (if a0 = 5 then (some (a1.toList == ([] : List UInt8))) else (if a0 = 6 then ((oid_Decode.f k a1).bind fun bt136 => (some bt136.2)) else (if a0 = 12 then ((strs_Utf.f a1).bind fun t140 => (some t140)) else (if a0 = 19 then ((strs_Printable.f a1).bind fun t141 => (some t141)) else (some false))))))))) = some r := h
 clear h
 by_cases c3 : a0 = 1
 case pos =>
  rw [if_pos c3] at H
  have c3b0 : (a0 == 1) = true := beq_iff_eq.mpr c3
  have c3b1 : (a0 != 1) = false := bne_eq_false_iff_eq.mpr c3
  clear c3
  replace H := Option.bind_eq_some_iff.mp H
  obtain ⟨⟨t130, t131⟩, A40, H⟩ := H
  replace H : (some t131) = some r := H
  have A4 := Aside0.mk A40
  clear A40
  obtain rfl := Option.some.inj H
  go_enter Tryd.func52, Tryd.ntmps52
  go_wp2_with (first | ((with_reducible refine gate_callee (f := 56) rfl ?_); refine goesL_ (some 11) rfl rfl Tryd.func56 (by kernel_rfl) rfl #[.string a1] rfl gargs ?_; (with_reducible refine (strs_Unbool.calls a1 t130 t131 _ A4.out).mono ?_); rintro e w' ⟨rfl, ⟨nd, rfl⟩⟩; refine ⟨_, rfl, ?_⟩))
  go_ret
  exact ⟨rse, blw⟩
 rw [if_neg c3] at H
 have c3b0 : (a0 == 1) = false := beq_eq_false_iff_ne.mpr c3
 have c3b1 : (a0 != 1) = true := bne_iff_ne.mpr c3
 by_cases c5 : a0 = 2
 case pos =>
  rw [if_pos c5] at H
  have c5b0 : (a0 == 2) = true := beq_iff_eq.mpr c5
  have c5b1 : (a0 != 2) = false := bne_eq_false_iff_eq.mpr c5
  clear c5
  replace H := Option.bind_eq_some_iff.mp H
  obtain ⟨t132, A60, H⟩ := H
  replace H : (some t132) = some r := H
  have A6 := Aside0.mk A60
  clear A60
  obtain rfl := Option.some.inj H
  go_enter Tryd.func52, Tryd.ntmps52
  go_wp2_with (first | ((with_reducible refine gate_callee (f := 57) rfl ?_); refine goesL_ (some 17) rfl rfl Tryd.func57 (by kernel_rfl) rfl #[.string a1] rfl gargs ?_; (with_reducible refine (whole_Right.calls a1 t132 _ A6.out).mono ?_); rintro e w' ⟨rfl, ⟨nd, rfl⟩⟩; refine ⟨_, rfl, ?_⟩))
  go_ret
  exact ⟨rse, blw⟩
 rw [if_neg c5] at H
 have c5b0 : (a0 == 2) = false := beq_eq_false_iff_ne.mpr c5
 have c5b1 : (a0 != 2) = true := bne_iff_ne.mpr c5
 by_cases c7 : a0 = 3
 case pos =>
  rw [if_pos c7] at H
  have c7b0 : (a0 == 3) = true := beq_iff_eq.mpr c7
  have c7b1 : (a0 != 3) = false := bne_eq_false_iff_eq.mpr c7
  clear c7
  replace H := Option.bind_eq_some_iff.mp H
  obtain ⟨⟨t133, t134, t135⟩, A80, H⟩ := H
  replace H : (some t135) = some r := H
  have A8 := Aside0.mk A80
  clear A80
  obtain rfl := Option.some.inj H
  go_enter Tryd.func52, Tryd.ntmps52
  go_wp2_with (first | ((with_reducible refine gate_callee (f := 58) rfl ?_); refine goesL_ (some 22) rfl rfl Tryd.func58 (by kernel_rfl) rfl #[.string a1] rfl gargs ?_; (with_reducible refine (strs_Unbits.calls k a1 t133 t134 t135 _ A8.out).mono ?_); rintro e w' ⟨rfl, ⟨nd, rfl⟩⟩; refine ⟨_, rfl, ?_⟩))
  go_ret
  exact ⟨rse, blw⟩
 rw [if_neg c7] at H
 have c7b0 : (a0 == 3) = false := beq_eq_false_iff_ne.mpr c7
 have c7b1 : (a0 != 3) = true := bne_iff_ne.mpr c7
 by_cases c9 : a0 = 4
 case pos =>
  rw [if_pos c9] at H
  have c9b0 : (a0 == 4) = true := beq_iff_eq.mpr c9
  have c9b1 : (a0 != 4) = false := bne_eq_false_iff_eq.mpr c9
  clear c9
  obtain rfl := Option.some.inj H
  go_enter Tryd.func52, Tryd.ntmps52
  go_wp2
  go_ret
  exact ⟨rse, blw⟩
 rw [if_neg c9] at H
 have c9b0 : (a0 == 4) = false := beq_eq_false_iff_ne.mpr c9
 have c9b1 : (a0 != 4) = true := bne_iff_ne.mpr c9
 by_cases c10 : a0 = 5
 case pos =>
  rw [if_pos c10] at H
  have c10b0 : (a0 == 5) = true := beq_iff_eq.mpr c10
  have c10b1 : (a0 != 5) = false := bne_eq_false_iff_eq.mpr c10
  clear c10
  obtain rfl := Option.some.inj H
  go_enter Tryd.func52, Tryd.ntmps52
  go_wp2
  go_ret
  exact ⟨rse, blw⟩
 rw [if_neg c10] at H
 have c10b0 : (a0 == 5) = false := beq_eq_false_iff_ne.mpr c10
 have c10b1 : (a0 != 5) = true := bne_iff_ne.mpr c10
 by_cases c11 : a0 = 6
 case pos =>
  rw [if_pos c11] at H
  have c11b0 : (a0 == 6) = true := beq_iff_eq.mpr c11
  have c11b1 : (a0 != 6) = false := bne_eq_false_iff_eq.mpr c11
  clear c11
  replace H := Option.bind_eq_some_iff.mp H
  obtain ⟨⟨t136, t137⟩, A120, H⟩ := H
  replace H : (some t137) = some r := H
  have A12 := Aside0.mk A120
  clear A120
  obtain rfl := Option.some.inj H
  go_enter Tryd.func52, Tryd.ntmps52
  go_wp2_with (first | ((with_reducible refine gate_callee (f := 59) rfl ?_); refine goesL_ (some 36) rfl rfl Tryd.func59 (by kernel_rfl) rfl #[.string a1] rfl gargs ?_; (with_reducible refine (oid_Decode.calls k a1 t136 t137 _ A12.out).mono ?_); rintro e w13 ⟨v138, rfl, ho0, hb⟩; refine ⟨_, rfl, ?_⟩; have n0_ := Aside0.mk (Kd.R_lower ho0 (below_size blw)); have n1_ := Aside0.mk (below_step blw hb); clear HB; have HO139 := n0_; have HB := n1_; clear n0_ n1_; (try clear hb); (try clear hb2); (try clear hk); (try clear hi); (try clear ho0)))
  go_ret
  exact ⟨rse, blw⟩
 rw [if_neg c11] at H
 have c11b0 : (a0 == 6) = false := beq_eq_false_iff_ne.mpr c11
 have c11b1 : (a0 != 6) = true := bne_iff_ne.mpr c11
 by_cases c14 : a0 = 12
 case pos =>
  rw [if_pos c14] at H
  have c14b0 : (a0 == 12) = true := beq_iff_eq.mpr c14
  have c14b1 : (a0 != 12) = false := bne_eq_false_iff_eq.mpr c14
  clear c14
  replace H := Option.bind_eq_some_iff.mp H
  obtain ⟨t140, A150, H⟩ := H
  replace H : (some t140) = some r := H
  have A15 := Aside0.mk A150
  clear A150
  obtain rfl := Option.some.inj H
  go_enter Tryd.func52, Tryd.ntmps52
  go_wp2_with (first | ((with_reducible refine gate_callee (f := 60) rfl ?_); refine goesL_ (some 42) rfl rfl Tryd.func60 (by kernel_rfl) rfl #[.string a1] rfl gargs ?_; (with_reducible refine (strs_Utf.calls a1 t140 _ ?tb_ A15.out).mono ?_); (case tb_ => exact tbw); rintro e w16 ⟨rfl, hb⟩; refine ⟨_, rfl, ?_⟩; replace HB := Aside0.mk (below_step blw hb); (try clear hb); (try clear hb2); (try clear hk); (try clear hi)))
  go_ret
  exact ⟨rse, blw⟩
 rw [if_neg c14] at H
 have c14b0 : (a0 == 12) = false := beq_eq_false_iff_ne.mpr c14
 have c14b1 : (a0 != 12) = true := bne_iff_ne.mpr c14
 by_cases c17 : a0 = 19
 case neg =>
  rw [if_neg c17] at H
  have c17b0 : (a0 == 19) = false := beq_eq_false_iff_ne.mpr c17
  have c17b1 : (a0 != 19) = true := bne_iff_ne.mpr c17
  obtain rfl := Option.some.inj H
  go_enter Tryd.func52, Tryd.ntmps52
  go_wp2
  go_ret
  exact ⟨rse, blw⟩
 rw [if_pos c17] at H
 have c17b0 : (a0 == 19) = true := beq_iff_eq.mpr c17
 have c17b1 : (a0 != 19) = false := bne_eq_false_iff_eq.mpr c17
 clear c17
 replace H := Option.bind_eq_some_iff.mp H
 obtain ⟨t141, A180, H⟩ := H
 replace H : (some t141) = some r := H
 have A18 := Aside0.mk A180
 clear A180
 obtain rfl := Option.some.inj H
 go_enter Tryd.func52, Tryd.ntmps52
 go_wp2_with (first | ((with_reducible refine gate_callee (f := 61) rfl ?_); refine goesL_ (some 46) rfl rfl Tryd.func61 (by kernel_rfl) rfl #[.string a1] rfl gargs ?_; (with_reducible refine (strs_Printable.calls a1 t141 _ A18.out).mono ?_); rintro e w19 ⟨rfl, hb⟩; refine ⟨_, rfl, ?_⟩; replace HB := Aside0.mk (below_step blw hb); (try clear hb); (try clear hb2); (try clear hk); (try clear hi)))
 go_ret
 exact ⟨rse, blw⟩

/-! ### tree_one: function 39 -/
def tree_one.j0 : Nat → Bool → Int → Int → Bool → ByteArray → List Int → Option (Bool)
 | 0, _, _, _, _, _, _ => none
 | k + 1, x18, x143000, x143001, x143002, x143003, x143004 => if x18 = true then (some false) else (if x143002 = true then (if x143003.toList = ([] : List UInt8) then (if x143000 = 0 then (if x143001 = 16 then (some true) else (some (x143001 == 17))) else (some true)) else (some false)) else (if (x143004.length : Int) = 0 then (if x143000 = 0 then ((strs_Right.f k x143001 x143003).bind fun t143 => (some t143)) else (some true)) else (some false)))
def tree_one.f (k : Nat) (a0_0 : Int) (a0_1 : Int) (a0_2 : Bool) (a0_3 : ByteArray) (l0_4 : List Int) : Option (Bool) := if (mn a0_0 a0_1) < 0 then (tree_one.j0 k true a0_0 a0_1 a0_2 a0_3 l0_4) else (if a0_0 > 3 then (tree_one.j0 k true a0_0 a0_1 a0_2 a0_3 l0_4) else (tree_one.j0 k (decide (a0_1 > 2097151)) a0_0 a0_1 a0_2 a0_3 l0_4))
theorem tree_one.mono_l : ∀ k, (∀ y0 y1 y2 y3 y4 y5, LeO (tree_one.j0 k y0 y1 y2 y3 y4 y5) (tree_one.j0 (k + 1) y0 y1 y2 y3 y4 y5))
 | 0 => fun _ _ _ _ _ _ r h => by simp [tree_one.j0] at h
 | k + 1 => by
  have ih0 := tree_one.mono_l k
  ·intro y0 y1 y2 y3 y4 y5
   unfold tree_one.j0
   repeat' first
   | (with_reducible first | exact ih0 _ _ _ _ _ _ | exact strs_Right.mono _ _ _ | exact LeO.refl _ | exact LeO.none _ | refine LeO.ite ?_ ?_ | refine LeO.bind ?_ (fun _ => ?_))
   | exact ih0 _ _ _ _ _ _
   | exact strs_Right.mono _ _ _
   | exact LeO.none _
   | refine LeO.ite ?_ ?_
   | refine LeO.bind ?_ (fun _ => ?_)
theorem tree_one.mono : ∀ a0 a1 a2 a3 a4 k, LeO (tree_one.f k a0 a1 a2 a3 a4) (tree_one.f (k + 1) a0 a1 a2 a3 a4) := by
 intro a0 a1 a2 a3 a4 k
 have ih0 := tree_one.mono_l k
 unfold tree_one.f
 repeat' first
  | (with_reducible first | exact ih0 _ _ _ _ _ _ | exact strs_Right.mono _ _ _ | exact LeO.refl _ | exact LeO.none _ | refine LeO.ite ?_ ?_ | refine LeO.bind ?_ (fun _ => ?_))
  | exact ih0 _ _ _ _ _ _
  | exact strs_Right.mono _ _ _
  | exact LeO.none _
  | refine LeO.ite ?_ ?_
  | refine LeO.bind ?_ (fun _ => ?_)
set_option maxHeartbeats 8000000 in
set_option maxRecDepth 100000 in
theorem tree_one.calls (k : Nat) (a0_0 : Int) (a0_1 : Int) (a0_2 : Bool) (a0_3 : ByteArray) (A0_4 : Option Addr) (c0_4 : Nat) (l0_4 : List Int) (r : Bool) (w : World) (hr0_4 : Kd.C (Kd.int .i64) w A0_4 l0_4.length l0_4) (hc0_4 : l0_4.length ≤ c0_4) (HT_ : Aside0 (TB w)) (h : tree_one.f k a0_0 a0_1 a0_2 a0_3 l0_4 = some r) :
 Calls Tryd.prog 39 #[.agg #[.int .i64 a0_0, .int .i64 a0_1, .bool a0_2, .string a0_3, .slice A0_4 l0_4.length c0_4]] w fun e w' => e = .returned (.bool r) ∧ Below w.heap.size w w' := by
 have hu41 := Tryd.underlying41
 have HR0_4 := Aside0.mk hr0_4
 have HC0_4 := Aside0.mk hc0_4
 clear hr0_4 hc0_4
 have HB := Aside0.mk (Below.refl w.heap.size w)
 have H : (if (mn a0_0 a0_1) < 0 then (tree_one.j0 k true a0_0 a0_1 a0_2 a0_3 l0_4) else (if a0_0 > 3 then (tree_one.j0 k true a0_0 a0_1 a0_2 a0_3 l0_4) else (tree_one.j0 k (decide (a0_1 > 2097151)) a0_0 a0_1 a0_2 a0_3 l0_4))) = some r := h
 clear h
 have HC2 := Aside0.mk H
 clear H
 go_enter Tryd.func39, Tryd.ntmps39
 go_upto_region 1 with (first | ((with_reducible refine gate_dst (N := 1) rfl ?_); refine box_event ?hg (N := 1) ?hd (cs := #[.int .i64 a0_0, .int .i64 a0_1, .bool a0_2, .string a0_3, .slice A0_4 l0_4.length c0_4]) (t := 41) ?hr ?_; (case hd => rfl); (case hg => rfl); (case hr => first | (go_simp; done) | (go_simp; rfl)); intro gb142 hg w3 hbox hb; have n0_ := Aside0.mk (below_step blw hb); have n1_ := Aside0.mk (hbox); have n2_ := Aside0.mk ((by rw [hg]; exact (below_size blw) : w.heap.size ≤ gb142)); have n3_ := Aside0.mk ((by rw [hg]; exact (below_size blw) : w.heap.size ≤ gb142)); clear HB; have HB := n0_; have BK142 := n1_; have GW142 := n2_; have GE142 := n3_; clear n0_ n1_ n2_ n3_; clear hb hbox hg))
 (try simp only [Act.put, List.setIfInBounds_toArray, List.set_cons_zero, List.set_cons_succ])
 go_cut [18] (fun v18 wc => ∃ (kq : Nat) (x18_1 : Bool), v18 = .bool x18_1 ∧ Aside0 (tree_one.j0 kq x18_1 a0_0 a0_1 a0_2 a0_3 l0_4 = some r) ∧ Aside0 (kq ≤ k) ∧ Aside0 (wc.heap[gb142]? = some (.cells #[.int .i64 a0_0, .int .i64 a0_1, .bool a0_2, .string a0_3, (.slice A0_4 l0_4.length c0_4)] 41 (0, 0))) ∧ Aside0 (Below w.heap.size w wc))
 case first =>
  have H := HC2.out
  clear HC2
  obtain ⟨ji4, hji4⟩ : ∃ j_ : Int, (mn a0_0 a0_1) = j_ := ⟨_, rfl⟩
  replace H : (if (ji4) < 0 then (tree_one.j0 k true a0_0 a0_1 a0_2 a0_3 l0_4) else (if a0_0 > 3 then (tree_one.j0 k true a0_0 a0_1 a0_2 a0_3 l0_4) else (tree_one.j0 k (decide (a0_1 > 2097151)) a0_0 a0_1 a0_2 a0_3 l0_4))) = some r := by first | (rw [hji4] at H; exact H) | (simp only [hji4] at H ⊢; exact H)
  have hji4_ : (if a0_1 < a0_0 then a0_1 else a0_0) = ji4 := hji4
  by_cases c5 : (ji4) < 0
  case pos =>
   rw [if_pos c5] at H
   have c5b0 : decide ((ji4) < 0) = true := decide_eq_true c5
   clear c5
   (first | rw [c5b0] | (simp only [i64_w, i32_w]; rw [c5b0]) | rw [c5b1] | skip)
   have H' := Aside0.mk H
   clear H
   have hcz6_0 : w3.cell? ⟨gb142, 0, none⟩ = some (.int .i64 a0_0) := (blk_cell BK142.out 0).trans rfl
   have hcz6_1 : w3.cell? ⟨gb142, 1, none⟩ = some (.int .i64 a0_1) := (blk_cell BK142.out 1).trans rfl
   have hcz6_2 : w3.cell? ⟨gb142, 2, none⟩ = some (.bool a0_2) := (blk_cell BK142.out 2).trans rfl
   have hcz6_3 : w3.cell? ⟨gb142, 3, none⟩ = some (.string a0_3) := (blk_cell BK142.out 3).trans rfl
   have hcz6_4 : w3.cell? ⟨gb142, 4, none⟩ = some (.slice A0_4 l0_4.length c0_4) := (blk_cell BK142.out 4).trans rfl
   have hfz6_0 := blk_frozen BK142.out 0
   have hfz6_1 := blk_frozen BK142.out 1
   have hfz6_2 := blk_frozen BK142.out 2
   have hfz6_3 := blk_frozen BK142.out 3
   have hfz6_4 := blk_frozen BK142.out 4
   go_wp2
   go_meet
   case rel => exact ⟨_, (true), rsd, H', ⟨by first | omega | exact Nat.le_refl _⟩, ⟨boW BK142.out⟩, ⟨by repeat (first | (with_reducible first | exact HB.out | apply below_alloc | apply pw_below_drewN | apply below_drew1 | refine below_set ?_ GE142.out) | exact HB.out)⟩⟩
  rw [if_neg c5] at H
  have c5b0 : decide ((ji4) < 0) = false := decide_eq_false c5
  clear c5
  (first | rw [c5b0] | (simp only [i64_w, i32_w]; rw [c5b0]) | rw [c5b1] | skip)
  by_cases c7 : a0_0 > 3
  case neg =>
   rw [if_neg c7] at H
   have c7b0 : decide (3 < a0_0) = false := decide_eq_false c7
   clear c7
   have H' := Aside0.mk H
   clear H
   have hcz9_0 : w3.cell? ⟨gb142, 0, none⟩ = some (.int .i64 a0_0) := (blk_cell BK142.out 0).trans rfl
   have hcz9_1 : w3.cell? ⟨gb142, 1, none⟩ = some (.int .i64 a0_1) := (blk_cell BK142.out 1).trans rfl
   have hcz9_2 : w3.cell? ⟨gb142, 2, none⟩ = some (.bool a0_2) := (blk_cell BK142.out 2).trans rfl
   have hcz9_3 : w3.cell? ⟨gb142, 3, none⟩ = some (.string a0_3) := (blk_cell BK142.out 3).trans rfl
   have hcz9_4 : w3.cell? ⟨gb142, 4, none⟩ = some (.slice A0_4 l0_4.length c0_4) := (blk_cell BK142.out 4).trans rfl
   have hfz9_0 := blk_frozen BK142.out 0
   have hfz9_1 := blk_frozen BK142.out 1
   have hfz9_2 := blk_frozen BK142.out 2
   have hfz9_3 := blk_frozen BK142.out 3
   have hfz9_4 := blk_frozen BK142.out 4
   go_wp2
   go_meet
   case rel => exact ⟨_, (decide (a0_1 > 2097151)), rsd, H', ⟨by first | omega | exact Nat.le_refl _⟩, ⟨boW BK142.out⟩, ⟨by repeat (first | (with_reducible first | exact HB.out | apply below_alloc | apply pw_below_drewN | apply below_drew1 | refine below_set ?_ GE142.out) | exact HB.out)⟩⟩
  rw [if_pos c7] at H
  have c7b0 : decide (3 < a0_0) = true := decide_eq_true c7
  clear c7
  have H' := Aside0.mk H
  clear H
  have hcz8_0 : w3.cell? ⟨gb142, 0, none⟩ = some (.int .i64 a0_0) := (blk_cell BK142.out 0).trans rfl
  have hcz8_1 : w3.cell? ⟨gb142, 1, none⟩ = some (.int .i64 a0_1) := (blk_cell BK142.out 1).trans rfl
  have hcz8_2 : w3.cell? ⟨gb142, 2, none⟩ = some (.bool a0_2) := (blk_cell BK142.out 2).trans rfl
  have hcz8_3 : w3.cell? ⟨gb142, 3, none⟩ = some (.string a0_3) := (blk_cell BK142.out 3).trans rfl
  have hcz8_4 : w3.cell? ⟨gb142, 4, none⟩ = some (.slice A0_4 l0_4.length c0_4) := (blk_cell BK142.out 4).trans rfl
  have hfz8_0 := blk_frozen BK142.out 0
  have hfz8_1 := blk_frozen BK142.out 1
  have hfz8_2 := blk_frozen BK142.out 2
  have hfz8_3 := blk_frozen BK142.out 3
  have hfz8_4 := blk_frozen BK142.out 4
  go_wp2
  go_meet
  case rel => exact ⟨_, (true), rsd, H', ⟨by first | omega | exact Nat.le_refl _⟩, ⟨boW BK142.out⟩, ⟨by repeat (first | (with_reducible first | exact HB.out | apply below_alloc | apply pw_below_drewN | apply below_drew1 | refine below_set ?_ GE142.out) | exact HB.out)⟩⟩
 case rest =>
  clear HC2
  try clear c5
  try clear c5b0
  try clear c5b1
  try clear c7
  try clear c7b0
  try clear hcz6_0
  try clear hcz6_1
  try clear hcz6_2
  try clear hcz6_3
  try clear hcz6_4
  try clear hcz8_0
  try clear hcz8_1
  try clear hcz8_2
  try clear hcz8_3
  try clear hcz8_4
  try clear hcz9_0
  try clear hcz9_1
  try clear hcz9_2
  try clear hcz9_3
  try clear hcz9_4
  try clear hfz6_0
  try clear hfz6_1
  try clear hfz6_2
  try clear hfz6_3
  try clear hfz6_4
  try clear hfz8_0
  try clear hfz8_1
  try clear hfz8_2
  try clear hfz8_3
  try clear hfz8_4
  try clear hfz9_0
  try clear hfz9_1
  try clear hfz9_2
  try clear hfz9_3
  try clear hfz9_4
  obtain ⟨kq, x18_1, rfl, HA, HJ1, BK142, HB⟩ := hcut
  cases kq with
  | zero => exact absurd HA.out (by simp [tree_one.j0])
  | succ kj1 =>
   have H := HA.out
   clear HA
   simp only [tree_one.j0] at H
   by_cases c10 : x18_1 = true
   case pos =>
    subst c10
    have H1 : (some false) = some r := by rw [if_pos rfl] at H; exact H
    clear H
    have H := H1
    clear H1
    obtain rfl := Option.some.inj H
    go_wp2
    go_ret
    exact ⟨rse, by repeat (first | (with_reducible first | exact HB.out | apply below_alloc | apply pw_below_drewN | apply below_drew1 | refine below_set ?_ GE142.out) | exact HB.out)⟩
   replace c10 := Bool.eq_false_iff.mpr c10
   subst c10
   have H1 : (if a0_2 = true then (if a0_3.toList = ([] : List UInt8) then (if a0_0 = 0 then (if a0_1 = 16 then (some true) else (some (a0_1 == 17))) else (some true)) else (some false)) else (if (l0_4.length : Int) = 0 then (if a0_0 = 0 then ((strs_Right.f kj1 a0_1 a0_3).bind fun t143 => (some t143)) else (some true)) else (some false))) = some r := by rw [if_neg (show ¬ (false = true) by decide)] at H; exact H
   clear H
   have H := H1
   clear H1
   by_cases c11 : a0_2 = true
   case neg =>
    replace c11 := Bool.eq_false_iff.mpr c11
    subst c11
    have H1 : (if (l0_4.length : Int) = 0 then (if a0_0 = 0 then ((strs_Right.f kj1 a0_1 a0_3).bind fun t143 => (some t143)) else (some true)) else (some false)) = some r := by rw [if_neg (show ¬ (false = true) by decide)] at H; exact H
    clear H
    have H := H1
    clear H1
    by_cases c19 : (l0_4.length : Int) = 0
    case neg =>
     rw [if_neg c19] at H
     have c19b0 : ((l0_4.length : Int) == 0) = false := beq_eq_false_iff_ne.mpr c19
     have c19b1 : ((l0_4.length : Int) != 0) = true := bne_iff_ne.mpr c19
     have c19b2 : ¬ (l0_4 = []) := fun h_ => c19 (by rw [h_]; rfl)
     obtain rfl := Option.some.inj H
     have hcz25_0 : wc.cell? ⟨gb142, 0, none⟩ = some (.int .i64 a0_0) := (blk_cell BK142.out 0).trans rfl
     have hcz25_1 : wc.cell? ⟨gb142, 1, none⟩ = some (.int .i64 a0_1) := (blk_cell BK142.out 1).trans rfl
     have hcz25_2 : wc.cell? ⟨gb142, 2, none⟩ = some (.bool false) := (blk_cell BK142.out 2).trans rfl
     have hcz25_3 : wc.cell? ⟨gb142, 3, none⟩ = some (.string a0_3) := (blk_cell BK142.out 3).trans rfl
     have hcz25_4 : wc.cell? ⟨gb142, 4, none⟩ = some (.slice A0_4 l0_4.length c0_4) := (blk_cell BK142.out 4).trans rfl
     have hfz25_0 := blk_frozen BK142.out 0
     have hfz25_1 := blk_frozen BK142.out 1
     have hfz25_2 := blk_frozen BK142.out 2
     have hfz25_3 := blk_frozen BK142.out 3
     have hfz25_4 := blk_frozen BK142.out 4
     go_wp2
     go_ret
     exact ⟨rse, by repeat (first | (with_reducible first | exact HB.out | apply below_alloc | apply pw_below_drewN | apply below_drew1 | refine below_set ?_ GE142.out) | exact HB.out)⟩
    rw [if_pos c19] at H
    have c19b0 : ((l0_4.length : Int) == 0) = true := beq_iff_eq.mpr c19
    have c19b1 : ((l0_4.length : Int) != 0) = false := bne_eq_false_iff_eq.mpr c19
    clear c19
    by_cases c20 : a0_0 = 0
    case neg =>
     rw [if_neg c20] at H
     have c20b0 : (a0_0 == 0) = false := beq_eq_false_iff_ne.mpr c20
     have c20b1 : (a0_0 != 0) = true := bne_iff_ne.mpr c20
     obtain rfl := Option.some.inj H
     have hcz24_0 : wc.cell? ⟨gb142, 0, none⟩ = some (.int .i64 a0_0) := (blk_cell BK142.out 0).trans rfl
     have hcz24_1 : wc.cell? ⟨gb142, 1, none⟩ = some (.int .i64 a0_1) := (blk_cell BK142.out 1).trans rfl
     have hcz24_2 : wc.cell? ⟨gb142, 2, none⟩ = some (.bool false) := (blk_cell BK142.out 2).trans rfl
     have hcz24_3 : wc.cell? ⟨gb142, 3, none⟩ = some (.string a0_3) := (blk_cell BK142.out 3).trans rfl
     have hcz24_4 : wc.cell? ⟨gb142, 4, none⟩ = some (.slice A0_4 l0_4.length c0_4) := (blk_cell BK142.out 4).trans rfl
     have hfz24_0 := blk_frozen BK142.out 0
     have hfz24_1 := blk_frozen BK142.out 1
     have hfz24_2 := blk_frozen BK142.out 2
     have hfz24_3 := blk_frozen BK142.out 3
     have hfz24_4 := blk_frozen BK142.out 4
     go_wp2
     go_ret
     exact ⟨rse, by repeat (first | (with_reducible first | exact HB.out | apply below_alloc | apply pw_below_drewN | apply below_drew1 | refine below_set ?_ GE142.out) | exact HB.out)⟩
    rw [if_pos c20] at H
    have c20b0 : (a0_0 == 0) = true := beq_iff_eq.mpr c20
    have c20b1 : (a0_0 != 0) = false := bne_eq_false_iff_eq.mpr c20
    clear c20
    replace H := Option.bind_eq_some_iff.mp H
    obtain ⟨t143, A210, H⟩ := H
    replace H : (some t143) = some r := H
    have A21 := Aside0.mk A210
    clear A210
    obtain rfl := Option.some.inj H
    have hcz22_0 : wc.cell? ⟨gb142, 0, none⟩ = some (.int .i64 a0_0) := (blk_cell BK142.out 0).trans rfl
    have hcz22_1 : wc.cell? ⟨gb142, 1, none⟩ = some (.int .i64 a0_1) := (blk_cell BK142.out 1).trans rfl
    have hcz22_2 : wc.cell? ⟨gb142, 2, none⟩ = some (.bool false) := (blk_cell BK142.out 2).trans rfl
    have hcz22_3 : wc.cell? ⟨gb142, 3, none⟩ = some (.string a0_3) := (blk_cell BK142.out 3).trans rfl
    have hcz22_4 : wc.cell? ⟨gb142, 4, none⟩ = some (.slice A0_4 l0_4.length c0_4) := (blk_cell BK142.out 4).trans rfl
    have hfz22_0 := blk_frozen BK142.out 0
    have hfz22_1 := blk_frozen BK142.out 1
    have hfz22_2 := blk_frozen BK142.out 2
    have hfz22_3 := blk_frozen BK142.out 3
    have hfz22_4 := blk_frozen BK142.out 4
    go_wp2_with (first | (go_at_call 52; (with_reducible refine (strs_Right.calls kj1 a0_1 a0_3 t143 _ ?tb_ A21.out).mono ?_); (case tb_ => exact ⟨TB.below HT_.out (by repeat (first | (with_reducible first | exact HB.out | apply below_alloc | apply pw_below_drewN | apply below_drew1 | refine below_set ?_ GE142.out) | exact HB.out))⟩); rintro e w23 ⟨rfl, hb⟩; have n0_ := Aside0.mk (blk_below (g := gb142) (o := .cells #[.int .i64 a0_0, .int .i64 a0_1, .bool false, .string a0_3, .slice A0_4 l0_4.length c0_4] 41 (0, 0)) (boW BK142.out) hb); have n1_ := Aside0.mk (below_step (by repeat (first | (with_reducible first | exact HB.out | apply below_alloc | apply pw_below_drewN | apply below_drew1 | refine below_set ?_ GE142.out) | exact HB.out)) hb); clear BK142; clear HB; have BK142 := n0_; have HB := n1_; clear n0_ n1_; (try clear hb); (try clear hb2); (try clear hk); (try clear hi)))
    go_ret
    exact ⟨rse, by repeat (first | (with_reducible first | exact HB.out | apply below_alloc | apply pw_below_drewN | apply below_drew1 | refine below_set ?_ GE142.out) | exact HB.out)⟩
   subst c11
   have H1 : (if a0_3.toList = ([] : List UInt8) then (if a0_0 = 0 then (if a0_1 = 16 then (some true) else (some (a0_1 == 17))) else (some true)) else (some false)) = some r := by rw [if_pos rfl] at H; exact H
   clear H
   have H := H1
   clear H1
   by_cases c12 : a0_3.toList = ([] : List UInt8)
   case neg =>
    rw [if_neg c12] at H
    have c12b0 : (a0_3.toList == ([] : List UInt8)) = false := beq_eq_false_iff_ne.mpr c12
    have c12b1 : (a0_3.toList != ([] : List UInt8)) = true := bne_iff_ne.mpr c12
    obtain rfl := Option.some.inj H
    have hcz18_0 : wc.cell? ⟨gb142, 0, none⟩ = some (.int .i64 a0_0) := (blk_cell BK142.out 0).trans rfl
    have hcz18_1 : wc.cell? ⟨gb142, 1, none⟩ = some (.int .i64 a0_1) := (blk_cell BK142.out 1).trans rfl
    have hcz18_2 : wc.cell? ⟨gb142, 2, none⟩ = some (.bool true) := (blk_cell BK142.out 2).trans rfl
    have hcz18_3 : wc.cell? ⟨gb142, 3, none⟩ = some (.string a0_3) := (blk_cell BK142.out 3).trans rfl
    have hcz18_4 : wc.cell? ⟨gb142, 4, none⟩ = some (.slice A0_4 l0_4.length c0_4) := (blk_cell BK142.out 4).trans rfl
    have hfz18_0 := blk_frozen BK142.out 0
    have hfz18_1 := blk_frozen BK142.out 1
    have hfz18_2 := blk_frozen BK142.out 2
    have hfz18_3 := blk_frozen BK142.out 3
    have hfz18_4 := blk_frozen BK142.out 4
    go_wp2
    go_ret
    exact ⟨rse, by repeat (first | (with_reducible first | exact HB.out | apply below_alloc | apply pw_below_drewN | apply below_drew1 | refine below_set ?_ GE142.out) | exact HB.out)⟩
   rw [if_pos c12] at H
   have c12b0 : (a0_3.toList == ([] : List UInt8)) = true := beq_iff_eq.mpr c12
   have c12b1 : (a0_3.toList != ([] : List UInt8)) = false := bne_eq_false_iff_eq.mpr c12
   clear c12
   by_cases c13 : a0_0 = 0
   case neg =>
    rw [if_neg c13] at H
    have c13b0 : (a0_0 == 0) = false := beq_eq_false_iff_ne.mpr c13
    have c13b1 : (a0_0 != 0) = true := bne_iff_ne.mpr c13
    obtain rfl := Option.some.inj H
    have hcz17_0 : wc.cell? ⟨gb142, 0, none⟩ = some (.int .i64 a0_0) := (blk_cell BK142.out 0).trans rfl
    have hcz17_1 : wc.cell? ⟨gb142, 1, none⟩ = some (.int .i64 a0_1) := (blk_cell BK142.out 1).trans rfl
    have hcz17_2 : wc.cell? ⟨gb142, 2, none⟩ = some (.bool true) := (blk_cell BK142.out 2).trans rfl
    have hcz17_3 : wc.cell? ⟨gb142, 3, none⟩ = some (.string a0_3) := (blk_cell BK142.out 3).trans rfl
    have hcz17_4 : wc.cell? ⟨gb142, 4, none⟩ = some (.slice A0_4 l0_4.length c0_4) := (blk_cell BK142.out 4).trans rfl
    have hfz17_0 := blk_frozen BK142.out 0
    have hfz17_1 := blk_frozen BK142.out 1
    have hfz17_2 := blk_frozen BK142.out 2
    have hfz17_3 := blk_frozen BK142.out 3
    have hfz17_4 := blk_frozen BK142.out 4
    go_wp2
    go_ret
    exact ⟨rse, by repeat (first | (with_reducible first | exact HB.out | apply below_alloc | apply pw_below_drewN | apply below_drew1 | refine below_set ?_ GE142.out) | exact HB.out)⟩
   rw [if_pos c13] at H
   have c13b0 : (a0_0 == 0) = true := beq_iff_eq.mpr c13
   have c13b1 : (a0_0 != 0) = false := bne_eq_false_iff_eq.mpr c13
   clear c13
   by_cases c14 : a0_1 = 16
   case neg =>
    rw [if_neg c14] at H
    have c14b0 : (a0_1 == 16) = false := beq_eq_false_iff_ne.mpr c14
    have c14b1 : (a0_1 != 16) = true := bne_iff_ne.mpr c14
    obtain rfl := Option.some.inj H
    have hcz16_0 : wc.cell? ⟨gb142, 0, none⟩ = some (.int .i64 a0_0) := (blk_cell BK142.out 0).trans rfl
    have hcz16_1 : wc.cell? ⟨gb142, 1, none⟩ = some (.int .i64 a0_1) := (blk_cell BK142.out 1).trans rfl
    have hcz16_2 : wc.cell? ⟨gb142, 2, none⟩ = some (.bool true) := (blk_cell BK142.out 2).trans rfl
    have hcz16_3 : wc.cell? ⟨gb142, 3, none⟩ = some (.string a0_3) := (blk_cell BK142.out 3).trans rfl
    have hcz16_4 : wc.cell? ⟨gb142, 4, none⟩ = some (.slice A0_4 l0_4.length c0_4) := (blk_cell BK142.out 4).trans rfl
    have hfz16_0 := blk_frozen BK142.out 0
    have hfz16_1 := blk_frozen BK142.out 1
    have hfz16_2 := blk_frozen BK142.out 2
    have hfz16_3 := blk_frozen BK142.out 3
    have hfz16_4 := blk_frozen BK142.out 4
    go_wp2
    go_ret
    exact ⟨rse, by repeat (first | (with_reducible first | exact HB.out | apply below_alloc | apply pw_below_drewN | apply below_drew1 | refine below_set ?_ GE142.out) | exact HB.out)⟩
   rw [if_pos c14] at H
   have c14b0 : (a0_1 == 16) = true := beq_iff_eq.mpr c14
   have c14b1 : (a0_1 != 16) = false := bne_eq_false_iff_eq.mpr c14
   clear c14
   obtain rfl := Option.some.inj H
   have hcz15_0 : wc.cell? ⟨gb142, 0, none⟩ = some (.int .i64 a0_0) := (blk_cell BK142.out 0).trans rfl
   have hcz15_1 : wc.cell? ⟨gb142, 1, none⟩ = some (.int .i64 a0_1) := (blk_cell BK142.out 1).trans rfl
   have hcz15_2 : wc.cell? ⟨gb142, 2, none⟩ = some (.bool true) := (blk_cell BK142.out 2).trans rfl
   have hcz15_3 : wc.cell? ⟨gb142, 3, none⟩ = some (.string a0_3) := (blk_cell BK142.out 3).trans rfl
   have hcz15_4 : wc.cell? ⟨gb142, 4, none⟩ = some (.slice A0_4 l0_4.length c0_4) := (blk_cell BK142.out 4).trans rfl
   have hfz15_0 := blk_frozen BK142.out 0
   have hfz15_1 := blk_frozen BK142.out 1
   have hfz15_2 := blk_frozen BK142.out 2
   have hfz15_3 := blk_frozen BK142.out 3
   have hfz15_4 := blk_frozen BK142.out 4
   go_wp2
   go_ret
   exact ⟨rse, by repeat (first | (with_reducible first | exact HB.out | apply below_alloc | apply pw_below_drewN | apply below_drew1 | refine below_set ?_ GE142.out) | exact HB.out)⟩

end Go.Proofs.YtcbcojbhbhaimaaDoor.PTreeTells
