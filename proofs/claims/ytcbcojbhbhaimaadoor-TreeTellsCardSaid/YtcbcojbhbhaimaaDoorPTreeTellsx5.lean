import Derived.Test.YtcbcojbhbhaimaaDoorPTreeTellsx0
import Derived.Test.YtcbcojbhbhaimaaDoorPTreeTellsx4
namespace Go.Proofs.YtcbcojbhbhaimaaDoor.PTreeTells
open Go.RowKit Go.Proofs.YtcbcojbhbhaimaaDoorW.PrintWords Go.Proofs.YtcbcojbhbhaimaaDoorW.PrintLast Go.Proofs.YtcbcojbhbhaimaaDoorW.PrintMore
attribute [local go_sem high] c_add c_eql c_neq
attribute [local go_sem] f_store_c f_store_f f_add f_toint f_fold_eq f_fold_ne f_fold_lt f_fold_gt f_fold_le f_fold_ge
attribute [local go_sem] str_leq str_gtr str_geq max2_int min2_int max_two min_two max_three min_three max_four min_four   -- for this text's walks alone
set_option linter.unusedVariables false
set_option linter.unusedSimpArgs false

/-! ### tree_depth: function 28 -/
mutual
def tree_depth.j0 : Nat → List (S41) → Bool → Option (Int)
 | 0, _, _ => none
 | k + 1, x0, x17 => if x17 = true then (some 0) else (tree_depth.l0 k x0 ([] : List (S74)) 0 x0 (x0.length : Int) 0)
def tree_depth.l0 : Nat → List (S41) → List (S74) → Int → List (S41) → Int → Int → Option (Int)
 | 0, _, _, _, _, _, _ => none
 | k + 1, x0, x3, x4, x18, x19, x20 => if x20 < x19 then (if 0 ≤ x20 then (if x20 < (x18.length : Int) then ((tree_one.f k ((rd_T41 x18 x20).f0) ((rd_T41 x18 x20).f1) ((rd_T41 x18 x20).f2) ((rd_T41 x18 x20).f3) ((rd_T41 x18 x20).f4)).bind fun t146 => (if t146 = true then (tree_depth.l1 k x0 x3 x4 x20 x18 x19 x20) else (some 0))) else (none)) else (none)) else (tree_depth.l2 k x0 x4 x3 (x3.length : Int) 0)
def tree_depth.j3 : Nat → List (S41) → List (S74) → Int → Int → List (S41) → Int → Int → Option (Int)
 | 0, _, _, _, _, _, _, _ => none
 | k + 1, x0, x3, x4, x5, x18, x19, x20 => if x5 > 0 then (if (x3.length : Int) = 0 then (some 0) else (if 0 ≤ (wrap64 ((x3.length : Int) - 1)) then (if (wrap64 ((x3.length : Int) - 1)) < (x3.length : Int) then (if 0 ≤ ((rd_T74 x3 (wrap64 ((x3.length : Int) - 1))).f0) then (if ((rd_T74 x3 (wrap64 ((x3.length : Int) - 1))).f0) < (x0.length : Int) then (if 0 ≤ ((rd_T74 x3 (wrap64 ((x3.length : Int) - 1))).f1) then (if ((rd_T74 x3 (wrap64 ((x3.length : Int) - 1))).f1) < (((rd_T41 x0 ((rd_T74 x3 (wrap64 ((x3.length : Int) - 1))).f0)).f4).length : Int) then (if (rd ((rd_T41 x0 ((rd_T74 x3 (wrap64 ((x3.length : Int) - 1))).f0)).f4) ((rd_T74 x3 (wrap64 ((x3.length : Int) - 1))).f1)) = x5 then ((some (x3.set ((wrap64 ((x3.length : Int) - 1)) : Int).toNat (⟨(rd_T74 x3 (wrap64 ((x3.length : Int) - 1))).f0, wrap64 (((rd_T74 x3 (wrap64 ((x3.length : Int) - 1))).f1) + 1)⟩ : S74) : List (S74))).bind fun y155 => (if y155.length < 8796093022208 then ((some (y155 ++ [(⟨x5, 0⟩ : S74)] : List (S74))).bind fun y156 => (tree_depth.l0 k x0 y156 (mx x4 (y156.length : Int)) x18 x19 (wrap64 (x20 + 1)))) else (none))) else (some 0)) else (none)) else (none)) else (none)) else (none)) else (none)) else (none))) else (if x3.length < 8796093022208 then ((some (x3 ++ [(⟨x5, 0⟩ : S74)] : List (S74))).bind fun y159 => (tree_depth.l0 k x0 y159 (mx x4 (y159.length : Int)) x18 x19 (wrap64 (x20 + 1)))) else (none))
def tree_depth.l1 : Nat → List (S41) → List (S74) → Int → Int → List (S41) → Int → Int → Option (Int)
 | 0, _, _, _, _, _, _, _ => none
 | k + 1, x0, x3, x4, x5, x18, x19, x20 => if (x3.length : Int) > 0 then (if 0 ≤ (wrap64 ((x3.length : Int) - 1)) then (if (wrap64 ((x3.length : Int) - 1)) < (x3.length : Int) then (if 0 ≤ ((rd_T74 x3 (wrap64 ((x3.length : Int) - 1))).f0) then (if ((rd_T74 x3 (wrap64 ((x3.length : Int) - 1))).f0) < (x0.length : Int) then (if ((rd_T74 x3 (wrap64 ((x3.length : Int) - 1))).f1) = (((rd_T41 x0 ((rd_T74 x3 (wrap64 ((x3.length : Int) - 1))).f0)).f4).length : Int) then (if (wrap64 ((x3.length : Int) - 1)) ≤ (x3.length : Int) then (tree_depth.l1 k x0 (x3.take ((wrap64 ((x3.length : Int) - 1)) : Int).toNat) x4 x5 x18 x19 x20) else (none)) else (tree_depth.j3 k x0 x3 x4 x5 x18 x19 x20)) else (none)) else (none)) else (none)) else (none)) else (tree_depth.j3 k x0 x3 x4 x5 x18 x19 x20)
def tree_depth.l2 : Nat → List (S41) → Int → List (S74) → Int → Int → Option (Int)
 | 0, _, _, _, _, _ => none
 | k + 1, x0, x4, x101, x102, x103 => if x103 < x102 then (if 0 ≤ x103 then (if x103 < (x101.length : Int) then (if 0 ≤ ((rd_T74 x101 x103).f0) then (if ((rd_T74 x101 x103).f0) < (x0.length : Int) then (if ((rd_T74 x101 x103).f1) = (((rd_T41 x0 ((rd_T74 x101 x103).f0)).f4).length : Int) then (tree_depth.l2 k x0 x4 x101 x102 (wrap64 (x103 + 1))) else (some 0)) else (none)) else (none)) else (none)) else (none)) else (if x4 > 16 then (some 0) else (some x4))
end
def tree_depth.f (k : Nat) (l0 : List (S41)) : Option (Int) := if (l0.length : Int) = 0 then (tree_depth.j0 k l0 true) else (tree_depth.j0 k l0 (decide ((l0.length : Int) > 1000)))
theorem tree_depth.mono_l : ∀ k, (∀ y0 y1, LeO (tree_depth.j0 k y0 y1) (tree_depth.j0 (k + 1) y0 y1)) ∧ (∀ y0 y1 y2 y3 y4 y5, LeO (tree_depth.l0 k y0 y1 y2 y3 y4 y5) (tree_depth.l0 (k + 1) y0 y1 y2 y3 y4 y5)) ∧ (∀ y0 y1 y2 y3 y4 y5 y6, LeO (tree_depth.j3 k y0 y1 y2 y3 y4 y5 y6) (tree_depth.j3 (k + 1) y0 y1 y2 y3 y4 y5 y6)) ∧ (∀ y0 y1 y2 y3 y4 y5 y6, LeO (tree_depth.l1 k y0 y1 y2 y3 y4 y5 y6) (tree_depth.l1 (k + 1) y0 y1 y2 y3 y4 y5 y6)) ∧ (∀ y0 y1 y2 y3 y4, LeO (tree_depth.l2 k y0 y1 y2 y3 y4) (tree_depth.l2 (k + 1) y0 y1 y2 y3 y4))
 | 0 => ⟨fun _ _ r h => by simp [tree_depth.j0] at h, fun _ _ _ _ _ _ r h => by simp [tree_depth.l0] at h, fun _ _ _ _ _ _ _ r h => by simp [tree_depth.j3] at h, fun _ _ _ _ _ _ _ r h => by simp [tree_depth.l1] at h, fun _ _ _ _ _ r h => by simp [tree_depth.l2] at h⟩
 | k + 1 => by
  obtain ⟨ih0, ih1, ih2, ih3, ih4⟩ := tree_depth.mono_l k
  refine ⟨?_, ?_, ?_, ?_, ?_⟩ <;> intros <;> first | unfold tree_depth.j0 | unfold tree_depth.l0 | unfold tree_depth.j3 | unfold tree_depth.l1 | unfold tree_depth.l2
  all_goals repeat' first
  | (with_reducible first | exact ih0 _ _ | exact ih1 _ _ _ _ _ _ | exact ih2 _ _ _ _ _ _ _ | exact ih3 _ _ _ _ _ _ _ | exact ih4 _ _ _ _ _ | exact tree_one.mono _ _ _ _ _ _ | exact LeO.refl _ | exact LeO.none _ | refine LeO.ite ?_ ?_ | refine LeO.bind ?_ (fun _ => ?_))
  | exact ih0 _ _
  | exact ih1 _ _ _ _ _ _
  | exact ih2 _ _ _ _ _ _ _
  | exact ih3 _ _ _ _ _ _ _
  | exact ih4 _ _ _ _ _
  | exact tree_one.mono _ _ _ _ _ _
  | exact LeO.none _
  | refine LeO.ite ?_ ?_
  | refine LeO.bind ?_ (fun _ => ?_)
theorem tree_depth.mono : ∀ a0 k, LeO (tree_depth.f k a0) (tree_depth.f (k + 1) a0) := by
 intro a0 k
 obtain ⟨ih0, ih1, ih2, ih3, ih4⟩ := tree_depth.mono_l k
 unfold tree_depth.f
 repeat' first
  | (with_reducible first | exact ih0 _ _ | exact ih1 _ _ _ _ _ _ | exact ih2 _ _ _ _ _ _ _ | exact ih3 _ _ _ _ _ _ _ | exact ih4 _ _ _ _ _ | exact tree_one.mono _ _ _ _ _ _ | exact LeO.refl _ | exact LeO.none _ | refine LeO.ite ?_ ?_ | refine LeO.bind ?_ (fun _ => ?_))
  | exact ih0 _ _
  | exact ih1 _ _ _ _ _ _
  | exact ih2 _ _ _ _ _ _ _
  | exact ih3 _ _ _ _ _ _ _
  | exact ih4 _ _ _ _ _
  | exact tree_one.mono _ _ _ _ _ _
  | exact LeO.none _
  | refine LeO.ite ?_ ?_
  | refine LeO.bind ?_ (fun _ => ?_)
set_option maxHeartbeats 8000000 in
set_option maxRecDepth 100000 in
theorem tree_depth.calls (k : Nat) (A0 : Option Addr) (c0 : Nat) (l0 : List (S41)) (r : Int) (w : World) (hr0 : Kd.C k41 w A0 l0.length l0) (hc0 : l0.length ≤ c0) (HT_ : Aside0 (TB w)) (h : tree_depth.f k l0 = some r) :
 Calls Tryd.prog 28 #[.slice A0 l0.length c0] w fun e w' => e = .returned (.int .i64 r) ∧ Below w.heap.size w w' := by
 have hu41 := Tryd.underlying41
 have hu74 := Tryd.underlying74
 have HR0 := Aside0.mk hr0
 have HC0 := Aside0.mk hc0
 clear hr0 hc0
 have HB := Aside0.mk (Below.refl w.heap.size w)
 have H : (if (l0.length : Int) = 0 then (tree_depth.j0 k l0 true) else (tree_depth.j0 k l0 (decide ((l0.length : Int) > 1000)))) = some r := h
 clear h
 have HC2 := Aside0.mk H
 clear H
 go_enter Tryd.func28, Tryd.ntmps28
 go_upto_region 1 with (fail)
 repeat (go_quiet (fail); go_upto_region 1 with (fail))
 go_cut [17] (fun v17 wc => ∃ (kq : Nat) (x17_1 : Bool), v17 = .bool x17_1 ∧ Aside0 (tree_depth.j0 kq l0 x17_1 = some r) ∧ Aside0 (kq ≤ k) ∧ Aside0 (Below w.heap.size w wc))
 case first =>
  have H := HC2.out
  clear HC2
  by_cases c3 : (l0.length : Int) = 0
  case neg =>
   rw [if_neg c3] at H
   have c3b0 : ((l0.length : Int) == 0) = false := beq_eq_false_iff_ne.mpr c3
   have c3b1 : ((l0.length : Int) != 0) = true := bne_iff_ne.mpr c3
   have c3b2 : ¬ (l0 = []) := fun h_ => c3 (by rw [h_]; rfl)
   (first | rw [c3b0] | (simp only [i64_w, i32_w]; rw [c3b0]) | rw [c3b1] | skip)
   have H' := Aside0.mk H
   clear H
   go_wp2
   repeat (go_quiet (fail); try go_wp2)
   go_meet
   case rel => exact ⟨_, (decide ((l0.length : Int) > 1000)), rsd, H', ⟨by first | omega | exact Nat.le_refl _⟩, ⟨blw⟩⟩
  rw [if_pos c3] at H
  have c3b0 : ((l0.length : Int) == 0) = true := beq_iff_eq.mpr c3
  have c3b1 : ((l0.length : Int) != 0) = false := bne_eq_false_iff_eq.mpr c3
  clear c3
  (first | rw [c3b0] | (simp only [i64_w, i32_w]; rw [c3b0]) | rw [c3b1] | skip)
  have H' := Aside0.mk H
  clear H
  go_wp2
  repeat (go_quiet (fail); try go_wp2)
  go_meet
  case rel => exact ⟨_, (true), rsd, H', ⟨by first | omega | exact Nat.le_refl _⟩, ⟨blw⟩⟩
 case rest =>
  clear HC2
  try clear c3
  try clear c3b0
  try clear c3b1
  try clear c3b2
  obtain ⟨kq, x17_1, rfl, HA, HJ1, HB⟩ := hcut
  cases kq with
  | zero => exact absurd HA.out (by simp [tree_depth.j0])
  | succ kj1 =>
   have H := HA.out
   clear HA
   simp only [tree_depth.j0] at H
   by_cases c4 : x17_1 = true
   case pos =>
    subst c4
    have H1 : (some 0) = some r := by rw [if_pos rfl] at H; exact H
    clear H
    have H := H1
    clear H1
    obtain rfl := Option.some.inj H
    go_wp2
    repeat (go_quiet (fail); try go_wp2)
    go_ret
    exact ⟨rse, blw⟩
   replace c4 := Bool.eq_false_iff.mpr c4
   subst c4
   have H1 : (tree_depth.l0 kj1 l0 ([] : List (S74)) 0 l0 (l0.length : Int) 0) = some r := by rw [if_neg (show ¬ (false = true) by decide)] at H; exact H
   clear H
   have H := H1
   clear H1
   have H' := Aside0.mk H
   clear H
   go_wp2
   repeat (go_quiet (fail); try go_wp2)
   go_loopg [3, 4, 20] kj1 (fun kq v3 v4 v20 w' => ∃ (x3_2 : List (S74)) (x4_2 : Int) (x20_2 : Int), v4 = .int .i64 x4_2 ∧ v20 = .int .i64 x20_2 ∧ Aside0 (tree_depth.l0 kq l0 x3_2 x4_2 l0 (l0.length : Int) x20_2 = some r) ∧ Aside0 (kq ≤ kj1) ∧ Aside0 (Kd.R k74 74 w' w.heap.size (fun _ => True) v3 x3_2) ∧ Aside0 (Below w.heap.size w w'))
   case atStart => exact ⟨(([] : List (S74))), (0), (0), rsd, rsd, H', ⟨Nat.le_refl _⟩, ⟨by first | exact Kd.R_nil _ _ _ _ _ | exact Kd.N_nil _ _ _ _ _ | exact Kd.V_nil _ _ _ _ _ | exact Kd.Q_nil _ _ _ _ _ | exact Kd.S_nil _ _ _ _ _⟩, ⟨blw⟩⟩
   case round =>
    clear H'
    try clear c3
    try clear c3b0
    try clear c3b1
    try clear c3b2
    try clear c4
    obtain ⟨x3_2, x4_2, x20_2, rfl, rfl, HA, HK2, HO_3, HB⟩ := hrel
    cases gk with
    | zero => exact absurd HA.out (by simp [tree_depth.l0])
    | succ k2 =>
     have H := HA.out
     clear HA
     simp only [tree_depth.l0] at H
     by_cases c5 : x20_2 < (l0.length : Int)
     case neg =>
      rw [if_neg c5] at H
      have c5b0 : decide (x20_2 < (l0.length : Int)) = false := decide_eq_false c5
      clear c5
      have H' := Aside0.mk H
      clear H
      obtain ⟨Ao53, co53, eo53⟩ := Kd.R_slice HO_3.out
      subst eo53
      go_wp2
      repeat (go_quiet (fail); try go_wp2)
      go_loopg [103] k2 (fun kq v103 w' => ∃ (x103_3 : Int), v103 = .int .i64 x103_3 ∧ Aside0 (tree_depth.l2 kq l0 x4_2 x3_2 (x3_2.length : Int) x103_3 = some r) ∧ Aside0 (kq ≤ k2) ∧ Aside0 (Kd.R k74 74 w' w.heap.size (fun _ => True) (.slice Ao53 x3_2.length co53) x3_2) ∧ Aside0 (Below w.heap.size w w'))
      case atStart => exact ⟨(0), rsd, H', ⟨Nat.le_refl _⟩, ⟨roW HO_3.out⟩, ⟨blw⟩⟩
      case round =>
       clear H'
       try clear c3
       try clear c3b0
       try clear c3b1
       try clear c3b2
       try clear c4
       try clear c5
       try clear c5b0
       obtain ⟨x103_3, rfl, HA, HK3, HO_101, HB⟩ := hrel
       cases gk with
       | zero => exact absurd HA.out (by simp [tree_depth.l2])
       | succ k3 =>
        have H := HA.out
        clear HA
        simp only [tree_depth.l2] at H
        by_cases c54 : x103_3 < (x3_2.length : Int)
        case neg =>
         rw [if_neg c54] at H
         have c54b0 : decide (x103_3 < (x3_2.length : Int)) = false := decide_eq_false c54
         clear c54
         by_cases c64 : x4_2 > 16
         case neg =>
          rw [if_neg c64] at H
          have c64b0 : decide (16 < x4_2) = false := decide_eq_false c64
          clear c64
          obtain rfl := Option.some.inj H
          go_wp2
          repeat (go_quiet (fail); try go_wp2)
          go_ret
          exact ⟨rse, blw⟩
         rw [if_pos c64] at H
         have c64b0 : decide (16 < x4_2) = true := decide_eq_true c64
         clear c64
         obtain rfl := Option.some.inj H
         go_wp2
         repeat (go_quiet (fail); try go_wp2)
         go_ret
         exact ⟨rse, blw⟩
        rw [if_pos c54] at H
        have c54b0 : decide (x103_3 < (x3_2.length : Int)) = true := decide_eq_true c54
        clear c54
        by_cases c55 : 0 ≤ x103_3
        case neg =>
         rw [if_neg c55] at H
         exact absurd H (by simp)
        rw [if_pos c55] at H
        have c55b0 : decide (0 ≤ x103_3) = true := decide_eq_true c55
        clear c55
        by_cases c56 : x103_3 < (x3_2.length : Int)
        case neg =>
         rw [if_neg c56] at H
         exact absurd H (by simp)
        rw [if_pos c56] at H
        have c56b0 : decide (x103_3 < (x3_2.length : Int)) = true := decide_eq_true c56
        clear c56
        by_cases c57 : 0 ≤ ((rd_T74 x3_2 x103_3).f0)
        case neg =>
         rw [if_neg c57] at H
         exact absurd H (by simp)
        rw [if_pos c57] at H
        have c57b0 : decide (0 ≤ ((rd_T74 x3_2 x103_3).f0)) = true := decide_eq_true c57
        clear c57
        by_cases c58 : ((rd_T74 x3_2 x103_3).f0) < (l0.length : Int)
        case neg =>
         rw [if_neg c58] at H
         exact absurd H (by simp)
        rw [if_pos c58] at H
        have c58b0 : decide (((rd_T74 x3_2 x103_3).f0) < (l0.length : Int)) = true := decide_eq_true c58
        clear c58
        by_cases c59 : ((rd_T74 x3_2 x103_3).f1) = (((rd_T41 l0 ((rd_T74 x3_2 x103_3).f0)).f4).length : Int)
        case neg =>
         rw [if_neg c59] at H
         have c59b0 : (((rd_T74 x3_2 x103_3).f1) == (((rd_T41 l0 ((rd_T74 x3_2 x103_3).f0)).f4).length : Int)) = false := beq_eq_false_iff_ne.mpr c59
         have c59b1 : (((rd_T74 x3_2 x103_3).f1) != (((rd_T41 l0 ((rd_T74 x3_2 x103_3).f0)).f4).length : Int)) = true := bne_iff_ne.mpr c59
         obtain rfl := Option.some.inj H
         have p162 : 0 ≤ (x103_3 : Int) := odt
         have q162 : x103_3 < (x3_2.length : Int) := odt
         obtain ⟨ad162, e162, hx162_0, hx162_1⟩ := at_T74 (Kd.R_reads' HO_101.out).2.2 x103_3 p162 q162
         cases e162
         replace p162 := eq_true p162
         replace q162 := eq_true q162
         go_wp2_with (first | ((with_reducible refine gate_dst (N := 9) rfl ?_); (try (refine gate_guard (by rfl) ?_; dsimp only)); refine box_event ?hg (N := 9) ?hd (cs := #[.int .i64 0, .int .i64 0]) (t := 74) ?hr ?_; (case hd => rfl); (case hg => rfl); (case hr => first | (go_simp; done) | (go_simp; rfl)); intro gb163 hg w62 hbox hb; have n0_ := Aside0.mk (Kd.R_below (Kd.R_elderB (roW HO_101.out) gb163 (Nat.le_of_eq hg.symm)) hb); have n1_ := Aside0.mk (below_step blw hb); have n2_ := Aside0.mk (hbox); have n3_ := Aside0.mk ((by rw [hg]; exact (below_size blw) : w.heap.size ≤ gb163)); have n4_ := Aside0.mk ((by rw [hg]; exact (below_size blw) : w.heap.size ≤ gb163)); clear HO_101; clear HB; have HO_101 := n0_; have HB := n1_; have BK163 := n2_; have GW163 := n3_; have GE163 := n4_; clear n0_ n1_ n2_ n3_ n4_; clear hb hbox hg; have hcz63_0 : w62.cell? ⟨gb163, 0, none⟩ = some (.int .i64 0) := (blk_cell BK163.out 0).trans rfl; have hcz63_1 : w62.cell? ⟨gb163, 1, none⟩ = some (.int .i64 0) := (blk_cell BK163.out 1).trans rfl; have hfz63_0 := blk_frozen BK163.out 0; have hfz63_1 := blk_frozen BK163.out 1; have p164 : 0 ≤ (((rd_T74 x3_2 x103_3).f0) : Int) := odt; have q164 : ((rd_T74 x3_2 x103_3).f0) < (l0.length : Int) := odt; obtain ⟨ad164, A164_4, c164_4, e164, hx164_0, hx164_1, hx164_2, hx164_3, hx164_4, hl164_4, hi164_4⟩ := at_T41 HR0.out ((rd_T74 x3_2 x103_3).f0) p164 q164; cases e164; have hn164_0 : ad164.block ≠ gb163 := Nat.ne_of_lt (Nat.lt_of_lt_of_le (by have := World.block_lt_of_cell? _ _ hx164_0; first | rwa [add_block] at this | exact this) GW163.out); have hn164_1 : ad164.block ≠ gb163 := Nat.ne_of_lt (Nat.lt_of_lt_of_le (by have := World.block_lt_of_cell? _ _ hx164_0; first | rwa [add_block] at this | exact this) GW163.out); replace hx164_0 := cellB hx164_0; replace hx164_1 := cellB hx164_1; replace hx164_2 := cellB hx164_2; replace hx164_3 := cellB hx164_3; replace hx164_4 := cellB hx164_4; have HR164_4 := Aside0.mk hi164_4; have HC164_4 := Aside0.mk hl164_4; clear hi164_4 hl164_4; replace hx164_0 := (cell_far (p := ⟨gb163, 0, none⟩) (nb hn164_0) (.int .i64 ((rd_T74 x3_2 x103_3).f0))).trans hx164_0; replace hx164_1 := (cell_far (p := ⟨gb163, 0, none⟩) (nb hn164_0) (.int .i64 ((rd_T74 x3_2 x103_3).f0))).trans hx164_1; replace hx164_2 := (cell_far (p := ⟨gb163, 0, none⟩) (nb hn164_0) (.int .i64 ((rd_T74 x3_2 x103_3).f0))).trans hx164_2; replace hx164_3 := (cell_far (p := ⟨gb163, 0, none⟩) (nb hn164_0) (.int .i64 ((rd_T74 x3_2 x103_3).f0))).trans hx164_3; replace hx164_4 := (cell_far (p := ⟨gb163, 0, none⟩) (nb hn164_0) (.int .i64 ((rd_T74 x3_2 x103_3).f0))).trans hx164_4; replace hx164_0 := (cell_far (p := ⟨gb163, 1, none⟩) (nb hn164_1) (.int .i64 ((rd_T74 x3_2 x103_3).f1))).trans hx164_0; replace hx164_1 := (cell_far (p := ⟨gb163, 1, none⟩) (nb hn164_1) (.int .i64 ((rd_T74 x3_2 x103_3).f1))).trans hx164_1; replace hx164_2 := (cell_far (p := ⟨gb163, 1, none⟩) (nb hn164_1) (.int .i64 ((rd_T74 x3_2 x103_3).f1))).trans hx164_2; replace hx164_3 := (cell_far (p := ⟨gb163, 1, none⟩) (nb hn164_1) (.int .i64 ((rd_T74 x3_2 x103_3).f1))).trans hx164_3; replace hx164_4 := (cell_far (p := ⟨gb163, 1, none⟩) (nb hn164_1) (.int .i64 ((rd_T74 x3_2 x103_3).f1))).trans hx164_4; (try have hy164_0 := fun (n_ : Nat) => (show ((((w62.drewN n_).setCell ⟨gb163, 0, none⟩ (.int .i64 ((rd_T74 x3_2 x103_3).f0))).setCell ⟨gb163, 1, none⟩ (.int .i64 ((rd_T74 x3_2 x103_3).f1)))).cell? _ = some _ from hx164_0)); (try have hy164_1 := fun (n_ : Nat) => (show ((((w62.drewN n_).setCell ⟨gb163, 0, none⟩ (.int .i64 ((rd_T74 x3_2 x103_3).f0))).setCell ⟨gb163, 1, none⟩ (.int .i64 ((rd_T74 x3_2 x103_3).f1)))).cell? _ = some _ from hx164_1)); (try have hy164_2 := fun (n_ : Nat) => (show ((((w62.drewN n_).setCell ⟨gb163, 0, none⟩ (.int .i64 ((rd_T74 x3_2 x103_3).f0))).setCell ⟨gb163, 1, none⟩ (.int .i64 ((rd_T74 x3_2 x103_3).f1)))).cell? _ = some _ from hx164_2)); (try have hy164_3 := fun (n_ : Nat) => (show ((((w62.drewN n_).setCell ⟨gb163, 0, none⟩ (.int .i64 ((rd_T74 x3_2 x103_3).f0))).setCell ⟨gb163, 1, none⟩ (.int .i64 ((rd_T74 x3_2 x103_3).f1)))).cell? _ = some _ from hx164_3)); (try have hy164_4 := fun (n_ : Nat) => (show ((((w62.drewN n_).setCell ⟨gb163, 0, none⟩ (.int .i64 ((rd_T74 x3_2 x103_3).f0))).setCell ⟨gb163, 1, none⟩ (.int .i64 ((rd_T74 x3_2 x103_3).f1)))).cell? _ = some _ from hx164_4)); clear hn164_0; clear hn164_1; replace p164 := eq_true p164; replace q164 := eq_true q164))
         repeat (go_quiet (first | ((with_reducible refine gate_dst (N := 9) rfl ?_); (try (refine gate_guard (by rfl) ?_; dsimp only)); refine box_event ?hg (N := 9) ?hd (cs := #[.int .i64 0, .int .i64 0]) (t := 74) ?hr ?_; (case hd => rfl); (case hg => rfl); (case hr => first | (go_simp; done) | (go_simp; rfl)); intro gb163 hg w62 hbox hb; have n0_ := Aside0.mk (Kd.R_below (Kd.R_elderB (roW HO_101.out) gb163 (Nat.le_of_eq hg.symm)) hb); have n1_ := Aside0.mk (below_step blw hb); have n2_ := Aside0.mk (hbox); have n3_ := Aside0.mk ((by rw [hg]; exact (below_size blw) : w.heap.size ≤ gb163)); have n4_ := Aside0.mk ((by rw [hg]; exact (below_size blw) : w.heap.size ≤ gb163)); clear HO_101; clear HB; have HO_101 := n0_; have HB := n1_; have BK163 := n2_; have GW163 := n3_; have GE163 := n4_; clear n0_ n1_ n2_ n3_ n4_; clear hb hbox hg; have hcz63_0 : w62.cell? ⟨gb163, 0, none⟩ = some (.int .i64 0) := (blk_cell BK163.out 0).trans rfl; have hcz63_1 : w62.cell? ⟨gb163, 1, none⟩ = some (.int .i64 0) := (blk_cell BK163.out 1).trans rfl; have hfz63_0 := blk_frozen BK163.out 0; have hfz63_1 := blk_frozen BK163.out 1; have p164 : 0 ≤ (((rd_T74 x3_2 x103_3).f0) : Int) := odt; have q164 : ((rd_T74 x3_2 x103_3).f0) < (l0.length : Int) := odt; obtain ⟨ad164, A164_4, c164_4, e164, hx164_0, hx164_1, hx164_2, hx164_3, hx164_4, hl164_4, hi164_4⟩ := at_T41 HR0.out ((rd_T74 x3_2 x103_3).f0) p164 q164; cases e164; have hn164_0 : ad164.block ≠ gb163 := Nat.ne_of_lt (Nat.lt_of_lt_of_le (by have := World.block_lt_of_cell? _ _ hx164_0; first | rwa [add_block] at this | exact this) GW163.out); have hn164_1 : ad164.block ≠ gb163 := Nat.ne_of_lt (Nat.lt_of_lt_of_le (by have := World.block_lt_of_cell? _ _ hx164_0; first | rwa [add_block] at this | exact this) GW163.out); replace hx164_0 := cellB hx164_0; replace hx164_1 := cellB hx164_1; replace hx164_2 := cellB hx164_2; replace hx164_3 := cellB hx164_3; replace hx164_4 := cellB hx164_4; have HR164_4 := Aside0.mk hi164_4; have HC164_4 := Aside0.mk hl164_4; clear hi164_4 hl164_4; replace hx164_0 := (cell_far (p := ⟨gb163, 0, none⟩) (nb hn164_0) (.int .i64 ((rd_T74 x3_2 x103_3).f0))).trans hx164_0; replace hx164_1 := (cell_far (p := ⟨gb163, 0, none⟩) (nb hn164_0) (.int .i64 ((rd_T74 x3_2 x103_3).f0))).trans hx164_1; replace hx164_2 := (cell_far (p := ⟨gb163, 0, none⟩) (nb hn164_0) (.int .i64 ((rd_T74 x3_2 x103_3).f0))).trans hx164_2; replace hx164_3 := (cell_far (p := ⟨gb163, 0, none⟩) (nb hn164_0) (.int .i64 ((rd_T74 x3_2 x103_3).f0))).trans hx164_3; replace hx164_4 := (cell_far (p := ⟨gb163, 0, none⟩) (nb hn164_0) (.int .i64 ((rd_T74 x3_2 x103_3).f0))).trans hx164_4; replace hx164_0 := (cell_far (p := ⟨gb163, 1, none⟩) (nb hn164_1) (.int .i64 ((rd_T74 x3_2 x103_3).f1))).trans hx164_0; replace hx164_1 := (cell_far (p := ⟨gb163, 1, none⟩) (nb hn164_1) (.int .i64 ((rd_T74 x3_2 x103_3).f1))).trans hx164_1; replace hx164_2 := (cell_far (p := ⟨gb163, 1, none⟩) (nb hn164_1) (.int .i64 ((rd_T74 x3_2 x103_3).f1))).trans hx164_2; replace hx164_3 := (cell_far (p := ⟨gb163, 1, none⟩) (nb hn164_1) (.int .i64 ((rd_T74 x3_2 x103_3).f1))).trans hx164_3; replace hx164_4 := (cell_far (p := ⟨gb163, 1, none⟩) (nb hn164_1) (.int .i64 ((rd_T74 x3_2 x103_3).f1))).trans hx164_4; (try have hy164_0 := fun (n_ : Nat) => (show ((((w62.drewN n_).setCell ⟨gb163, 0, none⟩ (.int .i64 ((rd_T74 x3_2 x103_3).f0))).setCell ⟨gb163, 1, none⟩ (.int .i64 ((rd_T74 x3_2 x103_3).f1)))).cell? _ = some _ from hx164_0)); (try have hy164_1 := fun (n_ : Nat) => (show ((((w62.drewN n_).setCell ⟨gb163, 0, none⟩ (.int .i64 ((rd_T74 x3_2 x103_3).f0))).setCell ⟨gb163, 1, none⟩ (.int .i64 ((rd_T74 x3_2 x103_3).f1)))).cell? _ = some _ from hx164_1)); (try have hy164_2 := fun (n_ : Nat) => (show ((((w62.drewN n_).setCell ⟨gb163, 0, none⟩ (.int .i64 ((rd_T74 x3_2 x103_3).f0))).setCell ⟨gb163, 1, none⟩ (.int .i64 ((rd_T74 x3_2 x103_3).f1)))).cell? _ = some _ from hx164_2)); (try have hy164_3 := fun (n_ : Nat) => (show ((((w62.drewN n_).setCell ⟨gb163, 0, none⟩ (.int .i64 ((rd_T74 x3_2 x103_3).f0))).setCell ⟨gb163, 1, none⟩ (.int .i64 ((rd_T74 x3_2 x103_3).f1)))).cell? _ = some _ from hx164_3)); (try have hy164_4 := fun (n_ : Nat) => (show ((((w62.drewN n_).setCell ⟨gb163, 0, none⟩ (.int .i64 ((rd_T74 x3_2 x103_3).f0))).setCell ⟨gb163, 1, none⟩ (.int .i64 ((rd_T74 x3_2 x103_3).f1)))).cell? _ = some _ from hx164_4)); clear hn164_0; clear hn164_1; replace p164 := eq_true p164; replace q164 := eq_true q164)); try go_wp2_with (first | ((with_reducible refine gate_dst (N := 9) rfl ?_); (try (refine gate_guard (by rfl) ?_; dsimp only)); refine box_event ?hg (N := 9) ?hd (cs := #[.int .i64 0, .int .i64 0]) (t := 74) ?hr ?_; (case hd => rfl); (case hg => rfl); (case hr => first | (go_simp; done) | (go_simp; rfl)); intro gb163 hg w62 hbox hb; have n0_ := Aside0.mk (Kd.R_below (Kd.R_elderB (roW HO_101.out) gb163 (Nat.le_of_eq hg.symm)) hb); have n1_ := Aside0.mk (below_step blw hb); have n2_ := Aside0.mk (hbox); have n3_ := Aside0.mk ((by rw [hg]; exact (below_size blw) : w.heap.size ≤ gb163)); have n4_ := Aside0.mk ((by rw [hg]; exact (below_size blw) : w.heap.size ≤ gb163)); clear HO_101; clear HB; have HO_101 := n0_; have HB := n1_; have BK163 := n2_; have GW163 := n3_; have GE163 := n4_; clear n0_ n1_ n2_ n3_ n4_; clear hb hbox hg; have hcz63_0 : w62.cell? ⟨gb163, 0, none⟩ = some (.int .i64 0) := (blk_cell BK163.out 0).trans rfl; have hcz63_1 : w62.cell? ⟨gb163, 1, none⟩ = some (.int .i64 0) := (blk_cell BK163.out 1).trans rfl; have hfz63_0 := blk_frozen BK163.out 0; have hfz63_1 := blk_frozen BK163.out 1; have p164 : 0 ≤ (((rd_T74 x3_2 x103_3).f0) : Int) := odt; have q164 : ((rd_T74 x3_2 x103_3).f0) < (l0.length : Int) := odt; obtain ⟨ad164, A164_4, c164_4, e164, hx164_0, hx164_1, hx164_2, hx164_3, hx164_4, hl164_4, hi164_4⟩ := at_T41 HR0.out ((rd_T74 x3_2 x103_3).f0) p164 q164; cases e164; have hn164_0 : ad164.block ≠ gb163 := Nat.ne_of_lt (Nat.lt_of_lt_of_le (by have := World.block_lt_of_cell? _ _ hx164_0; first | rwa [add_block] at this | exact this) GW163.out); have hn164_1 : ad164.block ≠ gb163 := Nat.ne_of_lt (Nat.lt_of_lt_of_le (by have := World.block_lt_of_cell? _ _ hx164_0; first | rwa [add_block] at this | exact this) GW163.out); replace hx164_0 := cellB hx164_0; replace hx164_1 := cellB hx164_1; replace hx164_2 := cellB hx164_2; replace hx164_3 := cellB hx164_3; replace hx164_4 := cellB hx164_4; have HR164_4 := Aside0.mk hi164_4; have HC164_4 := Aside0.mk hl164_4; clear hi164_4 hl164_4; replace hx164_0 := (cell_far (p := ⟨gb163, 0, none⟩) (nb hn164_0) (.int .i64 ((rd_T74 x3_2 x103_3).f0))).trans hx164_0; replace hx164_1 := (cell_far (p := ⟨gb163, 0, none⟩) (nb hn164_0) (.int .i64 ((rd_T74 x3_2 x103_3).f0))).trans hx164_1; replace hx164_2 := (cell_far (p := ⟨gb163, 0, none⟩) (nb hn164_0) (.int .i64 ((rd_T74 x3_2 x103_3).f0))).trans hx164_2; replace hx164_3 := (cell_far (p := ⟨gb163, 0, none⟩) (nb hn164_0) (.int .i64 ((rd_T74 x3_2 x103_3).f0))).trans hx164_3; replace hx164_4 := (cell_far (p := ⟨gb163, 0, none⟩) (nb hn164_0) (.int .i64 ((rd_T74 x3_2 x103_3).f0))).trans hx164_4; replace hx164_0 := (cell_far (p := ⟨gb163, 1, none⟩) (nb hn164_1) (.int .i64 ((rd_T74 x3_2 x103_3).f1))).trans hx164_0; replace hx164_1 := (cell_far (p := ⟨gb163, 1, none⟩) (nb hn164_1) (.int .i64 ((rd_T74 x3_2 x103_3).f1))).trans hx164_1; replace hx164_2 := (cell_far (p := ⟨gb163, 1, none⟩) (nb hn164_1) (.int .i64 ((rd_T74 x3_2 x103_3).f1))).trans hx164_2; replace hx164_3 := (cell_far (p := ⟨gb163, 1, none⟩) (nb hn164_1) (.int .i64 ((rd_T74 x3_2 x103_3).f1))).trans hx164_3; replace hx164_4 := (cell_far (p := ⟨gb163, 1, none⟩) (nb hn164_1) (.int .i64 ((rd_T74 x3_2 x103_3).f1))).trans hx164_4; (try have hy164_0 := fun (n_ : Nat) => (show ((((w62.drewN n_).setCell ⟨gb163, 0, none⟩ (.int .i64 ((rd_T74 x3_2 x103_3).f0))).setCell ⟨gb163, 1, none⟩ (.int .i64 ((rd_T74 x3_2 x103_3).f1)))).cell? _ = some _ from hx164_0)); (try have hy164_1 := fun (n_ : Nat) => (show ((((w62.drewN n_).setCell ⟨gb163, 0, none⟩ (.int .i64 ((rd_T74 x3_2 x103_3).f0))).setCell ⟨gb163, 1, none⟩ (.int .i64 ((rd_T74 x3_2 x103_3).f1)))).cell? _ = some _ from hx164_1)); (try have hy164_2 := fun (n_ : Nat) => (show ((((w62.drewN n_).setCell ⟨gb163, 0, none⟩ (.int .i64 ((rd_T74 x3_2 x103_3).f0))).setCell ⟨gb163, 1, none⟩ (.int .i64 ((rd_T74 x3_2 x103_3).f1)))).cell? _ = some _ from hx164_2)); (try have hy164_3 := fun (n_ : Nat) => (show ((((w62.drewN n_).setCell ⟨gb163, 0, none⟩ (.int .i64 ((rd_T74 x3_2 x103_3).f0))).setCell ⟨gb163, 1, none⟩ (.int .i64 ((rd_T74 x3_2 x103_3).f1)))).cell? _ = some _ from hx164_3)); (try have hy164_4 := fun (n_ : Nat) => (show ((((w62.drewN n_).setCell ⟨gb163, 0, none⟩ (.int .i64 ((rd_T74 x3_2 x103_3).f0))).setCell ⟨gb163, 1, none⟩ (.int .i64 ((rd_T74 x3_2 x103_3).f1)))).cell? _ = some _ from hx164_4)); clear hn164_0; clear hn164_1; replace p164 := eq_true p164; replace q164 := eq_true q164)))
         go_ret
         exact ⟨rse, by repeat (first | (with_reducible first | exact HB.out | apply below_alloc | apply pw_below_drewN | apply below_drew1 | refine below_set ?_ GE163.out) | exact HB.out)⟩
        rw [if_pos c59] at H
        have c59b0 : (((rd_T74 x3_2 x103_3).f1) == (((rd_T41 l0 ((rd_T74 x3_2 x103_3).f0)).f4).length : Int)) = true := beq_iff_eq.mpr c59
        have c59b1 : (((rd_T74 x3_2 x103_3).f1) != (((rd_T41 l0 ((rd_T74 x3_2 x103_3).f0)).f4).length : Int)) = false := bne_eq_false_iff_eq.mpr c59
        clear c59
        have H' := Aside0.mk H
        clear H
        have p162 : 0 ≤ (x103_3 : Int) := odt
        have q162 : x103_3 < (x3_2.length : Int) := odt
        obtain ⟨ad162, e162, hx162_0, hx162_1⟩ := at_T74 (Kd.R_reads' HO_101.out).2.2 x103_3 p162 q162
        cases e162
        replace p162 := eq_true p162
        replace q162 := eq_true q162
        go_wp2_with (first | ((with_reducible refine gate_dst (N := 9) rfl ?_); (try (refine gate_guard (by rfl) ?_; dsimp only)); refine box_event ?hg (N := 9) ?hd (cs := #[.int .i64 0, .int .i64 0]) (t := 74) ?hr ?_; (case hd => rfl); (case hg => rfl); (case hr => first | (go_simp; done) | (go_simp; rfl)); intro gb163 hg w60 hbox hb; have n0_ := Aside0.mk (Kd.R_below (Kd.R_elderB (roW HO_101.out) gb163 (Nat.le_of_eq hg.symm)) hb); have n1_ := Aside0.mk (below_step blw hb); have n2_ := Aside0.mk (hbox); have n3_ := Aside0.mk ((by rw [hg]; exact (below_size blw) : w.heap.size ≤ gb163)); have n4_ := Aside0.mk ((by rw [hg]; exact (below_size blw) : w.heap.size ≤ gb163)); clear HO_101; clear HB; have HO_101 := n0_; have HB := n1_; have BK163 := n2_; have GW163 := n3_; have GE163 := n4_; clear n0_ n1_ n2_ n3_ n4_; clear hb hbox hg; have hcz61_0 : w60.cell? ⟨gb163, 0, none⟩ = some (.int .i64 0) := (blk_cell BK163.out 0).trans rfl; have hcz61_1 : w60.cell? ⟨gb163, 1, none⟩ = some (.int .i64 0) := (blk_cell BK163.out 1).trans rfl; have hfz61_0 := blk_frozen BK163.out 0; have hfz61_1 := blk_frozen BK163.out 1; have p164 : 0 ≤ (((rd_T74 x3_2 x103_3).f0) : Int) := odt; have q164 : ((rd_T74 x3_2 x103_3).f0) < (l0.length : Int) := odt; obtain ⟨ad164, A164_4, c164_4, e164, hx164_0, hx164_1, hx164_2, hx164_3, hx164_4, hl164_4, hi164_4⟩ := at_T41 HR0.out ((rd_T74 x3_2 x103_3).f0) p164 q164; cases e164; have hn164_0 : ad164.block ≠ gb163 := Nat.ne_of_lt (Nat.lt_of_lt_of_le (by have := World.block_lt_of_cell? _ _ hx164_0; first | rwa [add_block] at this | exact this) GW163.out); have hn164_1 : ad164.block ≠ gb163 := Nat.ne_of_lt (Nat.lt_of_lt_of_le (by have := World.block_lt_of_cell? _ _ hx164_0; first | rwa [add_block] at this | exact this) GW163.out); replace hx164_0 := cellB hx164_0; replace hx164_1 := cellB hx164_1; replace hx164_2 := cellB hx164_2; replace hx164_3 := cellB hx164_3; replace hx164_4 := cellB hx164_4; have HR164_4 := Aside0.mk hi164_4; have HC164_4 := Aside0.mk hl164_4; clear hi164_4 hl164_4; replace hx164_0 := (cell_far (p := ⟨gb163, 0, none⟩) (nb hn164_0) (.int .i64 ((rd_T74 x3_2 x103_3).f0))).trans hx164_0; replace hx164_1 := (cell_far (p := ⟨gb163, 0, none⟩) (nb hn164_0) (.int .i64 ((rd_T74 x3_2 x103_3).f0))).trans hx164_1; replace hx164_2 := (cell_far (p := ⟨gb163, 0, none⟩) (nb hn164_0) (.int .i64 ((rd_T74 x3_2 x103_3).f0))).trans hx164_2; replace hx164_3 := (cell_far (p := ⟨gb163, 0, none⟩) (nb hn164_0) (.int .i64 ((rd_T74 x3_2 x103_3).f0))).trans hx164_3; replace hx164_4 := (cell_far (p := ⟨gb163, 0, none⟩) (nb hn164_0) (.int .i64 ((rd_T74 x3_2 x103_3).f0))).trans hx164_4; replace hx164_0 := (cell_far (p := ⟨gb163, 1, none⟩) (nb hn164_1) (.int .i64 ((rd_T74 x3_2 x103_3).f1))).trans hx164_0; replace hx164_1 := (cell_far (p := ⟨gb163, 1, none⟩) (nb hn164_1) (.int .i64 ((rd_T74 x3_2 x103_3).f1))).trans hx164_1; replace hx164_2 := (cell_far (p := ⟨gb163, 1, none⟩) (nb hn164_1) (.int .i64 ((rd_T74 x3_2 x103_3).f1))).trans hx164_2; replace hx164_3 := (cell_far (p := ⟨gb163, 1, none⟩) (nb hn164_1) (.int .i64 ((rd_T74 x3_2 x103_3).f1))).trans hx164_3; replace hx164_4 := (cell_far (p := ⟨gb163, 1, none⟩) (nb hn164_1) (.int .i64 ((rd_T74 x3_2 x103_3).f1))).trans hx164_4; (try have hy164_0 := fun (n_ : Nat) => (show ((((w60.drewN n_).setCell ⟨gb163, 0, none⟩ (.int .i64 ((rd_T74 x3_2 x103_3).f0))).setCell ⟨gb163, 1, none⟩ (.int .i64 ((rd_T74 x3_2 x103_3).f1)))).cell? _ = some _ from hx164_0)); (try have hy164_1 := fun (n_ : Nat) => (show ((((w60.drewN n_).setCell ⟨gb163, 0, none⟩ (.int .i64 ((rd_T74 x3_2 x103_3).f0))).setCell ⟨gb163, 1, none⟩ (.int .i64 ((rd_T74 x3_2 x103_3).f1)))).cell? _ = some _ from hx164_1)); (try have hy164_2 := fun (n_ : Nat) => (show ((((w60.drewN n_).setCell ⟨gb163, 0, none⟩ (.int .i64 ((rd_T74 x3_2 x103_3).f0))).setCell ⟨gb163, 1, none⟩ (.int .i64 ((rd_T74 x3_2 x103_3).f1)))).cell? _ = some _ from hx164_2)); (try have hy164_3 := fun (n_ : Nat) => (show ((((w60.drewN n_).setCell ⟨gb163, 0, none⟩ (.int .i64 ((rd_T74 x3_2 x103_3).f0))).setCell ⟨gb163, 1, none⟩ (.int .i64 ((rd_T74 x3_2 x103_3).f1)))).cell? _ = some _ from hx164_3)); (try have hy164_4 := fun (n_ : Nat) => (show ((((w60.drewN n_).setCell ⟨gb163, 0, none⟩ (.int .i64 ((rd_T74 x3_2 x103_3).f0))).setCell ⟨gb163, 1, none⟩ (.int .i64 ((rd_T74 x3_2 x103_3).f1)))).cell? _ = some _ from hx164_4)); clear hn164_0; clear hn164_1; replace p164 := eq_true p164; replace q164 := eq_true q164))
        repeat (go_quiet (first | ((with_reducible refine gate_dst (N := 9) rfl ?_); (try (refine gate_guard (by rfl) ?_; dsimp only)); refine box_event ?hg (N := 9) ?hd (cs := #[.int .i64 0, .int .i64 0]) (t := 74) ?hr ?_; (case hd => rfl); (case hg => rfl); (case hr => first | (go_simp; done) | (go_simp; rfl)); intro gb163 hg w60 hbox hb; have n0_ := Aside0.mk (Kd.R_below (Kd.R_elderB (roW HO_101.out) gb163 (Nat.le_of_eq hg.symm)) hb); have n1_ := Aside0.mk (below_step blw hb); have n2_ := Aside0.mk (hbox); have n3_ := Aside0.mk ((by rw [hg]; exact (below_size blw) : w.heap.size ≤ gb163)); have n4_ := Aside0.mk ((by rw [hg]; exact (below_size blw) : w.heap.size ≤ gb163)); clear HO_101; clear HB; have HO_101 := n0_; have HB := n1_; have BK163 := n2_; have GW163 := n3_; have GE163 := n4_; clear n0_ n1_ n2_ n3_ n4_; clear hb hbox hg; have hcz61_0 : w60.cell? ⟨gb163, 0, none⟩ = some (.int .i64 0) := (blk_cell BK163.out 0).trans rfl; have hcz61_1 : w60.cell? ⟨gb163, 1, none⟩ = some (.int .i64 0) := (blk_cell BK163.out 1).trans rfl; have hfz61_0 := blk_frozen BK163.out 0; have hfz61_1 := blk_frozen BK163.out 1; have p164 : 0 ≤ (((rd_T74 x3_2 x103_3).f0) : Int) := odt; have q164 : ((rd_T74 x3_2 x103_3).f0) < (l0.length : Int) := odt; obtain ⟨ad164, A164_4, c164_4, e164, hx164_0, hx164_1, hx164_2, hx164_3, hx164_4, hl164_4, hi164_4⟩ := at_T41 HR0.out ((rd_T74 x3_2 x103_3).f0) p164 q164; cases e164; have hn164_0 : ad164.block ≠ gb163 := Nat.ne_of_lt (Nat.lt_of_lt_of_le (by have := World.block_lt_of_cell? _ _ hx164_0; first | rwa [add_block] at this | exact this) GW163.out); have hn164_1 : ad164.block ≠ gb163 := Nat.ne_of_lt (Nat.lt_of_lt_of_le (by have := World.block_lt_of_cell? _ _ hx164_0; first | rwa [add_block] at this | exact this) GW163.out); replace hx164_0 := cellB hx164_0; replace hx164_1 := cellB hx164_1; replace hx164_2 := cellB hx164_2; replace hx164_3 := cellB hx164_3; replace hx164_4 := cellB hx164_4; have HR164_4 := Aside0.mk hi164_4; have HC164_4 := Aside0.mk hl164_4; clear hi164_4 hl164_4; replace hx164_0 := (cell_far (p := ⟨gb163, 0, none⟩) (nb hn164_0) (.int .i64 ((rd_T74 x3_2 x103_3).f0))).trans hx164_0; replace hx164_1 := (cell_far (p := ⟨gb163, 0, none⟩) (nb hn164_0) (.int .i64 ((rd_T74 x3_2 x103_3).f0))).trans hx164_1; replace hx164_2 := (cell_far (p := ⟨gb163, 0, none⟩) (nb hn164_0) (.int .i64 ((rd_T74 x3_2 x103_3).f0))).trans hx164_2; replace hx164_3 := (cell_far (p := ⟨gb163, 0, none⟩) (nb hn164_0) (.int .i64 ((rd_T74 x3_2 x103_3).f0))).trans hx164_3; replace hx164_4 := (cell_far (p := ⟨gb163, 0, none⟩) (nb hn164_0) (.int .i64 ((rd_T74 x3_2 x103_3).f0))).trans hx164_4; replace hx164_0 := (cell_far (p := ⟨gb163, 1, none⟩) (nb hn164_1) (.int .i64 ((rd_T74 x3_2 x103_3).f1))).trans hx164_0; replace hx164_1 := (cell_far (p := ⟨gb163, 1, none⟩) (nb hn164_1) (.int .i64 ((rd_T74 x3_2 x103_3).f1))).trans hx164_1; replace hx164_2 := (cell_far (p := ⟨gb163, 1, none⟩) (nb hn164_1) (.int .i64 ((rd_T74 x3_2 x103_3).f1))).trans hx164_2; replace hx164_3 := (cell_far (p := ⟨gb163, 1, none⟩) (nb hn164_1) (.int .i64 ((rd_T74 x3_2 x103_3).f1))).trans hx164_3; replace hx164_4 := (cell_far (p := ⟨gb163, 1, none⟩) (nb hn164_1) (.int .i64 ((rd_T74 x3_2 x103_3).f1))).trans hx164_4; (try have hy164_0 := fun (n_ : Nat) => (show ((((w60.drewN n_).setCell ⟨gb163, 0, none⟩ (.int .i64 ((rd_T74 x3_2 x103_3).f0))).setCell ⟨gb163, 1, none⟩ (.int .i64 ((rd_T74 x3_2 x103_3).f1)))).cell? _ = some _ from hx164_0)); (try have hy164_1 := fun (n_ : Nat) => (show ((((w60.drewN n_).setCell ⟨gb163, 0, none⟩ (.int .i64 ((rd_T74 x3_2 x103_3).f0))).setCell ⟨gb163, 1, none⟩ (.int .i64 ((rd_T74 x3_2 x103_3).f1)))).cell? _ = some _ from hx164_1)); (try have hy164_2 := fun (n_ : Nat) => (show ((((w60.drewN n_).setCell ⟨gb163, 0, none⟩ (.int .i64 ((rd_T74 x3_2 x103_3).f0))).setCell ⟨gb163, 1, none⟩ (.int .i64 ((rd_T74 x3_2 x103_3).f1)))).cell? _ = some _ from hx164_2)); (try have hy164_3 := fun (n_ : Nat) => (show ((((w60.drewN n_).setCell ⟨gb163, 0, none⟩ (.int .i64 ((rd_T74 x3_2 x103_3).f0))).setCell ⟨gb163, 1, none⟩ (.int .i64 ((rd_T74 x3_2 x103_3).f1)))).cell? _ = some _ from hx164_3)); (try have hy164_4 := fun (n_ : Nat) => (show ((((w60.drewN n_).setCell ⟨gb163, 0, none⟩ (.int .i64 ((rd_T74 x3_2 x103_3).f0))).setCell ⟨gb163, 1, none⟩ (.int .i64 ((rd_T74 x3_2 x103_3).f1)))).cell? _ = some _ from hx164_4)); clear hn164_0; clear hn164_1; replace p164 := eq_true p164; replace q164 := eq_true q164)); try go_wp2_with (first | ((with_reducible refine gate_dst (N := 9) rfl ?_); (try (refine gate_guard (by rfl) ?_; dsimp only)); refine box_event ?hg (N := 9) ?hd (cs := #[.int .i64 0, .int .i64 0]) (t := 74) ?hr ?_; (case hd => rfl); (case hg => rfl); (case hr => first | (go_simp; done) | (go_simp; rfl)); intro gb163 hg w60 hbox hb; have n0_ := Aside0.mk (Kd.R_below (Kd.R_elderB (roW HO_101.out) gb163 (Nat.le_of_eq hg.symm)) hb); have n1_ := Aside0.mk (below_step blw hb); have n2_ := Aside0.mk (hbox); have n3_ := Aside0.mk ((by rw [hg]; exact (below_size blw) : w.heap.size ≤ gb163)); have n4_ := Aside0.mk ((by rw [hg]; exact (below_size blw) : w.heap.size ≤ gb163)); clear HO_101; clear HB; have HO_101 := n0_; have HB := n1_; have BK163 := n2_; have GW163 := n3_; have GE163 := n4_; clear n0_ n1_ n2_ n3_ n4_; clear hb hbox hg; have hcz61_0 : w60.cell? ⟨gb163, 0, none⟩ = some (.int .i64 0) := (blk_cell BK163.out 0).trans rfl; have hcz61_1 : w60.cell? ⟨gb163, 1, none⟩ = some (.int .i64 0) := (blk_cell BK163.out 1).trans rfl; have hfz61_0 := blk_frozen BK163.out 0; have hfz61_1 := blk_frozen BK163.out 1; have p164 : 0 ≤ (((rd_T74 x3_2 x103_3).f0) : Int) := odt; have q164 : ((rd_T74 x3_2 x103_3).f0) < (l0.length : Int) := odt; obtain ⟨ad164, A164_4, c164_4, e164, hx164_0, hx164_1, hx164_2, hx164_3, hx164_4, hl164_4, hi164_4⟩ := at_T41 HR0.out ((rd_T74 x3_2 x103_3).f0) p164 q164; cases e164; have hn164_0 : ad164.block ≠ gb163 := Nat.ne_of_lt (Nat.lt_of_lt_of_le (by have := World.block_lt_of_cell? _ _ hx164_0; first | rwa [add_block] at this | exact this) GW163.out); have hn164_1 : ad164.block ≠ gb163 := Nat.ne_of_lt (Nat.lt_of_lt_of_le (by have := World.block_lt_of_cell? _ _ hx164_0; first | rwa [add_block] at this | exact this) GW163.out); replace hx164_0 := cellB hx164_0; replace hx164_1 := cellB hx164_1; replace hx164_2 := cellB hx164_2; replace hx164_3 := cellB hx164_3; replace hx164_4 := cellB hx164_4; have HR164_4 := Aside0.mk hi164_4; have HC164_4 := Aside0.mk hl164_4; clear hi164_4 hl164_4; replace hx164_0 := (cell_far (p := ⟨gb163, 0, none⟩) (nb hn164_0) (.int .i64 ((rd_T74 x3_2 x103_3).f0))).trans hx164_0; replace hx164_1 := (cell_far (p := ⟨gb163, 0, none⟩) (nb hn164_0) (.int .i64 ((rd_T74 x3_2 x103_3).f0))).trans hx164_1; replace hx164_2 := (cell_far (p := ⟨gb163, 0, none⟩) (nb hn164_0) (.int .i64 ((rd_T74 x3_2 x103_3).f0))).trans hx164_2; replace hx164_3 := (cell_far (p := ⟨gb163, 0, none⟩) (nb hn164_0) (.int .i64 ((rd_T74 x3_2 x103_3).f0))).trans hx164_3; replace hx164_4 := (cell_far (p := ⟨gb163, 0, none⟩) (nb hn164_0) (.int .i64 ((rd_T74 x3_2 x103_3).f0))).trans hx164_4; replace hx164_0 := (cell_far (p := ⟨gb163, 1, none⟩) (nb hn164_1) (.int .i64 ((rd_T74 x3_2 x103_3).f1))).trans hx164_0; replace hx164_1 := (cell_far (p := ⟨gb163, 1, none⟩) (nb hn164_1) (.int .i64 ((rd_T74 x3_2 x103_3).f1))).trans hx164_1; replace hx164_2 := (cell_far (p := ⟨gb163, 1, none⟩) (nb hn164_1) (.int .i64 ((rd_T74 x3_2 x103_3).f1))).trans hx164_2; replace hx164_3 := (cell_far (p := ⟨gb163, 1, none⟩) (nb hn164_1) (.int .i64 ((rd_T74 x3_2 x103_3).f1))).trans hx164_3; replace hx164_4 := (cell_far (p := ⟨gb163, 1, none⟩) (nb hn164_1) (.int .i64 ((rd_T74 x3_2 x103_3).f1))).trans hx164_4; (try have hy164_0 := fun (n_ : Nat) => (show ((((w60.drewN n_).setCell ⟨gb163, 0, none⟩ (.int .i64 ((rd_T74 x3_2 x103_3).f0))).setCell ⟨gb163, 1, none⟩ (.int .i64 ((rd_T74 x3_2 x103_3).f1)))).cell? _ = some _ from hx164_0)); (try have hy164_1 := fun (n_ : Nat) => (show ((((w60.drewN n_).setCell ⟨gb163, 0, none⟩ (.int .i64 ((rd_T74 x3_2 x103_3).f0))).setCell ⟨gb163, 1, none⟩ (.int .i64 ((rd_T74 x3_2 x103_3).f1)))).cell? _ = some _ from hx164_1)); (try have hy164_2 := fun (n_ : Nat) => (show ((((w60.drewN n_).setCell ⟨gb163, 0, none⟩ (.int .i64 ((rd_T74 x3_2 x103_3).f0))).setCell ⟨gb163, 1, none⟩ (.int .i64 ((rd_T74 x3_2 x103_3).f1)))).cell? _ = some _ from hx164_2)); (try have hy164_3 := fun (n_ : Nat) => (show ((((w60.drewN n_).setCell ⟨gb163, 0, none⟩ (.int .i64 ((rd_T74 x3_2 x103_3).f0))).setCell ⟨gb163, 1, none⟩ (.int .i64 ((rd_T74 x3_2 x103_3).f1)))).cell? _ = some _ from hx164_3)); (try have hy164_4 := fun (n_ : Nat) => (show ((((w60.drewN n_).setCell ⟨gb163, 0, none⟩ (.int .i64 ((rd_T74 x3_2 x103_3).f0))).setCell ⟨gb163, 1, none⟩ (.int .i64 ((rd_T74 x3_2 x103_3).f1)))).cell? _ = some _ from hx164_4)); clear hn164_0; clear hn164_1; replace p164 := eq_true p164; replace q164 := eq_true q164)))
        go_roundg k3
        case measure => have := HJ1.out; have := HK2.out; have := HK3.out; omega
        case rel => exact ⟨(wrap64 (x103_3 + 1)), rsd, H', ⟨by have := HJ1.out; have := HK2.out; have := HK3.out; omega⟩, ⟨by (with_reducible repeat (first | apply Kd.R_alloc | apply Kd.R_drewN | apply Kd.R_drew)); exact Kd.R_mono (Kd.R_far (p := ⟨gb163, 1, none⟩) (Kd.R_far (p := ⟨gb163, 0, none⟩) (Kd.R_mono HO_101.out (fun k_ hk => (⟨hk, hk.2⟩ : _ ∧ k_ ≠ gb163))) (fun _ hk => hk.2) (.int .i64 ((rd_T74 x3_2 x103_3).f0))) (fun _ hk => hk.2) (.int .i64 ((rd_T74 x3_2 x103_3).f1))) (fun _ hk => trivial)⟩, ⟨by repeat (first | (with_reducible first | exact HB.out | apply below_alloc | apply pw_below_drewN | apply below_drew1 | refine below_set ?_ GE163.out) | exact HB.out)⟩⟩
     rw [if_pos c5] at H
     have c5b0 : decide (x20_2 < (l0.length : Int)) = true := decide_eq_true c5
     clear c5
     by_cases c6 : 0 ≤ x20_2
     case neg =>
      rw [if_neg c6] at H
      exact absurd H (by simp)
     rw [if_pos c6] at H
     have c6b0 : decide (0 ≤ x20_2) = true := decide_eq_true c6
     clear c6
     by_cases c7 : x20_2 < (l0.length : Int)
     case neg =>
      rw [if_neg c7] at H
      exact absurd H (by simp)
     rw [if_pos c7] at H
     have c7b0 : decide (x20_2 < (l0.length : Int)) = true := decide_eq_true c7
     clear c7
     replace H := Option.bind_eq_some_iff.mp H
     obtain ⟨t146, A80, H⟩ := H
     replace H : (if t146 = true then (tree_depth.l1 k2 l0 x3_2 x4_2 x20_2 l0 (l0.length : Int) x20_2) else (some 0)) = some r := H
     have A8 := Aside0.mk A80
     clear A80
     by_cases c9 : t146 = true
     case neg =>
      replace c9 := Bool.eq_false_iff.mpr c9
      subst c9
      have H1 : (some 0) = some r := by rw [if_neg (show ¬ (false = true) by decide)] at H; exact H
      clear H
      have H := H1
      clear H1
      obtain rfl := Option.some.inj H
      have p144 : 0 ≤ (x20_2 : Int) := odt
      have q144 : x20_2 < (l0.length : Int) := odt
      obtain ⟨ad144, A144_4, c144_4, e144, hx144_0, hx144_1, hx144_2, hx144_3, hx144_4, hl144_4, hi144_4⟩ := at_T41 HR0.out x20_2 p144 q144
      cases e144
      replace hx144_0 := cellB hx144_0
      replace hx144_1 := cellB hx144_1
      replace hx144_2 := cellB hx144_2
      replace hx144_3 := cellB hx144_3
      replace hx144_4 := cellB hx144_4
      have HR144_4 := Aside0.mk hi144_4
      have HC144_4 := Aside0.mk hl144_4
      clear hi144_4 hl144_4
      replace p144 := eq_true p144
      replace q144 := eq_true q144
      go_wp2_with (first | ((with_reducible refine gate_dst (N := 6) rfl ?_); (try (refine gate_guard (by rfl) ?_; dsimp only)); refine box_event ?hg (N := 6) ?hd (cs := #[.int .i64 0, .int .i64 0, .bool false, .string (⟨#[]⟩ : ByteArray), .slice none 0 0]) (t := 41) ?hr ?_; (case hd => rfl); (case hg => rfl); (case hr => first | (go_simp; done) | (go_simp; rfl)); intro gb145 hg w50 hbox hb; have n0_ := Aside0.mk (Kd.R_below (roW HO_3.out) hb); have n1_ := Aside0.mk (below_step blw hb); have n2_ := Aside0.mk (hbox); have n3_ := Aside0.mk ((by rw [hg]; exact (below_size blw) : w.heap.size ≤ gb145)); have n4_ := Aside0.mk ((by rw [hg]; exact (below_size blw) : w.heap.size ≤ gb145)); clear HO_3; clear HB; have HO_3 := n0_; have HB := n1_; have BK145 := n2_; have GW145 := n3_; have GE145 := n4_; clear n0_ n1_ n2_ n3_ n4_; clear hb hbox hg; have hcz51_0 : w50.cell? ⟨gb145, 0, none⟩ = some (.int .i64 0) := (blk_cell BK145.out 0).trans rfl; have hcz51_1 : w50.cell? ⟨gb145, 1, none⟩ = some (.int .i64 0) := (blk_cell BK145.out 1).trans rfl; have hcz51_2 : w50.cell? ⟨gb145, 2, none⟩ = some (.bool false) := (blk_cell BK145.out 2).trans rfl; have hcz51_3 : w50.cell? ⟨gb145, 3, none⟩ = some (.string (⟨#[]⟩ : ByteArray)) := (blk_cell BK145.out 3).trans rfl; have hcz51_4 : w50.cell? ⟨gb145, 4, none⟩ = some (.slice none 0 0) := (blk_cell BK145.out 4).trans rfl; have hfz51_0 := blk_frozen BK145.out 0; have hfz51_1 := blk_frozen BK145.out 1; have hfz51_2 := blk_frozen BK145.out 2; have hfz51_3 := blk_frozen BK145.out 3; have hfz51_4 := blk_frozen BK145.out 4) | (go_at_call 39; (with_reducible refine (tree_one.calls k2 ((rd_T41 l0 x20_2).f0) ((rd_T41 l0 x20_2).f1) ((rd_T41 l0 x20_2).f2) ((rd_T41 l0 x20_2).f3) _ _ ((rd_T41 l0 x20_2).f4) false _ ?side1 ?side2 ?tb_ A8.out).mono ?_); (case tb_ => exact ⟨TB.below HT_.out (by repeat (first | (with_reducible first | exact HB.out | apply below_alloc | apply pw_below_drewN | apply below_drew1 | refine below_set ?_ GE145.out) | exact HB.out))⟩); (case side1 => exact Kd.C_below HR144_4.out (by repeat (first | (with_reducible first | exact HB.out | apply below_alloc | apply pw_below_drewN | apply below_drew1 | refine below_set ?_ GE145.out) | exact HB.out))); (case side2 => exact HC144_4.out); rintro e w52 ⟨rfl, hb⟩; have n0_ := Aside0.mk (Kd.R_below (by (with_reducible repeat (first | apply Kd.R_alloc | apply Kd.R_drewN | apply Kd.R_drew)); exact (Kd.R_mono (Kd.R_far (p := ⟨gb145, 4, none⟩) (Kd.R_far (p := ⟨gb145, 3, none⟩) (Kd.R_far (p := ⟨gb145, 2, none⟩) (Kd.R_far (p := ⟨gb145, 1, none⟩) (Kd.R_far (p := ⟨gb145, 0, none⟩) (Kd.R_types HO_3.out BK145.out (by decide)) (fun _ hk => hk.2) (.int .i64 ((rd_T41 l0 x20_2).f0))) (fun _ hk => hk.2) (.int .i64 ((rd_T41 l0 x20_2).f1))) (fun _ hk => hk.2) (.bool ((rd_T41 l0 x20_2).f2))) (fun _ hk => hk.2) (.string ((rd_T41 l0 x20_2).f3))) (fun _ hk => hk.2) (.slice A144_4 ((rd_T41 l0 x20_2).f4).length c144_4)) (fun _ h_ => h_.1))) hb); have n1_ := Aside0.mk (blk_below (g := gb145) (o := .cells #[.int .i64 ((rd_T41 l0 x20_2).f0), .int .i64 ((rd_T41 l0 x20_2).f1), .bool ((rd_T41 l0 x20_2).f2), .string ((rd_T41 l0 x20_2).f3), .slice A144_4 ((rd_T41 l0 x20_2).f4).length c144_4] 41 (0, 0)) (by (with_reducible repeat (first | refine blk_drewN ?_ _ | refine blk_drew ?_ | refine blk_alloc ?_ _)); refine blk_put (cs := #[.int .i64 ((rd_T41 l0 x20_2).f0), .int .i64 ((rd_T41 l0 x20_2).f1), .bool ((rd_T41 l0 x20_2).f2), .string ((rd_T41 l0 x20_2).f3), .slice none 0 0]) ?_ 4 _ rfl; (with_reducible repeat (first | refine blk_drewN ?_ _ | refine blk_drew ?_ | refine blk_alloc ?_ _)); refine blk_put (cs := #[.int .i64 ((rd_T41 l0 x20_2).f0), .int .i64 ((rd_T41 l0 x20_2).f1), .bool ((rd_T41 l0 x20_2).f2), .string (⟨#[]⟩ : ByteArray), .slice none 0 0]) ?_ 3 _ rfl; (with_reducible repeat (first | refine blk_drewN ?_ _ | refine blk_drew ?_ | refine blk_alloc ?_ _)); refine blk_put (cs := #[.int .i64 ((rd_T41 l0 x20_2).f0), .int .i64 ((rd_T41 l0 x20_2).f1), .bool false, .string (⟨#[]⟩ : ByteArray), .slice none 0 0]) ?_ 2 _ rfl; (with_reducible repeat (first | refine blk_drewN ?_ _ | refine blk_drew ?_ | refine blk_alloc ?_ _)); refine blk_put (cs := #[.int .i64 ((rd_T41 l0 x20_2).f0), .int .i64 0, .bool false, .string (⟨#[]⟩ : ByteArray), .slice none 0 0]) ?_ 1 _ rfl; (with_reducible repeat (first | refine blk_drewN ?_ _ | refine blk_drew ?_ | refine blk_alloc ?_ _)); refine blk_put (cs := #[.int .i64 0, .int .i64 0, .bool false, .string (⟨#[]⟩ : ByteArray), .slice none 0 0]) ?_ 0 _ rfl; (with_reducible repeat (first | refine blk_drewN ?_ _ | refine blk_drew ?_ | refine blk_alloc ?_ _)); exact BK145.out) hb); have n2_ := Aside0.mk (below_step (by repeat (first | (with_reducible first | exact HB.out | apply below_alloc | apply pw_below_drewN | apply below_drew1 | refine below_set ?_ GE145.out) | exact HB.out)) hb); clear HO_3; clear BK145; clear HB; have HO_3 := n0_; have BK145 := n1_; have HB := n2_; clear n0_ n1_ n2_; (try clear hb); (try clear hb2); (try clear hk); (try clear hi)))
      repeat (go_quiet (first | ((with_reducible refine gate_dst (N := 6) rfl ?_); (try (refine gate_guard (by rfl) ?_; dsimp only)); refine box_event ?hg (N := 6) ?hd (cs := #[.int .i64 0, .int .i64 0, .bool false, .string (⟨#[]⟩ : ByteArray), .slice none 0 0]) (t := 41) ?hr ?_; (case hd => rfl); (case hg => rfl); (case hr => first | (go_simp; done) | (go_simp; rfl)); intro gb145 hg w50 hbox hb; have n0_ := Aside0.mk (Kd.R_below (roW HO_3.out) hb); have n1_ := Aside0.mk (below_step blw hb); have n2_ := Aside0.mk (hbox); have n3_ := Aside0.mk ((by rw [hg]; exact (below_size blw) : w.heap.size ≤ gb145)); have n4_ := Aside0.mk ((by rw [hg]; exact (below_size blw) : w.heap.size ≤ gb145)); clear HO_3; clear HB; have HO_3 := n0_; have HB := n1_; have BK145 := n2_; have GW145 := n3_; have GE145 := n4_; clear n0_ n1_ n2_ n3_ n4_; clear hb hbox hg; have hcz51_0 : w50.cell? ⟨gb145, 0, none⟩ = some (.int .i64 0) := (blk_cell BK145.out 0).trans rfl; have hcz51_1 : w50.cell? ⟨gb145, 1, none⟩ = some (.int .i64 0) := (blk_cell BK145.out 1).trans rfl; have hcz51_2 : w50.cell? ⟨gb145, 2, none⟩ = some (.bool false) := (blk_cell BK145.out 2).trans rfl; have hcz51_3 : w50.cell? ⟨gb145, 3, none⟩ = some (.string (⟨#[]⟩ : ByteArray)) := (blk_cell BK145.out 3).trans rfl; have hcz51_4 : w50.cell? ⟨gb145, 4, none⟩ = some (.slice none 0 0) := (blk_cell BK145.out 4).trans rfl; have hfz51_0 := blk_frozen BK145.out 0; have hfz51_1 := blk_frozen BK145.out 1; have hfz51_2 := blk_frozen BK145.out 2; have hfz51_3 := blk_frozen BK145.out 3; have hfz51_4 := blk_frozen BK145.out 4) | (go_at_call 39; (with_reducible refine (tree_one.calls k2 ((rd_T41 l0 x20_2).f0) ((rd_T41 l0 x20_2).f1) ((rd_T41 l0 x20_2).f2) ((rd_T41 l0 x20_2).f3) _ _ ((rd_T41 l0 x20_2).f4) false _ ?side1 ?side2 ?tb_ A8.out).mono ?_); (case tb_ => exact ⟨TB.below HT_.out (by repeat (first | (with_reducible first | exact HB.out | apply below_alloc | apply pw_below_drewN | apply below_drew1 | refine below_set ?_ GE145.out) | exact HB.out))⟩); (case side1 => exact Kd.C_below HR144_4.out (by repeat (first | (with_reducible first | exact HB.out | apply below_alloc | apply pw_below_drewN | apply below_drew1 | refine below_set ?_ GE145.out) | exact HB.out))); (case side2 => exact HC144_4.out); rintro e w52 ⟨rfl, hb⟩; have n0_ := Aside0.mk (Kd.R_below (by (with_reducible repeat (first | apply Kd.R_alloc | apply Kd.R_drewN | apply Kd.R_drew)); exact (Kd.R_mono (Kd.R_far (p := ⟨gb145, 4, none⟩) (Kd.R_far (p := ⟨gb145, 3, none⟩) (Kd.R_far (p := ⟨gb145, 2, none⟩) (Kd.R_far (p := ⟨gb145, 1, none⟩) (Kd.R_far (p := ⟨gb145, 0, none⟩) (Kd.R_types HO_3.out BK145.out (by decide)) (fun _ hk => hk.2) (.int .i64 ((rd_T41 l0 x20_2).f0))) (fun _ hk => hk.2) (.int .i64 ((rd_T41 l0 x20_2).f1))) (fun _ hk => hk.2) (.bool ((rd_T41 l0 x20_2).f2))) (fun _ hk => hk.2) (.string ((rd_T41 l0 x20_2).f3))) (fun _ hk => hk.2) (.slice A144_4 ((rd_T41 l0 x20_2).f4).length c144_4)) (fun _ h_ => h_.1))) hb); have n1_ := Aside0.mk (blk_below (g := gb145) (o := .cells #[.int .i64 ((rd_T41 l0 x20_2).f0), .int .i64 ((rd_T41 l0 x20_2).f1), .bool ((rd_T41 l0 x20_2).f2), .string ((rd_T41 l0 x20_2).f3), .slice A144_4 ((rd_T41 l0 x20_2).f4).length c144_4] 41 (0, 0)) (by (with_reducible repeat (first | refine blk_drewN ?_ _ | refine blk_drew ?_ | refine blk_alloc ?_ _)); refine blk_put (cs := #[.int .i64 ((rd_T41 l0 x20_2).f0), .int .i64 ((rd_T41 l0 x20_2).f1), .bool ((rd_T41 l0 x20_2).f2), .string ((rd_T41 l0 x20_2).f3), .slice none 0 0]) ?_ 4 _ rfl; (with_reducible repeat (first | refine blk_drewN ?_ _ | refine blk_drew ?_ | refine blk_alloc ?_ _)); refine blk_put (cs := #[.int .i64 ((rd_T41 l0 x20_2).f0), .int .i64 ((rd_T41 l0 x20_2).f1), .bool ((rd_T41 l0 x20_2).f2), .string (⟨#[]⟩ : ByteArray), .slice none 0 0]) ?_ 3 _ rfl; (with_reducible repeat (first | refine blk_drewN ?_ _ | refine blk_drew ?_ | refine blk_alloc ?_ _)); refine blk_put (cs := #[.int .i64 ((rd_T41 l0 x20_2).f0), .int .i64 ((rd_T41 l0 x20_2).f1), .bool false, .string (⟨#[]⟩ : ByteArray), .slice none 0 0]) ?_ 2 _ rfl; (with_reducible repeat (first | refine blk_drewN ?_ _ | refine blk_drew ?_ | refine blk_alloc ?_ _)); refine blk_put (cs := #[.int .i64 ((rd_T41 l0 x20_2).f0), .int .i64 0, .bool false, .string (⟨#[]⟩ : ByteArray), .slice none 0 0]) ?_ 1 _ rfl; (with_reducible repeat (first | refine blk_drewN ?_ _ | refine blk_drew ?_ | refine blk_alloc ?_ _)); refine blk_put (cs := #[.int .i64 0, .int .i64 0, .bool false, .string (⟨#[]⟩ : ByteArray), .slice none 0 0]) ?_ 0 _ rfl; (with_reducible repeat (first | refine blk_drewN ?_ _ | refine blk_drew ?_ | refine blk_alloc ?_ _)); exact BK145.out) hb); have n2_ := Aside0.mk (below_step (by repeat (first | (with_reducible first | exact HB.out | apply below_alloc | apply pw_below_drewN | apply below_drew1 | refine below_set ?_ GE145.out) | exact HB.out)) hb); clear HO_3; clear BK145; clear HB; have HO_3 := n0_; have BK145 := n1_; have HB := n2_; clear n0_ n1_ n2_; (try clear hb); (try clear hb2); (try clear hk); (try clear hi))); try go_wp2_with (first | ((with_reducible refine gate_dst (N := 6) rfl ?_); (try (refine gate_guard (by rfl) ?_; dsimp only)); refine box_event ?hg (N := 6) ?hd (cs := #[.int .i64 0, .int .i64 0, .bool false, .string (⟨#[]⟩ : ByteArray), .slice none 0 0]) (t := 41) ?hr ?_; (case hd => rfl); (case hg => rfl); (case hr => first | (go_simp; done) | (go_simp; rfl)); intro gb145 hg w50 hbox hb; have n0_ := Aside0.mk (Kd.R_below (roW HO_3.out) hb); have n1_ := Aside0.mk (below_step blw hb); have n2_ := Aside0.mk (hbox); have n3_ := Aside0.mk ((by rw [hg]; exact (below_size blw) : w.heap.size ≤ gb145)); have n4_ := Aside0.mk ((by rw [hg]; exact (below_size blw) : w.heap.size ≤ gb145)); clear HO_3; clear HB; have HO_3 := n0_; have HB := n1_; have BK145 := n2_; have GW145 := n3_; have GE145 := n4_; clear n0_ n1_ n2_ n3_ n4_; clear hb hbox hg; have hcz51_0 : w50.cell? ⟨gb145, 0, none⟩ = some (.int .i64 0) := (blk_cell BK145.out 0).trans rfl; have hcz51_1 : w50.cell? ⟨gb145, 1, none⟩ = some (.int .i64 0) := (blk_cell BK145.out 1).trans rfl; have hcz51_2 : w50.cell? ⟨gb145, 2, none⟩ = some (.bool false) := (blk_cell BK145.out 2).trans rfl; have hcz51_3 : w50.cell? ⟨gb145, 3, none⟩ = some (.string (⟨#[]⟩ : ByteArray)) := (blk_cell BK145.out 3).trans rfl; have hcz51_4 : w50.cell? ⟨gb145, 4, none⟩ = some (.slice none 0 0) := (blk_cell BK145.out 4).trans rfl; have hfz51_0 := blk_frozen BK145.out 0; have hfz51_1 := blk_frozen BK145.out 1; have hfz51_2 := blk_frozen BK145.out 2; have hfz51_3 := blk_frozen BK145.out 3; have hfz51_4 := blk_frozen BK145.out 4) | (go_at_call 39; (with_reducible refine (tree_one.calls k2 ((rd_T41 l0 x20_2).f0) ((rd_T41 l0 x20_2).f1) ((rd_T41 l0 x20_2).f2) ((rd_T41 l0 x20_2).f3) _ _ ((rd_T41 l0 x20_2).f4) false _ ?side1 ?side2 ?tb_ A8.out).mono ?_); (case tb_ => exact ⟨TB.below HT_.out (by repeat (first | (with_reducible first | exact HB.out | apply below_alloc | apply pw_below_drewN | apply below_drew1 | refine below_set ?_ GE145.out) | exact HB.out))⟩); (case side1 => exact Kd.C_below HR144_4.out (by repeat (first | (with_reducible first | exact HB.out | apply below_alloc | apply pw_below_drewN | apply below_drew1 | refine below_set ?_ GE145.out) | exact HB.out))); (case side2 => exact HC144_4.out); rintro e w52 ⟨rfl, hb⟩; have n0_ := Aside0.mk (Kd.R_below (by (with_reducible repeat (first | apply Kd.R_alloc | apply Kd.R_drewN | apply Kd.R_drew)); exact (Kd.R_mono (Kd.R_far (p := ⟨gb145, 4, none⟩) (Kd.R_far (p := ⟨gb145, 3, none⟩) (Kd.R_far (p := ⟨gb145, 2, none⟩) (Kd.R_far (p := ⟨gb145, 1, none⟩) (Kd.R_far (p := ⟨gb145, 0, none⟩) (Kd.R_types HO_3.out BK145.out (by decide)) (fun _ hk => hk.2) (.int .i64 ((rd_T41 l0 x20_2).f0))) (fun _ hk => hk.2) (.int .i64 ((rd_T41 l0 x20_2).f1))) (fun _ hk => hk.2) (.bool ((rd_T41 l0 x20_2).f2))) (fun _ hk => hk.2) (.string ((rd_T41 l0 x20_2).f3))) (fun _ hk => hk.2) (.slice A144_4 ((rd_T41 l0 x20_2).f4).length c144_4)) (fun _ h_ => h_.1))) hb); have n1_ := Aside0.mk (blk_below (g := gb145) (o := .cells #[.int .i64 ((rd_T41 l0 x20_2).f0), .int .i64 ((rd_T41 l0 x20_2).f1), .bool ((rd_T41 l0 x20_2).f2), .string ((rd_T41 l0 x20_2).f3), .slice A144_4 ((rd_T41 l0 x20_2).f4).length c144_4] 41 (0, 0)) (by (with_reducible repeat (first | refine blk_drewN ?_ _ | refine blk_drew ?_ | refine blk_alloc ?_ _)); refine blk_put (cs := #[.int .i64 ((rd_T41 l0 x20_2).f0), .int .i64 ((rd_T41 l0 x20_2).f1), .bool ((rd_T41 l0 x20_2).f2), .string ((rd_T41 l0 x20_2).f3), .slice none 0 0]) ?_ 4 _ rfl; (with_reducible repeat (first | refine blk_drewN ?_ _ | refine blk_drew ?_ | refine blk_alloc ?_ _)); refine blk_put (cs := #[.int .i64 ((rd_T41 l0 x20_2).f0), .int .i64 ((rd_T41 l0 x20_2).f1), .bool ((rd_T41 l0 x20_2).f2), .string (⟨#[]⟩ : ByteArray), .slice none 0 0]) ?_ 3 _ rfl; (with_reducible repeat (first | refine blk_drewN ?_ _ | refine blk_drew ?_ | refine blk_alloc ?_ _)); refine blk_put (cs := #[.int .i64 ((rd_T41 l0 x20_2).f0), .int .i64 ((rd_T41 l0 x20_2).f1), .bool false, .string (⟨#[]⟩ : ByteArray), .slice none 0 0]) ?_ 2 _ rfl; (with_reducible repeat (first | refine blk_drewN ?_ _ | refine blk_drew ?_ | refine blk_alloc ?_ _)); refine blk_put (cs := #[.int .i64 ((rd_T41 l0 x20_2).f0), .int .i64 0, .bool false, .string (⟨#[]⟩ : ByteArray), .slice none 0 0]) ?_ 1 _ rfl; (with_reducible repeat (first | refine blk_drewN ?_ _ | refine blk_drew ?_ | refine blk_alloc ?_ _)); refine blk_put (cs := #[.int .i64 0, .int .i64 0, .bool false, .string (⟨#[]⟩ : ByteArray), .slice none 0 0]) ?_ 0 _ rfl; (with_reducible repeat (first | refine blk_drewN ?_ _ | refine blk_drew ?_ | refine blk_alloc ?_ _)); exact BK145.out) hb); have n2_ := Aside0.mk (below_step (by repeat (first | (with_reducible first | exact HB.out | apply below_alloc | apply pw_below_drewN | apply below_drew1 | refine below_set ?_ GE145.out) | exact HB.out)) hb); clear HO_3; clear BK145; clear HB; have HO_3 := n0_; have BK145 := n1_; have HB := n2_; clear n0_ n1_ n2_; (try clear hb); (try clear hb2); (try clear hk); (try clear hi))))
      go_ret
      exact ⟨rse, by repeat (first | (with_reducible first | exact HB.out | apply below_alloc | apply pw_below_drewN | apply below_drew1 | refine below_set ?_ GE145.out) | exact HB.out)⟩
     subst c9
     have H1 : (tree_depth.l1 k2 l0 x3_2 x4_2 x20_2 l0 (l0.length : Int) x20_2) = some r := by rw [if_pos rfl] at H; exact H
     clear H
     have H := H1
     clear H1
     have HC10 := Aside0.mk H
     clear H
     have p144 : 0 ≤ (x20_2 : Int) := odt
     have q144 : x20_2 < (l0.length : Int) := odt
     obtain ⟨ad144, A144_4, c144_4, e144, hx144_0, hx144_1, hx144_2, hx144_3, hx144_4, hl144_4, hi144_4⟩ := at_T41 HR0.out x20_2 p144 q144
     cases e144
     replace hx144_0 := cellB hx144_0
     replace hx144_1 := cellB hx144_1
     replace hx144_2 := cellB hx144_2
     replace hx144_3 := cellB hx144_3
     replace hx144_4 := cellB hx144_4
     have HR144_4 := Aside0.mk hi144_4
     have HC144_4 := Aside0.mk hl144_4
     clear hi144_4 hl144_4
     replace p144 := eq_true p144
     replace q144 := eq_true q144
     go_upto_block 2 with (first | ((with_reducible refine gate_dst (N := 6) rfl ?_); (try (refine gate_guard (by rfl) ?_; dsimp only)); refine box_event ?hg (N := 6) ?hd (cs := #[.int .i64 0, .int .i64 0, .bool false, .string (⟨#[]⟩ : ByteArray), .slice none 0 0]) (t := 41) ?hr ?_; (case hd => rfl); (case hg => rfl); (case hr => first | (go_simp; done) | (go_simp; rfl)); intro gb145 hg w11 hbox hb; have n0_ := Aside0.mk (Kd.R_below (roW HO_3.out) hb); have n1_ := Aside0.mk (below_step blw hb); have n2_ := Aside0.mk (hbox); have n3_ := Aside0.mk ((by rw [hg]; exact (below_size blw) : w.heap.size ≤ gb145)); have n4_ := Aside0.mk ((by rw [hg]; exact (below_size blw) : w.heap.size ≤ gb145)); clear HO_3; clear HB; have HO_3 := n0_; have HB := n1_; have BK145 := n2_; have GW145 := n3_; have GE145 := n4_; clear n0_ n1_ n2_ n3_ n4_; clear hb hbox hg; have hcz12_0 : w11.cell? ⟨gb145, 0, none⟩ = some (.int .i64 0) := (blk_cell BK145.out 0).trans rfl; have hcz12_1 : w11.cell? ⟨gb145, 1, none⟩ = some (.int .i64 0) := (blk_cell BK145.out 1).trans rfl; have hcz12_2 : w11.cell? ⟨gb145, 2, none⟩ = some (.bool false) := (blk_cell BK145.out 2).trans rfl; have hcz12_3 : w11.cell? ⟨gb145, 3, none⟩ = some (.string (⟨#[]⟩ : ByteArray)) := (blk_cell BK145.out 3).trans rfl; have hcz12_4 : w11.cell? ⟨gb145, 4, none⟩ = some (.slice none 0 0) := (blk_cell BK145.out 4).trans rfl; have hfz12_0 := blk_frozen BK145.out 0; have hfz12_1 := blk_frozen BK145.out 1; have hfz12_2 := blk_frozen BK145.out 2; have hfz12_3 := blk_frozen BK145.out 3; have hfz12_4 := blk_frozen BK145.out 4) | (go_at_call 39; (with_reducible refine (tree_one.calls k2 ((rd_T41 l0 x20_2).f0) ((rd_T41 l0 x20_2).f1) ((rd_T41 l0 x20_2).f2) ((rd_T41 l0 x20_2).f3) _ _ ((rd_T41 l0 x20_2).f4) true _ ?side1 ?side2 ?tb_ A8.out).mono ?_); (case tb_ => exact ⟨TB.below HT_.out (by repeat (first | (with_reducible first | exact HB.out | apply below_alloc | apply pw_below_drewN | apply below_drew1 | refine below_set ?_ GE145.out) | exact HB.out))⟩); (case side1 => exact Kd.C_below HR144_4.out (by repeat (first | (with_reducible first | exact HB.out | apply below_alloc | apply pw_below_drewN | apply below_drew1 | refine below_set ?_ GE145.out) | exact HB.out))); (case side2 => exact HC144_4.out); rintro e w13 ⟨rfl, hb⟩; have n0_ := Aside0.mk (Kd.R_below (by (with_reducible repeat (first | apply Kd.R_alloc | apply Kd.R_drewN | apply Kd.R_drew)); exact (Kd.R_mono (Kd.R_far (p := ⟨gb145, 4, none⟩) (Kd.R_far (p := ⟨gb145, 3, none⟩) (Kd.R_far (p := ⟨gb145, 2, none⟩) (Kd.R_far (p := ⟨gb145, 1, none⟩) (Kd.R_far (p := ⟨gb145, 0, none⟩) (Kd.R_types HO_3.out BK145.out (by decide)) (fun _ hk => hk.2) (.int .i64 ((rd_T41 l0 x20_2).f0))) (fun _ hk => hk.2) (.int .i64 ((rd_T41 l0 x20_2).f1))) (fun _ hk => hk.2) (.bool ((rd_T41 l0 x20_2).f2))) (fun _ hk => hk.2) (.string ((rd_T41 l0 x20_2).f3))) (fun _ hk => hk.2) (.slice A144_4 ((rd_T41 l0 x20_2).f4).length c144_4)) (fun _ h_ => h_.1))) hb); have n1_ := Aside0.mk (blk_below (g := gb145) (o := .cells #[.int .i64 ((rd_T41 l0 x20_2).f0), .int .i64 ((rd_T41 l0 x20_2).f1), .bool ((rd_T41 l0 x20_2).f2), .string ((rd_T41 l0 x20_2).f3), .slice A144_4 ((rd_T41 l0 x20_2).f4).length c144_4] 41 (0, 0)) (by (with_reducible repeat (first | refine blk_drewN ?_ _ | refine blk_drew ?_ | refine blk_alloc ?_ _)); refine blk_put (cs := #[.int .i64 ((rd_T41 l0 x20_2).f0), .int .i64 ((rd_T41 l0 x20_2).f1), .bool ((rd_T41 l0 x20_2).f2), .string ((rd_T41 l0 x20_2).f3), .slice none 0 0]) ?_ 4 _ rfl; (with_reducible repeat (first | refine blk_drewN ?_ _ | refine blk_drew ?_ | refine blk_alloc ?_ _)); refine blk_put (cs := #[.int .i64 ((rd_T41 l0 x20_2).f0), .int .i64 ((rd_T41 l0 x20_2).f1), .bool ((rd_T41 l0 x20_2).f2), .string (⟨#[]⟩ : ByteArray), .slice none 0 0]) ?_ 3 _ rfl; (with_reducible repeat (first | refine blk_drewN ?_ _ | refine blk_drew ?_ | refine blk_alloc ?_ _)); refine blk_put (cs := #[.int .i64 ((rd_T41 l0 x20_2).f0), .int .i64 ((rd_T41 l0 x20_2).f1), .bool false, .string (⟨#[]⟩ : ByteArray), .slice none 0 0]) ?_ 2 _ rfl; (with_reducible repeat (first | refine blk_drewN ?_ _ | refine blk_drew ?_ | refine blk_alloc ?_ _)); refine blk_put (cs := #[.int .i64 ((rd_T41 l0 x20_2).f0), .int .i64 0, .bool false, .string (⟨#[]⟩ : ByteArray), .slice none 0 0]) ?_ 1 _ rfl; (with_reducible repeat (first | refine blk_drewN ?_ _ | refine blk_drew ?_ | refine blk_alloc ?_ _)); refine blk_put (cs := #[.int .i64 0, .int .i64 0, .bool false, .string (⟨#[]⟩ : ByteArray), .slice none 0 0]) ?_ 0 _ rfl; (with_reducible repeat (first | refine blk_drewN ?_ _ | refine blk_drew ?_ | refine blk_alloc ?_ _)); exact BK145.out) hb); have n2_ := Aside0.mk (below_step (by repeat (first | (with_reducible first | exact HB.out | apply below_alloc | apply pw_below_drewN | apply below_drew1 | refine below_set ?_ GE145.out) | exact HB.out)) hb); clear HO_3; clear BK145; clear HB; have HO_3 := n0_; have BK145 := n1_; have HB := n2_; clear n0_ n1_ n2_; (try clear hb); (try clear hb2); (try clear hk); (try clear hi)))
     repeat (go_quiet (first | ((with_reducible refine gate_dst (N := 6) rfl ?_); (try (refine gate_guard (by rfl) ?_; dsimp only)); refine box_event ?hg (N := 6) ?hd (cs := #[.int .i64 0, .int .i64 0, .bool false, .string (⟨#[]⟩ : ByteArray), .slice none 0 0]) (t := 41) ?hr ?_; (case hd => rfl); (case hg => rfl); (case hr => first | (go_simp; done) | (go_simp; rfl)); intro gb145 hg w11 hbox hb; have n0_ := Aside0.mk (Kd.R_below (roW HO_3.out) hb); have n1_ := Aside0.mk (below_step blw hb); have n2_ := Aside0.mk (hbox); have n3_ := Aside0.mk ((by rw [hg]; exact (below_size blw) : w.heap.size ≤ gb145)); have n4_ := Aside0.mk ((by rw [hg]; exact (below_size blw) : w.heap.size ≤ gb145)); clear HO_3; clear HB; have HO_3 := n0_; have HB := n1_; have BK145 := n2_; have GW145 := n3_; have GE145 := n4_; clear n0_ n1_ n2_ n3_ n4_; clear hb hbox hg; have hcz12_0 : w11.cell? ⟨gb145, 0, none⟩ = some (.int .i64 0) := (blk_cell BK145.out 0).trans rfl; have hcz12_1 : w11.cell? ⟨gb145, 1, none⟩ = some (.int .i64 0) := (blk_cell BK145.out 1).trans rfl; have hcz12_2 : w11.cell? ⟨gb145, 2, none⟩ = some (.bool false) := (blk_cell BK145.out 2).trans rfl; have hcz12_3 : w11.cell? ⟨gb145, 3, none⟩ = some (.string (⟨#[]⟩ : ByteArray)) := (blk_cell BK145.out 3).trans rfl; have hcz12_4 : w11.cell? ⟨gb145, 4, none⟩ = some (.slice none 0 0) := (blk_cell BK145.out 4).trans rfl; have hfz12_0 := blk_frozen BK145.out 0; have hfz12_1 := blk_frozen BK145.out 1; have hfz12_2 := blk_frozen BK145.out 2; have hfz12_3 := blk_frozen BK145.out 3; have hfz12_4 := blk_frozen BK145.out 4) | (go_at_call 39; (with_reducible refine (tree_one.calls k2 ((rd_T41 l0 x20_2).f0) ((rd_T41 l0 x20_2).f1) ((rd_T41 l0 x20_2).f2) ((rd_T41 l0 x20_2).f3) _ _ ((rd_T41 l0 x20_2).f4) true _ ?side1 ?side2 ?tb_ A8.out).mono ?_); (case tb_ => exact ⟨TB.below HT_.out (by repeat (first | (with_reducible first | exact HB.out | apply below_alloc | apply pw_below_drewN | apply below_drew1 | refine below_set ?_ GE145.out) | exact HB.out))⟩); (case side1 => exact Kd.C_below HR144_4.out (by repeat (first | (with_reducible first | exact HB.out | apply below_alloc | apply pw_below_drewN | apply below_drew1 | refine below_set ?_ GE145.out) | exact HB.out))); (case side2 => exact HC144_4.out); rintro e w13 ⟨rfl, hb⟩; have n0_ := Aside0.mk (Kd.R_below (by (with_reducible repeat (first | apply Kd.R_alloc | apply Kd.R_drewN | apply Kd.R_drew)); exact (Kd.R_mono (Kd.R_far (p := ⟨gb145, 4, none⟩) (Kd.R_far (p := ⟨gb145, 3, none⟩) (Kd.R_far (p := ⟨gb145, 2, none⟩) (Kd.R_far (p := ⟨gb145, 1, none⟩) (Kd.R_far (p := ⟨gb145, 0, none⟩) (Kd.R_types HO_3.out BK145.out (by decide)) (fun _ hk => hk.2) (.int .i64 ((rd_T41 l0 x20_2).f0))) (fun _ hk => hk.2) (.int .i64 ((rd_T41 l0 x20_2).f1))) (fun _ hk => hk.2) (.bool ((rd_T41 l0 x20_2).f2))) (fun _ hk => hk.2) (.string ((rd_T41 l0 x20_2).f3))) (fun _ hk => hk.2) (.slice A144_4 ((rd_T41 l0 x20_2).f4).length c144_4)) (fun _ h_ => h_.1))) hb); have n1_ := Aside0.mk (blk_below (g := gb145) (o := .cells #[.int .i64 ((rd_T41 l0 x20_2).f0), .int .i64 ((rd_T41 l0 x20_2).f1), .bool ((rd_T41 l0 x20_2).f2), .string ((rd_T41 l0 x20_2).f3), .slice A144_4 ((rd_T41 l0 x20_2).f4).length c144_4] 41 (0, 0)) (by (with_reducible repeat (first | refine blk_drewN ?_ _ | refine blk_drew ?_ | refine blk_alloc ?_ _)); refine blk_put (cs := #[.int .i64 ((rd_T41 l0 x20_2).f0), .int .i64 ((rd_T41 l0 x20_2).f1), .bool ((rd_T41 l0 x20_2).f2), .string ((rd_T41 l0 x20_2).f3), .slice none 0 0]) ?_ 4 _ rfl; (with_reducible repeat (first | refine blk_drewN ?_ _ | refine blk_drew ?_ | refine blk_alloc ?_ _)); refine blk_put (cs := #[.int .i64 ((rd_T41 l0 x20_2).f0), .int .i64 ((rd_T41 l0 x20_2).f1), .bool ((rd_T41 l0 x20_2).f2), .string (⟨#[]⟩ : ByteArray), .slice none 0 0]) ?_ 3 _ rfl; (with_reducible repeat (first | refine blk_drewN ?_ _ | refine blk_drew ?_ | refine blk_alloc ?_ _)); refine blk_put (cs := #[.int .i64 ((rd_T41 l0 x20_2).f0), .int .i64 ((rd_T41 l0 x20_2).f1), .bool false, .string (⟨#[]⟩ : ByteArray), .slice none 0 0]) ?_ 2 _ rfl; (with_reducible repeat (first | refine blk_drewN ?_ _ | refine blk_drew ?_ | refine blk_alloc ?_ _)); refine blk_put (cs := #[.int .i64 ((rd_T41 l0 x20_2).f0), .int .i64 0, .bool false, .string (⟨#[]⟩ : ByteArray), .slice none 0 0]) ?_ 1 _ rfl; (with_reducible repeat (first | refine blk_drewN ?_ _ | refine blk_drew ?_ | refine blk_alloc ?_ _)); refine blk_put (cs := #[.int .i64 0, .int .i64 0, .bool false, .string (⟨#[]⟩ : ByteArray), .slice none 0 0]) ?_ 0 _ rfl; (with_reducible repeat (first | refine blk_drewN ?_ _ | refine blk_drew ?_ | refine blk_alloc ?_ _)); exact BK145.out) hb); have n2_ := Aside0.mk (below_step (by repeat (first | (with_reducible first | exact HB.out | apply below_alloc | apply pw_below_drewN | apply below_drew1 | refine below_set ?_ GE145.out) | exact HB.out)) hb); clear HO_3; clear BK145; clear HB; have HO_3 := n0_; have BK145 := n1_; have HB := n2_; clear n0_ n1_ n2_; (try clear hb); (try clear hb2); (try clear hk); (try clear hi))); go_upto_block 2 with (first | ((with_reducible refine gate_dst (N := 6) rfl ?_); (try (refine gate_guard (by rfl) ?_; dsimp only)); refine box_event ?hg (N := 6) ?hd (cs := #[.int .i64 0, .int .i64 0, .bool false, .string (⟨#[]⟩ : ByteArray), .slice none 0 0]) (t := 41) ?hr ?_; (case hd => rfl); (case hg => rfl); (case hr => first | (go_simp; done) | (go_simp; rfl)); intro gb145 hg w11 hbox hb; have n0_ := Aside0.mk (Kd.R_below (roW HO_3.out) hb); have n1_ := Aside0.mk (below_step blw hb); have n2_ := Aside0.mk (hbox); have n3_ := Aside0.mk ((by rw [hg]; exact (below_size blw) : w.heap.size ≤ gb145)); have n4_ := Aside0.mk ((by rw [hg]; exact (below_size blw) : w.heap.size ≤ gb145)); clear HO_3; clear HB; have HO_3 := n0_; have HB := n1_; have BK145 := n2_; have GW145 := n3_; have GE145 := n4_; clear n0_ n1_ n2_ n3_ n4_; clear hb hbox hg; have hcz12_0 : w11.cell? ⟨gb145, 0, none⟩ = some (.int .i64 0) := (blk_cell BK145.out 0).trans rfl; have hcz12_1 : w11.cell? ⟨gb145, 1, none⟩ = some (.int .i64 0) := (blk_cell BK145.out 1).trans rfl; have hcz12_2 : w11.cell? ⟨gb145, 2, none⟩ = some (.bool false) := (blk_cell BK145.out 2).trans rfl; have hcz12_3 : w11.cell? ⟨gb145, 3, none⟩ = some (.string (⟨#[]⟩ : ByteArray)) := (blk_cell BK145.out 3).trans rfl; have hcz12_4 : w11.cell? ⟨gb145, 4, none⟩ = some (.slice none 0 0) := (blk_cell BK145.out 4).trans rfl; have hfz12_0 := blk_frozen BK145.out 0; have hfz12_1 := blk_frozen BK145.out 1; have hfz12_2 := blk_frozen BK145.out 2; have hfz12_3 := blk_frozen BK145.out 3; have hfz12_4 := blk_frozen BK145.out 4) | (go_at_call 39; (with_reducible refine (tree_one.calls k2 ((rd_T41 l0 x20_2).f0) ((rd_T41 l0 x20_2).f1) ((rd_T41 l0 x20_2).f2) ((rd_T41 l0 x20_2).f3) _ _ ((rd_T41 l0 x20_2).f4) true _ ?side1 ?side2 ?tb_ A8.out).mono ?_); (case tb_ => exact ⟨TB.below HT_.out (by repeat (first | (with_reducible first | exact HB.out | apply below_alloc | apply pw_below_drewN | apply below_drew1 | refine below_set ?_ GE145.out) | exact HB.out))⟩); (case side1 => exact Kd.C_below HR144_4.out (by repeat (first | (with_reducible first | exact HB.out | apply below_alloc | apply pw_below_drewN | apply below_drew1 | refine below_set ?_ GE145.out) | exact HB.out))); (case side2 => exact HC144_4.out); rintro e w13 ⟨rfl, hb⟩; have n0_ := Aside0.mk (Kd.R_below (by (with_reducible repeat (first | apply Kd.R_alloc | apply Kd.R_drewN | apply Kd.R_drew)); exact (Kd.R_mono (Kd.R_far (p := ⟨gb145, 4, none⟩) (Kd.R_far (p := ⟨gb145, 3, none⟩) (Kd.R_far (p := ⟨gb145, 2, none⟩) (Kd.R_far (p := ⟨gb145, 1, none⟩) (Kd.R_far (p := ⟨gb145, 0, none⟩) (Kd.R_types HO_3.out BK145.out (by decide)) (fun _ hk => hk.2) (.int .i64 ((rd_T41 l0 x20_2).f0))) (fun _ hk => hk.2) (.int .i64 ((rd_T41 l0 x20_2).f1))) (fun _ hk => hk.2) (.bool ((rd_T41 l0 x20_2).f2))) (fun _ hk => hk.2) (.string ((rd_T41 l0 x20_2).f3))) (fun _ hk => hk.2) (.slice A144_4 ((rd_T41 l0 x20_2).f4).length c144_4)) (fun _ h_ => h_.1))) hb); have n1_ := Aside0.mk (blk_below (g := gb145) (o := .cells #[.int .i64 ((rd_T41 l0 x20_2).f0), .int .i64 ((rd_T41 l0 x20_2).f1), .bool ((rd_T41 l0 x20_2).f2), .string ((rd_T41 l0 x20_2).f3), .slice A144_4 ((rd_T41 l0 x20_2).f4).length c144_4] 41 (0, 0)) (by (with_reducible repeat (first | refine blk_drewN ?_ _ | refine blk_drew ?_ | refine blk_alloc ?_ _)); refine blk_put (cs := #[.int .i64 ((rd_T41 l0 x20_2).f0), .int .i64 ((rd_T41 l0 x20_2).f1), .bool ((rd_T41 l0 x20_2).f2), .string ((rd_T41 l0 x20_2).f3), .slice none 0 0]) ?_ 4 _ rfl; (with_reducible repeat (first | refine blk_drewN ?_ _ | refine blk_drew ?_ | refine blk_alloc ?_ _)); refine blk_put (cs := #[.int .i64 ((rd_T41 l0 x20_2).f0), .int .i64 ((rd_T41 l0 x20_2).f1), .bool ((rd_T41 l0 x20_2).f2), .string (⟨#[]⟩ : ByteArray), .slice none 0 0]) ?_ 3 _ rfl; (with_reducible repeat (first | refine blk_drewN ?_ _ | refine blk_drew ?_ | refine blk_alloc ?_ _)); refine blk_put (cs := #[.int .i64 ((rd_T41 l0 x20_2).f0), .int .i64 ((rd_T41 l0 x20_2).f1), .bool false, .string (⟨#[]⟩ : ByteArray), .slice none 0 0]) ?_ 2 _ rfl; (with_reducible repeat (first | refine blk_drewN ?_ _ | refine blk_drew ?_ | refine blk_alloc ?_ _)); refine blk_put (cs := #[.int .i64 ((rd_T41 l0 x20_2).f0), .int .i64 0, .bool false, .string (⟨#[]⟩ : ByteArray), .slice none 0 0]) ?_ 1 _ rfl; (with_reducible repeat (first | refine blk_drewN ?_ _ | refine blk_drew ?_ | refine blk_alloc ?_ _)); refine blk_put (cs := #[.int .i64 0, .int .i64 0, .bool false, .string (⟨#[]⟩ : ByteArray), .slice none 0 0]) ?_ 0 _ rfl; (with_reducible repeat (first | refine blk_drewN ?_ _ | refine blk_drew ?_ | refine blk_alloc ?_ _)); exact BK145.out) hb); have n2_ := Aside0.mk (below_step (by repeat (first | (with_reducible first | exact HB.out | apply below_alloc | apply pw_below_drewN | apply below_drew1 | refine below_set ?_ GE145.out) | exact HB.out)) hb); clear HO_3; clear BK145; clear HB; have HO_3 := n0_; have BK145 := n1_; have HB := n2_; clear n0_ n1_ n2_; (try clear hb); (try clear hb2); (try clear hk); (try clear hi))))
     (try simp only [Act.put, List.setIfInBounds_toArray, List.set_cons_zero, List.set_cons_succ])
     go_cut [3] (fun v3 wc => ∃ (kq : Nat) (x3_9 : List (S74)), Aside0 (tree_depth.j3 kq l0 x3_9 x4_2 x20_2 l0 (l0.length : Int) x20_2 = some r) ∧ Aside0 (kq ≤ k2) ∧ Aside0 (Kd.R k74 74 wc w.heap.size (fun _ => True) v3 x3_9) ∧ Aside0 (wc.heap[gb145]? = some (.cells #[.int .i64 ((rd_T41 l0 x20_2).f0), .int .i64 ((rd_T41 l0 x20_2).f1), .bool ((rd_T41 l0 x20_2).f2), .string ((rd_T41 l0 x20_2).f3), (.slice A144_4 ((rd_T41 l0 x20_2).f4).length c144_4)] 41 (0, 0))) ∧ Aside0 (Below w.heap.size w wc))
     case first =>
      have H := HC10.out
      clear HC10
      have H' := Aside0.mk H
      clear H
      go_wp2
      repeat (go_quiet (fail); try go_wp2)
      go_loopg [3] k2 (fun kq v3 w' => ∃ (x3_3 : List (S74)), Aside0 (tree_depth.l1 kq l0 x3_3 x4_2 x20_2 l0 (l0.length : Int) x20_2 = some r) ∧ Aside0 (kq ≤ k2) ∧ Aside0 (Kd.R k74 74 w' w.heap.size (fun _ => True) v3 x3_3) ∧ Aside0 (w'.heap[gb145]? = some (.cells #[.int .i64 ((rd_T41 l0 x20_2).f0), .int .i64 ((rd_T41 l0 x20_2).f1), .bool ((rd_T41 l0 x20_2).f2), .string ((rd_T41 l0 x20_2).f3), (.slice A144_4 ((rd_T41 l0 x20_2).f4).length c144_4)] 41 (0, 0))) ∧ Aside0 (Below w.heap.size w w'))
      case atStart => exact ⟨(x3_2), H', ⟨Nat.le_refl _⟩, ⟨roW HO_3.out⟩, ⟨boW BK145.out⟩, ⟨by repeat (first | (with_reducible first | exact HB.out | apply below_alloc | apply pw_below_drewN | apply below_drew1 | refine below_set ?_ GE145.out) | exact HB.out)⟩⟩
      case round =>
       clear H'
       try clear c3
       try clear c3b0
       try clear c3b1
       try clear c3b2
       try clear c4
       try clear c5
       try clear c5b0
       try clear c6
       try clear c6b0
       try clear c7
       try clear c7b0
       try clear c9
       try clear hcz12_0
       try clear hcz12_1
       try clear hcz12_2
       try clear hcz12_3
       try clear hcz12_4
       try clear hfz12_0
       try clear hfz12_1
       try clear hfz12_2
       try clear hfz12_3
       try clear hfz12_4
       try clear hx144_0
       try clear hx144_1
       try clear hx144_2
       try clear hx144_3
       try clear hx144_4
       try clear p144
       try clear q144
       obtain ⟨x3_3, HA, HK3, HO_3, BK145, HB⟩ := hrel
       cases gk with
       | zero => exact absurd HA.out (by simp [tree_depth.l1])
       | succ k3 =>
        have H := HA.out
        clear HA
        simp only [tree_depth.l1] at H
        by_cases c14 : (x3_3.length : Int) > 0
        case neg =>
         rw [if_neg c14] at H
         have c14b0 : decide (0 < (x3_3.length : Int)) = false := decide_eq_false c14
         have c14b1 : decide (0 < x3_3.length) = false := decide_eq_false (by omega)
         clear c14
         (first | rw [c14b0] | (simp only [i64_w, i32_w]; rw [c14b0]) | rw [c14b1] | skip)
         have H' := Aside0.mk H
         clear H
         obtain ⟨Ao25, co25, eo25⟩ := Kd.R_slice HO_3.out
         subst eo25
         go_wp2
         repeat (go_quiet (fail); try go_wp2)
         go_meet
         case rel => exact ⟨_, (x3_3), H', ⟨by have := HJ1.out; have := HK2.out; have := HK3.out; first | omega | exact Nat.le_refl _⟩, ⟨roW HO_3.out⟩, ⟨boW BK145.out⟩, ⟨by repeat (first | (with_reducible first | exact HB.out | apply below_alloc | apply pw_below_drewN | apply below_drew1 | refine below_set ?_ GE145.out) | exact HB.out)⟩⟩
        rw [if_pos c14] at H
        have c14b0 : decide (0 < (x3_3.length : Int)) = true := decide_eq_true c14
        have c14b1 : decide (0 < x3_3.length) = true := decide_eq_true (by omega)
        clear c14
        (first | rw [c14b0] | (simp only [i64_w, i32_w]; rw [c14b0]) | rw [c14b1] | skip)
        obtain ⟨ji15, hji15⟩ : ∃ j_ : Int, (wrap64 ((x3_3.length : Int) - 1)) = j_ := ⟨_, rfl⟩
        replace H : (if 0 ≤ (ji15) then (if (ji15) < (x3_3.length : Int) then (if 0 ≤ ((rd_T74 x3_3 (ji15)).f0) then (if ((rd_T74 x3_3 (ji15)).f0) < (l0.length : Int) then (if ((rd_T74 x3_3 (ji15)).f1) = (((rd_T41 l0 ((rd_T74 x3_3 (ji15)).f0)).f4).length : Int) then (if (ji15) ≤ (x3_3.length : Int) then (tree_depth.l1 k3 l0 (x3_3.take ((ji15) : Int).toNat) x4_2 x20_2 l0 (l0.length : Int) x20_2) else (none)) else (tree_depth.j3 k3 l0 x3_3 x4_2 x20_2 l0 (l0.length : Int) x20_2)) else (none)) else (none)) else (none)) else (none)) = some r := by first | (rw [hji15] at H; exact H) | (simp only [hji15] at H ⊢; exact H)
        have hji15w : (IntKind.i64.wrap ((x3_3.length : Int) - 1)) = ji15 := (i64_w _).trans hji15
        by_cases c16 : 0 ≤ (ji15)
        case neg =>
         rw [if_neg c16] at H
         exact absurd H (by simp)
        rw [if_pos c16] at H
        have c16b0 : decide (0 ≤ (ji15)) = true := decide_eq_true c16
        clear c16
        by_cases c17 : (ji15) < (x3_3.length : Int)
        case neg =>
         rw [if_neg c17] at H
         exact absurd H (by simp)
        rw [if_pos c17] at H
        have c17b0 : decide ((ji15) < (x3_3.length : Int)) = true := decide_eq_true c17
        clear c17
        by_cases c18 : 0 ≤ ((rd_T74 x3_3 (ji15)).f0)
        case neg =>
         rw [if_neg c18] at H
         exact absurd H (by simp)
        rw [if_pos c18] at H
        have c18b0 : decide (0 ≤ ((rd_T74 x3_3 (ji15)).f0)) = true := decide_eq_true c18
        clear c18
        by_cases c19 : ((rd_T74 x3_3 (ji15)).f0) < (l0.length : Int)
        case neg =>
         rw [if_neg c19] at H
         exact absurd H (by simp)
        rw [if_pos c19] at H
        have c19b0 : decide (((rd_T74 x3_3 (ji15)).f0) < (l0.length : Int)) = true := decide_eq_true c19
        clear c19
        by_cases c20 : ((rd_T74 x3_3 (ji15)).f1) = (((rd_T41 l0 ((rd_T74 x3_3 (ji15)).f0)).f4).length : Int)
        case neg =>
         rw [if_neg c20] at H
         have c20b0 : (((rd_T74 x3_3 (ji15)).f1) == (((rd_T41 l0 ((rd_T74 x3_3 (ji15)).f0)).f4).length : Int)) = false := beq_eq_false_iff_ne.mpr c20
         have c20b1 : (((rd_T74 x3_3 (ji15)).f1) != (((rd_T41 l0 ((rd_T74 x3_3 (ji15)).f0)).f4).length : Int)) = true := bne_iff_ne.mpr c20
         have H' := Aside0.mk H
         clear H
         obtain ⟨Ao24, co24, eo24⟩ := Kd.R_slice HO_3.out
         subst eo24
         have p147 : 0 ≤ ((ji15) : Int) := odt
         have q147 : (ji15) < (x3_3.length : Int) := odt
         obtain ⟨ad147, e147, hx147_0, hx147_1⟩ := at_T74 (Kd.R_reads' HO_3.out).2.2 (ji15) p147 q147
         cases e147
         replace p147 := eq_true p147
         replace q147 := eq_true q147
         have p148 : 0 ≤ ((ji15) : Int) := odt
         have q148 : (ji15) < (x3_3.length : Int) := odt
         obtain ⟨ad148, e148, hx148_0, hx148_1⟩ := at_T74 (Kd.R_reads' HO_3.out).2.2 (ji15) p148 q148
         obtain rfl : ad147 = ad148 := (by injection e148)
         replace p148 := eq_true p148
         replace q148 := eq_true q148
         have p149 : 0 ≤ (((rd_T74 x3_3 (ji15)).f0) : Int) := odt
         have q149 : ((rd_T74 x3_3 (ji15)).f0) < (l0.length : Int) := odt
         obtain ⟨ad149, A149_4, c149_4, e149, hx149_0, hx149_1, hx149_2, hx149_3, hx149_4, hl149_4, hi149_4⟩ := at_T41 HR0.out ((rd_T74 x3_3 (ji15)).f0) p149 q149
         obtain rfl : ad144 = ad149 := (by injection e149)
         replace hx149_0 := cellB hx149_0
         replace hx149_1 := cellB hx149_1
         replace hx149_2 := cellB hx149_2
         replace hx149_3 := cellB hx149_3
         replace hx149_4 := cellB hx149_4
         have HR149_4 := Aside0.mk hi149_4
         have HC149_4 := Aside0.mk hl149_4
         clear hi149_4 hl149_4
         replace p149 := eq_true p149
         replace q149 := eq_true q149
         go_wp2
         repeat (go_quiet (fail); try go_wp2)
         go_meet
         case rel => exact ⟨_, (x3_3), H', ⟨by have := HJ1.out; have := HK2.out; have := HK3.out; first | omega | exact Nat.le_refl _⟩, ⟨roW HO_3.out⟩, ⟨boW BK145.out⟩, ⟨by repeat (first | (with_reducible first | exact HB.out | apply below_alloc | apply pw_below_drewN | apply below_drew1 | refine below_set ?_ GE145.out) | exact HB.out)⟩⟩
        rw [if_pos c20] at H
        have c20b0 : (((rd_T74 x3_3 (ji15)).f1) == (((rd_T41 l0 ((rd_T74 x3_3 (ji15)).f0)).f4).length : Int)) = true := beq_iff_eq.mpr c20
        have c20b1 : (((rd_T74 x3_3 (ji15)).f1) != (((rd_T41 l0 ((rd_T74 x3_3 (ji15)).f0)).f4).length : Int)) = false := bne_eq_false_iff_eq.mpr c20
        clear c20
        by_cases c21 : (ji15) ≤ (x3_3.length : Int)
        case neg =>
         rw [if_neg c21] at H
         exact absurd H (by simp)
        rw [if_pos c21] at H
        have c21b0 := eq_true c21
        have c21b1 : decide ((ji15) ≤ (x3_3.length : Int)) = true := decide_eq_true c21
        clear c21
        obtain ⟨y150, hy150⟩ : ∃ y_ : List (S74), y_ = (x3_3.take ((ji15) : Int).toNat) := ⟨_, rfl⟩
        replace H : (tree_depth.l1 k3 l0 y150 x4_2 x20_2 l0 (l0.length : Int) x20_2) = some r := by first | (rw [hy150]; with_reducible exact H) | (have H2_ := (Option.bind_some _ _).symm.trans H; rw [hy150]; with_reducible exact H2_) | (have H2_ := (Option.bind_some _ _).symm.trans H; with_reducible exact H2_) | with_reducible exact H | (rw [hy150]; exact H) | exact H
        have Ny150 := Aside0.mk hy150
        clear hy150
        have H' := Aside0.mk H
        clear H
        obtain ⟨Ao22, co22, eo22⟩ := Kd.R_slice HO_3.out
        subst eo22
        have p147 : 0 ≤ ((ji15) : Int) := odt
        have q147 : (ji15) < (x3_3.length : Int) := odt
        obtain ⟨ad147, e147, hx147_0, hx147_1⟩ := at_T74 (Kd.R_reads' HO_3.out).2.2 (ji15) p147 q147
        cases e147
        replace p147 := eq_true p147
        replace q147 := eq_true q147
        have p148 : 0 ≤ ((ji15) : Int) := odt
        have q148 : (ji15) < (x3_3.length : Int) := odt
        obtain ⟨ad148, e148, hx148_0, hx148_1⟩ := at_T74 (Kd.R_reads' HO_3.out).2.2 (ji15) p148 q148
        obtain rfl : ad147 = ad148 := (by injection e148)
        replace p148 := eq_true p148
        replace q148 := eq_true q148
        have p149 : 0 ≤ (((rd_T74 x3_3 (ji15)).f0) : Int) := odt
        have q149 : ((rd_T74 x3_3 (ji15)).f0) < (l0.length : Int) := odt
        obtain ⟨ad149, A149_4, c149_4, e149, hx149_0, hx149_1, hx149_2, hx149_3, hx149_4, hl149_4, hi149_4⟩ := at_T41 HR0.out ((rd_T74 x3_3 (ji15)).f0) p149 q149
        obtain rfl : ad144 = ad149 := (by injection e149)
        replace hx149_0 := cellB hx149_0
        replace hx149_1 := cellB hx149_1
        replace hx149_2 := cellB hx149_2
        replace hx149_3 := cellB hx149_3
        replace hx149_4 := cellB hx149_4
        have HR149_4 := Aside0.mk hi149_4
        have HC149_4 := Aside0.mk hl149_4
        clear hi149_4 hl149_4
        replace p149 := eq_true p149
        replace q149 := eq_true q149
        have q23 : ((ji15) : Int) ≤ ((x3_3.length : Int) : Int) := odt
        obtain ⟨i023, hi023, _, hsz23, _⟩ := info_parts info74
        have hcut23 := cut_to (P := Tryd.prog) 71 74 .i64 Tryd.underlying71 hi023 (some ad147) x3_3.length co22 (ji15) odt q23 (Kd.R_reads' HO_3.out).2.1
        have hr23 := Kd.R_take (m := ((ji15) : Int).toNat) HO_3.out (by omega)
        have hy23 : y150.length = ((ji15) : Int).toNat := (by rw [Ny150.out, List.length_take]; omega)
        rw [← Ny150.out] at hr23
        rw [← hy23] at hr23 hcut23
        clear hy23 hi023 hsz23 HO_3
        have HO152 := Aside0.mk hr23
        clear hr23
        replace q23 := eq_true q23
        go_wp2
        repeat (go_quiet (fail); try go_wp2)
        go_roundg k3
        case measure => have := HJ1.out; have := HK2.out; have := HK3.out; omega
        case rel => exact ⟨(y150), H', ⟨by have := HJ1.out; have := HK2.out; have := HK3.out; omega⟩, ⟨roW HO152.out⟩, ⟨boW BK145.out⟩, ⟨by repeat (first | (with_reducible first | exact HB.out | apply below_alloc | apply pw_below_drewN | apply below_drew1 | refine below_set ?_ GE145.out) | exact HB.out)⟩⟩
     case rest =>
      clear HC10
      try clear c3
      try clear c3b0
      try clear c3b1
      try clear c3b2
      try clear c4
      try clear c5
      try clear c5b0
      try clear c6
      try clear c6b0
      try clear c7
      try clear c7b0
      try clear c9
      try clear c14
      try clear c14b0
      try clear c14b1
      try clear c16
      try clear c16b0
      try clear c17
      try clear c17b0
      try clear c18
      try clear c18b0
      try clear c19
      try clear c19b0
      try clear c20
      try clear c20b0
      try clear c20b1
      try clear c21
      try clear c21b0
      try clear c21b1
      try clear q23
      try clear hcz12_0
      try clear hcz12_1
      try clear hcz12_2
      try clear hcz12_3
      try clear hcz12_4
      try clear hfz12_0
      try clear hfz12_1
      try clear hfz12_2
      try clear hfz12_3
      try clear hfz12_4
      try clear hx144_0
      try clear hx144_1
      try clear hx144_2
      try clear hx144_3
      try clear hx144_4
      try clear hx147_0
      try clear hx147_1
      try clear hx148_0
      try clear hx148_1
      try clear hx149_0
      try clear hx149_1
      try clear hx149_2
      try clear hx149_3
      try clear hx149_4
      try clear p144
      try clear p147
      try clear p148
      try clear p149
      try clear q144
      try clear q147
      try clear q148
      try clear q149
      try clear q23
      obtain ⟨kq, x3_9, HA, HJ9, HO_3, BK145, HB⟩ := hcut
      cases kq with
      | zero => exact absurd HA.out (by simp [tree_depth.j3])
      | succ kj9 =>
       have H := HA.out
       clear HA
       simp only [tree_depth.j3] at H
       by_cases c26 : x20_2 > 0
       case neg =>
        rw [if_neg c26] at H
        have c26b0 : decide (0 < x20_2) = false := decide_eq_false c26
        clear c26
        by_cases c46 : x3_9.length < 8796093022208
        case neg =>
         rw [if_neg c46] at H
         exact absurd H (by simp)
        rw [if_pos c46] at H
        have LMc46 := Aside0.mk c46
        clear c46
        obtain ⟨y159, hy159⟩ : ∃ y_ : List (S74), y_ = (x3_9 ++ [(⟨x20_2, 0⟩ : S74)]) := ⟨_, rfl⟩
        replace H : (tree_depth.l0 kj9 l0 y159 (mx x4_2 (y159.length : Int)) l0 (l0.length : Int) (wrap64 (x20_2 + 1))) = some r := by first | (rw [hy159]; with_reducible exact H) | (have H2_ := (Option.bind_some _ _).symm.trans H; rw [hy159]; with_reducible exact H2_) | (have H2_ := (Option.bind_some _ _).symm.trans H; with_reducible exact H2_) | with_reducible exact H | (rw [hy159]; exact H) | exact H
        have Ny159 := Aside0.mk hy159
        clear hy159
        obtain ⟨ji47, hji47⟩ : ∃ j_ : Int, (mx x4_2 (y159.length : Int)) = j_ := ⟨_, rfl⟩
        replace H : (tree_depth.l0 kj9 l0 y159 ji47 l0 (l0.length : Int) (wrap64 (x20_2 + 1))) = some r := by first | (rw [hji47] at H; exact H) | (simp only [hji47] at H ⊢; exact H)
        have hji47_ : (if x4_2 < (y159.length : Int) then (y159.length : Int) else x4_2) = ji47 := hji47
        have H' := Aside0.mk H
        clear H
        go_wp2_with (first | ((with_reducible refine gate_builtin (b := .append) (xs := #[.tmp 91, .tmp 94]) rfl ?_); (try (refine gate_guard (by rfl) ?_; dsimp only)); at_builtin; refine Kd.R_append k74 (w0 := w) w.heap.size rfl (.tmp 91) (.tmp 94) 71 74 (.agg #[(.int .i64 0), (.int .i64 0)]) 16 rfl Tryd.underlying71 info74 rfl (by decide) (by omega) u3 x3_9 (⟨x20_2, 0⟩ : S74) [.int .i64 x20_2, .int .i64 0] (fun _ => True) (fun _ => False) rfl rfl ?aP (fun _ hk => hk.elim) ?aF ?aO ?aB ?aS ?aL ?_; (case aP => exact k74_mkM _ _ _ (⟨x20_2, 0⟩ : S74)); (case aB => exact (by repeat (first | (with_reducible first | exact HB.out | apply below_alloc | apply pw_below_drewN | apply below_drew1 | refine below_set ?_ GE145.out) | exact HB.out))); (case aF => exact (fun _ _ => trivial)); (case aO => exact (roW HO_3.out)); (case aS => exact (below_size (by repeat (first | (with_reducible first | exact HB.out | apply below_alloc | apply pw_below_drewN | apply below_drew1 | refine below_set ?_ GE145.out) | exact HB.out)))); (case aL => have := LMc46.out; omega); intro v160 w48 ho hb hg hat; rw [← Ny159.out] at ho; have n0_ := Aside0.mk (blk_grown (g := gb145) (o := .cells #[.int .i64 ((rd_T41 l0 x20_2).f0), .int .i64 ((rd_T41 l0 x20_2).f1), .bool ((rd_T41 l0 x20_2).f2), .string ((rd_T41 l0 x20_2).f3), .slice A144_4 ((rd_T41 l0 x20_2).f4).length c144_4] 41 (0, 0)) (boW BK145.out) hg (Kd.R_ne HO_3.out BK145.out (by decide))); have n1_ := Aside0.mk (hb); have n2_ := Aside0.mk (ho); clear BK145; clear HB; clear HO_3; have BK145 := n0_; have HB := n1_; have HO161 := n2_; clear n0_ n1_ n2_; clear ho hb hg hat; obtain ⟨Ao49, co49, eo49⟩ := Kd.R_slice HO161.out; subst eo49))
        repeat (go_quiet (first | ((with_reducible refine gate_builtin (b := .append) (xs := #[.tmp 91, .tmp 94]) rfl ?_); (try (refine gate_guard (by rfl) ?_; dsimp only)); at_builtin; refine Kd.R_append k74 (w0 := w) w.heap.size rfl (.tmp 91) (.tmp 94) 71 74 (.agg #[(.int .i64 0), (.int .i64 0)]) 16 rfl Tryd.underlying71 info74 rfl (by decide) (by omega) u3 x3_9 (⟨x20_2, 0⟩ : S74) [.int .i64 x20_2, .int .i64 0] (fun _ => True) (fun _ => False) rfl rfl ?aP (fun _ hk => hk.elim) ?aF ?aO ?aB ?aS ?aL ?_; (case aP => exact k74_mkM _ _ _ (⟨x20_2, 0⟩ : S74)); (case aB => exact (by repeat (first | (with_reducible first | exact HB.out | apply below_alloc | apply pw_below_drewN | apply below_drew1 | refine below_set ?_ GE145.out) | exact HB.out))); (case aF => exact (fun _ _ => trivial)); (case aO => exact (roW HO_3.out)); (case aS => exact (below_size (by repeat (first | (with_reducible first | exact HB.out | apply below_alloc | apply pw_below_drewN | apply below_drew1 | refine below_set ?_ GE145.out) | exact HB.out)))); (case aL => have := LMc46.out; omega); intro v160 w48 ho hb hg hat; rw [← Ny159.out] at ho; have n0_ := Aside0.mk (blk_grown (g := gb145) (o := .cells #[.int .i64 ((rd_T41 l0 x20_2).f0), .int .i64 ((rd_T41 l0 x20_2).f1), .bool ((rd_T41 l0 x20_2).f2), .string ((rd_T41 l0 x20_2).f3), .slice A144_4 ((rd_T41 l0 x20_2).f4).length c144_4] 41 (0, 0)) (boW BK145.out) hg (Kd.R_ne HO_3.out BK145.out (by decide))); have n1_ := Aside0.mk (hb); have n2_ := Aside0.mk (ho); clear BK145; clear HB; clear HO_3; have BK145 := n0_; have HB := n1_; have HO161 := n2_; clear n0_ n1_ n2_; clear ho hb hg hat; obtain ⟨Ao49, co49, eo49⟩ := Kd.R_slice HO161.out; subst eo49)); try go_wp2_with (first | ((with_reducible refine gate_builtin (b := .append) (xs := #[.tmp 91, .tmp 94]) rfl ?_); (try (refine gate_guard (by rfl) ?_; dsimp only)); at_builtin; refine Kd.R_append k74 (w0 := w) w.heap.size rfl (.tmp 91) (.tmp 94) 71 74 (.agg #[(.int .i64 0), (.int .i64 0)]) 16 rfl Tryd.underlying71 info74 rfl (by decide) (by omega) u3 x3_9 (⟨x20_2, 0⟩ : S74) [.int .i64 x20_2, .int .i64 0] (fun _ => True) (fun _ => False) rfl rfl ?aP (fun _ hk => hk.elim) ?aF ?aO ?aB ?aS ?aL ?_; (case aP => exact k74_mkM _ _ _ (⟨x20_2, 0⟩ : S74)); (case aB => exact (by repeat (first | (with_reducible first | exact HB.out | apply below_alloc | apply pw_below_drewN | apply below_drew1 | refine below_set ?_ GE145.out) | exact HB.out))); (case aF => exact (fun _ _ => trivial)); (case aO => exact (roW HO_3.out)); (case aS => exact (below_size (by repeat (first | (with_reducible first | exact HB.out | apply below_alloc | apply pw_below_drewN | apply below_drew1 | refine below_set ?_ GE145.out) | exact HB.out)))); (case aL => have := LMc46.out; omega); intro v160 w48 ho hb hg hat; rw [← Ny159.out] at ho; have n0_ := Aside0.mk (blk_grown (g := gb145) (o := .cells #[.int .i64 ((rd_T41 l0 x20_2).f0), .int .i64 ((rd_T41 l0 x20_2).f1), .bool ((rd_T41 l0 x20_2).f2), .string ((rd_T41 l0 x20_2).f3), .slice A144_4 ((rd_T41 l0 x20_2).f4).length c144_4] 41 (0, 0)) (boW BK145.out) hg (Kd.R_ne HO_3.out BK145.out (by decide))); have n1_ := Aside0.mk (hb); have n2_ := Aside0.mk (ho); clear BK145; clear HB; clear HO_3; have BK145 := n0_; have HB := n1_; have HO161 := n2_; clear n0_ n1_ n2_; clear ho hb hg hat; obtain ⟨Ao49, co49, eo49⟩ := Kd.R_slice HO161.out; subst eo49)))
        go_roundg kj9
        case measure => have := HJ1.out; have := HK2.out; have := HJ9.out; omega
        case rel => exact ⟨(y159), (ji47), (wrap64 (x20_2 + 1)), (by first | rfl | (simp; done) | (simp only [← hji47] <;> (first | rfl | simp)) | (simp [*]; done)), rsd, H', ⟨by have := HJ1.out; have := HK2.out; have := HJ9.out; omega⟩, ⟨roW HO161.out⟩, ⟨by repeat (first | (with_reducible first | exact HB.out | apply below_alloc | apply pw_below_drewN | apply below_drew1 | refine below_set ?_ GE145.out) | exact HB.out)⟩⟩
       rw [if_pos c26] at H
       have c26b0 : decide (0 < x20_2) = true := decide_eq_true c26
       clear c26
       by_cases c27 : (x3_9.length : Int) = 0
       case pos =>
        rw [if_pos c27] at H
        have c27b0 : ((x3_9.length : Int) == 0) = true := beq_iff_eq.mpr c27
        have c27b1 : ((x3_9.length : Int) != 0) = false := bne_eq_false_iff_eq.mpr c27
        clear c27
        obtain rfl := Option.some.inj H
        obtain ⟨Ao28, co28, eo28⟩ := Kd.R_slice HO_3.out
        subst eo28
        go_wp2
        repeat (go_quiet (fail); try go_wp2)
        go_ret
        exact ⟨rse, by repeat (first | (with_reducible first | exact HB.out | apply below_alloc | apply pw_below_drewN | apply below_drew1 | refine below_set ?_ GE145.out) | exact HB.out)⟩
       rw [if_neg c27] at H
       have c27b0 : ((x3_9.length : Int) == 0) = false := beq_eq_false_iff_ne.mpr c27
       have c27b1 : ((x3_9.length : Int) != 0) = true := bne_iff_ne.mpr c27
       have c27b2 : ¬ (x3_9 = []) := fun h_ => c27 (by rw [h_]; rfl)
       obtain ⟨ji29, hji29⟩ : ∃ j_ : Int, (wrap64 ((x3_9.length : Int) - 1)) = j_ := ⟨_, rfl⟩
       replace H : (if 0 ≤ (ji29) then (if (ji29) < (x3_9.length : Int) then (if 0 ≤ ((rd_T74 x3_9 (ji29)).f0) then (if ((rd_T74 x3_9 (ji29)).f0) < (l0.length : Int) then (if 0 ≤ ((rd_T74 x3_9 (ji29)).f1) then (if ((rd_T74 x3_9 (ji29)).f1) < (((rd_T41 l0 ((rd_T74 x3_9 (ji29)).f0)).f4).length : Int) then (if (rd ((rd_T41 l0 ((rd_T74 x3_9 (ji29)).f0)).f4) ((rd_T74 x3_9 (ji29)).f1)) = x20_2 then ((some (x3_9.set ((ji29) : Int).toNat (⟨(rd_T74 x3_9 (ji29)).f0, wrap64 (((rd_T74 x3_9 (ji29)).f1) + 1)⟩ : S74) : List (S74))).bind fun y155 => (if y155.length < 8796093022208 then ((some (y155 ++ [(⟨x20_2, 0⟩ : S74)] : List (S74))).bind fun y156 => (tree_depth.l0 kj9 l0 y156 (mx x4_2 (y156.length : Int)) l0 (l0.length : Int) (wrap64 (x20_2 + 1)))) else (none))) else (some 0)) else (none)) else (none)) else (none)) else (none)) else (none)) else (none)) = some r := by first | (rw [hji29] at H; exact H) | (simp only [hji29] at H ⊢; exact H)
       have hji29w : (IntKind.i64.wrap ((x3_9.length : Int) - 1)) = ji29 := (i64_w _).trans hji29
       by_cases c30 : 0 ≤ (ji29)
       case neg =>
        rw [if_neg c30] at H
        exact absurd H (by simp)
       rw [if_pos c30] at H
       have c30b0 : decide (0 ≤ (ji29)) = true := decide_eq_true c30
       clear c30
       by_cases c31 : (ji29) < (x3_9.length : Int)
       case neg =>
        rw [if_neg c31] at H
        exact absurd H (by simp)
       rw [if_pos c31] at H
       have c31b0 : decide ((ji29) < (x3_9.length : Int)) = true := decide_eq_true c31
       clear c31
       by_cases c33 : 0 ≤ ((rd_T74 x3_9 (ji29)).f0)
       case neg =>
        rw [if_neg c33] at H
        exact absurd H (by simp)
       rw [if_pos c33] at H
       have c33b0 : decide (0 ≤ ((rd_T74 x3_9 (ji29)).f0)) = true := decide_eq_true c33
       clear c33
       by_cases c34 : ((rd_T74 x3_9 (ji29)).f0) < (l0.length : Int)
       case neg =>
        rw [if_neg c34] at H
        exact absurd H (by simp)
       rw [if_pos c34] at H
       have c34b0 : decide (((rd_T74 x3_9 (ji29)).f0) < (l0.length : Int)) = true := decide_eq_true c34
       clear c34
       by_cases c35 : 0 ≤ ((rd_T74 x3_9 (ji29)).f1)
       case neg =>
        rw [if_neg c35] at H
        exact absurd H (by simp)
       rw [if_pos c35] at H
       have c35b0 : decide (0 ≤ ((rd_T74 x3_9 (ji29)).f1)) = true := decide_eq_true c35
       clear c35
       by_cases c36 : ((rd_T74 x3_9 (ji29)).f1) < (((rd_T41 l0 ((rd_T74 x3_9 (ji29)).f0)).f4).length : Int)
       case neg =>
        rw [if_neg c36] at H
        exact absurd H (by simp)
       rw [if_pos c36] at H
       have c36b0 : decide (((rd_T74 x3_9 (ji29)).f1) < (((rd_T41 l0 ((rd_T74 x3_9 (ji29)).f0)).f4).length : Int)) = true := decide_eq_true c36
       clear c36
       by_cases c37 : (rd ((rd_T41 l0 ((rd_T74 x3_9 (ji29)).f0)).f4) ((rd_T74 x3_9 (ji29)).f1)) = x20_2
       case neg =>
        rw [if_neg c37] at H
        have c37b0 : ((rd ((rd_T41 l0 ((rd_T74 x3_9 (ji29)).f0)).f4) ((rd_T74 x3_9 (ji29)).f1)) == x20_2) = false := beq_eq_false_iff_ne.mpr c37
        have c37b1 : ((rd ((rd_T41 l0 ((rd_T74 x3_9 (ji29)).f0)).f4) ((rd_T74 x3_9 (ji29)).f1)) != x20_2) = true := bne_iff_ne.mpr c37
        obtain rfl := Option.some.inj H
        obtain ⟨Ao45, co45, eo45⟩ := Kd.R_slice HO_3.out
        subst eo45
        have p32 : 0 ≤ ((ji29) : Int) := odt
        have q32 : ((ji29) : Int) < ((x3_9.length : Int) : Int) := odt
        obtain ⟨go32, co32, eo32, gb32, gl32, cl32, HG32⟩ := Kd.R_form HO_3.out (by omega)
        (first | cases eo32 | (injection eo32 with ea_ en_ ec_; (first | subst ea_ | (injection ea_ with ea_; subst ea_)); subst ec_; clear en_))
        have GB32 := Aside0.mk gb32
        have GG32 := Aside0.mk HG32
        clear gb32 gl32 HG32
        obtain ⟨ce32, hcl32, hM32, hcc32, hfr32⟩ := Kd.R_elem HO_3.out z74 ((ji29) : Int) p32 q32
        obtain rfl := k74_openM hM32
        have hx32_0 : wc.cell? ⟨go32, ((ji29) : Int).toNat * 2, none⟩ = some (.int .i64 ((rd_T74 x3_9 (ji29)).f0)) := hcc32 0 _ rfl
        have hx32_1 : wc.cell? ⟨go32, ((ji29) : Int).toNat * 2 + 1, none⟩ = some (.int .i64 ((rd_T74 x3_9 (ji29)).f1)) := hcc32 1 _ rfl
        have hf32_0 : wc.frozen? ⟨go32, ((ji29) : Int).toNat * 2, none⟩ = false := hfr32 0
        have hf32_1 : wc.frozen? ⟨go32, ((ji29) : Int).toNat * 2 + 1, none⟩ = false := hfr32 1
        clear hcl32 hcc32 hfr32 hM32
        replace p32 := eq_true p32
        replace q32 := eq_true q32
        have p153 : 0 ≤ (((rd_T74 x3_9 (ji29)).f0) : Int) := odt
        have q153 : ((rd_T74 x3_9 (ji29)).f0) < (l0.length : Int) := odt
        obtain ⟨ad153, A153_4, c153_4, e153, hx153_0, hx153_1, hx153_2, hx153_3, hx153_4, hl153_4, hi153_4⟩ := at_T41 HR0.out ((rd_T74 x3_9 (ji29)).f0) p153 q153
        obtain rfl : ad144 = ad153 := (by injection e153)
        replace hx153_0 := cellB hx153_0
        replace hx153_1 := cellB hx153_1
        replace hx153_2 := cellB hx153_2
        replace hx153_3 := cellB hx153_3
        replace hx153_4 := cellB hx153_4
        have HR153_4 := Aside0.mk hi153_4
        have HC153_4 := Aside0.mk hl153_4
        clear hi153_4 hl153_4
        replace p153 := eq_true p153
        replace q153 := eq_true q153
        have p154 : 0 ≤ (((rd_T74 x3_9 (ji29)).f1) : Int) := odt
        have q154 : ((rd_T74 x3_9 (ji29)).f1) < (((rd_T41 l0 ((rd_T74 x3_9 (ji29)).f0)).f4).length : Int) := odt
        obtain ⟨ad154, e154, hx154_0⟩ := Kd.at_int HR153_4.out ((rd_T74 x3_9 (ji29)).f1) p154 q154
        cases e154
        replace hx154_0 := cellB hx154_0
        replace p154 := eq_true p154
        replace q154 := eq_true q154
        go_wp2
        repeat (go_quiet (fail); try go_wp2)
        go_ret
        exact ⟨by first | rfl | (simp [errW_none, errW_some] <;> rfl) | (simp only [← hji29]; first | rfl | (simp [errW_none, errW_some] <;> rfl)) | (simp [*, errW_none, errW_some] <;> rfl), by repeat (first | (with_reducible first | exact HB.out | apply below_alloc | apply pw_below_drewN | apply below_drew1 | refine below_set ?_ GE145.out) | exact HB.out)⟩
       rw [if_pos c37] at H
       have c37b0 : ((rd ((rd_T41 l0 ((rd_T74 x3_9 (ji29)).f0)).f4) ((rd_T74 x3_9 (ji29)).f1)) == x20_2) = true := beq_iff_eq.mpr c37
       have c37b1 : ((rd ((rd_T41 l0 ((rd_T74 x3_9 (ji29)).f0)).f4) ((rd_T74 x3_9 (ji29)).f1)) != x20_2) = false := bne_eq_false_iff_eq.mpr c37
       clear c37
       obtain ⟨y155, hy155⟩ : ∃ y_ : List (S74), y_ = (x3_9.set ((ji29) : Int).toNat (⟨(rd_T74 x3_9 (ji29)).f0, wrap64 (((rd_T74 x3_9 (ji29)).f1) + 1)⟩ : S74)) := ⟨_, rfl⟩
       replace H : (if y155.length < 8796093022208 then ((some (y155 ++ [(⟨x20_2, 0⟩ : S74)] : List (S74))).bind fun y156 => (tree_depth.l0 kj9 l0 y156 (mx x4_2 (y156.length : Int)) l0 (l0.length : Int) (wrap64 (x20_2 + 1)))) else (none)) = some r := by first | (rw [hy155]; with_reducible exact H) | (have H2_ := (Option.bind_some _ _).symm.trans H; rw [hy155]; with_reducible exact H2_) | (have H2_ := (Option.bind_some _ _).symm.trans H; with_reducible exact H2_) | with_reducible exact H | (rw [hy155]; exact H) | exact H
       have Ny155 := Aside0.mk hy155
       clear hy155
       by_cases c38 : y155.length < 8796093022208
       case neg =>
        rw [if_neg c38] at H
        exact absurd H (by simp)
       rw [if_pos c38] at H
       have LMc38 := Aside0.mk c38
       clear c38
       obtain ⟨y156, hy156⟩ : ∃ y_ : List (S74), y_ = (y155 ++ [(⟨x20_2, 0⟩ : S74)]) := ⟨_, rfl⟩
       replace H : (tree_depth.l0 kj9 l0 y156 (mx x4_2 (y156.length : Int)) l0 (l0.length : Int) (wrap64 (x20_2 + 1))) = some r := by first | (rw [hy156]; with_reducible exact H) | (have H2_ := (Option.bind_some _ _).symm.trans H; rw [hy156]; with_reducible exact H2_) | (have H2_ := (Option.bind_some _ _).symm.trans H; with_reducible exact H2_) | with_reducible exact H | (rw [hy156]; exact H) | exact H
       have Ny156 := Aside0.mk hy156
       clear hy156
       obtain ⟨ji39, hji39⟩ : ∃ j_ : Int, (mx x4_2 (y156.length : Int)) = j_ := ⟨_, rfl⟩
       replace H : (tree_depth.l0 kj9 l0 y156 ji39 l0 (l0.length : Int) (wrap64 (x20_2 + 1))) = some r := by first | (rw [hji39] at H; exact H) | (simp only [hji39] at H ⊢; exact H)
       have hji39_ : (if x4_2 < (y156.length : Int) then (y156.length : Int) else x4_2) = ji39 := hji39
       have H' := Aside0.mk H
       clear H
       obtain ⟨Ao40, co40, eo40⟩ := Kd.R_slice HO_3.out
       subst eo40
       have p32 : 0 ≤ ((ji29) : Int) := odt
       have q32 : ((ji29) : Int) < ((x3_9.length : Int) : Int) := odt
       obtain ⟨go32, co32, eo32, gb32, gl32, cl32, HG32⟩ := Kd.R_form HO_3.out (by omega)
       (first | cases eo32 | (injection eo32 with ea_ en_ ec_; (first | subst ea_ | (injection ea_ with ea_; subst ea_)); subst ec_; clear en_))
       have GB32 := Aside0.mk gb32
       have GG32 := Aside0.mk HG32
       clear gb32 gl32 HG32
       obtain ⟨ce32, hcl32, hM32, hcc32, hfr32⟩ := Kd.R_elem HO_3.out z74 ((ji29) : Int) p32 q32
       obtain rfl := k74_openM hM32
       have hx32_0 : wc.cell? ⟨go32, ((ji29) : Int).toNat * 2, none⟩ = some (.int .i64 ((rd_T74 x3_9 (ji29)).f0)) := hcc32 0 _ rfl
       have hx32_1 : wc.cell? ⟨go32, ((ji29) : Int).toNat * 2 + 1, none⟩ = some (.int .i64 ((rd_T74 x3_9 (ji29)).f1)) := hcc32 1 _ rfl
       have hf32_0 : wc.frozen? ⟨go32, ((ji29) : Int).toNat * 2, none⟩ = false := hfr32 0
       have hf32_1 : wc.frozen? ⟨go32, ((ji29) : Int).toNat * 2 + 1, none⟩ = false := hfr32 1
       clear hcl32 hcc32 hfr32 hM32
       replace p32 := eq_true p32
       replace q32 := eq_true q32
       have p153 : 0 ≤ (((rd_T74 x3_9 (ji29)).f0) : Int) := odt
       have q153 : ((rd_T74 x3_9 (ji29)).f0) < (l0.length : Int) := odt
       obtain ⟨ad153, A153_4, c153_4, e153, hx153_0, hx153_1, hx153_2, hx153_3, hx153_4, hl153_4, hi153_4⟩ := at_T41 HR0.out ((rd_T74 x3_9 (ji29)).f0) p153 q153
       obtain rfl : ad144 = ad153 := (by injection e153)
       replace hx153_0 := cellB hx153_0
       replace hx153_1 := cellB hx153_1
       replace hx153_2 := cellB hx153_2
       replace hx153_3 := cellB hx153_3
       replace hx153_4 := cellB hx153_4
       have HR153_4 := Aside0.mk hi153_4
       have HC153_4 := Aside0.mk hl153_4
       clear hi153_4 hl153_4
       replace p153 := eq_true p153
       replace q153 := eq_true q153
       have p154 : 0 ≤ (((rd_T74 x3_9 (ji29)).f1) : Int) := odt
       have q154 : ((rd_T74 x3_9 (ji29)).f1) < (((rd_T41 l0 ((rd_T74 x3_9 (ji29)).f0)).f4).length : Int) := odt
       obtain ⟨ad154, e154, hx154_0⟩ := Kd.at_int HR153_4.out ((rd_T74 x3_9 (ji29)).f1) p154 q154
       cases e154
       replace hx154_0 := cellB hx154_0
       replace p154 := eq_true p154
       replace q154 := eq_true q154
       have HX41 := Aside0.mk (show Kd.R k74 74 wc w.heap.size (fun _ => True) (.slice (some ⟨go32, 0, none⟩) x3_9.length co40) x3_9 from (roW HO_3.out))
       obtain ⟨ce41, hcl41, hM41, hcc41, hfr41⟩ := Kd.R_elem HX41.out z74 ((ji29) : Int) odt (by have h_ : ((ji29) : Int) < ((x3_9.length : Int) : Int) := odt; first | exact h_ | (have e_ := (Kd.R_reads' HO_3.out).1; omega) | simpa using h_)
       obtain rfl := k74_openM hM41
       have HP41 := Kd.R_seg HX41.out ((ji29) : Int) odt (by have h_ : ((ji29) : Int) < ((x3_9.length : Int) : Int) := odt; first | exact h_ | (have e_ := (Kd.R_reads' HO_3.out).1; omega) | simpa using h_) (seg := [.int .i64 (wrap64 (((rd_T74 x3_9 (ji29)).f1) + 1))]) (j := 1) hcl41 hcc41 (show 2 ≤ 2 from by decide) (x' := (⟨(rd_T74 x3_9 (ji29)).f0, wrap64 (((rd_T74 x3_9 (ji29)).f1) + 1)⟩ : S74)) (k74_mkM _ _ _ (⟨(rd_T74 x3_9 (ji29)).f0, wrap64 (((rd_T74 x3_9 (ji29)).f1) + 1)⟩ : S74) ) (fun _ hk => hk)
       have hx41_1 := hcc41 1 _ rfl
       (try simp only [show (k74).sz = 2 from rfl, Nat.mul_one, Nat.add_zero] at hx41_1)
       have hf41_1 := hfr41 1
       (try simp only [show (k74).sz = 2 from rfl, Nat.mul_one, Nat.add_zero] at hf41_1)
       clear hcl41 hcc41 hfr41 hM41
       go_wp2_with (first | ((with_reducible refine gate_store (t := 3) (p := 90) rfl ?_); (try (rw [drewN_self wc]; generalize hq_ : World.drewN wc _ = wc; have n0_ := Aside0.mk (Kd.R_at hq_ HO_3.out); have n1_ := Aside0.mk (blk_at hq_ BK145.out); have n2_ := Aside0.mk (below_at hq_ HB.out); clear hq_ HO_3 BK145 HB; have HO_3 := n0_; have BK145 := n1_; have HB := n2_; clear n0_ n1_ n2_; (try (have HX41 := Aside0.mk (show Kd.R k74 74 wc w.heap.size (fun _ => True) (.slice (some ⟨go32, 0, none⟩) x3_9.length co40) x3_9 from (roW HO_3.out)))); (try (obtain ⟨ce41, hcl41, hM41, hcc41, hfr41⟩ := Kd.R_elem HX41.out z74 ((ji29) : Int) odt (by have h_ : ((ji29) : Int) < ((x3_9.length : Int) : Int) := odt; first | exact h_ | (have e_ := (Kd.R_reads' HO_3.out).1; omega) | simpa using h_))); (try (obtain rfl := k74_openM hM41)); (try (have HP41 := Kd.R_seg HX41.out ((ji29) : Int) odt (by have h_ : ((ji29) : Int) < ((x3_9.length : Int) : Int) := odt; first | exact h_ | (have e_ := (Kd.R_reads' HO_3.out).1; omega) | simpa using h_) (seg := [.int .i64 (wrap64 (((rd_T74 x3_9 (ji29)).f1) + 1))]) (j := 1) hcl41 hcc41 (show 2 ≤ 2 from by decide) (x' := (⟨(rd_T74 x3_9 (ji29)).f0, wrap64 (((rd_T74 x3_9 (ji29)).f1) + 1)⟩ : S74)) (k74_mkM _ _ _ (⟨(rd_T74 x3_9 (ji29)).f0, wrap64 (((rd_T74 x3_9 (ji29)).f1) + 1)⟩ : S74) ) (fun _ hk => hk))); (try (have hx41_1 := hcc41 1 _ rfl)); (try (try simp only [show (k74).sz = 2 from rfl, Nat.mul_one, Nat.add_zero] at hx41_1)); (try (have hf41_1 := hfr41 1)); (try (try simp only [show (k74).sz = 2 from rfl, Nat.mul_one, Nat.add_zero] at hf41_1)); (try (clear hcl41 hcc41 hfr41 hM41)))); refine store_event (t := 3) (p := 90) (v := ?vo_w42) (w1 := (wc.setCell ⟨go32, ((ji29) : Int).toNat * 2 + 1, none⟩ (.int .i64 (wrap64 (((rd_T74 x3_9 (ji29)).f1) + 1))))) ?hg ?ho ?hn ?hr ?_; (case ho => rfl); (case hg => rfl); (case hn => rfl); (case hr => first | (go_simp; done) | (go_simp; rfl)); intro w42 hw; have hg : wc.grownBy w42 (some go32) := (by rw [hw]; exact HP41.2); have hp_ : Kd.R k74 74 w42 w.heap.size (fun _ => True) (.slice (some ⟨go32, 0, none⟩) x3_9.length co40) y155 := (by rw [hw, Ny155.out]; exact HP41.1); clear HP41; have n0_ := Aside0.mk (hp_); have n1_ := Aside0.mk (blk_grown (g := gb145) (o := .cells #[.int .i64 ((rd_T41 l0 x20_2).f0), .int .i64 ((rd_T41 l0 x20_2).f1), .bool ((rd_T41 l0 x20_2).f2), .string ((rd_T41 l0 x20_2).f3), .slice A144_4 ((rd_T41 l0 x20_2).f4).length c144_4] 41 (0, 0)) (boW BK145.out) hg (Kd.R_ne HO_3.out BK145.out (by decide))); have n2_ := Aside0.mk ((by rw [hw]; exact below_set (HB.out) GB32.out : Below w.heap.size w w42)); clear HO_3; clear BK145; clear HB; have HO_3 := n0_; have BK145 := n1_; have HB := n2_; clear n0_ n1_ n2_; clear hg hw hp_) | ((with_reducible refine gate_builtin (b := .append) (xs := #[.tmp 91, .tmp 94]) rfl ?_); (try (refine gate_guard (by rfl) ?_; dsimp only)); at_builtin; refine Kd.R_append k74 (w0 := w) w.heap.size rfl (.tmp 91) (.tmp 94) 71 74 (.agg #[(.int .i64 0), (.int .i64 0)]) 16 rfl Tryd.underlying71 info74 rfl (by decide) (by omega) (.slice (some ⟨go32, 0, none⟩) x3_9.length co40) y155 (⟨x20_2, 0⟩ : S74) [.int .i64 x20_2, .int .i64 0] (fun _ => True) (fun _ => False) rfl rfl ?aP (fun _ hk => hk.elim) ?aF ?aO ?aB ?aS ?aL ?_; (case aP => exact k74_mkM _ _ _ (⟨x20_2, 0⟩ : S74)); (case aB => exact (by repeat (first | (with_reducible first | exact HB.out | apply below_alloc | apply pw_below_drewN | apply below_drew1 | refine below_set ?_ GE145.out) | exact HB.out))); (case aF => exact (fun _ _ => trivial)); (case aO => exact (roW HO_3.out)); (case aS => exact (below_size (by repeat (first | (with_reducible first | exact HB.out | apply below_alloc | apply pw_below_drewN | apply below_drew1 | refine below_set ?_ GE145.out) | exact HB.out)))); (case aL => have := LMc38.out; omega); intro v157 w43 ho hb hg hat; rw [← Ny156.out] at ho; have n0_ := Aside0.mk (blk_grown (g := gb145) (o := .cells #[.int .i64 ((rd_T41 l0 x20_2).f0), .int .i64 ((rd_T41 l0 x20_2).f1), .bool ((rd_T41 l0 x20_2).f2), .string ((rd_T41 l0 x20_2).f3), .slice A144_4 ((rd_T41 l0 x20_2).f4).length c144_4] 41 (0, 0)) (boW BK145.out) hg (Kd.R_ne HO_3.out BK145.out (by decide))); have n1_ := Aside0.mk (hb); have n2_ := Aside0.mk (ho); clear BK145; clear HB; clear HO_3; have BK145 := n0_; have HB := n1_; have HO158 := n2_; clear n0_ n1_ n2_; clear ho hb hg hat; obtain ⟨Ao44, co44, eo44⟩ := Kd.R_slice HO158.out; subst eo44))
       repeat (go_quiet (first | ((with_reducible refine gate_store (t := 3) (p := 90) rfl ?_); (try (rw [drewN_self wc]; generalize hq_ : World.drewN wc _ = wc; have n0_ := Aside0.mk (Kd.R_at hq_ HO_3.out); have n1_ := Aside0.mk (blk_at hq_ BK145.out); have n2_ := Aside0.mk (below_at hq_ HB.out); clear hq_ HO_3 BK145 HB; have HO_3 := n0_; have BK145 := n1_; have HB := n2_; clear n0_ n1_ n2_; (try (have HX41 := Aside0.mk (show Kd.R k74 74 wc w.heap.size (fun _ => True) (.slice (some ⟨go32, 0, none⟩) x3_9.length co40) x3_9 from (roW HO_3.out)))); (try (obtain ⟨ce41, hcl41, hM41, hcc41, hfr41⟩ := Kd.R_elem HX41.out z74 ((ji29) : Int) odt (by have h_ : ((ji29) : Int) < ((x3_9.length : Int) : Int) := odt; first | exact h_ | (have e_ := (Kd.R_reads' HO_3.out).1; omega) | simpa using h_))); (try (obtain rfl := k74_openM hM41)); (try (have HP41 := Kd.R_seg HX41.out ((ji29) : Int) odt (by have h_ : ((ji29) : Int) < ((x3_9.length : Int) : Int) := odt; first | exact h_ | (have e_ := (Kd.R_reads' HO_3.out).1; omega) | simpa using h_) (seg := [.int .i64 (wrap64 (((rd_T74 x3_9 (ji29)).f1) + 1))]) (j := 1) hcl41 hcc41 (show 2 ≤ 2 from by decide) (x' := (⟨(rd_T74 x3_9 (ji29)).f0, wrap64 (((rd_T74 x3_9 (ji29)).f1) + 1)⟩ : S74)) (k74_mkM _ _ _ (⟨(rd_T74 x3_9 (ji29)).f0, wrap64 (((rd_T74 x3_9 (ji29)).f1) + 1)⟩ : S74) ) (fun _ hk => hk))); (try (have hx41_1 := hcc41 1 _ rfl)); (try (try simp only [show (k74).sz = 2 from rfl, Nat.mul_one, Nat.add_zero] at hx41_1)); (try (have hf41_1 := hfr41 1)); (try (try simp only [show (k74).sz = 2 from rfl, Nat.mul_one, Nat.add_zero] at hf41_1)); (try (clear hcl41 hcc41 hfr41 hM41)))); refine store_event (t := 3) (p := 90) (v := ?vo_w42) (w1 := (wc.setCell ⟨go32, ((ji29) : Int).toNat * 2 + 1, none⟩ (.int .i64 (wrap64 (((rd_T74 x3_9 (ji29)).f1) + 1))))) ?hg ?ho ?hn ?hr ?_; (case ho => rfl); (case hg => rfl); (case hn => rfl); (case hr => first | (go_simp; done) | (go_simp; rfl)); intro w42 hw; have hg : wc.grownBy w42 (some go32) := (by rw [hw]; exact HP41.2); have hp_ : Kd.R k74 74 w42 w.heap.size (fun _ => True) (.slice (some ⟨go32, 0, none⟩) x3_9.length co40) y155 := (by rw [hw, Ny155.out]; exact HP41.1); clear HP41; have n0_ := Aside0.mk (hp_); have n1_ := Aside0.mk (blk_grown (g := gb145) (o := .cells #[.int .i64 ((rd_T41 l0 x20_2).f0), .int .i64 ((rd_T41 l0 x20_2).f1), .bool ((rd_T41 l0 x20_2).f2), .string ((rd_T41 l0 x20_2).f3), .slice A144_4 ((rd_T41 l0 x20_2).f4).length c144_4] 41 (0, 0)) (boW BK145.out) hg (Kd.R_ne HO_3.out BK145.out (by decide))); have n2_ := Aside0.mk ((by rw [hw]; exact below_set (HB.out) GB32.out : Below w.heap.size w w42)); clear HO_3; clear BK145; clear HB; have HO_3 := n0_; have BK145 := n1_; have HB := n2_; clear n0_ n1_ n2_; clear hg hw hp_) | ((with_reducible refine gate_builtin (b := .append) (xs := #[.tmp 91, .tmp 94]) rfl ?_); (try (refine gate_guard (by rfl) ?_; dsimp only)); at_builtin; refine Kd.R_append k74 (w0 := w) w.heap.size rfl (.tmp 91) (.tmp 94) 71 74 (.agg #[(.int .i64 0), (.int .i64 0)]) 16 rfl Tryd.underlying71 info74 rfl (by decide) (by omega) (.slice (some ⟨go32, 0, none⟩) x3_9.length co40) y155 (⟨x20_2, 0⟩ : S74) [.int .i64 x20_2, .int .i64 0] (fun _ => True) (fun _ => False) rfl rfl ?aP (fun _ hk => hk.elim) ?aF ?aO ?aB ?aS ?aL ?_; (case aP => exact k74_mkM _ _ _ (⟨x20_2, 0⟩ : S74)); (case aB => exact (by repeat (first | (with_reducible first | exact HB.out | apply below_alloc | apply pw_below_drewN | apply below_drew1 | refine below_set ?_ GE145.out) | exact HB.out))); (case aF => exact (fun _ _ => trivial)); (case aO => exact (roW HO_3.out)); (case aS => exact (below_size (by repeat (first | (with_reducible first | exact HB.out | apply below_alloc | apply pw_below_drewN | apply below_drew1 | refine below_set ?_ GE145.out) | exact HB.out)))); (case aL => have := LMc38.out; omega); intro v157 w43 ho hb hg hat; rw [← Ny156.out] at ho; have n0_ := Aside0.mk (blk_grown (g := gb145) (o := .cells #[.int .i64 ((rd_T41 l0 x20_2).f0), .int .i64 ((rd_T41 l0 x20_2).f1), .bool ((rd_T41 l0 x20_2).f2), .string ((rd_T41 l0 x20_2).f3), .slice A144_4 ((rd_T41 l0 x20_2).f4).length c144_4] 41 (0, 0)) (boW BK145.out) hg (Kd.R_ne HO_3.out BK145.out (by decide))); have n1_ := Aside0.mk (hb); have n2_ := Aside0.mk (ho); clear BK145; clear HB; clear HO_3; have BK145 := n0_; have HB := n1_; have HO158 := n2_; clear n0_ n1_ n2_; clear ho hb hg hat; obtain ⟨Ao44, co44, eo44⟩ := Kd.R_slice HO158.out; subst eo44)); try go_wp2_with (first | ((with_reducible refine gate_store (t := 3) (p := 90) rfl ?_); (try (rw [drewN_self wc]; generalize hq_ : World.drewN wc _ = wc; have n0_ := Aside0.mk (Kd.R_at hq_ HO_3.out); have n1_ := Aside0.mk (blk_at hq_ BK145.out); have n2_ := Aside0.mk (below_at hq_ HB.out); clear hq_ HO_3 BK145 HB; have HO_3 := n0_; have BK145 := n1_; have HB := n2_; clear n0_ n1_ n2_; (try (have HX41 := Aside0.mk (show Kd.R k74 74 wc w.heap.size (fun _ => True) (.slice (some ⟨go32, 0, none⟩) x3_9.length co40) x3_9 from (roW HO_3.out)))); (try (obtain ⟨ce41, hcl41, hM41, hcc41, hfr41⟩ := Kd.R_elem HX41.out z74 ((ji29) : Int) odt (by have h_ : ((ji29) : Int) < ((x3_9.length : Int) : Int) := odt; first | exact h_ | (have e_ := (Kd.R_reads' HO_3.out).1; omega) | simpa using h_))); (try (obtain rfl := k74_openM hM41)); (try (have HP41 := Kd.R_seg HX41.out ((ji29) : Int) odt (by have h_ : ((ji29) : Int) < ((x3_9.length : Int) : Int) := odt; first | exact h_ | (have e_ := (Kd.R_reads' HO_3.out).1; omega) | simpa using h_) (seg := [.int .i64 (wrap64 (((rd_T74 x3_9 (ji29)).f1) + 1))]) (j := 1) hcl41 hcc41 (show 2 ≤ 2 from by decide) (x' := (⟨(rd_T74 x3_9 (ji29)).f0, wrap64 (((rd_T74 x3_9 (ji29)).f1) + 1)⟩ : S74)) (k74_mkM _ _ _ (⟨(rd_T74 x3_9 (ji29)).f0, wrap64 (((rd_T74 x3_9 (ji29)).f1) + 1)⟩ : S74) ) (fun _ hk => hk))); (try (have hx41_1 := hcc41 1 _ rfl)); (try (try simp only [show (k74).sz = 2 from rfl, Nat.mul_one, Nat.add_zero] at hx41_1)); (try (have hf41_1 := hfr41 1)); (try (try simp only [show (k74).sz = 2 from rfl, Nat.mul_one, Nat.add_zero] at hf41_1)); (try (clear hcl41 hcc41 hfr41 hM41)))); refine store_event (t := 3) (p := 90) (v := ?vo_w42) (w1 := (wc.setCell ⟨go32, ((ji29) : Int).toNat * 2 + 1, none⟩ (.int .i64 (wrap64 (((rd_T74 x3_9 (ji29)).f1) + 1))))) ?hg ?ho ?hn ?hr ?_; (case ho => rfl); (case hg => rfl); (case hn => rfl); (case hr => first | (go_simp; done) | (go_simp; rfl)); intro w42 hw; have hg : wc.grownBy w42 (some go32) := (by rw [hw]; exact HP41.2); have hp_ : Kd.R k74 74 w42 w.heap.size (fun _ => True) (.slice (some ⟨go32, 0, none⟩) x3_9.length co40) y155 := (by rw [hw, Ny155.out]; exact HP41.1); clear HP41; have n0_ := Aside0.mk (hp_); have n1_ := Aside0.mk (blk_grown (g := gb145) (o := .cells #[.int .i64 ((rd_T41 l0 x20_2).f0), .int .i64 ((rd_T41 l0 x20_2).f1), .bool ((rd_T41 l0 x20_2).f2), .string ((rd_T41 l0 x20_2).f3), .slice A144_4 ((rd_T41 l0 x20_2).f4).length c144_4] 41 (0, 0)) (boW BK145.out) hg (Kd.R_ne HO_3.out BK145.out (by decide))); have n2_ := Aside0.mk ((by rw [hw]; exact below_set (HB.out) GB32.out : Below w.heap.size w w42)); clear HO_3; clear BK145; clear HB; have HO_3 := n0_; have BK145 := n1_; have HB := n2_; clear n0_ n1_ n2_; clear hg hw hp_) | ((with_reducible refine gate_builtin (b := .append) (xs := #[.tmp 91, .tmp 94]) rfl ?_); (try (refine gate_guard (by rfl) ?_; dsimp only)); at_builtin; refine Kd.R_append k74 (w0 := w) w.heap.size rfl (.tmp 91) (.tmp 94) 71 74 (.agg #[(.int .i64 0), (.int .i64 0)]) 16 rfl Tryd.underlying71 info74 rfl (by decide) (by omega) (.slice (some ⟨go32, 0, none⟩) x3_9.length co40) y155 (⟨x20_2, 0⟩ : S74) [.int .i64 x20_2, .int .i64 0] (fun _ => True) (fun _ => False) rfl rfl ?aP (fun _ hk => hk.elim) ?aF ?aO ?aB ?aS ?aL ?_; (case aP => exact k74_mkM _ _ _ (⟨x20_2, 0⟩ : S74)); (case aB => exact (by repeat (first | (with_reducible first | exact HB.out | apply below_alloc | apply pw_below_drewN | apply below_drew1 | refine below_set ?_ GE145.out) | exact HB.out))); (case aF => exact (fun _ _ => trivial)); (case aO => exact (roW HO_3.out)); (case aS => exact (below_size (by repeat (first | (with_reducible first | exact HB.out | apply below_alloc | apply pw_below_drewN | apply below_drew1 | refine below_set ?_ GE145.out) | exact HB.out)))); (case aL => have := LMc38.out; omega); intro v157 w43 ho hb hg hat; rw [← Ny156.out] at ho; have n0_ := Aside0.mk (blk_grown (g := gb145) (o := .cells #[.int .i64 ((rd_T41 l0 x20_2).f0), .int .i64 ((rd_T41 l0 x20_2).f1), .bool ((rd_T41 l0 x20_2).f2), .string ((rd_T41 l0 x20_2).f3), .slice A144_4 ((rd_T41 l0 x20_2).f4).length c144_4] 41 (0, 0)) (boW BK145.out) hg (Kd.R_ne HO_3.out BK145.out (by decide))); have n1_ := Aside0.mk (hb); have n2_ := Aside0.mk (ho); clear BK145; clear HB; clear HO_3; have BK145 := n0_; have HB := n1_; have HO158 := n2_; clear n0_ n1_ n2_; clear ho hb hg hat; obtain ⟨Ao44, co44, eo44⟩ := Kd.R_slice HO158.out; subst eo44)))
       go_roundg kj9
       case measure => have := HJ1.out; have := HK2.out; have := HJ9.out; omega
       case rel => exact ⟨(y156), (ji39), (wrap64 (x20_2 + 1)), (by first | rfl | (simp; done) | (simp only [← hji39] <;> (first | rfl | simp)) | (simp [*]; done)), rsd, H', ⟨by have := HJ1.out; have := HK2.out; have := HJ9.out; omega⟩, ⟨roW HO158.out⟩, ⟨by repeat (first | (with_reducible first | exact HB.out | apply below_alloc | apply pw_below_drewN | apply below_drew1 | refine below_set ?_ GE145.out) | exact HB.out)⟩⟩

/-! ### tree_Right: function 11 -/
def tree_Right.f (k : Nat) (l0 : List (S41)) : Option (Bool) := (tree_depth.f k l0).bind fun t165 => (some (decide (t165 > 0)))
theorem tree_Right.mono : ∀ a0 k, LeO (tree_Right.f k a0) (tree_Right.f (k + 1) a0) := by
 intro a0 k
 unfold tree_Right.f
 repeat' first
  | (with_reducible first | exact tree_depth.mono _ _ | exact LeO.refl _ | exact LeO.none _ | refine LeO.ite ?_ ?_ | refine LeO.bind ?_ (fun _ => ?_))
  | exact tree_depth.mono _ _
  | exact LeO.none _
  | refine LeO.ite ?_ ?_
  | refine LeO.bind ?_ (fun _ => ?_)
set_option maxHeartbeats 8000000 in
set_option maxRecDepth 100000 in
theorem tree_Right.calls (k : Nat) (A0 : Option Addr) (c0 : Nat) (l0 : List (S41)) (r : Bool) (w : World) (hr0 : Kd.C k41 w A0 l0.length l0) (hc0 : l0.length ≤ c0) (HT_ : Aside0 (TB w)) (h : tree_Right.f k l0 = some r) :
 Calls Tryd.prog 11 #[.slice A0 l0.length c0] w fun e w' => e = .returned (.bool r) ∧ Below w.heap.size w w' := by
 have HR0 := Aside0.mk hr0
 have HC0 := Aside0.mk hc0
 clear hr0 hc0
 have HB := Aside0.mk (Below.refl w.heap.size w)
 have H : ((tree_depth.f k l0).bind fun t165 => (some (decide (t165 > 0)))) = some r := h
 clear h
 replace H := Option.bind_eq_some_iff.mp H
 obtain ⟨t165, A20, H⟩ := H
 replace H : (some (decide (t165 > 0))) = some r := H
 have A2 := Aside0.mk A20
 clear A20
 obtain rfl := Option.some.inj H
 go_enter Tryd.func11, Tryd.ntmps11
 go_wp2_with (first | ((with_reducible refine gate_callee (f := 28) rfl ?_); refine goesL_ (some 4) rfl rfl Tryd.func28 (by kernel_rfl) rfl #[.slice A0 l0.length c0] rfl gargs ?_; (with_reducible refine (tree_depth.calls k _ _ l0 t165 _ ?side1 ?side2 ?tb_ A2.out).mono ?_); (case tb_ => exact tbw); (case side1 => exact kcW HR0.out); (case side2 => exact HC0.out); rintro e w3 ⟨rfl, hb⟩; refine ⟨_, rfl, ?_⟩; replace HB := Aside0.mk (below_step blw hb); (try clear hb); (try clear hb2); (try clear hk); (try clear hi)))
 go_ret
 exact ⟨rse, blw⟩

end Go.Proofs.YtcbcojbhbhaimaaDoor.PTreeTells
