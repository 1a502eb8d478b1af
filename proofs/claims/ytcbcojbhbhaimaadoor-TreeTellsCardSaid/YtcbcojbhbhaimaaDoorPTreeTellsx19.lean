import Derived.Test.YtcbcojbhbhaimaaDoorPTreeTellsx0
namespace Go.Proofs.YtcbcojbhbhaimaaDoor.PTreeTells
open Go.RowKit Go.Proofs.YtcbcojbhbhaimaaDoorW.PrintWords Go.Proofs.YtcbcojbhbhaimaaDoorW.PrintLast Go.Proofs.YtcbcojbhbhaimaaDoorW.PrintMore
attribute [local go_sem high] c_add c_eql c_neq
attribute [local go_sem] f_store_c f_store_f f_add f_toint f_fold_eq f_fold_ne f_fold_lt f_fold_gt f_fold_le f_fold_ge
attribute [local go_sem] str_leq str_gtr str_geq max2_int min2_int max_two min_two max_three min_three max_four min_four   -- for this text's walks alone
set_option linter.unusedVariables false
set_option linter.unusedSimpArgs false

/-! ### cp_Ints: function 31 -/
def cp_Ints.l0 : Nat → List Int → List Int → Int → Option (Bool)
 | 0, _, _, _ => none
 | k + 1, x0, x1, x5 => if x5 < (x0.length : Int) then (if 0 ≤ x5 then (if x5 < (x1.length : Int) then (if (rd x0 x5) = (rd x1 x5) then (cp_Ints.l0 k x0 x1 (wrap64 (x5 + 1))) else (some false)) else (none)) else (none)) else (some true)
def cp_Ints.f (k : Nat) (l0 : List Int) (l1 : List Int) : Option (Bool) := if (l0.length : Int) = (l1.length : Int) then (cp_Ints.l0 k l0 l1 0) else (some false)
theorem cp_Ints.mono_l : ∀ k, (∀ y0 y1 y2, LeO (cp_Ints.l0 k y0 y1 y2) (cp_Ints.l0 (k + 1) y0 y1 y2))
 | 0 => fun _ _ _ r h => by simp [cp_Ints.l0] at h
 | k + 1 => by
  have ih0 := cp_Ints.mono_l k
  ·intro y0 y1 y2
   unfold cp_Ints.l0
   repeat' first
   | (with_reducible first | exact ih0 _ _ _ | exact LeO.refl _ | exact LeO.none _ | refine LeO.ite ?_ ?_ | refine LeO.bind ?_ (fun _ => ?_))
   | exact ih0 _ _ _
   | exact LeO.none _
   | refine LeO.ite ?_ ?_
   | refine LeO.bind ?_ (fun _ => ?_)
theorem cp_Ints.mono : ∀ a0 a1 k, LeO (cp_Ints.f k a0 a1) (cp_Ints.f (k + 1) a0 a1) := by
 intro a0 a1 k
 have ih0 := cp_Ints.mono_l k
 unfold cp_Ints.f
 repeat' first
  | (with_reducible first | exact ih0 _ _ _ | exact LeO.refl _ | exact LeO.none _ | refine LeO.ite ?_ ?_ | refine LeO.bind ?_ (fun _ => ?_))
  | exact ih0 _ _ _
  | exact LeO.none _
  | refine LeO.ite ?_ ?_
  | refine LeO.bind ?_ (fun _ => ?_)
set_option maxHeartbeats 8000000 in
set_option maxRecDepth 100000 in
theorem cp_Ints.calls (k : Nat) (A0 : Option Addr) (c0 : Nat) (l0 : List Int) (A1 : Option Addr) (c1 : Nat) (l1 : List Int) (r : Bool) (w : World) (hr0 : Kd.C (Kd.int .i64) w A0 l0.length l0) (hc0 : l0.length ≤ c0) (hr1 : Kd.C (Kd.int .i64) w A1 l1.length l1) (hc1 : l1.length ≤ c1) (h : cp_Ints.f k l0 l1 = some r) :
 Calls Tryd.prog 31 #[.slice A0 l0.length c0, .slice A1 l1.length c1] w fun e w' => e = .returned (.bool r) ∧ Drawn0 w w' := by
 have HR0 := Aside0.mk hr0
 have HC0 := Aside0.mk hc0
 clear hr0 hc0
 have HR1 := Aside0.mk hr1
 have HC1 := Aside0.mk hc1
 clear hr1 hc1
 have H : (if (l0.length : Int) = (l1.length : Int) then (cp_Ints.l0 k l0 l1 0) else (some false)) = some r := h
 clear h
 by_cases c3 : (l0.length : Int) = (l1.length : Int)
 case neg =>
  rw [if_neg c3] at H
  have c3b0 : ((l0.length : Int) == (l1.length : Int)) = false := beq_eq_false_iff_ne.mpr c3
  have c3b1 : ((l0.length : Int) != (l1.length : Int)) = true := bne_iff_ne.mpr c3
  have c3b2 : (l0.length == l1.length) = false := by first | simpa using c3 | (simp at c3 ⊢; omega)
  obtain rfl := Option.some.inj H
  go_enter Tryd.func31, Tryd.ntmps31
  go_wp2
  repeat (go_quiet (fail); try go_wp2)
  go_ret
  exact ⟨rsd, drw⟩
 rw [if_pos c3] at H
 have c3b0 : ((l0.length : Int) == (l1.length : Int)) = true := beq_iff_eq.mpr c3
 have c3b1 : ((l0.length : Int) != (l1.length : Int)) = false := bne_eq_false_iff_eq.mpr c3
 have c3b2 : (l0.length == l1.length) = true := by first | simpa using c3 | (simp at c3 ⊢; omega)
 clear c3
 have H' := Aside0.mk H
 clear H
 go_enter Tryd.func31, Tryd.ntmps31
 go_wp2
 repeat (go_quiet (fail); try go_wp2)
 go_loopg [5] k (fun kq v5 w' => ∃ (x5_1 : Int), v5 = .int .i64 x5_1 ∧ Aside0 (cp_Ints.l0 kq l0 l1 x5_1 = some r) ∧ Aside0 (kq ≤ k) ∧ Drawn0 w w')
 case atStart => exact ⟨(0), rsd, H', ⟨Nat.le_refl _⟩, drw⟩
 case round =>
  clear H'
  try clear c1
  try clear c3
  try clear c3b0
  try clear c3b1
  try clear c3b2
  obtain ⟨x5_1, rfl, HA, HK1, ⟨m1, rfl⟩⟩ := hrel
  cases gk with
  | zero => exact absurd HA.out (by simp [cp_Ints.l0])
  | succ k1 =>
   have H := HA.out
   clear HA
   simp only [cp_Ints.l0] at H
   by_cases c4 : x5_1 < (l0.length : Int)
   case neg =>
    rw [if_neg c4] at H
    have c4b0 : decide (x5_1 < (l0.length : Int)) = false := decide_eq_false c4
    clear c4
    obtain rfl := Option.some.inj H
    go_wp2
    repeat (go_quiet (fail); try go_wp2)
    go_ret
    exact ⟨rsd, drw⟩
   rw [if_pos c4] at H
   have c4b0 : decide (x5_1 < (l0.length : Int)) = true := decide_eq_true c4
   clear c4
   by_cases c5 : 0 ≤ x5_1
   case neg =>
    rw [if_neg c5] at H
    exact absurd H (by simp)
   rw [if_pos c5] at H
   have c5b0 : decide (0 ≤ x5_1) = true := decide_eq_true c5
   clear c5
   by_cases c6 : x5_1 < (l1.length : Int)
   case neg =>
    rw [if_neg c6] at H
    exact absurd H (by simp)
   rw [if_pos c6] at H
   have c6b0 : decide (x5_1 < (l1.length : Int)) = true := decide_eq_true c6
   clear c6
   by_cases c7 : (rd l0 x5_1) = (rd l1 x5_1)
   case neg =>
    rw [if_neg c7] at H
    have c7b0 : ((rd l0 x5_1) == (rd l1 x5_1)) = false := beq_eq_false_iff_ne.mpr c7
    have c7b1 : ((rd l0 x5_1) != (rd l1 x5_1)) = true := bne_iff_ne.mpr c7
    obtain rfl := Option.some.inj H
    have p423 : 0 ≤ (x5_1 : Int) := odt
    have q423 : x5_1 < (l0.length : Int) := odt
    obtain ⟨ad423, e423, hx423_0⟩ := Kd.at_int HR0.out x5_1 p423 q423
    cases e423
    replace p423 := eq_true p423
    replace q423 := eq_true q423
    have p424 : 0 ≤ (x5_1 : Int) := odt
    have q424 : x5_1 < (l1.length : Int) := odt
    obtain ⟨ad424, e424, hx424_0⟩ := Kd.at_int HR1.out x5_1 p424 q424
    cases e424
    replace p424 := eq_true p424
    replace q424 := eq_true q424
    go_wp2
    repeat (go_quiet (fail); try go_wp2)
    go_ret
    exact ⟨rsd, drw⟩
   rw [if_pos c7] at H
   have c7b0 : ((rd l0 x5_1) == (rd l1 x5_1)) = true := beq_iff_eq.mpr c7
   have c7b1 : ((rd l0 x5_1) != (rd l1 x5_1)) = false := bne_eq_false_iff_eq.mpr c7
   clear c7
   have H' := Aside0.mk H
   clear H
   have p423 : 0 ≤ (x5_1 : Int) := odt
   have q423 : x5_1 < (l0.length : Int) := odt
   obtain ⟨ad423, e423, hx423_0⟩ := Kd.at_int HR0.out x5_1 p423 q423
   cases e423
   replace p423 := eq_true p423
   replace q423 := eq_true q423
   have p424 : 0 ≤ (x5_1 : Int) := odt
   have q424 : x5_1 < (l1.length : Int) := odt
   obtain ⟨ad424, e424, hx424_0⟩ := Kd.at_int HR1.out x5_1 p424 q424
   cases e424
   replace p424 := eq_true p424
   replace q424 := eq_true q424
   go_wp2
   repeat (go_quiet (fail); try go_wp2)
   go_roundg k1
   case measure => have := HK1.out; omega
   case rel => exact ⟨(wrap64 (x5_1 + 1)), rsd, H', ⟨by have := HK1.out; omega⟩, drw⟩

/-! ### cp_Same: function 16 -/
def cp_Same.l0 : Nat → List (S41) → List (S41) → Int → Option (Bool)
 | 0, _, _, _ => none
 | k + 1, x0, x1, x5 => if x5 < (x0.length : Int) then (if 0 ≤ x5 then (if x5 < (x1.length : Int) then (if ((rd_T41 x0 x5).f0) = ((rd_T41 x1 x5).f0) then (if ((rd_T41 x0 x5).f1) = ((rd_T41 x1 x5).f1) then (if (((rd_T41 x0 x5).f2) != ((rd_T41 x1 x5).f2)) = true then (some false) else (if ((rd_T41 x0 x5).f3).toList = ((rd_T41 x1 x5).f3).toList then ((cp_Ints.f k ((rd_T41 x0 x5).f4) ((rd_T41 x1 x5).f4)).bind fun t429 => (if t429 = true then (cp_Same.l0 k x0 x1 (wrap64 (x5 + 1))) else (some false))) else (some false))) else (some false)) else (some false)) else (none)) else (none)) else (some true)
def cp_Same.f (k : Nat) (l0 : List (S41)) (l1 : List (S41)) : Option (Bool) := if (l0.length : Int) = (l1.length : Int) then (cp_Same.l0 k l0 l1 0) else (some false)
theorem cp_Same.mono_l : ∀ k, (∀ y0 y1 y2, LeO (cp_Same.l0 k y0 y1 y2) (cp_Same.l0 (k + 1) y0 y1 y2))
 | 0 => fun _ _ _ r h => by simp [cp_Same.l0] at h
 | k + 1 => by
  have ih0 := cp_Same.mono_l k
  ·intro y0 y1 y2
   unfold cp_Same.l0
   repeat' first
   | (with_reducible first | exact ih0 _ _ _ | exact cp_Ints.mono _ _ _ | exact LeO.refl _ | exact LeO.none _ | refine LeO.ite ?_ ?_ | refine LeO.bind ?_ (fun _ => ?_))
   | exact ih0 _ _ _
   | exact cp_Ints.mono _ _ _
   | exact LeO.none _
   | refine LeO.ite ?_ ?_
   | refine LeO.bind ?_ (fun _ => ?_)
theorem cp_Same.mono : ∀ a0 a1 k, LeO (cp_Same.f k a0 a1) (cp_Same.f (k + 1) a0 a1) := by
 intro a0 a1 k
 have ih0 := cp_Same.mono_l k
 unfold cp_Same.f
 repeat' first
  | (with_reducible first | exact ih0 _ _ _ | exact cp_Ints.mono _ _ _ | exact LeO.refl _ | exact LeO.none _ | refine LeO.ite ?_ ?_ | refine LeO.bind ?_ (fun _ => ?_))
  | exact ih0 _ _ _
  | exact cp_Ints.mono _ _ _
  | exact LeO.none _
  | refine LeO.ite ?_ ?_
  | refine LeO.bind ?_ (fun _ => ?_)
def cp_Same.T6 : Bool × List (List Nat × List Nat) := (true, [([], []), ([], []), ([0, 1], [0, 1]), ([2], [2]), ([], []), ([], []), ([4, 5], [4, 5]), ([6], [6]), ([], []), ([], []), ([8, 3, 0, 1, 2, 3, 8, 9], [3, 8]), ([9, 7, 10, 0, 1, 2, 3, 4, 5, 6, 7, 8, 9, 10], [7, 9])])
def cp_Same.B6 : List Nat := [0, 0, 3, 7, 0, 0, 48, 112, 0, 0, 783, 2047]
theorem cp_Same.tab6 : rtab .any (opsOf Tryd.f16 6) = cp_Same.T6 := by kernel_rfl
theorem cp_Same.bits6 : waitsOk cp_Same.T6.2 cp_Same.B6 = true := by kernel_rfl
set_option maxHeartbeats 8000000 in
set_option maxRecDepth 100000 in
theorem cp_Same.calls (k : Nat) (A0 : Option Addr) (c0 : Nat) (l0 : List (S41)) (A1 : Option Addr) (c1 : Nat) (l1 : List (S41)) (r : Bool) (w : World) (hr0 : Kd.C k41 w A0 l0.length l0) (hc0 : l0.length ≤ c0) (hr1 : Kd.C k41 w A1 l1.length l1) (hc1 : l1.length ≤ c1) (h : cp_Same.f k l0 l1 = some r) :
 Calls Tryd.prog 16 #[.slice A0 l0.length c0, .slice A1 l1.length c1] w fun e w' => e = .returned (.bool r) ∧ Below w.heap.size w w' := by
 have hu41 := Tryd.underlying41
 have HR0 := Aside0.mk hr0
 have HC0 := Aside0.mk hc0
 clear hr0 hc0
 have HR1 := Aside0.mk hr1
 have HC1 := Aside0.mk hc1
 clear hr1 hc1
 have HB := Aside0.mk (Below.refl w.heap.size w)
 have H : (if (l0.length : Int) = (l1.length : Int) then (cp_Same.l0 k l0 l1 0) else (some false)) = some r := h
 clear h
 by_cases c3 : (l0.length : Int) = (l1.length : Int)
 case neg =>
  rw [if_neg c3] at H
  have c3b0 : ((l0.length : Int) == (l1.length : Int)) = false := beq_eq_false_iff_ne.mpr c3
  have c3b1 : ((l0.length : Int) != (l1.length : Int)) = true := bne_iff_ne.mpr c3
  have c3b2 : (l0.length == l1.length) = false := by first | simpa using c3 | (simp at c3 ⊢; omega)
  obtain rfl := Option.some.inj H
  go_enter Tryd.func16, Tryd.ntmps16
  go_wp2
  go_ret
  exact ⟨rse, blw⟩
 rw [if_pos c3] at H
 have c3b0 : ((l0.length : Int) == (l1.length : Int)) = true := beq_iff_eq.mpr c3
 have c3b1 : ((l0.length : Int) != (l1.length : Int)) = false := bne_eq_false_iff_eq.mpr c3
 have c3b2 : (l0.length == l1.length) = true := by first | simpa using c3 | (simp at c3 ⊢; omega)
 clear c3
 have H' := Aside0.mk H
 clear H
 go_enter Tryd.func16, Tryd.ntmps16
 go_wp2
 go_loopg [5] k (fun kq v5 w' => ∃ (x5_1 : Int), v5 = .int .i64 x5_1 ∧ Aside0 (cp_Same.l0 kq l0 l1 x5_1 = some r) ∧ Aside0 (kq ≤ k) ∧ Aside0 (Below w.heap.size w w'))
 case atStart => exact ⟨(0), rsd, H', ⟨Nat.le_refl _⟩, ⟨blw⟩⟩
 case round =>
  clear H'
  try clear c1
  try clear c3
  try clear c3b0
  try clear c3b1
  try clear c3b2
  obtain ⟨x5_1, rfl, HA, HK1, HB⟩ := hrel
  cases gk with
  | zero => exact absurd HA.out (by simp [cp_Same.l0])
  | succ k1 =>
   have H := HA.out
   clear HA
   simp only [cp_Same.l0] at H
   by_cases c4 : x5_1 < (l0.length : Int)
   case neg =>
    rw [if_neg c4] at H
    have c4b0 : decide (x5_1 < (l0.length : Int)) = false := decide_eq_false c4
    clear c4
    obtain rfl := Option.some.inj H
    go_wp2
    go_ret
    exact ⟨rse, blw⟩
   rw [if_pos c4] at H
   have c4b0 : decide (x5_1 < (l0.length : Int)) = true := decide_eq_true c4
   clear c4
   by_cases c5 : 0 ≤ x5_1
   case neg =>
    rw [if_neg c5] at H
    exact absurd H (by simp)
   rw [if_pos c5] at H
   have c5b0 : decide (0 ≤ x5_1) = true := decide_eq_true c5
   clear c5
   by_cases c6 : x5_1 < (l1.length : Int)
   case neg =>
    rw [if_neg c6] at H
    exact absurd H (by simp)
   rw [if_pos c6] at H
   have c6b0 : decide (x5_1 < (l1.length : Int)) = true := decide_eq_true c6
   clear c6
   try go_wp2
   have n0_ := Aside0.mk (below_drew1 HB.out)
   clear HB
   have HB := n0_
   clear n0_
   have p425 : 0 ≤ (x5_1 : Int) := odt
   have q425 : x5_1 < (l0.length : Int) := odt
   obtain ⟨ad425, A425_4, c425_4, e425, hx425_0, hx425_1, hx425_2, hx425_3, hx425_4, hl425_4, hi425_4⟩ := at_T41 HR0.out x5_1 p425 q425
   have hw425_4 := hx425_4
   have hw425_3 := hx425_3
   have hw425_2 := hx425_2
   have hw425_1 := hx425_1
   have hw425_0 := hx425_0
   cases e425
   replace hx425_0 := cellB hx425_0
   replace hx425_1 := cellB hx425_1
   replace hx425_2 := cellB hx425_2
   replace hx425_3 := cellB hx425_3
   replace hx425_4 := cellB hx425_4
   have HR425_4 := Aside0.mk hi425_4
   have HC425_4 := Aside0.mk hl425_4
   clear hi425_4 hl425_4
   replace p425 := eq_true p425
   replace q425 := eq_true q425
   have p426 : 0 ≤ (x5_1 : Int) := odt
   have q426 : x5_1 < (l1.length : Int) := odt
   obtain ⟨ad426, A426_4, c426_4, e426, hx426_0, hx426_1, hx426_2, hx426_3, hx426_4, hl426_4, hi426_4⟩ := at_T41 HR1.out x5_1 p426 q426
   have hw426_4 := hx426_4
   have hw426_3 := hx426_3
   have hw426_2 := hx426_2
   have hw426_1 := hx426_1
   have hw426_0 := hx426_0
   cases e426
   replace hx426_0 := cellB hx426_0
   replace hx426_1 := cellB hx426_1
   replace hx426_2 := cellB hx426_2
   replace hx426_3 := cellB hx426_3
   replace hx426_4 := cellB hx426_4
   have HR426_4 := Aside0.mk hi426_4
   have HC426_4 := Aside0.mk hl426_4
   clear hi426_4 hl426_4
   replace p426 := eq_true p426
   replace q426 := eq_true q426
   refine start_ (n := 12) (S := fun w' => w'.cell? (ad425.add ((x5_1).toNat * 5)) = some (.int .i64 ((rd_T41 l0 x5_1).f0)) ∧ w'.cell? ⟨(ad425.add ((x5_1).toNat * 5)).block, (ad425.add ((x5_1).toNat * 5)).off + 1, none⟩ = some (.int .i64 ((rd_T41 l0 x5_1).f1)) ∧ w'.cell? ⟨(ad425.add ((x5_1).toNat * 5)).block, (ad425.add ((x5_1).toNat * 5)).off + 2, none⟩ = some (.bool ((rd_T41 l0 x5_1).f2)) ∧ w'.cell? ⟨(ad425.add ((x5_1).toNat * 5)).block, (ad425.add ((x5_1).toNat * 5)).off + 3, none⟩ = some (.string ((rd_T41 l0 x5_1).f3)) ∧ w'.cell? ⟨(ad425.add ((x5_1).toNat * 5)).block, (ad425.add ((x5_1).toNat * 5)).off + 4, none⟩ = some (.slice A425_4 ((rd_T41 l0 x5_1).f4).length c425_4) ∧ w'.cell? (ad426.add ((x5_1).toNat * 5)) = some (.int .i64 ((rd_T41 l1 x5_1).f0)) ∧ w'.cell? ⟨(ad426.add ((x5_1).toNat * 5)).block, (ad426.add ((x5_1).toNat * 5)).off + 1, none⟩ = some (.int .i64 ((rd_T41 l1 x5_1).f1)) ∧ w'.cell? ⟨(ad426.add ((x5_1).toNat * 5)).block, (ad426.add ((x5_1).toNat * 5)).off + 2, none⟩ = some (.bool ((rd_T41 l1 x5_1).f2)) ∧ w'.cell? ⟨(ad426.add ((x5_1).toNat * 5)).block, (ad426.add ((x5_1).toNat * 5)).off + 3, none⟩ = some (.string ((rd_T41 l1 x5_1).f3)) ∧ w'.cell? ⟨(ad426.add ((x5_1).toNat * 5)).block, (ad426.add ((x5_1).toNat * 5)).off + 4, none⟩ = some (.slice A426_4 ((rd_T41 l1 x5_1).f4).length c426_4)) (ds := []) #[false, false, false, false, false, false, false, false, false, false, false, false] (by kernel_rfl) rfl rfl ⟨(cellB hw425_0), (cellB hw425_1), (cellB hw425_2), (cellB hw425_3), (cellB hw425_4), (cellB hw426_0), (cellB hw426_1), (cellB hw426_2), (cellB hw426_3), (cellB hw426_4)⟩ (fun hHeld => ?_); refine with_tabW cp_Same.tab6 cp_Same.bits6 (fun HG_ HW_ => ?_)
   generalize wr.drew = w10 at HB HR425_4 HR426_4 hx425_0 hx425_1 hx425_2 hx425_3 hx425_4 hx426_0 hx426_1 hx426_2 hx426_3 hx426_4 hHeld ⊢
   refine pu 0 (some 19) ?_
   refine pu 1 (some 20) ?_
   refine pu 2 (some 21) ?_
   refine pu 4 (some 23) ?_
   refine pu 5 (some 24) ?_
   refine pu 6 (some 25) ?_
   refine take_ (i := 3) (N := some 22) (v := ?_) (a' := ?_) #[true, true, true, true, true, true, true, false, false, false, false, false] rfl rfl (take_ofW HG_.out HW_.out (by kernel_rfl)) (fun _ _ _ h => h) (Or.inl ⟨by rfl, ?_⟩) hHeld ?_ ?_
   rotate_left
   ·rintro w' ⟨s0, s1, s2, s3, s4, s5, s6, s7, s8, s9⟩
    go_simp
    with_reducible rfl
   rotate_left
   ·simp only [Act.put, List.setIfInBounds_toArray, List.set_cons_zero, List.set_cons_succ, i64_w, i32_w]
    rfl
   refine take_ (i := 7) (N := some 26) (v := ?_) (a' := ?_) #[true, true, true, true, true, true, true, true, false, false, false, false] rfl rfl (take_ofW HG_.out HW_.out (by kernel_rfl)) (fun _ _ _ h => h) (Or.inl ⟨by rfl, ?_⟩) hHeld ?_ ?_
   rotate_left
   ·rintro w' ⟨s0, s1, s2, s3, s4, s5, s6, s7, s8, s9⟩
    go_simp
    with_reducible rfl
   rotate_left
   ·simp only [Act.put, List.setIfInBounds_toArray, List.set_cons_zero, List.set_cons_succ, i64_w, i32_w]
    rfl
   refine join_ (σ := Nat × Nat) 2 #[true, true, true, true, true, true, true, true, true, true, false, false] (fun s_ => [(6, .pointer (some ⟨s_.1, 0, none⟩)), (7, .pointer (some ⟨s_.2, 0, none⟩))]) (fun s_ w' => (w'.cell? (ad425.add ((x5_1).toNat * 5)) = some (.int .i64 ((rd_T41 l0 x5_1).f0)) ∧ w'.cell? ⟨(ad425.add ((x5_1).toNat * 5)).block, (ad425.add ((x5_1).toNat * 5)).off + 1, none⟩ = some (.int .i64 ((rd_T41 l0 x5_1).f1)) ∧ w'.cell? ⟨(ad425.add ((x5_1).toNat * 5)).block, (ad425.add ((x5_1).toNat * 5)).off + 2, none⟩ = some (.bool ((rd_T41 l0 x5_1).f2)) ∧ w'.cell? ⟨(ad425.add ((x5_1).toNat * 5)).block, (ad425.add ((x5_1).toNat * 5)).off + 3, none⟩ = some (.string ((rd_T41 l0 x5_1).f3)) ∧ w'.cell? ⟨(ad425.add ((x5_1).toNat * 5)).block, (ad425.add ((x5_1).toNat * 5)).off + 4, none⟩ = some (.slice A425_4 ((rd_T41 l0 x5_1).f4).length c425_4) ∧ w'.cell? (ad426.add ((x5_1).toNat * 5)) = some (.int .i64 ((rd_T41 l1 x5_1).f0)) ∧ w'.cell? ⟨(ad426.add ((x5_1).toNat * 5)).block, (ad426.add ((x5_1).toNat * 5)).off + 1, none⟩ = some (.int .i64 ((rd_T41 l1 x5_1).f1)) ∧ w'.cell? ⟨(ad426.add ((x5_1).toNat * 5)).block, (ad426.add ((x5_1).toNat * 5)).off + 2, none⟩ = some (.bool ((rd_T41 l1 x5_1).f2)) ∧ w'.cell? ⟨(ad426.add ((x5_1).toNat * 5)).block, (ad426.add ((x5_1).toNat * 5)).off + 3, none⟩ = some (.string ((rd_T41 l1 x5_1).f3)) ∧ w'.cell? ⟨(ad426.add ((x5_1).toNat * 5)).block, (ad426.add ((x5_1).toNat * 5)).off + 4, none⟩ = some (.slice A426_4 ((rd_T41 l1 x5_1).f4).length c426_4)) ∧ (w'.heap[s_.1]? = some (.cells #[.int .i64 0, .int .i64 0, .bool false, .string (⟨#[]⟩ : ByteArray), .slice none 0 0] 41 (0, 0))) ∧ (w'.heap[s_.2]? = some (.cells #[.int .i64 0, .int .i64 0, .bool false, .string (⟨#[]⟩ : ByteArray), .slice none 0 0] 41 (0, 0))) ∧ (w.heap.size ≤ s_.1) ∧ (w.heap.size ≤ s_.1) ∧ (s_.2 ≠ s_.1) ∧ (s_.1 ≠ s_.2) ∧ (w.heap.size ≤ s_.2) ∧ (w.heap.size ≤ s_.2) ∧ (Below w.heap.size w w')) ?_ ?_
   rotate_left
   ·intro hCont
    refine two_ (i := 8) (j := 9) (Ni := some 6) (Nj := some 7) #[true, true, true, true, true, true, true, true, true, false, false, false] #[true, true, true, true, true, true, true, true, false, true, false, false] rfl rfl rfl rfl (two_of HG_.out (by kernel_rfl)) (by decide) (by decide) (fun K hK => ?_) (fun K hK => ?_)
    ·skip
     refine box_step ?hg (N := 6) ?hd (cs := #[.int .i64 0, .int .i64 0, .bool false, .string (⟨#[]⟩ : ByteArray), .slice none 0 0]) (t := 41) ?hr ?_; (case hd => rfl); (case hg => rfl); (case hr => first | (go_simp; done) | (go_simp; rfl))
     intro gb427 hg w11 hbox hb
     have n0_ := Aside0.mk (below_step blw hb)
     have n1_ := Aside0.mk (hbox)
     have n2_ := Aside0.mk ((by rw [hg]; exact (below_size blw) : w.heap.size ≤ gb427))
     have n3_ := Aside0.mk ((by rw [hg]; exact (below_size blw) : w.heap.size ≤ gb427))
     clear HB
     have HB := n0_
     have BK427 := n1_
     have GW427 := n2_
     have GE427 := n3_
     clear n0_ n1_ n2_ n3_
     clear hb hbox hg
     refine hK.out _ _ ⟨(cellB hw425_0), (cellB hw425_1), (cellB hw425_2), (cellB hw425_3), (cellB hw425_4), (cellB hw426_0), (cellB hw426_1), (cellB hw426_2), (cellB hw426_3), (cellB hw426_4)⟩ (fun hHeld => ?_)
     clear hK K
     refine norm_ (a' := ?_) ?_ ?_
     rotate_left
     ·show Act.put _ (some 6) _ = _
      simp only [Act.put, List.setIfInBounds_toArray, List.set_cons_zero, List.set_cons_succ, i64_w, i32_w]
      rfl
     refine one_ (i := 9) (N := some 7) #[true, true, true, true, true, true, true, true, true, true, false, false] rfl rfl (one_of HG_.out (by kernel_rfl)) (by decide) (fun K hK => ?_)
     refine box_step ?hg (N := 7) ?hd (cs := #[.int .i64 0, .int .i64 0, .bool false, .string (⟨#[]⟩ : ByteArray), .slice none 0 0]) (t := 41) ?hr ?_; (case hd => rfl); (case hg => rfl); (case hr => first | (go_simp; done) | (go_simp; rfl))
     intro gb428 hg w12 hbox hb
     have n0_ := Aside0.mk (blk_below (g := gb427) (o := .cells #[.int .i64 0, .int .i64 0, .bool false, .string (⟨#[]⟩ : ByteArray), .slice none 0 0] 41 (0, 0)) (boW BK427.out) hb)
     have n1_ := Aside0.mk (below_step (by repeat (first | (with_reducible first | exact HB.out | apply below_alloc | apply pw_below_drewN | apply below_drew1 | refine below_set ?_ GE427.out) | exact HB.out)) hb)
     have n2_ := Aside0.mk (hbox)
     have n3_ := Aside0.mk ((by rw [hg]; exact (below_size (by repeat (first | (with_reducible first | exact HB.out | apply below_alloc | apply pw_below_drewN | apply below_drew1 | refine below_set ?_ GE427.out) | exact HB.out))) : w.heap.size ≤ gb428))
     have n4_ := Aside0.mk ((by rw [hg]; exact (below_size (by repeat (first | (with_reducible first | exact HB.out | apply below_alloc | apply pw_below_drewN | apply below_drew1 | refine below_set ?_ GE427.out) | exact HB.out))) : w.heap.size ≤ gb428))
     have n5_ := Aside0.mk ((by rw [hg]; exact Nat.ne_of_lt (blk_lt (g := gb427) (o := .cells #[.int .i64 0, .int .i64 0, .bool false, .string (⟨#[]⟩ : ByteArray), .slice none 0 0] 41 (0, 0)) (boW BK427.out)) : gb427 ≠ gb428))
     have n6_ := Aside0.mk ((by rw [hg]; exact Nat.ne_of_gt (blk_lt (g := gb427) (o := .cells #[.int .i64 0, .int .i64 0, .bool false, .string (⟨#[]⟩ : ByteArray), .slice none 0 0] 41 (0, 0)) (boW BK427.out)) : gb428 ≠ gb427))
     clear BK427
     clear HB
     have BK427 := n0_
     have HB := n1_
     have BK428 := n2_
     have GW428 := n3_
     have GE428 := n4_
     have NB427_428 := n5_
     have NB428_427 := n6_
     clear n0_ n1_ n2_ n3_ n4_ n5_ n6_
     clear hb hbox hg
     refine hK.out _ _ ⟨(cellB hw425_0), (cellB hw425_1), (cellB hw425_2), (cellB hw425_3), (cellB hw425_4), (cellB hw426_0), (cellB hw426_1), (cellB hw426_2), (cellB hw426_3), (cellB hw426_4)⟩ (fun hHeld => ?_)
     clear hK K
     refine norm_ (a' := ?_) ?_ ?_
     rotate_left
     ·show Act.put _ (some 7) _ = _
      simp only [Act.put, List.setIfInBounds_toArray, List.set_cons_zero, List.set_cons_succ, i64_w, i32_w]
      rfl
     exact norm_ (by simp only [putAll, Act.put, List.setIfInBounds_toArray, List.set_cons_zero, List.set_cons_succ]) (hCont (gb427, gb428) _ ⟨hHeld, (boW BK427.out), (boW BK428.out), GW427.out, GE427.out, NB428_427.out, NB427_428.out, GW428.out, GE428.out, (by repeat (first | (with_reducible first | exact HB.out | apply below_alloc | apply pw_below_drewN | apply below_drew1 | refine below_set ?_ GE427.out | refine below_set ?_ GE428.out) | exact HB.out))⟩)
    ·skip
     refine box_step ?hg (N := 7) ?hd (cs := #[.int .i64 0, .int .i64 0, .bool false, .string (⟨#[]⟩ : ByteArray), .slice none 0 0]) (t := 41) ?hr ?_; (case hd => rfl); (case hg => rfl); (case hr => first | (go_simp; done) | (go_simp; rfl))
     intro gb428 hg w11 hbox hb
     have n0_ := Aside0.mk (below_step blw hb)
     have n1_ := Aside0.mk (hbox)
     have n2_ := Aside0.mk ((by rw [hg]; exact (below_size blw) : w.heap.size ≤ gb428))
     have n3_ := Aside0.mk ((by rw [hg]; exact (below_size blw) : w.heap.size ≤ gb428))
     clear HB
     have HB := n0_
     have BK428 := n1_
     have GW428 := n2_
     have GE428 := n3_
     clear n0_ n1_ n2_ n3_
     clear hb hbox hg
     refine hK.out _ _ ⟨(cellB hw425_0), (cellB hw425_1), (cellB hw425_2), (cellB hw425_3), (cellB hw425_4), (cellB hw426_0), (cellB hw426_1), (cellB hw426_2), (cellB hw426_3), (cellB hw426_4)⟩ (fun hHeld => ?_)
     clear hK K
     refine norm_ (a' := ?_) ?_ ?_
     rotate_left
     ·show Act.put _ (some 7) _ = _
      simp only [Act.put, List.setIfInBounds_toArray, List.set_cons_zero, List.set_cons_succ, i64_w, i32_w]
      rfl
     refine one_ (i := 8) (N := some 6) #[true, true, true, true, true, true, true, true, true, true, false, false] rfl rfl (one_of HG_.out (by kernel_rfl)) (by decide) (fun K hK => ?_)
     refine box_step ?hg (N := 6) ?hd (cs := #[.int .i64 0, .int .i64 0, .bool false, .string (⟨#[]⟩ : ByteArray), .slice none 0 0]) (t := 41) ?hr ?_; (case hd => rfl); (case hg => rfl); (case hr => first | (go_simp; done) | (go_simp; rfl))
     intro gb427 hg w12 hbox hb
     have n0_ := Aside0.mk (blk_below (g := gb428) (o := .cells #[.int .i64 0, .int .i64 0, .bool false, .string (⟨#[]⟩ : ByteArray), .slice none 0 0] 41 (0, 0)) (boW BK428.out) hb)
     have n1_ := Aside0.mk (below_step (by repeat (first | (with_reducible first | exact HB.out | apply below_alloc | apply pw_below_drewN | apply below_drew1 | refine below_set ?_ GE428.out) | exact HB.out)) hb)
     have n2_ := Aside0.mk (hbox)
     have n3_ := Aside0.mk ((by rw [hg]; exact (below_size (by repeat (first | (with_reducible first | exact HB.out | apply below_alloc | apply pw_below_drewN | apply below_drew1 | refine below_set ?_ GE428.out) | exact HB.out))) : w.heap.size ≤ gb427))
     have n4_ := Aside0.mk ((by rw [hg]; exact (below_size (by repeat (first | (with_reducible first | exact HB.out | apply below_alloc | apply pw_below_drewN | apply below_drew1 | refine below_set ?_ GE428.out) | exact HB.out))) : w.heap.size ≤ gb427))
     have n5_ := Aside0.mk ((by rw [hg]; exact Nat.ne_of_lt (blk_lt (g := gb428) (o := .cells #[.int .i64 0, .int .i64 0, .bool false, .string (⟨#[]⟩ : ByteArray), .slice none 0 0] 41 (0, 0)) (boW BK428.out)) : gb428 ≠ gb427))
     have n6_ := Aside0.mk ((by rw [hg]; exact Nat.ne_of_gt (blk_lt (g := gb428) (o := .cells #[.int .i64 0, .int .i64 0, .bool false, .string (⟨#[]⟩ : ByteArray), .slice none 0 0] 41 (0, 0)) (boW BK428.out)) : gb427 ≠ gb428))
     clear BK428
     clear HB
     have BK428 := n0_
     have HB := n1_
     have BK427 := n2_
     have GW427 := n3_
     have GE427 := n4_
     have NB428_427 := n5_
     have NB427_428 := n6_
     clear n0_ n1_ n2_ n3_ n4_ n5_ n6_
     clear hb hbox hg
     refine hK.out _ _ ⟨(cellB hw425_0), (cellB hw425_1), (cellB hw425_2), (cellB hw425_3), (cellB hw425_4), (cellB hw426_0), (cellB hw426_1), (cellB hw426_2), (cellB hw426_3), (cellB hw426_4)⟩ (fun hHeld => ?_)
     clear hK K
     refine norm_ (a' := ?_) ?_ ?_
     rotate_left
     ·show Act.put _ (some 6) _ = _
      simp only [Act.put, List.setIfInBounds_toArray, List.set_cons_zero, List.set_cons_succ, i64_w, i32_w]
      rfl
     exact norm_ (by simp only [putAll, Act.put, List.setIfInBounds_toArray, List.set_cons_zero, List.set_cons_succ]) (hCont (gb427, gb428) _ ⟨hHeld, (boW BK427.out), (boW BK428.out), GW427.out, GE427.out, NB428_427.out, NB427_428.out, GW428.out, GE428.out, (by repeat (first | (with_reducible first | exact HB.out | apply below_alloc | apply pw_below_drewN | apply below_drew1 | refine below_set ?_ GE428.out | refine below_set ?_ GE427.out) | exact HB.out))⟩)
   rintro ⟨gb427, gb428⟩ w13 ⟨hS_, h0_, h1_, h2_, h3_, h4_, h5_, h6_, h7_, h8_⟩
   have n0_ : Aside0 (w13.heap[gb427]? = some (.cells #[.int .i64 0, .int .i64 0, .bool false, .string (⟨#[]⟩ : ByteArray), .slice none 0 0] 41 (0, 0))) := ⟨h0_⟩
   have n1_ : Aside0 (w13.heap[gb428]? = some (.cells #[.int .i64 0, .int .i64 0, .bool false, .string (⟨#[]⟩ : ByteArray), .slice none 0 0] 41 (0, 0))) := ⟨h1_⟩
   have n2_ : Aside0 (w.heap.size ≤ gb427) := ⟨h2_⟩
   have n3_ : Aside0 (w.heap.size ≤ gb427) := ⟨h3_⟩
   have n4_ : Aside0 (gb428 ≠ gb427) := ⟨h4_⟩
   have n5_ : Aside0 (gb427 ≠ gb428) := ⟨h5_⟩
   have n6_ : Aside0 (w.heap.size ≤ gb428) := ⟨h6_⟩
   have n7_ : Aside0 (w.heap.size ≤ gb428) := ⟨h7_⟩
   have n8_ : Aside0 (Below w.heap.size w w13) := ⟨h8_⟩
   clear HB
   clear h0_ h1_ h2_ h3_ h4_ h5_ h6_ h7_ h8_
   have BK427 := n0_
   have BK428 := n1_
   have GW427 := n2_
   have GE427 := n3_
   have NB428_427 := n4_
   have NB427_428 := n5_
   have GW428 := n6_
   have GE428 := n7_
   have HB := n8_
   clear n0_ n1_ n2_ n3_ n4_ n5_ n6_ n7_ n8_
   have hHeld : w13.cell? (ad425.add ((x5_1).toNat * 5)) = some (.int .i64 ((rd_T41 l0 x5_1).f0)) ∧ w13.cell? ⟨(ad425.add ((x5_1).toNat * 5)).block, (ad425.add ((x5_1).toNat * 5)).off + 1, none⟩ = some (.int .i64 ((rd_T41 l0 x5_1).f1)) ∧ w13.cell? ⟨(ad425.add ((x5_1).toNat * 5)).block, (ad425.add ((x5_1).toNat * 5)).off + 2, none⟩ = some (.bool ((rd_T41 l0 x5_1).f2)) ∧ w13.cell? ⟨(ad425.add ((x5_1).toNat * 5)).block, (ad425.add ((x5_1).toNat * 5)).off + 3, none⟩ = some (.string ((rd_T41 l0 x5_1).f3)) ∧ w13.cell? ⟨(ad425.add ((x5_1).toNat * 5)).block, (ad425.add ((x5_1).toNat * 5)).off + 4, none⟩ = some (.slice A425_4 ((rd_T41 l0 x5_1).f4).length c425_4) ∧ w13.cell? (ad426.add ((x5_1).toNat * 5)) = some (.int .i64 ((rd_T41 l1 x5_1).f0)) ∧ w13.cell? ⟨(ad426.add ((x5_1).toNat * 5)).block, (ad426.add ((x5_1).toNat * 5)).off + 1, none⟩ = some (.int .i64 ((rd_T41 l1 x5_1).f1)) ∧ w13.cell? ⟨(ad426.add ((x5_1).toNat * 5)).block, (ad426.add ((x5_1).toNat * 5)).off + 2, none⟩ = some (.bool ((rd_T41 l1 x5_1).f2)) ∧ w13.cell? ⟨(ad426.add ((x5_1).toNat * 5)).block, (ad426.add ((x5_1).toNat * 5)).off + 3, none⟩ = some (.string ((rd_T41 l1 x5_1).f3)) ∧ w13.cell? ⟨(ad426.add ((x5_1).toNat * 5)).block, (ad426.add ((x5_1).toNat * 5)).off + 4, none⟩ = some (.slice A426_4 ((rd_T41 l1 x5_1).f4).length c426_4) := hS_
   refine norm_ (a' := ?_) ?_ ?_
   rotate_left
   ·simp only [putAll, Act.put, List.setIfInBounds_toArray, List.set_cons_zero, List.set_cons_succ]
    rfl
   refine one_ (i := 10) (N := none) #[true, true, true, true, true, true, true, true, true, true, true, false] rfl rfl (one_of HG_.out (by kernel_rfl)) (by decide) (fun K hK => ?_)
   have hs14 : w13.cell? ⟨gb427, 0, none⟩ = some (.int .i64 0) := (blk_cell BK427.out 0).trans rfl
   have hfs14 := blk_frozen BK427.out 0
   have hns14_1 := NB428_427.out
   have hms14_1 := NB427_428.out
   have hs15 : w13.cell? ⟨gb427, 1, none⟩ = some (.int .i64 0) := (blk_cell BK427.out 1).trans rfl
   have hfs15 := blk_frozen BK427.out 1
   have hns15_1 := NB428_427.out
   have hms15_1 := NB427_428.out
   have hs16 : w13.cell? ⟨gb427, 2, none⟩ = some (.bool false) := (blk_cell BK427.out 2).trans rfl
   have hfs16 := blk_frozen BK427.out 2
   have hns16_1 := NB428_427.out
   have hms16_1 := NB427_428.out
   have hs17 : w13.cell? ⟨gb427, 3, none⟩ = some (.string (⟨#[]⟩ : ByteArray)) := (blk_cell BK427.out 3).trans rfl
   have hfs17 := blk_frozen BK427.out 3
   have hns17_1 := NB428_427.out
   have hms17_1 := NB427_428.out
   have hs18 : w13.cell? ⟨gb427, 4, none⟩ = some (.slice none 0 0) := (blk_cell BK427.out 4).trans rfl
   have hfs18 := blk_frozen BK427.out 4
   have hns18_1 := NB428_427.out
   have hms18_1 := NB427_428.out
   refine skip_ (w1 := ?_) (by rfl) rfl ?_ ?_
   rotate_left
   ·go_simp
    rfl
   refine hK.out _ _ ⟨((cell_far (p := ⟨gb427, _, none⟩) (farb hw425_0 GW427.out) _).trans (((cell_far (p := ⟨gb427, _, none⟩) (farb hw425_0 GW427.out) _).trans (((cell_far (p := ⟨gb427, _, none⟩) (farb hw425_0 GW427.out) _).trans (((cell_far (p := ⟨gb427, _, none⟩) (farb hw425_0 GW427.out) _).trans (((cell_far (p := ⟨gb427, _, none⟩) (farb hw425_0 GW427.out) _).trans (hHeld.1)))))))))), ((cell_far (p := ⟨gb427, _, none⟩) (farb hw425_1 GW427.out) _).trans (((cell_far (p := ⟨gb427, _, none⟩) (farb hw425_1 GW427.out) _).trans (((cell_far (p := ⟨gb427, _, none⟩) (farb hw425_1 GW427.out) _).trans (((cell_far (p := ⟨gb427, _, none⟩) (farb hw425_1 GW427.out) _).trans (((cell_far (p := ⟨gb427, _, none⟩) (farb hw425_1 GW427.out) _).trans (hHeld.2.1)))))))))), ((cell_far (p := ⟨gb427, _, none⟩) (farb hw425_2 GW427.out) _).trans (((cell_far (p := ⟨gb427, _, none⟩) (farb hw425_2 GW427.out) _).trans (((cell_far (p := ⟨gb427, _, none⟩) (farb hw425_2 GW427.out) _).trans (((cell_far (p := ⟨gb427, _, none⟩) (farb hw425_2 GW427.out) _).trans (((cell_far (p := ⟨gb427, _, none⟩) (farb hw425_2 GW427.out) _).trans (hHeld.2.2.1)))))))))), ((cell_far (p := ⟨gb427, _, none⟩) (farb hw425_3 GW427.out) _).trans (((cell_far (p := ⟨gb427, _, none⟩) (farb hw425_3 GW427.out) _).trans (((cell_far (p := ⟨gb427, _, none⟩) (farb hw425_3 GW427.out) _).trans (((cell_far (p := ⟨gb427, _, none⟩) (farb hw425_3 GW427.out) _).trans (((cell_far (p := ⟨gb427, _, none⟩) (farb hw425_3 GW427.out) _).trans (hHeld.2.2.2.1)))))))))), ((cell_far (p := ⟨gb427, _, none⟩) (farb hw425_4 GW427.out) _).trans (((cell_far (p := ⟨gb427, _, none⟩) (farb hw425_4 GW427.out) _).trans (((cell_far (p := ⟨gb427, _, none⟩) (farb hw425_4 GW427.out) _).trans (((cell_far (p := ⟨gb427, _, none⟩) (farb hw425_4 GW427.out) _).trans (((cell_far (p := ⟨gb427, _, none⟩) (farb hw425_4 GW427.out) _).trans (hHeld.2.2.2.2.1)))))))))), ((cell_far (p := ⟨gb427, _, none⟩) (farb hw426_0 GW427.out) _).trans (((cell_far (p := ⟨gb427, _, none⟩) (farb hw426_0 GW427.out) _).trans (((cell_far (p := ⟨gb427, _, none⟩) (farb hw426_0 GW427.out) _).trans (((cell_far (p := ⟨gb427, _, none⟩) (farb hw426_0 GW427.out) _).trans (((cell_far (p := ⟨gb427, _, none⟩) (farb hw426_0 GW427.out) _).trans (hHeld.2.2.2.2.2.1)))))))))), ((cell_far (p := ⟨gb427, _, none⟩) (farb hw426_1 GW427.out) _).trans (((cell_far (p := ⟨gb427, _, none⟩) (farb hw426_1 GW427.out) _).trans (((cell_far (p := ⟨gb427, _, none⟩) (farb hw426_1 GW427.out) _).trans (((cell_far (p := ⟨gb427, _, none⟩) (farb hw426_1 GW427.out) _).trans (((cell_far (p := ⟨gb427, _, none⟩) (farb hw426_1 GW427.out) _).trans (hHeld.2.2.2.2.2.2.1)))))))))), ((cell_far (p := ⟨gb427, _, none⟩) (farb hw426_2 GW427.out) _).trans (((cell_far (p := ⟨gb427, _, none⟩) (farb hw426_2 GW427.out) _).trans (((cell_far (p := ⟨gb427, _, none⟩) (farb hw426_2 GW427.out) _).trans (((cell_far (p := ⟨gb427, _, none⟩) (farb hw426_2 GW427.out) _).trans (((cell_far (p := ⟨gb427, _, none⟩) (farb hw426_2 GW427.out) _).trans (hHeld.2.2.2.2.2.2.2.1)))))))))), ((cell_far (p := ⟨gb427, _, none⟩) (farb hw426_3 GW427.out) _).trans (((cell_far (p := ⟨gb427, _, none⟩) (farb hw426_3 GW427.out) _).trans (((cell_far (p := ⟨gb427, _, none⟩) (farb hw426_3 GW427.out) _).trans (((cell_far (p := ⟨gb427, _, none⟩) (farb hw426_3 GW427.out) _).trans (((cell_far (p := ⟨gb427, _, none⟩) (farb hw426_3 GW427.out) _).trans (hHeld.2.2.2.2.2.2.2.2.1)))))))))), ((cell_far (p := ⟨gb427, _, none⟩) (farb hw426_4 GW427.out) _).trans (((cell_far (p := ⟨gb427, _, none⟩) (farb hw426_4 GW427.out) _).trans (((cell_far (p := ⟨gb427, _, none⟩) (farb hw426_4 GW427.out) _).trans (((cell_far (p := ⟨gb427, _, none⟩) (farb hw426_4 GW427.out) _).trans (((cell_far (p := ⟨gb427, _, none⟩) (farb hw426_4 GW427.out) _).trans (hHeld.2.2.2.2.2.2.2.2.2))))))))))⟩ (fun hHeld => ?_)
   clear hK K
   refine one_ (i := 11) (N := none) #[true, true, true, true, true, true, true, true, true, true, true, true] rfl rfl (one_of HG_.out (by kernel_rfl)) (by decide) (fun K hK => ?_)
   have hs19 : w13.cell? ⟨gb428, 0, none⟩ = some (.int .i64 0) := (blk_cell BK428.out 0).trans rfl
   have hfs19 := blk_frozen BK428.out 0
   have hns19_0 := NB427_428.out
   have hms19_0 := NB428_427.out
   have hs20 : w13.cell? ⟨gb428, 1, none⟩ = some (.int .i64 0) := (blk_cell BK428.out 1).trans rfl
   have hfs20 := blk_frozen BK428.out 1
   have hns20_0 := NB427_428.out
   have hms20_0 := NB428_427.out
   have hs21 : w13.cell? ⟨gb428, 2, none⟩ = some (.bool false) := (blk_cell BK428.out 2).trans rfl
   have hfs21 := blk_frozen BK428.out 2
   have hns21_0 := NB427_428.out
   have hms21_0 := NB428_427.out
   have hs22 : w13.cell? ⟨gb428, 3, none⟩ = some (.string (⟨#[]⟩ : ByteArray)) := (blk_cell BK428.out 3).trans rfl
   have hfs22 := blk_frozen BK428.out 3
   have hns22_0 := NB427_428.out
   have hms22_0 := NB428_427.out
   have hs23 : w13.cell? ⟨gb428, 4, none⟩ = some (.slice none 0 0) := (blk_cell BK428.out 4).trans rfl
   have hfs23 := blk_frozen BK428.out 4
   have hns23_0 := NB427_428.out
   have hms23_0 := NB428_427.out
   refine skip_ (w1 := ?_) (by rfl) rfl ?_ ?_
   rotate_left
   ·go_simp
    rfl
   refine hK.out _ _ ⟨((cell_far (p := ⟨gb428, _, none⟩) (farb hw425_0 GW428.out) _).trans (((cell_far (p := ⟨gb428, _, none⟩) (farb hw425_0 GW428.out) _).trans (((cell_far (p := ⟨gb428, _, none⟩) (farb hw425_0 GW428.out) _).trans (((cell_far (p := ⟨gb428, _, none⟩) (farb hw425_0 GW428.out) _).trans (((cell_far (p := ⟨gb428, _, none⟩) (farb hw425_0 GW428.out) _).trans (hHeld.1)))))))))), ((cell_far (p := ⟨gb428, _, none⟩) (farb hw425_1 GW428.out) _).trans (((cell_far (p := ⟨gb428, _, none⟩) (farb hw425_1 GW428.out) _).trans (((cell_far (p := ⟨gb428, _, none⟩) (farb hw425_1 GW428.out) _).trans (((cell_far (p := ⟨gb428, _, none⟩) (farb hw425_1 GW428.out) _).trans (((cell_far (p := ⟨gb428, _, none⟩) (farb hw425_1 GW428.out) _).trans (hHeld.2.1)))))))))), ((cell_far (p := ⟨gb428, _, none⟩) (farb hw425_2 GW428.out) _).trans (((cell_far (p := ⟨gb428, _, none⟩) (farb hw425_2 GW428.out) _).trans (((cell_far (p := ⟨gb428, _, none⟩) (farb hw425_2 GW428.out) _).trans (((cell_far (p := ⟨gb428, _, none⟩) (farb hw425_2 GW428.out) _).trans (((cell_far (p := ⟨gb428, _, none⟩) (farb hw425_2 GW428.out) _).trans (hHeld.2.2.1)))))))))), ((cell_far (p := ⟨gb428, _, none⟩) (farb hw425_3 GW428.out) _).trans (((cell_far (p := ⟨gb428, _, none⟩) (farb hw425_3 GW428.out) _).trans (((cell_far (p := ⟨gb428, _, none⟩) (farb hw425_3 GW428.out) _).trans (((cell_far (p := ⟨gb428, _, none⟩) (farb hw425_3 GW428.out) _).trans (((cell_far (p := ⟨gb428, _, none⟩) (farb hw425_3 GW428.out) _).trans (hHeld.2.2.2.1)))))))))), ((cell_far (p := ⟨gb428, _, none⟩) (farb hw425_4 GW428.out) _).trans (((cell_far (p := ⟨gb428, _, none⟩) (farb hw425_4 GW428.out) _).trans (((cell_far (p := ⟨gb428, _, none⟩) (farb hw425_4 GW428.out) _).trans (((cell_far (p := ⟨gb428, _, none⟩) (farb hw425_4 GW428.out) _).trans (((cell_far (p := ⟨gb428, _, none⟩) (farb hw425_4 GW428.out) _).trans (hHeld.2.2.2.2.1)))))))))), ((cell_far (p := ⟨gb428, _, none⟩) (farb hw426_0 GW428.out) _).trans (((cell_far (p := ⟨gb428, _, none⟩) (farb hw426_0 GW428.out) _).trans (((cell_far (p := ⟨gb428, _, none⟩) (farb hw426_0 GW428.out) _).trans (((cell_far (p := ⟨gb428, _, none⟩) (farb hw426_0 GW428.out) _).trans (((cell_far (p := ⟨gb428, _, none⟩) (farb hw426_0 GW428.out) _).trans (hHeld.2.2.2.2.2.1)))))))))), ((cell_far (p := ⟨gb428, _, none⟩) (farb hw426_1 GW428.out) _).trans (((cell_far (p := ⟨gb428, _, none⟩) (farb hw426_1 GW428.out) _).trans (((cell_far (p := ⟨gb428, _, none⟩) (farb hw426_1 GW428.out) _).trans (((cell_far (p := ⟨gb428, _, none⟩) (farb hw426_1 GW428.out) _).trans (((cell_far (p := ⟨gb428, _, none⟩) (farb hw426_1 GW428.out) _).trans (hHeld.2.2.2.2.2.2.1)))))))))), ((cell_far (p := ⟨gb428, _, none⟩) (farb hw426_2 GW428.out) _).trans (((cell_far (p := ⟨gb428, _, none⟩) (farb hw426_2 GW428.out) _).trans (((cell_far (p := ⟨gb428, _, none⟩) (farb hw426_2 GW428.out) _).trans (((cell_far (p := ⟨gb428, _, none⟩) (farb hw426_2 GW428.out) _).trans (((cell_far (p := ⟨gb428, _, none⟩) (farb hw426_2 GW428.out) _).trans (hHeld.2.2.2.2.2.2.2.1)))))))))), ((cell_far (p := ⟨gb428, _, none⟩) (farb hw426_3 GW428.out) _).trans (((cell_far (p := ⟨gb428, _, none⟩) (farb hw426_3 GW428.out) _).trans (((cell_far (p := ⟨gb428, _, none⟩) (farb hw426_3 GW428.out) _).trans (((cell_far (p := ⟨gb428, _, none⟩) (farb hw426_3 GW428.out) _).trans (((cell_far (p := ⟨gb428, _, none⟩) (farb hw426_3 GW428.out) _).trans (hHeld.2.2.2.2.2.2.2.2.1)))))))))), ((cell_far (p := ⟨gb428, _, none⟩) (farb hw426_4 GW428.out) _).trans (((cell_far (p := ⟨gb428, _, none⟩) (farb hw426_4 GW428.out) _).trans (((cell_far (p := ⟨gb428, _, none⟩) (farb hw426_4 GW428.out) _).trans (((cell_far (p := ⟨gb428, _, none⟩) (farb hw426_4 GW428.out) _).trans (((cell_far (p := ⟨gb428, _, none⟩) (farb hw426_4 GW428.out) _).trans (hHeld.2.2.2.2.2.2.2.2.2))))))))))⟩ (fun hHeld => ?_)
   clear hK K
   refine done_ (done_of HG_.out (by kernel_rfl)) ?_
   have hnb24 := NB427_428.out
   have hnc24 := NB428_427.out
   have hcz25_0 : w13.cell? ⟨gb427, 0, none⟩ = some (.int .i64 0) := (blk_cell BK427.out 0).trans rfl
   have hcz25_1 : w13.cell? ⟨gb427, 1, none⟩ = some (.int .i64 0) := (blk_cell BK427.out 1).trans rfl
   have hcz25_2 : w13.cell? ⟨gb427, 2, none⟩ = some (.bool false) := (blk_cell BK427.out 2).trans rfl
   have hcz25_3 : w13.cell? ⟨gb427, 3, none⟩ = some (.string (⟨#[]⟩ : ByteArray)) := (blk_cell BK427.out 3).trans rfl
   have hcz25_4 : w13.cell? ⟨gb427, 4, none⟩ = some (.slice none 0 0) := (blk_cell BK427.out 4).trans rfl
   have hfz25_0 := blk_frozen BK427.out 0
   have hfz25_1 := blk_frozen BK427.out 1
   have hfz25_2 := blk_frozen BK427.out 2
   have hfz25_3 := blk_frozen BK427.out 3
   have hfz25_4 := blk_frozen BK427.out 4
   have hcz26_0 : w13.cell? ⟨gb428, 0, none⟩ = some (.int .i64 0) := (blk_cell BK428.out 0).trans rfl
   have hcz26_1 : w13.cell? ⟨gb428, 1, none⟩ = some (.int .i64 0) := (blk_cell BK428.out 1).trans rfl
   have hcz26_2 : w13.cell? ⟨gb428, 2, none⟩ = some (.bool false) := (blk_cell BK428.out 2).trans rfl
   have hcz26_3 : w13.cell? ⟨gb428, 3, none⟩ = some (.string (⟨#[]⟩ : ByteArray)) := (blk_cell BK428.out 3).trans rfl
   have hcz26_4 : w13.cell? ⟨gb428, 4, none⟩ = some (.slice none 0 0) := (blk_cell BK428.out 4).trans rfl
   have hfz26_0 := blk_frozen BK428.out 0
   have hfz26_1 := blk_frozen BK428.out 1
   have hfz26_2 := blk_frozen BK428.out 2
   have hfz26_3 := blk_frozen BK428.out 3
   have hfz26_4 := blk_frozen BK428.out 4
   by_cases c7 : ((rd_T41 l0 x5_1).f0) = ((rd_T41 l1 x5_1).f0)
   case neg =>
    rw [if_neg c7] at H
    have c7b0 : (((rd_T41 l0 x5_1).f0) == ((rd_T41 l1 x5_1).f0)) = false := beq_eq_false_iff_ne.mpr c7
    have c7b1 : (((rd_T41 l0 x5_1).f0) != ((rd_T41 l1 x5_1).f0)) = true := bne_iff_ne.mpr c7
    obtain rfl := Option.some.inj H
    try go_wp2
    go_ret
    exact ⟨rse, by repeat (first | (with_reducible first | exact HB.out | apply below_alloc | apply pw_below_drewN | apply below_drew1 | refine below_set ?_ GE427.out | refine below_set ?_ GE428.out) | exact HB.out)⟩
   rw [if_pos c7] at H
   have c7b0 : (((rd_T41 l0 x5_1).f0) == ((rd_T41 l1 x5_1).f0)) = true := beq_iff_eq.mpr c7
   have c7b1 : (((rd_T41 l0 x5_1).f0) != ((rd_T41 l1 x5_1).f0)) = false := bne_eq_false_iff_eq.mpr c7
   clear c7
   by_cases c8 : ((rd_T41 l0 x5_1).f1) = ((rd_T41 l1 x5_1).f1)
   case neg =>
    rw [if_neg c8] at H
    have c8b0 : (((rd_T41 l0 x5_1).f1) == ((rd_T41 l1 x5_1).f1)) = false := beq_eq_false_iff_ne.mpr c8
    have c8b1 : (((rd_T41 l0 x5_1).f1) != ((rd_T41 l1 x5_1).f1)) = true := bne_iff_ne.mpr c8
    obtain rfl := Option.some.inj H
    try go_wp2
    go_ret
    exact ⟨rse, by repeat (first | (with_reducible first | exact HB.out | apply below_alloc | apply pw_below_drewN | apply below_drew1 | refine below_set ?_ GE427.out | refine below_set ?_ GE428.out) | exact HB.out)⟩
   rw [if_pos c8] at H
   have c8b0 : (((rd_T41 l0 x5_1).f1) == ((rd_T41 l1 x5_1).f1)) = true := beq_iff_eq.mpr c8
   have c8b1 : (((rd_T41 l0 x5_1).f1) != ((rd_T41 l1 x5_1).f1)) = false := bne_eq_false_iff_eq.mpr c8
   clear c8
   by_cases c9 : (((rd_T41 l0 x5_1).f2) != ((rd_T41 l1 x5_1).f2)) = true
   case pos =>
    rw [if_pos c9] at H
    have c9b0 : (((rd_T41 l0 x5_1).f2) != ((rd_T41 l1 x5_1).f2)) = true := c9
    (try (have c9b1 : decide (((rd_T41 l0 x5_1).f2) = ((rd_T41 l1 x5_1).f2)) = false := by simpa using c9))
    (try (have c9b2 : (((rd_T41 l0 x5_1).f2) == ((rd_T41 l1 x5_1).f2)) = false := by simpa using c9))
    (try (have c9b3 : ¬ (((rd_T41 l0 x5_1).f2) = ((rd_T41 l1 x5_1).f2)) := by simpa using c9))
    clear c9
    obtain rfl := Option.some.inj H
    try go_wp2
    go_ret
    exact ⟨rse, by repeat (first | (with_reducible first | exact HB.out | apply below_alloc | apply pw_below_drewN | apply below_drew1 | refine below_set ?_ GE427.out | refine below_set ?_ GE428.out) | exact HB.out)⟩
   rw [if_neg c9] at H
   have c9b0 : (((rd_T41 l0 x5_1).f2) != ((rd_T41 l1 x5_1).f2)) = false := by simpa using c9
   (try (have c9b1 : decide (((rd_T41 l0 x5_1).f2) = ((rd_T41 l1 x5_1).f2)) = true := by simpa using c9))
   (try (have c9b2 : (((rd_T41 l0 x5_1).f2) == ((rd_T41 l1 x5_1).f2)) = true := by simpa using c9))
   clear c9
   by_cases c27 : ((rd_T41 l0 x5_1).f3).toList = ((rd_T41 l1 x5_1).f3).toList
   case neg =>
    rw [if_neg c27] at H
    have c27b0 : (((rd_T41 l0 x5_1).f3).toList == ((rd_T41 l1 x5_1).f3).toList) = false := beq_eq_false_iff_ne.mpr c27
    have c27b1 : (((rd_T41 l0 x5_1).f3).toList != ((rd_T41 l1 x5_1).f3).toList) = true := bne_iff_ne.mpr c27
    obtain rfl := Option.some.inj H
    try go_wp2
    go_ret
    exact ⟨rse, by repeat (first | (with_reducible first | exact HB.out | apply below_alloc | apply pw_below_drewN | apply below_drew1 | refine below_set ?_ GE427.out | refine below_set ?_ GE428.out) | exact HB.out)⟩
   rw [if_pos c27] at H
   have c27b0 : (((rd_T41 l0 x5_1).f3).toList == ((rd_T41 l1 x5_1).f3).toList) = true := beq_iff_eq.mpr c27
   have c27b1 : (((rd_T41 l0 x5_1).f3).toList != ((rd_T41 l1 x5_1).f3).toList) = false := bne_eq_false_iff_eq.mpr c27
   clear c27
   replace H := Option.bind_eq_some_iff.mp H
   obtain ⟨t429, A280, H⟩ := H
   replace H : (if t429 = true then (cp_Same.l0 k1 l0 l1 (wrap64 (x5_1 + 1))) else (some false)) = some r := H
   have A28 := Aside0.mk A280
   clear A280
   by_cases c29 : t429 = true
   case neg =>
    replace c29 := Bool.eq_false_iff.mpr c29
    subst c29
    have H1 : (some false) = some r := by rw [if_neg (show ¬ (false = true) by decide)] at H; exact H
    clear H
    have H := H1
    clear H1
    obtain rfl := Option.some.inj H
    try go_wp2_with (first | (go_at_call 31; (with_reducible refine (cp_Ints.calls k1 _ _ ((rd_T41 l0 x5_1).f4) _ _ ((rd_T41 l1 x5_1).f4) false _ ?side1 ?side2 ?side3 ?side4 A28.out).mono ?_); (case side1 => exact Kd.C_below HR425_4.out (by repeat (first | (with_reducible first | exact HB.out | apply below_alloc | apply pw_below_drewN | apply below_drew1 | refine below_set ?_ GE427.out | refine below_set ?_ GE428.out) | exact HB.out))); (case side2 => exact HC425_4.out); (case side3 => exact Kd.C_below HR426_4.out (by repeat (first | (with_reducible first | exact HB.out | apply below_alloc | apply pw_below_drewN | apply below_drew1 | refine below_set ?_ GE427.out | refine below_set ?_ GE428.out) | exact HB.out))); (case side4 => exact HC426_4.out); rintro e w' ⟨rfl, ⟨nd, rfl⟩⟩))
    go_ret
    exact ⟨rse, by repeat (first | (with_reducible first | exact HB.out | apply below_alloc | apply pw_below_drewN | apply below_drew1 | refine below_set ?_ GE427.out | refine below_set ?_ GE428.out) | exact HB.out)⟩
   subst c29
   have H1 : (cp_Same.l0 k1 l0 l1 (wrap64 (x5_1 + 1))) = some r := by rw [if_pos rfl] at H; exact H
   clear H
   have H := H1
   clear H1
   have H' := Aside0.mk H
   clear H
   try go_wp2_with (first | (go_at_call 31; (with_reducible refine (cp_Ints.calls k1 _ _ ((rd_T41 l0 x5_1).f4) _ _ ((rd_T41 l1 x5_1).f4) true _ ?side1 ?side2 ?side3 ?side4 A28.out).mono ?_); (case side1 => exact Kd.C_below HR425_4.out (by repeat (first | (with_reducible first | exact HB.out | apply below_alloc | apply pw_below_drewN | apply below_drew1 | refine below_set ?_ GE427.out | refine below_set ?_ GE428.out) | exact HB.out))); (case side2 => exact HC425_4.out); (case side3 => exact Kd.C_below HR426_4.out (by repeat (first | (with_reducible first | exact HB.out | apply below_alloc | apply pw_below_drewN | apply below_drew1 | refine below_set ?_ GE427.out | refine below_set ?_ GE428.out) | exact HB.out))); (case side4 => exact HC426_4.out); rintro e w' ⟨rfl, ⟨nd, rfl⟩⟩))
   go_roundg k1
   case measure => have := HK1.out; omega
   case rel => exact ⟨(wrap64 (x5_1 + 1)), rsd, H', ⟨by have := HK1.out; omega⟩, ⟨by repeat (first | (with_reducible first | exact HB.out | apply below_alloc | apply pw_below_drewN | apply below_drew1 | refine below_set ?_ GE427.out | refine below_set ?_ GE428.out) | exact HB.out)⟩⟩

/-! ### cr20_moved: function 34 -/
def cr20_moved.l0 : Nat → List Int → Int → List Int → Int → Option (List Int)
 | 0, _, _, _, _ => none
 | k + 1, x0, x1, x5, x6 => if x6 < (x0.length : Int) then (if 0 ≤ x6 then (if x5.length < 17592186044416 then (cr20_moved.l0 k x0 x1 (x5 ++ [wrap64 ((rd x0 x6) + x1)]) (wrap64 (x6 + 1))) else (none)) else (none)) else (some x5)
def cr20_moved.f (k : Nat) (l0 : List Int) (a1 : Int) : Option (List Int) := cr20_moved.l0 k l0 a1 ([] : List Int) 0
theorem cr20_moved.mono_l : ∀ k, (∀ y0 y1 y2 y3, LeO (cr20_moved.l0 k y0 y1 y2 y3) (cr20_moved.l0 (k + 1) y0 y1 y2 y3))
 | 0 => fun _ _ _ _ r h => by simp [cr20_moved.l0] at h
 | k + 1 => by
  have ih0 := cr20_moved.mono_l k
  ·intro y0 y1 y2 y3
   unfold cr20_moved.l0
   repeat' first
   | (with_reducible first | exact ih0 _ _ _ _ | exact LeO.refl _ | exact LeO.none _ | refine LeO.ite ?_ ?_ | refine LeO.bind ?_ (fun _ => ?_))
   | exact ih0 _ _ _ _
   | exact LeO.none _
   | refine LeO.ite ?_ ?_
   | refine LeO.bind ?_ (fun _ => ?_)
theorem cr20_moved.mono : ∀ a0 a1 k, LeO (cr20_moved.f k a0 a1) (cr20_moved.f (k + 1) a0 a1) := by
 intro a0 a1 k
 have ih0 := cr20_moved.mono_l k
 unfold cr20_moved.f
 repeat' first
  | (with_reducible first | exact ih0 _ _ _ _ | exact LeO.refl _ | exact LeO.none _ | refine LeO.ite ?_ ?_ | refine LeO.bind ?_ (fun _ => ?_))
  | exact ih0 _ _ _ _
  | exact LeO.none _
  | refine LeO.ite ?_ ?_
  | refine LeO.bind ?_ (fun _ => ?_)
set_option maxHeartbeats 8000000 in
set_option maxRecDepth 100000 in
theorem cr20_moved.calls (k : Nat) (A0 : Option Addr) (c0 : Nat) (l0 : List Int) (a1 : Int) (r : List Int) (w : World) (hr0 : Kd.C (Kd.int .i64) w A0 l0.length l0) (hc0 : l0.length ≤ c0) (h : cr20_moved.f k l0 a1 = some r) :
 Calls Tryd.prog 34 #[.slice A0 l0.length c0, .int .i64 a1] w fun e w' => ∃ v0_ : Value, e = .returned (v0_) ∧ Kd.R (Kd.int .i64) 3 w' w.heap.size (fun _ => True) v0_ r ∧ Below w.heap.size w w' := by
 have HR0 := Aside0.mk hr0
 have HC0 := Aside0.mk hc0
 clear hr0 hc0
 have HB := Aside0.mk (Below.refl w.heap.size w)
 have H : (cr20_moved.l0 k l0 a1 ([] : List Int) 0) = some r := h
 clear h
 have H' := Aside0.mk H
 clear H
 go_enter Tryd.func34, Tryd.ntmps34
 go_wp2
 go_loopg [5, 6] k (fun kq v5 v6 w' => ∃ (x5_1 : List Int) (x6_1 : Int), v6 = .int .i64 x6_1 ∧ Aside0 (cr20_moved.l0 kq l0 a1 x5_1 x6_1 = some r) ∧ Aside0 (kq ≤ k) ∧ Aside0 (Kd.R (Kd.int .i64) 3 w' w.heap.size (fun _ => True) v5 x5_1) ∧ Aside0 (Below w.heap.size w w'))
 case atStart => exact ⟨(([] : List Int)), (0), rsd, H', ⟨Nat.le_refl _⟩, ⟨by first | exact Kd.R_nil _ _ _ _ _ | exact Kd.N_nil _ _ _ _ _ | exact Kd.V_nil _ _ _ _ _ | exact Kd.Q_nil _ _ _ _ _ | exact Kd.S_nil _ _ _ _ _⟩, ⟨blw⟩⟩
 case round =>
  clear H'
  obtain ⟨x5_1, x6_1, rfl, HA, HK1, HO_5, HB⟩ := hrel
  cases gk with
  | zero => exact absurd HA.out (by simp [cr20_moved.l0])
  | succ k1 =>
   have H := HA.out
   clear HA
   simp only [cr20_moved.l0] at H
   by_cases c3 : x6_1 < (l0.length : Int)
   case neg =>
    rw [if_neg c3] at H
    have c3b0 : decide (x6_1 < (l0.length : Int)) = false := decide_eq_false c3
    clear c3
    obtain rfl := Option.some.inj H
    go_wp2
    go_ret
    exact ⟨_, rse, roW HO_5.out, blw⟩
   rw [if_pos c3] at H
   have c3b0 : decide (x6_1 < (l0.length : Int)) = true := decide_eq_true c3
   clear c3
   by_cases c4 : 0 ≤ x6_1
   case neg =>
    rw [if_neg c4] at H
    exact absurd H (by simp)
   rw [if_pos c4] at H
   have c4b0 : decide (0 ≤ x6_1) = true := decide_eq_true c4
   clear c4
   by_cases c5 : x5_1.length < 17592186044416
   case neg =>
    rw [if_neg c5] at H
    exact absurd H (by simp)
   rw [if_pos c5] at H
   have LMc5 := Aside0.mk c5
   clear c5
   obtain ⟨y431, hy431⟩ : ∃ y_ : List Int, y_ = (x5_1 ++ [wrap64 ((rd l0 x6_1) + a1)]) := ⟨_, rfl⟩
   replace H : (cr20_moved.l0 k1 l0 a1 y431 (wrap64 (x6_1 + 1))) = some r := by first | (rw [hy431]; with_reducible exact H) | (have H2_ := (Option.bind_some _ _).symm.trans H; rw [hy431]; with_reducible exact H2_) | (have H2_ := (Option.bind_some _ _).symm.trans H; with_reducible exact H2_) | with_reducible exact H | (rw [hy431]; exact H) | exact H
   have Ny431 := Aside0.mk hy431
   clear hy431
   have H' := Aside0.mk H
   clear H
   have p430 : 0 ≤ (x6_1 : Int) := odt
   have q430 : x6_1 < (l0.length : Int) := odt
   obtain ⟨ad430, e430, hx430_0⟩ := Kd.at_int HR0.out x6_1 p430 q430
   cases e430
   replace hx430_0 := cellB hx430_0
   replace p430 := eq_true p430
   replace q430 := eq_true q430
   go_wp2_with (first | ((with_reducible refine gate_builtin (b := .append) (xs := #[.tmp 13, .tmp 20]) rfl ?_); at_builtin; refine Kd.R_append (Kd.int .i64) (w0 := w) w.heap.size rfl (.tmp 13) (.tmp 20) 39 3 (.int .i64 0) 8 rfl Tryd.underlying39 info3 rfl (by decide) (by omega) u5 x5_1 (wrap64 ((rd l0 x6_1) + a1)) [.int .i64 (wrap64 ((rd l0 x6_1) + a1))] (fun _ => True) (fun _ => False) rfl rfl ?aP (fun _ hk => hk.elim) ?aF ?aO ?aB ?aS ?aL ?_; (case aP => exact rfl); (case aB => exact blw); (case aF => exact (fun _ _ => trivial)); (case aO => exact (roW HO_5.out)); (case aS => exact (below_size blw)); (case aL => have := LMc5.out; omega); intro v432 w6 ho hb hg hat; rw [← Ny431.out] at ho; have n0_ := Aside0.mk (hb); have n1_ := Aside0.mk (ho); clear HB; clear HO_5; have HB := n0_; have HO433 := n1_; clear n0_ n1_; clear ho hb hg hat))
   go_roundg k1
   case measure => have := HK1.out; omega
   case rel => exact ⟨(y431), (wrap64 (x6_1 + 1)), rsd, H', ⟨by have := HK1.out; omega⟩, ⟨roW HO433.out⟩, ⟨blw⟩⟩

end Go.Proofs.YtcbcojbhbhaimaaDoor.PTreeTells
