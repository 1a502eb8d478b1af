import Derived.Test.YtcbcojbhbhaimaaDoorPTreeTellsx0
namespace Go.Proofs.YtcbcojbhbhaimaaDoor.PTreeTells
open Go.RowKit Go.Proofs.YtcbcojbhbhaimaaDoorW.PrintWords Go.Proofs.YtcbcojbhbhaimaaDoorW.PrintLast Go.Proofs.YtcbcojbhbhaimaaDoorW.PrintMore
attribute [local go_sem high] c_add c_eql c_neq
attribute [local go_sem] f_store_c f_store_f f_add f_toint f_fold_eq f_fold_ne f_fold_lt f_fold_gt f_fold_le f_fold_ge
attribute [local go_sem] str_leq str_gtr str_geq max2_int min2_int max_two min_two max_three min_three max_four min_four   -- for this text's walks alone
set_option linter.unusedVariables false
set_option linter.unusedSimpArgs false

/-! ### cp_Tree: function 7 -/
def cp_Tree.l0 : Nat → List (S41) → Int → Option (Bool)
 | 0, _, _ => none
 | k + 1, x0, x5 => if x5 < (x0.length : Int) then (if 0 ≤ x5 then (if (((rd_T41 x0 x5).f3).size : Int) > 200 then (some false) else (if (((rd_T41 x0 x5).f4).length : Int) > 100 then (some false) else (cp_Tree.l0 k x0 (wrap64 (x5 + 1))))) else (none)) else (some true)
def cp_Tree.f (k : Nat) (l0 : List (S41)) (a1 : Int) : Option (Bool) := if (l0.length : Int) > a1 then (some false) else (cp_Tree.l0 k l0 0)
theorem cp_Tree.mono_l : ∀ k, (∀ y0 y1, LeO (cp_Tree.l0 k y0 y1) (cp_Tree.l0 (k + 1) y0 y1))
 | 0 => fun _ _ r h => by simp [cp_Tree.l0] at h
 | k + 1 => by
  have ih0 := cp_Tree.mono_l k
  ·intro y0 y1
   unfold cp_Tree.l0
   repeat' first
   | (with_reducible first | exact ih0 _ _ | exact LeO.refl _ | exact LeO.none _ | refine LeO.ite ?_ ?_ | refine LeO.bind ?_ (fun _ => ?_))
   | exact ih0 _ _
   | exact LeO.none _
   | refine LeO.ite ?_ ?_
   | refine LeO.bind ?_ (fun _ => ?_)
theorem cp_Tree.mono : ∀ a0 a1 k, LeO (cp_Tree.f k a0 a1) (cp_Tree.f (k + 1) a0 a1) := by
 intro a0 a1 k
 have ih0 := cp_Tree.mono_l k
 unfold cp_Tree.f
 repeat' first
  | (with_reducible first | exact ih0 _ _ | exact LeO.refl _ | exact LeO.none _ | refine LeO.ite ?_ ?_ | refine LeO.bind ?_ (fun _ => ?_))
  | exact ih0 _ _
  | exact LeO.none _
  | refine LeO.ite ?_ ?_
  | refine LeO.bind ?_ (fun _ => ?_)
set_option maxHeartbeats 8000000 in
set_option maxRecDepth 100000 in
theorem cp_Tree.calls (k : Nat) (A0 : Option Addr) (c0 : Nat) (l0 : List (S41)) (a1 : Int) (r : Bool) (w : World) (hr0 : Kd.C k41 w A0 l0.length l0) (hc0 : l0.length ≤ c0) (h : cp_Tree.f k l0 a1 = some r) :
 Calls Tryd.prog 7 #[.slice A0 l0.length c0, .int .i64 a1] w fun e w' => e = .returned (.bool r) ∧ Drawn0 w w' := by
 have HR0 := Aside0.mk hr0
 have HC0 := Aside0.mk hc0
 clear hr0 hc0
 have H : (if (l0.length : Int) > a1 then (some false) else (cp_Tree.l0 k l0 0)) = some r := h
 clear h
 by_cases c3 : (l0.length : Int) > a1
 case pos =>
  rw [if_pos c3] at H
  have c3b0 : decide (a1 < (l0.length : Int)) = true := decide_eq_true c3
  clear c3
  obtain rfl := Option.some.inj H
  go_enter Tryd.func7, Tryd.ntmps7
  go_wp2
  go_ret
  exact ⟨rsd, drw⟩
 rw [if_neg c3] at H
 have c3b0 : decide (a1 < (l0.length : Int)) = false := decide_eq_false c3
 clear c3
 have H' := Aside0.mk H
 clear H
 go_enter Tryd.func7, Tryd.ntmps7
 go_wp2
 go_loopg [5] k (fun kq v5 w' => ∃ (x5_1 : Int), v5 = .int .i64 x5_1 ∧ Aside0 (cp_Tree.l0 kq l0 x5_1 = some r) ∧ Aside0 (kq ≤ k) ∧ Drawn0 w w')
 case atStart => exact ⟨(0), rsd, H', ⟨Nat.le_refl _⟩, drw⟩
 case round =>
  clear H'
  try clear c3
  try clear c3b0
  obtain ⟨x5_1, rfl, HA, HK1, ⟨m1, rfl⟩⟩ := hrel
  cases gk with
  | zero => exact absurd HA.out (by simp [cp_Tree.l0])
  | succ k1 =>
   have H := HA.out
   clear HA
   simp only [cp_Tree.l0] at H
   by_cases c4 : x5_1 < (l0.length : Int)
   case neg =>
    rw [if_neg c4] at H
    have c4b0 : decide (x5_1 < (l0.length : Int)) = false := decide_eq_false c4
    clear c4
    obtain rfl := Option.some.inj H
    go_wp2
    go_ret
    exact ⟨rsd, drw⟩
   rw [if_pos c4] at H
   have c4b0 : decide (x5_1 < (l0.length : Int)) = true := decide_eq_true c4
   clear c4
   by_cases c5 : 0 ≤ x5_1
   case neg =>
    rw [if_neg c5] at H
    exact absurd H (by simp)
   rw [if_pos c5] at H
   have c5b0 : decide (0 ≤ x5_1) = true := decide_eq_true c5
   clear c5
   by_cases c6 : (((rd_T41 l0 x5_1).f3).size : Int) > 200
   case pos =>
    rw [if_pos c6] at H
    have c6b0 : decide (200 < (((rd_T41 l0 x5_1).f3).size : Int)) = true := decide_eq_true c6
    have c6b1 : decide (200 < ((rd_T41 l0 x5_1).f3).size) = true := decide_eq_true (by omega)
    clear c6
    obtain rfl := Option.some.inj H
    have p101 : 0 ≤ (x5_1 : Int) := odt
    have q101 : x5_1 < (l0.length : Int) := odt
    obtain ⟨ad101, A101_4, c101_4, e101, hx101_0, hx101_1, hx101_2, hx101_3, hx101_4, hl101_4, hi101_4⟩ := at_T41 HR0.out x5_1 p101 q101
    cases e101
    have HR101_4 := Aside0.mk hi101_4
    have HC101_4 := Aside0.mk hl101_4
    clear hi101_4 hl101_4
    replace p101 := eq_true p101
    replace q101 := eq_true q101
    go_wp2
    go_ret
    exact ⟨rsd, drw⟩
   rw [if_neg c6] at H
   have c6b0 : decide (200 < (((rd_T41 l0 x5_1).f3).size : Int)) = false := decide_eq_false c6
   have c6b1 : decide (200 < ((rd_T41 l0 x5_1).f3).size) = false := decide_eq_false (by omega)
   clear c6
   by_cases c7 : (((rd_T41 l0 x5_1).f4).length : Int) > 100
   case pos =>
    rw [if_pos c7] at H
    have c7b0 : decide (100 < (((rd_T41 l0 x5_1).f4).length : Int)) = true := decide_eq_true c7
    have c7b1 : decide (100 < ((rd_T41 l0 x5_1).f4).length) = true := decide_eq_true (by omega)
    clear c7
    obtain rfl := Option.some.inj H
    have p101 : 0 ≤ (x5_1 : Int) := odt
    have q101 : x5_1 < (l0.length : Int) := odt
    obtain ⟨ad101, A101_4, c101_4, e101, hx101_0, hx101_1, hx101_2, hx101_3, hx101_4, hl101_4, hi101_4⟩ := at_T41 HR0.out x5_1 p101 q101
    cases e101
    have HR101_4 := Aside0.mk hi101_4
    have HC101_4 := Aside0.mk hl101_4
    clear hi101_4 hl101_4
    replace p101 := eq_true p101
    replace q101 := eq_true q101
    have p102 : 0 ≤ (x5_1 : Int) := odt
    have q102 : x5_1 < (l0.length : Int) := odt
    obtain ⟨ad102, A102_4, c102_4, e102, hx102_0, hx102_1, hx102_2, hx102_3, hx102_4, hl102_4, hi102_4⟩ := at_T41 HR0.out x5_1 p102 q102
    obtain rfl : ad101 = ad102 := (by injection e102)
    have HR102_4 := Aside0.mk hi102_4
    have HC102_4 := Aside0.mk hl102_4
    clear hi102_4 hl102_4
    replace p102 := eq_true p102
    replace q102 := eq_true q102
    have ea_ := Option.some.inj (hx101_4.symm.trans hx102_4)
    injection ea_ with ea_ en_ ec_
    subst ea_
    subst ec_
    clear en_
    go_wp2
    go_ret
    exact ⟨rsd, drw⟩
   rw [if_neg c7] at H
   have c7b0 : decide (100 < (((rd_T41 l0 x5_1).f4).length : Int)) = false := decide_eq_false c7
   have c7b1 : decide (100 < ((rd_T41 l0 x5_1).f4).length) = false := decide_eq_false (by omega)
   clear c7
   have H' := Aside0.mk H
   clear H
   have p101 : 0 ≤ (x5_1 : Int) := odt
   have q101 : x5_1 < (l0.length : Int) := odt
   obtain ⟨ad101, A101_4, c101_4, e101, hx101_0, hx101_1, hx101_2, hx101_3, hx101_4, hl101_4, hi101_4⟩ := at_T41 HR0.out x5_1 p101 q101
   cases e101
   have HR101_4 := Aside0.mk hi101_4
   have HC101_4 := Aside0.mk hl101_4
   clear hi101_4 hl101_4
   replace p101 := eq_true p101
   replace q101 := eq_true q101
   have p102 : 0 ≤ (x5_1 : Int) := odt
   have q102 : x5_1 < (l0.length : Int) := odt
   obtain ⟨ad102, A102_4, c102_4, e102, hx102_0, hx102_1, hx102_2, hx102_3, hx102_4, hl102_4, hi102_4⟩ := at_T41 HR0.out x5_1 p102 q102
   obtain rfl : ad101 = ad102 := (by injection e102)
   have HR102_4 := Aside0.mk hi102_4
   have HC102_4 := Aside0.mk hl102_4
   clear hi102_4 hl102_4
   replace p102 := eq_true p102
   replace q102 := eq_true q102
   have ea_ := Option.some.inj (hx101_4.symm.trans hx102_4)
   injection ea_ with ea_ en_ ec_
   subst ea_
   subst ec_
   clear en_
   go_wp2
   go_roundg k1
   case measure => have := HK1.out; omega
   case rel => exact ⟨(wrap64 (x5_1 + 1)), rsd, H', ⟨by have := HK1.out; omega⟩, drw⟩

/-! ### strs_Unbool: function 56 -/
def strs_Unbool.f (a0 : ByteArray) : Option (Bool × Bool) := if a0.toList = ([255] : List UInt8) then (some ((a0.toList == ([255] : List UInt8)), true)) else (some ((a0.toList == ([255] : List UInt8)), (a0.toList == ([0] : List UInt8))))
set_option maxHeartbeats 8000000 in
set_option maxRecDepth 100000 in
theorem strs_Unbool.calls (a0 : ByteArray) (r1 : Bool) (r2 : Bool) (w : World) (h : strs_Unbool.f a0 = some (r1, r2)) :
 Calls Tryd.prog 56 #[.string a0] w fun e w' => e = .returned (.tuple #[.bool r1, .bool r2]) ∧ Drawn0 w w' := by
 have H : (if a0.toList = ([255] : List UInt8) then (some ((a0.toList == ([255] : List UInt8)), true)) else (some ((a0.toList == ([255] : List UInt8)), (a0.toList == ([0] : List UInt8))))) = some (r1, r2) := h
 clear h
 by_cases c2 : a0.toList = ([255] : List UInt8)
 case neg =>
  rw [if_neg c2] at H
  have c2b0 : (a0.toList == ([255] : List UInt8)) = false := beq_eq_false_iff_ne.mpr c2
  have c2b1 : (a0.toList != ([255] : List UInt8)) = true := bne_iff_ne.mpr c2
  simp only [Option.some.injEq, Prod.mk.injEq] at H
  obtain ⟨rfl, rfl⟩ := H
  go_enter Tryd.func56, Tryd.ntmps56
  go_wp2
  go_ret2
  exact ⟨rsd, drw⟩
 rw [if_pos c2] at H
 have c2b0 : (a0.toList == ([255] : List UInt8)) = true := beq_iff_eq.mpr c2
 have c2b1 : (a0.toList != ([255] : List UInt8)) = false := bne_eq_false_iff_eq.mpr c2
 clear c2
 simp only [Option.some.injEq, Prod.mk.injEq] at H
 obtain ⟨rfl, rfl⟩ := H
 go_enter Tryd.func56, Tryd.ntmps56
 go_wp2
 go_ret2
 exact ⟨rsd, drw⟩

/-! ### whole_Right: function 57 -/
def whole_Right.f (a0 : ByteArray) : Option (Bool) := if a0.toList = ([] : List UInt8) then (some false) else (if (a0.size : Int) = 1 then (some true) else (if 0 < (a0.size : Int) then (if 1 < (a0.size : Int) then (if (Go.bits .or .i64 (wrap64 ((wrap64 (bt a0 0)) * 2)) (wrap64 ((bt a0 1) / 128))) = 0 then (some false) else (some ((Go.bits .or .i64 (wrap64 ((wrap64 (bt a0 0)) * 2)) (wrap64 ((bt a0 1) / 128))) != 511))) else (none)) else (none)))
set_option maxHeartbeats 8000000 in
set_option maxRecDepth 100000 in
theorem whole_Right.calls (a0 : ByteArray) (r : Bool) (w : World) (h : whole_Right.f a0 = some r) :
 Calls Tryd.prog 57 #[.string a0] w fun e w' => e = .returned (.bool r) ∧ Drawn0 w w' := by
 have H : (if a0.toList = ([] : List UInt8) then (some false) else (if (a0.size : Int) = 1 then (some true) else (if 0 < (a0.size : Int) then (if 1 < (a0.size : Int) then (if (Go.bits .or .i64 (wrap64 ((wrap64 (bt a0 0)) * 2)) (wrap64 ((bt a0 1) / 128))) = 0 then (some false) else (some ((Go.bits .or .i64 (wrap64 ((wrap64 (bt a0 0)) * 2)) (wrap64 ((bt a0 1) / 128))) != 511))) else (none)) else (none)))) = some r := h
 clear h
 by_cases c2 : a0.toList = ([] : List UInt8)
 case pos =>
  rw [if_pos c2] at H
  have c2b0 : (a0.toList == ([] : List UInt8)) = true := beq_iff_eq.mpr c2
  have c2b1 : (a0.toList != ([] : List UInt8)) = false := bne_eq_false_iff_eq.mpr c2
  clear c2
  obtain rfl := Option.some.inj H
  go_enter Tryd.func57, Tryd.ntmps57
  go_wp2
  repeat (go_quiet (fail); try go_wp2)
  go_ret
  exact ⟨rsd, drw⟩
 rw [if_neg c2] at H
 have c2b0 : (a0.toList == ([] : List UInt8)) = false := beq_eq_false_iff_ne.mpr c2
 have c2b1 : (a0.toList != ([] : List UInt8)) = true := bne_iff_ne.mpr c2
 by_cases c3 : (a0.size : Int) = 1
 case pos =>
  rw [if_pos c3] at H
  have c3b0 : ((a0.size : Int) == 1) = true := beq_iff_eq.mpr c3
  have c3b1 : ((a0.size : Int) != 1) = false := bne_eq_false_iff_eq.mpr c3
  clear c3
  obtain rfl := Option.some.inj H
  go_enter Tryd.func57, Tryd.ntmps57
  go_wp2
  repeat (go_quiet (fail); try go_wp2)
  go_ret
  exact ⟨rsd, drw⟩
 rw [if_neg c3] at H
 have c3b0 : ((a0.size : Int) == 1) = false := beq_eq_false_iff_ne.mpr c3
 have c3b1 : ((a0.size : Int) != 1) = true := bne_iff_ne.mpr c3
 by_cases c4 : 0 < (a0.size : Int)
 case neg =>
  rw [if_neg c4] at H
  exact absurd H (by simp)
 rw [if_pos c4] at H
 have c4b0 : decide (0 < (a0.size : Int)) = true := decide_eq_true c4
 have c4b1 : decide (0 < a0.size) = true := decide_eq_true (by omega)
 clear c4
 by_cases c6 : 1 < (a0.size : Int)
 case neg =>
  rw [if_neg c6] at H
  exact absurd H (by simp)
 rw [if_pos c6] at H
 have c6b0 : decide (1 < (a0.size : Int)) = true := decide_eq_true c6
 have c6b1 : decide (1 < a0.size) = true := decide_eq_true (by omega)
 clear c6
 by_cases c8 : (Go.bits .or .i64 (wrap64 ((wrap64 (bt a0 0)) * 2)) (wrap64 ((bt a0 1) / 128))) = 0
 case neg =>
  rw [if_neg c8] at H
  have c8b0 : ((Go.bits .or .i64 (wrap64 ((wrap64 (bt a0 0)) * 2)) (wrap64 ((bt a0 1) / 128))) == 0) = false := beq_eq_false_iff_ne.mpr c8
  have c8b1 : ((Go.bits .or .i64 (wrap64 ((wrap64 (bt a0 0)) * 2)) (wrap64 ((bt a0 1) / 128))) != 0) = true := bne_iff_ne.mpr c8
  obtain rfl := Option.some.inj H
  have p5 : 0 ≤ (0 : Int) := (by omega)
  have q5 : 0 < a0.size := (by have : (0 : Int) < (a0.size : Int) := odt; omega)
  have hx5 : ∀ h : 0 < a0.size, ((a0[0]'h).toNat : Int) = bt a0 0 := bt_at a0 0
  clear p5
  have qi5 : (0 < (a0.size : Int)) = True := eq_true odt
  replace q5 := eq_true q5
  have p7 : 0 ≤ (1 : Int) := (by omega)
  have q7 : 1 < a0.size := (by have : (1 : Int) < (a0.size : Int) := odt; omega)
  have hx7 : ∀ h : 1 < a0.size, ((a0[1]'h).toNat : Int) = bt a0 1 := bt_at a0 1
  clear p7
  have qi7 : (1 < (a0.size : Int)) = True := eq_true odt
  replace q7 := eq_true q7
  go_enter Tryd.func57, Tryd.ntmps57
  go_wp2
  repeat (go_quiet (fail); try go_wp2)
  go_ret
  exact ⟨rsd, drw⟩
 rw [if_pos c8] at H
 have c8b0 : ((Go.bits .or .i64 (wrap64 ((wrap64 (bt a0 0)) * 2)) (wrap64 ((bt a0 1) / 128))) == 0) = true := beq_iff_eq.mpr c8
 have c8b1 : ((Go.bits .or .i64 (wrap64 ((wrap64 (bt a0 0)) * 2)) (wrap64 ((bt a0 1) / 128))) != 0) = false := bne_eq_false_iff_eq.mpr c8
 clear c8
 obtain rfl := Option.some.inj H
 have p5 : 0 ≤ (0 : Int) := (by omega)
 have q5 : 0 < a0.size := (by have : (0 : Int) < (a0.size : Int) := odt; omega)
 have hx5 : ∀ h : 0 < a0.size, ((a0[0]'h).toNat : Int) = bt a0 0 := bt_at a0 0
 clear p5
 have qi5 : (0 < (a0.size : Int)) = True := eq_true odt
 replace q5 := eq_true q5
 have p7 : 0 ≤ (1 : Int) := (by omega)
 have q7 : 1 < a0.size := (by have : (1 : Int) < (a0.size : Int) := odt; omega)
 have hx7 : ∀ h : 1 < a0.size, ((a0[1]'h).toNat : Int) = bt a0 1 := bt_at a0 1
 clear p7
 have qi7 : (1 < (a0.size : Int)) = True := eq_true odt
 replace q7 := eq_true q7
 go_enter Tryd.func57, Tryd.ntmps57
 go_wp2
 repeat (go_quiet (fail); try go_wp2)
 go_ret
 exact ⟨rsd, drw⟩

/-! ### strs_Unbits: function 58 -/
def strs_Unbits.j0 : Nat → ByteArray → Bool → Option (ByteArray × Int × Bool)
 | 0, _, _ => none
 | k + 1, x0, x21 => if x21 = true then (some ((⟨#[]⟩ : ByteArray), 0, false)) else (if 0 ≤ (wrap64 ((x0.size : Int) - 1)) then (if (wrap64 ((x0.size : Int) - 1)) < (x0.size : Int) then (if 0 < (x0.size : Int) then (if 0 ≤ (bt x0 0) then (if (Go.bits .and .u8 (bt x0 (wrap64 ((x0.size : Int) - 1))) (((shl .u8 1 (bt x0 0)) - 1) % 256)) = 0 then (if 1 ≤ (x0.size : Int) then (some (x0.extract 1 x0.size, wrap64 (bt x0 0), true)) else (none)) else (if (x0.size : Int) > 1 then (some ((⟨#[]⟩ : ByteArray), 0, false)) else (if 1 ≤ (x0.size : Int) then (some (x0.extract 1 x0.size, wrap64 (bt x0 0), true)) else (none)))) else (none)) else (none)) else (none)) else (none))
def strs_Unbits.f (k : Nat) (a0 : ByteArray) : Option (ByteArray × Int × Bool) := if a0.toList = ([] : List UInt8) then (strs_Unbits.j0 k a0 true) else (if 0 < (a0.size : Int) then (if (bt a0 0) > 7 then (strs_Unbits.j0 k a0 true) else (if (bt a0 0) > 0 then (strs_Unbits.j0 k a0 ((a0.size : Int) == 1)) else (strs_Unbits.j0 k a0 false))) else (none))
theorem strs_Unbits.mono_l : ∀ k, (∀ y0 y1, LeO (strs_Unbits.j0 k y0 y1) (strs_Unbits.j0 (k + 1) y0 y1))
 | 0 => fun _ _ r h => by simp [strs_Unbits.j0] at h
 | k + 1 => by
  have ih0 := strs_Unbits.mono_l k
  ·intro y0 y1
   unfold strs_Unbits.j0
   repeat' first
   | (with_reducible first | exact ih0 _ _ | exact LeO.refl _ | exact LeO.none _ | refine LeO.ite ?_ ?_ | refine LeO.bind ?_ (fun _ => ?_))
   | exact ih0 _ _
   | exact LeO.none _
   | refine LeO.ite ?_ ?_
   | refine LeO.bind ?_ (fun _ => ?_)
theorem strs_Unbits.mono : ∀ a0 k, LeO (strs_Unbits.f k a0) (strs_Unbits.f (k + 1) a0) := by
 intro a0 k
 have ih0 := strs_Unbits.mono_l k
 unfold strs_Unbits.f
 repeat' first
  | (with_reducible first | exact ih0 _ _ | exact LeO.refl _ | exact LeO.none _ | refine LeO.ite ?_ ?_ | refine LeO.bind ?_ (fun _ => ?_))
  | exact ih0 _ _
  | exact LeO.none _
  | refine LeO.ite ?_ ?_
  | refine LeO.bind ?_ (fun _ => ?_)
set_option maxHeartbeats 8000000 in
set_option maxRecDepth 100000 in
theorem strs_Unbits.calls (k : Nat) (a0 : ByteArray) (r1 : ByteArray) (r2 : Int) (r3 : Bool) (w : World) (h : strs_Unbits.f k a0 = some (r1, r2, r3)) :
 Calls Tryd.prog 58 #[.string a0] w fun e w' => e = .returned (.tuple #[.string r1, .int .i64 r2, .bool r3]) ∧ Drawn0 w w' := by
 have H : (if a0.toList = ([] : List UInt8) then (strs_Unbits.j0 k a0 true) else (if 0 < (a0.size : Int) then (if (bt a0 0) > 7 then (strs_Unbits.j0 k a0 true) else (if (bt a0 0) > 0 then (strs_Unbits.j0 k a0 ((a0.size : Int) == 1)) else (strs_Unbits.j0 k a0 false))) else (none))) = some (r1, r2, r3) := h
 clear h
 have HC2 := Aside0.mk H
 clear H
 go_enter Tryd.func58, Tryd.ntmps58
 go_upto_region 1 with (fail)
 repeat (go_quiet (fail); go_upto_region 1 with (fail))
 go_cut [21] (fun v21 wc => ∃ (kq : Nat) (x21_1 : Bool), v21 = .bool x21_1 ∧ Aside0 (strs_Unbits.j0 kq a0 x21_1 = some (r1, r2, r3)) ∧ Aside0 (kq ≤ k) ∧ Drawn0 w wc)
 case first =>
  have H := HC2.out
  clear HC2
  by_cases c3 : a0.toList = ([] : List UInt8)
  case pos =>
   rw [if_pos c3] at H
   have c3b0 : (a0.toList == ([] : List UInt8)) = true := beq_iff_eq.mpr c3
   have c3b1 : (a0.toList != ([] : List UInt8)) = false := bne_eq_false_iff_eq.mpr c3
   clear c3
   (first | rw [c3b0] | (simp only [i64_w, i32_w]; rw [c3b0]) | rw [c3b1] | skip)
   have H' := Aside0.mk H
   clear H
   go_wp2
   repeat (go_quiet (fail); try go_wp2)
   go_meet
   case rel => exact ⟨_, (true), rsd, H', ⟨by first | omega | exact Nat.le_refl _⟩, drw⟩
  rw [if_neg c3] at H
  have c3b0 : (a0.toList == ([] : List UInt8)) = false := beq_eq_false_iff_ne.mpr c3
  have c3b1 : (a0.toList != ([] : List UInt8)) = true := bne_iff_ne.mpr c3
  (first | rw [c3b0] | (simp only [i64_w, i32_w]; rw [c3b0]) | rw [c3b1] | skip)
  by_cases c4 : 0 < (a0.size : Int)
  case neg =>
   rw [if_neg c4] at H
   exact absurd H (by simp)
  rw [if_pos c4] at H
  have c4b0 : decide (0 < (a0.size : Int)) = true := decide_eq_true c4
  have c4b1 : decide (0 < a0.size) = true := decide_eq_true (by omega)
  clear c4
  by_cases c6 : (bt a0 0) > 7
  case pos =>
   rw [if_pos c6] at H
   have c6b0 : decide (7 < (bt a0 0)) = true := decide_eq_true c6
   clear c6
   have H' := Aside0.mk H
   clear H
   have p5 : 0 ≤ (0 : Int) := (by omega)
   have q5 : 0 < a0.size := (by have : (0 : Int) < (a0.size : Int) := odt; omega)
   have hx5 : ∀ h : 0 < a0.size, ((a0[0]'h).toNat : Int) = bt a0 0 := bt_at a0 0
   clear p5
   have qi5 : (0 < (a0.size : Int)) = True := eq_true odt
   replace q5 := eq_true q5
   go_wp2
   repeat (go_quiet (fail); try go_wp2)
   go_meet
   case rel => exact ⟨_, (true), rsd, H', ⟨by first | omega | exact Nat.le_refl _⟩, drw⟩
  rw [if_neg c6] at H
  have c6b0 : decide (7 < (bt a0 0)) = false := decide_eq_false c6
  clear c6
  by_cases c8 : (bt a0 0) > 0
  case neg =>
   rw [if_neg c8] at H
   have c8b0 : decide (0 < (bt a0 0)) = false := decide_eq_false c8
   clear c8
   have H' := Aside0.mk H
   clear H
   have p5 : 0 ≤ (0 : Int) := (by omega)
   have q5 : 0 < a0.size := (by have : (0 : Int) < (a0.size : Int) := odt; omega)
   have hx5 : ∀ h : 0 < a0.size, ((a0[0]'h).toNat : Int) = bt a0 0 := bt_at a0 0
   clear p5
   have qi5 : (0 < (a0.size : Int)) = True := eq_true odt
   replace q5 := eq_true q5
   have p7 : 0 ≤ (0 : Int) := (by omega)
   have q7 : 0 < a0.size := (by have : (0 : Int) < (a0.size : Int) := odt; omega)
   have hx7 : ∀ h : 0 < a0.size, ((a0[0]'h).toNat : Int) = bt a0 0 := bt_at a0 0
   clear p7
   have qi7 : (0 < (a0.size : Int)) = True := eq_true odt
   replace q7 := eq_true q7
   go_wp2
   repeat (go_quiet (fail); try go_wp2)
   go_meet
   case rel => exact ⟨_, (false), rsd, H', ⟨by first | omega | exact Nat.le_refl _⟩, drw⟩
  rw [if_pos c8] at H
  have c8b0 : decide (0 < (bt a0 0)) = true := decide_eq_true c8
  clear c8
  have H' := Aside0.mk H
  clear H
  have p5 : 0 ≤ (0 : Int) := (by omega)
  have q5 : 0 < a0.size := (by have : (0 : Int) < (a0.size : Int) := odt; omega)
  have hx5 : ∀ h : 0 < a0.size, ((a0[0]'h).toNat : Int) = bt a0 0 := bt_at a0 0
  clear p5
  have qi5 : (0 < (a0.size : Int)) = True := eq_true odt
  replace q5 := eq_true q5
  have p7 : 0 ≤ (0 : Int) := (by omega)
  have q7 : 0 < a0.size := (by have : (0 : Int) < (a0.size : Int) := odt; omega)
  have hx7 : ∀ h : 0 < a0.size, ((a0[0]'h).toNat : Int) = bt a0 0 := bt_at a0 0
  clear p7
  have qi7 : (0 < (a0.size : Int)) = True := eq_true odt
  replace q7 := eq_true q7
  go_wp2
  repeat (go_quiet (fail); try go_wp2)
  go_meet
  case rel => exact ⟨_, (((a0.size : Int) == 1)), rsd, H', ⟨by first | omega | exact Nat.le_refl _⟩, drw⟩
 case rest =>
  clear HC2
  try clear c3
  try clear c3b0
  try clear c3b1
  try clear c4
  try clear c4b0
  try clear c4b1
  try clear p5
  try clear q5
  try clear hx5
  try clear qi5
  try clear c6
  try clear c6b0
  try clear p7
  try clear q7
  try clear hx7
  try clear qi7
  try clear c8
  try clear c8b0
  try clear p5
  try clear p7
  try clear q5
  try clear q7
  obtain ⟨kq, x21_1, rfl, HA, HJ1, ⟨mc1, rfl⟩⟩ := hcut
  cases kq with
  | zero => exact absurd HA.out (by simp [strs_Unbits.j0])
  | succ kj1 =>
   have H := HA.out
   clear HA
   simp only [strs_Unbits.j0] at H
   by_cases c9 : x21_1 = true
   case pos =>
    subst c9
    have H1 : (some ((⟨#[]⟩ : ByteArray), 0, false)) = some (r1, r2, r3) := by rw [if_pos rfl] at H; exact H
    clear H
    have H := H1
    clear H1
    simp only [Option.some.injEq, Prod.mk.injEq] at H
    obtain ⟨rfl, rfl, rfl⟩ := H
    go_wp2
    repeat (go_quiet (fail); try go_wp2)
    go_ret3
    exact ⟨rsd, drw⟩
   replace c9 := Bool.eq_false_iff.mpr c9
   subst c9
   have H1 : (if 0 ≤ (wrap64 ((a0.size : Int) - 1)) then (if (wrap64 ((a0.size : Int) - 1)) < (a0.size : Int) then (if 0 < (a0.size : Int) then (if 0 ≤ (bt a0 0) then (if (Go.bits .and .u8 (bt a0 (wrap64 ((a0.size : Int) - 1))) (((shl .u8 1 (bt a0 0)) - 1) % 256)) = 0 then (if 1 ≤ (a0.size : Int) then (some (a0.extract 1 a0.size, wrap64 (bt a0 0), true)) else (none)) else (if (a0.size : Int) > 1 then (some ((⟨#[]⟩ : ByteArray), 0, false)) else (if 1 ≤ (a0.size : Int) then (some (a0.extract 1 a0.size, wrap64 (bt a0 0), true)) else (none)))) else (none)) else (none)) else (none)) else (none)) = some (r1, r2, r3) := by rw [if_neg (show ¬ (false = true) by decide)] at H; exact H
   clear H
   have H := H1
   clear H1
   obtain ⟨ji10, hji10⟩ : ∃ j_ : Int, (wrap64 ((a0.size : Int) - 1)) = j_ := ⟨_, rfl⟩
   replace H : (if 0 ≤ (ji10) then (if (ji10) < (a0.size : Int) then (if 0 < (a0.size : Int) then (if 0 ≤ (bt a0 0) then (if (Go.bits .and .u8 (bt a0 (ji10)) (((shl .u8 1 (bt a0 0)) - 1) % 256)) = 0 then (if 1 ≤ (a0.size : Int) then (some (a0.extract 1 a0.size, wrap64 (bt a0 0), true)) else (none)) else (if (a0.size : Int) > 1 then (some ((⟨#[]⟩ : ByteArray), 0, false)) else (if 1 ≤ (a0.size : Int) then (some (a0.extract 1 a0.size, wrap64 (bt a0 0), true)) else (none)))) else (none)) else (none)) else (none)) else (none)) = some (r1, r2, r3) := by first | (rw [hji10] at H; exact H) | (simp only [hji10] at H ⊢; exact H)
   have hji10w : (IntKind.i64.wrap ((a0.size : Int) - 1)) = ji10 := (i64_w _).trans hji10
   by_cases c11 : 0 ≤ (ji10)
   case neg =>
    rw [if_neg c11] at H
    exact absurd H (by simp)
   rw [if_pos c11] at H
   have c11b0 : decide (0 ≤ (ji10)) = true := decide_eq_true c11
   clear c11
   by_cases c12 : (ji10) < (a0.size : Int)
   case neg =>
    rw [if_neg c12] at H
    exact absurd H (by simp)
   rw [if_pos c12] at H
   have c12b0 : decide ((ji10) < (a0.size : Int)) = true := decide_eq_true c12
   clear c12
   by_cases c14 : 0 < (a0.size : Int)
   case neg =>
    rw [if_neg c14] at H
    exact absurd H (by simp)
   rw [if_pos c14] at H
   have c14b0 : decide (0 < (a0.size : Int)) = true := decide_eq_true c14
   have c14b1 : decide (0 < a0.size) = true := decide_eq_true (by omega)
   clear c14
   by_cases c16 : 0 ≤ (bt a0 0)
   case neg =>
    rw [if_neg c16] at H
    exact absurd H (by simp)
   rw [if_pos c16] at H
   have c16b0 := eq_true c16
   have c16b1 : decide (0 ≤ (bt a0 0)) = true := decide_eq_true c16
   clear c16
   obtain ⟨ji17, hji17⟩ : ∃ j_ : Int, (shl .u8 1 (bt a0 0)) = j_ := ⟨_, rfl⟩
   replace H : (if (Go.bits .and .u8 (bt a0 (ji10)) (((ji17) - 1) % 256)) = 0 then (if 1 ≤ (a0.size : Int) then (some (a0.extract 1 a0.size, wrap64 (bt a0 0), true)) else (none)) else (if (a0.size : Int) > 1 then (some ((⟨#[]⟩ : ByteArray), 0, false)) else (if 1 ≤ (a0.size : Int) then (some (a0.extract 1 a0.size, wrap64 (bt a0 0), true)) else (none)))) = some (r1, r2, r3) := by first | (rw [hji17] at H; exact H) | (simp only [hji17] at H ⊢; exact H)
   have hji17_ : (IntKind.u8.wrap (1 * 2 ^ min (bt a0 0).toNat 8)) = ji17 := hji17
   have hji17z : (bt a0 0) ≤ 8 → (IntKind.u8.wrap (1 * 2 ^ (bt a0 0).toNat)) = ji17 := shl_small hji17
   have hji17u : (IntKind.u8.wrap (2 ^ min (bt a0 0).toNat 8)) = ji17 := by have h_ := hji17_; rw [Int.one_mul] at h_; exact h_
   have hji17v : (bt a0 0) ≤ 8 → (IntKind.u8.wrap (2 ^ (bt a0 0).toNat)) = ji17 := fun hle_ => by have h_ := hji17z hle_; rw [Int.one_mul] at h_; exact h_
   by_cases c18 : (Go.bits .and .u8 (bt a0 (ji10)) (((ji17) - 1) % 256)) = 0
   case pos =>
    rw [if_pos c18] at H
    have c18b0 : ((Go.bits .and .u8 (bt a0 (ji10)) (((ji17) - 1) % 256)) == 0) = true := beq_iff_eq.mpr c18
    have c18b1 : ((Go.bits .and .u8 (bt a0 (ji10)) (((ji17) - 1) % 256)) != 0) = false := bne_eq_false_iff_eq.mpr c18
    clear c18
    by_cases c19 : 1 ≤ (a0.size : Int)
    case neg =>
     rw [if_neg c19] at H
     exact absurd H (by simp)
    rw [if_pos c19] at H
    have c19b0 := eq_true c19
    have c19b1 : decide (1 ≤ (a0.size : Int)) = true := decide_eq_true c19
    clear c19
    simp only [Option.some.injEq, Prod.mk.injEq] at H
    obtain ⟨rfl, rfl, rfl⟩ := H
    have p13 : 0 ≤ ((ji10) : Int) := odt
    have q13 : (ji10) < (a0.size : Int) := odt
    have hx13 := bt_at a0 (ji10)
    replace p13 := eq_true p13
    replace q13 := eq_true q13
    have p15 : 0 ≤ (0 : Int) := (by omega)
    have q15 : 0 < a0.size := (by have : (0 : Int) < (a0.size : Int) := odt; omega)
    have hx15 : ∀ h : 0 < a0.size, ((a0[0]'h).toNat : Int) = bt a0 0 := bt_at a0 0
    clear p15
    have qi15 : (0 < (a0.size : Int)) = True := eq_true odt
    replace q15 := eq_true q15
    have p20 : 0 ≤ (0 : Int) := (by omega)
    have q20 : 0 < a0.size := (by have : (0 : Int) < (a0.size : Int) := odt; omega)
    have hx20 : ∀ h : 0 < a0.size, ((a0[0]'h).toNat : Int) = bt a0 0 := bt_at a0 0
    clear p20
    have qi20 : (0 < (a0.size : Int)) = True := eq_true odt
    replace q20 := eq_true q20
    go_wp2
    repeat (go_quiet (fail); try go_wp2)
    go_ret3
    exact ⟨by first | rfl | (simp; done) | (simp only [← hji10, ← hji17] <;> (first | rfl | simp)) | (simp [*]; done), drw⟩
   rw [if_neg c18] at H
   have c18b0 : ((Go.bits .and .u8 (bt a0 (ji10)) (((ji17) - 1) % 256)) == 0) = false := beq_eq_false_iff_ne.mpr c18
   have c18b1 : ((Go.bits .and .u8 (bt a0 (ji10)) (((ji17) - 1) % 256)) != 0) = true := bne_iff_ne.mpr c18
   by_cases c21 : (a0.size : Int) > 1
   case pos =>
    rw [if_pos c21] at H
    have c21b0 : decide (1 < (a0.size : Int)) = true := decide_eq_true c21
    have c21b1 : decide (1 < a0.size) = true := decide_eq_true (by omega)
    clear c21
    simp only [Option.some.injEq, Prod.mk.injEq] at H
    obtain ⟨rfl, rfl, rfl⟩ := H
    have p13 : 0 ≤ ((ji10) : Int) := odt
    have q13 : (ji10) < (a0.size : Int) := odt
    have hx13 := bt_at a0 (ji10)
    replace p13 := eq_true p13
    replace q13 := eq_true q13
    have p15 : 0 ≤ (0 : Int) := (by omega)
    have q15 : 0 < a0.size := (by have : (0 : Int) < (a0.size : Int) := odt; omega)
    have hx15 : ∀ h : 0 < a0.size, ((a0[0]'h).toNat : Int) = bt a0 0 := bt_at a0 0
    clear p15
    have qi15 : (0 < (a0.size : Int)) = True := eq_true odt
    replace q15 := eq_true q15
    go_wp2
    repeat (go_quiet (fail); try go_wp2)
    go_ret3
    exact ⟨by first | rfl | (simp; done) | (simp only [← hji10, ← hji17] <;> (first | rfl | simp)) | (simp [*]; done), drw⟩
   rw [if_neg c21] at H
   have c21b0 : decide (1 < (a0.size : Int)) = false := decide_eq_false c21
   have c21b1 : decide (1 < a0.size) = false := decide_eq_false (by omega)
   clear c21
   by_cases c22 : 1 ≤ (a0.size : Int)
   case neg =>
    rw [if_neg c22] at H
    exact absurd H (by simp)
   rw [if_pos c22] at H
   have c22b0 := eq_true c22
   have c22b1 : decide (1 ≤ (a0.size : Int)) = true := decide_eq_true c22
   clear c22
   simp only [Option.some.injEq, Prod.mk.injEq] at H
   obtain ⟨rfl, rfl, rfl⟩ := H
   have p13 : 0 ≤ ((ji10) : Int) := odt
   have q13 : (ji10) < (a0.size : Int) := odt
   have hx13 := bt_at a0 (ji10)
   replace p13 := eq_true p13
   replace q13 := eq_true q13
   have p15 : 0 ≤ (0 : Int) := (by omega)
   have q15 : 0 < a0.size := (by have : (0 : Int) < (a0.size : Int) := odt; omega)
   have hx15 : ∀ h : 0 < a0.size, ((a0[0]'h).toNat : Int) = bt a0 0 := bt_at a0 0
   clear p15
   have qi15 : (0 < (a0.size : Int)) = True := eq_true odt
   replace q15 := eq_true q15
   have p23 : 0 ≤ (0 : Int) := (by omega)
   have q23 : 0 < a0.size := (by have : (0 : Int) < (a0.size : Int) := odt; omega)
   have hx23 : ∀ h : 0 < a0.size, ((a0[0]'h).toNat : Int) = bt a0 0 := bt_at a0 0
   clear p23
   have qi23 : (0 < (a0.size : Int)) = True := eq_true odt
   replace q23 := eq_true q23
   go_wp2
   repeat (go_quiet (fail); try go_wp2)
   go_ret3
   exact ⟨by first | rfl | (simp; done) | (simp only [← hji10, ← hji17] <;> (first | rfl | simp)) | (simp [*]; done), drw⟩

end Go.Proofs.YtcbcojbhbhaimaaDoor.PTreeTells
