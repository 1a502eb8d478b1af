import Derived.Test.YtcbcojbhbhaimaaDoorPTreeTellsx0
import Derived.Test.YtcbcojbhbhaimaaDoorPTreeTellsx10
import Derived.Test.YtcbcojbhbhaimaaDoorPTreeTellsx11
import Derived.Test.YtcbcojbhbhaimaaDoorPTreeTellsx13
import Derived.Test.YtcbcojbhbhaimaaDoorPTreeTellsx14
namespace Go.Proofs.YtcbcojbhbhaimaaDoor.PTreeTells
open Go.RowKit Go.Proofs.YtcbcojbhbhaimaaDoorW.PrintWords Go.Proofs.YtcbcojbhbhaimaaDoorW.PrintLast Go.Proofs.YtcbcojbhbhaimaaDoorW.PrintMore
attribute [local go_sem high] c_add c_eql c_neq
attribute [local go_sem] f_store_c f_store_f f_add f_toint f_fold_eq f_fold_ne f_fold_lt f_fold_gt f_fold_le f_fold_ge
attribute [local go_sem] str_leq str_gtr str_geq max2_int min2_int max_two min_two max_three min_three max_four min_four   -- for this text's walks alone
set_option linter.unusedVariables false
set_option linter.unusedSimpArgs false

/-! ### cr18_Printable: function 67 -/
mutual
def cr18_Printable.l0 : Nat → ByteArray → Int → Option (Bool)
 | 0, _, _ => none
 | k + 1, x0, x3 => if x3 < (x0.size : Int) then (cr18_Printable.l1 k x0 x3 false 0) else (some true)
def cr18_Printable.l1 : Nat → ByteArray → Int → Bool → Int → Option (Bool)
 | 0, _, _, _, _ => none
 | k + 1, x0, x3, x4, x5 => if x5 < 74 then (if 0 ≤ x5 then (if 0 ≤ x3 then (if x3 < (x0.size : Int) then (if (bt (⟨#[65, 66, 67, 68, 69, 70, 71, 72, 73, 74, 75, 76, 77, 78, 79, 80, 81, 82, 83, 84, 85, 86, 87, 88, 89, 90, 97, 98, 99, 100, 101, 102, 103, 104, 105, 106, 107, 108, 109, 110, 111, 112, 113, 114, 115, 116, 117, 118, 119, 120, 121, 122, 48, 49, 50, 51, 52, 53, 54, 55, 56, 57, 32, 39, 40, 41, 43, 44, 45, 46, 47, 58, 61, 63]⟩ : ByteArray) x5) = (bt x0 x3) then (cr18_Printable.l1 k x0 x3 true (wrap64 (x5 + 1))) else (cr18_Printable.l1 k x0 x3 x4 (wrap64 (x5 + 1)))) else (none)) else (none)) else (none)) else (if x4 = true then (cr18_Printable.l0 k x0 (wrap64 (x3 + 1))) else (some false))
end
def cr18_Printable.f (k : Nat) (a0 : ByteArray) : Option (Bool) := cr18_Printable.l0 k a0 0
theorem cr18_Printable.mono_l : ∀ k, (∀ y0 y1, LeO (cr18_Printable.l0 k y0 y1) (cr18_Printable.l0 (k + 1) y0 y1)) ∧ (∀ y0 y1 y2 y3, LeO (cr18_Printable.l1 k y0 y1 y2 y3) (cr18_Printable.l1 (k + 1) y0 y1 y2 y3))
 | 0 => ⟨fun _ _ r h => by simp [cr18_Printable.l0] at h, fun _ _ _ _ r h => by simp [cr18_Printable.l1] at h⟩
 | k + 1 => by
  obtain ⟨ih0, ih1⟩ := cr18_Printable.mono_l k
  refine ⟨?_, ?_⟩ <;> intros <;> first | unfold cr18_Printable.l0 | unfold cr18_Printable.l1
  all_goals repeat' first
  | (with_reducible first | exact ih0 _ _ | exact ih1 _ _ _ _ | exact LeO.refl _ | exact LeO.none _ | refine LeO.ite ?_ ?_ | refine LeO.bind ?_ (fun _ => ?_))
  | exact ih0 _ _
  | exact ih1 _ _ _ _
  | exact LeO.none _
  | refine LeO.ite ?_ ?_
  | refine LeO.bind ?_ (fun _ => ?_)
theorem cr18_Printable.mono : ∀ a0 k, LeO (cr18_Printable.f k a0) (cr18_Printable.f (k + 1) a0) := by
 intro a0 k
 obtain ⟨ih0, ih1⟩ := cr18_Printable.mono_l k
 unfold cr18_Printable.f
 repeat' first
  | (with_reducible first | exact ih0 _ _ | exact ih1 _ _ _ _ | exact LeO.refl _ | exact LeO.none _ | refine LeO.ite ?_ ?_ | refine LeO.bind ?_ (fun _ => ?_))
  | exact ih0 _ _
  | exact ih1 _ _ _ _
  | exact LeO.none _
  | refine LeO.ite ?_ ?_
  | refine LeO.bind ?_ (fun _ => ?_)
set_option maxHeartbeats 8000000 in
set_option maxRecDepth 100000 in
theorem cr18_Printable.calls (k : Nat) (a0 : ByteArray) (r : Bool) (w : World) (h : cr18_Printable.f k a0 = some r) :
 Calls Tryd.prog 67 #[.string a0] w fun e w' => e = .returned (.bool r) ∧ Drawn0 w w' := by
 have H : (cr18_Printable.l0 k a0 0) = some r := h
 clear h
 have H' := Aside0.mk H
 clear H
 go_enter Tryd.func67, Tryd.ntmps67
 go_wp2
 repeat (go_quiet (fail); try go_wp2)
 go_loopg [3] k (fun kq v3 w' => ∃ (x3_1 : Int), v3 = .int .i64 x3_1 ∧ Aside0 (cr18_Printable.l0 kq a0 x3_1 = some r) ∧ Aside0 (kq ≤ k) ∧ Drawn0 w w')
 case atStart => exact ⟨(0), rsd, H', ⟨Nat.le_refl _⟩, drw⟩
 case round =>
  clear H'
  obtain ⟨x3_1, rfl, HA, HK1, ⟨m1, rfl⟩⟩ := hrel
  cases gk with
  | zero => exact absurd HA.out (by simp [cr18_Printable.l0])
  | succ k1 =>
   have H := HA.out
   clear HA
   simp only [cr18_Printable.l0] at H
   by_cases c2 : x3_1 < (a0.size : Int)
   case neg =>
    rw [if_neg c2] at H
    have c2b0 : decide (x3_1 < (a0.size : Int)) = false := decide_eq_false c2
    clear c2
    obtain rfl := Option.some.inj H
    go_wp2
    repeat (go_quiet (fail); try go_wp2)
    go_ret
    exact ⟨rsd, drw⟩
   rw [if_pos c2] at H
   have c2b0 : decide (x3_1 < (a0.size : Int)) = true := decide_eq_true c2
   clear c2
   have H' := Aside0.mk H
   clear H
   go_wp2
   repeat (go_quiet (fail); try go_wp2)
   go_loopg [4, 5] k1 (fun kq v4 v5 w' => ∃ (x4_2 : Bool) (x5_2 : Int), v4 = .bool x4_2 ∧ v5 = .int .i64 x5_2 ∧ Aside0 (cr18_Printable.l1 kq a0 x3_1 x4_2 x5_2 = some r) ∧ Aside0 (kq ≤ k1) ∧ Drawn0 w w')
   case atStart => exact ⟨(false), (0), rsd, rsd, H', ⟨Nat.le_refl _⟩, drw⟩
   case round =>
    clear H'
    try clear c2
    try clear c2b0
    obtain ⟨x4_2, x5_2, rfl, rfl, HA, HK2, ⟨m2, rfl⟩⟩ := hrel
    cases gk with
    | zero => exact absurd HA.out (by simp [cr18_Printable.l1])
    | succ k2 =>
     have H := HA.out
     clear HA
     simp only [cr18_Printable.l1] at H
     by_cases c3 : x5_2 < 74
     case neg =>
      rw [if_neg c3] at H
      have c3b0 : decide (x5_2 < 74) = false := decide_eq_false c3
      clear c3
      by_cases c10 : x4_2 = true
      case neg =>
       replace c10 := Bool.eq_false_iff.mpr c10
       subst c10
       have H1 : (some false) = some r := by rw [if_neg (show ¬ (false = true) by decide)] at H; exact H
       clear H
       have H := H1
       clear H1
       obtain rfl := Option.some.inj H
       go_wp2
       repeat (go_quiet (fail); try go_wp2)
       go_ret
       exact ⟨rsd, drw⟩
      subst c10
      have H1 : (cr18_Printable.l0 k2 a0 (wrap64 (x3_1 + 1))) = some r := by rw [if_pos rfl] at H; exact H
      clear H
      have H := H1
      clear H1
      have H' := Aside0.mk H
      clear H
      go_wp2
      repeat (go_quiet (fail); try go_wp2)
      go_roundg k2
      case measure => have := HK1.out; have := HK2.out; omega
      case rel => exact ⟨(wrap64 (x3_1 + 1)), rsd, H', ⟨by have := HK1.out; have := HK2.out; omega⟩, drw⟩
     rw [if_pos c3] at H
     have c3b0 : decide (x5_2 < 74) = true := decide_eq_true c3
     clear c3
     by_cases c4 : 0 ≤ x5_2
     case neg =>
      rw [if_neg c4] at H
      exact absurd H (by simp)
     rw [if_pos c4] at H
     have c4b0 : decide (0 ≤ x5_2) = true := decide_eq_true c4
     clear c4
     by_cases c6 : 0 ≤ x3_1
     case neg =>
      rw [if_neg c6] at H
      exact absurd H (by simp)
     rw [if_pos c6] at H
     have c6b0 : decide (0 ≤ x3_1) = true := decide_eq_true c6
     clear c6
     by_cases c7 : x3_1 < (a0.size : Int)
     case neg =>
      rw [if_neg c7] at H
      exact absurd H (by simp)
     rw [if_pos c7] at H
     have c7b0 : decide (x3_1 < (a0.size : Int)) = true := decide_eq_true c7
     clear c7
     by_cases c9 : (bt (⟨#[65, 66, 67, 68, 69, 70, 71, 72, 73, 74, 75, 76, 77, 78, 79, 80, 81, 82, 83, 84, 85, 86, 87, 88, 89, 90, 97, 98, 99, 100, 101, 102, 103, 104, 105, 106, 107, 108, 109, 110, 111, 112, 113, 114, 115, 116, 117, 118, 119, 120, 121, 122, 48, 49, 50, 51, 52, 53, 54, 55, 56, 57, 32, 39, 40, 41, 43, 44, 45, 46, 47, 58, 61, 63]⟩ : ByteArray) x5_2) = (bt a0 x3_1)
     case neg =>
      rw [if_neg c9] at H
      have c9b0 : ((bt (⟨#[65, 66, 67, 68, 69, 70, 71, 72, 73, 74, 75, 76, 77, 78, 79, 80, 81, 82, 83, 84, 85, 86, 87, 88, 89, 90, 97, 98, 99, 100, 101, 102, 103, 104, 105, 106, 107, 108, 109, 110, 111, 112, 113, 114, 115, 116, 117, 118, 119, 120, 121, 122, 48, 49, 50, 51, 52, 53, 54, 55, 56, 57, 32, 39, 40, 41, 43, 44, 45, 46, 47, 58, 61, 63]⟩ : ByteArray) x5_2) == (bt a0 x3_1)) = false := beq_eq_false_iff_ne.mpr c9
      have c9b1 : ((bt (⟨#[65, 66, 67, 68, 69, 70, 71, 72, 73, 74, 75, 76, 77, 78, 79, 80, 81, 82, 83, 84, 85, 86, 87, 88, 89, 90, 97, 98, 99, 100, 101, 102, 103, 104, 105, 106, 107, 108, 109, 110, 111, 112, 113, 114, 115, 116, 117, 118, 119, 120, 121, 122, 48, 49, 50, 51, 52, 53, 54, 55, 56, 57, 32, 39, 40, 41, 43, 44, 45, 46, 47, 58, 61, 63]⟩ : ByteArray) x5_2) != (bt a0 x3_1)) = true := bne_iff_ne.mpr c9
      have H' := Aside0.mk H
      clear H
      have p5 : 0 ≤ (x5_2 : Int) := odt
      have q5 : x5_2 < (74 : Int) := odt
      have hx5 := bt_at (⟨#[65, 66, 67, 68, 69, 70, 71, 72, 73, 74, 75, 76, 77, 78, 79, 80, 81, 82, 83, 84, 85, 86, 87, 88, 89, 90, 97, 98, 99, 100, 101, 102, 103, 104, 105, 106, 107, 108, 109, 110, 111, 112, 113, 114, 115, 116, 117, 118, 119, 120, 121, 122, 48, 49, 50, 51, 52, 53, 54, 55, 56, 57, 32, 39, 40, 41, 43, 44, 45, 46, 47, 58, 61, 63]⟩ : ByteArray) x5_2
      replace p5 := eq_true p5
      replace q5 := eq_true q5
      have p8 : 0 ≤ (x3_1 : Int) := odt
      have q8 : x3_1 < (a0.size : Int) := odt
      have hx8 := bt_at a0 x3_1
      replace p8 := eq_true p8
      replace q8 := eq_true q8
      go_wp2
      repeat (go_quiet (fail); try go_wp2)
      go_roundg k2
      case measure => have := HK1.out; have := HK2.out; omega
      case rel => exact ⟨(x4_2), (wrap64 (x5_2 + 1)), rsd, rsd, H', ⟨by have := HK1.out; have := HK2.out; omega⟩, drw⟩
     rw [if_pos c9] at H
     have c9b0 : ((bt (⟨#[65, 66, 67, 68, 69, 70, 71, 72, 73, 74, 75, 76, 77, 78, 79, 80, 81, 82, 83, 84, 85, 86, 87, 88, 89, 90, 97, 98, 99, 100, 101, 102, 103, 104, 105, 106, 107, 108, 109, 110, 111, 112, 113, 114, 115, 116, 117, 118, 119, 120, 121, 122, 48, 49, 50, 51, 52, 53, 54, 55, 56, 57, 32, 39, 40, 41, 43, 44, 45, 46, 47, 58, 61, 63]⟩ : ByteArray) x5_2) == (bt a0 x3_1)) = true := beq_iff_eq.mpr c9
     have c9b1 : ((bt (⟨#[65, 66, 67, 68, 69, 70, 71, 72, 73, 74, 75, 76, 77, 78, 79, 80, 81, 82, 83, 84, 85, 86, 87, 88, 89, 90, 97, 98, 99, 100, 101, 102, 103, 104, 105, 106, 107, 108, 109, 110, 111, 112, 113, 114, 115, 116, 117, 118, 119, 120, 121, 122, 48, 49, 50, 51, 52, 53, 54, 55, 56, 57, 32, 39, 40, 41, 43, 44, 45, 46, 47, 58, 61, 63]⟩ : ByteArray) x5_2) != (bt a0 x3_1)) = false := bne_eq_false_iff_eq.mpr c9
     clear c9
     have H' := Aside0.mk H
     clear H
     have p5 : 0 ≤ (x5_2 : Int) := odt
     have q5 : x5_2 < (74 : Int) := odt
     have hx5 := bt_at (⟨#[65, 66, 67, 68, 69, 70, 71, 72, 73, 74, 75, 76, 77, 78, 79, 80, 81, 82, 83, 84, 85, 86, 87, 88, 89, 90, 97, 98, 99, 100, 101, 102, 103, 104, 105, 106, 107, 108, 109, 110, 111, 112, 113, 114, 115, 116, 117, 118, 119, 120, 121, 122, 48, 49, 50, 51, 52, 53, 54, 55, 56, 57, 32, 39, 40, 41, 43, 44, 45, 46, 47, 58, 61, 63]⟩ : ByteArray) x5_2
     replace p5 := eq_true p5
     replace q5 := eq_true q5
     have p8 : 0 ≤ (x3_1 : Int) := odt
     have q8 : x3_1 < (a0.size : Int) := odt
     have hx8 := bt_at a0 x3_1
     replace p8 := eq_true p8
     replace q8 := eq_true q8
     go_wp2
     repeat (go_quiet (fail); try go_wp2)
     go_roundg k2
     case measure => have := HK1.out; have := HK2.out; omega
     case rel => exact ⟨(true), (wrap64 (x5_2 + 1)), rsd, rsd, H', ⟨by have := HK1.out; have := HK2.out; omega⟩, drw⟩

/-! ### cr18_Right: function 53 -/
def cr18_Right.f (k : Nat) (a0 : Int) (a1 : ByteArray) : Option (Bool) := if a0 = 1 then ((cr18_Unbool.f a1).bind fun bt361 => (some bt361.2)) else (if a0 = 2 then ((cr16_Right.f a1).bind fun t363 => (some t363)) else (if a0 = 3 then ((cr18_Unbits.f k a1).bind fun bt364 => (some bt364.2.2)) else (if a0 = 4 then (some true) else (if a0 = 5 then (some (a1.toList == ([] : List UInt8))) else (if a0 = 6 then ((cr17_Decode.f k a1).bind fun bt367 => (some bt367.2)) else (if a0 = 12 then ((cr18_Utf.f k a1).bind fun t371 => (some t371)) else (if a0 = 19 then ((cr18_Printable.f k a1).bind fun t372 => (some t372)) else (some false))))))))
theorem cr18_Right.mono : ∀ a0 a1 k, LeO (cr18_Right.f k a0 a1) (cr18_Right.f (k + 1) a0 a1) := by
 intro a0 a1 k
 unfold cr18_Right.f
 repeat' first
  | (with_reducible first | exact cr17_Decode.mono _ _ | exact cr18_Printable.mono _ _ | exact cr18_Unbits.mono _ _ | exact cr18_Utf.mono _ _ | exact LeO.refl _ | exact LeO.none _ | refine LeO.ite ?_ ?_ | refine LeO.bind ?_ (fun _ => ?_))
  | exact cr17_Decode.mono _ _
  | exact cr18_Printable.mono _ _
  | exact cr18_Unbits.mono _ _
  | exact cr18_Utf.mono _ _
  | exact LeO.none _
  | refine LeO.ite ?_ ?_
  | refine LeO.bind ?_ (fun _ => ?_)
set_option maxHeartbeats 8000000 in
set_option maxRecDepth 100000 in
theorem cr18_Right.calls (k : Nat) (a0 : Int) (a1 : ByteArray) (r : Bool) (w : World) (h : cr18_Right.f k a0 a1 = some r) :
 Calls Tryd.prog 53 #[.int .i64 a0, .string a1] w fun e w' => e = .returned (.bool r) ∧ Below w.heap.size w w' := by
 have HB := Aside0.mk (Below.refl w.heap.size w)
 have H : (if a0 = 1 then ((cr18_Unbool.f a1).bind fun bt361 => (some bt361.2)) else (if a0 = 2 then ((cr16_Right.f a1).bind fun t363 => (some t363)) else (if a0 = 3 then ((cr18_Unbits.f k a1).bind fun bt364 => (some bt364.2.2)) else (if a0 = 4 then (some true) else (if a0 = 5 then (some (a1.toList == ([] : List UInt8))) else (if a0 = 6 then ((cr17_Decode.f k a1).bind fun bt367 => (some bt367.2)) else (if a0 = 12 then ((cr18_Utf.f k a1).bind fun t371 => (some t371)) else (if a0 = 19 then ((cr18_Printable.f k a1).bind fun t372 => (some t372)) else (some false))))))))) = some r := h
 clear h
 by_cases c3 : a0 = 1
 case pos =>
  rw [if_pos c3] at H
  have c3b0 : (a0 == 1) = true := beq_iff_eq.mpr c3
  have c3b1 : (a0 != 1) = false := bne_eq_false_iff_eq.mpr c3
  clear c3
  replace H := Option.bind_eq_some_iff.mp H
  obtain ⟨⟨t361, t362⟩, A40, H⟩ := H
  replace H : (some t362) = some r := H
  have A4 := Aside0.mk A40
  clear A40
  obtain rfl := Option.some.inj H
  go_enter Tryd.func53, Tryd.ntmps53
  go_wp2_with (first | ((with_reducible refine gate_callee (f := 62) rfl ?_); refine goesL_ (some 17) rfl rfl Tryd.func62 (by kernel_rfl) rfl #[.string a1] rfl gargs ?_; (with_reducible refine (cr18_Unbool.calls a1 t361 t362 _ A4.out).mono ?_); rintro e w' ⟨rfl, ⟨nd, rfl⟩⟩; refine ⟨_, rfl, ?_⟩))
  go_ret
  exact ⟨rse, blw⟩
 rw [if_neg c3] at H
 have c3b0 : (a0 == 1) = false := beq_eq_false_iff_ne.mpr c3
 have c3b1 : (a0 != 1) = true := bne_iff_ne.mpr c3
 by_cases c5 : a0 = 2
 case pos =>
  rw [if_pos c5] at H
  have c5b0 : (a0 == 2) = true := beq_iff_eq.mpr c5
  have c5b1 : (a0 != 2) = false := bne_eq_false_iff_eq.mpr c5
  clear c5
  replace H := Option.bind_eq_some_iff.mp H
  obtain ⟨t363, A60, H⟩ := H
  replace H : (some t363) = some r := H
  have A6 := Aside0.mk A60
  clear A60
  obtain rfl := Option.some.inj H
  go_enter Tryd.func53, Tryd.ntmps53
  go_wp2_with (first | ((with_reducible refine gate_callee (f := 63) rfl ?_); refine goesL_ (some 24) rfl rfl Tryd.func63 (by kernel_rfl) rfl #[.string a1] rfl gargs ?_; (with_reducible refine (cr16_Right.calls a1 t363 _ A6.out).mono ?_); rintro e w' ⟨rfl, ⟨nd, rfl⟩⟩; refine ⟨_, rfl, ?_⟩))
  go_ret
  exact ⟨rse, blw⟩
 rw [if_neg c5] at H
 have c5b0 : (a0 == 2) = false := beq_eq_false_iff_ne.mpr c5
 have c5b1 : (a0 != 2) = true := bne_iff_ne.mpr c5
 by_cases c7 : a0 = 3
 case pos =>
  rw [if_pos c7] at H
  have c7b0 : (a0 == 3) = true := beq_iff_eq.mpr c7
  have c7b1 : (a0 != 3) = false := bne_eq_false_iff_eq.mpr c7
  clear c7
  replace H := Option.bind_eq_some_iff.mp H
  obtain ⟨⟨t364, t365, t366⟩, A80, H⟩ := H
  replace H : (some t366) = some r := H
  have A8 := Aside0.mk A80
  clear A80
  obtain rfl := Option.some.inj H
  go_enter Tryd.func53, Tryd.ntmps53
  go_wp2_with (first | ((with_reducible refine gate_callee (f := 64) rfl ?_); refine goesL_ (some 29) rfl rfl Tryd.func64 (by kernel_rfl) rfl #[.string a1] rfl gargs ?_; (with_reducible refine (cr18_Unbits.calls k a1 t364 t365 t366 _ A8.out).mono ?_); rintro e w9 ⟨rfl, hb⟩; refine ⟨_, rfl, ?_⟩; replace HB := Aside0.mk (below_step blw hb); (try clear hb); (try clear hb2); (try clear hk); (try clear hi)))
  go_ret
  exact ⟨rse, blw⟩
 rw [if_neg c7] at H
 have c7b0 : (a0 == 3) = false := beq_eq_false_iff_ne.mpr c7
 have c7b1 : (a0 != 3) = true := bne_iff_ne.mpr c7
 by_cases c10 : a0 = 4
 case pos =>
  rw [if_pos c10] at H
  have c10b0 : (a0 == 4) = true := beq_iff_eq.mpr c10
  have c10b1 : (a0 != 4) = false := bne_eq_false_iff_eq.mpr c10
  clear c10
  obtain rfl := Option.some.inj H
  go_enter Tryd.func53, Tryd.ntmps53
  go_wp2
  go_ret
  exact ⟨rse, blw⟩
 rw [if_neg c10] at H
 have c10b0 : (a0 == 4) = false := beq_eq_false_iff_ne.mpr c10
 have c10b1 : (a0 != 4) = true := bne_iff_ne.mpr c10
 by_cases c11 : a0 = 5
 case pos =>
  rw [if_pos c11] at H
  have c11b0 : (a0 == 5) = true := beq_iff_eq.mpr c11
  have c11b1 : (a0 != 5) = false := bne_eq_false_iff_eq.mpr c11
  clear c11
  obtain rfl := Option.some.inj H
  go_enter Tryd.func53, Tryd.ntmps53
  go_wp2
  go_ret
  exact ⟨rse, blw⟩
 rw [if_neg c11] at H
 have c11b0 : (a0 == 5) = false := beq_eq_false_iff_ne.mpr c11
 have c11b1 : (a0 != 5) = true := bne_iff_ne.mpr c11
 by_cases c12 : a0 = 6
 case pos =>
  rw [if_pos c12] at H
  have c12b0 : (a0 == 6) = true := beq_iff_eq.mpr c12
  have c12b1 : (a0 != 6) = false := bne_eq_false_iff_eq.mpr c12
  clear c12
  replace H := Option.bind_eq_some_iff.mp H
  obtain ⟨⟨t367, t368⟩, A130, H⟩ := H
  replace H : (some t368) = some r := H
  have A13 := Aside0.mk A130
  clear A130
  obtain rfl := Option.some.inj H
  go_enter Tryd.func53, Tryd.ntmps53
  go_wp2_with (first | ((with_reducible refine gate_callee (f := 65) rfl ?_); refine goesL_ (some 44) rfl rfl Tryd.func65 (by kernel_rfl) rfl #[.string a1] rfl gargs ?_; (with_reducible refine (cr17_Decode.calls k a1 t367 t368 _ A13.out).mono ?_); rintro e w14 ⟨v369, rfl, ho0, hb⟩; refine ⟨_, rfl, ?_⟩; have n0_ := Aside0.mk (Kd.R_lower ho0 (below_size blw)); have n1_ := Aside0.mk (below_step blw hb); clear HB; have HO370 := n0_; have HB := n1_; clear n0_ n1_; (try clear hb); (try clear hb2); (try clear hk); (try clear hi); (try clear ho0)))
  go_ret
  exact ⟨rse, blw⟩
 rw [if_neg c12] at H
 have c12b0 : (a0 == 6) = false := beq_eq_false_iff_ne.mpr c12
 have c12b1 : (a0 != 6) = true := bne_iff_ne.mpr c12
 by_cases c15 : a0 = 12
 case pos =>
  rw [if_pos c15] at H
  have c15b0 : (a0 == 12) = true := beq_iff_eq.mpr c15
  have c15b1 : (a0 != 12) = false := bne_eq_false_iff_eq.mpr c15
  clear c15
  replace H := Option.bind_eq_some_iff.mp H
  obtain ⟨t371, A160, H⟩ := H
  replace H : (some t371) = some r := H
  have A16 := Aside0.mk A160
  clear A160
  obtain rfl := Option.some.inj H
  go_enter Tryd.func53, Tryd.ntmps53
  go_wp2_with (first | ((with_reducible refine gate_callee (f := 66) rfl ?_); refine goesL_ (some 51) rfl rfl Tryd.func66 (by kernel_rfl) rfl #[.string a1] rfl gargs ?_; (with_reducible refine (cr18_Utf.calls k a1 t371 _ A16.out).mono ?_); rintro e w' ⟨rfl, ⟨nd, rfl⟩⟩; refine ⟨_, rfl, ?_⟩))
  go_ret
  exact ⟨rse, blw⟩
 rw [if_neg c15] at H
 have c15b0 : (a0 == 12) = false := beq_eq_false_iff_ne.mpr c15
 have c15b1 : (a0 != 12) = true := bne_iff_ne.mpr c15
 by_cases c17 : a0 = 19
 case neg =>
  rw [if_neg c17] at H
  have c17b0 : (a0 == 19) = false := beq_eq_false_iff_ne.mpr c17
  have c17b1 : (a0 != 19) = true := bne_iff_ne.mpr c17
  obtain rfl := Option.some.inj H
  go_enter Tryd.func53, Tryd.ntmps53
  go_wp2
  go_ret
  exact ⟨rse, blw⟩
 rw [if_pos c17] at H
 have c17b0 : (a0 == 19) = true := beq_iff_eq.mpr c17
 have c17b1 : (a0 != 19) = false := bne_eq_false_iff_eq.mpr c17
 clear c17
 replace H := Option.bind_eq_some_iff.mp H
 obtain ⟨t372, A180, H⟩ := H
 replace H : (some t372) = some r := H
 have A18 := Aside0.mk A180
 clear A180
 obtain rfl := Option.some.inj H
 go_enter Tryd.func53, Tryd.ntmps53
 go_wp2_with (first | ((with_reducible refine gate_callee (f := 67) rfl ?_); refine goesL_ (some 55) rfl rfl Tryd.func67 (by kernel_rfl) rfl #[.string a1] rfl gargs ?_; (with_reducible refine (cr18_Printable.calls k a1 t372 _ A18.out).mono ?_); rintro e w' ⟨rfl, ⟨nd, rfl⟩⟩; refine ⟨_, rfl, ?_⟩))
 go_ret
 exact ⟨rse, blw⟩

/-! ### cr20_one: function 40 -/
def cr20_one.j0 : Nat → Bool → Int → Int → Bool → ByteArray → List Int → Option (Bool)
 | 0, _, _, _, _, _, _ => none
 | k + 1, x20, x374000, x374001, x374002, x374003, x374004 => if x20 = true then (some false) else (if x374002 = true then (if x374003.toList = ([] : List UInt8) then (if x374000 = 0 then (if x374001 = 16 then (some true) else (some (x374001 == 17))) else (some true)) else (some false)) else (if (x374004.length : Int) = 0 then (if x374000 = 0 then ((cr18_Right.f k x374001 x374003).bind fun t374 => (some t374)) else (some true)) else (some false)))
def cr20_one.f (k : Nat) (a0_0 : Int) (a0_1 : Int) (a0_2 : Bool) (a0_3 : ByteArray) (l0_4 : List Int) : Option (Bool) := if a0_0 < 0 then (cr20_one.j0 k true a0_0 a0_1 a0_2 a0_3 l0_4) else (if a0_0 > 3 then (cr20_one.j0 k true a0_0 a0_1 a0_2 a0_3 l0_4) else (if a0_1 < 0 then (cr20_one.j0 k true a0_0 a0_1 a0_2 a0_3 l0_4) else (cr20_one.j0 k (decide (a0_1 > 2097151)) a0_0 a0_1 a0_2 a0_3 l0_4)))
theorem cr20_one.mono_l : ∀ k, (∀ y0 y1 y2 y3 y4 y5, LeO (cr20_one.j0 k y0 y1 y2 y3 y4 y5) (cr20_one.j0 (k + 1) y0 y1 y2 y3 y4 y5))
 | 0 => fun _ _ _ _ _ _ r h => by simp [cr20_one.j0] at h
 | k + 1 => by
  have ih0 := cr20_one.mono_l k
  ·intro y0 y1 y2 y3 y4 y5
   unfold cr20_one.j0
   repeat' first
   | (with_reducible first | exact ih0 _ _ _ _ _ _ | exact cr18_Right.mono _ _ _ | exact LeO.refl _ | exact LeO.none _ | refine LeO.ite ?_ ?_ | refine LeO.bind ?_ (fun _ => ?_))
   | exact ih0 _ _ _ _ _ _
   | exact cr18_Right.mono _ _ _
   | exact LeO.none _
   | refine LeO.ite ?_ ?_
   | refine LeO.bind ?_ (fun _ => ?_)
theorem cr20_one.mono : ∀ a0 a1 a2 a3 a4 k, LeO (cr20_one.f k a0 a1 a2 a3 a4) (cr20_one.f (k + 1) a0 a1 a2 a3 a4) := by
 intro a0 a1 a2 a3 a4 k
 have ih0 := cr20_one.mono_l k
 unfold cr20_one.f
 repeat' first
  | (with_reducible first | exact ih0 _ _ _ _ _ _ | exact cr18_Right.mono _ _ _ | exact LeO.refl _ | exact LeO.none _ | refine LeO.ite ?_ ?_ | refine LeO.bind ?_ (fun _ => ?_))
  | exact ih0 _ _ _ _ _ _
  | exact cr18_Right.mono _ _ _
  | exact LeO.none _
  | refine LeO.ite ?_ ?_
  | refine LeO.bind ?_ (fun _ => ?_)
set_option maxHeartbeats 8000000 in
set_option maxRecDepth 100000 in
theorem cr20_one.calls (k : Nat) (a0_0 : Int) (a0_1 : Int) (a0_2 : Bool) (a0_3 : ByteArray) (A0_4 : Option Addr) (c0_4 : Nat) (l0_4 : List Int) (r : Bool) (w : World) (hr0_4 : Kd.C (Kd.int .i64) w A0_4 l0_4.length l0_4) (hc0_4 : l0_4.length ≤ c0_4) (h : cr20_one.f k a0_0 a0_1 a0_2 a0_3 l0_4 = some r) :
 Calls Tryd.prog 40 #[.agg #[.int .i64 a0_0, .int .i64 a0_1, .bool a0_2, .string a0_3, .slice A0_4 l0_4.length c0_4]] w fun e w' => e = .returned (.bool r) ∧ Below w.heap.size w w' := by
 have hu41 := Tryd.underlying41
 have HR0_4 := Aside0.mk hr0_4
 have HC0_4 := Aside0.mk hc0_4
 clear hr0_4 hc0_4
 have HB := Aside0.mk (Below.refl w.heap.size w)
 have H : (if a0_0 < 0 then (cr20_one.j0 k true a0_0 a0_1 a0_2 a0_3 l0_4) else (if a0_0 > 3 then (cr20_one.j0 k true a0_0 a0_1 a0_2 a0_3 l0_4) else (if a0_1 < 0 then (cr20_one.j0 k true a0_0 a0_1 a0_2 a0_3 l0_4) else (cr20_one.j0 k (decide (a0_1 > 2097151)) a0_0 a0_1 a0_2 a0_3 l0_4)))) = some r := h
 clear h
 have HC2 := Aside0.mk H
 clear H
 go_enter Tryd.func40, Tryd.ntmps40
 go_upto_region 1 with (first | ((with_reducible refine gate_dst (N := 1) rfl ?_); refine box_event ?hg (N := 1) ?hd (cs := #[.int .i64 a0_0, .int .i64 a0_1, .bool a0_2, .string a0_3, .slice A0_4 l0_4.length c0_4]) (t := 41) ?hr ?_; (case hd => rfl); (case hg => rfl); (case hr => first | (go_simp; done) | (go_simp; rfl)); intro gb373 hg w3 hbox hb; have n0_ := Aside0.mk (below_step blw hb); have n1_ := Aside0.mk (hbox); have n2_ := Aside0.mk ((by rw [hg]; exact (below_size blw) : w.heap.size ≤ gb373)); have n3_ := Aside0.mk ((by rw [hg]; exact (below_size blw) : w.heap.size ≤ gb373)); clear HB; have HB := n0_; have BK373 := n1_; have GW373 := n2_; have GE373 := n3_; clear n0_ n1_ n2_ n3_; clear hb hbox hg))
 (try simp only [Act.put, List.setIfInBounds_toArray, List.set_cons_zero, List.set_cons_succ])
 go_cut [20] (fun v20 wc => ∃ (kq : Nat) (x20_1 : Bool), v20 = .bool x20_1 ∧ Aside0 (cr20_one.j0 kq x20_1 a0_0 a0_1 a0_2 a0_3 l0_4 = some r) ∧ Aside0 (kq ≤ k) ∧ Aside0 (wc.heap[gb373]? = some (.cells #[.int .i64 a0_0, .int .i64 a0_1, .bool a0_2, .string a0_3, (.slice A0_4 l0_4.length c0_4)] 41 (0, 0))) ∧ Aside0 (Below w.heap.size w wc))
 case first =>
  have H := HC2.out
  clear HC2
  by_cases c4 : a0_0 < 0
  case pos =>
   rw [if_pos c4] at H
   have c4b0 : decide (a0_0 < 0) = true := decide_eq_true c4
   clear c4
   (first | rw [c4b0] | (simp only [i64_w, i32_w]; rw [c4b0]) | rw [c4b1] | skip)
   have H' := Aside0.mk H
   clear H
   have hcz5_0 : w3.cell? ⟨gb373, 0, none⟩ = some (.int .i64 a0_0) := (blk_cell BK373.out 0).trans rfl
   have hcz5_1 : w3.cell? ⟨gb373, 1, none⟩ = some (.int .i64 a0_1) := (blk_cell BK373.out 1).trans rfl
   have hcz5_2 : w3.cell? ⟨gb373, 2, none⟩ = some (.bool a0_2) := (blk_cell BK373.out 2).trans rfl
   have hcz5_3 : w3.cell? ⟨gb373, 3, none⟩ = some (.string a0_3) := (blk_cell BK373.out 3).trans rfl
   have hcz5_4 : w3.cell? ⟨gb373, 4, none⟩ = some (.slice A0_4 l0_4.length c0_4) := (blk_cell BK373.out 4).trans rfl
   have hfz5_0 := blk_frozen BK373.out 0
   have hfz5_1 := blk_frozen BK373.out 1
   have hfz5_2 := blk_frozen BK373.out 2
   have hfz5_3 := blk_frozen BK373.out 3
   have hfz5_4 := blk_frozen BK373.out 4
   go_wp2
   go_meet
   case rel => exact ⟨_, (true), rsd, H', ⟨by first | omega | exact Nat.le_refl _⟩, ⟨boW BK373.out⟩, ⟨by repeat (first | (with_reducible first | exact HB.out | apply below_alloc | apply pw_below_drewN | apply below_drew1 | refine below_set ?_ GE373.out) | exact HB.out)⟩⟩
  rw [if_neg c4] at H
  have c4b0 : decide (a0_0 < 0) = false := decide_eq_false c4
  clear c4
  (first | rw [c4b0] | (simp only [i64_w, i32_w]; rw [c4b0]) | rw [c4b1] | skip)
  by_cases c6 : a0_0 > 3
  case pos =>
   rw [if_pos c6] at H
   have c6b0 : decide (3 < a0_0) = true := decide_eq_true c6
   clear c6
   have H' := Aside0.mk H
   clear H
   have hcz7_0 : w3.cell? ⟨gb373, 0, none⟩ = some (.int .i64 a0_0) := (blk_cell BK373.out 0).trans rfl
   have hcz7_1 : w3.cell? ⟨gb373, 1, none⟩ = some (.int .i64 a0_1) := (blk_cell BK373.out 1).trans rfl
   have hcz7_2 : w3.cell? ⟨gb373, 2, none⟩ = some (.bool a0_2) := (blk_cell BK373.out 2).trans rfl
   have hcz7_3 : w3.cell? ⟨gb373, 3, none⟩ = some (.string a0_3) := (blk_cell BK373.out 3).trans rfl
   have hcz7_4 : w3.cell? ⟨gb373, 4, none⟩ = some (.slice A0_4 l0_4.length c0_4) := (blk_cell BK373.out 4).trans rfl
   have hfz7_0 := blk_frozen BK373.out 0
   have hfz7_1 := blk_frozen BK373.out 1
   have hfz7_2 := blk_frozen BK373.out 2
   have hfz7_3 := blk_frozen BK373.out 3
   have hfz7_4 := blk_frozen BK373.out 4
   go_wp2
   go_meet
   case rel => exact ⟨_, (true), rsd, H', ⟨by first | omega | exact Nat.le_refl _⟩, ⟨boW BK373.out⟩, ⟨by repeat (first | (with_reducible first | exact HB.out | apply below_alloc | apply pw_below_drewN | apply below_drew1 | refine below_set ?_ GE373.out) | exact HB.out)⟩⟩
  rw [if_neg c6] at H
  have c6b0 : decide (3 < a0_0) = false := decide_eq_false c6
  clear c6
  by_cases c8 : a0_1 < 0
  case neg =>
   rw [if_neg c8] at H
   have c8b0 : decide (a0_1 < 0) = false := decide_eq_false c8
   clear c8
   have H' := Aside0.mk H
   clear H
   have hcz10_0 : w3.cell? ⟨gb373, 0, none⟩ = some (.int .i64 a0_0) := (blk_cell BK373.out 0).trans rfl
   have hcz10_1 : w3.cell? ⟨gb373, 1, none⟩ = some (.int .i64 a0_1) := (blk_cell BK373.out 1).trans rfl
   have hcz10_2 : w3.cell? ⟨gb373, 2, none⟩ = some (.bool a0_2) := (blk_cell BK373.out 2).trans rfl
   have hcz10_3 : w3.cell? ⟨gb373, 3, none⟩ = some (.string a0_3) := (blk_cell BK373.out 3).trans rfl
   have hcz10_4 : w3.cell? ⟨gb373, 4, none⟩ = some (.slice A0_4 l0_4.length c0_4) := (blk_cell BK373.out 4).trans rfl
   have hfz10_0 := blk_frozen BK373.out 0
   have hfz10_1 := blk_frozen BK373.out 1
   have hfz10_2 := blk_frozen BK373.out 2
   have hfz10_3 := blk_frozen BK373.out 3
   have hfz10_4 := blk_frozen BK373.out 4
   go_wp2
   go_meet
   case rel => exact ⟨_, (decide (a0_1 > 2097151)), rsd, H', ⟨by first | omega | exact Nat.le_refl _⟩, ⟨boW BK373.out⟩, ⟨by repeat (first | (with_reducible first | exact HB.out | apply below_alloc | apply pw_below_drewN | apply below_drew1 | refine below_set ?_ GE373.out) | exact HB.out)⟩⟩
  rw [if_pos c8] at H
  have c8b0 : decide (a0_1 < 0) = true := decide_eq_true c8
  clear c8
  have H' := Aside0.mk H
  clear H
  have hcz9_0 : w3.cell? ⟨gb373, 0, none⟩ = some (.int .i64 a0_0) := (blk_cell BK373.out 0).trans rfl
  have hcz9_1 : w3.cell? ⟨gb373, 1, none⟩ = some (.int .i64 a0_1) := (blk_cell BK373.out 1).trans rfl
  have hcz9_2 : w3.cell? ⟨gb373, 2, none⟩ = some (.bool a0_2) := (blk_cell BK373.out 2).trans rfl
  have hcz9_3 : w3.cell? ⟨gb373, 3, none⟩ = some (.string a0_3) := (blk_cell BK373.out 3).trans rfl
  have hcz9_4 : w3.cell? ⟨gb373, 4, none⟩ = some (.slice A0_4 l0_4.length c0_4) := (blk_cell BK373.out 4).trans rfl
  have hfz9_0 := blk_frozen BK373.out 0
  have hfz9_1 := blk_frozen BK373.out 1
  have hfz9_2 := blk_frozen BK373.out 2
  have hfz9_3 := blk_frozen BK373.out 3
  have hfz9_4 := blk_frozen BK373.out 4
  go_wp2
  go_meet
  case rel => exact ⟨_, (true), rsd, H', ⟨by first | omega | exact Nat.le_refl _⟩, ⟨boW BK373.out⟩, ⟨by repeat (first | (with_reducible first | exact HB.out | apply below_alloc | apply pw_below_drewN | apply below_drew1 | refine below_set ?_ GE373.out) | exact HB.out)⟩⟩
 case rest =>
  clear HC2
  try clear c4
  try clear c4b0
  try clear c4b1
  try clear c6
  try clear c6b0
  try clear c8
  try clear c8b0
  try clear hcz10_0
  try clear hcz10_1
  try clear hcz10_2
  try clear hcz10_3
  try clear hcz10_4
  try clear hcz5_0
  try clear hcz5_1
  try clear hcz5_2
  try clear hcz5_3
  try clear hcz5_4
  try clear hcz7_0
  try clear hcz7_1
  try clear hcz7_2
  try clear hcz7_3
  try clear hcz7_4
  try clear hcz9_0
  try clear hcz9_1
  try clear hcz9_2
  try clear hcz9_3
  try clear hcz9_4
  try clear hfz10_0
  try clear hfz10_1
  try clear hfz10_2
  try clear hfz10_3
  try clear hfz10_4
  try clear hfz5_0
  try clear hfz5_1
  try clear hfz5_2
  try clear hfz5_3
  try clear hfz5_4
  try clear hfz7_0
  try clear hfz7_1
  try clear hfz7_2
  try clear hfz7_3
  try clear hfz7_4
  try clear hfz9_0
  try clear hfz9_1
  try clear hfz9_2
  try clear hfz9_3
  try clear hfz9_4
  obtain ⟨kq, x20_1, rfl, HA, HJ1, BK373, HB⟩ := hcut
  cases kq with
  | zero => exact absurd HA.out (by simp [cr20_one.j0])
  | succ kj1 =>
   have H := HA.out
   clear HA
   simp only [cr20_one.j0] at H
   by_cases c11 : x20_1 = true
   case pos =>
    subst c11
    have H1 : (some false) = some r := by rw [if_pos rfl] at H; exact H
    clear H
    have H := H1
    clear H1
    obtain rfl := Option.some.inj H
    go_wp2
    go_ret
    exact ⟨rse, by repeat (first | (with_reducible first | exact HB.out | apply below_alloc | apply pw_below_drewN | apply below_drew1 | refine below_set ?_ GE373.out) | exact HB.out)⟩
   replace c11 := Bool.eq_false_iff.mpr c11
   subst c11
   have H1 : (if a0_2 = true then (if a0_3.toList = ([] : List UInt8) then (if a0_0 = 0 then (if a0_1 = 16 then (some true) else (some (a0_1 == 17))) else (some true)) else (some false)) else (if (l0_4.length : Int) = 0 then (if a0_0 = 0 then ((cr18_Right.f kj1 a0_1 a0_3).bind fun t374 => (some t374)) else (some true)) else (some false))) = some r := by rw [if_neg (show ¬ (false = true) by decide)] at H; exact H
   clear H
   have H := H1
   clear H1
   by_cases c12 : a0_2 = true
   case neg =>
    replace c12 := Bool.eq_false_iff.mpr c12
    subst c12
    have H1 : (if (l0_4.length : Int) = 0 then (if a0_0 = 0 then ((cr18_Right.f kj1 a0_1 a0_3).bind fun t374 => (some t374)) else (some true)) else (some false)) = some r := by rw [if_neg (show ¬ (false = true) by decide)] at H; exact H
    clear H
    have H := H1
    clear H1
    by_cases c20 : (l0_4.length : Int) = 0
    case neg =>
     rw [if_neg c20] at H
     have c20b0 : ((l0_4.length : Int) == 0) = false := beq_eq_false_iff_ne.mpr c20
     have c20b1 : ((l0_4.length : Int) != 0) = true := bne_iff_ne.mpr c20
     have c20b2 : ¬ (l0_4 = []) := fun h_ => c20 (by rw [h_]; rfl)
     obtain rfl := Option.some.inj H
     have hcz26_0 : wc.cell? ⟨gb373, 0, none⟩ = some (.int .i64 a0_0) := (blk_cell BK373.out 0).trans rfl
     have hcz26_1 : wc.cell? ⟨gb373, 1, none⟩ = some (.int .i64 a0_1) := (blk_cell BK373.out 1).trans rfl
     have hcz26_2 : wc.cell? ⟨gb373, 2, none⟩ = some (.bool false) := (blk_cell BK373.out 2).trans rfl
     have hcz26_3 : wc.cell? ⟨gb373, 3, none⟩ = some (.string a0_3) := (blk_cell BK373.out 3).trans rfl
     have hcz26_4 : wc.cell? ⟨gb373, 4, none⟩ = some (.slice A0_4 l0_4.length c0_4) := (blk_cell BK373.out 4).trans rfl
     have hfz26_0 := blk_frozen BK373.out 0
     have hfz26_1 := blk_frozen BK373.out 1
     have hfz26_2 := blk_frozen BK373.out 2
     have hfz26_3 := blk_frozen BK373.out 3
     have hfz26_4 := blk_frozen BK373.out 4
     go_wp2
     go_ret
     exact ⟨rse, by repeat (first | (with_reducible first | exact HB.out | apply below_alloc | apply pw_below_drewN | apply below_drew1 | refine below_set ?_ GE373.out) | exact HB.out)⟩
    rw [if_pos c20] at H
    have c20b0 : ((l0_4.length : Int) == 0) = true := beq_iff_eq.mpr c20
    have c20b1 : ((l0_4.length : Int) != 0) = false := bne_eq_false_iff_eq.mpr c20
    clear c20
    by_cases c21 : a0_0 = 0
    case neg =>
     rw [if_neg c21] at H
     have c21b0 : (a0_0 == 0) = false := beq_eq_false_iff_ne.mpr c21
     have c21b1 : (a0_0 != 0) = true := bne_iff_ne.mpr c21
     obtain rfl := Option.some.inj H
     have hcz25_0 : wc.cell? ⟨gb373, 0, none⟩ = some (.int .i64 a0_0) := (blk_cell BK373.out 0).trans rfl
     have hcz25_1 : wc.cell? ⟨gb373, 1, none⟩ = some (.int .i64 a0_1) := (blk_cell BK373.out 1).trans rfl
     have hcz25_2 : wc.cell? ⟨gb373, 2, none⟩ = some (.bool false) := (blk_cell BK373.out 2).trans rfl
     have hcz25_3 : wc.cell? ⟨gb373, 3, none⟩ = some (.string a0_3) := (blk_cell BK373.out 3).trans rfl
     have hcz25_4 : wc.cell? ⟨gb373, 4, none⟩ = some (.slice A0_4 l0_4.length c0_4) := (blk_cell BK373.out 4).trans rfl
     have hfz25_0 := blk_frozen BK373.out 0
     have hfz25_1 := blk_frozen BK373.out 1
     have hfz25_2 := blk_frozen BK373.out 2
     have hfz25_3 := blk_frozen BK373.out 3
     have hfz25_4 := blk_frozen BK373.out 4
     go_wp2
     go_ret
     exact ⟨rse, by repeat (first | (with_reducible first | exact HB.out | apply below_alloc | apply pw_below_drewN | apply below_drew1 | refine below_set ?_ GE373.out) | exact HB.out)⟩
    rw [if_pos c21] at H
    have c21b0 : (a0_0 == 0) = true := beq_iff_eq.mpr c21
    have c21b1 : (a0_0 != 0) = false := bne_eq_false_iff_eq.mpr c21
    clear c21
    replace H := Option.bind_eq_some_iff.mp H
    obtain ⟨t374, A220, H⟩ := H
    replace H : (some t374) = some r := H
    have A22 := Aside0.mk A220
    clear A220
    obtain rfl := Option.some.inj H
    have hcz23_0 : wc.cell? ⟨gb373, 0, none⟩ = some (.int .i64 a0_0) := (blk_cell BK373.out 0).trans rfl
    have hcz23_1 : wc.cell? ⟨gb373, 1, none⟩ = some (.int .i64 a0_1) := (blk_cell BK373.out 1).trans rfl
    have hcz23_2 : wc.cell? ⟨gb373, 2, none⟩ = some (.bool false) := (blk_cell BK373.out 2).trans rfl
    have hcz23_3 : wc.cell? ⟨gb373, 3, none⟩ = some (.string a0_3) := (blk_cell BK373.out 3).trans rfl
    have hcz23_4 : wc.cell? ⟨gb373, 4, none⟩ = some (.slice A0_4 l0_4.length c0_4) := (blk_cell BK373.out 4).trans rfl
    have hfz23_0 := blk_frozen BK373.out 0
    have hfz23_1 := blk_frozen BK373.out 1
    have hfz23_2 := blk_frozen BK373.out 2
    have hfz23_3 := blk_frozen BK373.out 3
    have hfz23_4 := blk_frozen BK373.out 4
    go_wp2_with (first | (go_at_call 53; (with_reducible refine (cr18_Right.calls kj1 a0_1 a0_3 t374 _ A22.out).mono ?_); rintro e w24 ⟨rfl, hb⟩; have n0_ := Aside0.mk (blk_below (g := gb373) (o := .cells #[.int .i64 a0_0, .int .i64 a0_1, .bool false, .string a0_3, .slice A0_4 l0_4.length c0_4] 41 (0, 0)) (boW BK373.out) hb); have n1_ := Aside0.mk (below_step (by repeat (first | (with_reducible first | exact HB.out | apply below_alloc | apply pw_below_drewN | apply below_drew1 | refine below_set ?_ GE373.out) | exact HB.out)) hb); clear BK373; clear HB; have BK373 := n0_; have HB := n1_; clear n0_ n1_; (try clear hb); (try clear hb2); (try clear hk); (try clear hi)))
    go_ret
    exact ⟨rse, by repeat (first | (with_reducible first | exact HB.out | apply below_alloc | apply pw_below_drewN | apply below_drew1 | refine below_set ?_ GE373.out) | exact HB.out)⟩
   subst c12
   have H1 : (if a0_3.toList = ([] : List UInt8) then (if a0_0 = 0 then (if a0_1 = 16 then (some true) else (some (a0_1 == 17))) else (some true)) else (some false)) = some r := by rw [if_pos rfl] at H; exact H
   clear H
   have H := H1
   clear H1
   by_cases c13 : a0_3.toList = ([] : List UInt8)
   case neg =>
    rw [if_neg c13] at H
    have c13b0 : (a0_3.toList == ([] : List UInt8)) = false := beq_eq_false_iff_ne.mpr c13
    have c13b1 : (a0_3.toList != ([] : List UInt8)) = true := bne_iff_ne.mpr c13
    obtain rfl := Option.some.inj H
    have hcz19_0 : wc.cell? ⟨gb373, 0, none⟩ = some (.int .i64 a0_0) := (blk_cell BK373.out 0).trans rfl
    have hcz19_1 : wc.cell? ⟨gb373, 1, none⟩ = some (.int .i64 a0_1) := (blk_cell BK373.out 1).trans rfl
    have hcz19_2 : wc.cell? ⟨gb373, 2, none⟩ = some (.bool true) := (blk_cell BK373.out 2).trans rfl
    have hcz19_3 : wc.cell? ⟨gb373, 3, none⟩ = some (.string a0_3) := (blk_cell BK373.out 3).trans rfl
    have hcz19_4 : wc.cell? ⟨gb373, 4, none⟩ = some (.slice A0_4 l0_4.length c0_4) := (blk_cell BK373.out 4).trans rfl
    have hfz19_0 := blk_frozen BK373.out 0
    have hfz19_1 := blk_frozen BK373.out 1
    have hfz19_2 := blk_frozen BK373.out 2
    have hfz19_3 := blk_frozen BK373.out 3
    have hfz19_4 := blk_frozen BK373.out 4
    go_wp2
    go_ret
    exact ⟨rse, by repeat (first | (with_reducible first | exact HB.out | apply below_alloc | apply pw_below_drewN | apply below_drew1 | refine below_set ?_ GE373.out) | exact HB.out)⟩
   rw [if_pos c13] at H
   have c13b0 : (a0_3.toList == ([] : List UInt8)) = true := beq_iff_eq.mpr c13
   have c13b1 : (a0_3.toList != ([] : List UInt8)) = false := bne_eq_false_iff_eq.mpr c13
   clear c13
   by_cases c14 : a0_0 = 0
   case neg =>
    rw [if_neg c14] at H
    have c14b0 : (a0_0 == 0) = false := beq_eq_false_iff_ne.mpr c14
    have c14b1 : (a0_0 != 0) = true := bne_iff_ne.mpr c14
    obtain rfl := Option.some.inj H
    have hcz18_0 : wc.cell? ⟨gb373, 0, none⟩ = some (.int .i64 a0_0) := (blk_cell BK373.out 0).trans rfl
    have hcz18_1 : wc.cell? ⟨gb373, 1, none⟩ = some (.int .i64 a0_1) := (blk_cell BK373.out 1).trans rfl
    have hcz18_2 : wc.cell? ⟨gb373, 2, none⟩ = some (.bool true) := (blk_cell BK373.out 2).trans rfl
    have hcz18_3 : wc.cell? ⟨gb373, 3, none⟩ = some (.string a0_3) := (blk_cell BK373.out 3).trans rfl
    have hcz18_4 : wc.cell? ⟨gb373, 4, none⟩ = some (.slice A0_4 l0_4.length c0_4) := (blk_cell BK373.out 4).trans rfl
    have hfz18_0 := blk_frozen BK373.out 0
    have hfz18_1 := blk_frozen BK373.out 1
    have hfz18_2 := blk_frozen BK373.out 2
    have hfz18_3 := blk_frozen BK373.out 3
    have hfz18_4 := blk_frozen BK373.out 4
    go_wp2
    go_ret
    exact ⟨rse, by repeat (first | (with_reducible first | exact HB.out | apply below_alloc | apply pw_below_drewN | apply below_drew1 | refine below_set ?_ GE373.out) | exact HB.out)⟩
   rw [if_pos c14] at H
   have c14b0 : (a0_0 == 0) = true := beq_iff_eq.mpr c14
   have c14b1 : (a0_0 != 0) = false := bne_eq_false_iff_eq.mpr c14
   clear c14
   by_cases c15 : a0_1 = 16
   case neg =>
    rw [if_neg c15] at H
    have c15b0 : (a0_1 == 16) = false := beq_eq_false_iff_ne.mpr c15
    have c15b1 : (a0_1 != 16) = true := bne_iff_ne.mpr c15
    obtain rfl := Option.some.inj H
    have hcz17_0 : wc.cell? ⟨gb373, 0, none⟩ = some (.int .i64 a0_0) := (blk_cell BK373.out 0).trans rfl
    have hcz17_1 : wc.cell? ⟨gb373, 1, none⟩ = some (.int .i64 a0_1) := (blk_cell BK373.out 1).trans rfl
    have hcz17_2 : wc.cell? ⟨gb373, 2, none⟩ = some (.bool true) := (blk_cell BK373.out 2).trans rfl
    have hcz17_3 : wc.cell? ⟨gb373, 3, none⟩ = some (.string a0_3) := (blk_cell BK373.out 3).trans rfl
    have hcz17_4 : wc.cell? ⟨gb373, 4, none⟩ = some (.slice A0_4 l0_4.length c0_4) := (blk_cell BK373.out 4).trans rfl
    have hfz17_0 := blk_frozen BK373.out 0
    have hfz17_1 := blk_frozen BK373.out 1
    have hfz17_2 := blk_frozen BK373.out 2
    have hfz17_3 := blk_frozen BK373.out 3
    have hfz17_4 := blk_frozen BK373.out 4
    go_wp2
    go_ret
    exact ⟨rse, by repeat (first | (with_reducible first | exact HB.out | apply below_alloc | apply pw_below_drewN | apply below_drew1 | refine below_set ?_ GE373.out) | exact HB.out)⟩
   rw [if_pos c15] at H
   have c15b0 : (a0_1 == 16) = true := beq_iff_eq.mpr c15
   have c15b1 : (a0_1 != 16) = false := bne_eq_false_iff_eq.mpr c15
   clear c15
   obtain rfl := Option.some.inj H
   have hcz16_0 : wc.cell? ⟨gb373, 0, none⟩ = some (.int .i64 a0_0) := (blk_cell BK373.out 0).trans rfl
   have hcz16_1 : wc.cell? ⟨gb373, 1, none⟩ = some (.int .i64 a0_1) := (blk_cell BK373.out 1).trans rfl
   have hcz16_2 : wc.cell? ⟨gb373, 2, none⟩ = some (.bool true) := (blk_cell BK373.out 2).trans rfl
   have hcz16_3 : wc.cell? ⟨gb373, 3, none⟩ = some (.string a0_3) := (blk_cell BK373.out 3).trans rfl
   have hcz16_4 : wc.cell? ⟨gb373, 4, none⟩ = some (.slice A0_4 l0_4.length c0_4) := (blk_cell BK373.out 4).trans rfl
   have hfz16_0 := blk_frozen BK373.out 0
   have hfz16_1 := blk_frozen BK373.out 1
   have hfz16_2 := blk_frozen BK373.out 2
   have hfz16_3 := blk_frozen BK373.out 3
   have hfz16_4 := blk_frozen BK373.out 4
   go_wp2
   go_ret
   exact ⟨rse, by repeat (first | (with_reducible first | exact HB.out | apply below_alloc | apply pw_below_drewN | apply below_drew1 | refine below_set ?_ GE373.out) | exact HB.out)⟩

end Go.Proofs.YtcbcojbhbhaimaaDoor.PTreeTells
