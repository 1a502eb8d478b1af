-- laid by a program out of the translation and of templates; not trusted: Lean checks it
import Derived.Test.YtlocmcemfjfhiaaDoorPStrsTellsx0
import Derived.Test.YtlocmcemfjfhiaaDoorPStrsTellsx1
import Derived.Test.YtlocmcemfjfhiaaDoorPStrsTellsx2
import Derived.Test.YtlocmcemfjfhiaaDoorPStrsTellsx4
import Derived.Test.YtlocmcemfjfhiaaDoorPStrsTellsx5
import Derived.Test.YtlocmcemfjfhiaaDoorPStrsTellsx6
namespace Go.Proofs.YtlocmcemfjfhiaaDoor.PStrsTells
open Go.RowKit Go.Proofs.YtlocmcemfjfhiaaDoorW.PrintWords Go.Proofs.YtlocmcemfjfhiaaDoorW.PrintLast Go.Proofs.YtlocmcemfjfhiaaDoorW.PrintMore
attribute [local go_sem] str_leq str_gtr str_geq max2_int min2_int max_two min_two max_three min_three max_four min_four   -- for this text's walks alone
set_option linter.unusedVariables false
set_option linter.unusedSimpArgs false

/-! ### clavigerref18_Utf: function 45 -/
def clavigerref18_Utf.l0 : Nat → ByteArray → Option (Bool)
  | 0, _ => none
  | k + 1, x0 => if (x0.size : Int) > 0 then ((clavigerref18_point.f k x0).bind fun t160 => (if t160 = 0 then (some false) else (if 0 ≤ t160 then (if t160 ≤ (x0.size : Int) then (clavigerref18_Utf.l0 k (x0.extract (t160 : Int).toNat x0.size)) else (none)) else (none)))) else (some true)
def clavigerref18_Utf.f (k : Nat) (a0 : ByteArray) : Option (Bool) := clavigerref18_Utf.l0 k a0
theorem clavigerref18_Utf.mono_l : ∀ k, (∀ y0, LeO (clavigerref18_Utf.l0 k y0) (clavigerref18_Utf.l0 (k + 1) y0))
  | 0 => fun _ r h => by simp [clavigerref18_Utf.l0] at h
  | k + 1 => by
    have ih0 := clavigerref18_Utf.mono_l k
    · intro y0
      unfold clavigerref18_Utf.l0
      repeat' first
      | (with_reducible exact ih0 _)
      | (with_reducible exact clavigerref18_point.mono _ _)
      | (with_reducible exact LeO.refl _)
      | (with_reducible exact LeO.none _)
      | (with_reducible refine LeO.ite ?_ ?_)
      | (with_reducible refine LeO.bind ?_ (fun _ => ?_))
      | exact ih0 _
      | exact clavigerref18_point.mono _ _
      | exact LeO.none _
      | refine LeO.ite ?_ ?_
      | refine LeO.bind ?_ (fun _ => ?_)
theorem clavigerref18_Utf.mono : ∀ a0 k, LeO (clavigerref18_Utf.f k a0) (clavigerref18_Utf.f (k + 1) a0) := by
  intro a0 k
  have ih0 := clavigerref18_Utf.mono_l k
  unfold clavigerref18_Utf.f
  repeat' first
      | (with_reducible exact ih0 _)
      | (with_reducible exact clavigerref18_point.mono _ _)
      | (with_reducible exact LeO.refl _)
      | (with_reducible exact LeO.none _)
      | (with_reducible refine LeO.ite ?_ ?_)
      | (with_reducible refine LeO.bind ?_ (fun _ => ?_))
      | exact ih0 _
      | exact clavigerref18_point.mono _ _
      | exact LeO.none _
      | refine LeO.ite ?_ ?_
      | refine LeO.bind ?_ (fun _ => ?_)
set_option maxHeartbeats 8000000 in
set_option maxRecDepth 100000 in
theorem clavigerref18_Utf.calls (k : Nat) (a0 : ByteArray) (r : Bool) (w : World) (h : clavigerref18_Utf.f k a0 = some r) :
    Calls Tryd.prog 45 #[.string a0] w fun e w' => e = .returned (.bool r) ∧ Drawn0 w w' := by
  have H : (clavigerref18_Utf.l0 k a0) = some r := h
  clear h
  have H' := Aside0.mk H
  clear H
  go_enter Tryd.func45, Tryd.ntmps45
  go_wp2
  go_loopg [0] k (fun kq v0 w' => ∃ (x0_1 : ByteArray), v0 = .string x0_1 ∧ Aside0 (clavigerref18_Utf.l0 kq x0_1 = some r) ∧ Aside0 (kq ≤ k) ∧ Drawn0 w w')
  case atStart => exact ⟨(a0), (by first | rfl | (simp; done) | (simp [*]; done)), H', ⟨Nat.le_refl _⟩, by repeat (first | exact Drawn0.refl _ | apply Drawn0.step)⟩
  case round =>
    clear H'
    obtain ⟨x0_1, rfl, HA, HK1, ⟨m1, rfl⟩⟩ := hrel
    cases gk with
    | zero => exact absurd HA.out (by simp [clavigerref18_Utf.l0])
    | succ k1 =>
      have H := HA.out
      clear HA
      simp only [clavigerref18_Utf.l0] at H
      by_cases c2 : (x0_1.size : Int) > 0
      · rw [if_pos c2] at H
        have c2b0 : decide (0 < (x0_1.size : Int)) = true := decide_eq_true c2
        have c2b1 : decide (0 < x0_1.size) = true := decide_eq_true (by omega)
        clear c2
        replace H := Option.bind_eq_some_iff.mp H
        obtain ⟨t160, A30, H⟩ := H
        replace H : (if t160 = 0 then (some false) else (if 0 ≤ t160 then (if t160 ≤ (x0_1.size : Int) then (clavigerref18_Utf.l0 k1 (x0_1.extract (t160 : Int).toNat x0_1.size)) else (none)) else (none))) = some r := H
        have A3 := Aside0.mk A30
        clear A30
        by_cases c4 : t160 = 0
        · rw [if_pos c4] at H
          have c4b0 : (t160 == 0) = true := beq_iff_eq.mpr c4
          have c4b1 : (t160 != 0) = false := bne_eq_false_iff_eq.mpr c4
          clear c4
          obtain rfl := Option.some.inj H
          go_wp2_with (first | ((with_reducible refine gate_callee (f := 57) rfl ?_); refine goesL_ (some 8) rfl rfl Tryd.func57 (by kernel_rfl) rfl #[.string x0_1] rfl (by (try simp only [List.map_toArray, List.map_cons, List.map_nil]); first | done | rfl | (simp only [List.length_drop, List.length_take]; rfl)) ?_; (with_reducible refine (clavigerref18_point.calls k1 x0_1 t160 _ A3.out).mono ?_); rintro e w' ⟨rfl, ⟨nd, rfl⟩⟩; refine ⟨_, rfl, ?_⟩))
          go_ret
          exact ⟨by first | rfl | (simp; done) | (simp [*]; done), by repeat (first | exact Drawn0.refl _ | apply Drawn0.step)⟩
        · rw [if_neg c4] at H
          have c4b0 : (t160 == 0) = false := beq_eq_false_iff_ne.mpr c4
          have c4b1 : (t160 != 0) = true := bne_iff_ne.mpr c4
          by_cases c5 : 0 ≤ t160
          · rw [if_pos c5] at H
            have c5b0 := eq_true c5
            have c5b1 : decide (0 ≤ t160) = true := decide_eq_true c5
            clear c5
            by_cases c6 : t160 ≤ (x0_1.size : Int)
            · rw [if_pos c6] at H
              have c6b0 := eq_true c6
              have c6b1 : decide (t160 ≤ (x0_1.size : Int)) = true := decide_eq_true c6
              clear c6
              have H' := Aside0.mk H
              clear H
              go_wp2_with (first | ((with_reducible refine gate_callee (f := 57) rfl ?_); refine goesL_ (some 8) rfl rfl Tryd.func57 (by kernel_rfl) rfl #[.string x0_1] rfl (by (try simp only [List.map_toArray, List.map_cons, List.map_nil]); first | done | rfl | (simp only [List.length_drop, List.length_take]; rfl)) ?_; (with_reducible refine (clavigerref18_point.calls k1 x0_1 t160 _ A3.out).mono ?_); rintro e w' ⟨rfl, ⟨nd, rfl⟩⟩; refine ⟨_, rfl, ?_⟩))
              go_roundg k1
              case measure => have := HK1.out; omega
              case rel => exact ⟨(x0_1.extract (t160 : Int).toNat x0_1.size), (by first | rfl | (simp; done) | (simp [*]; done)), H', ⟨by have := HK1.out; omega⟩, by repeat (first | exact Drawn0.refl _ | apply Drawn0.step)⟩
            · rw [if_neg c6] at H
              exact absurd H (by simp)
          · rw [if_neg c5] at H
            exact absurd H (by simp)
      · rw [if_neg c2] at H
        have c2b0 : decide (0 < (x0_1.size : Int)) = false := decide_eq_false c2
        have c2b1 : decide (0 < x0_1.size) = false := decide_eq_false (by omega)
        clear c2
        obtain rfl := Option.some.inj H
        go_wp2
        go_ret
        exact ⟨by first | rfl | (simp; done) | (simp [*]; done), by repeat (first | exact Drawn0.refl _ | apply Drawn0.step)⟩

/-! ### clavigerref18_Printable: function 47 -/
mutual
def clavigerref18_Printable.l0 : Nat → ByteArray → Int → Option (Bool)
  | 0, _, _ => none
  | k + 1, x0, x3 => if x3 < (x0.size : Int) then (clavigerref18_Printable.l1 k x0 x3 false 0) else (some true)
def clavigerref18_Printable.l1 : Nat → ByteArray → Int → Bool → Int → Option (Bool)
  | 0, _, _, _, _ => none
  | k + 1, x0, x3, x4, x5 => if x5 < 74 then (if 0 ≤ x5 then (if 0 ≤ x3 then (if x3 < (x0.size : Int) then (if (bt (⟨#[65, 66, 67, 68, 69, 70, 71, 72, 73, 74, 75, 76, 77, 78, 79, 80, 81, 82, 83, 84, 85, 86, 87, 88, 89, 90, 97, 98, 99, 100, 101, 102, 103, 104, 105, 106, 107, 108, 109, 110, 111, 112, 113, 114, 115, 116, 117, 118, 119, 120, 121, 122, 48, 49, 50, 51, 52, 53, 54, 55, 56, 57, 32, 39, 40, 41, 43, 44, 45, 46, 47, 58, 61, 63]⟩ : ByteArray) x5) = (bt x0 x3) then (clavigerref18_Printable.l1 k x0 x3 true (wrap64 (x5 + 1))) else (clavigerref18_Printable.l1 k x0 x3 x4 (wrap64 (x5 + 1)))) else (none)) else (none)) else (none)) else (if x4 = true then (clavigerref18_Printable.l0 k x0 (wrap64 (x3 + 1))) else (some false))
end
def clavigerref18_Printable.f (k : Nat) (a0 : ByteArray) : Option (Bool) := clavigerref18_Printable.l0 k a0 0
theorem clavigerref18_Printable.mono_l : ∀ k, (∀ y0 y1, LeO (clavigerref18_Printable.l0 k y0 y1) (clavigerref18_Printable.l0 (k + 1) y0 y1)) ∧ (∀ y0 y1 y2 y3, LeO (clavigerref18_Printable.l1 k y0 y1 y2 y3) (clavigerref18_Printable.l1 (k + 1) y0 y1 y2 y3))
  | 0 => ⟨fun _ _ r h => by simp [clavigerref18_Printable.l0] at h, fun _ _ _ _ r h => by simp [clavigerref18_Printable.l1] at h⟩
  | k + 1 => by
    obtain ⟨ih0, ih1⟩ := clavigerref18_Printable.mono_l k
    refine ⟨?_, ?_⟩
    · intro y0 y1
      unfold clavigerref18_Printable.l0
      repeat' first
      | (with_reducible exact ih0 _ _)
      | (with_reducible exact ih1 _ _ _ _)
      | (with_reducible exact LeO.refl _)
      | (with_reducible exact LeO.none _)
      | (with_reducible refine LeO.ite ?_ ?_)
      | (with_reducible refine LeO.bind ?_ (fun _ => ?_))
      | exact ih0 _ _
      | exact ih1 _ _ _ _
      | exact LeO.none _
      | refine LeO.ite ?_ ?_
      | refine LeO.bind ?_ (fun _ => ?_)
    · intro y0 y1 y2 y3
      unfold clavigerref18_Printable.l1
      repeat' first
      | (with_reducible exact ih0 _ _)
      | (with_reducible exact ih1 _ _ _ _)
      | (with_reducible exact LeO.refl _)
      | (with_reducible exact LeO.none _)
      | (with_reducible refine LeO.ite ?_ ?_)
      | (with_reducible refine LeO.bind ?_ (fun _ => ?_))
      | exact ih0 _ _
      | exact ih1 _ _ _ _
      | exact LeO.none _
      | refine LeO.ite ?_ ?_
      | refine LeO.bind ?_ (fun _ => ?_)
theorem clavigerref18_Printable.mono : ∀ a0 k, LeO (clavigerref18_Printable.f k a0) (clavigerref18_Printable.f (k + 1) a0) := by
  intro a0 k
  obtain ⟨ih0, ih1⟩ := clavigerref18_Printable.mono_l k
  unfold clavigerref18_Printable.f
  repeat' first
      | (with_reducible exact ih0 _ _)
      | (with_reducible exact ih1 _ _ _ _)
      | (with_reducible exact LeO.refl _)
      | (with_reducible exact LeO.none _)
      | (with_reducible refine LeO.ite ?_ ?_)
      | (with_reducible refine LeO.bind ?_ (fun _ => ?_))
      | exact ih0 _ _
      | exact ih1 _ _ _ _
      | exact LeO.none _
      | refine LeO.ite ?_ ?_
      | refine LeO.bind ?_ (fun _ => ?_)
set_option maxHeartbeats 8000000 in
set_option maxRecDepth 100000 in
theorem clavigerref18_Printable.calls (k : Nat) (a0 : ByteArray) (r : Bool) (w : World) (h : clavigerref18_Printable.f k a0 = some r) :
    Calls Tryd.prog 47 #[.string a0] w fun e w' => e = .returned (.bool r) ∧ Drawn0 w w' := by
  have H : (clavigerref18_Printable.l0 k a0 0) = some r := h
  clear h
  have H' := Aside0.mk H
  clear H
  go_enter Tryd.func47, Tryd.ntmps47
  go_wp2
  repeat (go_quiet (fail); try go_wp2)
  go_loopg [3] k (fun kq v3 w' => ∃ (x3_1 : Int), v3 = .int .i64 x3_1 ∧ Aside0 (clavigerref18_Printable.l0 kq a0 x3_1 = some r) ∧ Aside0 (kq ≤ k) ∧ Drawn0 w w')
  case atStart => exact ⟨(0), (by first | rfl | (simp; done) | (simp [*]; done)), H', ⟨Nat.le_refl _⟩, by repeat (first | exact Drawn0.refl _ | apply Drawn0.step)⟩
  case round =>
    clear H'
    obtain ⟨x3_1, rfl, HA, HK1, ⟨m1, rfl⟩⟩ := hrel
    cases gk with
    | zero => exact absurd HA.out (by simp [clavigerref18_Printable.l0])
    | succ k1 =>
      have H := HA.out
      clear HA
      simp only [clavigerref18_Printable.l0] at H
      by_cases c2 : x3_1 < (a0.size : Int)
      · rw [if_pos c2] at H
        have c2b0 : decide (x3_1 < (a0.size : Int)) = true := decide_eq_true c2
        clear c2
        have H' := Aside0.mk H
        clear H
        go_wp2
        repeat (go_quiet (fail); try go_wp2)
        go_loopg [4, 5] k1 (fun kq v4 v5 w' => ∃ (x4_2 : Bool) (x5_2 : Int), v4 = .bool x4_2 ∧ v5 = .int .i64 x5_2 ∧ Aside0 (clavigerref18_Printable.l1 kq a0 x3_1 x4_2 x5_2 = some r) ∧ Aside0 (kq ≤ k1) ∧ Drawn0 w w')
        case atStart => exact ⟨(false), (0), (by first | rfl | (simp; done) | (simp [*]; done)), (by first | rfl | (simp; done) | (simp [*]; done)), H', ⟨Nat.le_refl _⟩, by repeat (first | exact Drawn0.refl _ | apply Drawn0.step)⟩
        case round =>
          clear H'
          try clear c2
          try clear c2b0
          try clear p2
          obtain ⟨x4_2, x5_2, rfl, rfl, HA, HK2, ⟨m2, rfl⟩⟩ := hrel
          cases gk with
          | zero => exact absurd HA.out (by simp [clavigerref18_Printable.l1])
          | succ k2 =>
            have H := HA.out
            clear HA
            simp only [clavigerref18_Printable.l1] at H
            by_cases c3 : x5_2 < 74
            · rw [if_pos c3] at H
              have c3b0 : decide (x5_2 < 74) = true := decide_eq_true c3
              clear c3
              by_cases c4 : 0 ≤ x5_2
              · rw [if_pos c4] at H
                have c4b0 : decide (0 ≤ x5_2) = true := decide_eq_true c4
                clear c4
                by_cases c6 : 0 ≤ x3_1
                · rw [if_pos c6] at H
                  have c6b0 : decide (0 ≤ x3_1) = true := decide_eq_true c6
                  clear c6
                  by_cases c7 : x3_1 < (a0.size : Int)
                  · rw [if_pos c7] at H
                    have c7b0 : decide (x3_1 < (a0.size : Int)) = true := decide_eq_true c7
                    clear c7
                    by_cases c9 : (bt (⟨#[65, 66, 67, 68, 69, 70, 71, 72, 73, 74, 75, 76, 77, 78, 79, 80, 81, 82, 83, 84, 85, 86, 87, 88, 89, 90, 97, 98, 99, 100, 101, 102, 103, 104, 105, 106, 107, 108, 109, 110, 111, 112, 113, 114, 115, 116, 117, 118, 119, 120, 121, 122, 48, 49, 50, 51, 52, 53, 54, 55, 56, 57, 32, 39, 40, 41, 43, 44, 45, 46, 47, 58, 61, 63]⟩ : ByteArray) x5_2) = (bt a0 x3_1)
                    · rw [if_pos c9] at H
                      have c9b0 : ((bt (⟨#[65, 66, 67, 68, 69, 70, 71, 72, 73, 74, 75, 76, 77, 78, 79, 80, 81, 82, 83, 84, 85, 86, 87, 88, 89, 90, 97, 98, 99, 100, 101, 102, 103, 104, 105, 106, 107, 108, 109, 110, 111, 112, 113, 114, 115, 116, 117, 118, 119, 120, 121, 122, 48, 49, 50, 51, 52, 53, 54, 55, 56, 57, 32, 39, 40, 41, 43, 44, 45, 46, 47, 58, 61, 63]⟩ : ByteArray) x5_2) == (bt a0 x3_1)) = true := beq_iff_eq.mpr c9
                      have c9b1 : ((bt (⟨#[65, 66, 67, 68, 69, 70, 71, 72, 73, 74, 75, 76, 77, 78, 79, 80, 81, 82, 83, 84, 85, 86, 87, 88, 89, 90, 97, 98, 99, 100, 101, 102, 103, 104, 105, 106, 107, 108, 109, 110, 111, 112, 113, 114, 115, 116, 117, 118, 119, 120, 121, 122, 48, 49, 50, 51, 52, 53, 54, 55, 56, 57, 32, 39, 40, 41, 43, 44, 45, 46, 47, 58, 61, 63]⟩ : ByteArray) x5_2) != (bt a0 x3_1)) = false := bne_eq_false_iff_eq.mpr c9
                      clear c9
                      have H' := Aside0.mk H
                      clear H
                      have p5 : 0 ≤ (x5_2 : Int) := of_decide_eq_true (by first | (with_reducible assumption) | assumption)
                      have q5 : x5_2 < (74 : Int) := of_decide_eq_true (by first | (with_reducible assumption) | assumption)
                      have hx5 := bt_at (⟨#[65, 66, 67, 68, 69, 70, 71, 72, 73, 74, 75, 76, 77, 78, 79, 80, 81, 82, 83, 84, 85, 86, 87, 88, 89, 90, 97, 98, 99, 100, 101, 102, 103, 104, 105, 106, 107, 108, 109, 110, 111, 112, 113, 114, 115, 116, 117, 118, 119, 120, 121, 122, 48, 49, 50, 51, 52, 53, 54, 55, 56, 57, 32, 39, 40, 41, 43, 44, 45, 46, 47, 58, 61, 63]⟩ : ByteArray) x5_2
                      replace p5 := eq_true p5
                      replace q5 := eq_true q5
                      have p8 : 0 ≤ (x3_1 : Int) := of_decide_eq_true (by first | (with_reducible assumption) | assumption)
                      have q8 : x3_1 < (a0.size : Int) := of_decide_eq_true (by first | (with_reducible assumption) | assumption)
                      have hx8 := bt_at a0 x3_1
                      replace p8 := eq_true p8
                      replace q8 := eq_true q8
                      go_wp2
                      repeat (go_quiet (fail); try go_wp2)
                      go_roundg k2
                      case measure => have := HK1.out; have := HK2.out; omega
                      case rel => exact ⟨(true), (wrap64 (x5_2 + 1)), (by first | rfl | (simp; done) | (simp [*]; done)), (by first | rfl | (simp; done) | (simp [*]; done)), H', ⟨by have := HK1.out; have := HK2.out; omega⟩, by repeat (first | exact Drawn0.refl _ | apply Drawn0.step)⟩
                    · rw [if_neg c9] at H
                      have c9b0 : ((bt (⟨#[65, 66, 67, 68, 69, 70, 71, 72, 73, 74, 75, 76, 77, 78, 79, 80, 81, 82, 83, 84, 85, 86, 87, 88, 89, 90, 97, 98, 99, 100, 101, 102, 103, 104, 105, 106, 107, 108, 109, 110, 111, 112, 113, 114, 115, 116, 117, 118, 119, 120, 121, 122, 48, 49, 50, 51, 52, 53, 54, 55, 56, 57, 32, 39, 40, 41, 43, 44, 45, 46, 47, 58, 61, 63]⟩ : ByteArray) x5_2) == (bt a0 x3_1)) = false := beq_eq_false_iff_ne.mpr c9
                      have c9b1 : ((bt (⟨#[65, 66, 67, 68, 69, 70, 71, 72, 73, 74, 75, 76, 77, 78, 79, 80, 81, 82, 83, 84, 85, 86, 87, 88, 89, 90, 97, 98, 99, 100, 101, 102, 103, 104, 105, 106, 107, 108, 109, 110, 111, 112, 113, 114, 115, 116, 117, 118, 119, 120, 121, 122, 48, 49, 50, 51, 52, 53, 54, 55, 56, 57, 32, 39, 40, 41, 43, 44, 45, 46, 47, 58, 61, 63]⟩ : ByteArray) x5_2) != (bt a0 x3_1)) = true := bne_iff_ne.mpr c9
                      have H' := Aside0.mk H
                      clear H
                      have p5 : 0 ≤ (x5_2 : Int) := of_decide_eq_true (by first | (with_reducible assumption) | assumption)
                      have q5 : x5_2 < (74 : Int) := of_decide_eq_true (by first | (with_reducible assumption) | assumption)
                      have hx5 := bt_at (⟨#[65, 66, 67, 68, 69, 70, 71, 72, 73, 74, 75, 76, 77, 78, 79, 80, 81, 82, 83, 84, 85, 86, 87, 88, 89, 90, 97, 98, 99, 100, 101, 102, 103, 104, 105, 106, 107, 108, 109, 110, 111, 112, 113, 114, 115, 116, 117, 118, 119, 120, 121, 122, 48, 49, 50, 51, 52, 53, 54, 55, 56, 57, 32, 39, 40, 41, 43, 44, 45, 46, 47, 58, 61, 63]⟩ : ByteArray) x5_2
                      replace p5 := eq_true p5
                      replace q5 := eq_true q5
                      have p8 : 0 ≤ (x3_1 : Int) := of_decide_eq_true (by first | (with_reducible assumption) | assumption)
                      have q8 : x3_1 < (a0.size : Int) := of_decide_eq_true (by first | (with_reducible assumption) | assumption)
                      have hx8 := bt_at a0 x3_1
                      replace p8 := eq_true p8
                      replace q8 := eq_true q8
                      go_wp2
                      repeat (go_quiet (fail); try go_wp2)
                      go_roundg k2
                      case measure => have := HK1.out; have := HK2.out; omega
                      case rel => exact ⟨(x4_2), (wrap64 (x5_2 + 1)), (by first | rfl | (simp; done) | (simp [*]; done)), (by first | rfl | (simp; done) | (simp [*]; done)), H', ⟨by have := HK1.out; have := HK2.out; omega⟩, by repeat (first | exact Drawn0.refl _ | apply Drawn0.step)⟩
                  · rw [if_neg c7] at H
                    exact absurd H (by simp)
                · rw [if_neg c6] at H
                  exact absurd H (by simp)
              · rw [if_neg c4] at H
                exact absurd H (by simp)
            · rw [if_neg c3] at H
              have c3b0 : decide (x5_2 < 74) = false := decide_eq_false c3
              clear c3
              by_cases c10 : x4_2 = true
              · subst c10
                have H1 : (clavigerref18_Printable.l0 k2 a0 (wrap64 (x3_1 + 1))) = some r := by rw [if_pos rfl] at H; exact H
                clear H
                have H := H1
                clear H1
                have H' := Aside0.mk H
                clear H
                go_wp2
                repeat (go_quiet (fail); try go_wp2)
                go_roundg k2
                case measure => have := HK1.out; have := HK2.out; omega
                case rel => exact ⟨(wrap64 (x3_1 + 1)), (by first | rfl | (simp; done) | (simp [*]; done)), H', ⟨by have := HK1.out; have := HK2.out; omega⟩, by repeat (first | exact Drawn0.refl _ | apply Drawn0.step)⟩
              · replace c10 := Bool.eq_false_iff.mpr c10
                subst c10
                have H1 : (some false) = some r := by rw [if_neg (show ¬ (false = true) by decide)] at H; exact H
                clear H
                have H := H1
                clear H1
                obtain rfl := Option.some.inj H
                go_wp2
                repeat (go_quiet (fail); try go_wp2)
                go_ret
                exact ⟨by first | rfl | (simp; done) | (simp [*]; done), by repeat (first | exact Drawn0.refl _ | apply Drawn0.step)⟩
      · rw [if_neg c2] at H
        have c2b0 : decide (x3_1 < (a0.size : Int)) = false := decide_eq_false c2
        clear c2
        obtain rfl := Option.some.inj H
        go_wp2
        repeat (go_quiet (fail); try go_wp2)
        go_ret
        exact ⟨by first | rfl | (simp; done) | (simp [*]; done), by repeat (first | exact Drawn0.refl _ | apply Drawn0.step)⟩

/-! ### clavigerlaw18_StrsTells: function 7 -/
def clavigerlaw18_StrsTells.f (k : Nat) (a0 : ByteArray) (a1 : Int) (a2 : Bool) : Option (Bool) := if (a0.size : Int) > 200 then ((clavigerlaw18_awake.f k).bind fun t161 => (some t161)) else ((strs_Bits.f k a0 a1).bind fun bt162 => ((clavigerref18_Bits.f k a0 a1).bind fun bt164 => ((strs_Unbits.f k a0).bind fun bt166 => ((clavigerref18_Unbits.f k a0).bind fun bt169 => ((strs_Unbool.f a0).bind fun bt172 => ((clavigerref18_Unbool.f a0).bind fun bt174 => (if bt162.1.toList = bt164.1.toList then (if (bt162.2 == bt164.2) = true then (if bt166.1.toList = bt169.1.toList then (if bt166.2.1 = bt169.2.1 then (if (bt166.2.2 == bt169.2.2) = true then (if (bt172.1 == bt174.1) = true then (if (bt172.2 == bt174.2) = true then ((strs_Bool.f a2).bind fun t176 => ((clavigerref18_Bool.f a2).bind fun t177 => (if t176.toList = t177.toList then ((strs_Utf.f a0).bind fun t178 => ((clavigerref18_Utf.f k a0).bind fun t179 => (if (t178 == t179) = true then ((strs_Printable.f a0).bind fun t180 => ((clavigerref18_Printable.f k a0).bind fun t181 => (if (t180 == t181) = true then ((clavigerlaw18_awake.f k).bind fun t182 => (some t182)) else (some false)))) else (some false)))) else (some false)))) else (some false)) else (some false)) else (some false)) else (some false)) else (some false)) else (some false)) else (some false))))))))
theorem clavigerlaw18_StrsTells.mono : ∀ a0 a1 a2 k, LeO (clavigerlaw18_StrsTells.f k a0 a1 a2) (clavigerlaw18_StrsTells.f (k + 1) a0 a1 a2) := by
  intro a0 a1 a2 k
  unfold clavigerlaw18_StrsTells.f
  repeat' first
      | (with_reducible exact clavigerlaw18_awake.mono _)
      | (with_reducible exact clavigerref18_Bits.mono _ _ _)
      | (with_reducible exact clavigerref18_Printable.mono _ _)
      | (with_reducible exact clavigerref18_Unbits.mono _ _)
      | (with_reducible exact clavigerref18_Utf.mono _ _)
      | (with_reducible exact strs_Bits.mono _ _ _)
      | (with_reducible exact strs_Unbits.mono _ _)
      | (with_reducible exact LeO.refl _)
      | (with_reducible exact LeO.none _)
      | (with_reducible refine LeO.ite ?_ ?_)
      | (with_reducible refine LeO.bind ?_ (fun _ => ?_))
      | exact clavigerlaw18_awake.mono _
      | exact clavigerref18_Bits.mono _ _ _
      | exact clavigerref18_Printable.mono _ _
      | exact clavigerref18_Unbits.mono _ _
      | exact clavigerref18_Utf.mono _ _
      | exact strs_Bits.mono _ _ _
      | exact strs_Unbits.mono _ _
      | exact LeO.none _
      | refine LeO.ite ?_ ?_
      | refine LeO.bind ?_ (fun _ => ?_)
set_option maxHeartbeats 8000000 in
set_option maxRecDepth 100000 in
theorem clavigerlaw18_StrsTells.calls (k : Nat) (a0 : ByteArray) (a1 : Int) (a2 : Bool) (r : Bool) (w : World) (HT_ : Aside0 (TB w)) (HR_ : Aside0 (r = true)) (h : clavigerlaw18_StrsTells.f k a0 a1 a2 = some r) :
    Calls Tryd.prog 7 #[.string a0, .int .i64 a1, .bool a2] w fun e w' => e = .returned (.bool r) ∧ Below w.heap.size w w' := by
  have HB := Aside0.mk (Below.refl w.heap.size w)
  have H : (if (a0.size : Int) > 200 then ((clavigerlaw18_awake.f k).bind fun t161 => (some t161)) else ((strs_Bits.f k a0 a1).bind fun bt162 => ((clavigerref18_Bits.f k a0 a1).bind fun bt164 => ((strs_Unbits.f k a0).bind fun bt166 => ((clavigerref18_Unbits.f k a0).bind fun bt169 => ((strs_Unbool.f a0).bind fun bt172 => ((clavigerref18_Unbool.f a0).bind fun bt174 => (if bt162.1.toList = bt164.1.toList then (if (bt162.2 == bt164.2) = true then (if bt166.1.toList = bt169.1.toList then (if bt166.2.1 = bt169.2.1 then (if (bt166.2.2 == bt169.2.2) = true then (if (bt172.1 == bt174.1) = true then (if (bt172.2 == bt174.2) = true then ((strs_Bool.f a2).bind fun t176 => ((clavigerref18_Bool.f a2).bind fun t177 => (if t176.toList = t177.toList then ((strs_Utf.f a0).bind fun t178 => ((clavigerref18_Utf.f k a0).bind fun t179 => (if (t178 == t179) = true then ((strs_Printable.f a0).bind fun t180 => ((clavigerref18_Printable.f k a0).bind fun t181 => (if (t180 == t181) = true then ((clavigerlaw18_awake.f k).bind fun t182 => (some t182)) else (some false)))) else (some false)))) else (some false)))) else (some false)) else (some false)) else (some false)) else (some false)) else (some false)) else (some false)) else (some false))))))))) = some r := h
  clear h
  by_cases c4 : (a0.size : Int) > 200
  · rw [if_pos c4] at H
    have c4b0 : decide (200 < (a0.size : Int)) = true := decide_eq_true c4
    have c4b1 : decide (200 < a0.size) = true := decide_eq_true (by omega)
    clear c4
    replace H := Option.bind_eq_some_iff.mp H
    obtain ⟨t161, A50, H⟩ := H
    replace H : (some t161) = some r := H
    have A5 := Aside0.mk A50
    clear A50
    obtain rfl := Option.some.inj H
    go_enter Tryd.func7, Tryd.ntmps7
    go_wp2_with (first | ((with_reducible refine gate_callee (f := 35) rfl ?_); refine goesL_ (some 24) rfl rfl Tryd.func35 (by kernel_rfl) rfl #[] rfl (by (try simp only [List.map_toArray, List.map_cons, List.map_nil]); first | done | rfl | (simp only [List.length_drop, List.length_take]; rfl)) ?_; (with_reducible refine (clavigerlaw18_awake.calls k  t161 _ ?tb_ A5.out).mono ?_); (case tb_ => exact ⟨TB.below HT_.out (by repeat (first | (with_reducible first | exact HB.out | apply below_alloc | apply pw_below_drewN | apply below_drew1) | exact HB.out | exact Below.refl _ _))⟩); rintro e w6 ⟨rfl, hb⟩; refine ⟨_, rfl, ?_⟩; have n0_ := Aside0.mk (below_step (by repeat (first | (with_reducible first | exact HB.out | apply below_alloc | apply pw_below_drewN | apply below_drew1) | exact HB.out)) hb); clear HB; have HB := n0_; clear n0_; (try clear hb); (try clear hb2); (try clear hk); (try clear hi)))
    go_ret
    exact ⟨by first | rfl | (simp [errW_none, errW_some] <;> rfl) | (simp [*, errW_none, errW_some] <;> rfl), by repeat (first | (with_reducible first | exact HB.out | apply below_alloc | apply pw_below_drewN | apply below_drew1) | exact HB.out)⟩
  · rw [if_neg c4] at H
    have c4b0 : decide (200 < (a0.size : Int)) = false := decide_eq_false c4
    have c4b1 : decide (200 < a0.size) = false := decide_eq_false (by omega)
    clear c4
    replace H := Option.bind_eq_some_iff.mp H
    obtain ⟨⟨t162, t163⟩, A70, H⟩ := H
    replace H : ((clavigerref18_Bits.f k a0 a1).bind fun bt164 => ((strs_Unbits.f k a0).bind fun bt166 => ((clavigerref18_Unbits.f k a0).bind fun bt169 => ((strs_Unbool.f a0).bind fun bt172 => ((clavigerref18_Unbool.f a0).bind fun bt174 => (if t162.toList = bt164.1.toList then (if (t163 == bt164.2) = true then (if bt166.1.toList = bt169.1.toList then (if bt166.2.1 = bt169.2.1 then (if (bt166.2.2 == bt169.2.2) = true then (if (bt172.1 == bt174.1) = true then (if (bt172.2 == bt174.2) = true then ((strs_Bool.f a2).bind fun t176 => ((clavigerref18_Bool.f a2).bind fun t177 => (if t176.toList = t177.toList then ((strs_Utf.f a0).bind fun t178 => ((clavigerref18_Utf.f k a0).bind fun t179 => (if (t178 == t179) = true then ((strs_Printable.f a0).bind fun t180 => ((clavigerref18_Printable.f k a0).bind fun t181 => (if (t180 == t181) = true then ((clavigerlaw18_awake.f k).bind fun t182 => (some t182)) else (some false)))) else (some false)))) else (some false)))) else (some false)) else (some false)) else (some false)) else (some false)) else (some false)) else (some false)) else (some false))))))) = some r := H
    have A7 := Aside0.mk A70
    clear A70
    replace H := Option.bind_eq_some_iff.mp H
    obtain ⟨⟨t164, t165⟩, A80, H⟩ := H
    replace H : ((strs_Unbits.f k a0).bind fun bt166 => ((clavigerref18_Unbits.f k a0).bind fun bt169 => ((strs_Unbool.f a0).bind fun bt172 => ((clavigerref18_Unbool.f a0).bind fun bt174 => (if t162.toList = t164.toList then (if (t163 == t165) = true then (if bt166.1.toList = bt169.1.toList then (if bt166.2.1 = bt169.2.1 then (if (bt166.2.2 == bt169.2.2) = true then (if (bt172.1 == bt174.1) = true then (if (bt172.2 == bt174.2) = true then ((strs_Bool.f a2).bind fun t176 => ((clavigerref18_Bool.f a2).bind fun t177 => (if t176.toList = t177.toList then ((strs_Utf.f a0).bind fun t178 => ((clavigerref18_Utf.f k a0).bind fun t179 => (if (t178 == t179) = true then ((strs_Printable.f a0).bind fun t180 => ((clavigerref18_Printable.f k a0).bind fun t181 => (if (t180 == t181) = true then ((clavigerlaw18_awake.f k).bind fun t182 => (some t182)) else (some false)))) else (some false)))) else (some false)))) else (some false)) else (some false)) else (some false)) else (some false)) else (some false)) else (some false)) else (some false)))))) = some r := H
    have A8 := Aside0.mk A80
    clear A80
    replace H := Option.bind_eq_some_iff.mp H
    obtain ⟨⟨t166, t167, t168⟩, A90, H⟩ := H
    replace H : ((clavigerref18_Unbits.f k a0).bind fun bt169 => ((strs_Unbool.f a0).bind fun bt172 => ((clavigerref18_Unbool.f a0).bind fun bt174 => (if t162.toList = t164.toList then (if (t163 == t165) = true then (if t166.toList = bt169.1.toList then (if t167 = bt169.2.1 then (if (t168 == bt169.2.2) = true then (if (bt172.1 == bt174.1) = true then (if (bt172.2 == bt174.2) = true then ((strs_Bool.f a2).bind fun t176 => ((clavigerref18_Bool.f a2).bind fun t177 => (if t176.toList = t177.toList then ((strs_Utf.f a0).bind fun t178 => ((clavigerref18_Utf.f k a0).bind fun t179 => (if (t178 == t179) = true then ((strs_Printable.f a0).bind fun t180 => ((clavigerref18_Printable.f k a0).bind fun t181 => (if (t180 == t181) = true then ((clavigerlaw18_awake.f k).bind fun t182 => (some t182)) else (some false)))) else (some false)))) else (some false)))) else (some false)) else (some false)) else (some false)) else (some false)) else (some false)) else (some false)) else (some false))))) = some r := H
    have A9 := Aside0.mk A90
    clear A90
    replace H := Option.bind_eq_some_iff.mp H
    obtain ⟨⟨t169, t170, t171⟩, A100, H⟩ := H
    replace H : ((strs_Unbool.f a0).bind fun bt172 => ((clavigerref18_Unbool.f a0).bind fun bt174 => (if t162.toList = t164.toList then (if (t163 == t165) = true then (if t166.toList = t169.toList then (if t167 = t170 then (if (t168 == t171) = true then (if (bt172.1 == bt174.1) = true then (if (bt172.2 == bt174.2) = true then ((strs_Bool.f a2).bind fun t176 => ((clavigerref18_Bool.f a2).bind fun t177 => (if t176.toList = t177.toList then ((strs_Utf.f a0).bind fun t178 => ((clavigerref18_Utf.f k a0).bind fun t179 => (if (t178 == t179) = true then ((strs_Printable.f a0).bind fun t180 => ((clavigerref18_Printable.f k a0).bind fun t181 => (if (t180 == t181) = true then ((clavigerlaw18_awake.f k).bind fun t182 => (some t182)) else (some false)))) else (some false)))) else (some false)))) else (some false)) else (some false)) else (some false)) else (some false)) else (some false)) else (some false)) else (some false)))) = some r := H
    have A10 := Aside0.mk A100
    clear A100
    replace H := Option.bind_eq_some_iff.mp H
    obtain ⟨⟨t172, t173⟩, A110, H⟩ := H
    replace H : ((clavigerref18_Unbool.f a0).bind fun bt174 => (if t162.toList = t164.toList then (if (t163 == t165) = true then (if t166.toList = t169.toList then (if t167 = t170 then (if (t168 == t171) = true then (if (t172 == bt174.1) = true then (if (t173 == bt174.2) = true then ((strs_Bool.f a2).bind fun t176 => ((clavigerref18_Bool.f a2).bind fun t177 => (if t176.toList = t177.toList then ((strs_Utf.f a0).bind fun t178 => ((clavigerref18_Utf.f k a0).bind fun t179 => (if (t178 == t179) = true then ((strs_Printable.f a0).bind fun t180 => ((clavigerref18_Printable.f k a0).bind fun t181 => (if (t180 == t181) = true then ((clavigerlaw18_awake.f k).bind fun t182 => (some t182)) else (some false)))) else (some false)))) else (some false)))) else (some false)) else (some false)) else (some false)) else (some false)) else (some false)) else (some false)) else (some false))) = some r := H
    have A11 := Aside0.mk A110
    clear A110
    replace H := Option.bind_eq_some_iff.mp H
    obtain ⟨⟨t174, t175⟩, A120, H⟩ := H
    replace H : (if t162.toList = t164.toList then (if (t163 == t165) = true then (if t166.toList = t169.toList then (if t167 = t170 then (if (t168 == t171) = true then (if (t172 == t174) = true then (if (t173 == t175) = true then ((strs_Bool.f a2).bind fun t176 => ((clavigerref18_Bool.f a2).bind fun t177 => (if t176.toList = t177.toList then ((strs_Utf.f a0).bind fun t178 => ((clavigerref18_Utf.f k a0).bind fun t179 => (if (t178 == t179) = true then ((strs_Printable.f a0).bind fun t180 => ((clavigerref18_Printable.f k a0).bind fun t181 => (if (t180 == t181) = true then ((clavigerlaw18_awake.f k).bind fun t182 => (some t182)) else (some false)))) else (some false)))) else (some false)))) else (some false)) else (some false)) else (some false)) else (some false)) else (some false)) else (some false)) else (some false)) = some r := H
    have A12 := Aside0.mk A120
    clear A120
    by_cases c13 : t162.toList = t164.toList
    · rw [if_pos c13] at H
      have c13b0 : (t162.toList == t164.toList) = true := beq_iff_eq.mpr c13
      have c13b1 : (t162.toList != t164.toList) = false := bne_eq_false_iff_eq.mpr c13
      clear c13
      by_cases c14 : (t163 == t165) = true
      · rw [if_pos c14] at H
        have c14b0 : (t163 == t165) = true := c14
        (try (have c14b1 : decide (t163 = t165) = true := by simpa using c14))
        (try (have c14b2 : (t163 == t165) = true := by simpa using c14))
        clear c14
        by_cases c15 : t166.toList = t169.toList
        · rw [if_pos c15] at H
          have c15b0 : (t166.toList == t169.toList) = true := beq_iff_eq.mpr c15
          have c15b1 : (t166.toList != t169.toList) = false := bne_eq_false_iff_eq.mpr c15
          clear c15
          by_cases c16 : t167 = t170
          · rw [if_pos c16] at H
            have c16b0 : (t167 == t170) = true := beq_iff_eq.mpr c16
            have c16b1 : (t167 != t170) = false := bne_eq_false_iff_eq.mpr c16
            clear c16
            by_cases c17 : (t168 == t171) = true
            · rw [if_pos c17] at H
              have c17b0 : (t168 == t171) = true := c17
              (try (have c17b1 : decide (t168 = t171) = true := by simpa using c17))
              (try (have c17b2 : (t168 == t171) = true := by simpa using c17))
              clear c17
              by_cases c18 : (t172 == t174) = true
              · rw [if_pos c18] at H
                have c18b0 : (t172 == t174) = true := c18
                (try (have c18b1 : decide (t172 = t174) = true := by simpa using c18))
                (try (have c18b2 : (t172 == t174) = true := by simpa using c18))
                clear c18
                by_cases c19 : (t173 == t175) = true
                · rw [if_pos c19] at H
                  have c19b0 : (t173 == t175) = true := c19
                  (try (have c19b1 : decide (t173 = t175) = true := by simpa using c19))
                  (try (have c19b2 : (t173 == t175) = true := by simpa using c19))
                  clear c19
                  replace H := Option.bind_eq_some_iff.mp H
                  obtain ⟨t176, A200, H⟩ := H
                  replace H : ((clavigerref18_Bool.f a2).bind fun t177 => (if t176.toList = t177.toList then ((strs_Utf.f a0).bind fun t178 => ((clavigerref18_Utf.f k a0).bind fun t179 => (if (t178 == t179) = true then ((strs_Printable.f a0).bind fun t180 => ((clavigerref18_Printable.f k a0).bind fun t181 => (if (t180 == t181) = true then ((clavigerlaw18_awake.f k).bind fun t182 => (some t182)) else (some false)))) else (some false)))) else (some false))) = some r := H
                  have A20 := Aside0.mk A200
                  clear A200
                  replace H := Option.bind_eq_some_iff.mp H
                  obtain ⟨t177, A210, H⟩ := H
                  replace H : (if t176.toList = t177.toList then ((strs_Utf.f a0).bind fun t178 => ((clavigerref18_Utf.f k a0).bind fun t179 => (if (t178 == t179) = true then ((strs_Printable.f a0).bind fun t180 => ((clavigerref18_Printable.f k a0).bind fun t181 => (if (t180 == t181) = true then ((clavigerlaw18_awake.f k).bind fun t182 => (some t182)) else (some false)))) else (some false)))) else (some false)) = some r := H
                  have A21 := Aside0.mk A210
                  clear A210
                  by_cases c22 : t176.toList = t177.toList
                  · rw [if_pos c22] at H
                    have c22b0 : (t176.toList == t177.toList) = true := beq_iff_eq.mpr c22
                    have c22b1 : (t176.toList != t177.toList) = false := bne_eq_false_iff_eq.mpr c22
                    clear c22
                    replace H := Option.bind_eq_some_iff.mp H
                    obtain ⟨t178, A230, H⟩ := H
                    replace H : ((clavigerref18_Utf.f k a0).bind fun t179 => (if (t178 == t179) = true then ((strs_Printable.f a0).bind fun t180 => ((clavigerref18_Printable.f k a0).bind fun t181 => (if (t180 == t181) = true then ((clavigerlaw18_awake.f k).bind fun t182 => (some t182)) else (some false)))) else (some false))) = some r := H
                    have A23 := Aside0.mk A230
                    clear A230
                    replace H := Option.bind_eq_some_iff.mp H
                    obtain ⟨t179, A240, H⟩ := H
                    replace H : (if (t178 == t179) = true then ((strs_Printable.f a0).bind fun t180 => ((clavigerref18_Printable.f k a0).bind fun t181 => (if (t180 == t181) = true then ((clavigerlaw18_awake.f k).bind fun t182 => (some t182)) else (some false)))) else (some false)) = some r := H
                    have A24 := Aside0.mk A240
                    clear A240
                    by_cases c25 : (t178 == t179) = true
                    · rw [if_pos c25] at H
                      have c25b0 : (t178 == t179) = true := c25
                      (try (have c25b1 : decide (t178 = t179) = true := by simpa using c25))
                      (try (have c25b2 : (t178 == t179) = true := by simpa using c25))
                      clear c25
                      replace H := Option.bind_eq_some_iff.mp H
                      obtain ⟨t180, A260, H⟩ := H
                      replace H : ((clavigerref18_Printable.f k a0).bind fun t181 => (if (t180 == t181) = true then ((clavigerlaw18_awake.f k).bind fun t182 => (some t182)) else (some false))) = some r := H
                      have A26 := Aside0.mk A260
                      clear A260
                      replace H := Option.bind_eq_some_iff.mp H
                      obtain ⟨t181, A270, H⟩ := H
                      replace H : (if (t180 == t181) = true then ((clavigerlaw18_awake.f k).bind fun t182 => (some t182)) else (some false)) = some r := H
                      have A27 := Aside0.mk A270
                      clear A270
                      by_cases c28 : (t180 == t181) = true
                      · rw [if_pos c28] at H
                        have c28b0 : (t180 == t181) = true := c28
                        (try (have c28b1 : decide (t180 = t181) = true := by simpa using c28))
                        (try (have c28b2 : (t180 == t181) = true := by simpa using c28))
                        clear c28
                        replace H := Option.bind_eq_some_iff.mp H
                        obtain ⟨t182, A290, H⟩ := H
                        replace H : (some t182) = some r := H
                        have A29 := Aside0.mk A290
                        clear A290
                        obtain rfl := Option.some.inj H
                        go_enter Tryd.func7, Tryd.ntmps7
                        go_wp2_with (first | ((with_reducible refine gate_callee (f := 36) rfl ?_); refine goesL_ (some 28) rfl rfl Tryd.func36 (by kernel_rfl) rfl #[.string a0, .int .i64 a1] rfl (by (try simp only [List.map_toArray, List.map_cons, List.map_nil]); first | done | rfl | (simp only [List.length_drop, List.length_take]; rfl)) ?_; (with_reducible refine (strs_Bits.calls k a0 a1 t162 t163 _ A7.out).mono ?_); rintro e w30 ⟨rfl, hb⟩; refine ⟨_, rfl, ?_⟩; have n0_ := Aside0.mk (below_step (by repeat (first | (with_reducible first | exact HB.out | apply below_alloc | apply pw_below_drewN | apply below_drew1) | exact HB.out)) hb); clear HB; have HB := n0_; clear n0_; (try clear hb); (try clear hb2); (try clear hk); (try clear hi)) | ((with_reducible refine gate_callee (f := 37) rfl ?_); refine goesL_ (some 34) rfl rfl Tryd.func37 (by kernel_rfl) rfl #[.string a0, .int .i64 a1] rfl (by (try simp only [List.map_toArray, List.map_cons, List.map_nil]); first | done | rfl | (simp only [List.length_drop, List.length_take]; rfl)) ?_; (with_reducible refine (clavigerref18_Bits.calls k a0 a1 t164 t165 _ A8.out).mono ?_); rintro e w31 ⟨rfl, hb⟩; refine ⟨_, rfl, ?_⟩; have n0_ := Aside0.mk (below_step (by repeat (first | (with_reducible first | exact HB.out | apply below_alloc | apply pw_below_drewN | apply below_drew1) | exact HB.out)) hb); clear HB; have HB := n0_; clear n0_; (try clear hb); (try clear hb2); (try clear hk); (try clear hi)) | ((with_reducible refine gate_callee (f := 38) rfl ?_); refine goesL_ (some 39) rfl rfl Tryd.func38 (by kernel_rfl) rfl #[.string a0] rfl (by (try simp only [List.map_toArray, List.map_cons, List.map_nil]); first | done | rfl | (simp only [List.length_drop, List.length_take]; rfl)) ?_; (with_reducible refine (strs_Unbits.calls k a0 t166 t167 t168 _ A9.out).mono ?_); rintro e w' ⟨rfl, ⟨nd, rfl⟩⟩; refine ⟨_, rfl, ?_⟩) | ((with_reducible refine gate_callee (f := 39) rfl ?_); refine goesL_ (some 45) rfl rfl Tryd.func39 (by kernel_rfl) rfl #[.string a0] rfl (by (try simp only [List.map_toArray, List.map_cons, List.map_nil]); first | done | rfl | (simp only [List.length_drop, List.length_take]; rfl)) ?_; (with_reducible refine (clavigerref18_Unbits.calls k a0 t169 t170 t171 _ A10.out).mono ?_); rintro e w32 ⟨rfl, hb⟩; refine ⟨_, rfl, ?_⟩; have n0_ := Aside0.mk (below_step (by repeat (first | (with_reducible first | exact HB.out | apply below_alloc | apply pw_below_drewN | apply below_drew1) | exact HB.out)) hb); clear HB; have HB := n0_; clear n0_; (try clear hb); (try clear hb2); (try clear hk); (try clear hi)) | ((with_reducible refine gate_callee (f := 40) rfl ?_); refine goesL_ (some 51) rfl rfl Tryd.func40 (by kernel_rfl) rfl #[.string a0] rfl (by (try simp only [List.map_toArray, List.map_cons, List.map_nil]); first | done | rfl | (simp only [List.length_drop, List.length_take]; rfl)) ?_; (with_reducible refine (strs_Unbool.calls a0 t172 t173 _ A11.out).mono ?_); rintro e w' ⟨rfl, ⟨nd, rfl⟩⟩; refine ⟨_, rfl, ?_⟩) | ((with_reducible refine gate_callee (f := 41) rfl ?_); refine goesL_ (some 56) rfl rfl Tryd.func41 (by kernel_rfl) rfl #[.string a0] rfl (by (try simp only [List.map_toArray, List.map_cons, List.map_nil]); first | done | rfl | (simp only [List.length_drop, List.length_take]; rfl)) ?_; (with_reducible refine (clavigerref18_Unbool.calls a0 t174 t175 _ A12.out).mono ?_); rintro e w' ⟨rfl, ⟨nd, rfl⟩⟩; refine ⟨_, rfl, ?_⟩) | (go_at_call 42; (with_reducible refine (strs_Bool.calls a2 t176 _ A20.out).mono ?_); rintro e w' ⟨rfl, ⟨nd, rfl⟩⟩) | (go_at_call 43; (with_reducible refine (clavigerref18_Bool.calls a2 t177 _ A21.out).mono ?_); rintro e w' ⟨rfl, ⟨nd, rfl⟩⟩) | (go_at_call 44; (with_reducible refine (strs_Utf.calls a0 t178 _ ?tb_ A23.out).mono ?_); (case tb_ => exact ⟨TB.below HT_.out (by repeat (first | (with_reducible first | exact HB.out | apply below_alloc | apply pw_below_drewN | apply below_drew1) | exact HB.out | exact Below.refl _ _))⟩); rintro e w33 ⟨rfl, hb⟩; have n0_ := Aside0.mk (below_step (by repeat (first | (with_reducible first | exact HB.out | apply below_alloc | apply pw_below_drewN | apply below_drew1) | exact HB.out)) hb); clear HB; have HB := n0_; clear n0_; (try clear hb); (try clear hb2); (try clear hk); (try clear hi)) | (go_at_call 45; (with_reducible refine (clavigerref18_Utf.calls k a0 t179 _ A24.out).mono ?_); rintro e w' ⟨rfl, ⟨nd, rfl⟩⟩) | (go_at_call 46; (with_reducible refine (strs_Printable.calls a0 t180 _ A26.out).mono ?_); rintro e w34 ⟨rfl, hb⟩; have n0_ := Aside0.mk (below_step (by repeat (first | (with_reducible first | exact HB.out | apply below_alloc | apply pw_below_drewN | apply below_drew1) | exact HB.out)) hb); clear HB; have HB := n0_; clear n0_; (try clear hb); (try clear hb2); (try clear hk); (try clear hi)) | (go_at_call 47; (with_reducible refine (clavigerref18_Printable.calls k a0 t181 _ A27.out).mono ?_); rintro e w' ⟨rfl, ⟨nd, rfl⟩⟩) | (go_at_call 35; (with_reducible refine (clavigerlaw18_awake.calls k  t182 _ ?tb_ A29.out).mono ?_); (case tb_ => exact ⟨TB.below HT_.out (by repeat (first | (with_reducible first | exact HB.out | apply below_alloc | apply pw_below_drewN | apply below_drew1) | exact HB.out | exact Below.refl _ _))⟩); rintro e w35 ⟨rfl, hb⟩; have n0_ := Aside0.mk (below_step (by repeat (first | (with_reducible first | exact HB.out | apply below_alloc | apply pw_below_drewN | apply below_drew1) | exact HB.out)) hb); clear HB; have HB := n0_; clear n0_; (try clear hb); (try clear hb2); (try clear hk); (try clear hi)))
                        go_ret
                        exact ⟨by first | rfl | (simp [errW_none, errW_some] <;> rfl) | (simp [*, errW_none, errW_some] <;> rfl), by repeat (first | (with_reducible first | exact HB.out | apply below_alloc | apply pw_below_drewN | apply below_drew1) | exact HB.out)⟩
                      · rw [if_neg c28] at H
                        have c28b0 : (t180 == t181) = false := by simpa using c28
                        (try (have c28b1 : decide (t180 = t181) = false := by simpa using c28))
                        (try (have c28b2 : (t180 == t181) = false := by simpa using c28))
                        (try (have c28b3 : ¬ (t180 = t181) := by simpa using c28))
                        clear c28
                        exact absurd ((Option.some.inj H).trans HR_.out) (by decide)
                    · rw [if_neg c25] at H
                      have c25b0 : (t178 == t179) = false := by simpa using c25
                      (try (have c25b1 : decide (t178 = t179) = false := by simpa using c25))
                      (try (have c25b2 : (t178 == t179) = false := by simpa using c25))
                      (try (have c25b3 : ¬ (t178 = t179) := by simpa using c25))
                      clear c25
                      exact absurd ((Option.some.inj H).trans HR_.out) (by decide)
                  · rw [if_neg c22] at H
                    have c22b0 : (t176.toList == t177.toList) = false := beq_eq_false_iff_ne.mpr c22
                    have c22b1 : (t176.toList != t177.toList) = true := bne_iff_ne.mpr c22
                    exact absurd ((Option.some.inj H).trans HR_.out) (by decide)
                · rw [if_neg c19] at H
                  have c19b0 : (t173 == t175) = false := by simpa using c19
                  (try (have c19b1 : decide (t173 = t175) = false := by simpa using c19))
                  (try (have c19b2 : (t173 == t175) = false := by simpa using c19))
                  (try (have c19b3 : ¬ (t173 = t175) := by simpa using c19))
                  clear c19
                  exact absurd ((Option.some.inj H).trans HR_.out) (by decide)
              · rw [if_neg c18] at H
                have c18b0 : (t172 == t174) = false := by simpa using c18
                (try (have c18b1 : decide (t172 = t174) = false := by simpa using c18))
                (try (have c18b2 : (t172 == t174) = false := by simpa using c18))
                (try (have c18b3 : ¬ (t172 = t174) := by simpa using c18))
                clear c18
                exact absurd ((Option.some.inj H).trans HR_.out) (by decide)
            · rw [if_neg c17] at H
              have c17b0 : (t168 == t171) = false := by simpa using c17
              (try (have c17b1 : decide (t168 = t171) = false := by simpa using c17))
              (try (have c17b2 : (t168 == t171) = false := by simpa using c17))
              (try (have c17b3 : ¬ (t168 = t171) := by simpa using c17))
              clear c17
              exact absurd ((Option.some.inj H).trans HR_.out) (by decide)
          · rw [if_neg c16] at H
            have c16b0 : (t167 == t170) = false := beq_eq_false_iff_ne.mpr c16
            have c16b1 : (t167 != t170) = true := bne_iff_ne.mpr c16
            exact absurd ((Option.some.inj H).trans HR_.out) (by decide)
        · rw [if_neg c15] at H
          have c15b0 : (t166.toList == t169.toList) = false := beq_eq_false_iff_ne.mpr c15
          have c15b1 : (t166.toList != t169.toList) = true := bne_iff_ne.mpr c15
          exact absurd ((Option.some.inj H).trans HR_.out) (by decide)
      · rw [if_neg c14] at H
        have c14b0 : (t163 == t165) = false := by simpa using c14
        (try (have c14b1 : decide (t163 = t165) = false := by simpa using c14))
        (try (have c14b2 : (t163 == t165) = false := by simpa using c14))
        (try (have c14b3 : ¬ (t163 = t165) := by simpa using c14))
        clear c14
        exact absurd ((Option.some.inj H).trans HR_.out) (by decide)
    · rw [if_neg c13] at H
      have c13b0 : (t162.toList == t164.toList) = false := beq_eq_false_iff_ne.mpr c13
      have c13b1 : (t162.toList != t164.toList) = true := bne_iff_ne.mpr c13
      exact absurd ((Option.some.inj H).trans HR_.out) (by decide)

/-- THE ONE PURE STATEMENT of clavigerlaw18_StrsTells: yours. -/
def clavigerlaw18_StrsTells.Pure : Prop := ∀ (a0 : ByteArray) (a1 : Int) (a2 : Bool), a0.size ≤ 140737488351232 → (Lit.int .i64 a1).wf = true → ∃ k, clavigerlaw18_StrsTells.f k a0 a1 a2 = some true
theorem clavigerlaw18_StrsTells.walk (P : clavigerlaw18_StrsTells.Pure) (a0 : ByteArray) (a1 : Int) (a2 : Bool) (w : World) (w0 : a0.size ≤ 140737488351232) (w1 : (Lit.int .i64 a1).wf = true) (HT_ : Aside0 (TB w)) :
    Calls Tryd.prog 7 #[.string a0, .int .i64 a1, .bool a2] w fun e w' => e = .returned (.bool true) ∧ Below w.heap.size w w' := by
  obtain ⟨k, h⟩ := P a0 a1 a2 w0 w1
  refine (clavigerlaw18_StrsTells.calls k a0 a1 a2 true w HT_ ⟨rfl⟩ h).mono ?_
  rintro e w' ⟨rfl, hd⟩
  exact ⟨rfl, hd⟩

end Go.Proofs.YtlocmcemfjfhiaaDoor.PStrsTells
