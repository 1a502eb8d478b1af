-- laid by a program out of the translation and of templates; not trusted: Lean checks it
import Derived.Test.YtlocmcemfjfhiaaDoorPStrsRightx0
import Derived.Laws.RangeString
import Derived.Laws.Runes
import Derived.Lib.LaidU8T
import Derived.MakeChecks
import Derived.Shelf.Unicode.ValidAny
import Derived.Test.YtlocmcemfjfhiaaDoorShelf
import Derived.WalkMore
namespace Go.Proofs.YtlocmcemfjfhiaaDoor.PStrsRight
open Go.RowKit Go.Proofs.YtlocmcemfjfhiaaDoorW.PrintWords Go.Proofs.YtlocmcemfjfhiaaDoorW.PrintLast Go.Proofs.YtlocmcemfjfhiaaDoorW.PrintMore
attribute [local go_sem] str_leq str_gtr str_geq max2_int min2_int max_two min_two max_three min_three max_four min_four   -- for this text's walks alone
set_option linter.unusedVariables false
set_option linter.unusedSimpArgs false

/-! ### strs_Unbits: function 38 -/
def strs_Unbits.j0 : Nat → ByteArray → Bool → Option (ByteArray × Int × Bool)
  | 0, _, _ => none
  | k + 1, x0, x21 => if x21 = true then (some ((⟨#[]⟩ : ByteArray), 0, false)) else (if 0 ≤ (wrap64 ((x0.size : Int) - 1)) then (if (wrap64 ((x0.size : Int) - 1)) < (x0.size : Int) then (if 0 < (x0.size : Int) then (if 0 ≤ (bt x0 0) then (if (Go.bits .and .u8 (bt x0 (wrap64 ((x0.size : Int) - 1))) (((shl .u8 1 (bt x0 0)) - 1) % 256)) = 0 then (if 1 ≤ (x0.size : Int) then (some (x0.extract 1 x0.size, wrap64 (bt x0 0), true)) else (none)) else (if (x0.size : Int) > 1 then (some ((⟨#[]⟩ : ByteArray), 0, false)) else (if 1 ≤ (x0.size : Int) then (some (x0.extract 1 x0.size, wrap64 (bt x0 0), true)) else (none)))) else (none)) else (none)) else (none)) else (none))
def strs_Unbits.f (k : Nat) (a0 : ByteArray) : Option (ByteArray × Int × Bool) := if a0.toList = ([] : List UInt8) then (strs_Unbits.j0 k a0 true) else (if 0 < (a0.size : Int) then (if (bt a0 0) > 7 then (strs_Unbits.j0 k a0 true) else (if (bt a0 0) > 0 then (strs_Unbits.j0 k a0 ((a0.size : Int) == 1)) else (strs_Unbits.j0 k a0 false))) else (none))
theorem strs_Unbits.mono_l : ∀ k, (∀ y0 y1, LeO (strs_Unbits.j0 k y0 y1) (strs_Unbits.j0 (k + 1) y0 y1))
  | 0 => fun _ _ r h => by simp [strs_Unbits.j0] at h
  | k + 1 => by
    have ih0 := strs_Unbits.mono_l k
    · intro y0 y1
      unfold strs_Unbits.j0
      repeat' first
      | (with_reducible exact ih0 _ _)
      | (with_reducible exact LeO.refl _)
      | (with_reducible exact LeO.none _)
      | (with_reducible refine LeO.ite ?_ ?_)
      | (with_reducible refine LeO.bind ?_ (fun _ => ?_))
      | exact ih0 _ _
      | exact LeO.none _
      | refine LeO.ite ?_ ?_
      | refine LeO.bind ?_ (fun _ => ?_)
theorem strs_Unbits.mono : ∀ a0 k, LeO (strs_Unbits.f k a0) (strs_Unbits.f (k + 1) a0) := by
  intro a0 k
  have ih0 := strs_Unbits.mono_l k
  unfold strs_Unbits.f
  repeat' first
      | (with_reducible exact ih0 _ _)
      | (with_reducible exact LeO.refl _)
      | (with_reducible exact LeO.none _)
      | (with_reducible refine LeO.ite ?_ ?_)
      | (with_reducible refine LeO.bind ?_ (fun _ => ?_))
      | exact ih0 _ _
      | exact LeO.none _
      | refine LeO.ite ?_ ?_
      | refine LeO.bind ?_ (fun _ => ?_)
set_option maxHeartbeats 8000000 in
set_option maxRecDepth 100000 in
theorem strs_Unbits.calls (k : Nat) (a0 : ByteArray) (r1 : ByteArray) (r2 : Int) (r3 : Bool) (w : World) (h : strs_Unbits.f k a0 = some (r1, r2, r3)) :
    Calls Tryd.prog 38 #[.string a0] w fun e w' => e = .returned (.tuple #[.string r1, .int .i64 r2, .bool r3]) ∧ Drawn0 w w' := by
  have H : (if a0.toList = ([] : List UInt8) then (strs_Unbits.j0 k a0 true) else (if 0 < (a0.size : Int) then (if (bt a0 0) > 7 then (strs_Unbits.j0 k a0 true) else (if (bt a0 0) > 0 then (strs_Unbits.j0 k a0 ((a0.size : Int) == 1)) else (strs_Unbits.j0 k a0 false))) else (none))) = some (r1, r2, r3) := h
  clear h
  have HC2 := Aside0.mk H
  clear H
  go_enter Tryd.func38, Tryd.ntmps38
  go_upto_region 1 with (fail)
  repeat (go_quiet (fail); go_upto_region 1 with (fail))
  go_cut [21] (fun v21 wc => ∃ (kq : Nat) (x21_1 : Bool), v21 = .bool x21_1 ∧ Aside0 (strs_Unbits.j0 kq a0 x21_1 = some (r1, r2, r3)) ∧ Aside0 (kq ≤ k) ∧ Drawn0 w wc)
  case first =>
    have H := HC2.out
    clear HC2
    by_cases c3 : a0.toList = ([] : List UInt8)
    · rw [if_pos c3] at H
      have c3b0 : (a0.toList == ([] : List UInt8)) = true := beq_iff_eq.mpr c3
      have c3b1 : (a0.toList != ([] : List UInt8)) = false := bne_eq_false_iff_eq.mpr c3
      clear c3
      (first | rw [c3b0] | (simp only [i64_w, i32_w]; rw [c3b0]) | skip)
      have H' := Aside0.mk H
      clear H
      go_wp2
      repeat (go_quiet (fail); try go_wp2)
      go_meet
      case rel => exact ⟨_, (true), (by first | rfl | (simp; done) | (simp [*]; done)), H', ⟨by first | omega | exact Nat.le_refl _⟩, by repeat (first | exact Drawn0.refl _ | apply Drawn0.step)⟩
    · rw [if_neg c3] at H
      have c3b0 : (a0.toList == ([] : List UInt8)) = false := beq_eq_false_iff_ne.mpr c3
      have c3b1 : (a0.toList != ([] : List UInt8)) = true := bne_iff_ne.mpr c3
      (first | rw [c3b0] | (simp only [i64_w, i32_w]; rw [c3b0]) | skip)
      by_cases c4 : 0 < (a0.size : Int)
      · rw [if_pos c4] at H
        have c4b0 : decide (0 < (a0.size : Int)) = true := decide_eq_true c4
        have c4b1 : decide (0 < a0.size) = true := decide_eq_true (by omega)
        clear c4
        by_cases c6 : (bt a0 0) > 7
        · rw [if_pos c6] at H
          have c6b0 : decide (7 < (bt a0 0)) = true := decide_eq_true c6
          clear c6
          have H' := Aside0.mk H
          clear H
          have p5 : 0 ≤ (0 : Int) := (by omega)
          have q5 : 0 < a0.size := (by have : (0 : Int) < (a0.size : Int) := of_decide_eq_true (by first | (with_reducible assumption) | assumption); omega)
          have hx5 : ∀ h : 0 < a0.size, ((a0[0]'h).toNat : Int) = bt a0 0 := bt_at a0 0
          clear p5
          have qi5 : (0 < (a0.size : Int)) = True := eq_true (of_decide_eq_true (by first | (with_reducible assumption) | assumption))
          replace q5 := eq_true q5
          go_wp2
          repeat (go_quiet (fail); try go_wp2)
          go_meet
          case rel => exact ⟨_, (true), (by first | rfl | (simp; done) | (simp [*]; done)), H', ⟨by first | omega | exact Nat.le_refl _⟩, by repeat (first | exact Drawn0.refl _ | apply Drawn0.step)⟩
        · rw [if_neg c6] at H
          have c6b0 : decide (7 < (bt a0 0)) = false := decide_eq_false c6
          clear c6
          by_cases c8 : (bt a0 0) > 0
          · rw [if_pos c8] at H
            have c8b0 : decide (0 < (bt a0 0)) = true := decide_eq_true c8
            clear c8
            have H' := Aside0.mk H
            clear H
            have p5 : 0 ≤ (0 : Int) := (by omega)
            have q5 : 0 < a0.size := (by have : (0 : Int) < (a0.size : Int) := of_decide_eq_true (by first | (with_reducible assumption) | assumption); omega)
            have hx5 : ∀ h : 0 < a0.size, ((a0[0]'h).toNat : Int) = bt a0 0 := bt_at a0 0
            clear p5
            have qi5 : (0 < (a0.size : Int)) = True := eq_true (of_decide_eq_true (by first | (with_reducible assumption) | assumption))
            replace q5 := eq_true q5
            have p7 : 0 ≤ (0 : Int) := (by omega)
            have q7 : 0 < a0.size := (by have : (0 : Int) < (a0.size : Int) := of_decide_eq_true (by first | (with_reducible assumption) | assumption); omega)
            have hx7 : ∀ h : 0 < a0.size, ((a0[0]'h).toNat : Int) = bt a0 0 := bt_at a0 0
            clear p7
            have qi7 : (0 < (a0.size : Int)) = True := eq_true (of_decide_eq_true (by first | (with_reducible assumption) | assumption))
            replace q7 := eq_true q7
            go_wp2
            repeat (go_quiet (fail); try go_wp2)
            go_meet
            case rel => exact ⟨_, (((a0.size : Int) == 1)), (by first | rfl | (simp; done) | (simp [*]; done)), H', ⟨by first | omega | exact Nat.le_refl _⟩, by repeat (first | exact Drawn0.refl _ | apply Drawn0.step)⟩
          · rw [if_neg c8] at H
            have c8b0 : decide (0 < (bt a0 0)) = false := decide_eq_false c8
            clear c8
            have H' := Aside0.mk H
            clear H
            have p5 : 0 ≤ (0 : Int) := (by omega)
            have q5 : 0 < a0.size := (by have : (0 : Int) < (a0.size : Int) := of_decide_eq_true (by first | (with_reducible assumption) | assumption); omega)
            have hx5 : ∀ h : 0 < a0.size, ((a0[0]'h).toNat : Int) = bt a0 0 := bt_at a0 0
            clear p5
            have qi5 : (0 < (a0.size : Int)) = True := eq_true (of_decide_eq_true (by first | (with_reducible assumption) | assumption))
            replace q5 := eq_true q5
            have p7 : 0 ≤ (0 : Int) := (by omega)
            have q7 : 0 < a0.size := (by have : (0 : Int) < (a0.size : Int) := of_decide_eq_true (by first | (with_reducible assumption) | assumption); omega)
            have hx7 : ∀ h : 0 < a0.size, ((a0[0]'h).toNat : Int) = bt a0 0 := bt_at a0 0
            clear p7
            have qi7 : (0 < (a0.size : Int)) = True := eq_true (of_decide_eq_true (by first | (with_reducible assumption) | assumption))
            replace q7 := eq_true q7
            go_wp2
            repeat (go_quiet (fail); try go_wp2)
            go_meet
            case rel => exact ⟨_, (false), (by first | rfl | (simp; done) | (simp [*]; done)), H', ⟨by first | omega | exact Nat.le_refl _⟩, by repeat (first | exact Drawn0.refl _ | apply Drawn0.step)⟩
      · rw [if_neg c4] at H
        exact absurd H (by simp)
  case rest =>
    clear HC2
    try clear p2
    try clear c3
    try clear c3b0
    try clear c3b1
    try clear c4
    try clear c4b0
    try clear c4b1
    try clear p5
    try clear q5
    try clear hx5
    try clear qi5
    try clear c6
    try clear c6b0
    try clear p7
    try clear q7
    try clear hx7
    try clear qi7
    try clear c8
    try clear c8b0
    try clear p5
    try clear p7
    try clear q5
    try clear q7
    obtain ⟨kq, x21_1, rfl, HA, HJ1, ⟨mc1, rfl⟩⟩ := hcut
    cases kq with
    | zero => exact absurd HA.out (by simp [strs_Unbits.j0])
    | succ kj1 =>
      have H := HA.out
      clear HA
      simp only [strs_Unbits.j0] at H
      by_cases c9 : x21_1 = true
      · subst c9
        have H1 : (some ((⟨#[]⟩ : ByteArray), 0, false)) = some (r1, r2, r3) := by rw [if_pos rfl] at H; exact H
        clear H
        have H := H1
        clear H1
        simp only [Option.some.injEq, Prod.mk.injEq] at H
        obtain ⟨rfl, rfl, rfl⟩ := H
        go_wp2
        repeat (go_quiet (fail); try go_wp2)
        go_ret3
        exact ⟨by first | rfl | (simp; done) | (simp [*]; done), by repeat (first | exact Drawn0.refl _ | apply Drawn0.step)⟩
      · replace c9 := Bool.eq_false_iff.mpr c9
        subst c9
        have H1 : (if 0 ≤ (wrap64 ((a0.size : Int) - 1)) then (if (wrap64 ((a0.size : Int) - 1)) < (a0.size : Int) then (if 0 < (a0.size : Int) then (if 0 ≤ (bt a0 0) then (if (Go.bits .and .u8 (bt a0 (wrap64 ((a0.size : Int) - 1))) (((shl .u8 1 (bt a0 0)) - 1) % 256)) = 0 then (if 1 ≤ (a0.size : Int) then (some (a0.extract 1 a0.size, wrap64 (bt a0 0), true)) else (none)) else (if (a0.size : Int) > 1 then (some ((⟨#[]⟩ : ByteArray), 0, false)) else (if 1 ≤ (a0.size : Int) then (some (a0.extract 1 a0.size, wrap64 (bt a0 0), true)) else (none)))) else (none)) else (none)) else (none)) else (none)) = some (r1, r2, r3) := by rw [if_neg (show ¬ (false = true) by decide)] at H; exact H
        clear H
        have H := H1
        clear H1
        obtain ⟨ji10, hji10⟩ : ∃ j_ : Int, (wrap64 ((a0.size : Int) - 1)) = j_ := ⟨_, rfl⟩
        replace H : (if 0 ≤ (ji10) then (if (ji10) < (a0.size : Int) then (if 0 < (a0.size : Int) then (if 0 ≤ (bt a0 0) then (if (Go.bits .and .u8 (bt a0 (ji10)) (((shl .u8 1 (bt a0 0)) - 1) % 256)) = 0 then (if 1 ≤ (a0.size : Int) then (some (a0.extract 1 a0.size, wrap64 (bt a0 0), true)) else (none)) else (if (a0.size : Int) > 1 then (some ((⟨#[]⟩ : ByteArray), 0, false)) else (if 1 ≤ (a0.size : Int) then (some (a0.extract 1 a0.size, wrap64 (bt a0 0), true)) else (none)))) else (none)) else (none)) else (none)) else (none)) = some (r1, r2, r3) := by first | (rw [hji10] at H; exact H) | (simp only [hji10] at H ⊢; exact H)
        have hji10w : (IntKind.i64.wrap ((a0.size : Int) - 1)) = ji10 := (i64_w _).trans hji10
        by_cases c11 : 0 ≤ (ji10)
        · rw [if_pos c11] at H
          have c11b0 : decide (0 ≤ (ji10)) = true := decide_eq_true c11
          clear c11
          by_cases c12 : (ji10) < (a0.size : Int)
          · rw [if_pos c12] at H
            have c12b0 : decide ((ji10) < (a0.size : Int)) = true := decide_eq_true c12
            clear c12
            by_cases c14 : 0 < (a0.size : Int)
            · rw [if_pos c14] at H
              have c14b0 : decide (0 < (a0.size : Int)) = true := decide_eq_true c14
              have c14b1 : decide (0 < a0.size) = true := decide_eq_true (by omega)
              clear c14
              by_cases c16 : 0 ≤ (bt a0 0)
              · rw [if_pos c16] at H
                have c16b0 := eq_true c16
                have c16b1 : decide (0 ≤ (bt a0 0)) = true := decide_eq_true c16
                clear c16
                obtain ⟨ji17, hji17⟩ : ∃ j_ : Int, (shl .u8 1 (bt a0 0)) = j_ := ⟨_, rfl⟩
                replace H : (if (Go.bits .and .u8 (bt a0 (ji10)) (((ji17) - 1) % 256)) = 0 then (if 1 ≤ (a0.size : Int) then (some (a0.extract 1 a0.size, wrap64 (bt a0 0), true)) else (none)) else (if (a0.size : Int) > 1 then (some ((⟨#[]⟩ : ByteArray), 0, false)) else (if 1 ≤ (a0.size : Int) then (some (a0.extract 1 a0.size, wrap64 (bt a0 0), true)) else (none)))) = some (r1, r2, r3) := by first | (rw [hji17] at H; exact H) | (simp only [hji17] at H ⊢; exact H)
                have hji17_ : (IntKind.u8.wrap (1 * 2 ^ min (bt a0 0).toNat 8)) = ji17 := hji17
                have hji17z : (bt a0 0) ≤ 8 → (IntKind.u8.wrap (1 * 2 ^ (bt a0 0).toNat)) = ji17 := shl_small hji17
                have hji17u : (IntKind.u8.wrap (2 ^ min (bt a0 0).toNat 8)) = ji17 := by have h_ := hji17_; rw [Int.one_mul] at h_; exact h_
                have hji17v : (bt a0 0) ≤ 8 → (IntKind.u8.wrap (2 ^ (bt a0 0).toNat)) = ji17 := fun hle_ => by have h_ := hji17z hle_; rw [Int.one_mul] at h_; exact h_
                by_cases c18 : (Go.bits .and .u8 (bt a0 (ji10)) (((ji17) - 1) % 256)) = 0
                · rw [if_pos c18] at H
                  have c18b0 : ((Go.bits .and .u8 (bt a0 (ji10)) (((ji17) - 1) % 256)) == 0) = true := beq_iff_eq.mpr c18
                  have c18b1 : ((Go.bits .and .u8 (bt a0 (ji10)) (((ji17) - 1) % 256)) != 0) = false := bne_eq_false_iff_eq.mpr c18
                  clear c18
                  by_cases c19 : 1 ≤ (a0.size : Int)
                  · rw [if_pos c19] at H
                    have c19b0 := eq_true c19
                    have c19b1 : decide (1 ≤ (a0.size : Int)) = true := decide_eq_true c19
                    clear c19
                    simp only [Option.some.injEq, Prod.mk.injEq] at H
                    obtain ⟨rfl, rfl, rfl⟩ := H
                    have p13 : 0 ≤ ((ji10) : Int) := of_decide_eq_true (by first | (with_reducible assumption) | assumption)
                    have q13 : (ji10) < (a0.size : Int) := of_decide_eq_true (by first | (with_reducible assumption) | assumption)
                    have hx13 := bt_at a0 (ji10)
                    replace p13 := eq_true p13
                    replace q13 := eq_true q13
                    have p15 : 0 ≤ (0 : Int) := (by omega)
                    have q15 : 0 < a0.size := (by have : (0 : Int) < (a0.size : Int) := of_decide_eq_true (by first | (with_reducible assumption) | assumption); omega)
                    have hx15 : ∀ h : 0 < a0.size, ((a0[0]'h).toNat : Int) = bt a0 0 := bt_at a0 0
                    clear p15
                    have qi15 : (0 < (a0.size : Int)) = True := eq_true (of_decide_eq_true (by first | (with_reducible assumption) | assumption))
                    replace q15 := eq_true q15
                    have p20 : 0 ≤ (0 : Int) := (by omega)
                    have q20 : 0 < a0.size := (by have : (0 : Int) < (a0.size : Int) := of_decide_eq_true (by first | (with_reducible assumption) | assumption); omega)
                    have hx20 : ∀ h : 0 < a0.size, ((a0[0]'h).toNat : Int) = bt a0 0 := bt_at a0 0
                    clear p20
                    have qi20 : (0 < (a0.size : Int)) = True := eq_true (of_decide_eq_true (by first | (with_reducible assumption) | assumption))
                    replace q20 := eq_true q20
                    go_wp2
                    repeat (go_quiet (fail); try go_wp2)
                    go_ret3
                    exact ⟨by first | rfl | (simp; done) | (simp only [← hji10, ← hji17] <;> (first | rfl | simp)) | (simp [*]; done), by repeat (first | exact Drawn0.refl _ | apply Drawn0.step)⟩
                  · rw [if_neg c19] at H
                    exact absurd H (by simp)
                · rw [if_neg c18] at H
                  have c18b0 : ((Go.bits .and .u8 (bt a0 (ji10)) (((ji17) - 1) % 256)) == 0) = false := beq_eq_false_iff_ne.mpr c18
                  have c18b1 : ((Go.bits .and .u8 (bt a0 (ji10)) (((ji17) - 1) % 256)) != 0) = true := bne_iff_ne.mpr c18
                  by_cases c21 : (a0.size : Int) > 1
                  · rw [if_pos c21] at H
                    have c21b0 : decide (1 < (a0.size : Int)) = true := decide_eq_true c21
                    have c21b1 : decide (1 < a0.size) = true := decide_eq_true (by omega)
                    clear c21
                    simp only [Option.some.injEq, Prod.mk.injEq] at H
                    obtain ⟨rfl, rfl, rfl⟩ := H
                    have p13 : 0 ≤ ((ji10) : Int) := of_decide_eq_true (by first | (with_reducible assumption) | assumption)
                    have q13 : (ji10) < (a0.size : Int) := of_decide_eq_true (by first | (with_reducible assumption) | assumption)
                    have hx13 := bt_at a0 (ji10)
                    replace p13 := eq_true p13
                    replace q13 := eq_true q13
                    have p15 : 0 ≤ (0 : Int) := (by omega)
                    have q15 : 0 < a0.size := (by have : (0 : Int) < (a0.size : Int) := of_decide_eq_true (by first | (with_reducible assumption) | assumption); omega)
                    have hx15 : ∀ h : 0 < a0.size, ((a0[0]'h).toNat : Int) = bt a0 0 := bt_at a0 0
                    clear p15
                    have qi15 : (0 < (a0.size : Int)) = True := eq_true (of_decide_eq_true (by first | (with_reducible assumption) | assumption))
                    replace q15 := eq_true q15
                    go_wp2
                    repeat (go_quiet (fail); try go_wp2)
                    go_ret3
                    exact ⟨by first | rfl | (simp; done) | (simp only [← hji10, ← hji17] <;> (first | rfl | simp)) | (simp [*]; done), by repeat (first | exact Drawn0.refl _ | apply Drawn0.step)⟩
                  · rw [if_neg c21] at H
                    have c21b0 : decide (1 < (a0.size : Int)) = false := decide_eq_false c21
                    have c21b1 : decide (1 < a0.size) = false := decide_eq_false (by omega)
                    clear c21
                    by_cases c22 : 1 ≤ (a0.size : Int)
                    · rw [if_pos c22] at H
                      have c22b0 := eq_true c22
                      have c22b1 : decide (1 ≤ (a0.size : Int)) = true := decide_eq_true c22
                      clear c22
                      simp only [Option.some.injEq, Prod.mk.injEq] at H
                      obtain ⟨rfl, rfl, rfl⟩ := H
                      have p13 : 0 ≤ ((ji10) : Int) := of_decide_eq_true (by first | (with_reducible assumption) | assumption)
                      have q13 : (ji10) < (a0.size : Int) := of_decide_eq_true (by first | (with_reducible assumption) | assumption)
                      have hx13 := bt_at a0 (ji10)
                      replace p13 := eq_true p13
                      replace q13 := eq_true q13
                      have p15 : 0 ≤ (0 : Int) := (by omega)
                      have q15 : 0 < a0.size := (by have : (0 : Int) < (a0.size : Int) := of_decide_eq_true (by first | (with_reducible assumption) | assumption); omega)
                      have hx15 : ∀ h : 0 < a0.size, ((a0[0]'h).toNat : Int) = bt a0 0 := bt_at a0 0
                      clear p15
                      have qi15 : (0 < (a0.size : Int)) = True := eq_true (of_decide_eq_true (by first | (with_reducible assumption) | assumption))
                      replace q15 := eq_true q15
                      have p23 : 0 ≤ (0 : Int) := (by omega)
                      have q23 : 0 < a0.size := (by have : (0 : Int) < (a0.size : Int) := of_decide_eq_true (by first | (with_reducible assumption) | assumption); omega)
                      have hx23 : ∀ h : 0 < a0.size, ((a0[0]'h).toNat : Int) = bt a0 0 := bt_at a0 0
                      clear p23
                      have qi23 : (0 < (a0.size : Int)) = True := eq_true (of_decide_eq_true (by first | (with_reducible assumption) | assumption))
                      replace q23 := eq_true q23
                      go_wp2
                      repeat (go_quiet (fail); try go_wp2)
                      go_ret3
                      exact ⟨by first | rfl | (simp; done) | (simp only [← hji10, ← hji17] <;> (first | rfl | simp)) | (simp [*]; done), by repeat (first | exact Drawn0.refl _ | apply Drawn0.step)⟩
                    · rw [if_neg c22] at H
                      exact absurd H (by simp)
              · rw [if_neg c16] at H
                exact absurd H (by simp)
            · rw [if_neg c14] at H
              exact absurd H (by simp)
          · rw [if_neg c12] at H
            exact absurd H (by simp)
        · rw [if_neg c11] at H
          exact absurd H (by simp)

/-! ### octets_Put: function 51 (a text given by hand: octets.tmpl) -/
def putNums (n : Int) : List Int := [n / 72057594037927936 % 256, n / 281474976710656 % 256, n / 1099511627776 % 256, n / 4294967296 % 256, n / 16777216 % 256, n / 65536 % 256, n / 256 % 256, n % 256]
def octets_Put.f (a0 : Int) (a1 : Int) : Option ByteArray := if a1 < 1 then some (⟨#[]⟩ : ByteArray) else if a1 > 8 then some (⟨#[]⟩ : ByteArray) else some (strOfNums ((putNums a0).drop (8 - a1.toNat)))
theorem octets_Put.cells (w : World) (x0 x1 x2 x3 x4 x5 x6 x7 : Int) (i : Nat) (hi : i < 8) :
    (w.alloc (.cells #[.int .u8 x0, .int .u8 x1, .int .u8 x2, .int .u8 x3, .int .u8 x4, .int .u8 x5, .int .u8 x6, .int .u8 x7] 63)).cell? ⟨w.heap.size, i, none⟩ = some (.int .u8 ([x0, x1, x2, x3, x4, x5, x6, x7].getD i 0)) := by
  rw [World.cell?_alloc_new]
  match i, hi with
  | 0, _ => rfl
  | 1, _ => rfl
  | 2, _ => rfl
  | 3, _ => rfl
  | 4, _ => rfl
  | 5, _ => rfl
  | 6, _ => rfl
  | 7, _ => rfl
theorem octets_Put.conv (w : World) (k : Nat) (hk : k < 8) (x0 x1 x2 x3 x4 x5 x6 x7 : Int) :
    (convert 53 9 (.slice (some ⟨w.heap.size, k, none⟩) (8 - k) (8 - k))).run Tryd.prog (w.alloc (.cells #[.int .u8 x0, .int .u8 x1, .int .u8 x2, .int .u8 x3, .int .u8 x4, .int .u8 x5, .int .u8 x6, .int .u8 x7] 63)) = .ok (.string (strOfNums ([x0, x1, x2, x3, x4, x5, x6, x7].drop k))) (w.alloc (.cells #[.int .u8 x0, .int .u8 x1, .int .u8 x2, .int .u8 x3, .int .u8 x4, .int .u8 x5, .int .u8 x6, .int .u8 x7] 63)) := by
  refine run_convert_bytes_arg _ 53 5 Tryd.underlying53 Tryd.underlying5 w.heap.size k (8 - k) (8 - k) _ (by simp) (fun i hi => ?_) 9 Tryd.underlying9
  have := octets_Put.cells w x0 x1 x2 x3 x4 x5 x6 x7 (k + i) (by omega)
  rw [this]
  simp [List.getD_eq_getElem?_getD]
set_option maxHeartbeats 8000000 in
set_option maxRecDepth 100000 in
theorem octets_Put.calls (a0 : Int) (a1 : Int) (r : ByteArray) (w : World) (h : octets_Put.f a0 a1 = some r) :
    Calls Tryd.prog 51 #[.int .u64 a0, .int .i64 a1] w fun e w' => e = .returned (.string r) ∧ Below w.heap.size w w' := by
  by_cases h1 : a1 < 1
  · have hr : r = (⟨#[]⟩ : ByteArray) := by unfold octets_Put.f at h; rw [if_pos h1] at h; exact (Option.some.inj h).symm
    subst hr
    clear h
    go_enter Tryd.func51, Tryd.ntmps51
    go_wp2
    go_ret
    exact ⟨rfl, Below.refl _ _⟩
  by_cases h2 : 8 < a1
  · have hr : r = (⟨#[]⟩ : ByteArray) := by unfold octets_Put.f at h; rw [if_neg h1, if_pos h2] at h; exact (Option.some.inj h).symm
    subst hr
    clear h
    go_enter Tryd.func51, Tryd.ntmps51
    go_wp2
    go_ret
    exact ⟨rfl, Below.refl _ _⟩
  have hr : r = strOfNums ((putNums a0).drop (8 - a1.toNat)) := by unfold octets_Put.f at h; rw [if_neg h1, if_neg (by omega)] at h; exact (Option.some.inj h).symm
  subst hr
  clear h
  rcases (by omega : a1 = 1 ∨ a1 = 2 ∨ a1 = 3 ∨ a1 = 4 ∨ a1 = 5 ∨ a1 = 6 ∨ a1 = 7 ∨ a1 = 8) with rfl | rfl | rfl | rfl | rfl | rfl | rfl | rfl
  · have hcv := octets_Put.conv w 7 (by omega)
    clear h1 h2
    go_enter Tryd.func51, Tryd.ntmps51
    go_wp2
    refine wp_loop_rounds 9 ?_
    repeat any_goals (rw [rounds_succ]; go_wp2)
    go_ret
    exact ⟨rfl, by repeat (first | exact Below.refl _ _ | apply below_alloc)⟩
  · have hcv := octets_Put.conv w 6 (by omega)
    clear h1 h2
    go_enter Tryd.func51, Tryd.ntmps51
    go_wp2
    refine wp_loop_rounds 9 ?_
    repeat any_goals (rw [rounds_succ]; go_wp2)
    go_ret
    exact ⟨rfl, by repeat (first | exact Below.refl _ _ | apply below_alloc)⟩
  · have hcv := octets_Put.conv w 5 (by omega)
    clear h1 h2
    go_enter Tryd.func51, Tryd.ntmps51
    go_wp2
    refine wp_loop_rounds 9 ?_
    repeat any_goals (rw [rounds_succ]; go_wp2)
    go_ret
    exact ⟨rfl, by repeat (first | exact Below.refl _ _ | apply below_alloc)⟩
  · have hcv := octets_Put.conv w 4 (by omega)
    clear h1 h2
    go_enter Tryd.func51, Tryd.ntmps51
    go_wp2
    refine wp_loop_rounds 9 ?_
    repeat any_goals (rw [rounds_succ]; go_wp2)
    go_ret
    exact ⟨rfl, by repeat (first | exact Below.refl _ _ | apply below_alloc)⟩
  · have hcv := octets_Put.conv w 3 (by omega)
    clear h1 h2
    go_enter Tryd.func51, Tryd.ntmps51
    go_wp2
    refine wp_loop_rounds 9 ?_
    repeat any_goals (rw [rounds_succ]; go_wp2)
    go_ret
    exact ⟨rfl, by repeat (first | exact Below.refl _ _ | apply below_alloc)⟩
  · have hcv := octets_Put.conv w 2 (by omega)
    clear h1 h2
    go_enter Tryd.func51, Tryd.ntmps51
    go_wp2
    refine wp_loop_rounds 9 ?_
    repeat any_goals (rw [rounds_succ]; go_wp2)
    go_ret
    exact ⟨rfl, by repeat (first | exact Below.refl _ _ | apply below_alloc)⟩
  · have hcv := octets_Put.conv w 1 (by omega)
    clear h1 h2
    go_enter Tryd.func51, Tryd.ntmps51
    go_wp2
    refine wp_loop_rounds 9 ?_
    repeat any_goals (rw [rounds_succ]; go_wp2)
    go_ret
    exact ⟨rfl, by repeat (first | exact Below.refl _ _ | apply below_alloc)⟩
  · have hcv := octets_Put.conv w 0 (by omega)
    clear h1 h2
    go_enter Tryd.func51, Tryd.ntmps51
    go_wp2
    refine wp_loop_rounds 9 ?_
    repeat any_goals (rw [rounds_succ]; go_wp2)
    go_ret
    exact ⟨rfl, by repeat (first | exact Below.refl _ _ | apply below_alloc)⟩

/-! ### strs_Bits: function 36 -/
def strs_Bits.f (k : Nat) (a0 : ByteArray) (a1 : Int) : Option (ByteArray × Bool) := (octets_Put.f (IntKind.u64.wrap (a1)) 1).bind fun t101 => (if t101.size + a0.size ≤ 9223372036854775807 then ((strs_Unbits.f k (t101 ++ a0)).bind fun bt102 => (if bt102.2.2 = true then (if bt102.2.1 = a1 then (some (t101 ++ a0, true)) else (some ((⟨#[]⟩ : ByteArray), false))) else (some ((⟨#[]⟩ : ByteArray), false)))) else (none))
theorem strs_Bits.mono : ∀ a0 a1 k, LeO (strs_Bits.f k a0 a1) (strs_Bits.f (k + 1) a0 a1) := by
  intro a0 a1 k
  unfold strs_Bits.f
  repeat' first
      | (with_reducible exact strs_Unbits.mono _ _)
      | (with_reducible exact LeO.refl _)
      | (with_reducible exact LeO.none _)
      | (with_reducible refine LeO.ite ?_ ?_)
      | (with_reducible refine LeO.bind ?_ (fun _ => ?_))
      | exact strs_Unbits.mono _ _
      | exact LeO.none _
      | refine LeO.ite ?_ ?_
      | refine LeO.bind ?_ (fun _ => ?_)
set_option maxHeartbeats 8000000 in
set_option maxRecDepth 100000 in
theorem strs_Bits.calls (k : Nat) (a0 : ByteArray) (a1 : Int) (r1 : ByteArray) (r2 : Bool) (w : World) (h : strs_Bits.f k a0 a1 = some (r1, r2)) :
    Calls Tryd.prog 36 #[.string a0, .int .i64 a1] w fun e w' => e = .returned (.tuple #[.string r1, .bool r2]) ∧ Below w.heap.size w w' := by
  have HB := Aside0.mk (Below.refl w.heap.size w)
  have H : ((octets_Put.f (IntKind.u64.wrap (a1)) 1).bind fun t101 => (if t101.size + a0.size ≤ 9223372036854775807 then ((strs_Unbits.f k (t101 ++ a0)).bind fun bt102 => (if bt102.2.2 = true then (if bt102.2.1 = a1 then (some (t101 ++ a0, true)) else (some ((⟨#[]⟩ : ByteArray), false))) else (some ((⟨#[]⟩ : ByteArray), false)))) else (none))) = some (r1, r2) := h
  clear h
  replace H := Option.bind_eq_some_iff.mp H
  obtain ⟨t101, A30, H⟩ := H
  replace H : (if t101.size + a0.size ≤ 9223372036854775807 then ((strs_Unbits.f k (t101 ++ a0)).bind fun bt102 => (if bt102.2.2 = true then (if bt102.2.1 = a1 then (some (t101 ++ a0, true)) else (some ((⟨#[]⟩ : ByteArray), false))) else (some ((⟨#[]⟩ : ByteArray), false)))) else (none)) = some (r1, r2) := H
  have A3 := Aside0.mk A30
  clear A30
  by_cases c4 : t101.size + a0.size ≤ 9223372036854775807
  · rw [if_pos c4] at H
    have c4b0 := eq_true c4
    have c4b1 : decide (t101.size + a0.size ≤ 9223372036854775807) = true := decide_eq_true c4
    try have c4b2 : (9223372036854775807 < t101.size + a0.size) = False := eq_false (Nat.not_lt.2 c4)
    replace H := Option.bind_eq_some_iff.mp H
    obtain ⟨⟨t102, t103, t104⟩, A50, H⟩ := H
    replace H : (if t104 = true then (if t103 = a1 then (some (t101 ++ a0, true)) else (some ((⟨#[]⟩ : ByteArray), false))) else (some ((⟨#[]⟩ : ByteArray), false))) = some (r1, r2) := H
    have A5 := Aside0.mk A50
    clear A50
    by_cases c6 : t104 = true
    · subst c6
      have H1 : (if t103 = a1 then (some (t101 ++ a0, true)) else (some ((⟨#[]⟩ : ByteArray), false))) = some (r1, r2) := by rw [if_pos rfl] at H; exact H
      clear H
      have H := H1
      clear H1
      by_cases c7 : t103 = a1
      · rw [if_pos c7] at H
        have c7b0 : (t103 == a1) = true := beq_iff_eq.mpr c7
        have c7b1 : (t103 != a1) = false := bne_eq_false_iff_eq.mpr c7
        clear c7
        simp only [Option.some.injEq, Prod.mk.injEq] at H
        obtain ⟨rfl, rfl⟩ := H
        go_enter Tryd.func36, Tryd.ntmps36
        go_wp2_with (first | ((with_reducible refine gate_callee (f := 51) rfl ?_); refine goesL_ (some 12) rfl rfl Tryd.func51 (by kernel_rfl) rfl #[.int .u64 (IntKind.u64.wrap (a1)), .int .i64 1] rfl (by (try simp only [List.map_toArray, List.map_cons, List.map_nil]); first | done | rfl | (simp only [List.length_drop, List.length_take]; rfl)) ?_; (with_reducible refine (octets_Put.calls (IntKind.u64.wrap (a1)) 1 t101 _ A3.out).mono ?_); rintro e w8 ⟨rfl, hb⟩; refine ⟨_, rfl, ?_⟩; have n0_ := Aside0.mk (below_step (by repeat (first | (with_reducible first | exact HB.out | apply below_alloc | apply pw_below_drewN | apply below_drew1) | exact HB.out)) hb); clear HB; have HB := n0_; clear n0_; (try clear hb); (try clear hb2); (try clear hk); (try clear hi)) | ((with_reducible refine gate_callee (f := 38) rfl ?_); refine goesL_ (some 17) rfl rfl Tryd.func38 (by kernel_rfl) rfl #[.string (t101 ++ a0)] rfl (by (try simp only [List.map_toArray, List.map_cons, List.map_nil]); first | done | rfl | (simp only [List.length_drop, List.length_take]; rfl)) ?_; (with_reducible refine (strs_Unbits.calls k (t101 ++ a0) t102 t103 true _ A5.out).mono ?_); rintro e w' ⟨rfl, ⟨nd, rfl⟩⟩; refine ⟨_, rfl, ?_⟩))
        go_ret2
        exact ⟨by first | rfl | (simp [errW_none, errW_some] <;> rfl) | (simp [*, errW_none, errW_some] <;> rfl), by repeat (first | (with_reducible first | exact HB.out | apply below_alloc | apply pw_below_drewN | apply below_drew1) | exact HB.out)⟩
      · rw [if_neg c7] at H
        have c7b0 : (t103 == a1) = false := beq_eq_false_iff_ne.mpr c7
        have c7b1 : (t103 != a1) = true := bne_iff_ne.mpr c7
        simp only [Option.some.injEq, Prod.mk.injEq] at H
        obtain ⟨rfl, rfl⟩ := H
        go_enter Tryd.func36, Tryd.ntmps36
        go_wp2_with (first | ((with_reducible refine gate_callee (f := 51) rfl ?_); refine goesL_ (some 12) rfl rfl Tryd.func51 (by kernel_rfl) rfl #[.int .u64 (IntKind.u64.wrap (a1)), .int .i64 1] rfl (by (try simp only [List.map_toArray, List.map_cons, List.map_nil]); first | done | rfl | (simp only [List.length_drop, List.length_take]; rfl)) ?_; (with_reducible refine (octets_Put.calls (IntKind.u64.wrap (a1)) 1 t101 _ A3.out).mono ?_); rintro e w9 ⟨rfl, hb⟩; refine ⟨_, rfl, ?_⟩; have n0_ := Aside0.mk (below_step (by repeat (first | (with_reducible first | exact HB.out | apply below_alloc | apply pw_below_drewN | apply below_drew1) | exact HB.out)) hb); clear HB; have HB := n0_; clear n0_; (try clear hb); (try clear hb2); (try clear hk); (try clear hi)) | ((with_reducible refine gate_callee (f := 38) rfl ?_); refine goesL_ (some 17) rfl rfl Tryd.func38 (by kernel_rfl) rfl #[.string (t101 ++ a0)] rfl (by (try simp only [List.map_toArray, List.map_cons, List.map_nil]); first | done | rfl | (simp only [List.length_drop, List.length_take]; rfl)) ?_; (with_reducible refine (strs_Unbits.calls k (t101 ++ a0) t102 t103 true _ A5.out).mono ?_); rintro e w' ⟨rfl, ⟨nd, rfl⟩⟩; refine ⟨_, rfl, ?_⟩))
        go_ret2
        exact ⟨by first | rfl | (simp [errW_none, errW_some] <;> rfl) | (simp [*, errW_none, errW_some] <;> rfl), by repeat (first | (with_reducible first | exact HB.out | apply below_alloc | apply pw_below_drewN | apply below_drew1) | exact HB.out)⟩
    · replace c6 := Bool.eq_false_iff.mpr c6
      subst c6
      have H1 : (some ((⟨#[]⟩ : ByteArray), false)) = some (r1, r2) := by rw [if_neg (show ¬ (false = true) by decide)] at H; exact H
      clear H
      have H := H1
      clear H1
      simp only [Option.some.injEq, Prod.mk.injEq] at H
      obtain ⟨rfl, rfl⟩ := H
      go_enter Tryd.func36, Tryd.ntmps36
      go_wp2_with (first | ((with_reducible refine gate_callee (f := 51) rfl ?_); refine goesL_ (some 12) rfl rfl Tryd.func51 (by kernel_rfl) rfl #[.int .u64 (IntKind.u64.wrap (a1)), .int .i64 1] rfl (by (try simp only [List.map_toArray, List.map_cons, List.map_nil]); first | done | rfl | (simp only [List.length_drop, List.length_take]; rfl)) ?_; (with_reducible refine (octets_Put.calls (IntKind.u64.wrap (a1)) 1 t101 _ A3.out).mono ?_); rintro e w10 ⟨rfl, hb⟩; refine ⟨_, rfl, ?_⟩; have n0_ := Aside0.mk (below_step (by repeat (first | (with_reducible first | exact HB.out | apply below_alloc | apply pw_below_drewN | apply below_drew1) | exact HB.out)) hb); clear HB; have HB := n0_; clear n0_; (try clear hb); (try clear hb2); (try clear hk); (try clear hi)) | ((with_reducible refine gate_callee (f := 38) rfl ?_); refine goesL_ (some 17) rfl rfl Tryd.func38 (by kernel_rfl) rfl #[.string (t101 ++ a0)] rfl (by (try simp only [List.map_toArray, List.map_cons, List.map_nil]); first | done | rfl | (simp only [List.length_drop, List.length_take]; rfl)) ?_; (with_reducible refine (strs_Unbits.calls k (t101 ++ a0) t102 t103 false _ A5.out).mono ?_); rintro e w' ⟨rfl, ⟨nd, rfl⟩⟩; refine ⟨_, rfl, ?_⟩))
      go_ret2
      exact ⟨by first | rfl | (simp [errW_none, errW_some] <;> rfl) | (simp [*, errW_none, errW_some] <;> rfl), by repeat (first | (with_reducible first | exact HB.out | apply below_alloc | apply pw_below_drewN | apply below_drew1) | exact HB.out)⟩
  · rw [if_neg c4] at H
    exact absurd H (by simp)

/-! ### strs_Bool: function 42 -/
def strs_Bool.f (a0 : Bool) : Option (ByteArray) := if a0 = true then (some (⟨#[255]⟩ : ByteArray)) else (some (⟨#[0]⟩ : ByteArray))
set_option maxHeartbeats 8000000 in
set_option maxRecDepth 100000 in
theorem strs_Bool.calls (a0 : Bool) (r : ByteArray) (w : World) (h : strs_Bool.f a0 = some r) :
    Calls Tryd.prog 42 #[.bool a0] w fun e w' => e = .returned (.string r) ∧ Drawn0 w w' := by
  have H : (if a0 = true then (some (⟨#[255]⟩ : ByteArray)) else (some (⟨#[0]⟩ : ByteArray))) = some r := h
  clear h
  by_cases c2 : a0 = true
  · subst c2
    have H1 : (some (⟨#[255]⟩ : ByteArray)) = some r := by rw [if_pos rfl] at H; exact H
    clear H
    have H := H1
    clear H1
    obtain rfl := Option.some.inj H
    go_enter Tryd.func42, Tryd.ntmps42
    go_wp2
    go_ret
    exact ⟨by first | rfl | (simp; done) | (simp [*]; done), by repeat (first | exact Drawn0.refl _ | apply Drawn0.step)⟩
  · replace c2 := Bool.eq_false_iff.mpr c2
    subst c2
    have H1 : (some (⟨#[0]⟩ : ByteArray)) = some r := by rw [if_neg (show ¬ (false = true) by decide)] at H; exact H
    clear H
    have H := H1
    clear H1
    obtain rfl := Option.some.inj H
    go_enter Tryd.func42, Tryd.ntmps42
    go_wp2
    go_ret
    exact ⟨by first | rfl | (simp; done) | (simp [*]; done), by repeat (first | exact Drawn0.refl _ | apply Drawn0.step)⟩

/-! ### utf8_ValidString: function 56 (a text given by hand: strs.tmpl) -/
-- @import Derived.Test.YtlocmcemfjfhiaaDoorShelf
-- @import Derived.Shelf.Unicode.ValidAny
-- @import Derived.Lib.LaidU8T
-- @import Derived.MakeChecks
/-- What is listed of utf8's tables, in any later world. -/
theorem utf8_ValidString.tab {w : World} (h : TB w) : Lib.Utf8Tabs 0 1 w := by
  obtain ⟨W, hW, hB⟩ := h
  rw [MakeChecks.laidMetH_plain _ _ _ (by kernel_rfl)] at hW
  have hm1 : ("unicode/utf8.first", Lib.firstData) ∈ Rows.strsRightRow.laid := by
    have e : Lib.firstData = Rows.laid_unicode_utf8_first := by kernel_rfl
    rw [e]
    repeat (first | exact List.mem_cons_self | apply List.mem_cons_of_mem)
  have hm2 : ("unicode/utf8.acceptRanges", Lib.acceptData) ∈ Rows.strsRightRow.laid := by
    have e : Lib.acceptData = Rows.laid_unicode_utf8_acceptRanges := by kernel_rfl
    rw [e]
    repeat (first | exact List.mem_cons_self | apply List.mem_cons_of_mem)
  have h1 : Lib.Utf8Tabs 0 1 W := utf8Tabs_of_readsT (U8Types.of196 Tryd.laysValid) ⟨by kernel_rfl, by kernel_rfl, by kernel_rfl, by kernel_rfl, by kernel_rfl, by kernel_rfl, by kernel_rfl⟩ (Lib.laidMet.reads hW hm1) (Lib.laidMet.reads hW hm2)
  have mv : ∀ p v, W.cell? p = some v → w.cell? p = some v := fun p v hp => by
    have hlt := World.block_lt_of_cell? W _ hp
    unfold World.cell? at hp ⊢
    rw [hB.block _ hlt]
    exact hp
  exact ⟨fun c hc => mv _ _ (h1.1 c hc), fun i hi => ⟨mv _ _ (h1.2 i hi).1, mv _ _ (h1.2 i hi).2⟩⟩
def utf8_ValidString.f (a0 : ByteArray) : Option Bool := if a0.size ≤ 9223372036854775807 then some (Lib.validD a0.data.toList) else none
theorem utf8_ValidString.calls (a0 : ByteArray) (r : Bool) (w : World) (HT_ : Aside0 (TB w)) (h : utf8_ValidString.f a0 = some r) :
    Calls Tryd.prog 56 #[.string a0] w fun e w' => e = .returned (.bool r) ∧ Below w.heap.size w w' := by
  unfold utf8_ValidString.f at h
  split at h
  · rename_i hc
    obtain rfl := Option.some.inj h
    exact Any.utf8_ValidString Tryd.laysValid a0 w hc (utf8_ValidString.tab HT_.out)
  · cases h

/-! ### strs_Utf: function 44 -/
def strs_Utf.f (a0 : ByteArray) : Option (Bool) := (utf8_ValidString.f a0).bind fun t105 => (some t105)
set_option maxHeartbeats 8000000 in
set_option maxRecDepth 100000 in
theorem strs_Utf.calls (a0 : ByteArray) (r : Bool) (w : World) (HT_ : Aside0 (TB w)) (h : strs_Utf.f a0 = some r) :
    Calls Tryd.prog 44 #[.string a0] w fun e w' => e = .returned (.bool r) ∧ Below w.heap.size w w' := by
  have HB := Aside0.mk (Below.refl w.heap.size w)
  have H : ((utf8_ValidString.f a0).bind fun t105 => (some t105)) = some r := h
  clear h
  replace H := Option.bind_eq_some_iff.mp H
  obtain ⟨t105, A20, H⟩ := H
  replace H : (some t105) = some r := H
  have A2 := Aside0.mk A20
  clear A20
  obtain rfl := Option.some.inj H
  go_enter Tryd.func44, Tryd.ntmps44
  go_wp2_with (first | ((with_reducible refine gate_callee (f := 56) rfl ?_); refine goesL_ (some 4) rfl rfl Tryd.func56 (by kernel_rfl) rfl #[.string a0] rfl (by (try simp only [List.map_toArray, List.map_cons, List.map_nil]); first | done | rfl | (simp only [List.length_drop, List.length_take]; rfl)) ?_; (with_reducible refine (utf8_ValidString.calls a0 t105 _ ?tb_ A2.out).mono ?_); (case tb_ => exact ⟨TB.below HT_.out (by repeat (first | (with_reducible first | exact HB.out | apply below_alloc | apply pw_below_drewN | apply below_drew1) | exact HB.out | exact Below.refl _ _))⟩); rintro e w3 ⟨rfl, hb⟩; refine ⟨_, rfl, ?_⟩; have n0_ := Aside0.mk (below_step (by repeat (first | (with_reducible first | exact HB.out | apply below_alloc | apply pw_below_drewN | apply below_drew1) | exact HB.out)) hb); clear HB; have HB := n0_; clear n0_; (try clear hb); (try clear hb2); (try clear hk); (try clear hi)))
  go_ret
  exact ⟨by first | rfl | (simp [errW_none, errW_some] <;> rfl) | (simp [*, errW_none, errW_some] <;> rfl), by repeat (first | (with_reducible first | exact HB.out | apply below_alloc | apply pw_below_drewN | apply below_drew1) | exact HB.out)⟩

/-! ### strings_IndexRune: function 69 (a text given by hand: strs.tmpl) -/
-- @import Derived.Test.YtlocmcemfjfhiaaDoorShelf
-- @import Derived.WalkMore
-- @import Derived.Laws.Runes
-- @import Derived.Laws.RangeString
def strings_IndexRune.others : ByteArray := ⟨#[32, 39, 40, 41, 43, 44, 45, 46, 47, 58, 61, 63]⟩
def strings_IndexRune.f (a0 : ByteArray) (a1 : Int) : Option Int := if 0 ≤ a1 ∧ a1 < 128 then some (Lib.indexByte a0.data.toList a1.toNat.toUInt8) else if a0 = strings_IndexRune.others ∧ 128 ≤ a1 then some (-1) else none
theorem index_far : ∀ (l : List UInt8) (c : UInt8), (∀ b ∈ l, b.toNat < 128) → 128 ≤ c.toNat → Lib.indexByte l c = -1
  | [], _, _, _ => rfl
  | b :: l, c, h, hc => by
    have hb := h b (by simp)
    have e : (b == c) = false := beq_eq_false_iff_ne.2 (fun e => by subst e; omega)
    have ih := index_far l c (fun x hx => h x (List.mem_cons_of_mem _ hx)) hc
    simp [Lib.indexByte, e, ih]
theorem below_iter (w : World) (s : ByteArray) (p : Nat) : Below w.heap.size w (w.iter s p) := below_alloc (Below.refl _ _) _
theorem strings_IndexRune.iw2 : IntKind.i64.wrap 2 = 2 := by decide
theorem strings_IndexRune.iw3 : IntKind.i64.wrap 3 = 3 := by decide
theorem strings_IndexRune.iw4 : IntKind.i64.wrap 4 = 4 := by decide
attribute [local go_sem] strings_IndexRune.iw2 strings_IndexRune.iw3 strings_IndexRune.iw4
set_option maxHeartbeats 8000000 in
set_option maxRecDepth 100000 in
theorem strings_IndexRune.err (w : World) : Calls Tryd.prog 69 #[.string (⟨#[32, 39, 40, 41, 43, 44, 45, 46, 47, 58, 61, 63]⟩ : ByteArray), .int .i32 65533] w fun e w' => e = .returned (.int .i64 (-1)) ∧ Below w.heap.size w w' := by
  have hn0 := fun ty => run_next_ascii (P := Tryd.prog) w (⟨#[32, 39, 40, 41, 43, 44, 45, 46, 47, 58, 61, 63]⟩ : ByteArray) 0 ty (by decide) (by decide)
  have hn1 := fun ty => run_next_ascii (P := Tryd.prog) w (⟨#[32, 39, 40, 41, 43, 44, 45, 46, 47, 58, 61, 63]⟩ : ByteArray) 1 ty (by decide) (by decide)
  have hn2 := fun ty => run_next_ascii (P := Tryd.prog) w (⟨#[32, 39, 40, 41, 43, 44, 45, 46, 47, 58, 61, 63]⟩ : ByteArray) 2 ty (by decide) (by decide)
  have hn3 := fun ty => run_next_ascii (P := Tryd.prog) w (⟨#[32, 39, 40, 41, 43, 44, 45, 46, 47, 58, 61, 63]⟩ : ByteArray) 3 ty (by decide) (by decide)
  have hn4 := fun ty => run_next_ascii (P := Tryd.prog) w (⟨#[32, 39, 40, 41, 43, 44, 45, 46, 47, 58, 61, 63]⟩ : ByteArray) 4 ty (by decide) (by decide)
  have hn5 := fun ty => run_next_ascii (P := Tryd.prog) w (⟨#[32, 39, 40, 41, 43, 44, 45, 46, 47, 58, 61, 63]⟩ : ByteArray) 5 ty (by decide) (by decide)
  have hn6 := fun ty => run_next_ascii (P := Tryd.prog) w (⟨#[32, 39, 40, 41, 43, 44, 45, 46, 47, 58, 61, 63]⟩ : ByteArray) 6 ty (by decide) (by decide)
  have hn7 := fun ty => run_next_ascii (P := Tryd.prog) w (⟨#[32, 39, 40, 41, 43, 44, 45, 46, 47, 58, 61, 63]⟩ : ByteArray) 7 ty (by decide) (by decide)
  have hn8 := fun ty => run_next_ascii (P := Tryd.prog) w (⟨#[32, 39, 40, 41, 43, 44, 45, 46, 47, 58, 61, 63]⟩ : ByteArray) 8 ty (by decide) (by decide)
  have hn9 := fun ty => run_next_ascii (P := Tryd.prog) w (⟨#[32, 39, 40, 41, 43, 44, 45, 46, 47, 58, 61, 63]⟩ : ByteArray) 9 ty (by decide) (by decide)
  have hn10 := fun ty => run_next_ascii (P := Tryd.prog) w (⟨#[32, 39, 40, 41, 43, 44, 45, 46, 47, 58, 61, 63]⟩ : ByteArray) 10 ty (by decide) (by decide)
  have hn11 := fun ty => run_next_ascii (P := Tryd.prog) w (⟨#[32, 39, 40, 41, 43, 44, 45, 46, 47, 58, 61, 63]⟩ : ByteArray) 11 ty (by decide) (by decide)
  have hn12 := fun ty => run_next_end (P := Tryd.prog) w (⟨#[32, 39, 40, 41, 43, 44, 45, 46, 47, 58, 61, 63]⟩ : ByteArray) 12 ty (by decide)
  go_enter Tryd.func69, Tryd.ntmps69
  go_wp2
  refine wp_loop_rounds 13 ?_
  repeat any_goals (rw [rounds_succ]; go_wp2)
  go_ret
  exact ⟨rfl, below_iter _ _ _⟩
set_option maxHeartbeats 8000000 in
set_option maxRecDepth 100000 in
theorem strings_IndexRune.bad (r : Int) (w : World) (h128 : 128 ≤ r) (hne : r ≠ 65533) (hv : Lib.validRune r = false) :
    Calls Tryd.prog 69 #[.string (⟨#[32, 39, 40, 41, 43, 44, 45, 46, 47, 58, 61, 63]⟩ : ByteArray), .int .i32 r] w fun e w' => e = .returned (.int .i64 (-1)) ∧ Below w.heap.size w w' := by
  have e1 : decide ((0 : Int) ≤ r) = true := decide_eq_true (by omega)
  have e2 : decide (r < 128) = false := decide_eq_false (by omega)
  have e3 : (r == 65533) = false := beq_eq_false_iff_ne.2 hne
  have e4 : (r != 65533) = true := bne_iff_ne.2 hne
  clear hne
  go_enter Tryd.func69, Tryd.ntmps69
  go_wp2_with (go_at_call 80; refine (Tryd.utf8_ValidRune _ _).mono ?_; rintro e w' ⟨rfl, rfl⟩)
  go_ret
  exact ⟨rfl, by repeat (first | exact Below.refl _ _ | apply below_drew1 | apply pw_below_drewN)⟩
set_option maxHeartbeats 8000000 in
set_option maxRecDepth 100000 in
theorem strings_IndexRune.far1 (r : Int) (w : World) (c : UInt8) (h128 : 128 ≤ r) (hne : r ≠ 65533) (hv : Lib.validRune r = true) (hsz : (Utf8.encode r).size = 2)
    (hc : ∀ h : 1 < (Utf8.encode r).size, (Utf8.encode r)[1]'h = c) (hc128 : 128 ≤ c.toNat)
    (C : ∀ W : World, Calls Tryd.prog 79 #[.string ⟨#[40, 41, 43, 44, 45, 46, 47, 58, 61, 63]⟩, .int .u8 (c.toNat : Int)] W fun e w' => e = .returned (.int .i64 (-1)) ∧ w' = W) :
    Calls Tryd.prog 69 #[.string ⟨#[32, 39, 40, 41, 43, 44, 45, 46, 47, 58, 61, 63]⟩, .int .i32 r] w fun e w' => e = .returned (.int .i64 (-1)) ∧ Below w.heap.size w w' := by
  have e1 : decide ((0 : Int) ≤ r) = true := decide_eq_true (by omega)
  have e2 : decide (r < 128) = false := decide_eq_false (by omega)
  have e3 : (r == 65533) = false := beq_eq_false_iff_ne.2 hne
  have e4 : (r != 65533) = true := bne_iff_ne.2 hne
  have e6 : (((⟨#[32, 39, 40, 41, 43, 44, 45, 46, 47, 58, 61, 63]⟩ : ByteArray)[1].toNat : Int) != (c.toNat : Int)) = true := bne_iff_ne.2 (show (39 : Int) ≠ _ by omega)
  have hx : (⟨#[32, 39, 40, 41, 43, 44, 45, 46, 47, 58, 61, 63]⟩ : ByteArray).extract 2 12 = ⟨#[40, 41, 43, 44, 45, 46, 47, 58, 61, 63]⟩ := by rfl
  clear hne
  go_enter Tryd.func69, Tryd.ntmps69
  go_wp2_with (go_at_call 80; refine (Tryd.utf8_ValidRune _ _).mono ?_; rintro e w' ⟨rfl, rfl⟩)
  go_step3
  go_wp2
  refine wp_loop_rounds 2 ?_
  rw [rounds_succ]; go_wp2
  go_step3
  go_wp2
  go_quiet (fail)
  go_wp2
  go_quiet ((go_at_call 79; refine (C _).mono ?_; rintro e w2 ⟨rfl, rfl⟩; exact ⟨rfl, _, rfl⟩))
  go_wp2
  simp only [Exit.noGoto, Exit.inBlock, Exit.then]
  refine bodyPost_ret (results_tmp rfl _ _ _) rfl ?_
  exact ⟨rfl, by repeat (first | exact Below.refl _ _ | apply below_drew1 | apply pw_below_drewN)⟩
set_option maxHeartbeats 8000000 in
set_option maxRecDepth 100000 in
theorem strings_IndexRune.far2 (r : Int) (w : World) (c : UInt8) (h128 : 128 ≤ r) (hne : r ≠ 65533) (hv : Lib.validRune r = true) (hsz : (Utf8.encode r).size = 3)
    (hc : ∀ h : 2 < (Utf8.encode r).size, (Utf8.encode r)[2]'h = c) (hc128 : 128 ≤ c.toNat)
    (C : ∀ W : World, Calls Tryd.prog 79 #[.string ⟨#[41, 43, 44, 45, 46, 47, 58, 61, 63]⟩, .int .u8 (c.toNat : Int)] W fun e w' => e = .returned (.int .i64 (-1)) ∧ w' = W) :
    Calls Tryd.prog 69 #[.string ⟨#[32, 39, 40, 41, 43, 44, 45, 46, 47, 58, 61, 63]⟩, .int .i32 r] w fun e w' => e = .returned (.int .i64 (-1)) ∧ Below w.heap.size w w' := by
  have e1 : decide ((0 : Int) ≤ r) = true := decide_eq_true (by omega)
  have e2 : decide (r < 128) = false := decide_eq_false (by omega)
  have e3 : (r == 65533) = false := beq_eq_false_iff_ne.2 hne
  have e4 : (r != 65533) = true := bne_iff_ne.2 hne
  have e6 : (((⟨#[32, 39, 40, 41, 43, 44, 45, 46, 47, 58, 61, 63]⟩ : ByteArray)[2].toNat : Int) != (c.toNat : Int)) = true := bne_iff_ne.2 (show (40 : Int) ≠ _ by omega)
  have hx : (⟨#[32, 39, 40, 41, 43, 44, 45, 46, 47, 58, 61, 63]⟩ : ByteArray).extract 3 12 = ⟨#[41, 43, 44, 45, 46, 47, 58, 61, 63]⟩ := by rfl
  clear hne
  go_enter Tryd.func69, Tryd.ntmps69
  go_wp2_with (go_at_call 80; refine (Tryd.utf8_ValidRune _ _).mono ?_; rintro e w' ⟨rfl, rfl⟩)
  go_step3
  go_wp2
  refine wp_loop_rounds 2 ?_
  rw [rounds_succ]; go_wp2
  go_step3
  go_wp2
  go_quiet (fail)
  go_wp2
  go_quiet ((go_at_call 79; refine (C _).mono ?_; rintro e w2 ⟨rfl, rfl⟩; exact ⟨rfl, _, rfl⟩))
  go_wp2
  simp only [Exit.noGoto, Exit.inBlock, Exit.then]
  refine bodyPost_ret (results_tmp rfl _ _ _) rfl ?_
  exact ⟨rfl, by repeat (first | exact Below.refl _ _ | apply below_drew1 | apply pw_below_drewN)⟩
set_option maxHeartbeats 8000000 in
set_option maxRecDepth 100000 in
theorem strings_IndexRune.far3 (r : Int) (w : World) (c : UInt8) (h128 : 128 ≤ r) (hne : r ≠ 65533) (hv : Lib.validRune r = true) (hsz : (Utf8.encode r).size = 4)
    (hc : ∀ h : 3 < (Utf8.encode r).size, (Utf8.encode r)[3]'h = c) (hc128 : 128 ≤ c.toNat)
    (C : ∀ W : World, Calls Tryd.prog 79 #[.string ⟨#[43, 44, 45, 46, 47, 58, 61, 63]⟩, .int .u8 (c.toNat : Int)] W fun e w' => e = .returned (.int .i64 (-1)) ∧ w' = W) :
    Calls Tryd.prog 69 #[.string ⟨#[32, 39, 40, 41, 43, 44, 45, 46, 47, 58, 61, 63]⟩, .int .i32 r] w fun e w' => e = .returned (.int .i64 (-1)) ∧ Below w.heap.size w w' := by
  have e1 : decide ((0 : Int) ≤ r) = true := decide_eq_true (by omega)
  have e2 : decide (r < 128) = false := decide_eq_false (by omega)
  have e3 : (r == 65533) = false := beq_eq_false_iff_ne.2 hne
  have e4 : (r != 65533) = true := bne_iff_ne.2 hne
  have e6 : (((⟨#[32, 39, 40, 41, 43, 44, 45, 46, 47, 58, 61, 63]⟩ : ByteArray)[3].toNat : Int) != (c.toNat : Int)) = true := bne_iff_ne.2 (show (41 : Int) ≠ _ by omega)
  have hx : (⟨#[32, 39, 40, 41, 43, 44, 45, 46, 47, 58, 61, 63]⟩ : ByteArray).extract 4 12 = ⟨#[43, 44, 45, 46, 47, 58, 61, 63]⟩ := by rfl
  clear hne
  go_enter Tryd.func69, Tryd.ntmps69
  go_wp2_with (go_at_call 80; refine (Tryd.utf8_ValidRune _ _).mono ?_; rintro e w' ⟨rfl, rfl⟩)
  go_step3
  go_wp2
  refine wp_loop_rounds 2 ?_
  rw [rounds_succ]; go_wp2
  go_step3
  go_wp2
  go_quiet (fail)
  go_wp2
  go_quiet ((go_at_call 79; refine (C _).mono ?_; rintro e w2 ⟨rfl, rfl⟩; exact ⟨rfl, _, rfl⟩))
  go_wp2
  simp only [Exit.noGoto, Exit.inBlock, Exit.then]
  refine bodyPost_ret (results_tmp rfl _ _ _) rfl ?_
  exact ⟨rfl, by repeat (first | exact Below.refl _ _ | apply below_drew1 | apply pw_below_drewN)⟩
theorem strings_IndexRune.calls (a0 : ByteArray) (a1 : Int) (r : Int) (w : World) (h : strings_IndexRune.f a0 a1 = some r) :
    Calls Tryd.prog 69 #[.string a0, .int .i32 a1] w fun e w' => e = .returned (.int .i64 r) ∧ Below w.heap.size w w' := by
  unfold strings_IndexRune.f at h
  split at h
  · rename_i hc
    obtain rfl := Option.some.inj h
    refine (Tryd.strings_IndexRune_ascii a0 a1 w hc.1 hc.2).mono ?_
    rintro e w' ⟨rfl, rfl⟩
    exact ⟨rfl, Below.refl _ _⟩
  split at h
  · rename_i hc hd
    obtain rfl := Option.some.inj h
    obtain ⟨rfl, h128⟩ := hd
    have hcs : ∀ (s : ByteArray) (c : UInt8), (∀ b ∈ s.data.toList, b.toNat < 128) → 128 ≤ c.toNat → ∀ W : World, Calls Tryd.prog 79 #[.string s, .int .u8 (c.toNat : Int)] W fun e w' => e = .returned (.int .i64 (-1)) ∧ w' = W := by
      intro s c hs hc W
      refine (Tryd.strings_IndexByte s (c.toNat : Int) W).mono ?_
      rintro e w' ⟨rfl, rfl⟩
      refine ⟨?_, rfl⟩
      rw [show ((c.toNat : Int)).toNat.toUInt8 = c by simp, index_far _ _ hs hc]
    by_cases he : a1 = 65533
    · subst he
      exact strings_IndexRune.err w
    cases hv : Lib.validRune a1 with
    | false => exact strings_IndexRune.bad a1 w h128 he hv
    | true =>
      have hv2 : Utf8.valid a1 = true := by
        simp only [Lib.validRune, decide_eq_true_eq] at hv
        simp only [Utf8.valid, Bool.or_eq_true, Bool.and_eq_true, decide_eq_true_eq]
        omega
      obtain ⟨h2, h4, hl⟩ := encode_facts a1 hv2 h128
      rcases (by omega : (Utf8.encode a1).size = 2 ∨ (Utf8.encode a1).size = 3 ∨ (Utf8.encode a1).size = 4) with hs | hs | hs
      · have hb := hl (by omega)
        exact strings_IndexRune.far1 a1 w ((Utf8.encode a1)[1]'(by omega)) h128 he hv hs (fun _ => rfl) (by simpa [hs] using hb) (hcs _ _ (by decide) (by simpa [hs] using hb))
      · have hb := hl (by omega)
        exact strings_IndexRune.far2 a1 w ((Utf8.encode a1)[2]'(by omega)) h128 he hv hs (fun _ => rfl) (by simpa [hs] using hb) (hcs _ _ (by decide) (by simpa [hs] using hb))
      · have hb := hl (by omega)
        exact strings_IndexRune.far3 a1 w ((Utf8.encode a1)[3]'(by omega)) h128 he hv hs (fun _ => rfl) (by simpa [hs] using hb) (hcs _ _ (by decide) (by simpa [hs] using hb))
  · cases h

/-! ### strings_ContainsRune: function 59 -/
def strings_ContainsRune.f (a0 : ByteArray) (a1 : Int) : Option (Bool) := (strings_IndexRune.f a0 a1).bind fun t106 => (some (decide (t106 ≥ 0)))
set_option maxHeartbeats 8000000 in
set_option maxRecDepth 100000 in
theorem strings_ContainsRune.calls (a0 : ByteArray) (a1 : Int) (r : Bool) (w : World) (h : strings_ContainsRune.f a0 a1 = some r) :
    Calls Tryd.prog 59 #[.string a0, .int .i32 a1] w fun e w' => e = .returned (.bool r) ∧ Below w.heap.size w w' := by
  have HB := Aside0.mk (Below.refl w.heap.size w)
  have H : ((strings_IndexRune.f a0 a1).bind fun t106 => (some (decide (t106 ≥ 0)))) = some r := h
  clear h
  replace H := Option.bind_eq_some_iff.mp H
  obtain ⟨t106, A30, H⟩ := H
  replace H : (some (decide (t106 ≥ 0))) = some r := H
  have A3 := Aside0.mk A30
  clear A30
  obtain rfl := Option.some.inj H
  go_enter Tryd.func59, Tryd.ntmps59
  go_wp2_with (first | ((with_reducible refine gate_callee (f := 69) rfl ?_); refine goesL_ (some 7) rfl rfl Tryd.func69 (by kernel_rfl) rfl #[.string a0, .int .i32 a1] rfl (by (try simp only [List.map_toArray, List.map_cons, List.map_nil]); first | done | rfl | (simp only [List.length_drop, List.length_take]; rfl)) ?_; (with_reducible refine (strings_IndexRune.calls a0 a1 t106 _ A3.out).mono ?_); rintro e w4 ⟨rfl, hb⟩; refine ⟨_, rfl, ?_⟩; have n0_ := Aside0.mk (below_step (by repeat (first | (with_reducible first | exact HB.out | apply below_alloc | apply pw_below_drewN | apply below_drew1) | exact HB.out)) hb); clear HB; have HB := n0_; clear n0_; (try clear hb); (try clear hb2); (try clear hk); (try clear hi)))
  go_ret
  exact ⟨by first | rfl | (simp [errW_none, errW_some] <;> rfl) | (simp [*, errW_none, errW_some] <;> rfl), by repeat (first | (with_reducible first | exact HB.out | apply below_alloc | apply pw_below_drewN | apply below_drew1) | exact HB.out)⟩

end Go.Proofs.YtlocmcemfjfhiaaDoor.PStrsRight
