import Derived.Test.YtcbcojbhbhaimaaDoorPTreeTellsx0
import Derived.Test.YtcbcojbhbhaimaaDoorPTreeTellsx10
namespace Go.Proofs.YtcbcojbhbhaimaaDoor.PTreeTells
open Go.RowKit Go.Proofs.YtcbcojbhbhaimaaDoorW.PrintWords Go.Proofs.YtcbcojbhbhaimaaDoorW.PrintLast Go.Proofs.YtcbcojbhbhaimaaDoorW.PrintMore
attribute [local go_sem high] c_add c_eql c_neq
attribute [local go_sem] f_store_c f_store_f f_add f_toint f_fold_eq f_fold_ne f_fold_lt f_fold_gt f_fold_le f_fold_ge
attribute [local go_sem] str_leq str_gtr str_geq max2_int min2_int max_two min_two max_three min_three max_four min_four   -- for this text's walks alone
set_option linter.unusedVariables false
set_option linter.unusedSimpArgs false

/-! ### cr18_Bits: function 75 -/
mutual
def cr18_Bits.j0 : Nat → ByteArray → Int → Bool → Option (ByteArray × Bool)
 | 0, _, _, _ => none
 | k + 1, x0, x1, x21 => if x21 = true then (some ((⟨#[]⟩ : ByteArray), false)) else (cr18_Bits.l0 k x0 x1 1 0)
def cr18_Bits.l0 : Nat → ByteArray → Int → Int → Int → Option (ByteArray × Bool)
 | 0, _, _, _, _ => none
 | k + 1, x0, x1, x6, x7 => if x7 < x1 then (cr18_Bits.l0 k x0 x1 (wrap64 (2 * x6)) (wrap64 (x7 + 1))) else (if x0.toList = ([] : List UInt8) then ((cr01_Put.f k (IntKind.u64.wrap (x1)) 1).bind fun t318 => (if t318.size + x0.size ≤ 9223372036854775807 then (some (t318 ++ x0, true)) else (none))) else (if 0 ≤ (wrap64 ((x0.size : Int) - 1)) then (if (wrap64 ((x0.size : Int) - 1)) < (x0.size : Int) then (if x6 = 0 then (none) else (if (Int.tmod (wrap64 (bt x0 (wrap64 ((x0.size : Int) - 1)))) x6) = 0 then ((cr01_Put.f k (IntKind.u64.wrap (x1)) 1).bind fun t319 => (if t319.size + x0.size ≤ 9223372036854775807 then (some (t319 ++ x0, true)) else (none))) else (some ((⟨#[]⟩ : ByteArray), false)))) else (none)) else (none)))
end
def cr18_Bits.f (k : Nat) (a0 : ByteArray) (a1 : Int) : Option (ByteArray × Bool) := if a1 < 0 then (cr18_Bits.j0 k a0 a1 true) else (if a1 > 7 then (cr18_Bits.j0 k a0 a1 true) else (if a0.toList = ([] : List UInt8) then (cr18_Bits.j0 k a0 a1 (a1 != 0)) else (cr18_Bits.j0 k a0 a1 false)))
theorem cr18_Bits.mono_l : ∀ k, (∀ y0 y1 y2, LeO (cr18_Bits.j0 k y0 y1 y2) (cr18_Bits.j0 (k + 1) y0 y1 y2)) ∧ (∀ y0 y1 y2 y3, LeO (cr18_Bits.l0 k y0 y1 y2 y3) (cr18_Bits.l0 (k + 1) y0 y1 y2 y3))
 | 0 => ⟨fun _ _ _ r h => by simp [cr18_Bits.j0] at h, fun _ _ _ _ r h => by simp [cr18_Bits.l0] at h⟩
 | k + 1 => by
  obtain ⟨ih0, ih1⟩ := cr18_Bits.mono_l k
  refine ⟨?_, ?_⟩ <;> intros <;> first | unfold cr18_Bits.j0 | unfold cr18_Bits.l0
  all_goals repeat' first
  | (with_reducible first | exact ih0 _ _ _ | exact ih1 _ _ _ _ | exact cr01_Put.mono _ _ _ | exact LeO.refl _ | exact LeO.none _ | refine LeO.ite ?_ ?_ | refine LeO.bind ?_ (fun _ => ?_))
  | exact ih0 _ _ _
  | exact ih1 _ _ _ _
  | exact cr01_Put.mono _ _ _
  | exact LeO.none _
  | refine LeO.ite ?_ ?_
  | refine LeO.bind ?_ (fun _ => ?_)
theorem cr18_Bits.mono : ∀ a0 a1 k, LeO (cr18_Bits.f k a0 a1) (cr18_Bits.f (k + 1) a0 a1) := by
 intro a0 a1 k
 obtain ⟨ih0, ih1⟩ := cr18_Bits.mono_l k
 unfold cr18_Bits.f
 repeat' first
  | (with_reducible first | exact ih0 _ _ _ | exact ih1 _ _ _ _ | exact cr01_Put.mono _ _ _ | exact LeO.refl _ | exact LeO.none _ | refine LeO.ite ?_ ?_ | refine LeO.bind ?_ (fun _ => ?_))
  | exact ih0 _ _ _
  | exact ih1 _ _ _ _
  | exact cr01_Put.mono _ _ _
  | exact LeO.none _
  | refine LeO.ite ?_ ?_
  | refine LeO.bind ?_ (fun _ => ?_)
set_option maxHeartbeats 8000000 in
set_option maxRecDepth 100000 in
theorem cr18_Bits.calls (k : Nat) (a0 : ByteArray) (a1 : Int) (r1 : ByteArray) (r2 : Bool) (w : World) (h : cr18_Bits.f k a0 a1 = some (r1, r2)) :
 Calls Tryd.prog 75 #[.string a0, .int .i64 a1] w fun e w' => e = .returned (.tuple #[.string r1, .bool r2]) ∧ Below w.heap.size w w' := by
 have HB := Aside0.mk (Below.refl w.heap.size w)
 have H : (if a1 < 0 then (cr18_Bits.j0 k a0 a1 true) else (if a1 > 7 then (cr18_Bits.j0 k a0 a1 true) else (if a0.toList = ([] : List UInt8) then (cr18_Bits.j0 k a0 a1 (a1 != 0)) else (cr18_Bits.j0 k a0 a1 false)))) = some (r1, r2) := h
 clear h
 have HC3 := Aside0.mk H
 clear H
 go_enter Tryd.func75, Tryd.ntmps75
 go_upto_region 1 with (fail)
 go_cut [21] (fun v21 wc => ∃ (kq : Nat) (x21_2 : Bool), v21 = .bool x21_2 ∧ Aside0 (cr18_Bits.j0 kq a0 a1 x21_2 = some (r1, r2)) ∧ Aside0 (kq ≤ k) ∧ Aside0 (Below w.heap.size w wc))
 case first =>
  have H := HC3.out
  clear HC3
  by_cases c4 : a1 < 0
  case pos =>
   rw [if_pos c4] at H
   have c4b0 : decide (a1 < 0) = true := decide_eq_true c4
   clear c4
   (first | rw [c4b0] | (simp only [i64_w, i32_w]; rw [c4b0]) | rw [c4b1] | skip)
   have H' := Aside0.mk H
   clear H
   go_wp2
   go_meet
   case rel => exact ⟨_, (true), rsd, H', ⟨by first | omega | exact Nat.le_refl _⟩, ⟨blw⟩⟩
  rw [if_neg c4] at H
  have c4b0 : decide (a1 < 0) = false := decide_eq_false c4
  clear c4
  (first | rw [c4b0] | (simp only [i64_w, i32_w]; rw [c4b0]) | rw [c4b1] | skip)
  by_cases c5 : a1 > 7
  case pos =>
   rw [if_pos c5] at H
   have c5b0 : decide (7 < a1) = true := decide_eq_true c5
   clear c5
   have H' := Aside0.mk H
   clear H
   go_wp2
   go_meet
   case rel => exact ⟨_, (true), rsd, H', ⟨by first | omega | exact Nat.le_refl _⟩, ⟨blw⟩⟩
  rw [if_neg c5] at H
  have c5b0 : decide (7 < a1) = false := decide_eq_false c5
  clear c5
  by_cases c6 : a0.toList = ([] : List UInt8)
  case neg =>
   rw [if_neg c6] at H
   have c6b0 : (a0.toList == ([] : List UInt8)) = false := beq_eq_false_iff_ne.mpr c6
   have c6b1 : (a0.toList != ([] : List UInt8)) = true := bne_iff_ne.mpr c6
   have H' := Aside0.mk H
   clear H
   go_wp2
   go_meet
   case rel => exact ⟨_, (false), rsd, H', ⟨by first | omega | exact Nat.le_refl _⟩, ⟨blw⟩⟩
  rw [if_pos c6] at H
  have c6b0 : (a0.toList == ([] : List UInt8)) = true := beq_iff_eq.mpr c6
  have c6b1 : (a0.toList != ([] : List UInt8)) = false := bne_eq_false_iff_eq.mpr c6
  clear c6
  have H' := Aside0.mk H
  clear H
  go_wp2
  go_meet
  case rel => exact ⟨_, ((a1 != 0)), rsd, H', ⟨by first | omega | exact Nat.le_refl _⟩, ⟨blw⟩⟩
 case rest =>
  clear HC3
  try clear c4
  try clear c4b0
  try clear c4b1
  try clear c5
  try clear c5b0
  try clear c6
  try clear c6b0
  try clear c6b1
  obtain ⟨kq, x21_2, rfl, HA, HJ2, HB⟩ := hcut
  cases kq with
  | zero => exact absurd HA.out (by simp [cr18_Bits.j0])
  | succ kj2 =>
   have H := HA.out
   clear HA
   simp only [cr18_Bits.j0] at H
   by_cases c7 : x21_2 = true
   case pos =>
    subst c7
    have H1 : (some ((⟨#[]⟩ : ByteArray), false)) = some (r1, r2) := by rw [if_pos rfl] at H; exact H
    clear H
    have H := H1
    clear H1
    simp only [Option.some.injEq, Prod.mk.injEq] at H
    obtain ⟨rfl, rfl⟩ := H
    go_wp2
    go_ret2
    exact ⟨rse, blw⟩
   replace c7 := Bool.eq_false_iff.mpr c7
   subst c7
   have H1 : (cr18_Bits.l0 kj2 a0 a1 1 0) = some (r1, r2) := by rw [if_neg (show ¬ (false = true) by decide)] at H; exact H
   clear H
   have H := H1
   clear H1
   have H' := Aside0.mk H
   clear H
   go_wp2
   go_loopg [6, 7] kj2 (fun kq v6 v7 w' => ∃ (x6_2 : Int) (x7_2 : Int), v6 = .int .i64 x6_2 ∧ v7 = .int .i64 x7_2 ∧ Aside0 (cr18_Bits.l0 kq a0 a1 x6_2 x7_2 = some (r1, r2)) ∧ Aside0 (kq ≤ kj2) ∧ Aside0 (Below w.heap.size w w'))
   case atStart => exact ⟨(1), (0), rsd, rsd, H', ⟨Nat.le_refl _⟩, ⟨blw⟩⟩
   case round =>
    clear H'
    try clear c4
    try clear c4b0
    try clear c4b1
    try clear c5
    try clear c5b0
    try clear c6
    try clear c6b0
    try clear c6b1
    try clear c7
    obtain ⟨x6_2, x7_2, rfl, rfl, HA, HK2, HB⟩ := hrel
    cases gk with
    | zero => exact absurd HA.out (by simp [cr18_Bits.l0])
    | succ k2 =>
     have H := HA.out
     clear HA
     simp only [cr18_Bits.l0] at H
     by_cases c8 : x7_2 < a1
     case pos =>
      rw [if_pos c8] at H
      have c8b0 : decide (x7_2 < a1) = true := decide_eq_true c8
      clear c8
      have H' := Aside0.mk H
      clear H
      go_wp2
      go_roundg k2
      case measure => have := HJ2.out; have := HK2.out; omega
      case rel => exact ⟨(wrap64 (2 * x6_2)), (wrap64 (x7_2 + 1)), rsd, rsd, H', ⟨by have := HJ2.out; have := HK2.out; omega⟩, ⟨blw⟩⟩
     rw [if_neg c8] at H
     have c8b0 : decide (x7_2 < a1) = false := decide_eq_false c8
     clear c8
     by_cases c9 : a0.toList = ([] : List UInt8)
     case pos =>
      rw [if_pos c9] at H
      have c9b0 : (a0.toList == ([] : List UInt8)) = true := beq_iff_eq.mpr c9
      have c9b1 : (a0.toList != ([] : List UInt8)) = false := bne_eq_false_iff_eq.mpr c9
      clear c9
      replace H := Option.bind_eq_some_iff.mp H
      obtain ⟨t318, A100, H⟩ := H
      replace H : (if t318.size + a0.size ≤ 9223372036854775807 then (some (t318 ++ a0, true)) else (none)) = some (r1, r2) := H
      have A10 := Aside0.mk A100
      clear A100
      by_cases c11 : t318.size + a0.size ≤ 9223372036854775807
      case neg =>
       rw [if_neg c11] at H
       exact absurd H (by simp)
      rw [if_pos c11] at H
      have c11b0 := eq_true c11
      have c11b1 : decide (t318.size + a0.size ≤ 9223372036854775807) = true := decide_eq_true c11
      try have c11b2 : (9223372036854775807 < t318.size + a0.size) = False := eq_false (Nat.not_lt.2 c11)
      simp only [Option.some.injEq, Prod.mk.injEq] at H
      obtain ⟨rfl, rfl⟩ := H
      go_wp2_with (first | ((with_reducible refine gate_callee (f := 51) rfl ?_); refine goesL_ (some 44) rfl rfl Tryd.func51 (by kernel_rfl) rfl #[.int .u64 (IntKind.u64.wrap (a1)), .int .i64 1] rfl gargs ?_; (with_reducible refine (cr01_Put.calls k2 (IntKind.u64.wrap (a1)) 1 t318 _ A10.out).mono ?_); rintro e w12 ⟨rfl, hb⟩; refine ⟨_, rfl, ?_⟩; replace HB := Aside0.mk (below_step blw hb); (try clear hb); (try clear hb2); (try clear hk); (try clear hi)))
      go_ret2
      exact ⟨rse, blw⟩
     rw [if_neg c9] at H
     have c9b0 : (a0.toList == ([] : List UInt8)) = false := beq_eq_false_iff_ne.mpr c9
     have c9b1 : (a0.toList != ([] : List UInt8)) = true := bne_iff_ne.mpr c9
     obtain ⟨ji13, hji13⟩ : ∃ j_ : Int, (wrap64 ((a0.size : Int) - 1)) = j_ := ⟨_, rfl⟩
     replace H : (if 0 ≤ (ji13) then (if (ji13) < (a0.size : Int) then (if x6_2 = 0 then (none) else (if (Int.tmod (wrap64 (bt a0 (ji13))) x6_2) = 0 then ((cr01_Put.f k2 (IntKind.u64.wrap (a1)) 1).bind fun t319 => (if t319.size + a0.size ≤ 9223372036854775807 then (some (t319 ++ a0, true)) else (none))) else (some ((⟨#[]⟩ : ByteArray), false)))) else (none)) else (none)) = some (r1, r2) := by first | (rw [hji13] at H; exact H) | (simp only [hji13] at H ⊢; exact H)
     have hji13w : (IntKind.i64.wrap ((a0.size : Int) - 1)) = ji13 := (i64_w _).trans hji13
     by_cases c14 : 0 ≤ (ji13)
     case neg =>
      rw [if_neg c14] at H
      exact absurd H (by simp)
     rw [if_pos c14] at H
     have c14b0 : decide (0 ≤ (ji13)) = true := decide_eq_true c14
     clear c14
     by_cases c15 : (ji13) < (a0.size : Int)
     case neg =>
      rw [if_neg c15] at H
      exact absurd H (by simp)
     rw [if_pos c15] at H
     have c15b0 : decide ((ji13) < (a0.size : Int)) = true := decide_eq_true c15
     clear c15
     by_cases c17 : x6_2 = 0
     case pos =>
      rw [if_pos c17] at H
      exact absurd H (by simp)
     rw [if_neg c17] at H
     have c17b0 : (x6_2 == 0) = false := beq_eq_false_iff_ne.mpr c17
     have c17b1 : (x6_2 != 0) = true := bne_iff_ne.mpr c17
     by_cases c18 : (Int.tmod (wrap64 (bt a0 (ji13))) x6_2) = 0
     case neg =>
      rw [if_neg c18] at H
      have c18b0 : ((Int.tmod (wrap64 (bt a0 (ji13))) x6_2) == 0) = false := beq_eq_false_iff_ne.mpr c18
      have c18b1 : ((Int.tmod (wrap64 (bt a0 (ji13))) x6_2) != 0) = true := bne_iff_ne.mpr c18
      simp only [Option.some.injEq, Prod.mk.injEq] at H
      obtain ⟨rfl, rfl⟩ := H
      have p16 : 0 ≤ ((ji13) : Int) := odt
      have q16 : (ji13) < (a0.size : Int) := odt
      have hx16 := bt_at a0 (ji13)
      replace p16 := eq_true p16
      replace q16 := eq_true q16
      go_wp2
      go_ret2
      exact ⟨by first | rfl | (simp [errW_none, errW_some] <;> rfl) | (simp only [← hji13]; first | rfl | (simp [errW_none, errW_some] <;> rfl)) | (simp [*, errW_none, errW_some] <;> rfl), blw⟩
     rw [if_pos c18] at H
     have c18b0 : ((Int.tmod (wrap64 (bt a0 (ji13))) x6_2) == 0) = true := beq_iff_eq.mpr c18
     have c18b1 : ((Int.tmod (wrap64 (bt a0 (ji13))) x6_2) != 0) = false := bne_eq_false_iff_eq.mpr c18
     clear c18
     replace H := Option.bind_eq_some_iff.mp H
     obtain ⟨t319, A190, H⟩ := H
     replace H : (if t319.size + a0.size ≤ 9223372036854775807 then (some (t319 ++ a0, true)) else (none)) = some (r1, r2) := H
     have A19 := Aside0.mk A190
     clear A190
     by_cases c20 : t319.size + a0.size ≤ 9223372036854775807
     case neg =>
      rw [if_neg c20] at H
      exact absurd H (by simp)
     rw [if_pos c20] at H
     have c20b0 := eq_true c20
     have c20b1 : decide (t319.size + a0.size ≤ 9223372036854775807) = true := decide_eq_true c20
     try have c20b2 : (9223372036854775807 < t319.size + a0.size) = False := eq_false (Nat.not_lt.2 c20)
     simp only [Option.some.injEq, Prod.mk.injEq] at H
     obtain ⟨rfl, rfl⟩ := H
     have p16 : 0 ≤ ((ji13) : Int) := odt
     have q16 : (ji13) < (a0.size : Int) := odt
     have hx16 := bt_at a0 (ji13)
     replace p16 := eq_true p16
     replace q16 := eq_true q16
     go_wp2_with (first | ((with_reducible refine gate_callee (f := 51) rfl ?_); refine goesL_ (some 44) rfl rfl Tryd.func51 (by kernel_rfl) rfl #[.int .u64 (IntKind.u64.wrap (a1)), .int .i64 1] rfl gargs ?_; (with_reducible refine (cr01_Put.calls k2 (IntKind.u64.wrap (a1)) 1 t319 _ A19.out).mono ?_); rintro e w21 ⟨rfl, hb⟩; refine ⟨_, rfl, ?_⟩; replace HB := Aside0.mk (below_step blw hb); (try clear hb); (try clear hb2); (try clear hk); (try clear hi)))
     go_ret2
     exact ⟨by first | rfl | (simp [errW_none, errW_some] <;> rfl) | (simp only [← hji13]; first | rfl | (simp [errW_none, errW_some] <;> rfl)) | (simp [*, errW_none, errW_some] <;> rfl), blw⟩

/-! ### cr18_Unbits: function 64 -/
def cr18_Unbits.f (k : Nat) (a0 : ByteArray) : Option (ByteArray × Int × Bool) := if a0.toList = ([] : List UInt8) then (some ((⟨#[]⟩ : ByteArray), 0, false)) else (if 1 ≤ (a0.size : Int) then (if 0 < (a0.size : Int) then ((cr18_Bits.f k (a0.extract 1 a0.size) (wrap64 (bt a0 0))).bind fun bt320 => (if bt320.2 = true then (some (a0.extract 1 a0.size, wrap64 (bt a0 0), true)) else (some ((⟨#[]⟩ : ByteArray), 0, false)))) else (none)) else (none))
theorem cr18_Unbits.mono : ∀ a0 k, LeO (cr18_Unbits.f k a0) (cr18_Unbits.f (k + 1) a0) := by
 intro a0 k
 unfold cr18_Unbits.f
 repeat' first
  | (with_reducible first | exact cr18_Bits.mono _ _ _ | exact LeO.refl _ | exact LeO.none _ | refine LeO.ite ?_ ?_ | refine LeO.bind ?_ (fun _ => ?_))
  | exact cr18_Bits.mono _ _ _
  | exact LeO.none _
  | refine LeO.ite ?_ ?_
  | refine LeO.bind ?_ (fun _ => ?_)
def cr18_Unbits.T3 : Bool × List (List Nat × List Nat) := (true, [([], []), ([0], [0]), ([], []), ([2], [2]), ([3], [3]), ([1, 4], [1, 4]), ([5], [5]), ([6], [6]), ([6], [6]), ([7, 5, 0, 1, 2, 3, 4, 5, 6, 7], [7]), ([8, 9, 0, 1, 2, 3, 4, 5, 6, 7, 8, 9], [8])])
def cr18_Unbits.B3 : List Nat := [0, 1, 0, 4, 12, 31, 63, 127, 127, 255, 1023]
theorem cr18_Unbits.tab3 : rtab .any (opsOf Tryd.f64 3) = cr18_Unbits.T3 := by kernel_rfl
theorem cr18_Unbits.bits3 : waitsOk cr18_Unbits.T3.2 cr18_Unbits.B3 = true := by kernel_rfl
def cr18_Unbits.T6 : Bool × List (List Nat × List Nat) := (true, [([], []), ([0], [0]), ([], []), ([2], [2]), ([3], [3]), ([1, 0, 1], [1]), ([4, 5, 0, 1, 2, 3, 4, 5], [4]), ([6, 0, 1, 2, 3, 4, 5, 6], [])])
def cr18_Unbits.B6 : List Nat := [0, 1, 0, 4, 12, 3, 63, 127]
theorem cr18_Unbits.tab6 : rtab .any (opsOf Tryd.f64 6) = cr18_Unbits.T6 := by kernel_rfl
theorem cr18_Unbits.bits6 : waitsOk cr18_Unbits.T6.2 cr18_Unbits.B6 = true := by kernel_rfl
set_option maxHeartbeats 8000000 in
set_option maxRecDepth 100000 in
theorem cr18_Unbits.calls (k : Nat) (a0 : ByteArray) (r1 : ByteArray) (r2 : Int) (r3 : Bool) (w : World) (h : cr18_Unbits.f k a0 = some (r1, r2, r3)) :
 Calls Tryd.prog 64 #[.string a0] w fun e w' => e = .returned (.tuple #[.string r1, .int .i64 r2, .bool r3]) ∧ Below w.heap.size w w' := by
 have HB := Aside0.mk (Below.refl w.heap.size w)
 have H : (if a0.toList = ([] : List UInt8) then (some ((⟨#[]⟩ : ByteArray), 0, false)) else (if 1 ≤ (a0.size : Int) then (if 0 < (a0.size : Int) then ((cr18_Bits.f k (a0.extract 1 a0.size) (wrap64 (bt a0 0))).bind fun bt320 => (if bt320.2 = true then (some (a0.extract 1 a0.size, wrap64 (bt a0 0), true)) else (some ((⟨#[]⟩ : ByteArray), 0, false)))) else (none)) else (none))) = some (r1, r2, r3) := h
 clear h
 by_cases c2 : a0.toList = ([] : List UInt8)
 case pos =>
  rw [if_pos c2] at H
  have c2b0 : (a0.toList == ([] : List UInt8)) = true := beq_iff_eq.mpr c2
  have c2b1 : (a0.toList != ([] : List UInt8)) = false := bne_eq_false_iff_eq.mpr c2
  clear c2
  simp only [Option.some.injEq, Prod.mk.injEq] at H
  obtain ⟨rfl, rfl, rfl⟩ := H
  go_enter Tryd.func64, Tryd.ntmps64
  go_wp2
  go_ret3
  exact ⟨rse, blw⟩
 rw [if_neg c2] at H
 have c2b0 : (a0.toList == ([] : List UInt8)) = false := beq_eq_false_iff_ne.mpr c2
 have c2b1 : (a0.toList != ([] : List UInt8)) = true := bne_iff_ne.mpr c2
 by_cases c3 : 1 ≤ (a0.size : Int)
 case neg =>
  rw [if_neg c3] at H
  exact absurd H (by simp)
 rw [if_pos c3] at H
 have c3b0 := eq_true c3
 have c3b1 : decide (1 ≤ (a0.size : Int)) = true := decide_eq_true c3
 clear c3
 by_cases c4 : 0 < (a0.size : Int)
 case neg =>
  rw [if_neg c4] at H
  exact absurd H (by simp)
 rw [if_pos c4] at H
 have c4b0 : decide (0 < (a0.size : Int)) = true := decide_eq_true c4
 have c4b1 : decide (0 < a0.size) = true := decide_eq_true (by omega)
 clear c4
 replace H := Option.bind_eq_some_iff.mp H
 obtain ⟨⟨t320, t321⟩, A60, H⟩ := H
 replace H : (if t321 = true then (some (a0.extract 1 a0.size, wrap64 (bt a0 0), true)) else (some ((⟨#[]⟩ : ByteArray), 0, false))) = some (r1, r2, r3) := H
 have A6 := Aside0.mk A60
 clear A60
 by_cases c7 : t321 = true
 case neg =>
  replace c7 := Bool.eq_false_iff.mpr c7
  subst c7
  have H1 : (some ((⟨#[]⟩ : ByteArray), 0, false)) = some (r1, r2, r3) := by rw [if_neg (show ¬ (false = true) by decide)] at H; exact H
  clear H
  have H := H1
  clear H1
  simp only [Option.some.injEq, Prod.mk.injEq] at H
  obtain ⟨rfl, rfl, rfl⟩ := H
  go_enter Tryd.func64, Tryd.ntmps64
  try go_wp2
  have n0_ := Aside0.mk (below_drew1 HB.out)
  clear HB
  have HB := n0_
  clear n0_
  have p5 : 0 ≤ (0 : Int) := (by omega)
  have q5 : 0 < a0.size := (by have : (0 : Int) < (a0.size : Int) := odt; omega)
  have hx5 : ∀ h : 0 < a0.size, ((a0[0]'h).toNat : Int) = bt a0 0 := bt_at a0 0
  clear p5
  have qi5 : (0 < (a0.size : Int)) = True := eq_true odt
  replace q5 := eq_true q5
  refine start_ (n := 11) (S := fun w' => True) (ds := []) #[false, false, false, false, false, false, false, false, false, false, false] (by kernel_rfl) rfl rfl trivial (fun hHeld => ?_); refine with_tabW cr18_Unbits.tab3 cr18_Unbits.bits3 (fun HG_ HW_ => ?_)
  generalize w.drew = w13 at HB hHeld ⊢
  refine pu 0 (some 10) ?_
  refine pu 1 (some 11) ?_
  refine pu 2 (some 12) ?_
  refine take_ (i := 3) (N := some 13) (v := ?_) (a' := ?_) #[true, true, true, true, false, false, false, false, false, false, false] rfl rfl (take_ofW HG_.out HW_.out (by kernel_rfl)) (fun _ _ _ h => h) (Or.inl ⟨by rfl, ?_⟩) hHeld ?_ ?_
  rotate_left
  ·intro w' _
   go_simp
   with_reducible rfl
  rotate_left
  ·simp only [Act.put, List.setIfInBounds_toArray, List.set_cons_zero, List.set_cons_succ, i64_w, i32_w]
   rfl
  refine pu 4 (some 14) ?_
  refine one_ (i := 5) (N := some 15) #[true, true, true, true, true, true, false, false, false, false, false] rfl rfl (one_of HG_.out (by kernel_rfl)) (by decide) (fun K hK => ?_)
  refine goes_ Tryd.func75 (by kernel_rfl) rfl #[.string (a0.extract 1 a0.size), .int .i64 (wrap64 (bt a0 0))] (by rfl) rfl rfl gargs ?_
  with_reducible refine (cr18_Bits.calls k (a0.extract 1 a0.size) (wrap64 (bt a0 0)) t320 false _ A6.out).mono ?_
  rintro e w14 ⟨rfl, hb⟩
  refine ⟨_, rfl, ?_⟩
  have n0_ := Aside0.mk (below_step blw hb)
  clear HB
  have HB := n0_
  clear n0_
  (try clear hb)
  (try clear hb2)
  (try clear hk)
  (try clear hi)
  refine hK.out _ _ trivial (fun hHeld => ?_)
  clear hK K
  refine norm_ (a' := ?_) ?_ ?_
  rotate_left
  ·show Act.put _ (some 15) _ = _
   simp only [Act.put, List.setIfInBounds_toArray, List.set_cons_zero, List.set_cons_succ, i64_w, i32_w]
   rfl
  refine pu 6 (some 9) ?_
  refine pu 7 (some 16) ?_
  refine pu 8 (some 17) ?_
  refine pu 9 (some 5) ?_
  refine pu 10 (some 6) ?_
  refine done_ (done_of HG_.out (by kernel_rfl)) ?_
  try go_wp2
  go_ret3
  exact ⟨rse, blw⟩
 subst c7
 have H1 : (some (a0.extract 1 a0.size, wrap64 (bt a0 0), true)) = some (r1, r2, r3) := by rw [if_pos rfl] at H; exact H
 clear H
 have H := H1
 clear H1
 have c8b0 := eq_true (odt : 1 ≤ (a0.size : Int))
 simp only [Option.some.injEq, Prod.mk.injEq] at H
 obtain ⟨rfl, rfl, rfl⟩ := H
 go_enter Tryd.func64, Tryd.ntmps64
 try go_wp2
 have n0_ := Aside0.mk (below_drew1 HB.out)
 clear HB
 have HB := n0_
 clear n0_
 have p5 : 0 ≤ (0 : Int) := (by omega)
 have q5 : 0 < a0.size := (by have : (0 : Int) < (a0.size : Int) := odt; omega)
 have hx5 : ∀ h : 0 < a0.size, ((a0[0]'h).toNat : Int) = bt a0 0 := bt_at a0 0
 clear p5
 have qi5 : (0 < (a0.size : Int)) = True := eq_true odt
 replace q5 := eq_true q5
 refine start_ (n := 11) (S := fun w' => True) (ds := []) #[false, false, false, false, false, false, false, false, false, false, false] (by kernel_rfl) rfl rfl trivial (fun hHeld => ?_); refine with_tabW cr18_Unbits.tab3 cr18_Unbits.bits3 (fun HG_ HW_ => ?_)
 generalize w.drew = w10 at HB hHeld ⊢
 refine pu 0 (some 10) ?_
 refine pu 1 (some 11) ?_
 refine pu 2 (some 12) ?_
 refine take_ (i := 3) (N := some 13) (v := ?_) (a' := ?_) #[true, true, true, true, false, false, false, false, false, false, false] rfl rfl (take_ofW HG_.out HW_.out (by kernel_rfl)) (fun _ _ _ h => h) (Or.inl ⟨by rfl, ?_⟩) hHeld ?_ ?_
 rotate_left
 ·intro w' _
  go_simp
  with_reducible rfl
 rotate_left
 ·simp only [Act.put, List.setIfInBounds_toArray, List.set_cons_zero, List.set_cons_succ, i64_w, i32_w]
  rfl
 refine pu 4 (some 14) ?_
 refine one_ (i := 5) (N := some 15) #[true, true, true, true, true, true, false, false, false, false, false] rfl rfl (one_of HG_.out (by kernel_rfl)) (by decide) (fun K hK => ?_)
 refine goes_ Tryd.func75 (by kernel_rfl) rfl #[.string (a0.extract 1 a0.size), .int .i64 (wrap64 (bt a0 0))] (by rfl) rfl rfl gargs ?_
 with_reducible refine (cr18_Bits.calls k (a0.extract 1 a0.size) (wrap64 (bt a0 0)) t320 true _ A6.out).mono ?_
 rintro e w11 ⟨rfl, hb⟩
 refine ⟨_, rfl, ?_⟩
 have n0_ := Aside0.mk (below_step blw hb)
 clear HB
 have HB := n0_
 clear n0_
 (try clear hb)
 (try clear hb2)
 (try clear hk)
 (try clear hi)
 refine hK.out _ _ trivial (fun hHeld => ?_)
 clear hK K
 refine norm_ (a' := ?_) ?_ ?_
 rotate_left
 ·show Act.put _ (some 15) _ = _
  simp only [Act.put, List.setIfInBounds_toArray, List.set_cons_zero, List.set_cons_succ, i64_w, i32_w]
  rfl
 refine pu 6 (some 9) ?_
 refine pu 7 (some 16) ?_
 refine pu 8 (some 17) ?_
 refine pu 9 (some 5) ?_
 refine pu 10 (some 6) ?_
 refine done_ (done_of HG_.out (by kernel_rfl)) ?_
 try go_wp2
 have n0_ := Aside0.mk (below_drew1 HB.out)
 clear HB
 have HB := n0_
 clear n0_
 have p9 : 0 ≤ (0 : Int) := (by omega)
 have q9 : 0 < a0.size := (by have : (0 : Int) < (a0.size : Int) := odt; omega)
 have hx9 : ∀ h : 0 < a0.size, ((a0[0]'h).toNat : Int) = bt a0 0 := bt_at a0 0
 clear p9
 have qi9 : (0 < (a0.size : Int)) = True := eq_true odt
 replace q9 := eq_true q9
 refine start_ (n := 8) (S := fun w' => True) (ds := []) #[false, false, false, false, false, false, false, false] (by kernel_rfl) rfl rfl trivial (fun hHeld => ?_); refine with_tabW cr18_Unbits.tab6 cr18_Unbits.bits6 (fun HG_ HW_ => ?_)
 generalize w11.drew = w12 at HB hHeld ⊢
 refine pu 0 (some 20) ?_
 refine pu 1 (some 21) ?_
 refine pu 2 (some 22) ?_
 refine pu 5 (some 2) ?_
 refine take_ (i := 3) (N := some 23) (v := ?_) (a' := ?_) #[true, true, true, true, false, true, false, false] rfl rfl (take_ofW HG_.out HW_.out (by kernel_rfl)) (fun _ _ _ h => h) (Or.inl ⟨by rfl, ?_⟩) hHeld ?_ ?_
 rotate_left
 ·intro w' _
  go_simp
  with_reducible rfl
 rotate_left
 ·simp only [Act.put, List.setIfInBounds_toArray, List.set_cons_zero, List.set_cons_succ, i64_w, i32_w]
  rfl
 refine pu 4 (some 24) ?_
 refine pu 6 (some 3) ?_
 refine pu 7 (some 4) ?_
 refine done_ (done_of HG_.out (by kernel_rfl)) ?_
 try go_wp2
 go_ret3
 exact ⟨by first | rfl | (simp [errW_none, errW_some] <;> rfl) | (simp [*, errW_none, errW_some] <;> rfl) | (rw [w64] <;> first | rfl | omega), blw⟩

end Go.Proofs.YtcbcojbhbhaimaaDoor.PTreeTells
