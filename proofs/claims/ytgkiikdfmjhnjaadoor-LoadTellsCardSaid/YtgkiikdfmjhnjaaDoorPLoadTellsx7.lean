-- laid by a program out of the translation and of templates; not trusted: Lean checks it
import Derived.Test.YtgkiikdfmjhnjaaDoorPLoadTellsx0
import Derived.Test.YtgkiikdfmjhnjaaDoorPLoadTellsx3
import Derived.Test.YtgkiikdfmjhnjaaDoorPLoadTellsx4
import Derived.Test.YtgkiikdfmjhnjaaDoorPLoadTellsx5
import Derived.Test.YtgkiikdfmjhnjaaDoorPLoadTellsx6
namespace Go.Proofs.YtgkiikdfmjhnjaaDoor.PLoadTells
open Go.RowKit Go.Proofs.YtgkiikdfmjhnjaaDoorW.PrintWords Go.Proofs.YtgkiikdfmjhnjaaDoorW.PrintLast Go.Proofs.YtgkiikdfmjhnjaaDoorW.PrintMore
attribute [local go_sem] str_leq str_gtr str_geq max2_int min2_int max_two min_two max_three min_three max_four min_four   -- for this text's walks alone
set_option linter.unusedVariables false
set_option linter.unusedSimpArgs false

/-! ### clavigerref36_Take: function 9 -/
mutual
def clavigerref36_Take.j0 : Nat → ByteArray → ByteArray → Bool → Option (Int × ByteArray × ByteArray × Int)
  | 0, _, _, _ => none
  | k + 1, x0, x1, x22 => if x22 = true then (some (0, (⟨#[]⟩ : ByteArray), (⟨#[]⟩ : ByteArray), 5)) else (if 0 < (x1.size : Int) then (if 1 < (x1.size : Int) then (if (Int.tmod (wrap64 ((wrap64 (256 * (wrap64 (bt x1 0)))) + (wrap64 (bt x1 1)))) 8) = 0 then (clavigerref36_Take.j1 k x0 x1 (wrap64 ((wrap64 (256 * (wrap64 (bt x1 0)))) + (wrap64 (bt x1 1)))) (decide ((wrap64 (Int.tdiv (wrap64 ((wrap64 (256 * (wrap64 (bt x1 0)))) + (wrap64 (bt x1 1)))) 8)) > (wrap64 ((x1.size : Int) - 2))))) else (clavigerref36_Take.j1 k x0 x1 (wrap64 ((wrap64 (256 * (wrap64 (bt x1 0)))) + (wrap64 (bt x1 1)))) true)) else (none)) else (none))
def clavigerref36_Take.j1 : Nat → ByteArray → ByteArray → Int → Bool → Option (Int × ByteArray × ByteArray × Int)
  | 0, _, _, _, _ => none
  | k + 1, x0, x1, x8, x41 => if x41 = true then (some (0, (⟨#[]⟩ : ByteArray), (⟨#[]⟩ : ByteArray), 5)) else ((clavigerref23_Of.f k x0 (wrap64 (Int.tdiv x8 8))).bind fun bt226 => (if bt226.2 = true then (if 2 ≤ (wrap64 (2 + (wrap64 (Int.tdiv x8 8)))) then (if (wrap64 (2 + (wrap64 (Int.tdiv x8 8)))) ≤ (x1.size : Int) then ((clavigerref23_Check.f k bt226.1 (x1.extract 2 ((wrap64 (2 + (wrap64 (Int.tdiv x8 8)))) : Int).toNat)).bind fun t228 => (if t228 = 0 then (if 0 ≤ (wrap64 (2 + (wrap64 (Int.tdiv x8 8)))) then (some (bt226.1, x1.extract 2 ((wrap64 (2 + (wrap64 (Int.tdiv x8 8)))) : Int).toNat, x1.extract ((wrap64 (2 + (wrap64 (Int.tdiv x8 8)))) : Int).toNat x1.size, 0)) else (none)) else (some (0, (⟨#[]⟩ : ByteArray), (⟨#[]⟩ : ByteArray), t228)))) else (none)) else (none)) else (some (0, (⟨#[]⟩ : ByteArray), (⟨#[]⟩ : ByteArray), 8))))
end
def clavigerref36_Take.f (k : Nat) (a0 : ByteArray) (a1 : ByteArray) : Option (Int × ByteArray × ByteArray × Int) := (clavigerref36_Total.f k a0).bind fun t225 => (if t225 = 0 then (clavigerref36_Take.j0 k a0 a1 true) else (clavigerref36_Take.j0 k a0 a1 ((a1.size : Int) != t225)))
theorem clavigerref36_Take.mono_l : ∀ k, (∀ y0 y1 y2, LeO (clavigerref36_Take.j0 k y0 y1 y2) (clavigerref36_Take.j0 (k + 1) y0 y1 y2)) ∧ (∀ y0 y1 y2 y3, LeO (clavigerref36_Take.j1 k y0 y1 y2 y3) (clavigerref36_Take.j1 (k + 1) y0 y1 y2 y3))
  | 0 => ⟨fun _ _ _ r h => by simp [clavigerref36_Take.j0] at h, fun _ _ _ _ r h => by simp [clavigerref36_Take.j1] at h⟩
  | k + 1 => by
    obtain ⟨ih0, ih1⟩ := clavigerref36_Take.mono_l k
    refine ⟨?_, ?_⟩
    · intro y0 y1 y2
      unfold clavigerref36_Take.j0
      repeat' first
      | (with_reducible exact ih0 _ _ _)
      | (with_reducible exact ih1 _ _ _ _)
      | (with_reducible exact clavigerref23_Check.mono _ _ _)
      | (with_reducible exact clavigerref23_Of.mono _ _ _)
      | (with_reducible exact clavigerref36_Total.mono _ _)
      | (with_reducible exact LeO.refl _)
      | (with_reducible exact LeO.none _)
      | (with_reducible refine LeO.ite ?_ ?_)
      | (with_reducible refine LeO.bind ?_ (fun _ => ?_))
      | exact ih0 _ _ _
      | exact ih1 _ _ _ _
      | exact clavigerref23_Check.mono _ _ _
      | exact clavigerref23_Of.mono _ _ _
      | exact clavigerref36_Total.mono _ _
      | exact LeO.none _
      | refine LeO.ite ?_ ?_
      | refine LeO.bind ?_ (fun _ => ?_)
    · intro y0 y1 y2 y3
      unfold clavigerref36_Take.j1
      repeat' first
      | (with_reducible exact ih0 _ _ _)
      | (with_reducible exact ih1 _ _ _ _)
      | (with_reducible exact clavigerref23_Check.mono _ _ _)
      | (with_reducible exact clavigerref23_Of.mono _ _ _)
      | (with_reducible exact clavigerref36_Total.mono _ _)
      | (with_reducible exact LeO.refl _)
      | (with_reducible exact LeO.none _)
      | (with_reducible refine LeO.ite ?_ ?_)
      | (with_reducible refine LeO.bind ?_ (fun _ => ?_))
      | exact ih0 _ _ _
      | exact ih1 _ _ _ _
      | exact clavigerref23_Check.mono _ _ _
      | exact clavigerref23_Of.mono _ _ _
      | exact clavigerref36_Total.mono _ _
      | exact LeO.none _
      | refine LeO.ite ?_ ?_
      | refine LeO.bind ?_ (fun _ => ?_)
theorem clavigerref36_Take.mono : ∀ a0 a1 k, LeO (clavigerref36_Take.f k a0 a1) (clavigerref36_Take.f (k + 1) a0 a1) := by
  intro a0 a1 k
  obtain ⟨ih0, ih1⟩ := clavigerref36_Take.mono_l k
  unfold clavigerref36_Take.f
  repeat' first
      | (with_reducible exact ih0 _ _ _)
      | (with_reducible exact ih1 _ _ _ _)
      | (with_reducible exact clavigerref23_Check.mono _ _ _)
      | (with_reducible exact clavigerref23_Of.mono _ _ _)
      | (with_reducible exact clavigerref36_Total.mono _ _)
      | (with_reducible exact LeO.refl _)
      | (with_reducible exact LeO.none _)
      | (with_reducible refine LeO.ite ?_ ?_)
      | (with_reducible refine LeO.bind ?_ (fun _ => ?_))
      | exact ih0 _ _ _
      | exact ih1 _ _ _ _
      | exact clavigerref23_Check.mono _ _ _
      | exact clavigerref23_Of.mono _ _ _
      | exact clavigerref36_Total.mono _ _
      | exact LeO.none _
      | refine LeO.ite ?_ ?_
      | refine LeO.bind ?_ (fun _ => ?_)
set_option maxHeartbeats 8000000 in
set_option maxRecDepth 100000 in
theorem clavigerref36_Take.calls (k : Nat) (a0 : ByteArray) (a1 : ByteArray) (r1 : Int) (r2 : ByteArray) (r3 : ByteArray) (r4 : Int) (w : World) (h : clavigerref36_Take.f k a0 a1 = some (r1, r2, r3, r4)) :
    Calls Tryd.prog 9 #[.string a0, .string a1] w fun e w' => e = .returned (.tuple #[.int .i64 r1, .string r2, .string r3, .int .i64 r4]) ∧ Below w.heap.size w w' := by
  have HB := Aside0.mk (Below.refl w.heap.size w)
  have H : ((clavigerref36_Total.f k a0).bind fun t225 => (if t225 = 0 then (clavigerref36_Take.j0 k a0 a1 true) else (clavigerref36_Take.j0 k a0 a1 ((a1.size : Int) != t225)))) = some (r1, r2, r3, r4) := h
  clear h
  have HC3 := Aside0.mk H
  clear H
  go_enter Tryd.func9, Tryd.ntmps9
  go_upto_region 1 with (fail)
  repeat (go_quiet (fail); go_upto_region 1 with (fail))
  go_cut [22] (fun v22 wc => ∃ (kq : Nat) (x22_2 : Bool), v22 = .bool x22_2 ∧ Aside0 (clavigerref36_Take.j0 kq a0 a1 x22_2 = some (r1, r2, r3, r4)) ∧ Aside0 (kq ≤ k) ∧ Aside0 (Below w.heap.size w wc))
  case first =>
    have H := HC3.out
    clear HC3
    replace H := Option.bind_eq_some_iff.mp H
    obtain ⟨t225, A40, H⟩ := H
    replace H : (if t225 = 0 then (clavigerref36_Take.j0 k a0 a1 true) else (clavigerref36_Take.j0 k a0 a1 ((a1.size : Int) != t225))) = some (r1, r2, r3, r4) := H
    have A4 := Aside0.mk A40
    clear A40
    by_cases c5 : t225 = 0
    · rw [if_pos c5] at H
      have c5b0 : (t225 == 0) = true := beq_iff_eq.mpr c5
      have c5b1 : (t225 != 0) = false := bne_eq_false_iff_eq.mpr c5
      clear c5
      (first | rw [c5b0] | (simp only [i64_w, i32_w]; rw [c5b0]) | skip)
      have H' := Aside0.mk H
      clear H
      go_wp2_with (first | (go_at_call 11; (with_reducible refine (clavigerref36_Total.calls k a0 t225 _ A4.out).mono ?_); rintro e w' ⟨rfl, ⟨nd, rfl⟩⟩; (try first | exact ⟨rfl, _, World.drewN_drewN _ _ _⟩ | exact ⟨rfl, _, Eq.trans (World.drewN_drewN _ _ _) (congrArg (World.drewN _) (Nat.add_assoc _ _ _))⟩)))
      repeat (go_quiet (first | (go_at_call 11; (with_reducible refine (clavigerref36_Total.calls k a0 t225 _ A4.out).mono ?_); rintro e w' ⟨rfl, ⟨nd, rfl⟩⟩; (try first | exact ⟨rfl, _, World.drewN_drewN _ _ _⟩ | exact ⟨rfl, _, Eq.trans (World.drewN_drewN _ _ _) (congrArg (World.drewN _) (Nat.add_assoc _ _ _))⟩))); try go_wp2_with (first | (go_at_call 11; (with_reducible refine (clavigerref36_Total.calls k a0 t225 _ A4.out).mono ?_); rintro e w' ⟨rfl, ⟨nd, rfl⟩⟩; (try first | exact ⟨rfl, _, World.drewN_drewN _ _ _⟩ | exact ⟨rfl, _, Eq.trans (World.drewN_drewN _ _ _) (congrArg (World.drewN _) (Nat.add_assoc _ _ _))⟩))))
      go_meet
      case rel => exact ⟨_, (true), (by first | rfl | (simp; done) | (simp [*]; done)), H', ⟨by first | omega | exact Nat.le_refl _⟩, ⟨by repeat (first | (with_reducible first | exact HB.out | apply below_alloc | apply pw_below_drewN | apply below_drew1) | exact HB.out)⟩⟩
    · rw [if_neg c5] at H
      have c5b0 : (t225 == 0) = false := beq_eq_false_iff_ne.mpr c5
      have c5b1 : (t225 != 0) = true := bne_iff_ne.mpr c5
      (first | rw [c5b0] | (simp only [i64_w, i32_w]; rw [c5b0]) | skip)
      have H' := Aside0.mk H
      clear H
      go_wp2_with (first | (go_at_call 11; (with_reducible refine (clavigerref36_Total.calls k a0 t225 _ A4.out).mono ?_); rintro e w' ⟨rfl, ⟨nd, rfl⟩⟩; (try first | exact ⟨rfl, _, World.drewN_drewN _ _ _⟩ | exact ⟨rfl, _, Eq.trans (World.drewN_drewN _ _ _) (congrArg (World.drewN _) (Nat.add_assoc _ _ _))⟩)))
      repeat (go_quiet (first | (go_at_call 11; (with_reducible refine (clavigerref36_Total.calls k a0 t225 _ A4.out).mono ?_); rintro e w' ⟨rfl, ⟨nd, rfl⟩⟩; (try first | exact ⟨rfl, _, World.drewN_drewN _ _ _⟩ | exact ⟨rfl, _, Eq.trans (World.drewN_drewN _ _ _) (congrArg (World.drewN _) (Nat.add_assoc _ _ _))⟩))); try go_wp2_with (first | (go_at_call 11; (with_reducible refine (clavigerref36_Total.calls k a0 t225 _ A4.out).mono ?_); rintro e w' ⟨rfl, ⟨nd, rfl⟩⟩; (try first | exact ⟨rfl, _, World.drewN_drewN _ _ _⟩ | exact ⟨rfl, _, Eq.trans (World.drewN_drewN _ _ _) (congrArg (World.drewN _) (Nat.add_assoc _ _ _))⟩))))
      go_meet
      case rel => exact ⟨_, (((a1.size : Int) != t225)), (by first | rfl | (simp; done) | (simp [*]; done)), H', ⟨by first | omega | exact Nat.le_refl _⟩, ⟨by repeat (first | (with_reducible first | exact HB.out | apply below_alloc | apply pw_below_drewN | apply below_drew1) | exact HB.out)⟩⟩
  case rest =>
    clear HC3
    try clear p2
    try clear c5
    try clear c5b0
    try clear c5b1
    obtain ⟨kq, x22_2, rfl, HA, HJ2, HB⟩ := hcut
    cases kq with
    | zero => exact absurd HA.out (by simp [clavigerref36_Take.j0])
    | succ kj2 =>
      have H := HA.out
      clear HA
      simp only [clavigerref36_Take.j0] at H
      by_cases c6 : x22_2 = true
      · subst c6
        have H1 : (some (0, (⟨#[]⟩ : ByteArray), (⟨#[]⟩ : ByteArray), 5)) = some (r1, r2, r3, r4) := by rw [if_pos rfl] at H; exact H
        clear H
        have H := H1
        clear H1
        simp only [Option.some.injEq, Prod.mk.injEq] at H
        obtain ⟨rfl, rfl, rfl, rfl⟩ := H
        go_wp2
        repeat (go_quiet (fail); try go_wp2)
        refine bodyPost_ret (results_list (rs := [.tmp 4, .tmp 5, .tmp 6, .tmp 7]) rfl (by simp) (.tmp (.tmp (.tmp (.tmp .nil))))) rfl ?_
        exact ⟨by first | rfl | (simp [errW_none, errW_some] <;> rfl) | (simp [*, errW_none, errW_some] <;> rfl), by repeat (first | (with_reducible first | exact HB.out | apply below_alloc | apply pw_below_drewN | apply below_drew1) | exact HB.out)⟩
      · replace c6 := Bool.eq_false_iff.mpr c6
        subst c6
        have H1 : (if 0 < (a1.size : Int) then (if 1 < (a1.size : Int) then (if (Int.tmod (wrap64 ((wrap64 (256 * (wrap64 (bt a1 0)))) + (wrap64 (bt a1 1)))) 8) = 0 then (clavigerref36_Take.j1 kj2 a0 a1 (wrap64 ((wrap64 (256 * (wrap64 (bt a1 0)))) + (wrap64 (bt a1 1)))) (decide ((wrap64 (Int.tdiv (wrap64 ((wrap64 (256 * (wrap64 (bt a1 0)))) + (wrap64 (bt a1 1)))) 8)) > (wrap64 ((a1.size : Int) - 2))))) else (clavigerref36_Take.j1 kj2 a0 a1 (wrap64 ((wrap64 (256 * (wrap64 (bt a1 0)))) + (wrap64 (bt a1 1)))) true)) else (none)) else (none)) = some (r1, r2, r3, r4) := by rw [if_neg (show ¬ (false = true) by decide)] at H; exact H
        clear H
        have H := H1
        clear H1
        by_cases c7 : 0 < (a1.size : Int)
        · rw [if_pos c7] at H
          have c7b0 : decide (0 < (a1.size : Int)) = true := decide_eq_true c7
          have c7b1 : decide (0 < a1.size) = true := decide_eq_true (by omega)
          clear c7
          by_cases c9 : 1 < (a1.size : Int)
          · rw [if_pos c9] at H
            have c9b0 : decide (1 < (a1.size : Int)) = true := decide_eq_true c9
            have c9b1 : decide (1 < a1.size) = true := decide_eq_true (by omega)
            clear c9
            have HC11 := Aside0.mk H
            clear H
            have p8 : 0 ≤ (0 : Int) := (by omega)
            have q8 : 0 < a1.size := (by have : (0 : Int) < (a1.size : Int) := of_decide_eq_true (by first | (with_reducible assumption) | assumption); omega)
            have hx8 : ∀ h : 0 < a1.size, ((a1[0]'h).toNat : Int) = bt a1 0 := bt_at a1 0
            clear p8
            have qi8 : (0 < (a1.size : Int)) = True := eq_true (of_decide_eq_true (by first | (with_reducible assumption) | assumption))
            replace q8 := eq_true q8
            have p10 : 0 ≤ (1 : Int) := (by omega)
            have q10 : 1 < a1.size := (by have : (1 : Int) < (a1.size : Int) := of_decide_eq_true (by first | (with_reducible assumption) | assumption); omega)
            have hx10 : ∀ h : 1 < a1.size, ((a1[1]'h).toNat : Int) = bt a1 1 := bt_at a1 1
            clear p10
            have qi10 : (1 < (a1.size : Int)) = True := eq_true (of_decide_eq_true (by first | (with_reducible assumption) | assumption))
            replace q10 := eq_true q10
            go_upto_region 4 with (fail)
            repeat (go_quiet (fail); go_upto_region 4 with (fail))
            go_cut [41] (fun v41 wc => ∃ (kq : Nat) (x41_10 : Bool), v41 = .bool x41_10 ∧ Aside0 (clavigerref36_Take.j1 kq a0 a1 (wrap64 ((wrap64 (256 * (wrap64 (bt a1 0)))) + (wrap64 (bt a1 1)))) x41_10 = some (r1, r2, r3, r4)) ∧ Aside0 (kq ≤ kj2) ∧ Aside0 (Below w.heap.size w wc))
            case first =>
              have H := HC11.out
              clear HC11
              by_cases c12 : (Int.tmod (wrap64 ((wrap64 (256 * (wrap64 (bt a1 0)))) + (wrap64 (bt a1 1)))) 8) = 0
              · rw [if_pos c12] at H
                have c12b0 : ((Int.tmod (wrap64 ((wrap64 (256 * (wrap64 (bt a1 0)))) + (wrap64 (bt a1 1)))) 8) == 0) = true := beq_iff_eq.mpr c12
                have c12b1 : ((Int.tmod (wrap64 ((wrap64 (256 * (wrap64 (bt a1 0)))) + (wrap64 (bt a1 1)))) 8) != 0) = false := bne_eq_false_iff_eq.mpr c12
                clear c12
                (first | rw [c12b0] | (simp only [i64_w, i32_w]; rw [c12b0]) | skip)
                have H' := Aside0.mk H
                clear H
                go_wp2
                repeat (go_quiet (fail); try go_wp2)
                go_meet
                case rel => exact ⟨_, (decide ((wrap64 (Int.tdiv (wrap64 ((wrap64 (256 * (wrap64 (bt a1 0)))) + (wrap64 (bt a1 1)))) 8)) > (wrap64 ((a1.size : Int) - 2)))), (by first | rfl | (simp; done) | (simp [*]; done)), H', ⟨by have := HJ2.out; first | omega | exact Nat.le_refl _⟩, ⟨by repeat (first | (with_reducible first | exact HB.out | apply below_alloc | apply pw_below_drewN | apply below_drew1) | exact HB.out)⟩⟩
              · rw [if_neg c12] at H
                have c12b0 : ((Int.tmod (wrap64 ((wrap64 (256 * (wrap64 (bt a1 0)))) + (wrap64 (bt a1 1)))) 8) == 0) = false := beq_eq_false_iff_ne.mpr c12
                have c12b1 : ((Int.tmod (wrap64 ((wrap64 (256 * (wrap64 (bt a1 0)))) + (wrap64 (bt a1 1)))) 8) != 0) = true := bne_iff_ne.mpr c12
                (first | rw [c12b0] | (simp only [i64_w, i32_w]; rw [c12b0]) | skip)
                have H' := Aside0.mk H
                clear H
                go_wp2
                repeat (go_quiet (fail); try go_wp2)
                go_meet
                case rel => exact ⟨_, (true), (by first | rfl | (simp; done) | (simp [*]; done)), H', ⟨by have := HJ2.out; first | omega | exact Nat.le_refl _⟩, ⟨by repeat (first | (with_reducible first | exact HB.out | apply below_alloc | apply pw_below_drewN | apply below_drew1) | exact HB.out)⟩⟩
            case rest =>
              clear HC11
              try clear c1
              try clear p1
              try clear q1
              try clear hx1
              try clear qi1
              try clear p2
              try clear c5
              try clear c5b0
              try clear c5b1
              try clear c6
              try clear p6
              try clear c7
              try clear c7b0
              try clear c7b1
              try clear p8
              try clear q8
              try clear hx8
              try clear qi8
              try clear c9
              try clear c9b0
              try clear c9b1
              try clear p10
              try clear q10
              try clear hx10
              try clear qi10
              try clear c12
              try clear c12b0
              try clear c12b1
              try clear p10
              try clear p2
              try clear p8
              try clear q10
              try clear q8
              obtain ⟨kq, x41_10, rfl, HA, HJ10, HB⟩ := hcut
              cases kq with
              | zero => exact absurd HA.out (by simp [clavigerref36_Take.j1])
              | succ kj10 =>
                have H := HA.out
                clear HA
                simp only [clavigerref36_Take.j1] at H
                by_cases c13 : x41_10 = true
                · subst c13
                  have H1 : (some (0, (⟨#[]⟩ : ByteArray), (⟨#[]⟩ : ByteArray), 5)) = some (r1, r2, r3, r4) := by rw [if_pos rfl] at H; exact H
                  clear H
                  have H := H1
                  clear H1
                  simp only [Option.some.injEq, Prod.mk.injEq] at H
                  obtain ⟨rfl, rfl, rfl, rfl⟩ := H
                  go_wp2
                  repeat (go_quiet (fail); try go_wp2)
                  refine bodyPost_ret (results_list (rs := [.tmp 4, .tmp 5, .tmp 6, .tmp 7]) rfl (by simp) (.tmp (.tmp (.tmp (.tmp .nil))))) rfl ?_
                  exact ⟨by first | rfl | (simp [errW_none, errW_some] <;> rfl) | (simp [*, errW_none, errW_some] <;> rfl), by repeat (first | (with_reducible first | exact HB.out | apply below_alloc | apply pw_below_drewN | apply below_drew1) | exact HB.out)⟩
                · replace c13 := Bool.eq_false_iff.mpr c13
                  subst c13
                  have H1 : ((clavigerref23_Of.f kj10 a0 (wrap64 (Int.tdiv (wrap64 ((wrap64 (256 * (wrap64 (bt a1 0)))) + (wrap64 (bt a1 1)))) 8))).bind fun bt226 => (if bt226.2 = true then (if 2 ≤ (wrap64 (2 + (wrap64 (Int.tdiv (wrap64 ((wrap64 (256 * (wrap64 (bt a1 0)))) + (wrap64 (bt a1 1)))) 8)))) then (if (wrap64 (2 + (wrap64 (Int.tdiv (wrap64 ((wrap64 (256 * (wrap64 (bt a1 0)))) + (wrap64 (bt a1 1)))) 8)))) ≤ (a1.size : Int) then ((clavigerref23_Check.f kj10 bt226.1 (a1.extract 2 ((wrap64 (2 + (wrap64 (Int.tdiv (wrap64 ((wrap64 (256 * (wrap64 (bt a1 0)))) + (wrap64 (bt a1 1)))) 8)))) : Int).toNat)).bind fun t228 => (if t228 = 0 then (if 0 ≤ (wrap64 (2 + (wrap64 (Int.tdiv (wrap64 ((wrap64 (256 * (wrap64 (bt a1 0)))) + (wrap64 (bt a1 1)))) 8)))) then (some (bt226.1, a1.extract 2 ((wrap64 (2 + (wrap64 (Int.tdiv (wrap64 ((wrap64 (256 * (wrap64 (bt a1 0)))) + (wrap64 (bt a1 1)))) 8)))) : Int).toNat, a1.extract ((wrap64 (2 + (wrap64 (Int.tdiv (wrap64 ((wrap64 (256 * (wrap64 (bt a1 0)))) + (wrap64 (bt a1 1)))) 8)))) : Int).toNat a1.size, 0)) else (none)) else (some (0, (⟨#[]⟩ : ByteArray), (⟨#[]⟩ : ByteArray), t228)))) else (none)) else (none)) else (some (0, (⟨#[]⟩ : ByteArray), (⟨#[]⟩ : ByteArray), 8)))) = some (r1, r2, r3, r4) := by rw [if_neg (show ¬ (false = true) by decide)] at H; exact H
                  clear H
                  have H := H1
                  clear H1
                  replace H := Option.bind_eq_some_iff.mp H
                  obtain ⟨⟨t226, t227⟩, A140, H⟩ := H
                  replace H : (if t227 = true then (if 2 ≤ (wrap64 (2 + (wrap64 (Int.tdiv (wrap64 ((wrap64 (256 * (wrap64 (bt a1 0)))) + (wrap64 (bt a1 1)))) 8)))) then (if (wrap64 (2 + (wrap64 (Int.tdiv (wrap64 ((wrap64 (256 * (wrap64 (bt a1 0)))) + (wrap64 (bt a1 1)))) 8)))) ≤ (a1.size : Int) then ((clavigerref23_Check.f kj10 t226 (a1.extract 2 ((wrap64 (2 + (wrap64 (Int.tdiv (wrap64 ((wrap64 (256 * (wrap64 (bt a1 0)))) + (wrap64 (bt a1 1)))) 8)))) : Int).toNat)).bind fun t228 => (if t228 = 0 then (if 0 ≤ (wrap64 (2 + (wrap64 (Int.tdiv (wrap64 ((wrap64 (256 * (wrap64 (bt a1 0)))) + (wrap64 (bt a1 1)))) 8)))) then (some (t226, a1.extract 2 ((wrap64 (2 + (wrap64 (Int.tdiv (wrap64 ((wrap64 (256 * (wrap64 (bt a1 0)))) + (wrap64 (bt a1 1)))) 8)))) : Int).toNat, a1.extract ((wrap64 (2 + (wrap64 (Int.tdiv (wrap64 ((wrap64 (256 * (wrap64 (bt a1 0)))) + (wrap64 (bt a1 1)))) 8)))) : Int).toNat a1.size, 0)) else (none)) else (some (0, (⟨#[]⟩ : ByteArray), (⟨#[]⟩ : ByteArray), t228)))) else (none)) else (none)) else (some (0, (⟨#[]⟩ : ByteArray), (⟨#[]⟩ : ByteArray), 8))) = some (r1, r2, r3, r4) := H
                  have A14 := Aside0.mk A140
                  clear A140
                  by_cases c15 : t227 = true
                  · subst c15
                    have H1 : (if 2 ≤ (wrap64 (2 + (wrap64 (Int.tdiv (wrap64 ((wrap64 (256 * (wrap64 (bt a1 0)))) + (wrap64 (bt a1 1)))) 8)))) then (if (wrap64 (2 + (wrap64 (Int.tdiv (wrap64 ((wrap64 (256 * (wrap64 (bt a1 0)))) + (wrap64 (bt a1 1)))) 8)))) ≤ (a1.size : Int) then ((clavigerref23_Check.f kj10 t226 (a1.extract 2 ((wrap64 (2 + (wrap64 (Int.tdiv (wrap64 ((wrap64 (256 * (wrap64 (bt a1 0)))) + (wrap64 (bt a1 1)))) 8)))) : Int).toNat)).bind fun t228 => (if t228 = 0 then (if 0 ≤ (wrap64 (2 + (wrap64 (Int.tdiv (wrap64 ((wrap64 (256 * (wrap64 (bt a1 0)))) + (wrap64 (bt a1 1)))) 8)))) then (some (t226, a1.extract 2 ((wrap64 (2 + (wrap64 (Int.tdiv (wrap64 ((wrap64 (256 * (wrap64 (bt a1 0)))) + (wrap64 (bt a1 1)))) 8)))) : Int).toNat, a1.extract ((wrap64 (2 + (wrap64 (Int.tdiv (wrap64 ((wrap64 (256 * (wrap64 (bt a1 0)))) + (wrap64 (bt a1 1)))) 8)))) : Int).toNat a1.size, 0)) else (none)) else (some (0, (⟨#[]⟩ : ByteArray), (⟨#[]⟩ : ByteArray), t228)))) else (none)) else (none)) = some (r1, r2, r3, r4) := by rw [if_pos rfl] at H; exact H
                    clear H
                    have H := H1
                    clear H1
                    by_cases c16 : 2 ≤ (wrap64 (2 + (wrap64 (Int.tdiv (wrap64 ((wrap64 (256 * (wrap64 (bt a1 0)))) + (wrap64 (bt a1 1)))) 8))))
                    · rw [if_pos c16] at H
                      have c16b0 := eq_true c16
                      have c16b1 : decide (2 ≤ (wrap64 (2 + (wrap64 (Int.tdiv (wrap64 ((wrap64 (256 * (wrap64 (bt a1 0)))) + (wrap64 (bt a1 1)))) 8))))) = true := decide_eq_true c16
                      by_cases c17 : (wrap64 (2 + (wrap64 (Int.tdiv (wrap64 ((wrap64 (256 * (wrap64 (bt a1 0)))) + (wrap64 (bt a1 1)))) 8)))) ≤ (a1.size : Int)
                      · rw [if_pos c17] at H
                        have c17b0 := eq_true c17
                        have c17b1 : decide ((wrap64 (2 + (wrap64 (Int.tdiv (wrap64 ((wrap64 (256 * (wrap64 (bt a1 0)))) + (wrap64 (bt a1 1)))) 8)))) ≤ (a1.size : Int)) = true := decide_eq_true c17
                        replace H := Option.bind_eq_some_iff.mp H
                        obtain ⟨t228, A180, H⟩ := H
                        replace H : (if t228 = 0 then (if 0 ≤ (wrap64 (2 + (wrap64 (Int.tdiv (wrap64 ((wrap64 (256 * (wrap64 (bt a1 0)))) + (wrap64 (bt a1 1)))) 8)))) then (some (t226, a1.extract 2 ((wrap64 (2 + (wrap64 (Int.tdiv (wrap64 ((wrap64 (256 * (wrap64 (bt a1 0)))) + (wrap64 (bt a1 1)))) 8)))) : Int).toNat, a1.extract ((wrap64 (2 + (wrap64 (Int.tdiv (wrap64 ((wrap64 (256 * (wrap64 (bt a1 0)))) + (wrap64 (bt a1 1)))) 8)))) : Int).toNat a1.size, 0)) else (none)) else (some (0, (⟨#[]⟩ : ByteArray), (⟨#[]⟩ : ByteArray), t228))) = some (r1, r2, r3, r4) := H
                        have A18 := Aside0.mk A180
                        clear A180
                        by_cases c19 : t228 = 0
                        · rw [if_pos c19] at H
                          have c19b0 : (t228 == 0) = true := beq_iff_eq.mpr c19
                          have c19b1 : (t228 != 0) = false := bne_eq_false_iff_eq.mpr c19
                          clear c19
                          have c20b0 := eq_true (of_decide_eq_true (by first | (with_reducible assumption) | assumption) : 2 ≤ (wrap64 (2 + (wrap64 (Int.tdiv (wrap64 ((wrap64 (256 * (wrap64 (bt a1 0)))) + (wrap64 (bt a1 1)))) 8)))))
                          have c21b0 := eq_true (of_decide_eq_true (by first | (with_reducible assumption) | assumption) : (wrap64 (2 + (wrap64 (Int.tdiv (wrap64 ((wrap64 (256 * (wrap64 (bt a1 0)))) + (wrap64 (bt a1 1)))) 8)))) ≤ (a1.size : Int))
                          obtain ⟨ji22, hji22⟩ : ∃ j_ : Int, (wrap64 (2 + (wrap64 (Int.tdiv (wrap64 ((wrap64 (256 * (wrap64 (bt a1 0)))) + (wrap64 (bt a1 1)))) 8)))) = j_ := ⟨_, rfl⟩
                          replace H : (if 0 ≤ (ji22) then (some (t226, a1.extract 2 ((ji22) : Int).toNat, a1.extract ((ji22) : Int).toNat a1.size, 0)) else (none)) = some (r1, r2, r3, r4) := by first | (rw [hji22] at H; exact H) | (simp only [hji22] at H ⊢; exact H)
                          (try rw [hji22] at c16b0)
                          (try rw [hji22] at c16b1)
                          (try rw [hji22] at c16)
                          (try rw [hji22] at c17b0)
                          (try rw [hji22] at c17b1)
                          (try rw [hji22] at c17)
                          (try rw [hji22] at A14)
                          (try rw [hji22] at A18)
                          have hji22w : (IntKind.i64.wrap (2 + (wrap64 (Int.tdiv (wrap64 ((wrap64 (256 * (wrap64 (bt a1 0)))) + (wrap64 (bt a1 1)))) 8)))) = ji22 := (i64_w _).trans hji22
                          by_cases c23 : 0 ≤ (ji22)
                          · rw [if_pos c23] at H
                            have c23b0 := eq_true c23
                            have c23b1 : decide (0 ≤ (ji22)) = true := decide_eq_true c23
                            clear c23
                            have c24b0 := eq_true (of_decide_eq_true (by first | (with_reducible assumption) | assumption) : (ji22) ≤ (a1.size : Int))
                            simp only [Option.some.injEq, Prod.mk.injEq] at H
                            obtain ⟨rfl, rfl, rfl, rfl⟩ := H
                            go_wp2_with (first | (go_at_call 22; (with_reducible refine (clavigerref23_Of.calls kj10 a0 (wrap64 (Int.tdiv (wrap64 ((wrap64 (256 * (wrap64 (bt a1 0)))) + (wrap64 (bt a1 1)))) 8)) t226 true _ A14.out).mono ?_); rintro e w' ⟨rfl, ⟨nd, rfl⟩⟩; (try first | exact ⟨rfl, _, World.drewN_drewN _ _ _⟩ | exact ⟨rfl, _, Eq.trans (World.drewN_drewN _ _ _) (congrArg (World.drewN _) (Nat.add_assoc _ _ _))⟩)) | (go_at_call 18; (with_reducible refine (clavigerref23_Check.calls kj10 t226 (a1.extract 2 ((ji22) : Int).toNat) t228 _ A18.out).mono ?_); rintro e w25 ⟨rfl, hb⟩; have n0_ := Aside0.mk (below_step (by repeat (first | (with_reducible first | exact HB.out | apply below_alloc | apply pw_below_drewN | apply below_drew1) | exact HB.out)) hb); clear HB; have HB := n0_; clear n0_; (try clear hb); (try clear hb2); (try clear hk); (try clear hi)))
                            repeat (go_quiet (first | (go_at_call 22; (with_reducible refine (clavigerref23_Of.calls kj10 a0 (wrap64 (Int.tdiv (wrap64 ((wrap64 (256 * (wrap64 (bt a1 0)))) + (wrap64 (bt a1 1)))) 8)) t226 true _ A14.out).mono ?_); rintro e w' ⟨rfl, ⟨nd, rfl⟩⟩; (try first | exact ⟨rfl, _, World.drewN_drewN _ _ _⟩ | exact ⟨rfl, _, Eq.trans (World.drewN_drewN _ _ _) (congrArg (World.drewN _) (Nat.add_assoc _ _ _))⟩)) | (go_at_call 18; (with_reducible refine (clavigerref23_Check.calls kj10 t226 (a1.extract 2 ((ji22) : Int).toNat) t228 _ A18.out).mono ?_); rintro e w25 ⟨rfl, hb⟩; have n0_ := Aside0.mk (below_step (by repeat (first | (with_reducible first | exact HB.out | apply below_alloc | apply pw_below_drewN | apply below_drew1) | exact HB.out)) hb); clear HB; have HB := n0_; clear n0_; (try clear hb); (try clear hb2); (try clear hk); (try clear hi))); try go_wp2_with (first | (go_at_call 22; (with_reducible refine (clavigerref23_Of.calls kj10 a0 (wrap64 (Int.tdiv (wrap64 ((wrap64 (256 * (wrap64 (bt a1 0)))) + (wrap64 (bt a1 1)))) 8)) t226 true _ A14.out).mono ?_); rintro e w' ⟨rfl, ⟨nd, rfl⟩⟩; (try first | exact ⟨rfl, _, World.drewN_drewN _ _ _⟩ | exact ⟨rfl, _, Eq.trans (World.drewN_drewN _ _ _) (congrArg (World.drewN _) (Nat.add_assoc _ _ _))⟩)) | (go_at_call 18; (with_reducible refine (clavigerref23_Check.calls kj10 t226 (a1.extract 2 ((ji22) : Int).toNat) t228 _ A18.out).mono ?_); rintro e w25 ⟨rfl, hb⟩; have n0_ := Aside0.mk (below_step (by repeat (first | (with_reducible first | exact HB.out | apply below_alloc | apply pw_below_drewN | apply below_drew1) | exact HB.out)) hb); clear HB; have HB := n0_; clear n0_; (try clear hb); (try clear hb2); (try clear hk); (try clear hi))))
                            refine bodyPost_ret (results_list (rs := [.tmp 4, .tmp 5, .tmp 6, .tmp 7]) rfl (by simp) (.tmp (.tmp (.tmp (.tmp .nil))))) rfl ?_
                            exact ⟨by first | rfl | (simp [errW_none, errW_some] <;> rfl) | (simp only [← hji22]; first | rfl | (simp [errW_none, errW_some] <;> rfl)) | (simp [*, errW_none, errW_some] <;> rfl), by repeat (first | (with_reducible first | exact HB.out | apply below_alloc | apply pw_below_drewN | apply below_drew1) | exact HB.out)⟩
                          · rw [if_neg c23] at H
                            exact absurd H (by simp)
                        · rw [if_neg c19] at H
                          have c19b0 : (t228 == 0) = false := beq_eq_false_iff_ne.mpr c19
                          have c19b1 : (t228 != 0) = true := bne_iff_ne.mpr c19
                          simp only [Option.some.injEq, Prod.mk.injEq] at H
                          obtain ⟨rfl, rfl, rfl, rfl⟩ := H
                          go_wp2_with (first | (go_at_call 22; (with_reducible refine (clavigerref23_Of.calls kj10 a0 (wrap64 (Int.tdiv (wrap64 ((wrap64 (256 * (wrap64 (bt a1 0)))) + (wrap64 (bt a1 1)))) 8)) t226 true _ A14.out).mono ?_); rintro e w' ⟨rfl, ⟨nd, rfl⟩⟩; (try first | exact ⟨rfl, _, World.drewN_drewN _ _ _⟩ | exact ⟨rfl, _, Eq.trans (World.drewN_drewN _ _ _) (congrArg (World.drewN _) (Nat.add_assoc _ _ _))⟩)) | (go_at_call 18; (with_reducible refine (clavigerref23_Check.calls kj10 t226 (a1.extract 2 ((wrap64 (2 + (wrap64 (Int.tdiv (wrap64 ((wrap64 (256 * (wrap64 (bt a1 0)))) + (wrap64 (bt a1 1)))) 8)))) : Int).toNat) t228 _ A18.out).mono ?_); rintro e w26 ⟨rfl, hb⟩; have n0_ := Aside0.mk (below_step (by repeat (first | (with_reducible first | exact HB.out | apply below_alloc | apply pw_below_drewN | apply below_drew1) | exact HB.out)) hb); clear HB; have HB := n0_; clear n0_; (try clear hb); (try clear hb2); (try clear hk); (try clear hi)))
                          repeat (go_quiet (first | (go_at_call 22; (with_reducible refine (clavigerref23_Of.calls kj10 a0 (wrap64 (Int.tdiv (wrap64 ((wrap64 (256 * (wrap64 (bt a1 0)))) + (wrap64 (bt a1 1)))) 8)) t226 true _ A14.out).mono ?_); rintro e w' ⟨rfl, ⟨nd, rfl⟩⟩; (try first | exact ⟨rfl, _, World.drewN_drewN _ _ _⟩ | exact ⟨rfl, _, Eq.trans (World.drewN_drewN _ _ _) (congrArg (World.drewN _) (Nat.add_assoc _ _ _))⟩)) | (go_at_call 18; (with_reducible refine (clavigerref23_Check.calls kj10 t226 (a1.extract 2 ((wrap64 (2 + (wrap64 (Int.tdiv (wrap64 ((wrap64 (256 * (wrap64 (bt a1 0)))) + (wrap64 (bt a1 1)))) 8)))) : Int).toNat) t228 _ A18.out).mono ?_); rintro e w26 ⟨rfl, hb⟩; have n0_ := Aside0.mk (below_step (by repeat (first | (with_reducible first | exact HB.out | apply below_alloc | apply pw_below_drewN | apply below_drew1) | exact HB.out)) hb); clear HB; have HB := n0_; clear n0_; (try clear hb); (try clear hb2); (try clear hk); (try clear hi))); try go_wp2_with (first | (go_at_call 22; (with_reducible refine (clavigerref23_Of.calls kj10 a0 (wrap64 (Int.tdiv (wrap64 ((wrap64 (256 * (wrap64 (bt a1 0)))) + (wrap64 (bt a1 1)))) 8)) t226 true _ A14.out).mono ?_); rintro e w' ⟨rfl, ⟨nd, rfl⟩⟩; (try first | exact ⟨rfl, _, World.drewN_drewN _ _ _⟩ | exact ⟨rfl, _, Eq.trans (World.drewN_drewN _ _ _) (congrArg (World.drewN _) (Nat.add_assoc _ _ _))⟩)) | (go_at_call 18; (with_reducible refine (clavigerref23_Check.calls kj10 t226 (a1.extract 2 ((wrap64 (2 + (wrap64 (Int.tdiv (wrap64 ((wrap64 (256 * (wrap64 (bt a1 0)))) + (wrap64 (bt a1 1)))) 8)))) : Int).toNat) t228 _ A18.out).mono ?_); rintro e w26 ⟨rfl, hb⟩; have n0_ := Aside0.mk (below_step (by repeat (first | (with_reducible first | exact HB.out | apply below_alloc | apply pw_below_drewN | apply below_drew1) | exact HB.out)) hb); clear HB; have HB := n0_; clear n0_; (try clear hb); (try clear hb2); (try clear hk); (try clear hi))))
                          refine bodyPost_ret (results_list (rs := [.tmp 4, .tmp 5, .tmp 6, .tmp 7]) rfl (by simp) (.tmp (.tmp (.tmp (.tmp .nil))))) rfl ?_
                          exact ⟨by first | rfl | (simp [errW_none, errW_some] <;> rfl) | (simp [*, errW_none, errW_some] <;> rfl), by repeat (first | (with_reducible first | exact HB.out | apply below_alloc | apply pw_below_drewN | apply below_drew1) | exact HB.out)⟩
                      · rw [if_neg c17] at H
                        exact absurd H (by simp)
                    · rw [if_neg c16] at H
                      exact absurd H (by simp)
                  · replace c15 := Bool.eq_false_iff.mpr c15
                    subst c15
                    have H1 : (some (0, (⟨#[]⟩ : ByteArray), (⟨#[]⟩ : ByteArray), 8)) = some (r1, r2, r3, r4) := by rw [if_neg (show ¬ (false = true) by decide)] at H; exact H
                    clear H
                    have H := H1
                    clear H1
                    simp only [Option.some.injEq, Prod.mk.injEq] at H
                    obtain ⟨rfl, rfl, rfl, rfl⟩ := H
                    go_wp2_with (first | (go_at_call 22; (with_reducible refine (clavigerref23_Of.calls kj10 a0 (wrap64 (Int.tdiv (wrap64 ((wrap64 (256 * (wrap64 (bt a1 0)))) + (wrap64 (bt a1 1)))) 8)) t226 false _ A14.out).mono ?_); rintro e w' ⟨rfl, ⟨nd, rfl⟩⟩; (try first | exact ⟨rfl, _, World.drewN_drewN _ _ _⟩ | exact ⟨rfl, _, Eq.trans (World.drewN_drewN _ _ _) (congrArg (World.drewN _) (Nat.add_assoc _ _ _))⟩)))
                    repeat (go_quiet (first | (go_at_call 22; (with_reducible refine (clavigerref23_Of.calls kj10 a0 (wrap64 (Int.tdiv (wrap64 ((wrap64 (256 * (wrap64 (bt a1 0)))) + (wrap64 (bt a1 1)))) 8)) t226 false _ A14.out).mono ?_); rintro e w' ⟨rfl, ⟨nd, rfl⟩⟩; (try first | exact ⟨rfl, _, World.drewN_drewN _ _ _⟩ | exact ⟨rfl, _, Eq.trans (World.drewN_drewN _ _ _) (congrArg (World.drewN _) (Nat.add_assoc _ _ _))⟩))); try go_wp2_with (first | (go_at_call 22; (with_reducible refine (clavigerref23_Of.calls kj10 a0 (wrap64 (Int.tdiv (wrap64 ((wrap64 (256 * (wrap64 (bt a1 0)))) + (wrap64 (bt a1 1)))) 8)) t226 false _ A14.out).mono ?_); rintro e w' ⟨rfl, ⟨nd, rfl⟩⟩; (try first | exact ⟨rfl, _, World.drewN_drewN _ _ _⟩ | exact ⟨rfl, _, Eq.trans (World.drewN_drewN _ _ _) (congrArg (World.drewN _) (Nat.add_assoc _ _ _))⟩))))
                    refine bodyPost_ret (results_list (rs := [.tmp 4, .tmp 5, .tmp 6, .tmp 7]) rfl (by simp) (.tmp (.tmp (.tmp (.tmp .nil))))) rfl ?_
                    exact ⟨by first | rfl | (simp [errW_none, errW_some] <;> rfl) | (simp [*, errW_none, errW_some] <;> rfl), by repeat (first | (with_reducible first | exact HB.out | apply below_alloc | apply pw_below_drewN | apply below_drew1) | exact HB.out)⟩
          · rw [if_neg c9] at H
            exact absurd H (by simp)
        · rw [if_neg c7] at H
          exact absurd H (by simp)

/-! ### clavigerlaw36_LoadTells: function 3 -/
def clavigerlaw36_LoadTells.j0 : Nat → Int → ByteArray → ByteArray → ByteArray → ByteArray → Bool → Option (Bool)
  | 0, _, _, _, _, _, _ => none
  | k + 1, x0, x1, x2, x3, x4, x40 => if x40 = true then ((clavigerlaw36_awake.f k).bind fun t229 => (some t229)) else ((load_Make.f k x0 x1 x2).bind fun bt230 => ((clavigerref36_Make.f k x0 x1 x2).bind fun bt232 => ((load_Take.f k x3 x4).bind fun bt234 => ((clavigerref36_Take.f k x3 x4).bind fun bt238 => (if bt230.1.toList = bt232.1.toList then (if bt230.2 = bt232.2 then (if bt234.1 = bt238.1 then (if bt234.2.1.toList = bt238.2.1.toList then (if bt234.2.2.1.toList = bt238.2.2.1.toList then (if bt234.2.2.2 = bt238.2.2.2 then ((load_Total.f k x3).bind fun t242 => ((clavigerref36_Total.f k x3).bind fun t243 => (if t242 = t243 then ((load_Pads.f k x0).bind fun t244 => ((clavigerref36_Pads.f k x0).bind fun t245 => (if t244 = t245 then ((clavigerlaw36_awake.f k).bind fun t246 => (some t246)) else (some false)))) else (some false)))) else (some false)) else (some false)) else (some false)) else (some false)) else (some false)) else (some false))))))
def clavigerlaw36_LoadTells.f (k : Nat) (a0 : Int) (a1 : ByteArray) (a2 : ByteArray) (a3 : ByteArray) (a4 : ByteArray) : Option (Bool) := if (a1.size : Int) > 200 then (clavigerlaw36_LoadTells.j0 k a0 a1 a2 a3 a4 true) else (if (a2.size : Int) > 200 then (clavigerlaw36_LoadTells.j0 k a0 a1 a2 a3 a4 true) else (if (a3.size : Int) > 20 then (clavigerlaw36_LoadTells.j0 k a0 a1 a2 a3 a4 true) else (clavigerlaw36_LoadTells.j0 k a0 a1 a2 a3 a4 (decide ((a4.size : Int) > 200)))))
theorem clavigerlaw36_LoadTells.mono_l : ∀ k, (∀ y0 y1 y2 y3 y4 y5, LeO (clavigerlaw36_LoadTells.j0 k y0 y1 y2 y3 y4 y5) (clavigerlaw36_LoadTells.j0 (k + 1) y0 y1 y2 y3 y4 y5))
  | 0 => fun _ _ _ _ _ _ r h => by simp [clavigerlaw36_LoadTells.j0] at h
  | k + 1 => by
    have ih0 := clavigerlaw36_LoadTells.mono_l k
    · intro y0 y1 y2 y3 y4 y5
      unfold clavigerlaw36_LoadTells.j0
      repeat' first
      | (with_reducible exact ih0 _ _ _ _ _ _)
      | (with_reducible exact clavigerlaw36_awake.mono _)
      | (with_reducible exact clavigerref36_Make.mono _ _ _ _)
      | (with_reducible exact clavigerref36_Pads.mono _ _)
      | (with_reducible exact clavigerref36_Take.mono _ _ _)
      | (with_reducible exact clavigerref36_Total.mono _ _)
      | (with_reducible exact load_Make.mono _ _ _ _)
      | (with_reducible exact load_Pads.mono _ _)
      | (with_reducible exact load_Take.mono _ _ _)
      | (with_reducible exact load_Total.mono _ _)
      | (with_reducible exact LeO.refl _)
      | (with_reducible exact LeO.none _)
      | (with_reducible refine LeO.ite ?_ ?_)
      | (with_reducible refine LeO.bind ?_ (fun _ => ?_))
      | exact ih0 _ _ _ _ _ _
      | exact clavigerlaw36_awake.mono _
      | exact clavigerref36_Make.mono _ _ _ _
      | exact clavigerref36_Pads.mono _ _
      | exact clavigerref36_Take.mono _ _ _
      | exact clavigerref36_Total.mono _ _
      | exact load_Make.mono _ _ _ _
      | exact load_Pads.mono _ _
      | exact load_Take.mono _ _ _
      | exact load_Total.mono _ _
      | exact LeO.none _
      | refine LeO.ite ?_ ?_
      | refine LeO.bind ?_ (fun _ => ?_)
theorem clavigerlaw36_LoadTells.mono : ∀ a0 a1 a2 a3 a4 k, LeO (clavigerlaw36_LoadTells.f k a0 a1 a2 a3 a4) (clavigerlaw36_LoadTells.f (k + 1) a0 a1 a2 a3 a4) := by
  intro a0 a1 a2 a3 a4 k
  have ih0 := clavigerlaw36_LoadTells.mono_l k
  unfold clavigerlaw36_LoadTells.f
  repeat' first
      | (with_reducible exact ih0 _ _ _ _ _ _)
      | (with_reducible exact clavigerlaw36_awake.mono _)
      | (with_reducible exact clavigerref36_Make.mono _ _ _ _)
      | (with_reducible exact clavigerref36_Pads.mono _ _)
      | (with_reducible exact clavigerref36_Take.mono _ _ _)
      | (with_reducible exact clavigerref36_Total.mono _ _)
      | (with_reducible exact load_Make.mono _ _ _ _)
      | (with_reducible exact load_Pads.mono _ _)
      | (with_reducible exact load_Take.mono _ _ _)
      | (with_reducible exact load_Total.mono _ _)
      | (with_reducible exact LeO.refl _)
      | (with_reducible exact LeO.none _)
      | (with_reducible refine LeO.ite ?_ ?_)
      | (with_reducible refine LeO.bind ?_ (fun _ => ?_))
      | exact ih0 _ _ _ _ _ _
      | exact clavigerlaw36_awake.mono _
      | exact clavigerref36_Make.mono _ _ _ _
      | exact clavigerref36_Pads.mono _ _
      | exact clavigerref36_Take.mono _ _ _
      | exact clavigerref36_Total.mono _ _
      | exact load_Make.mono _ _ _ _
      | exact load_Pads.mono _ _
      | exact load_Take.mono _ _ _
      | exact load_Total.mono _ _
      | exact LeO.none _
      | refine LeO.ite ?_ ?_
      | refine LeO.bind ?_ (fun _ => ?_)
set_option maxHeartbeats 8000000 in
set_option maxRecDepth 100000 in
theorem clavigerlaw36_LoadTells.calls (k : Nat) (a0 : Int) (a1 : ByteArray) (a2 : ByteArray) (a3 : ByteArray) (a4 : ByteArray) (r : Bool) (w : World) (HR_ : Aside0 (r = true)) (h : clavigerlaw36_LoadTells.f k a0 a1 a2 a3 a4 = some r) :
    Calls Tryd.prog 3 #[.int .i64 a0, .string a1, .string a2, .string a3, .string a4] w fun e w' => e = .returned (.bool r) ∧ Below w.heap.size w w' := by
  have HB := Aside0.mk (Below.refl w.heap.size w)
  have H : (if (a1.size : Int) > 200 then (clavigerlaw36_LoadTells.j0 k a0 a1 a2 a3 a4 true) else (if (a2.size : Int) > 200 then (clavigerlaw36_LoadTells.j0 k a0 a1 a2 a3 a4 true) else (if (a3.size : Int) > 20 then (clavigerlaw36_LoadTells.j0 k a0 a1 a2 a3 a4 true) else (clavigerlaw36_LoadTells.j0 k a0 a1 a2 a3 a4 (decide ((a4.size : Int) > 200)))))) = some r := h
  clear h
  have HC6 := Aside0.mk H
  clear H
  go_enter Tryd.func3, Tryd.ntmps3
  go_upto_region 1 with (fail)
  go_cut [40] (fun v40 wc => ∃ (kq : Nat) (x40_5 : Bool), v40 = .bool x40_5 ∧ Aside0 (clavigerlaw36_LoadTells.j0 kq a0 a1 a2 a3 a4 x40_5 = some r) ∧ Aside0 (kq ≤ k) ∧ Aside0 (Below w.heap.size w wc))
  case first =>
    have H := HC6.out
    clear HC6
    by_cases c7 : (a1.size : Int) > 200
    · rw [if_pos c7] at H
      have c7b0 : decide (200 < (a1.size : Int)) = true := decide_eq_true c7
      have c7b1 : decide (200 < a1.size) = true := decide_eq_true (by omega)
      clear c7
      (first | rw [c7b0] | (simp only [i64_w, i32_w]; rw [c7b0]) | skip)
      have H' := Aside0.mk H
      clear H
      go_wp2
      go_meet
      case rel => exact ⟨_, (true), (by first | rfl | (simp; done) | (simp [*]; done)), H', ⟨by first | omega | exact Nat.le_refl _⟩, ⟨by repeat (first | (with_reducible first | exact HB.out | apply below_alloc | apply pw_below_drewN | apply below_drew1) | exact HB.out)⟩⟩
    · rw [if_neg c7] at H
      have c7b0 : decide (200 < (a1.size : Int)) = false := decide_eq_false c7
      have c7b1 : decide (200 < a1.size) = false := decide_eq_false (by omega)
      clear c7
      (first | rw [c7b0] | (simp only [i64_w, i32_w]; rw [c7b0]) | skip)
      by_cases c8 : (a2.size : Int) > 200
      · rw [if_pos c8] at H
        have c8b0 : decide (200 < (a2.size : Int)) = true := decide_eq_true c8
        have c8b1 : decide (200 < a2.size) = true := decide_eq_true (by omega)
        clear c8
        have H' := Aside0.mk H
        clear H
        go_wp2
        go_meet
        case rel => exact ⟨_, (true), (by first | rfl | (simp; done) | (simp [*]; done)), H', ⟨by first | omega | exact Nat.le_refl _⟩, ⟨by repeat (first | (with_reducible first | exact HB.out | apply below_alloc | apply pw_below_drewN | apply below_drew1) | exact HB.out)⟩⟩
      · rw [if_neg c8] at H
        have c8b0 : decide (200 < (a2.size : Int)) = false := decide_eq_false c8
        have c8b1 : decide (200 < a2.size) = false := decide_eq_false (by omega)
        clear c8
        by_cases c9 : (a3.size : Int) > 20
        · rw [if_pos c9] at H
          have c9b0 : decide (20 < (a3.size : Int)) = true := decide_eq_true c9
          have c9b1 : decide (20 < a3.size) = true := decide_eq_true (by omega)
          clear c9
          have H' := Aside0.mk H
          clear H
          go_wp2
          go_meet
          case rel => exact ⟨_, (true), (by first | rfl | (simp; done) | (simp [*]; done)), H', ⟨by first | omega | exact Nat.le_refl _⟩, ⟨by repeat (first | (with_reducible first | exact HB.out | apply below_alloc | apply pw_below_drewN | apply below_drew1) | exact HB.out)⟩⟩
        · rw [if_neg c9] at H
          have c9b0 : decide (20 < (a3.size : Int)) = false := decide_eq_false c9
          have c9b1 : decide (20 < a3.size) = false := decide_eq_false (by omega)
          clear c9
          have H' := Aside0.mk H
          clear H
          go_wp2
          go_meet
          case rel => exact ⟨_, (decide ((a4.size : Int) > 200)), (by first | rfl | (simp; done) | (simp [*]; done)), H', ⟨by first | omega | exact Nat.le_refl _⟩, ⟨by repeat (first | (with_reducible first | exact HB.out | apply below_alloc | apply pw_below_drewN | apply below_drew1) | exact HB.out)⟩⟩
  case rest =>
    clear HC6
    try clear p2
    try clear c3
    try clear c7
    try clear c7b0
    try clear c7b1
    try clear c8
    try clear c8b0
    try clear c8b1
    try clear c9
    try clear c9b0
    try clear c9b1
    obtain ⟨kq, x40_5, rfl, HA, HJ5, HB⟩ := hcut
    cases kq with
    | zero => exact absurd HA.out (by simp [clavigerlaw36_LoadTells.j0])
    | succ kj5 =>
      have H := HA.out
      clear HA
      simp only [clavigerlaw36_LoadTells.j0] at H
      by_cases c10 : x40_5 = true
      · subst c10
        have H1 : ((clavigerlaw36_awake.f kj5).bind fun t229 => (some t229)) = some r := by rw [if_pos rfl] at H; exact H
        clear H
        have H := H1
        clear H1
        replace H := Option.bind_eq_some_iff.mp H
        obtain ⟨t229, A110, H⟩ := H
        replace H : (some t229) = some r := H
        have A11 := Aside0.mk A110
        clear A110
        obtain rfl := Option.some.inj H
        go_wp2_with (first | ((with_reducible refine gate_callee (f := 5) rfl ?_); refine goesL_ (some 41) rfl rfl Tryd.func5 (by kernel_rfl) rfl #[] rfl (by (try simp only [List.map_toArray, List.map_cons, List.map_nil]); first | done | rfl | (simp only [List.length_drop, List.length_take]; rfl)) ?_; (with_reducible refine (clavigerlaw36_awake.calls kj5  t229 _ A11.out).mono ?_); rintro e w12 ⟨rfl, hb⟩; refine ⟨_, rfl, ?_⟩; have n0_ := Aside0.mk (below_step (by repeat (first | (with_reducible first | exact HB.out | apply below_alloc | apply pw_below_drewN | apply below_drew1) | exact HB.out)) hb); clear HB; have HB := n0_; clear n0_; (try clear hb); (try clear hb2); (try clear hk); (try clear hi)))
        go_ret
        exact ⟨by first | rfl | (simp [errW_none, errW_some] <;> rfl) | (simp [*, errW_none, errW_some] <;> rfl), by repeat (first | (with_reducible first | exact HB.out | apply below_alloc | apply pw_below_drewN | apply below_drew1) | exact HB.out)⟩
      · replace c10 := Bool.eq_false_iff.mpr c10
        subst c10
        have H1 : ((load_Make.f kj5 a0 a1 a2).bind fun bt230 => ((clavigerref36_Make.f kj5 a0 a1 a2).bind fun bt232 => ((load_Take.f kj5 a3 a4).bind fun bt234 => ((clavigerref36_Take.f kj5 a3 a4).bind fun bt238 => (if bt230.1.toList = bt232.1.toList then (if bt230.2 = bt232.2 then (if bt234.1 = bt238.1 then (if bt234.2.1.toList = bt238.2.1.toList then (if bt234.2.2.1.toList = bt238.2.2.1.toList then (if bt234.2.2.2 = bt238.2.2.2 then ((load_Total.f kj5 a3).bind fun t242 => ((clavigerref36_Total.f kj5 a3).bind fun t243 => (if t242 = t243 then ((load_Pads.f kj5 a0).bind fun t244 => ((clavigerref36_Pads.f kj5 a0).bind fun t245 => (if t244 = t245 then ((clavigerlaw36_awake.f kj5).bind fun t246 => (some t246)) else (some false)))) else (some false)))) else (some false)) else (some false)) else (some false)) else (some false)) else (some false)) else (some false)))))) = some r := by rw [if_neg (show ¬ (false = true) by decide)] at H; exact H
        clear H
        have H := H1
        clear H1
        replace H := Option.bind_eq_some_iff.mp H
        obtain ⟨⟨t230, t231⟩, A130, H⟩ := H
        replace H : ((clavigerref36_Make.f kj5 a0 a1 a2).bind fun bt232 => ((load_Take.f kj5 a3 a4).bind fun bt234 => ((clavigerref36_Take.f kj5 a3 a4).bind fun bt238 => (if t230.toList = bt232.1.toList then (if t231 = bt232.2 then (if bt234.1 = bt238.1 then (if bt234.2.1.toList = bt238.2.1.toList then (if bt234.2.2.1.toList = bt238.2.2.1.toList then (if bt234.2.2.2 = bt238.2.2.2 then ((load_Total.f kj5 a3).bind fun t242 => ((clavigerref36_Total.f kj5 a3).bind fun t243 => (if t242 = t243 then ((load_Pads.f kj5 a0).bind fun t244 => ((clavigerref36_Pads.f kj5 a0).bind fun t245 => (if t244 = t245 then ((clavigerlaw36_awake.f kj5).bind fun t246 => (some t246)) else (some false)))) else (some false)))) else (some false)) else (some false)) else (some false)) else (some false)) else (some false)) else (some false))))) = some r := H
        have A13 := Aside0.mk A130
        clear A130
        replace H := Option.bind_eq_some_iff.mp H
        obtain ⟨⟨t232, t233⟩, A140, H⟩ := H
        replace H : ((load_Take.f kj5 a3 a4).bind fun bt234 => ((clavigerref36_Take.f kj5 a3 a4).bind fun bt238 => (if t230.toList = t232.toList then (if t231 = t233 then (if bt234.1 = bt238.1 then (if bt234.2.1.toList = bt238.2.1.toList then (if bt234.2.2.1.toList = bt238.2.2.1.toList then (if bt234.2.2.2 = bt238.2.2.2 then ((load_Total.f kj5 a3).bind fun t242 => ((clavigerref36_Total.f kj5 a3).bind fun t243 => (if t242 = t243 then ((load_Pads.f kj5 a0).bind fun t244 => ((clavigerref36_Pads.f kj5 a0).bind fun t245 => (if t244 = t245 then ((clavigerlaw36_awake.f kj5).bind fun t246 => (some t246)) else (some false)))) else (some false)))) else (some false)) else (some false)) else (some false)) else (some false)) else (some false)) else (some false)))) = some r := H
        have A14 := Aside0.mk A140
        clear A140
        replace H := Option.bind_eq_some_iff.mp H
        obtain ⟨⟨t234, t235, t236, t237⟩, A150, H⟩ := H
        replace H : ((clavigerref36_Take.f kj5 a3 a4).bind fun bt238 => (if t230.toList = t232.toList then (if t231 = t233 then (if t234 = bt238.1 then (if t235.toList = bt238.2.1.toList then (if t236.toList = bt238.2.2.1.toList then (if t237 = bt238.2.2.2 then ((load_Total.f kj5 a3).bind fun t242 => ((clavigerref36_Total.f kj5 a3).bind fun t243 => (if t242 = t243 then ((load_Pads.f kj5 a0).bind fun t244 => ((clavigerref36_Pads.f kj5 a0).bind fun t245 => (if t244 = t245 then ((clavigerlaw36_awake.f kj5).bind fun t246 => (some t246)) else (some false)))) else (some false)))) else (some false)) else (some false)) else (some false)) else (some false)) else (some false)) else (some false))) = some r := H
        have A15 := Aside0.mk A150
        clear A150
        replace H := Option.bind_eq_some_iff.mp H
        obtain ⟨⟨t238, t239, t240, t241⟩, A160, H⟩ := H
        replace H : (if t230.toList = t232.toList then (if t231 = t233 then (if t234 = t238 then (if t235.toList = t239.toList then (if t236.toList = t240.toList then (if t237 = t241 then ((load_Total.f kj5 a3).bind fun t242 => ((clavigerref36_Total.f kj5 a3).bind fun t243 => (if t242 = t243 then ((load_Pads.f kj5 a0).bind fun t244 => ((clavigerref36_Pads.f kj5 a0).bind fun t245 => (if t244 = t245 then ((clavigerlaw36_awake.f kj5).bind fun t246 => (some t246)) else (some false)))) else (some false)))) else (some false)) else (some false)) else (some false)) else (some false)) else (some false)) else (some false)) = some r := H
        have A16 := Aside0.mk A160
        clear A160
        by_cases c17 : t230.toList = t232.toList
        · rw [if_pos c17] at H
          have c17b0 : (t230.toList == t232.toList) = true := beq_iff_eq.mpr c17
          have c17b1 : (t230.toList != t232.toList) = false := bne_eq_false_iff_eq.mpr c17
          clear c17
          by_cases c18 : t231 = t233
          · rw [if_pos c18] at H
            have c18b0 : (t231 == t233) = true := beq_iff_eq.mpr c18
            have c18b1 : (t231 != t233) = false := bne_eq_false_iff_eq.mpr c18
            clear c18
            by_cases c19 : t234 = t238
            · rw [if_pos c19] at H
              have c19b0 : (t234 == t238) = true := beq_iff_eq.mpr c19
              have c19b1 : (t234 != t238) = false := bne_eq_false_iff_eq.mpr c19
              clear c19
              by_cases c20 : t235.toList = t239.toList
              · rw [if_pos c20] at H
                have c20b0 : (t235.toList == t239.toList) = true := beq_iff_eq.mpr c20
                have c20b1 : (t235.toList != t239.toList) = false := bne_eq_false_iff_eq.mpr c20
                clear c20
                by_cases c21 : t236.toList = t240.toList
                · rw [if_pos c21] at H
                  have c21b0 : (t236.toList == t240.toList) = true := beq_iff_eq.mpr c21
                  have c21b1 : (t236.toList != t240.toList) = false := bne_eq_false_iff_eq.mpr c21
                  clear c21
                  by_cases c22 : t237 = t241
                  · rw [if_pos c22] at H
                    have c22b0 : (t237 == t241) = true := beq_iff_eq.mpr c22
                    have c22b1 : (t237 != t241) = false := bne_eq_false_iff_eq.mpr c22
                    clear c22
                    replace H := Option.bind_eq_some_iff.mp H
                    obtain ⟨t242, A230, H⟩ := H
                    replace H : ((clavigerref36_Total.f kj5 a3).bind fun t243 => (if t242 = t243 then ((load_Pads.f kj5 a0).bind fun t244 => ((clavigerref36_Pads.f kj5 a0).bind fun t245 => (if t244 = t245 then ((clavigerlaw36_awake.f kj5).bind fun t246 => (some t246)) else (some false)))) else (some false))) = some r := H
                    have A23 := Aside0.mk A230
                    clear A230
                    replace H := Option.bind_eq_some_iff.mp H
                    obtain ⟨t243, A240, H⟩ := H
                    replace H : (if t242 = t243 then ((load_Pads.f kj5 a0).bind fun t244 => ((clavigerref36_Pads.f kj5 a0).bind fun t245 => (if t244 = t245 then ((clavigerlaw36_awake.f kj5).bind fun t246 => (some t246)) else (some false)))) else (some false)) = some r := H
                    have A24 := Aside0.mk A240
                    clear A240
                    by_cases c25 : t242 = t243
                    · rw [if_pos c25] at H
                      have c25b0 : (t242 == t243) = true := beq_iff_eq.mpr c25
                      have c25b1 : (t242 != t243) = false := bne_eq_false_iff_eq.mpr c25
                      clear c25
                      replace H := Option.bind_eq_some_iff.mp H
                      obtain ⟨t244, A260, H⟩ := H
                      replace H : ((clavigerref36_Pads.f kj5 a0).bind fun t245 => (if t244 = t245 then ((clavigerlaw36_awake.f kj5).bind fun t246 => (some t246)) else (some false))) = some r := H
                      have A26 := Aside0.mk A260
                      clear A260
                      replace H := Option.bind_eq_some_iff.mp H
                      obtain ⟨t245, A270, H⟩ := H
                      replace H : (if t244 = t245 then ((clavigerlaw36_awake.f kj5).bind fun t246 => (some t246)) else (some false)) = some r := H
                      have A27 := Aside0.mk A270
                      clear A270
                      by_cases c28 : t244 = t245
                      · rw [if_pos c28] at H
                        have c28b0 : (t244 == t245) = true := beq_iff_eq.mpr c28
                        have c28b1 : (t244 != t245) = false := bne_eq_false_iff_eq.mpr c28
                        clear c28
                        replace H := Option.bind_eq_some_iff.mp H
                        obtain ⟨t246, A290, H⟩ := H
                        replace H : (some t246) = some r := H
                        have A29 := Aside0.mk A290
                        clear A290
                        obtain rfl := Option.some.inj H
                        go_wp2_with (first | ((with_reducible refine gate_callee (f := 6) rfl ?_); refine goesL_ (some 46) rfl rfl Tryd.func6 (by kernel_rfl) rfl #[.int .i64 a0, .string a1, .string a2] rfl (by (try simp only [List.map_toArray, List.map_cons, List.map_nil]); first | done | rfl | (simp only [List.length_drop, List.length_take]; rfl)) ?_; (with_reducible refine (load_Make.calls kj5 a0 a1 a2 t230 t231 _ A13.out).mono ?_); rintro e w30 ⟨rfl, hb⟩; refine ⟨_, rfl, ?_⟩; have n0_ := Aside0.mk (below_step (by repeat (first | (with_reducible first | exact HB.out | apply below_alloc | apply pw_below_drewN | apply below_drew1) | exact HB.out)) hb); clear HB; have HB := n0_; clear n0_; (try clear hb); (try clear hb2); (try clear hk); (try clear hi)) | ((with_reducible refine gate_callee (f := 7) rfl ?_); refine goesL_ (some 53) rfl rfl Tryd.func7 (by kernel_rfl) rfl #[.int .i64 a0, .string a1, .string a2] rfl (by (try simp only [List.map_toArray, List.map_cons, List.map_nil]); first | done | rfl | (simp only [List.length_drop, List.length_take]; rfl)) ?_; (with_reducible refine (clavigerref36_Make.calls kj5 a0 a1 a2 t232 t233 _ A14.out).mono ?_); rintro e w31 ⟨rfl, hb⟩; refine ⟨_, rfl, ?_⟩; have n0_ := Aside0.mk (below_step (by repeat (first | (with_reducible first | exact HB.out | apply below_alloc | apply pw_below_drewN | apply below_drew1) | exact HB.out)) hb); clear HB; have HB := n0_; clear n0_; (try clear hb); (try clear hb2); (try clear hk); (try clear hi)) | ((with_reducible refine gate_callee (f := 8) rfl ?_); refine goesL_ (some 59) rfl rfl Tryd.func8 (by kernel_rfl) rfl #[.string a3, .string a4] rfl (by (try simp only [List.map_toArray, List.map_cons, List.map_nil]); first | done | rfl | (simp only [List.length_drop, List.length_take]; rfl)) ?_; (with_reducible refine (load_Take.calls kj5 a3 a4 t234 t235 t236 t237 _ A15.out).mono ?_); rintro e w32 ⟨rfl, hb⟩; refine ⟨_, rfl, ?_⟩; have n0_ := Aside0.mk (below_step (by repeat (first | (with_reducible first | exact HB.out | apply below_alloc | apply pw_below_drewN | apply below_drew1) | exact HB.out)) hb); clear HB; have HB := n0_; clear n0_; (try clear hb); (try clear hb2); (try clear hk); (try clear hi)) | ((with_reducible refine gate_callee (f := 9) rfl ?_); refine goesL_ (some 67) rfl rfl Tryd.func9 (by kernel_rfl) rfl #[.string a3, .string a4] rfl (by (try simp only [List.map_toArray, List.map_cons, List.map_nil]); first | done | rfl | (simp only [List.length_drop, List.length_take]; rfl)) ?_; (with_reducible refine (clavigerref36_Take.calls kj5 a3 a4 t238 t239 t240 t241 _ A16.out).mono ?_); rintro e w33 ⟨rfl, hb⟩; refine ⟨_, rfl, ?_⟩; have n0_ := Aside0.mk (below_step (by repeat (first | (with_reducible first | exact HB.out | apply below_alloc | apply pw_below_drewN | apply below_drew1) | exact HB.out)) hb); clear HB; have HB := n0_; clear n0_; (try clear hb); (try clear hb2); (try clear hk); (try clear hi)) | (go_at_call 10; (with_reducible refine (load_Total.calls kj5 a3 t242 _ A23.out).mono ?_); rintro e w34 ⟨rfl, hb⟩; have n0_ := Aside0.mk (below_step (by repeat (first | (with_reducible first | exact HB.out | apply below_alloc | apply pw_below_drewN | apply below_drew1) | exact HB.out)) hb); clear HB; have HB := n0_; clear n0_; (try clear hb); (try clear hb2); (try clear hk); (try clear hi)) | (go_at_call 11; (with_reducible refine (clavigerref36_Total.calls kj5 a3 t243 _ A24.out).mono ?_); rintro e w' ⟨rfl, ⟨nd, rfl⟩⟩) | (go_at_call 12; (with_reducible refine (load_Pads.calls kj5 a0 t244 _ A26.out).mono ?_); rintro e w35 ⟨rfl, hb⟩; have n0_ := Aside0.mk (below_step (by repeat (first | (with_reducible first | exact HB.out | apply below_alloc | apply pw_below_drewN | apply below_drew1) | exact HB.out)) hb); clear HB; have HB := n0_; clear n0_; (try clear hb); (try clear hb2); (try clear hk); (try clear hi)) | (go_at_call 13; (with_reducible refine (clavigerref36_Pads.calls kj5 a0 t245 _ A27.out).mono ?_); rintro e w' ⟨rfl, ⟨nd, rfl⟩⟩) | (go_at_call 5; (with_reducible refine (clavigerlaw36_awake.calls kj5  t246 _ A29.out).mono ?_); rintro e w36 ⟨rfl, hb⟩; have n0_ := Aside0.mk (below_step (by repeat (first | (with_reducible first | exact HB.out | apply below_alloc | apply pw_below_drewN | apply below_drew1) | exact HB.out)) hb); clear HB; have HB := n0_; clear n0_; (try clear hb); (try clear hb2); (try clear hk); (try clear hi)))
                        go_ret
                        exact ⟨by first | rfl | (simp [errW_none, errW_some] <;> rfl) | (simp [*, errW_none, errW_some] <;> rfl), by repeat (first | (with_reducible first | exact HB.out | apply below_alloc | apply pw_below_drewN | apply below_drew1) | exact HB.out)⟩
                      · rw [if_neg c28] at H
                        have c28b0 : (t244 == t245) = false := beq_eq_false_iff_ne.mpr c28
                        have c28b1 : (t244 != t245) = true := bne_iff_ne.mpr c28
                        exact absurd ((Option.some.inj H).trans HR_.out) (by decide)
                    · rw [if_neg c25] at H
                      have c25b0 : (t242 == t243) = false := beq_eq_false_iff_ne.mpr c25
                      have c25b1 : (t242 != t243) = true := bne_iff_ne.mpr c25
                      exact absurd ((Option.some.inj H).trans HR_.out) (by decide)
                  · rw [if_neg c22] at H
                    have c22b0 : (t237 == t241) = false := beq_eq_false_iff_ne.mpr c22
                    have c22b1 : (t237 != t241) = true := bne_iff_ne.mpr c22
                    exact absurd ((Option.some.inj H).trans HR_.out) (by decide)
                · rw [if_neg c21] at H
                  have c21b0 : (t236.toList == t240.toList) = false := beq_eq_false_iff_ne.mpr c21
                  have c21b1 : (t236.toList != t240.toList) = true := bne_iff_ne.mpr c21
                  exact absurd ((Option.some.inj H).trans HR_.out) (by decide)
              · rw [if_neg c20] at H
                have c20b0 : (t235.toList == t239.toList) = false := beq_eq_false_iff_ne.mpr c20
                have c20b1 : (t235.toList != t239.toList) = true := bne_iff_ne.mpr c20
                exact absurd ((Option.some.inj H).trans HR_.out) (by decide)
            · rw [if_neg c19] at H
              have c19b0 : (t234 == t238) = false := beq_eq_false_iff_ne.mpr c19
              have c19b1 : (t234 != t238) = true := bne_iff_ne.mpr c19
              exact absurd ((Option.some.inj H).trans HR_.out) (by decide)
          · rw [if_neg c18] at H
            have c18b0 : (t231 == t233) = false := beq_eq_false_iff_ne.mpr c18
            have c18b1 : (t231 != t233) = true := bne_iff_ne.mpr c18
            exact absurd ((Option.some.inj H).trans HR_.out) (by decide)
        · rw [if_neg c17] at H
          have c17b0 : (t230.toList == t232.toList) = false := beq_eq_false_iff_ne.mpr c17
          have c17b1 : (t230.toList != t232.toList) = true := bne_iff_ne.mpr c17
          exact absurd ((Option.some.inj H).trans HR_.out) (by decide)

/-- THE ONE PURE STATEMENT of clavigerlaw36_LoadTells: yours. -/
def clavigerlaw36_LoadTells.Pure : Prop := ∀ (a0 : Int) (a1 : ByteArray) (a2 : ByteArray) (a3 : ByteArray) (a4 : ByteArray), (Lit.int .i64 a0).wf = true → a1.size ≤ 140737488351232 → a2.size ≤ 140737488351232 → a3.size ≤ 140737488351232 → a4.size ≤ 140737488351232 → ∃ k, clavigerlaw36_LoadTells.f k a0 a1 a2 a3 a4 = some true
theorem clavigerlaw36_LoadTells.walk (P : clavigerlaw36_LoadTells.Pure) (a0 : Int) (a1 : ByteArray) (a2 : ByteArray) (a3 : ByteArray) (a4 : ByteArray) (w : World) (w0 : (Lit.int .i64 a0).wf = true) (w1 : a1.size ≤ 140737488351232) (w2 : a2.size ≤ 140737488351232) (w3 : a3.size ≤ 140737488351232) (w4 : a4.size ≤ 140737488351232) :
    Calls Tryd.prog 3 #[.int .i64 a0, .string a1, .string a2, .string a3, .string a4] w fun e w' => e = .returned (.bool true) ∧ Below w.heap.size w w' := by
  obtain ⟨k, h⟩ := P a0 a1 a2 a3 a4 w0 w1 w2 w3 w4
  refine (clavigerlaw36_LoadTells.calls k a0 a1 a2 a3 a4 true w ⟨rfl⟩ h).mono ?_
  rintro e w' ⟨rfl, hd⟩
  exact ⟨rfl, hd⟩

end Go.Proofs.YtgkiikdfmjhnjaaDoor.PLoadTells
