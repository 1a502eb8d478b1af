-- laid by a program out of the translation and of templates; not trusted: Lean checks it
import Derived.Test.YtgkiikdfmjhnjaaDoorPLoadBackx0
import Derived.Test.YtgkiikdfmjhnjaaDoorPLoadBackx3
import Derived.Test.YtgkiikdfmjhnjaaDoorPLoadBackx4
namespace Go.Proofs.YtgkiikdfmjhnjaaDoor.PLoadBack
open Go.RowKit Go.Proofs.YtgkiikdfmjhnjaaDoorW.PrintWords Go.Proofs.YtgkiikdfmjhnjaaDoorW.PrintLast Go.Proofs.YtgkiikdfmjhnjaaDoorW.PrintMore
attribute [local go_sem] str_leq str_gtr str_geq max2_int min2_int max_two min_two max_three min_three max_four min_four   -- for this text's walks alone
set_option linter.unusedVariables false
set_option linter.unusedSimpArgs false

/-! ### clavigerlaw36_LoadBack: function 4 -/
mutual
def clavigerlaw36_LoadBack.j0 : Nat → Int → ByteArray → ByteArray → ByteArray → ByteArray → Bool → Option (Bool)
  | 0, _, _, _, _, _, _ => none
  | k + 1, x0, x1, x2, x3, x4, x41 => if x41 = true then ((clavigerlaw36_awake.f k).bind fun t186 => (some t186)) else ((load_Make.f k x0 x1 x2).bind fun bt187 => (if bt187.2 = 0 then ((clavigerref23_Letter.f k x0).bind fun t189 => ((load_Take.f k t189 bt187.1).bind fun bt190 => (if bt190.1 = x0 then (if bt190.2.1.toList = x1.toList then (if bt190.2.2.1.toList = x2.toList then (if bt190.2.2.2 = 0 then ((load_Total.f k t189).bind fun t194 => (if (bt187.1.size : Int) = t194 then (clavigerlaw36_LoadBack.j1 k x3 x4) else (some false))) else (some false)) else (some false)) else (some false)) else (some false)))) else (clavigerlaw36_LoadBack.j1 k x3 x4)))
def clavigerlaw36_LoadBack.j1 : Nat → ByteArray → ByteArray → Option (Bool)
  | 0, _, _ => none
  | k + 1, x3, x4 => (load_Take.f k x3 x4).bind fun bt195 => (if bt195.2.2.2 = 0 then ((load_Make.f k bt195.1 bt195.2.1 bt195.2.2.1).bind fun bt199 => (if bt199.1.toList = x4.toList then (if bt199.2 = 0 then ((clavigerlaw36_awake.f k).bind fun t201 => (some t201)) else (some false)) else (some false))) else (if bt195.1 = 0 then (if bt195.2.1.toList = ([] : List UInt8) then (if bt195.2.2.1.toList = ([] : List UInt8) then ((clavigerlaw36_awake.f k).bind fun t202 => (some t202)) else (some false)) else (some false)) else (some false)))
end
def clavigerlaw36_LoadBack.f (k : Nat) (a0 : Int) (a1 : ByteArray) (a2 : ByteArray) (a3 : ByteArray) (a4 : ByteArray) : Option (Bool) := if (a1.size : Int) > 200 then (clavigerlaw36_LoadBack.j0 k a0 a1 a2 a3 a4 true) else (if (a2.size : Int) > 200 then (clavigerlaw36_LoadBack.j0 k a0 a1 a2 a3 a4 true) else (if (a3.size : Int) > 20 then (clavigerlaw36_LoadBack.j0 k a0 a1 a2 a3 a4 true) else (clavigerlaw36_LoadBack.j0 k a0 a1 a2 a3 a4 (decide ((a4.size : Int) > 200)))))
theorem clavigerlaw36_LoadBack.mono_l : ∀ k, (∀ y0 y1 y2 y3 y4 y5, LeO (clavigerlaw36_LoadBack.j0 k y0 y1 y2 y3 y4 y5) (clavigerlaw36_LoadBack.j0 (k + 1) y0 y1 y2 y3 y4 y5)) ∧ (∀ y0 y1, LeO (clavigerlaw36_LoadBack.j1 k y0 y1) (clavigerlaw36_LoadBack.j1 (k + 1) y0 y1))
  | 0 => ⟨fun _ _ _ _ _ _ r h => by simp [clavigerlaw36_LoadBack.j0] at h, fun _ _ r h => by simp [clavigerlaw36_LoadBack.j1] at h⟩
  | k + 1 => by
    obtain ⟨ih0, ih1⟩ := clavigerlaw36_LoadBack.mono_l k
    refine ⟨?_, ?_⟩
    · intro y0 y1 y2 y3 y4 y5
      unfold clavigerlaw36_LoadBack.j0
      repeat' first
      | (with_reducible exact ih0 _ _ _ _ _ _)
      | (with_reducible exact ih1 _ _)
      | (with_reducible exact clavigerlaw36_awake.mono _)
      | (with_reducible exact clavigerref23_Letter.mono _ _)
      | (with_reducible exact load_Make.mono _ _ _ _)
      | (with_reducible exact load_Take.mono _ _ _)
      | (with_reducible exact load_Total.mono _ _)
      | (with_reducible exact LeO.refl _)
      | (with_reducible exact LeO.none _)
      | (with_reducible refine LeO.ite ?_ ?_)
      | (with_reducible refine LeO.bind ?_ (fun _ => ?_))
      | exact ih0 _ _ _ _ _ _
      | exact ih1 _ _
      | exact clavigerlaw36_awake.mono _
      | exact clavigerref23_Letter.mono _ _
      | exact load_Make.mono _ _ _ _
      | exact load_Take.mono _ _ _
      | exact load_Total.mono _ _
      | exact LeO.none _
      | refine LeO.ite ?_ ?_
      | refine LeO.bind ?_ (fun _ => ?_)
    · intro y0 y1
      unfold clavigerlaw36_LoadBack.j1
      repeat' first
      | (with_reducible exact ih0 _ _ _ _ _ _)
      | (with_reducible exact ih1 _ _)
      | (with_reducible exact clavigerlaw36_awake.mono _)
      | (with_reducible exact clavigerref23_Letter.mono _ _)
      | (with_reducible exact load_Make.mono _ _ _ _)
      | (with_reducible exact load_Take.mono _ _ _)
      | (with_reducible exact load_Total.mono _ _)
      | (with_reducible exact LeO.refl _)
      | (with_reducible exact LeO.none _)
      | (with_reducible refine LeO.ite ?_ ?_)
      | (with_reducible refine LeO.bind ?_ (fun _ => ?_))
      | exact ih0 _ _ _ _ _ _
      | exact ih1 _ _
      | exact clavigerlaw36_awake.mono _
      | exact clavigerref23_Letter.mono _ _
      | exact load_Make.mono _ _ _ _
      | exact load_Take.mono _ _ _
      | exact load_Total.mono _ _
      | exact LeO.none _
      | refine LeO.ite ?_ ?_
      | refine LeO.bind ?_ (fun _ => ?_)
theorem clavigerlaw36_LoadBack.mono : ∀ a0 a1 a2 a3 a4 k, LeO (clavigerlaw36_LoadBack.f k a0 a1 a2 a3 a4) (clavigerlaw36_LoadBack.f (k + 1) a0 a1 a2 a3 a4) := by
  intro a0 a1 a2 a3 a4 k
  obtain ⟨ih0, ih1⟩ := clavigerlaw36_LoadBack.mono_l k
  unfold clavigerlaw36_LoadBack.f
  repeat' first
      | (with_reducible exact ih0 _ _ _ _ _ _)
      | (with_reducible exact ih1 _ _)
      | (with_reducible exact clavigerlaw36_awake.mono _)
      | (with_reducible exact clavigerref23_Letter.mono _ _)
      | (with_reducible exact load_Make.mono _ _ _ _)
      | (with_reducible exact load_Take.mono _ _ _)
      | (with_reducible exact load_Total.mono _ _)
      | (with_reducible exact LeO.refl _)
      | (with_reducible exact LeO.none _)
      | (with_reducible refine LeO.ite ?_ ?_)
      | (with_reducible refine LeO.bind ?_ (fun _ => ?_))
      | exact ih0 _ _ _ _ _ _
      | exact ih1 _ _
      | exact clavigerlaw36_awake.mono _
      | exact clavigerref23_Letter.mono _ _
      | exact load_Make.mono _ _ _ _
      | exact load_Take.mono _ _ _
      | exact load_Total.mono _ _
      | exact LeO.none _
      | refine LeO.ite ?_ ?_
      | refine LeO.bind ?_ (fun _ => ?_)
set_option maxHeartbeats 8000000 in
set_option maxRecDepth 100000 in
theorem clavigerlaw36_LoadBack.calls (k : Nat) (a0 : Int) (a1 : ByteArray) (a2 : ByteArray) (a3 : ByteArray) (a4 : ByteArray) (r : Bool) (w : World) (HR_ : Aside0 (r = true)) (h : clavigerlaw36_LoadBack.f k a0 a1 a2 a3 a4 = some r) :
    Calls Tryd.prog 4 #[.int .i64 a0, .string a1, .string a2, .string a3, .string a4] w fun e w' => e = .returned (.bool r) ∧ Below w.heap.size w w' := by
  have HB := Aside0.mk (Below.refl w.heap.size w)
  have H : (if (a1.size : Int) > 200 then (clavigerlaw36_LoadBack.j0 k a0 a1 a2 a3 a4 true) else (if (a2.size : Int) > 200 then (clavigerlaw36_LoadBack.j0 k a0 a1 a2 a3 a4 true) else (if (a3.size : Int) > 20 then (clavigerlaw36_LoadBack.j0 k a0 a1 a2 a3 a4 true) else (clavigerlaw36_LoadBack.j0 k a0 a1 a2 a3 a4 (decide ((a4.size : Int) > 200)))))) = some r := h
  clear h
  have HC6 := Aside0.mk H
  clear H
  go_enter Tryd.func4, Tryd.ntmps4
  go_upto_region 1 with (fail)
  go_cut [41] (fun v41 wc => ∃ (kq : Nat) (x41_5 : Bool), v41 = .bool x41_5 ∧ Aside0 (clavigerlaw36_LoadBack.j0 kq a0 a1 a2 a3 a4 x41_5 = some r) ∧ Aside0 (kq ≤ k) ∧ Aside0 (Below w.heap.size w wc))
  case first =>
    have H := HC6.out
    clear HC6
    by_cases c7 : (a1.size : Int) > 200
    · rw [if_pos c7] at H
      have c7b0 : decide (200 < (a1.size : Int)) = true := decide_eq_true c7
      have c7b1 : decide (200 < a1.size) = true := decide_eq_true (by omega)
      clear c7
      (first | rw [c7b0] | (simp only [i64_w, i32_w]; rw [c7b0]) | skip)
      have H' := Aside0.mk H
      clear H
      go_wp2
      go_meet
      case rel => exact ⟨_, (true), (by first | rfl | (simp; done) | (simp [*]; done)), H', ⟨by first | omega | exact Nat.le_refl _⟩, ⟨by repeat (first | (with_reducible first | exact HB.out | apply below_alloc | apply pw_below_drewN | apply below_drew1) | exact HB.out)⟩⟩
    · rw [if_neg c7] at H
      have c7b0 : decide (200 < (a1.size : Int)) = false := decide_eq_false c7
      have c7b1 : decide (200 < a1.size) = false := decide_eq_false (by omega)
      clear c7
      (first | rw [c7b0] | (simp only [i64_w, i32_w]; rw [c7b0]) | skip)
      by_cases c8 : (a2.size : Int) > 200
      · rw [if_pos c8] at H
        have c8b0 : decide (200 < (a2.size : Int)) = true := decide_eq_true c8
        have c8b1 : decide (200 < a2.size) = true := decide_eq_true (by omega)
        clear c8
        have H' := Aside0.mk H
        clear H
        go_wp2
        go_meet
        case rel => exact ⟨_, (true), (by first | rfl | (simp; done) | (simp [*]; done)), H', ⟨by first | omega | exact Nat.le_refl _⟩, ⟨by repeat (first | (with_reducible first | exact HB.out | apply below_alloc | apply pw_below_drewN | apply below_drew1) | exact HB.out)⟩⟩
      · rw [if_neg c8] at H
        have c8b0 : decide (200 < (a2.size : Int)) = false := decide_eq_false c8
        have c8b1 : decide (200 < a2.size) = false := decide_eq_false (by omega)
        clear c8
        by_cases c9 : (a3.size : Int) > 20
        · rw [if_pos c9] at H
          have c9b0 : decide (20 < (a3.size : Int)) = true := decide_eq_true c9
          have c9b1 : decide (20 < a3.size) = true := decide_eq_true (by omega)
          clear c9
          have H' := Aside0.mk H
          clear H
          go_wp2
          go_meet
          case rel => exact ⟨_, (true), (by first | rfl | (simp; done) | (simp [*]; done)), H', ⟨by first | omega | exact Nat.le_refl _⟩, ⟨by repeat (first | (with_reducible first | exact HB.out | apply below_alloc | apply pw_below_drewN | apply below_drew1) | exact HB.out)⟩⟩
        · rw [if_neg c9] at H
          have c9b0 : decide (20 < (a3.size : Int)) = false := decide_eq_false c9
          have c9b1 : decide (20 < a3.size) = false := decide_eq_false (by omega)
          clear c9
          have H' := Aside0.mk H
          clear H
          go_wp2
          go_meet
          case rel => exact ⟨_, (decide ((a4.size : Int) > 200)), (by first | rfl | (simp; done) | (simp [*]; done)), H', ⟨by first | omega | exact Nat.le_refl _⟩, ⟨by repeat (first | (with_reducible first | exact HB.out | apply below_alloc | apply pw_below_drewN | apply below_drew1) | exact HB.out)⟩⟩
  case rest =>
    clear HC6
    try clear p2
    try clear c4
    try clear c7
    try clear c7b0
    try clear c7b1
    try clear c8
    try clear c8b0
    try clear c8b1
    try clear c9
    try clear c9b0
    try clear c9b1
    obtain ⟨kq, x41_5, rfl, HA, HJ5, HB⟩ := hcut
    cases kq with
    | zero => exact absurd HA.out (by simp [clavigerlaw36_LoadBack.j0])
    | succ kj5 =>
      have H := HA.out
      clear HA
      simp only [clavigerlaw36_LoadBack.j0] at H
      by_cases c10 : x41_5 = true
      · subst c10
        have H1 : ((clavigerlaw36_awake.f kj5).bind fun t186 => (some t186)) = some r := by rw [if_pos rfl] at H; exact H
        clear H
        have H := H1
        clear H1
        replace H := Option.bind_eq_some_iff.mp H
        obtain ⟨t186, A110, H⟩ := H
        replace H : (some t186) = some r := H
        have A11 := Aside0.mk A110
        clear A110
        obtain rfl := Option.some.inj H
        go_wp2_with (first | ((with_reducible refine gate_callee (f := 5) rfl ?_); refine goesL_ (some 42) rfl rfl Tryd.func5 (by kernel_rfl) rfl #[] rfl (by (try simp only [List.map_toArray, List.map_cons, List.map_nil]); first | done | rfl | (simp only [List.length_drop, List.length_take]; rfl)) ?_; (with_reducible refine (clavigerlaw36_awake.calls kj5  t186 _ A11.out).mono ?_); rintro e w12 ⟨rfl, hb⟩; refine ⟨_, rfl, ?_⟩; have n0_ := Aside0.mk (below_step (by repeat (first | (with_reducible first | exact HB.out | apply below_alloc | apply pw_below_drewN | apply below_drew1) | exact HB.out)) hb); clear HB; have HB := n0_; clear n0_; (try clear hb); (try clear hb2); (try clear hk); (try clear hi)))
        go_ret
        exact ⟨by first | rfl | (simp [errW_none, errW_some] <;> rfl) | (simp [*, errW_none, errW_some] <;> rfl), by repeat (first | (with_reducible first | exact HB.out | apply below_alloc | apply pw_below_drewN | apply below_drew1) | exact HB.out)⟩
      · replace c10 := Bool.eq_false_iff.mpr c10
        subst c10
        have H1 : ((load_Make.f kj5 a0 a1 a2).bind fun bt187 => (if bt187.2 = 0 then ((clavigerref23_Letter.f kj5 a0).bind fun t189 => ((load_Take.f kj5 t189 bt187.1).bind fun bt190 => (if bt190.1 = a0 then (if bt190.2.1.toList = a1.toList then (if bt190.2.2.1.toList = a2.toList then (if bt190.2.2.2 = 0 then ((load_Total.f kj5 t189).bind fun t194 => (if (bt187.1.size : Int) = t194 then (clavigerlaw36_LoadBack.j1 kj5 a3 a4) else (some false))) else (some false)) else (some false)) else (some false)) else (some false)))) else (clavigerlaw36_LoadBack.j1 kj5 a3 a4))) = some r := by rw [if_neg (show ¬ (false = true) by decide)] at H; exact H
        clear H
        have H := H1
        clear H1
        replace H := Option.bind_eq_some_iff.mp H
        obtain ⟨⟨t187, t188⟩, A130, H⟩ := H
        replace H : (if t188 = 0 then ((clavigerref23_Letter.f kj5 a0).bind fun t189 => ((load_Take.f kj5 t189 t187).bind fun bt190 => (if bt190.1 = a0 then (if bt190.2.1.toList = a1.toList then (if bt190.2.2.1.toList = a2.toList then (if bt190.2.2.2 = 0 then ((load_Total.f kj5 t189).bind fun t194 => (if (t187.size : Int) = t194 then (clavigerlaw36_LoadBack.j1 kj5 a3 a4) else (some false))) else (some false)) else (some false)) else (some false)) else (some false)))) else (clavigerlaw36_LoadBack.j1 kj5 a3 a4)) = some r := H
        have A13 := Aside0.mk A130
        clear A130
        have HC14 := Aside0.mk H
        clear H
        go_upto_if 51 with (first | ((with_reducible refine gate_callee (f := 6) rfl ?_); refine goesL_ (some 47) rfl rfl Tryd.func6 (by kernel_rfl) rfl #[.int .i64 a0, .string a1, .string a2] rfl (by (try simp only [List.map_toArray, List.map_cons, List.map_nil]); first | done | rfl | (simp only [List.length_drop, List.length_take]; rfl)) ?_; (with_reducible refine (load_Make.calls kj5 a0 a1 a2 t187 t188 _ A13.out).mono ?_); rintro e w15 ⟨rfl, hb⟩; refine ⟨_, rfl, ?_⟩; have n0_ := Aside0.mk (below_step (by repeat (first | (with_reducible first | exact HB.out | apply below_alloc | apply pw_below_drewN | apply below_drew1) | exact HB.out)) hb); clear HB; have HB := n0_; clear n0_; (try clear hb); (try clear hb2); (try clear hk); (try clear hi)))
        (try simp only [Act.put, List.setIfInBounds_toArray, List.set_cons_zero, List.set_cons_succ])
        go_cut [] (fun wc => ∃ (kq : Nat), Aside0 (clavigerlaw36_LoadBack.j1 kq a3 a4 = some r) ∧ Aside0 (kq ≤ kj5) ∧ Aside0 (Below w.heap.size w wc))
        case first =>
          have H := HC14.out
          clear HC14
          by_cases c16 : t188 = 0
          · rw [if_pos c16] at H
            have c16b0 : (t188 == 0) = true := beq_iff_eq.mpr c16
            have c16b1 : (t188 != 0) = false := bne_eq_false_iff_eq.mpr c16
            clear c16
            (first | rw [c16b0] | (simp only [i64_w, i32_w]; rw [c16b0]) | skip)
            replace H := Option.bind_eq_some_iff.mp H
            obtain ⟨t189, A170, H⟩ := H
            replace H : ((load_Take.f kj5 t189 t187).bind fun bt190 => (if bt190.1 = a0 then (if bt190.2.1.toList = a1.toList then (if bt190.2.2.1.toList = a2.toList then (if bt190.2.2.2 = 0 then ((load_Total.f kj5 t189).bind fun t194 => (if (t187.size : Int) = t194 then (clavigerlaw36_LoadBack.j1 kj5 a3 a4) else (some false))) else (some false)) else (some false)) else (some false)) else (some false))) = some r := H
            have A17 := Aside0.mk A170
            clear A170
            replace H := Option.bind_eq_some_iff.mp H
            obtain ⟨⟨t190, t191, t192, t193⟩, A180, H⟩ := H
            replace H : (if t190 = a0 then (if t191.toList = a1.toList then (if t192.toList = a2.toList then (if t193 = 0 then ((load_Total.f kj5 t189).bind fun t194 => (if (t187.size : Int) = t194 then (clavigerlaw36_LoadBack.j1 kj5 a3 a4) else (some false))) else (some false)) else (some false)) else (some false)) else (some false)) = some r := H
            have A18 := Aside0.mk A180
            clear A180
            by_cases c19 : t190 = a0
            · rw [if_pos c19] at H
              have c19b0 : (t190 == a0) = true := beq_iff_eq.mpr c19
              have c19b1 : (t190 != a0) = false := bne_eq_false_iff_eq.mpr c19
              clear c19
              by_cases c20 : t191.toList = a1.toList
              · rw [if_pos c20] at H
                have c20b0 : (t191.toList == a1.toList) = true := beq_iff_eq.mpr c20
                have c20b1 : (t191.toList != a1.toList) = false := bne_eq_false_iff_eq.mpr c20
                clear c20
                by_cases c21 : t192.toList = a2.toList
                · rw [if_pos c21] at H
                  have c21b0 : (t192.toList == a2.toList) = true := beq_iff_eq.mpr c21
                  have c21b1 : (t192.toList != a2.toList) = false := bne_eq_false_iff_eq.mpr c21
                  clear c21
                  by_cases c22 : t193 = 0
                  · rw [if_pos c22] at H
                    have c22b0 : (t193 == 0) = true := beq_iff_eq.mpr c22
                    have c22b1 : (t193 != 0) = false := bne_eq_false_iff_eq.mpr c22
                    clear c22
                    replace H := Option.bind_eq_some_iff.mp H
                    obtain ⟨t194, A230, H⟩ := H
                    replace H : (if (t187.size : Int) = t194 then (clavigerlaw36_LoadBack.j1 kj5 a3 a4) else (some false)) = some r := H
                    have A23 := Aside0.mk A230
                    clear A230
                    by_cases c24 : (t187.size : Int) = t194
                    · rw [if_pos c24] at H
                      have c24b0 : ((t187.size : Int) == t194) = true := beq_iff_eq.mpr c24
                      have c24b1 : ((t187.size : Int) != t194) = false := bne_eq_false_iff_eq.mpr c24
                      clear c24
                      have H' := Aside0.mk H
                      clear H
                      go_wp2_with (first | ((with_reducible refine gate_callee (f := 14) rfl ?_); refine goesL_ (some 53) rfl rfl Tryd.func14 (by kernel_rfl) rfl #[.int .i64 a0] rfl (by (try simp only [List.map_toArray, List.map_cons, List.map_nil]); first | done | rfl | (simp only [List.length_drop, List.length_take]; rfl)) ?_; (with_reducible refine (clavigerref23_Letter.calls kj5 a0 t189 _ A17.out).mono ?_); rintro e w' ⟨rfl, ⟨nd, rfl⟩⟩; refine ⟨_, rfl, ?_⟩) | ((with_reducible refine gate_callee (f := 8) rfl ?_); refine goesL_ (some 57) rfl rfl Tryd.func8 (by kernel_rfl) rfl #[.string t189, .string t187] rfl (by (try simp only [List.map_toArray, List.map_cons, List.map_nil]); first | done | rfl | (simp only [List.length_drop, List.length_take]; rfl)) ?_; (with_reducible refine (load_Take.calls kj5 t189 t187 t190 t191 t192 t193 _ A18.out).mono ?_); rintro e w25 ⟨rfl, hb⟩; refine ⟨_, rfl, ?_⟩; have n0_ := Aside0.mk (below_step (by repeat (first | (with_reducible first | exact HB.out | apply below_alloc | apply pw_below_drewN | apply below_drew1) | exact HB.out)) hb); clear HB; have HB := n0_; clear n0_; (try clear hb); (try clear hb2); (try clear hk); (try clear hi)) | (go_at_call 10; (with_reducible refine (load_Total.calls kj5 t189 t194 _ A23.out).mono ?_); rintro e w26 ⟨rfl, hb⟩; have n0_ := Aside0.mk (below_step (by repeat (first | (with_reducible first | exact HB.out | apply below_alloc | apply pw_below_drewN | apply below_drew1) | exact HB.out)) hb); clear HB; have HB := n0_; clear n0_; (try clear hb); (try clear hb2); (try clear hk); (try clear hi)))
                      go_meet
                      case rel => exact ⟨_, H', ⟨by have := HJ5.out; first | omega | exact Nat.le_refl _⟩, ⟨by repeat (first | (with_reducible first | exact HB.out | apply below_alloc | apply pw_below_drewN | apply below_drew1) | exact HB.out)⟩⟩
                    · rw [if_neg c24] at H
                      have c24b0 : ((t187.size : Int) == t194) = false := beq_eq_false_iff_ne.mpr c24
                      have c24b1 : ((t187.size : Int) != t194) = true := bne_iff_ne.mpr c24
                      exact absurd ((Option.some.inj H).trans HR_.out) (by decide)
                  · rw [if_neg c22] at H
                    have c22b0 : (t193 == 0) = false := beq_eq_false_iff_ne.mpr c22
                    have c22b1 : (t193 != 0) = true := bne_iff_ne.mpr c22
                    exact absurd ((Option.some.inj H).trans HR_.out) (by decide)
                · rw [if_neg c21] at H
                  have c21b0 : (t192.toList == a2.toList) = false := beq_eq_false_iff_ne.mpr c21
                  have c21b1 : (t192.toList != a2.toList) = true := bne_iff_ne.mpr c21
                  exact absurd ((Option.some.inj H).trans HR_.out) (by decide)
              · rw [if_neg c20] at H
                have c20b0 : (t191.toList == a1.toList) = false := beq_eq_false_iff_ne.mpr c20
                have c20b1 : (t191.toList != a1.toList) = true := bne_iff_ne.mpr c20
                exact absurd ((Option.some.inj H).trans HR_.out) (by decide)
            · rw [if_neg c19] at H
              have c19b0 : (t190 == a0) = false := beq_eq_false_iff_ne.mpr c19
              have c19b1 : (t190 != a0) = true := bne_iff_ne.mpr c19
              exact absurd ((Option.some.inj H).trans HR_.out) (by decide)
          · rw [if_neg c16] at H
            have c16b0 : (t188 == 0) = false := beq_eq_false_iff_ne.mpr c16
            have c16b1 : (t188 != 0) = true := bne_iff_ne.mpr c16
            (first | rw [c16b0] | (simp only [i64_w, i32_w]; rw [c16b0]) | skip)
            have H' := Aside0.mk H
            clear H
            go_wp2
            go_meet
            case rel => exact ⟨_, H', ⟨by have := HJ5.out; first | omega | exact Nat.le_refl _⟩, ⟨by repeat (first | (with_reducible first | exact HB.out | apply below_alloc | apply pw_below_drewN | apply below_drew1) | exact HB.out)⟩⟩
        case rest =>
          clear HC14
          try clear c1
          try clear c2
          try clear p2
          try clear c4
          try clear c5
          try clear c6
          try clear c7
          try clear c7b0
          try clear c7b1
          try clear c8
          try clear c8b0
          try clear c8b1
          try clear c9
          try clear c9b0
          try clear c9b1
          try clear c10
          try clear c14
          try clear c16
          try clear c16b0
          try clear c16b1
          try clear c19
          try clear c19b0
          try clear c19b1
          try clear c20
          try clear c20b0
          try clear c20b1
          try clear c21
          try clear c21b0
          try clear c21b1
          try clear c22
          try clear c22b0
          try clear c22b1
          try clear c24
          try clear c24b0
          try clear c24b1
          try clear p2
          obtain ⟨kq, HA, HJ13, HB⟩ := hcut
          cases kq with
          | zero => exact absurd HA.out (by simp [clavigerlaw36_LoadBack.j1])
          | succ kj13 =>
            have H := HA.out
            clear HA
            simp only [clavigerlaw36_LoadBack.j1] at H
            replace H := Option.bind_eq_some_iff.mp H
            obtain ⟨⟨t195, t196, t197, t198⟩, A270, H⟩ := H
            replace H : (if t198 = 0 then ((load_Make.f kj13 t195 t196 t197).bind fun bt199 => (if bt199.1.toList = a4.toList then (if bt199.2 = 0 then ((clavigerlaw36_awake.f kj13).bind fun t201 => (some t201)) else (some false)) else (some false))) else (if t195 = 0 then (if t196.toList = ([] : List UInt8) then (if t197.toList = ([] : List UInt8) then ((clavigerlaw36_awake.f kj13).bind fun t202 => (some t202)) else (some false)) else (some false)) else (some false))) = some r := H
            have A27 := Aside0.mk A270
            clear A270
            by_cases c28 : t198 = 0
            · rw [if_pos c28] at H
              have c28b0 : (t198 == 0) = true := beq_iff_eq.mpr c28
              have c28b1 : (t198 != 0) = false := bne_eq_false_iff_eq.mpr c28
              clear c28
              replace H := Option.bind_eq_some_iff.mp H
              obtain ⟨⟨t199, t200⟩, A290, H⟩ := H
              replace H : (if t199.toList = a4.toList then (if t200 = 0 then ((clavigerlaw36_awake.f kj13).bind fun t201 => (some t201)) else (some false)) else (some false)) = some r := H
              have A29 := Aside0.mk A290
              clear A290
              by_cases c30 : t199.toList = a4.toList
              · rw [if_pos c30] at H
                have c30b0 : (t199.toList == a4.toList) = true := beq_iff_eq.mpr c30
                have c30b1 : (t199.toList != a4.toList) = false := bne_eq_false_iff_eq.mpr c30
                clear c30
                by_cases c31 : t200 = 0
                · rw [if_pos c31] at H
                  have c31b0 : (t200 == 0) = true := beq_iff_eq.mpr c31
                  have c31b1 : (t200 != 0) = false := bne_eq_false_iff_eq.mpr c31
                  clear c31
                  replace H := Option.bind_eq_some_iff.mp H
                  obtain ⟨t201, A320, H⟩ := H
                  replace H : (some t201) = some r := H
                  have A32 := Aside0.mk A320
                  clear A320
                  obtain rfl := Option.some.inj H
                  go_wp2_with (first | ((with_reducible refine gate_callee (f := 8) rfl ?_); refine goesL_ (some 89) rfl rfl Tryd.func8 (by kernel_rfl) rfl #[.string a3, .string a4] rfl (by (try simp only [List.map_toArray, List.map_cons, List.map_nil]); first | done | rfl | (simp only [List.length_drop, List.length_take]; rfl)) ?_; (with_reducible refine (load_Take.calls kj13 a3 a4 t195 t196 t197 t198 _ A27.out).mono ?_); rintro e w33 ⟨rfl, hb⟩; refine ⟨_, rfl, ?_⟩; have n0_ := Aside0.mk (below_step (by repeat (first | (with_reducible first | exact HB.out | apply below_alloc | apply pw_below_drewN | apply below_drew1) | exact HB.out)) hb); clear HB; have HB := n0_; clear n0_; (try clear hb); (try clear hb2); (try clear hk); (try clear hi)) | ((with_reducible refine gate_callee (f := 6) rfl ?_); refine goesL_ (some 113) rfl rfl Tryd.func6 (by kernel_rfl) rfl #[.int .i64 t195, .string t196, .string t197] rfl (by (try simp only [List.map_toArray, List.map_cons, List.map_nil]); first | done | rfl | (simp only [List.length_drop, List.length_take]; rfl)) ?_; (with_reducible refine (load_Make.calls kj13 t195 t196 t197 t199 t200 _ A29.out).mono ?_); rintro e w34 ⟨rfl, hb⟩; refine ⟨_, rfl, ?_⟩; have n0_ := Aside0.mk (below_step (by repeat (first | (with_reducible first | exact HB.out | apply below_alloc | apply pw_below_drewN | apply below_drew1) | exact HB.out)) hb); clear HB; have HB := n0_; clear n0_; (try clear hb); (try clear hb2); (try clear hk); (try clear hi)) | (go_at_call 5; (with_reducible refine (clavigerlaw36_awake.calls kj13  t201 _ A32.out).mono ?_); rintro e w35 ⟨rfl, hb⟩; have n0_ := Aside0.mk (below_step (by repeat (first | (with_reducible first | exact HB.out | apply below_alloc | apply pw_below_drewN | apply below_drew1) | exact HB.out)) hb); clear HB; have HB := n0_; clear n0_; (try clear hb); (try clear hb2); (try clear hk); (try clear hi)))
                  go_ret
                  exact ⟨by first | rfl | (simp [errW_none, errW_some] <;> rfl) | (simp [*, errW_none, errW_some] <;> rfl), by repeat (first | (with_reducible first | exact HB.out | apply below_alloc | apply pw_below_drewN | apply below_drew1) | exact HB.out)⟩
                · rw [if_neg c31] at H
                  have c31b0 : (t200 == 0) = false := beq_eq_false_iff_ne.mpr c31
                  have c31b1 : (t200 != 0) = true := bne_iff_ne.mpr c31
                  exact absurd ((Option.some.inj H).trans HR_.out) (by decide)
              · rw [if_neg c30] at H
                have c30b0 : (t199.toList == a4.toList) = false := beq_eq_false_iff_ne.mpr c30
                have c30b1 : (t199.toList != a4.toList) = true := bne_iff_ne.mpr c30
                exact absurd ((Option.some.inj H).trans HR_.out) (by decide)
            · rw [if_neg c28] at H
              have c28b0 : (t198 == 0) = false := beq_eq_false_iff_ne.mpr c28
              have c28b1 : (t198 != 0) = true := bne_iff_ne.mpr c28
              by_cases c36 : t195 = 0
              · rw [if_pos c36] at H
                have c36b0 : (t195 == 0) = true := beq_iff_eq.mpr c36
                have c36b1 : (t195 != 0) = false := bne_eq_false_iff_eq.mpr c36
                clear c36
                by_cases c37 : t196.toList = ([] : List UInt8)
                · rw [if_pos c37] at H
                  have c37b0 : (t196.toList == ([] : List UInt8)) = true := beq_iff_eq.mpr c37
                  have c37b1 : (t196.toList != ([] : List UInt8)) = false := bne_eq_false_iff_eq.mpr c37
                  clear c37
                  by_cases c38 : t197.toList = ([] : List UInt8)
                  · rw [if_pos c38] at H
                    have c38b0 : (t197.toList == ([] : List UInt8)) = true := beq_iff_eq.mpr c38
                    have c38b1 : (t197.toList != ([] : List UInt8)) = false := bne_eq_false_iff_eq.mpr c38
                    clear c38
                    replace H := Option.bind_eq_some_iff.mp H
                    obtain ⟨t202, A390, H⟩ := H
                    replace H : (some t202) = some r := H
                    have A39 := Aside0.mk A390
                    clear A390
                    obtain rfl := Option.some.inj H
                    go_wp2_with (first | ((with_reducible refine gate_callee (f := 8) rfl ?_); refine goesL_ (some 89) rfl rfl Tryd.func8 (by kernel_rfl) rfl #[.string a3, .string a4] rfl (by (try simp only [List.map_toArray, List.map_cons, List.map_nil]); first | done | rfl | (simp only [List.length_drop, List.length_take]; rfl)) ?_; (with_reducible refine (load_Take.calls kj13 a3 a4 t195 t196 t197 t198 _ A27.out).mono ?_); rintro e w40 ⟨rfl, hb⟩; refine ⟨_, rfl, ?_⟩; have n0_ := Aside0.mk (below_step (by repeat (first | (with_reducible first | exact HB.out | apply below_alloc | apply pw_below_drewN | apply below_drew1) | exact HB.out)) hb); clear HB; have HB := n0_; clear n0_; (try clear hb); (try clear hb2); (try clear hk); (try clear hi)) | (go_at_call 5; (with_reducible refine (clavigerlaw36_awake.calls kj13  t202 _ A39.out).mono ?_); rintro e w41 ⟨rfl, hb⟩; have n0_ := Aside0.mk (below_step (by repeat (first | (with_reducible first | exact HB.out | apply below_alloc | apply pw_below_drewN | apply below_drew1) | exact HB.out)) hb); clear HB; have HB := n0_; clear n0_; (try clear hb); (try clear hb2); (try clear hk); (try clear hi)))
                    go_ret
                    exact ⟨by first | rfl | (simp [errW_none, errW_some] <;> rfl) | (simp [*, errW_none, errW_some] <;> rfl), by repeat (first | (with_reducible first | exact HB.out | apply below_alloc | apply pw_below_drewN | apply below_drew1) | exact HB.out)⟩
                  · rw [if_neg c38] at H
                    have c38b0 : (t197.toList == ([] : List UInt8)) = false := beq_eq_false_iff_ne.mpr c38
                    have c38b1 : (t197.toList != ([] : List UInt8)) = true := bne_iff_ne.mpr c38
                    exact absurd ((Option.some.inj H).trans HR_.out) (by decide)
                · rw [if_neg c37] at H
                  have c37b0 : (t196.toList == ([] : List UInt8)) = false := beq_eq_false_iff_ne.mpr c37
                  have c37b1 : (t196.toList != ([] : List UInt8)) = true := bne_iff_ne.mpr c37
                  exact absurd ((Option.some.inj H).trans HR_.out) (by decide)
              · rw [if_neg c36] at H
                have c36b0 : (t195 == 0) = false := beq_eq_false_iff_ne.mpr c36
                have c36b1 : (t195 != 0) = true := bne_iff_ne.mpr c36
                exact absurd ((Option.some.inj H).trans HR_.out) (by decide)

/-- THE ONE PURE STATEMENT of clavigerlaw36_LoadBack: yours. -/
def clavigerlaw36_LoadBack.Pure : Prop := ∀ (a0 : Int) (a1 : ByteArray) (a2 : ByteArray) (a3 : ByteArray) (a4 : ByteArray), (Lit.int .i64 a0).wf = true → a1.size ≤ 140737488351232 → a2.size ≤ 140737488351232 → a3.size ≤ 140737488351232 → a4.size ≤ 140737488351232 → ∃ k, clavigerlaw36_LoadBack.f k a0 a1 a2 a3 a4 = some true
theorem clavigerlaw36_LoadBack.walk (P : clavigerlaw36_LoadBack.Pure) (a0 : Int) (a1 : ByteArray) (a2 : ByteArray) (a3 : ByteArray) (a4 : ByteArray) (w : World) (w0 : (Lit.int .i64 a0).wf = true) (w1 : a1.size ≤ 140737488351232) (w2 : a2.size ≤ 140737488351232) (w3 : a3.size ≤ 140737488351232) (w4 : a4.size ≤ 140737488351232) :
    Calls Tryd.prog 4 #[.int .i64 a0, .string a1, .string a2, .string a3, .string a4] w fun e w' => e = .returned (.bool true) ∧ Below w.heap.size w w' := by
  obtain ⟨k, h⟩ := P a0 a1 a2 a3 a4 w0 w1 w2 w3 w4
  refine (clavigerlaw36_LoadBack.calls k a0 a1 a2 a3 a4 true w ⟨rfl⟩ h).mono ?_
  rintro e w' ⟨rfl, hd⟩
  exact ⟨rfl, hd⟩

end Go.Proofs.YtgkiikdfmjhnjaaDoor.PLoadBack
