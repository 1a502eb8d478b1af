-- laid by a program out of the translation and of templates; not trusted: Lean checks it
import Derived.Test.YtjelhckfncffpaaPSetofTellsx0
import Derived.Test.YtjelhckfncffpaaPSetofTellsx1
import Derived.Test.YtjelhckfncffpaaPSetofTellsx2
import Derived.Test.YtjelhckfncffpaaPSetofTellsx3
import Derived.Test.YtjelhckfncffpaaPSetofTellsx4
namespace Go.Proofs.Ytjelhckfncffpaa.PSetofTells
open Go.RowKit Go.Proofs.YtjelhckfncffpaaW.PrintWords Go.Proofs.YtjelhckfncffpaaW.PrintLast Go.Proofs.YtjelhckfncffpaaW.PrintMore
attribute [local go_sem high] c_add c_eql c_neq
attribute [local go_sem] str_leq str_gtr str_geq max2_int min2_int max_two min_two max_three min_three max_four min_four   -- for this text's walks alone
set_option linter.unusedVariables false
set_option linter.unusedSimpArgs false

/-! ### clavigerlaw21_SetofTells: function 3 -/
def clavigerlaw21_SetofTells.j0 : Nat → ByteArray → ByteArray → List ByteArray → Bool → Option (Bool)
  | 0, _, _, _, _ => none
  | k + 1, x0, x1, x2, x23 => if x23 = true then ((clavigerlaw21_awake.f k).bind fun t176 => (some t176)) else ((setof_Place.f k x2 x0).bind fun bt177 => ((clavigerref21_Place.f k x2 x0).bind fun bt179 => ((setof_Less.f k x0 x1).bind fun t181 => ((clavigerref21_Less.f k x0 x1).bind fun t182 => (if (t181 == t182) = true then ((setof_Sort.f x2).bind fun t183 => ((clavigerref21_Sort.f k x2).bind fun t186 => ((slices_Equal_string_string.f k t183 t186).bind fun t189 => (if t189 = true then ((setof_Rises.f k x2).bind fun t190 => ((clavigerref21_Rises.f k x2).bind fun t191 => (if (t190 == t191) = true then (if bt177.1 = bt179.1 then (if (bt177.2 == bt179.2) = true then ((clavigerlaw21_awake.f k).bind fun t192 => (some t192)) else (some false)) else (some false)) else (some false)))) else (some false))))) else (some false))))))
def clavigerlaw21_SetofTells.f (k : Nat) (a0 : ByteArray) (a1 : ByteArray) (l2 : List ByteArray) : Option (Bool) := if (a0.size : Int) > 200 then (clavigerlaw21_SetofTells.j0 k a0 a1 l2 true) else (if (a1.size : Int) > 200 then (clavigerlaw21_SetofTells.j0 k a0 a1 l2 true) else ((clavigerplain_Shorts.f k l2 30 100).bind fun t175 => (clavigerlaw21_SetofTells.j0 k a0 a1 l2 (!t175))))
theorem clavigerlaw21_SetofTells.mono_l : ∀ k, (∀ y0 y1 y2 y3, LeO (clavigerlaw21_SetofTells.j0 k y0 y1 y2 y3) (clavigerlaw21_SetofTells.j0 (k + 1) y0 y1 y2 y3))
  | 0 => fun _ _ _ _ r h => by simp [clavigerlaw21_SetofTells.j0] at h
  | k + 1 => by
    have ih0 := clavigerlaw21_SetofTells.mono_l k
    · intro y0 y1 y2 y3
      unfold clavigerlaw21_SetofTells.j0
      repeat' first
      | (with_reducible exact ih0 _ _ _ _)
      | (with_reducible exact clavigerlaw21_awake.mono _)
      | (with_reducible exact clavigerplain_Shorts.mono _ _ _ _)
      | (with_reducible exact clavigerref21_Less.mono _ _ _)
      | (with_reducible exact clavigerref21_Place.mono _ _ _)
      | (with_reducible exact clavigerref21_Rises.mono _ _)
      | (with_reducible exact clavigerref21_Sort.mono _ _)
      | (with_reducible exact setof_Less.mono _ _ _)
      | (with_reducible exact setof_Place.mono _ _ _)
      | (with_reducible exact setof_Rises.mono _ _)
      | (with_reducible exact slices_Equal_string_string.mono _ _ _)
      | (with_reducible exact LeO.refl _)
      | (with_reducible exact LeO.none _)
      | (with_reducible refine LeO.ite ?_ ?_)
      | (with_reducible refine LeO.bind ?_ (fun _ => ?_))
      | exact ih0 _ _ _ _
      | exact clavigerlaw21_awake.mono _
      | exact clavigerplain_Shorts.mono _ _ _ _
      | exact clavigerref21_Less.mono _ _ _
      | exact clavigerref21_Place.mono _ _ _
      | exact clavigerref21_Rises.mono _ _
      | exact clavigerref21_Sort.mono _ _
      | exact setof_Less.mono _ _ _
      | exact setof_Place.mono _ _ _
      | exact setof_Rises.mono _ _
      | exact slices_Equal_string_string.mono _ _ _
      | exact LeO.none _
      | refine LeO.ite ?_ ?_
      | refine LeO.bind ?_ (fun _ => ?_)
theorem clavigerlaw21_SetofTells.mono : ∀ a0 a1 a2 k, LeO (clavigerlaw21_SetofTells.f k a0 a1 a2) (clavigerlaw21_SetofTells.f (k + 1) a0 a1 a2) := by
  intro a0 a1 a2 k
  have ih0 := clavigerlaw21_SetofTells.mono_l k
  unfold clavigerlaw21_SetofTells.f
  repeat' first
      | (with_reducible exact ih0 _ _ _ _)
      | (with_reducible exact clavigerlaw21_awake.mono _)
      | (with_reducible exact clavigerplain_Shorts.mono _ _ _ _)
      | (with_reducible exact clavigerref21_Less.mono _ _ _)
      | (with_reducible exact clavigerref21_Place.mono _ _ _)
      | (with_reducible exact clavigerref21_Rises.mono _ _)
      | (with_reducible exact clavigerref21_Sort.mono _ _)
      | (with_reducible exact setof_Less.mono _ _ _)
      | (with_reducible exact setof_Place.mono _ _ _)
      | (with_reducible exact setof_Rises.mono _ _)
      | (with_reducible exact slices_Equal_string_string.mono _ _ _)
      | (with_reducible exact LeO.refl _)
      | (with_reducible exact LeO.none _)
      | (with_reducible refine LeO.ite ?_ ?_)
      | (with_reducible refine LeO.bind ?_ (fun _ => ?_))
      | exact ih0 _ _ _ _
      | exact clavigerlaw21_awake.mono _
      | exact clavigerplain_Shorts.mono _ _ _ _
      | exact clavigerref21_Less.mono _ _ _
      | exact clavigerref21_Place.mono _ _ _
      | exact clavigerref21_Rises.mono _ _
      | exact clavigerref21_Sort.mono _ _
      | exact setof_Less.mono _ _ _
      | exact setof_Place.mono _ _ _
      | exact setof_Rises.mono _ _
      | exact slices_Equal_string_string.mono _ _ _
      | exact LeO.none _
      | refine LeO.ite ?_ ?_
      | refine LeO.bind ?_ (fun _ => ?_)
set_option maxHeartbeats 8000000 in
set_option maxRecDepth 100000 in
theorem clavigerlaw21_SetofTells.calls (k : Nat) (a0 : ByteArray) (a1 : ByteArray) (A2 : Option Addr) (c2 : Nat) (l2 : List ByteArray) (r : Bool) (w : World) (hr2 : Kd.C Kd.string w A2 l2.length l2) (hc2 : l2.length ≤ c2) (HR_ : Aside0 (r = true)) (h : clavigerlaw21_SetofTells.f k a0 a1 l2 = some r) :
    Calls Try.prog 3 #[.string a0, .string a1, .slice A2 l2.length c2] w fun e w' => e = .returned (.bool r) ∧ Below w.heap.size w w' := by
  have HR2 := Aside0.mk hr2
  have HC2 := Aside0.mk hc2
  clear hr2 hc2
  have HB := Aside0.mk (Below.refl w.heap.size w)
  have H : (if (a0.size : Int) > 200 then (clavigerlaw21_SetofTells.j0 k a0 a1 l2 true) else (if (a1.size : Int) > 200 then (clavigerlaw21_SetofTells.j0 k a0 a1 l2 true) else ((clavigerplain_Shorts.f k l2 30 100).bind fun t175 => (clavigerlaw21_SetofTells.j0 k a0 a1 l2 (!t175))))) = some r := h
  clear h
  have HC4 := Aside0.mk H
  clear H
  go_enter Try.func3, Try.ntmps3
  go_upto_region 1 with (fail)
  go_cut [23] (fun v23 wc => ∃ (kq : Nat) (x23_3 : Bool), v23 = .bool x23_3 ∧ Aside0 (clavigerlaw21_SetofTells.j0 kq a0 a1 l2 x23_3 = some r) ∧ Aside0 (kq ≤ k) ∧ Aside0 (Below w.heap.size w wc))
  case first =>
    have H := HC4.out
    clear HC4
    by_cases c5 : (a0.size : Int) > 200
    · rw [if_pos c5] at H
      have c5b0 : decide (200 < (a0.size : Int)) = true := decide_eq_true c5
      have c5b1 : decide (200 < a0.size) = true := decide_eq_true (by omega)
      clear c5
      (first | rw [c5b0] | (simp only [i64_w, i32_w]; rw [c5b0]) | skip)
      have H' := Aside0.mk H
      clear H
      go_wp2
      go_meet
      case rel => exact ⟨_, (true), (by first | rfl | (simp; done) | (simp [*]; done)), H', ⟨by first | omega | exact Nat.le_refl _⟩, ⟨by repeat (first | (with_reducible first | exact HB.out | apply below_alloc | apply pw_below_drewN | apply below_drew1) | exact HB.out)⟩⟩
    · rw [if_neg c5] at H
      have c5b0 : decide (200 < (a0.size : Int)) = false := decide_eq_false c5
      have c5b1 : decide (200 < a0.size) = false := decide_eq_false (by omega)
      clear c5
      (first | rw [c5b0] | (simp only [i64_w, i32_w]; rw [c5b0]) | skip)
      by_cases c6 : (a1.size : Int) > 200
      · rw [if_pos c6] at H
        have c6b0 : decide (200 < (a1.size : Int)) = true := decide_eq_true c6
        have c6b1 : decide (200 < a1.size) = true := decide_eq_true (by omega)
        clear c6
        have H' := Aside0.mk H
        clear H
        go_wp2
        go_meet
        case rel => exact ⟨_, (true), (by first | rfl | (simp; done) | (simp [*]; done)), H', ⟨by first | omega | exact Nat.le_refl _⟩, ⟨by repeat (first | (with_reducible first | exact HB.out | apply below_alloc | apply pw_below_drewN | apply below_drew1) | exact HB.out)⟩⟩
      · rw [if_neg c6] at H
        have c6b0 : decide (200 < (a1.size : Int)) = false := decide_eq_false c6
        have c6b1 : decide (200 < a1.size) = false := decide_eq_false (by omega)
        clear c6
        replace H := Option.bind_eq_some_iff.mp H
        obtain ⟨t175, A70, H⟩ := H
        replace H : (clavigerlaw21_SetofTells.j0 k a0 a1 l2 (!t175)) = some r := H
        have A7 := Aside0.mk A70
        clear A70
        have H' := Aside0.mk H
        clear H
        go_wp2_with (first | (go_at_call 5; (with_reducible refine (clavigerplain_Shorts.calls k _ _ l2 30 100 t175 _ ?side1 ?side2 A7.out).mono ?_); (case side1 => repeat (first | exact (Kd.C_below HR2.out HB.out) | (with_reducible refine Kd.C_alloc ?_ _) | (with_reducible refine Kd.C_drewN ?_ _) | (with_reducible refine Kd.C_drew ?_))); (case side2 => exact HC2.out); rintro e w' ⟨rfl, ⟨nd, rfl⟩⟩))
        go_meet
        case rel => exact ⟨_, (!t175), (by first | rfl | (simp; done) | (simp [*]; done)), H', ⟨by first | omega | exact Nat.le_refl _⟩, ⟨by repeat (first | (with_reducible first | exact HB.out | apply below_alloc | apply pw_below_drewN | apply below_drew1) | exact HB.out)⟩⟩
  case rest =>
    clear HC4
    try clear c2
    try clear p2
    try clear c3
    try clear c5
    try clear c5b0
    try clear c5b1
    try clear c6
    try clear c6b0
    try clear c6b1
    obtain ⟨kq, x23_3, rfl, HA, HJ3, HB⟩ := hcut
    cases kq with
    | zero => exact absurd HA.out (by simp [clavigerlaw21_SetofTells.j0])
    | succ kj3 =>
      have H := HA.out
      clear HA
      simp only [clavigerlaw21_SetofTells.j0] at H
      by_cases c8 : x23_3 = true
      · subst c8
        have H1 : ((clavigerlaw21_awake.f kj3).bind fun t176 => (some t176)) = some r := by rw [if_pos rfl] at H; exact H
        clear H
        have H := H1
        clear H1
        replace H := Option.bind_eq_some_iff.mp H
        obtain ⟨t176, A90, H⟩ := H
        replace H : (some t176) = some r := H
        have A9 := Aside0.mk A90
        clear A90
        obtain rfl := Option.some.inj H
        go_wp2_with (first | ((with_reducible refine gate_callee (f := 6) rfl ?_); refine goesL_ (some 24) rfl rfl Try.func6 (by kernel_rfl) rfl #[] rfl (by (try simp only [List.map_toArray, List.map_cons, List.map_nil]); first | done | rfl | (simp only [List.length_drop, List.length_take]; rfl) | exact congrArg (fun z => #[Value.int .i64 z]) (w64 (by omega) (by omega)).symm) ?_; (with_reducible refine (clavigerlaw21_awake.calls kj3  t176 _ A9.out).mono ?_); rintro e w10 ⟨rfl, hb⟩; refine ⟨_, rfl, ?_⟩; have n0_ := Aside0.mk (below_step (by repeat (first | (with_reducible first | exact HB.out | apply below_alloc | apply pw_below_drewN | apply below_drew1) | exact HB.out)) hb); clear HB; have HB := n0_; clear n0_; (try clear hb); (try clear hb2); (try clear hk); (try clear hi)))
        go_ret
        exact ⟨by first | rfl | (simp [errW_none, errW_some] <;> rfl) | (simp [*, errW_none, errW_some] <;> rfl), by repeat (first | (with_reducible first | exact HB.out | apply below_alloc | apply pw_below_drewN | apply below_drew1) | exact HB.out)⟩
      · replace c8 := Bool.eq_false_iff.mpr c8
        subst c8
        have H1 : ((setof_Place.f kj3 l2 a0).bind fun bt177 => ((clavigerref21_Place.f kj3 l2 a0).bind fun bt179 => ((setof_Less.f kj3 a0 a1).bind fun t181 => ((clavigerref21_Less.f kj3 a0 a1).bind fun t182 => (if (t181 == t182) = true then ((setof_Sort.f l2).bind fun t183 => ((clavigerref21_Sort.f kj3 l2).bind fun t186 => ((slices_Equal_string_string.f kj3 t183 t186).bind fun t189 => (if t189 = true then ((setof_Rises.f kj3 l2).bind fun t190 => ((clavigerref21_Rises.f kj3 l2).bind fun t191 => (if (t190 == t191) = true then (if bt177.1 = bt179.1 then (if (bt177.2 == bt179.2) = true then ((clavigerlaw21_awake.f kj3).bind fun t192 => (some t192)) else (some false)) else (some false)) else (some false)))) else (some false))))) else (some false)))))) = some r := by rw [if_neg (show ¬ (false = true) by decide)] at H; exact H
        clear H
        have H := H1
        clear H1
        replace H := Option.bind_eq_some_iff.mp H
        obtain ⟨⟨t177, t178⟩, A110, H⟩ := H
        replace H : ((clavigerref21_Place.f kj3 l2 a0).bind fun bt179 => ((setof_Less.f kj3 a0 a1).bind fun t181 => ((clavigerref21_Less.f kj3 a0 a1).bind fun t182 => (if (t181 == t182) = true then ((setof_Sort.f l2).bind fun t183 => ((clavigerref21_Sort.f kj3 l2).bind fun t186 => ((slices_Equal_string_string.f kj3 t183 t186).bind fun t189 => (if t189 = true then ((setof_Rises.f kj3 l2).bind fun t190 => ((clavigerref21_Rises.f kj3 l2).bind fun t191 => (if (t190 == t191) = true then (if t177 = bt179.1 then (if (t178 == bt179.2) = true then ((clavigerlaw21_awake.f kj3).bind fun t192 => (some t192)) else (some false)) else (some false)) else (some false)))) else (some false))))) else (some false))))) = some r := H
        have A11 := Aside0.mk A110
        clear A110
        replace H := Option.bind_eq_some_iff.mp H
        obtain ⟨⟨t179, t180⟩, A120, H⟩ := H
        replace H : ((setof_Less.f kj3 a0 a1).bind fun t181 => ((clavigerref21_Less.f kj3 a0 a1).bind fun t182 => (if (t181 == t182) = true then ((setof_Sort.f l2).bind fun t183 => ((clavigerref21_Sort.f kj3 l2).bind fun t186 => ((slices_Equal_string_string.f kj3 t183 t186).bind fun t189 => (if t189 = true then ((setof_Rises.f kj3 l2).bind fun t190 => ((clavigerref21_Rises.f kj3 l2).bind fun t191 => (if (t190 == t191) = true then (if t177 = t179 then (if (t178 == t180) = true then ((clavigerlaw21_awake.f kj3).bind fun t192 => (some t192)) else (some false)) else (some false)) else (some false)))) else (some false))))) else (some false)))) = some r := H
        have A12 := Aside0.mk A120
        clear A120
        replace H := Option.bind_eq_some_iff.mp H
        obtain ⟨t181, A130, H⟩ := H
        replace H : ((clavigerref21_Less.f kj3 a0 a1).bind fun t182 => (if (t181 == t182) = true then ((setof_Sort.f l2).bind fun t183 => ((clavigerref21_Sort.f kj3 l2).bind fun t186 => ((slices_Equal_string_string.f kj3 t183 t186).bind fun t189 => (if t189 = true then ((setof_Rises.f kj3 l2).bind fun t190 => ((clavigerref21_Rises.f kj3 l2).bind fun t191 => (if (t190 == t191) = true then (if t177 = t179 then (if (t178 == t180) = true then ((clavigerlaw21_awake.f kj3).bind fun t192 => (some t192)) else (some false)) else (some false)) else (some false)))) else (some false))))) else (some false))) = some r := H
        have A13 := Aside0.mk A130
        clear A130
        replace H := Option.bind_eq_some_iff.mp H
        obtain ⟨t182, A140, H⟩ := H
        replace H : (if (t181 == t182) = true then ((setof_Sort.f l2).bind fun t183 => ((clavigerref21_Sort.f kj3 l2).bind fun t186 => ((slices_Equal_string_string.f kj3 t183 t186).bind fun t189 => (if t189 = true then ((setof_Rises.f kj3 l2).bind fun t190 => ((clavigerref21_Rises.f kj3 l2).bind fun t191 => (if (t190 == t191) = true then (if t177 = t179 then (if (t178 == t180) = true then ((clavigerlaw21_awake.f kj3).bind fun t192 => (some t192)) else (some false)) else (some false)) else (some false)))) else (some false))))) else (some false)) = some r := H
        have A14 := Aside0.mk A140
        clear A140
        by_cases c15 : (t181 == t182) = true
        · rw [if_pos c15] at H
          have c15b0 : (t181 == t182) = true := c15
          (try (have c15b1 : decide (t181 = t182) = true := by simpa using c15))
          (try (have c15b2 : (t181 == t182) = true := by simpa using c15))
          clear c15
          replace H := Option.bind_eq_some_iff.mp H
          obtain ⟨t183, A160, H⟩ := H
          replace H : ((clavigerref21_Sort.f kj3 l2).bind fun t186 => ((slices_Equal_string_string.f kj3 t183 t186).bind fun t189 => (if t189 = true then ((setof_Rises.f kj3 l2).bind fun t190 => ((clavigerref21_Rises.f kj3 l2).bind fun t191 => (if (t190 == t191) = true then (if t177 = t179 then (if (t178 == t180) = true then ((clavigerlaw21_awake.f kj3).bind fun t192 => (some t192)) else (some false)) else (some false)) else (some false)))) else (some false)))) = some r := H
          have A16 := Aside0.mk A160
          clear A160
          replace H := Option.bind_eq_some_iff.mp H
          obtain ⟨t186, A170, H⟩ := H
          replace H : ((slices_Equal_string_string.f kj3 t183 t186).bind fun t189 => (if t189 = true then ((setof_Rises.f kj3 l2).bind fun t190 => ((clavigerref21_Rises.f kj3 l2).bind fun t191 => (if (t190 == t191) = true then (if t177 = t179 then (if (t178 == t180) = true then ((clavigerlaw21_awake.f kj3).bind fun t192 => (some t192)) else (some false)) else (some false)) else (some false)))) else (some false))) = some r := H
          have A17 := Aside0.mk A170
          clear A170
          replace H := Option.bind_eq_some_iff.mp H
          obtain ⟨t189, A180, H⟩ := H
          replace H : (if t189 = true then ((setof_Rises.f kj3 l2).bind fun t190 => ((clavigerref21_Rises.f kj3 l2).bind fun t191 => (if (t190 == t191) = true then (if t177 = t179 then (if (t178 == t180) = true then ((clavigerlaw21_awake.f kj3).bind fun t192 => (some t192)) else (some false)) else (some false)) else (some false)))) else (some false)) = some r := H
          have A18 := Aside0.mk A180
          clear A180
          by_cases c19 : t189 = true
          · subst c19
            have H1 : ((setof_Rises.f kj3 l2).bind fun t190 => ((clavigerref21_Rises.f kj3 l2).bind fun t191 => (if (t190 == t191) = true then (if t177 = t179 then (if (t178 == t180) = true then ((clavigerlaw21_awake.f kj3).bind fun t192 => (some t192)) else (some false)) else (some false)) else (some false)))) = some r := by rw [if_pos rfl] at H; exact H
            clear H
            have H := H1
            clear H1
            replace H := Option.bind_eq_some_iff.mp H
            obtain ⟨t190, A200, H⟩ := H
            replace H : ((clavigerref21_Rises.f kj3 l2).bind fun t191 => (if (t190 == t191) = true then (if t177 = t179 then (if (t178 == t180) = true then ((clavigerlaw21_awake.f kj3).bind fun t192 => (some t192)) else (some false)) else (some false)) else (some false))) = some r := H
            have A20 := Aside0.mk A200
            clear A200
            replace H := Option.bind_eq_some_iff.mp H
            obtain ⟨t191, A210, H⟩ := H
            replace H : (if (t190 == t191) = true then (if t177 = t179 then (if (t178 == t180) = true then ((clavigerlaw21_awake.f kj3).bind fun t192 => (some t192)) else (some false)) else (some false)) else (some false)) = some r := H
            have A21 := Aside0.mk A210
            clear A210
            by_cases c22 : (t190 == t191) = true
            · rw [if_pos c22] at H
              have c22b0 : (t190 == t191) = true := c22
              (try (have c22b1 : decide (t190 = t191) = true := by simpa using c22))
              (try (have c22b2 : (t190 == t191) = true := by simpa using c22))
              clear c22
              by_cases c23 : t177 = t179
              · rw [if_pos c23] at H
                have c23b0 : (t177 == t179) = true := beq_iff_eq.mpr c23
                have c23b1 : (t177 != t179) = false := bne_eq_false_iff_eq.mpr c23
                clear c23
                by_cases c24 : (t178 == t180) = true
                · rw [if_pos c24] at H
                  have c24b0 : (t178 == t180) = true := c24
                  (try (have c24b1 : decide (t178 = t180) = true := by simpa using c24))
                  (try (have c24b2 : (t178 == t180) = true := by simpa using c24))
                  clear c24
                  replace H := Option.bind_eq_some_iff.mp H
                  obtain ⟨t192, A250, H⟩ := H
                  replace H : (some t192) = some r := H
                  have A25 := Aside0.mk A250
                  clear A250
                  obtain rfl := Option.some.inj H
                  go_wp2_with (first | ((with_reducible refine gate_callee (f := 7) rfl ?_); refine goesL_ (some 28) rfl rfl Try.func7 (by kernel_rfl) rfl #[.slice A2 l2.length c2, .string a0] rfl (by (try simp only [List.map_toArray, List.map_cons, List.map_nil]); first | done | rfl | (simp only [List.length_drop, List.length_take]; rfl) | exact congrArg (fun z => #[Value.int .i64 z]) (w64 (by omega) (by omega)).symm) ?_; (with_reducible refine (setof_Place.calls kj3 _ _ l2 a0 t177 t178 _ ?side1 ?side2 A11.out).mono ?_); (case side1 => repeat (first | exact (Kd.C_below HR2.out HB.out) | (with_reducible refine Kd.C_alloc ?_ _) | (with_reducible refine Kd.C_drewN ?_ _) | (with_reducible refine Kd.C_drew ?_))); (case side2 => exact HC2.out); rintro e w26 ⟨rfl, hb⟩; refine ⟨_, rfl, ?_⟩; have n0_ := Aside0.mk (below_step (by repeat (first | (with_reducible first | exact HB.out | apply below_alloc | apply pw_below_drewN | apply below_drew1) | exact HB.out)) hb); clear HB; have HB := n0_; clear n0_; (try clear hb); (try clear hb2); (try clear hk); (try clear hi)) | ((with_reducible refine gate_callee (f := 8) rfl ?_); refine goesL_ (some 34) rfl rfl Try.func8 (by kernel_rfl) rfl #[.slice A2 l2.length c2, .string a0] rfl (by (try simp only [List.map_toArray, List.map_cons, List.map_nil]); first | done | rfl | (simp only [List.length_drop, List.length_take]; rfl) | exact congrArg (fun z => #[Value.int .i64 z]) (w64 (by omega) (by omega)).symm) ?_; (with_reducible refine (clavigerref21_Place.calls kj3 _ _ l2 a0 t179 t180 _ ?side1 ?side2 A12.out).mono ?_); (case side1 => repeat (first | exact (Kd.C_below HR2.out HB.out) | (with_reducible refine Kd.C_alloc ?_ _) | (with_reducible refine Kd.C_drewN ?_ _) | (with_reducible refine Kd.C_drew ?_))); (case side2 => exact HC2.out); rintro e w' ⟨rfl, ⟨nd, rfl⟩⟩; refine ⟨_, rfl, ?_⟩) | ((with_reducible refine gate_callee (f := 9) rfl ?_); refine goesL_ (some 39) rfl rfl Try.func9 (by kernel_rfl) rfl #[.string a0, .string a1] rfl (by (try simp only [List.map_toArray, List.map_cons, List.map_nil]); first | done | rfl | (simp only [List.length_drop, List.length_take]; rfl) | exact congrArg (fun z => #[Value.int .i64 z]) (w64 (by omega) (by omega)).symm) ?_; (with_reducible refine (setof_Less.calls kj3 a0 a1 t181 _ A13.out).mono ?_); rintro e w27 ⟨rfl, hb⟩; refine ⟨_, rfl, ?_⟩; have n0_ := Aside0.mk (below_step (by repeat (first | (with_reducible first | exact HB.out | apply below_alloc | apply pw_below_drewN | apply below_drew1) | exact HB.out)) hb); clear HB; have HB := n0_; clear n0_; (try clear hb); (try clear hb2); (try clear hk); (try clear hi)) | ((with_reducible refine gate_callee (f := 10) rfl ?_); refine goesL_ (some 42) rfl rfl Try.func10 (by kernel_rfl) rfl #[.string a0, .string a1] rfl (by (try simp only [List.map_toArray, List.map_cons, List.map_nil]); first | done | rfl | (simp only [List.length_drop, List.length_take]; rfl) | exact congrArg (fun z => #[Value.int .i64 z]) (w64 (by omega) (by omega)).symm) ?_; (with_reducible refine (clavigerref21_Less.calls kj3 a0 a1 t182 _ A14.out).mono ?_); rintro e w' ⟨rfl, ⟨nd, rfl⟩⟩; refine ⟨_, rfl, ?_⟩) | (go_at_call 12; (with_reducible refine (setof_Sort.calls _ _ l2 t183 _ ?side1 ?side2 A16.out).mono ?_); (case side1 => repeat (first | exact (Kd.C_below HR2.out (by repeat (first | (with_reducible first | exact HB.out | apply below_alloc | apply pw_below_drewN | apply below_drew1) | exact HB.out))) | (with_reducible refine Kd.C_alloc ?_ _) | (with_reducible refine Kd.C_drewN ?_ _) | (with_reducible refine Kd.C_drew ?_))); (case side2 => exact HC2.out); rintro e w28 ⟨v184, rfl, ho0, hb⟩; have n0_ := Aside0.mk (Kd.R_lower ho0 (below_size (by repeat (first | (with_reducible first | exact HB.out | apply below_alloc | apply pw_below_drewN | apply below_drew1) | exact HB.out)))); have n1_ := Aside0.mk (below_step (by repeat (first | (with_reducible first | exact HB.out | apply below_alloc | apply pw_below_drewN | apply below_drew1) | exact HB.out)) hb); clear HB; have HO185 := n0_; have HB := n1_; clear n0_ n1_; (try clear hb); (try clear hb2); (try clear hk); (try clear hi); (try clear ho0)) | (go_at_call 13; (with_reducible refine (clavigerref21_Sort.calls kj3 _ _ l2 t186 _ ?side1 ?side2 A17.out).mono ?_); (case side1 => repeat (first | exact (Kd.C_below HR2.out HB.out) | (with_reducible refine Kd.C_alloc ?_ _) | (with_reducible refine Kd.C_drewN ?_ _) | (with_reducible refine Kd.C_drew ?_))); (case side2 => exact HC2.out); rintro e w29 ⟨v187, rfl, ho0, hb⟩; have n0_ := Aside0.mk (Kd.R_elder' (by (with_reducible repeat (first | apply Kd.R_alloc | apply Kd.R_drewN | apply Kd.R_drew)); exact HO185.out) (Kd.R_base ho0) hb); have n1_ := Aside0.mk (Kd.R_lower (Kd.R_new' ho0 (Kd.R_lt (by (with_reducible repeat (first | apply Kd.R_alloc | apply Kd.R_drewN | apply Kd.R_drew)); exact HO185.out))) (below_size (by repeat (first | (with_reducible first | exact HB.out | apply below_alloc | apply pw_below_drewN | apply below_drew1) | exact HB.out)))); have n2_ := Aside0.mk (below_step (by repeat (first | (with_reducible first | exact HB.out | apply below_alloc | apply pw_below_drewN | apply below_drew1) | exact HB.out)) hb); clear HO185; clear HB; have HO185 := n0_; have HO188 := n1_; have HB := n2_; clear n0_ n1_ n2_; (try clear hb); (try clear hb2); (try clear hk); (try clear hi); (try clear ho0); obtain ⟨Ao30, co30, eo30⟩ := Kd.R_slice HO185.out; subst eo30; obtain ⟨Ao31, co31, eo31⟩ := Kd.R_slice HO188.out; subst eo31) | (go_at_call 11; (with_reducible refine (slices_Equal_string_string.calls kj3 _ _ t183 _ _ t186 true _ ?side1 ?side2 ?side3 ?side4 A18.out).mono ?_); (case side1 => repeat (first | exact (Kd.R_reads' HO185.out).2.2 | (with_reducible refine Kd.C_alloc ?_ _) | (with_reducible refine Kd.C_drewN ?_ _) | (with_reducible refine Kd.C_drew ?_))); (case side2 => exact (Kd.R_reads' HO185.out).2.1); (case side3 => repeat (first | exact (Kd.R_reads' HO188.out).2.2 | (with_reducible refine Kd.C_alloc ?_ _) | (with_reducible refine Kd.C_drewN ?_ _) | (with_reducible refine Kd.C_drew ?_))); (case side4 => exact (Kd.R_reads' HO188.out).2.1); rintro e w' ⟨rfl, ⟨nd, rfl⟩⟩) | (go_at_call 14; (with_reducible refine (setof_Rises.calls kj3 _ _ l2 t190 _ ?side1 ?side2 A20.out).mono ?_); (case side1 => repeat (first | exact (Kd.C_below HR2.out (by repeat (first | (with_reducible first | exact HB.out | apply below_alloc | apply pw_below_drewN | apply below_drew1) | exact HB.out))) | (with_reducible refine Kd.C_alloc ?_ _) | (with_reducible refine Kd.C_drewN ?_ _) | (with_reducible refine Kd.C_drew ?_))); (case side2 => exact HC2.out); rintro e w32 ⟨rfl, hb⟩; have n0_ := Aside0.mk (Kd.R_below (by (with_reducible repeat (first | apply Kd.R_alloc | apply Kd.R_drewN | apply Kd.R_drew)); exact HO185.out) hb); have n1_ := Aside0.mk (Kd.R_below (by (with_reducible repeat (first | apply Kd.R_alloc | apply Kd.R_drewN | apply Kd.R_drew)); exact HO188.out) hb); have n2_ := Aside0.mk (below_step (by repeat (first | (with_reducible first | exact HB.out | apply below_alloc | apply pw_below_drewN | apply below_drew1) | exact HB.out)) hb); clear HO185; clear HO188; clear HB; have HO185 := n0_; have HO188 := n1_; have HB := n2_; clear n0_ n1_ n2_; (try clear hb); (try clear hb2); (try clear hk); (try clear hi)) | (go_at_call 15; (with_reducible refine (clavigerref21_Rises.calls kj3 _ _ l2 t191 _ ?side1 ?side2 A21.out).mono ?_); (case side1 => repeat (first | exact (Kd.C_below HR2.out HB.out) | (with_reducible refine Kd.C_alloc ?_ _) | (with_reducible refine Kd.C_drewN ?_ _) | (with_reducible refine Kd.C_drew ?_))); (case side2 => exact HC2.out); rintro e w' ⟨rfl, ⟨nd, rfl⟩⟩) | (go_at_call 6; (with_reducible refine (clavigerlaw21_awake.calls kj3  t192 _ A25.out).mono ?_); rintro e w33 ⟨rfl, hb⟩; have n0_ := Aside0.mk (Kd.R_below (by (with_reducible repeat (first | apply Kd.R_alloc | apply Kd.R_drewN | apply Kd.R_drew)); exact HO185.out) hb); have n1_ := Aside0.mk (Kd.R_below (by (with_reducible repeat (first | apply Kd.R_alloc | apply Kd.R_drewN | apply Kd.R_drew)); exact HO188.out) hb); have n2_ := Aside0.mk (below_step (by repeat (first | (with_reducible first | exact HB.out | apply below_alloc | apply pw_below_drewN | apply below_drew1) | exact HB.out)) hb); clear HO185; clear HO188; clear HB; have HO185 := n0_; have HO188 := n1_; have HB := n2_; clear n0_ n1_ n2_; (try clear hb); (try clear hb2); (try clear hk); (try clear hi)))
                  go_ret
                  exact ⟨by first | rfl | (simp [errW_none, errW_some] <;> rfl) | (simp [*, errW_none, errW_some] <;> rfl), by repeat (first | (with_reducible first | exact HB.out | apply below_alloc | apply pw_below_drewN | apply below_drew1) | exact HB.out)⟩
                · rw [if_neg c24] at H
                  have c24b0 : (t178 == t180) = false := by simpa using c24
                  (try (have c24b1 : decide (t178 = t180) = false := by simpa using c24))
                  (try (have c24b2 : (t178 == t180) = false := by simpa using c24))
                  (try (have c24b3 : ¬ (t178 = t180) := by simpa using c24))
                  clear c24
                  exact absurd ((Option.some.inj H).trans HR_.out) (by decide)
              · rw [if_neg c23] at H
                have c23b0 : (t177 == t179) = false := beq_eq_false_iff_ne.mpr c23
                have c23b1 : (t177 != t179) = true := bne_iff_ne.mpr c23
                exact absurd ((Option.some.inj H).trans HR_.out) (by decide)
            · rw [if_neg c22] at H
              have c22b0 : (t190 == t191) = false := by simpa using c22
              (try (have c22b1 : decide (t190 = t191) = false := by simpa using c22))
              (try (have c22b2 : (t190 == t191) = false := by simpa using c22))
              (try (have c22b3 : ¬ (t190 = t191) := by simpa using c22))
              clear c22
              exact absurd ((Option.some.inj H).trans HR_.out) (by decide)
          · replace c19 := Bool.eq_false_iff.mpr c19
            subst c19
            have H1 : (some false) = some r := by rw [if_neg (show ¬ (false = true) by decide)] at H; exact H
            clear H
            have H := H1
            clear H1
            exact absurd ((Option.some.inj H).trans HR_.out) (by decide)
        · rw [if_neg c15] at H
          have c15b0 : (t181 == t182) = false := by simpa using c15
          (try (have c15b1 : decide (t181 = t182) = false := by simpa using c15))
          (try (have c15b2 : (t181 == t182) = false := by simpa using c15))
          (try (have c15b3 : ¬ (t181 = t182) := by simpa using c15))
          clear c15
          exact absurd ((Option.some.inj H).trans HR_.out) (by decide)


/-- THE ONE PURE STATEMENT of clavigerlaw21_SetofTells: yours. -/
def clavigerlaw21_SetofTells.Pure : Prop := ∀ (a0 : ByteArray) (a1 : ByteArray) (l2 : List ByteArray), a0.size ≤ 140737488351232 → a1.size ≤ 140737488351232 → l2.length ≤ maxLen → (∀ a ∈ l2, a.size ≤ maxLen) → ∃ k, clavigerlaw21_SetofTells.f k a0 a1 l2 = some true
theorem clavigerlaw21_SetofTells.walk (P : clavigerlaw21_SetofTells.Pure) (a0 : ByteArray) (a1 : ByteArray) (A2 : Option Addr) (c2 : Nat) (l2 : List ByteArray) (w : World) (g0_0 : a0.size ≤ 140737488351232) (g1_0 : a1.size ≤ 140737488351232) (hr2 : Kd.C Kd.string w A2 l2.length l2) (hc2 : l2.length ≤ c2) (g2_0 : l2.length ≤ maxLen) (g2_1 : (∀ a ∈ l2, a.size ≤ maxLen)) :
    Calls Try.prog 3 #[.string a0, .string a1, .slice A2 l2.length c2] w fun e w' => e = .returned (.bool true) ∧ Below w.heap.size w w' := by
  obtain ⟨k, h⟩ := P a0 a1 l2 g0_0 g1_0 g2_0 g2_1
  refine (clavigerlaw21_SetofTells.calls k a0 a1 A2 c2 l2 true w hr2 hc2 ⟨rfl⟩ h).mono ?_
  rintro e w' ⟨rfl, hd⟩
  exact ⟨rfl, hd⟩

end Go.Proofs.Ytjelhckfncffpaa.PSetofTells
