-- laid by a program out of the translation and of templates; not trusted: Lean checks it
import Derived.Test.YtaapjmljdlneoaaPTableGoesx0
import Derived.Test.YtaapjmljdlneoaaPTableGoesx1
namespace Go.Proofs.Ytaapjmljdlneoaa.PTableGoes
open Go.RowKit Go.Proofs.YtaapjmljdlneoaaW.PrintWords Go.Proofs.YtaapjmljdlneoaaW.PrintLast Go.Proofs.YtaapjmljdlneoaaW.PrintMore
attribute [local go_sem] str_leq str_gtr str_geq max2_int min2_int max_two min_two max_three min_three max_four min_four   -- for this text's walks alone
set_option linter.unusedVariables false
set_option linter.unusedSimpArgs false

/-! ### clavigerlaw30_awake: function 5 -/
def clavigerlaw30_awake.f  : Option (Bool) := (table_Modes.f (⟨#[83, 48]⟩ : ByteArray)).bind fun t126 => (if t126.toList = ([78, 83, 84, 86] : List UInt8) then ((table_Usage.f (⟨#[77, 55]⟩ : ByteArray) (⟨#[65]⟩ : ByteArray)).bind fun t127 => (if t127 = true then (some false) else ((table_Usage.f (⟨#[77, 55]⟩ : ByteArray) (⟨#[72]⟩ : ByteArray)).bind fun t128 => (if t128 = true then ((table_Version.f (⟨#[99, 49]⟩ : ByteArray)).bind fun t129 => (if t129 = true then ((table_Export.f (⟨#[83]⟩ : ByteArray)).bind fun t130 => (if t130 = true then ((table_Check.f (⟨#[75, 48]⟩ : ByteArray) (⟨#[66]⟩ : ByteArray) (⟨#[48, 48]⟩ : ByteArray) (⟨#[69]⟩ : ByteArray) (⟨#[65]⟩ : ByteArray)).bind fun t131 => (if t131 = 0 then ((table_Check.f (⟨#[]⟩ : ByteArray) (⟨#[]⟩ : ByteArray) (⟨#[]⟩ : ByteArray) (⟨#[]⟩ : ByteArray) (⟨#[65]⟩ : ByteArray)).bind fun t132 => (some (t132 == 12))) else (some false))) else (some false))) else (some false))) else (some false))))) else (some false))
set_option maxHeartbeats 8000000 in
set_option maxRecDepth 100000 in
theorem clavigerlaw30_awake.calls  (r : Bool) (w : World) (h : clavigerlaw30_awake.f  = some r) :
    Calls Try.prog 5 #[] w fun e w' => e = .returned (.bool r) ∧ Below w.heap.size w w' := by
  have hu31 := Try.underlying31
  have HB := Aside0.mk (Below.refl w.heap.size w)
  have H : ((table_Modes.f (⟨#[83, 48]⟩ : ByteArray)).bind fun t126 => (if t126.toList = ([78, 83, 84, 86] : List UInt8) then ((table_Usage.f (⟨#[77, 55]⟩ : ByteArray) (⟨#[65]⟩ : ByteArray)).bind fun t127 => (if t127 = true then (some false) else ((table_Usage.f (⟨#[77, 55]⟩ : ByteArray) (⟨#[72]⟩ : ByteArray)).bind fun t128 => (if t128 = true then ((table_Version.f (⟨#[99, 49]⟩ : ByteArray)).bind fun t129 => (if t129 = true then ((table_Export.f (⟨#[83]⟩ : ByteArray)).bind fun t130 => (if t130 = true then ((table_Check.f (⟨#[75, 48]⟩ : ByteArray) (⟨#[66]⟩ : ByteArray) (⟨#[48, 48]⟩ : ByteArray) (⟨#[69]⟩ : ByteArray) (⟨#[65]⟩ : ByteArray)).bind fun t131 => (if t131 = 0 then ((table_Check.f (⟨#[]⟩ : ByteArray) (⟨#[]⟩ : ByteArray) (⟨#[]⟩ : ByteArray) (⟨#[]⟩ : ByteArray) (⟨#[65]⟩ : ByteArray)).bind fun t132 => (some (t132 == 12))) else (some false))) else (some false))) else (some false))) else (some false))))) else (some false))) = some r := h
  clear h
  replace H := Option.bind_eq_some_iff.mp H
  obtain ⟨t126, A10, H⟩ := H
  replace H : (if t126.toList = ([78, 83, 84, 86] : List UInt8) then ((table_Usage.f (⟨#[77, 55]⟩ : ByteArray) (⟨#[65]⟩ : ByteArray)).bind fun t127 => (if t127 = true then (some false) else ((table_Usage.f (⟨#[77, 55]⟩ : ByteArray) (⟨#[72]⟩ : ByteArray)).bind fun t128 => (if t128 = true then ((table_Version.f (⟨#[99, 49]⟩ : ByteArray)).bind fun t129 => (if t129 = true then ((table_Export.f (⟨#[83]⟩ : ByteArray)).bind fun t130 => (if t130 = true then ((table_Check.f (⟨#[75, 48]⟩ : ByteArray) (⟨#[66]⟩ : ByteArray) (⟨#[48, 48]⟩ : ByteArray) (⟨#[69]⟩ : ByteArray) (⟨#[65]⟩ : ByteArray)).bind fun t131 => (if t131 = 0 then ((table_Check.f (⟨#[]⟩ : ByteArray) (⟨#[]⟩ : ByteArray) (⟨#[]⟩ : ByteArray) (⟨#[]⟩ : ByteArray) (⟨#[65]⟩ : ByteArray)).bind fun t132 => (some (t132 == 12))) else (some false))) else (some false))) else (some false))) else (some false))))) else (some false)) = some r := H
  have A1 := Aside0.mk A10
  clear A10
  by_cases c2 : t126.toList = ([78, 83, 84, 86] : List UInt8)
  · rw [if_pos c2] at H
    have c2b0 : (t126.toList == ([78, 83, 84, 86] : List UInt8)) = true := beq_iff_eq.mpr c2
    have c2b1 : (t126.toList != ([78, 83, 84, 86] : List UInt8)) = false := bne_eq_false_iff_eq.mpr c2
    clear c2
    replace H := Option.bind_eq_some_iff.mp H
    obtain ⟨t127, A30, H⟩ := H
    replace H : (if t127 = true then (some false) else ((table_Usage.f (⟨#[77, 55]⟩ : ByteArray) (⟨#[72]⟩ : ByteArray)).bind fun t128 => (if t128 = true then ((table_Version.f (⟨#[99, 49]⟩ : ByteArray)).bind fun t129 => (if t129 = true then ((table_Export.f (⟨#[83]⟩ : ByteArray)).bind fun t130 => (if t130 = true then ((table_Check.f (⟨#[75, 48]⟩ : ByteArray) (⟨#[66]⟩ : ByteArray) (⟨#[48, 48]⟩ : ByteArray) (⟨#[69]⟩ : ByteArray) (⟨#[65]⟩ : ByteArray)).bind fun t131 => (if t131 = 0 then ((table_Check.f (⟨#[]⟩ : ByteArray) (⟨#[]⟩ : ByteArray) (⟨#[]⟩ : ByteArray) (⟨#[]⟩ : ByteArray) (⟨#[65]⟩ : ByteArray)).bind fun t132 => (some (t132 == 12))) else (some false))) else (some false))) else (some false))) else (some false)))) = some r := H
    have A3 := Aside0.mk A30
    clear A30
    by_cases c4 : t127 = true
    · subst c4
      have H1 : (some false) = some r := by rw [if_pos rfl] at H; exact H
      clear H
      have H := H1
      clear H1
      obtain rfl := Option.some.inj H
      go_enter Try.func5, Try.ntmps5
      go_wp2_with (first | ((with_reducible refine gate_callee (f := 9) rfl ?_); refine goesL_ (some 1) rfl rfl Try.func9 (by kernel_rfl) rfl #[.string (⟨#[83, 48]⟩ : ByteArray)] rfl (by (try simp only [List.map_toArray, List.map_cons, List.map_nil]); first | done | rfl | (simp only [List.length_drop, List.length_take]; rfl)) ?_; (with_reducible refine (table_Modes.calls (⟨#[83, 48]⟩ : ByteArray) t126 _ A1.out).mono ?_); rintro e w5 ⟨rfl, hb⟩; refine ⟨_, rfl, ?_⟩; have n0_ := Aside0.mk (below_step (by repeat (first | (with_reducible first | exact HB.out | apply below_alloc | apply pw_below_drewN | apply below_drew1) | exact HB.out)) hb); clear HB; have HB := n0_; clear n0_; (try clear hb); (try clear hb2); (try clear hk); (try clear hi)) | (go_at_call 10; (with_reducible refine (table_Usage.calls (⟨#[77, 55]⟩ : ByteArray) (⟨#[65]⟩ : ByteArray) true _ A3.out).mono ?_); rintro e w6 ⟨rfl, hb⟩; have n0_ := Aside0.mk (below_step (by repeat (first | (with_reducible first | exact HB.out | apply below_alloc | apply pw_below_drewN | apply below_drew1) | exact HB.out)) hb); clear HB; have HB := n0_; clear n0_; (try clear hb); (try clear hb2); (try clear hk); (try clear hi)))
      go_ret
      exact ⟨by first | rfl | (simp [errW_none, errW_some] <;> rfl) | (simp [*, errW_none, errW_some] <;> rfl), by repeat (first | (with_reducible first | exact HB.out | apply below_alloc | apply pw_below_drewN | apply below_drew1) | exact HB.out)⟩
    · replace c4 := Bool.eq_false_iff.mpr c4
      subst c4
      have H1 : ((table_Usage.f (⟨#[77, 55]⟩ : ByteArray) (⟨#[72]⟩ : ByteArray)).bind fun t128 => (if t128 = true then ((table_Version.f (⟨#[99, 49]⟩ : ByteArray)).bind fun t129 => (if t129 = true then ((table_Export.f (⟨#[83]⟩ : ByteArray)).bind fun t130 => (if t130 = true then ((table_Check.f (⟨#[75, 48]⟩ : ByteArray) (⟨#[66]⟩ : ByteArray) (⟨#[48, 48]⟩ : ByteArray) (⟨#[69]⟩ : ByteArray) (⟨#[65]⟩ : ByteArray)).bind fun t131 => (if t131 = 0 then ((table_Check.f (⟨#[]⟩ : ByteArray) (⟨#[]⟩ : ByteArray) (⟨#[]⟩ : ByteArray) (⟨#[]⟩ : ByteArray) (⟨#[65]⟩ : ByteArray)).bind fun t132 => (some (t132 == 12))) else (some false))) else (some false))) else (some false))) else (some false))) = some r := by rw [if_neg (show ¬ (false = true) by decide)] at H; exact H
      clear H
      have H := H1
      clear H1
      replace H := Option.bind_eq_some_iff.mp H
      obtain ⟨t128, A70, H⟩ := H
      replace H : (if t128 = true then ((table_Version.f (⟨#[99, 49]⟩ : ByteArray)).bind fun t129 => (if t129 = true then ((table_Export.f (⟨#[83]⟩ : ByteArray)).bind fun t130 => (if t130 = true then ((table_Check.f (⟨#[75, 48]⟩ : ByteArray) (⟨#[66]⟩ : ByteArray) (⟨#[48, 48]⟩ : ByteArray) (⟨#[69]⟩ : ByteArray) (⟨#[65]⟩ : ByteArray)).bind fun t131 => (if t131 = 0 then ((table_Check.f (⟨#[]⟩ : ByteArray) (⟨#[]⟩ : ByteArray) (⟨#[]⟩ : ByteArray) (⟨#[]⟩ : ByteArray) (⟨#[65]⟩ : ByteArray)).bind fun t132 => (some (t132 == 12))) else (some false))) else (some false))) else (some false))) else (some false)) = some r := H
      have A7 := Aside0.mk A70
      clear A70
      by_cases c8 : t128 = true
      · subst c8
        have H1 : ((table_Version.f (⟨#[99, 49]⟩ : ByteArray)).bind fun t129 => (if t129 = true then ((table_Export.f (⟨#[83]⟩ : ByteArray)).bind fun t130 => (if t130 = true then ((table_Check.f (⟨#[75, 48]⟩ : ByteArray) (⟨#[66]⟩ : ByteArray) (⟨#[48, 48]⟩ : ByteArray) (⟨#[69]⟩ : ByteArray) (⟨#[65]⟩ : ByteArray)).bind fun t131 => (if t131 = 0 then ((table_Check.f (⟨#[]⟩ : ByteArray) (⟨#[]⟩ : ByteArray) (⟨#[]⟩ : ByteArray) (⟨#[]⟩ : ByteArray) (⟨#[65]⟩ : ByteArray)).bind fun t132 => (some (t132 == 12))) else (some false))) else (some false))) else (some false))) = some r := by rw [if_pos rfl] at H; exact H
        clear H
        have H := H1
        clear H1
        replace H := Option.bind_eq_some_iff.mp H
        obtain ⟨t129, A90, H⟩ := H
        replace H : (if t129 = true then ((table_Export.f (⟨#[83]⟩ : ByteArray)).bind fun t130 => (if t130 = true then ((table_Check.f (⟨#[75, 48]⟩ : ByteArray) (⟨#[66]⟩ : ByteArray) (⟨#[48, 48]⟩ : ByteArray) (⟨#[69]⟩ : ByteArray) (⟨#[65]⟩ : ByteArray)).bind fun t131 => (if t131 = 0 then ((table_Check.f (⟨#[]⟩ : ByteArray) (⟨#[]⟩ : ByteArray) (⟨#[]⟩ : ByteArray) (⟨#[]⟩ : ByteArray) (⟨#[65]⟩ : ByteArray)).bind fun t132 => (some (t132 == 12))) else (some false))) else (some false))) else (some false)) = some r := H
        have A9 := Aside0.mk A90
        clear A90
        by_cases c10 : t129 = true
        · subst c10
          have H1 : ((table_Export.f (⟨#[83]⟩ : ByteArray)).bind fun t130 => (if t130 = true then ((table_Check.f (⟨#[75, 48]⟩ : ByteArray) (⟨#[66]⟩ : ByteArray) (⟨#[48, 48]⟩ : ByteArray) (⟨#[69]⟩ : ByteArray) (⟨#[65]⟩ : ByteArray)).bind fun t131 => (if t131 = 0 then ((table_Check.f (⟨#[]⟩ : ByteArray) (⟨#[]⟩ : ByteArray) (⟨#[]⟩ : ByteArray) (⟨#[]⟩ : ByteArray) (⟨#[65]⟩ : ByteArray)).bind fun t132 => (some (t132 == 12))) else (some false))) else (some false))) = some r := by rw [if_pos rfl] at H; exact H
          clear H
          have H := H1
          clear H1
          replace H := Option.bind_eq_some_iff.mp H
          obtain ⟨t130, A110, H⟩ := H
          replace H : (if t130 = true then ((table_Check.f (⟨#[75, 48]⟩ : ByteArray) (⟨#[66]⟩ : ByteArray) (⟨#[48, 48]⟩ : ByteArray) (⟨#[69]⟩ : ByteArray) (⟨#[65]⟩ : ByteArray)).bind fun t131 => (if t131 = 0 then ((table_Check.f (⟨#[]⟩ : ByteArray) (⟨#[]⟩ : ByteArray) (⟨#[]⟩ : ByteArray) (⟨#[]⟩ : ByteArray) (⟨#[65]⟩ : ByteArray)).bind fun t132 => (some (t132 == 12))) else (some false))) else (some false)) = some r := H
          have A11 := Aside0.mk A110
          clear A110
          by_cases c12 : t130 = true
          · subst c12
            have H1 : ((table_Check.f (⟨#[75, 48]⟩ : ByteArray) (⟨#[66]⟩ : ByteArray) (⟨#[48, 48]⟩ : ByteArray) (⟨#[69]⟩ : ByteArray) (⟨#[65]⟩ : ByteArray)).bind fun t131 => (if t131 = 0 then ((table_Check.f (⟨#[]⟩ : ByteArray) (⟨#[]⟩ : ByteArray) (⟨#[]⟩ : ByteArray) (⟨#[]⟩ : ByteArray) (⟨#[65]⟩ : ByteArray)).bind fun t132 => (some (t132 == 12))) else (some false))) = some r := by rw [if_pos rfl] at H; exact H
            clear H
            have H := H1
            clear H1
            replace H := Option.bind_eq_some_iff.mp H
            obtain ⟨t131, A130, H⟩ := H
            replace H : (if t131 = 0 then ((table_Check.f (⟨#[]⟩ : ByteArray) (⟨#[]⟩ : ByteArray) (⟨#[]⟩ : ByteArray) (⟨#[]⟩ : ByteArray) (⟨#[65]⟩ : ByteArray)).bind fun t132 => (some (t132 == 12))) else (some false)) = some r := H
            have A13 := Aside0.mk A130
            clear A130
            by_cases c14 : t131 = 0
            · rw [if_pos c14] at H
              have c14b0 : (t131 == 0) = true := beq_iff_eq.mpr c14
              have c14b1 : (t131 != 0) = false := bne_eq_false_iff_eq.mpr c14
              clear c14
              replace H := Option.bind_eq_some_iff.mp H
              obtain ⟨t132, A150, H⟩ := H
              replace H : (some (t132 == 12)) = some r := H
              have A15 := Aside0.mk A150
              clear A150
              obtain rfl := Option.some.inj H
              go_enter Try.func5, Try.ntmps5
              go_wp2_with (first | ((with_reducible refine gate_callee (f := 9) rfl ?_); refine goesL_ (some 1) rfl rfl Try.func9 (by kernel_rfl) rfl #[.string (⟨#[83, 48]⟩ : ByteArray)] rfl (by (try simp only [List.map_toArray, List.map_cons, List.map_nil]); first | done | rfl | (simp only [List.length_drop, List.length_take]; rfl)) ?_; (with_reducible refine (table_Modes.calls (⟨#[83, 48]⟩ : ByteArray) t126 _ A1.out).mono ?_); rintro e w16 ⟨rfl, hb⟩; refine ⟨_, rfl, ?_⟩; have n0_ := Aside0.mk (below_step (by repeat (first | (with_reducible first | exact HB.out | apply below_alloc | apply pw_below_drewN | apply below_drew1) | exact HB.out)) hb); clear HB; have HB := n0_; clear n0_; (try clear hb); (try clear hb2); (try clear hk); (try clear hi)) | (go_at_call 10; (with_reducible refine (table_Usage.calls (⟨#[77, 55]⟩ : ByteArray) (⟨#[65]⟩ : ByteArray) false _ A3.out).mono ?_); rintro e w17 ⟨rfl, hb⟩; have n0_ := Aside0.mk (below_step (by repeat (first | (with_reducible first | exact HB.out | apply below_alloc | apply pw_below_drewN | apply below_drew1) | exact HB.out)) hb); clear HB; have HB := n0_; clear n0_; (try clear hb); (try clear hb2); (try clear hk); (try clear hi)) | (go_at_call 10; (with_reducible refine (table_Usage.calls (⟨#[77, 55]⟩ : ByteArray) (⟨#[72]⟩ : ByteArray) true _ A7.out).mono ?_); rintro e w18 ⟨rfl, hb⟩; have n0_ := Aside0.mk (below_step (by repeat (first | (with_reducible first | exact HB.out | apply below_alloc | apply pw_below_drewN | apply below_drew1) | exact HB.out)) hb); clear HB; have HB := n0_; clear n0_; (try clear hb); (try clear hb2); (try clear hk); (try clear hi)) | (go_at_call 6; (with_reducible refine (table_Version.calls (⟨#[99, 49]⟩ : ByteArray) true _ A9.out).mono ?_); rintro e w' ⟨rfl, ⟨nd, rfl⟩⟩) | (go_at_call 7; (with_reducible refine (table_Export.calls (⟨#[83]⟩ : ByteArray) true _ A11.out).mono ?_); rintro e w' ⟨rfl, ⟨nd, rfl⟩⟩) | (go_at_call 11; (with_reducible refine (table_Check.calls (⟨#[75, 48]⟩ : ByteArray) (⟨#[66]⟩ : ByteArray) (⟨#[48, 48]⟩ : ByteArray) (⟨#[69]⟩ : ByteArray) (⟨#[65]⟩ : ByteArray) t131 _ A13.out).mono ?_); rintro e w19 ⟨rfl, hb⟩; have n0_ := Aside0.mk (below_step (by repeat (first | (with_reducible first | exact HB.out | apply below_alloc | apply pw_below_drewN | apply below_drew1) | exact HB.out)) hb); clear HB; have HB := n0_; clear n0_; (try clear hb); (try clear hb2); (try clear hk); (try clear hi)) | (go_at_call 11; (with_reducible refine (table_Check.calls (⟨#[]⟩ : ByteArray) (⟨#[]⟩ : ByteArray) (⟨#[]⟩ : ByteArray) (⟨#[]⟩ : ByteArray) (⟨#[65]⟩ : ByteArray) t132 _ A15.out).mono ?_); rintro e w20 ⟨rfl, hb⟩; have n0_ := Aside0.mk (below_step (by repeat (first | (with_reducible first | exact HB.out | apply below_alloc | apply pw_below_drewN | apply below_drew1) | exact HB.out)) hb); clear HB; have HB := n0_; clear n0_; (try clear hb); (try clear hb2); (try clear hk); (try clear hi)))
              go_ret
              exact ⟨by first | rfl | (simp [errW_none, errW_some] <;> rfl) | (simp [*, errW_none, errW_some] <;> rfl), by repeat (first | (with_reducible first | exact HB.out | apply below_alloc | apply pw_below_drewN | apply below_drew1) | exact HB.out)⟩
            · rw [if_neg c14] at H
              have c14b0 : (t131 == 0) = false := beq_eq_false_iff_ne.mpr c14
              have c14b1 : (t131 != 0) = true := bne_iff_ne.mpr c14
              obtain rfl := Option.some.inj H
              go_enter Try.func5, Try.ntmps5
              go_wp2_with (first | ((with_reducible refine gate_callee (f := 9) rfl ?_); refine goesL_ (some 1) rfl rfl Try.func9 (by kernel_rfl) rfl #[.string (⟨#[83, 48]⟩ : ByteArray)] rfl (by (try simp only [List.map_toArray, List.map_cons, List.map_nil]); first | done | rfl | (simp only [List.length_drop, List.length_take]; rfl)) ?_; (with_reducible refine (table_Modes.calls (⟨#[83, 48]⟩ : ByteArray) t126 _ A1.out).mono ?_); rintro e w21 ⟨rfl, hb⟩; refine ⟨_, rfl, ?_⟩; have n0_ := Aside0.mk (below_step (by repeat (first | (with_reducible first | exact HB.out | apply below_alloc | apply pw_below_drewN | apply below_drew1) | exact HB.out)) hb); clear HB; have HB := n0_; clear n0_; (try clear hb); (try clear hb2); (try clear hk); (try clear hi)) | (go_at_call 10; (with_reducible refine (table_Usage.calls (⟨#[77, 55]⟩ : ByteArray) (⟨#[65]⟩ : ByteArray) false _ A3.out).mono ?_); rintro e w22 ⟨rfl, hb⟩; have n0_ := Aside0.mk (below_step (by repeat (first | (with_reducible first | exact HB.out | apply below_alloc | apply pw_below_drewN | apply below_drew1) | exact HB.out)) hb); clear HB; have HB := n0_; clear n0_; (try clear hb); (try clear hb2); (try clear hk); (try clear hi)) | (go_at_call 10; (with_reducible refine (table_Usage.calls (⟨#[77, 55]⟩ : ByteArray) (⟨#[72]⟩ : ByteArray) true _ A7.out).mono ?_); rintro e w23 ⟨rfl, hb⟩; have n0_ := Aside0.mk (below_step (by repeat (first | (with_reducible first | exact HB.out | apply below_alloc | apply pw_below_drewN | apply below_drew1) | exact HB.out)) hb); clear HB; have HB := n0_; clear n0_; (try clear hb); (try clear hb2); (try clear hk); (try clear hi)) | (go_at_call 6; (with_reducible refine (table_Version.calls (⟨#[99, 49]⟩ : ByteArray) true _ A9.out).mono ?_); rintro e w' ⟨rfl, ⟨nd, rfl⟩⟩) | (go_at_call 7; (with_reducible refine (table_Export.calls (⟨#[83]⟩ : ByteArray) true _ A11.out).mono ?_); rintro e w' ⟨rfl, ⟨nd, rfl⟩⟩) | (go_at_call 11; (with_reducible refine (table_Check.calls (⟨#[75, 48]⟩ : ByteArray) (⟨#[66]⟩ : ByteArray) (⟨#[48, 48]⟩ : ByteArray) (⟨#[69]⟩ : ByteArray) (⟨#[65]⟩ : ByteArray) t131 _ A13.out).mono ?_); rintro e w24 ⟨rfl, hb⟩; have n0_ := Aside0.mk (below_step (by repeat (first | (with_reducible first | exact HB.out | apply below_alloc | apply pw_below_drewN | apply below_drew1) | exact HB.out)) hb); clear HB; have HB := n0_; clear n0_; (try clear hb); (try clear hb2); (try clear hk); (try clear hi)))
              go_ret
              exact ⟨by first | rfl | (simp [errW_none, errW_some] <;> rfl) | (simp [*, errW_none, errW_some] <;> rfl), by repeat (first | (with_reducible first | exact HB.out | apply below_alloc | apply pw_below_drewN | apply below_drew1) | exact HB.out)⟩
          · replace c12 := Bool.eq_false_iff.mpr c12
            subst c12
            have H1 : (some false) = some r := by rw [if_neg (show ¬ (false = true) by decide)] at H; exact H
            clear H
            have H := H1
            clear H1
            obtain rfl := Option.some.inj H
            go_enter Try.func5, Try.ntmps5
            go_wp2_with (first | ((with_reducible refine gate_callee (f := 9) rfl ?_); refine goesL_ (some 1) rfl rfl Try.func9 (by kernel_rfl) rfl #[.string (⟨#[83, 48]⟩ : ByteArray)] rfl (by (try simp only [List.map_toArray, List.map_cons, List.map_nil]); first | done | rfl | (simp only [List.length_drop, List.length_take]; rfl)) ?_; (with_reducible refine (table_Modes.calls (⟨#[83, 48]⟩ : ByteArray) t126 _ A1.out).mono ?_); rintro e w25 ⟨rfl, hb⟩; refine ⟨_, rfl, ?_⟩; have n0_ := Aside0.mk (below_step (by repeat (first | (with_reducible first | exact HB.out | apply below_alloc | apply pw_below_drewN | apply below_drew1) | exact HB.out)) hb); clear HB; have HB := n0_; clear n0_; (try clear hb); (try clear hb2); (try clear hk); (try clear hi)) | (go_at_call 10; (with_reducible refine (table_Usage.calls (⟨#[77, 55]⟩ : ByteArray) (⟨#[65]⟩ : ByteArray) false _ A3.out).mono ?_); rintro e w26 ⟨rfl, hb⟩; have n0_ := Aside0.mk (below_step (by repeat (first | (with_reducible first | exact HB.out | apply below_alloc | apply pw_below_drewN | apply below_drew1) | exact HB.out)) hb); clear HB; have HB := n0_; clear n0_; (try clear hb); (try clear hb2); (try clear hk); (try clear hi)) | (go_at_call 10; (with_reducible refine (table_Usage.calls (⟨#[77, 55]⟩ : ByteArray) (⟨#[72]⟩ : ByteArray) true _ A7.out).mono ?_); rintro e w27 ⟨rfl, hb⟩; have n0_ := Aside0.mk (below_step (by repeat (first | (with_reducible first | exact HB.out | apply below_alloc | apply pw_below_drewN | apply below_drew1) | exact HB.out)) hb); clear HB; have HB := n0_; clear n0_; (try clear hb); (try clear hb2); (try clear hk); (try clear hi)) | (go_at_call 6; (with_reducible refine (table_Version.calls (⟨#[99, 49]⟩ : ByteArray) true _ A9.out).mono ?_); rintro e w' ⟨rfl, ⟨nd, rfl⟩⟩) | (go_at_call 7; (with_reducible refine (table_Export.calls (⟨#[83]⟩ : ByteArray) false _ A11.out).mono ?_); rintro e w' ⟨rfl, ⟨nd, rfl⟩⟩))
            go_ret
            exact ⟨by first | rfl | (simp [errW_none, errW_some] <;> rfl) | (simp [*, errW_none, errW_some] <;> rfl), by repeat (first | (with_reducible first | exact HB.out | apply below_alloc | apply pw_below_drewN | apply below_drew1) | exact HB.out)⟩
        · replace c10 := Bool.eq_false_iff.mpr c10
          subst c10
          have H1 : (some false) = some r := by rw [if_neg (show ¬ (false = true) by decide)] at H; exact H
          clear H
          have H := H1
          clear H1
          obtain rfl := Option.some.inj H
          go_enter Try.func5, Try.ntmps5
          go_wp2_with (first | ((with_reducible refine gate_callee (f := 9) rfl ?_); refine goesL_ (some 1) rfl rfl Try.func9 (by kernel_rfl) rfl #[.string (⟨#[83, 48]⟩ : ByteArray)] rfl (by (try simp only [List.map_toArray, List.map_cons, List.map_nil]); first | done | rfl | (simp only [List.length_drop, List.length_take]; rfl)) ?_; (with_reducible refine (table_Modes.calls (⟨#[83, 48]⟩ : ByteArray) t126 _ A1.out).mono ?_); rintro e w28 ⟨rfl, hb⟩; refine ⟨_, rfl, ?_⟩; have n0_ := Aside0.mk (below_step (by repeat (first | (with_reducible first | exact HB.out | apply below_alloc | apply pw_below_drewN | apply below_drew1) | exact HB.out)) hb); clear HB; have HB := n0_; clear n0_; (try clear hb); (try clear hb2); (try clear hk); (try clear hi)) | (go_at_call 10; (with_reducible refine (table_Usage.calls (⟨#[77, 55]⟩ : ByteArray) (⟨#[65]⟩ : ByteArray) false _ A3.out).mono ?_); rintro e w29 ⟨rfl, hb⟩; have n0_ := Aside0.mk (below_step (by repeat (first | (with_reducible first | exact HB.out | apply below_alloc | apply pw_below_drewN | apply below_drew1) | exact HB.out)) hb); clear HB; have HB := n0_; clear n0_; (try clear hb); (try clear hb2); (try clear hk); (try clear hi)) | (go_at_call 10; (with_reducible refine (table_Usage.calls (⟨#[77, 55]⟩ : ByteArray) (⟨#[72]⟩ : ByteArray) true _ A7.out).mono ?_); rintro e w30 ⟨rfl, hb⟩; have n0_ := Aside0.mk (below_step (by repeat (first | (with_reducible first | exact HB.out | apply below_alloc | apply pw_below_drewN | apply below_drew1) | exact HB.out)) hb); clear HB; have HB := n0_; clear n0_; (try clear hb); (try clear hb2); (try clear hk); (try clear hi)) | (go_at_call 6; (with_reducible refine (table_Version.calls (⟨#[99, 49]⟩ : ByteArray) false _ A9.out).mono ?_); rintro e w' ⟨rfl, ⟨nd, rfl⟩⟩))
          go_ret
          exact ⟨by first | rfl | (simp [errW_none, errW_some] <;> rfl) | (simp [*, errW_none, errW_some] <;> rfl), by repeat (first | (with_reducible first | exact HB.out | apply below_alloc | apply pw_below_drewN | apply below_drew1) | exact HB.out)⟩
      · replace c8 := Bool.eq_false_iff.mpr c8
        subst c8
        have H1 : (some false) = some r := by rw [if_neg (show ¬ (false = true) by decide)] at H; exact H
        clear H
        have H := H1
        clear H1
        obtain rfl := Option.some.inj H
        go_enter Try.func5, Try.ntmps5
        go_wp2_with (first | ((with_reducible refine gate_callee (f := 9) rfl ?_); refine goesL_ (some 1) rfl rfl Try.func9 (by kernel_rfl) rfl #[.string (⟨#[83, 48]⟩ : ByteArray)] rfl (by (try simp only [List.map_toArray, List.map_cons, List.map_nil]); first | done | rfl | (simp only [List.length_drop, List.length_take]; rfl)) ?_; (with_reducible refine (table_Modes.calls (⟨#[83, 48]⟩ : ByteArray) t126 _ A1.out).mono ?_); rintro e w31 ⟨rfl, hb⟩; refine ⟨_, rfl, ?_⟩; have n0_ := Aside0.mk (below_step (by repeat (first | (with_reducible first | exact HB.out | apply below_alloc | apply pw_below_drewN | apply below_drew1) | exact HB.out)) hb); clear HB; have HB := n0_; clear n0_; (try clear hb); (try clear hb2); (try clear hk); (try clear hi)) | (go_at_call 10; (with_reducible refine (table_Usage.calls (⟨#[77, 55]⟩ : ByteArray) (⟨#[65]⟩ : ByteArray) false _ A3.out).mono ?_); rintro e w32 ⟨rfl, hb⟩; have n0_ := Aside0.mk (below_step (by repeat (first | (with_reducible first | exact HB.out | apply below_alloc | apply pw_below_drewN | apply below_drew1) | exact HB.out)) hb); clear HB; have HB := n0_; clear n0_; (try clear hb); (try clear hb2); (try clear hk); (try clear hi)) | (go_at_call 10; (with_reducible refine (table_Usage.calls (⟨#[77, 55]⟩ : ByteArray) (⟨#[72]⟩ : ByteArray) false _ A7.out).mono ?_); rintro e w33 ⟨rfl, hb⟩; have n0_ := Aside0.mk (below_step (by repeat (first | (with_reducible first | exact HB.out | apply below_alloc | apply pw_below_drewN | apply below_drew1) | exact HB.out)) hb); clear HB; have HB := n0_; clear n0_; (try clear hb); (try clear hb2); (try clear hk); (try clear hi)))
        go_ret
        exact ⟨by first | rfl | (simp [errW_none, errW_some] <;> rfl) | (simp [*, errW_none, errW_some] <;> rfl), by repeat (first | (with_reducible first | exact HB.out | apply below_alloc | apply pw_below_drewN | apply below_drew1) | exact HB.out)⟩
  · rw [if_neg c2] at H
    have c2b0 : (t126.toList == ([78, 83, 84, 86] : List UInt8)) = false := beq_eq_false_iff_ne.mpr c2
    have c2b1 : (t126.toList != ([78, 83, 84, 86] : List UInt8)) = true := bne_iff_ne.mpr c2
    obtain rfl := Option.some.inj H
    go_enter Try.func5, Try.ntmps5
    go_wp2_with (first | ((with_reducible refine gate_callee (f := 9) rfl ?_); refine goesL_ (some 1) rfl rfl Try.func9 (by kernel_rfl) rfl #[.string (⟨#[83, 48]⟩ : ByteArray)] rfl (by (try simp only [List.map_toArray, List.map_cons, List.map_nil]); first | done | rfl | (simp only [List.length_drop, List.length_take]; rfl)) ?_; (with_reducible refine (table_Modes.calls (⟨#[83, 48]⟩ : ByteArray) t126 _ A1.out).mono ?_); rintro e w34 ⟨rfl, hb⟩; refine ⟨_, rfl, ?_⟩; have n0_ := Aside0.mk (below_step (by repeat (first | (with_reducible first | exact HB.out | apply below_alloc | apply pw_below_drewN | apply below_drew1) | exact HB.out)) hb); clear HB; have HB := n0_; clear n0_; (try clear hb); (try clear hb2); (try clear hk); (try clear hi)))
    go_ret
    exact ⟨by first | rfl | (simp [errW_none, errW_some] <;> rfl) | (simp [*, errW_none, errW_some] <;> rfl), by repeat (first | (with_reducible first | exact HB.out | apply below_alloc | apply pw_below_drewN | apply below_drew1) | exact HB.out)⟩

/-! ### table_Usages: function 8 (a text given by hand: table.tmpl) -/
def linesU : List ByteArray := [⟨#[66, 48]⟩, ⟨#[68, 48]⟩, ⟨#[68, 49]⟩, ⟨#[75, 48]⟩, ⟨#[75, 49]⟩, ⟨#[77, 51]⟩, ⟨#[77, 54]⟩, ⟨#[77, 55]⟩, ⟨#[80, 48]⟩, ⟨#[83, 48]⟩]
def linesS : List ByteArray := [⟨#[65, 84]⟩, ⟨#[65, 84]⟩, ⟨#[69]⟩, ⟨#[65, 84]⟩, ⟨#[65, 84]⟩, ⟨#[84]⟩, ⟨#[65, 84]⟩, ⟨#[72]⟩, ⟨#[65, 84]⟩, ⟨#[69]⟩]
def linesM : List ByteArray := [⟨#[78, 88]⟩, ⟨#[66, 68, 69, 78]⟩, ⟨#[66, 68, 69, 78]⟩, ⟨#[66, 68, 69, 78]⟩, ⟨#[66, 68, 69, 78]⟩, ⟨#[67, 71, 78, 86]⟩, ⟨#[67, 71, 78, 86]⟩, ⟨#[67, 71, 78, 86]⟩, ⟨#[66, 68, 69, 78]⟩, ⟨#[78, 83, 84, 86]⟩]
theorem lines_ix (i : Int) (h0 : 0 ≤ i) (h1 : i < 10) (w : World) : (Instr.index 40 (.agg linesC) (.int .i64 i)).run Try.prog w = .ok (.agg #[.string (rdOf ByteArray.empty linesU i), .string (rdOf ByteArray.empty linesS i), .string (rdOf ByteArray.empty linesM i)]) w := by
  rcases (by omega : i = 0 ∨ i = 1 ∨ i = 2 ∨ i = 3 ∨ i = 4 ∨ i = 5 ∨ i = 6 ∨ i = 7 ∨ i = 8 ∨ i = 9) with rfl | rfl | rfl | rfl | rfl | rfl | rfl | rfl | rfl | rfl
  all_goals kernel_rfl
def table_Usages.l0 : Nat → ByteArray → List ByteArray → Int → Option (List ByteArray)
  | 0, _, _, _ => none
  | k + 1, x0, x4, x5 => if x5 < 10 then (if 0 ≤ x5 then ((table_one.f x0 (rdOf ByteArray.empty linesS x5)).bind fun t => (if t = true then (if x4.length < 8796093022208 then (table_Usages.l0 k x0 (x4 ++ [rdOf ByteArray.empty linesU x5]) (wrap64 (x5 + 1))) else (none)) else (table_Usages.l0 k x0 x4 (wrap64 (x5 + 1))))) else (none)) else (some x4)
def table_Usages.f (a0 : ByteArray) : Option (List ByteArray) := table_Usages.l0 11 a0 [] 0
set_option maxHeartbeats 8000000 in
set_option maxRecDepth 100000 in
theorem table_Usages.calls (a0 : ByteArray) (r : List ByteArray) (w : World) (h : table_Usages.f a0 = some r) :
    Calls Try.prog 8 #[.string a0] w fun e w' => ∃ v0_ : Value, e = .returned (v0_) ∧ Kd.R Kd.string 9 w' w.heap.size (fun _ => True) v0_ r ∧ Below w.heap.size w w' := by
  have HB := Aside0.mk (Below.refl w.heap.size w)
  have H' := Aside0.mk (show table_Usages.l0 11 a0 [] 0 = some r from h)
  clear h
  go_enter Try.func8, Try.ntmps8
  go_wp2_with (first | ((with_reducible refine gate_callee (f := 25) rfl ?_); refine goesL_ (some 6) rfl rfl Try.func25 (by kernel_rfl) rfl #[] rfl (by first | done | rfl | simp) ?_; (with_reducible refine (table_lines.calls _).mono ?_); rintro e w3 ⟨rfl, hb⟩; refine ⟨_, rfl, ?_⟩; have n0_ := Aside0.mk (below_step (by repeat (first | (with_reducible first | exact HB.out | apply below_alloc | apply pw_below_drewN | apply below_drew1) | exact HB.out)) hb); clear HB; have HB := n0_; clear n0_; clear hb))
  go_loopg [3, 7] 11 (fun kq v4 v5 w' => ∃ (x4_1 : List ByteArray) (x5_1 : Int), v5 = .int .i64 x5_1 ∧ Aside0 (table_Usages.l0 kq a0 x4_1 x5_1 = some r) ∧ Aside0 (kq ≤ 11) ∧ Aside0 (Kd.R Kd.string 9 w' w.heap.size (fun _ => True) v4 x4_1) ∧ Aside0 (Below w.heap.size w w'))
  case atStart => exact ⟨(([] : List ByteArray)), (0), (by first | rfl | (simp; done) | (simp [*]; done)), H', ⟨Nat.le_refl _⟩, ⟨Kd.R_nil _ _ _ _ _⟩, ⟨by repeat (first | (with_reducible first | exact HB.out | apply below_alloc | apply pw_below_drewN | apply below_drew1) | exact HB.out)⟩⟩
  case round =>
    clear H'
    try clear c2
    try clear p2
    obtain ⟨x4_1, x5_1, rfl, HA, HK1, HO_4, HB⟩ := hrel
    cases gk with
    | zero => exact absurd HA.out (by simp [table_Usages.l0])
    | succ k1 =>
      have H := HA.out
      clear HA
      simp only [table_Usages.l0] at H
      by_cases c4 : x5_1 < 10
      · rw [if_pos c4] at H
        by_cases c5 : 0 ≤ x5_1
        · rw [if_pos c5] at H
          have hix := lines_ix x5_1 c5 c4
          have c4b0 : decide (x5_1 < 10) = true := decide_eq_true c4
          clear c4 c5
          replace H := Option.bind_eq_some_iff.mp H
          obtain ⟨t131, A60, H⟩ := H
          have A6 := Aside0.mk A60
          clear A60
          by_cases c7 : t131 = true
          · subst c7
            have H1 : (if x4_1.length < 8796093022208 then (table_Usages.l0 k1 a0 (x4_1 ++ [rdOf ByteArray.empty linesU x5_1]) (wrap64 (x5_1 + 1))) else (none)) = some r := by rw [if_pos rfl] at H; exact H
            clear H
            by_cases c8 : x4_1.length < 8796093022208
            · rw [if_pos c8] at H1
              have LMc8 := Aside0.mk c8
              clear c8
              have H' := Aside0.mk H1
              clear H1
              go_wp2_with (first | ((with_reducible refine gate_callee (f := 24) rfl ?_); refine goesL_ (some 13) rfl rfl Try.func24 (by kernel_rfl) rfl #[.string a0, .string (rdOf ByteArray.empty linesS x5_1)] rfl (by (try simp only [List.map_toArray, List.map_cons, List.map_nil]); first | done | rfl) ?_; (with_reducible refine (table_one.calls a0 (rdOf ByteArray.empty linesS x5_1) true _ A6.out).mono ?_); rintro e w' ⟨rfl, ⟨nd, rfl⟩⟩; refine ⟨_, rfl, ?_⟩) | ((with_reducible refine gate_builtin (b := .append) (xs := #[.tmp 14, .tmp 17]) rfl ?_); at_builtin; refine Kd.R_append Kd.string (w0 := w) w.heap.size rfl (.tmp 14) (.tmp 17) 25 9 (.string ⟨#[]⟩) 16 rfl Try.underlying25 info9 rfl (by decide) (by omega) u3 x4_1 (rdOf ByteArray.empty linesU x5_1) [.string (rdOf ByteArray.empty linesU x5_1)] (fun _ => True) (fun _ => False) rfl (by first | rfl | (simp; done) | (simp [Act.eval]; done) | (simp; rfl)) ?aP (fun _ hk => hk.elim) ?aF ?aO ?aB ?aS ?aL ?_; (case aP => exact rfl); (case aB => exact (by repeat (first | (with_reducible first | exact HB.out | apply below_alloc | apply pw_below_drewN | apply below_drew1) | exact HB.out))); (case aF => exact (fun _ _ => trivial)); (case aO => exact (by (with_reducible repeat (first | apply Kd.R_alloc | apply Kd.R_drewN | apply Kd.R_drew)); exact HO_4.out)); (case aS => exact (below_size (by repeat (first | (with_reducible first | exact HB.out | apply below_alloc | apply pw_below_drewN | apply below_drew1) | exact HB.out)))); (case aL => have := LMc8.out; omega); intro v134 w10 ho hb hg hat; have n1_ := Aside0.mk (hb); have n2_ := Aside0.mk (ho); clear HB; clear HO_4; have HB := n1_; have HO135 := n2_; clear n1_ n2_; clear ho hb hg hat))
              go_roundg k1
              case measure => have := HK1.out; omega
              case rel => exact ⟨_, (wrap64 (x5_1 + 1)), (by first | rfl | (simp; done) | (simp [*]; done)), H', ⟨by have := HK1.out; omega⟩, ⟨by (with_reducible repeat (first | apply Kd.R_alloc | apply Kd.R_drewN | apply Kd.R_drew)); exact HO135.out⟩, ⟨by repeat (first | (with_reducible first | exact HB.out | apply below_alloc | apply pw_below_drewN | apply below_drew1) | exact HB.out)⟩⟩
            · rw [if_neg c8] at H1
              exact absurd H1 (by simp)
          · replace c7 := Bool.eq_false_iff.mpr c7
            subst c7
            have H1 : (table_Usages.l0 k1 a0 x4_1 (wrap64 (x5_1 + 1))) = some r := by rw [if_neg (show ¬ (false = true) by decide)] at H; exact H
            clear H
            have H' := Aside0.mk H1
            clear H1
            go_wp2_with (first | ((with_reducible refine gate_callee (f := 24) rfl ?_); refine goesL_ (some 13) rfl rfl Try.func24 (by kernel_rfl) rfl #[.string a0, .string (rdOf ByteArray.empty linesS x5_1)] rfl (by (try simp only [List.map_toArray, List.map_cons, List.map_nil]); first | done | rfl) ?_; (with_reducible refine (table_one.calls a0 (rdOf ByteArray.empty linesS x5_1) false _ A6.out).mono ?_); rintro e w' ⟨rfl, ⟨nd, rfl⟩⟩; refine ⟨_, rfl, ?_⟩))
            go_roundg k1
            case measure => have := HK1.out; omega
            case rel => exact ⟨(x4_1), (wrap64 (x5_1 + 1)), (by first | rfl | (simp; done) | (simp [*]; done)), H', ⟨by have := HK1.out; omega⟩, ⟨by (with_reducible repeat (first | apply Kd.R_alloc | apply Kd.R_drewN | apply Kd.R_drew)); exact HO_4.out⟩, ⟨by repeat (first | (with_reducible first | exact HB.out | apply below_alloc | apply pw_below_drewN | apply below_drew1) | exact HB.out)⟩⟩
        · rw [if_neg c5] at H
          exact absurd H (by simp)
      · rw [if_neg c4] at H
        have c4b0 : decide (x5_1 < 10) = false := decide_eq_false c4
        clear c4
        obtain rfl := Option.some.inj H
        go_wp2
        go_ret
        exact ⟨_, by first | rfl | (simp [errW_none, errW_some] <;> rfl) | (simp [*, errW_none, errW_some] <;> rfl), by (with_reducible repeat (first | apply Kd.R_alloc | apply Kd.R_drewN | apply Kd.R_drew)); exact HO_4.out, by repeat (first | (with_reducible first | exact HB.out | apply below_alloc | apply pw_below_drewN | apply below_drew1) | exact HB.out)⟩

/-! ### clavigerlaw30_TableGoes: function 3 -/
mutual
def clavigerlaw30_TableGoes.j0 : Nat → ByteArray → ByteArray → ByteArray → Bool → Option (Bool)
  | 0, _, _, _, _ => none
  | k + 1, x0, x1, x2, x24 => if x24 = true then ((clavigerlaw30_awake.f).bind fun t133 => (some t133)) else ((table_Version.f x1).bind fun t134 => (if t134 = true then ((table_Export.f x2).bind fun t135 => (clavigerlaw30_TableGoes.j1 k x0 x1 x2 12 t135)) else (clavigerlaw30_TableGoes.j1 k x0 x1 x2 12 false)))
def clavigerlaw30_TableGoes.j1 : Nat → ByteArray → ByteArray → ByteArray → Int → Bool → Option (Bool)
  | 0, _, _, _, _, _ => none
  | k + 1, x0, x1, x2, x7, x31 => if x31 = true then (clavigerlaw30_TableGoes.j2 k x0 x1 x2 0) else (clavigerlaw30_TableGoes.j2 k x0 x1 x2 x7)
def clavigerlaw30_TableGoes.j2 : Nat → ByteArray → ByteArray → ByteArray → Int → Option (Bool)
  | 0, _, _, _, _ => none
  | k + 1, x0, x1, x2, x7 => (table_Usages.f x0).bind fun t136 => (clavigerlaw30_TableGoes.l0 k x0 x1 x2 x7 t136 (t136.length : Int) 0)
def clavigerlaw30_TableGoes.l0 : Nat → ByteArray → ByteArray → ByteArray → Int → List ByteArray → Int → Int → Option (Bool)
  | 0, _, _, _, _, _, _, _ => none
  | k + 1, x0, x1, x2, x7, x33, x34, x35 => if x35 < x34 then (if 0 ≤ x35 then (if x35 < (x33.length : Int) then ((table_Modes.f (rdOf ByteArray.empty x33 x35)).bind fun t141 => ((table_Usage.f (rdOf ByteArray.empty x33 x35) x0).bind fun t142 => (if t142 = true then (clavigerlaw30_TableGoes.j4 k x0 x1 x2 x7 (rdOf ByteArray.empty x33 x35) t141 x33 x34 x35 ((t141.size : Int) == 0)) else (clavigerlaw30_TableGoes.j4 k x0 x1 x2 x7 (rdOf ByteArray.empty x33 x35) t141 x33 x34 x35 true)))) else (none)) else (none)) else ((clavigerlaw30_awake.f).bind fun t139 => (some t139))
def clavigerlaw30_TableGoes.j4 : Nat → ByteArray → ByteArray → ByteArray → Int → ByteArray → ByteArray → List ByteArray → Int → Int → Bool → Option (Bool)
  | 0, _, _, _, _, _, _, _, _, _, _ => none
  | k + 1, x0, x1, x2, x7, x9, x10, x33, x34, x35, x49 => if x49 = true then (some false) else (clavigerlaw30_TableGoes.l1 k x0 x1 x2 x7 x9 x10 0 x33 x34 x35)
def clavigerlaw30_TableGoes.l1 : Nat → ByteArray → ByteArray → ByteArray → Int → ByteArray → ByteArray → Int → List ByteArray → Int → Int → Option (Bool)
  | 0, _, _, _, _, _, _, _, _, _, _ => none
  | k + 1, x0, x1, x2, x7, x9, x10, x11, x33, x34, x35 => if x11 < (x10.size : Int) then (if 0 ≤ x11 then (if x11 ≤ (wrap64 (x11 + 1)) then (if (wrap64 (x11 + 1)) ≤ (x10.size : Int) then ((table_Check.f x9 (x10.extract (x11 : Int).toNat ((wrap64 (x11 + 1)) : Int).toNat) x1 x2 x0).bind fun t143 => (if t143 = x7 then (clavigerlaw30_TableGoes.l1 k x0 x1 x2 x7 x9 x10 (wrap64 (x11 + 1)) x33 x34 x35) else (some false))) else (none)) else (none)) else (none)) else (clavigerlaw30_TableGoes.l0 k x0 x1 x2 x7 x33 x34 (wrap64 (x35 + 1)))
end
def clavigerlaw30_TableGoes.f (k : Nat) (a0 : ByteArray) (a1 : ByteArray) (a2 : ByteArray) : Option (Bool) := if (a0.size : Int) > 20 then (clavigerlaw30_TableGoes.j0 k a0 a1 a2 true) else (if (a1.size : Int) > 20 then (clavigerlaw30_TableGoes.j0 k a0 a1 a2 true) else (clavigerlaw30_TableGoes.j0 k a0 a1 a2 (decide ((a2.size : Int) > 20))))
theorem clavigerlaw30_TableGoes.mono_l : ∀ k, (∀ y0 y1 y2 y3, LeO (clavigerlaw30_TableGoes.j0 k y0 y1 y2 y3) (clavigerlaw30_TableGoes.j0 (k + 1) y0 y1 y2 y3)) ∧ (∀ y0 y1 y2 y3 y4, LeO (clavigerlaw30_TableGoes.j1 k y0 y1 y2 y3 y4) (clavigerlaw30_TableGoes.j1 (k + 1) y0 y1 y2 y3 y4)) ∧ (∀ y0 y1 y2 y3, LeO (clavigerlaw30_TableGoes.j2 k y0 y1 y2 y3) (clavigerlaw30_TableGoes.j2 (k + 1) y0 y1 y2 y3)) ∧ (∀ y0 y1 y2 y3 y4 y5 y6, LeO (clavigerlaw30_TableGoes.l0 k y0 y1 y2 y3 y4 y5 y6) (clavigerlaw30_TableGoes.l0 (k + 1) y0 y1 y2 y3 y4 y5 y6)) ∧ (∀ y0 y1 y2 y3 y4 y5 y6 y7 y8 y9, LeO (clavigerlaw30_TableGoes.j4 k y0 y1 y2 y3 y4 y5 y6 y7 y8 y9) (clavigerlaw30_TableGoes.j4 (k + 1) y0 y1 y2 y3 y4 y5 y6 y7 y8 y9)) ∧ (∀ y0 y1 y2 y3 y4 y5 y6 y7 y8 y9, LeO (clavigerlaw30_TableGoes.l1 k y0 y1 y2 y3 y4 y5 y6 y7 y8 y9) (clavigerlaw30_TableGoes.l1 (k + 1) y0 y1 y2 y3 y4 y5 y6 y7 y8 y9))
  | 0 => ⟨fun _ _ _ _ r h => by simp [clavigerlaw30_TableGoes.j0] at h, fun _ _ _ _ _ r h => by simp [clavigerlaw30_TableGoes.j1] at h, fun _ _ _ _ r h => by simp [clavigerlaw30_TableGoes.j2] at h, fun _ _ _ _ _ _ _ r h => by simp [clavigerlaw30_TableGoes.l0] at h, fun _ _ _ _ _ _ _ _ _ _ r h => by simp [clavigerlaw30_TableGoes.j4] at h, fun _ _ _ _ _ _ _ _ _ _ r h => by simp [clavigerlaw30_TableGoes.l1] at h⟩
  | k + 1 => by
    obtain ⟨ih0, ih1, ih2, ih3, ih4, ih5⟩ := clavigerlaw30_TableGoes.mono_l k
    refine ⟨?_, ?_, ?_, ?_, ?_, ?_⟩
    · intro y0 y1 y2 y3
      unfold clavigerlaw30_TableGoes.j0
      repeat' first
      | (with_reducible exact ih0 _ _ _ _)
      | (with_reducible exact ih1 _ _ _ _ _)
      | (with_reducible exact ih2 _ _ _ _)
      | (with_reducible exact ih3 _ _ _ _ _ _ _)
      | (with_reducible exact ih4 _ _ _ _ _ _ _ _ _ _)
      | (with_reducible exact ih5 _ _ _ _ _ _ _ _ _ _)
      | (with_reducible exact LeO.refl _)
      | (with_reducible exact LeO.none _)
      | (with_reducible refine LeO.ite ?_ ?_)
      | (with_reducible refine LeO.bind ?_ (fun _ => ?_))
      | exact ih0 _ _ _ _
      | exact ih1 _ _ _ _ _
      | exact ih2 _ _ _ _
      | exact ih3 _ _ _ _ _ _ _
      | exact ih4 _ _ _ _ _ _ _ _ _ _
      | exact ih5 _ _ _ _ _ _ _ _ _ _
      | exact LeO.none _
      | refine LeO.ite ?_ ?_
      | refine LeO.bind ?_ (fun _ => ?_)
    · intro y0 y1 y2 y3 y4
      unfold clavigerlaw30_TableGoes.j1
      repeat' first
      | (with_reducible exact ih0 _ _ _ _)
      | (with_reducible exact ih1 _ _ _ _ _)
      | (with_reducible exact ih2 _ _ _ _)
      | (with_reducible exact ih3 _ _ _ _ _ _ _)
      | (with_reducible exact ih4 _ _ _ _ _ _ _ _ _ _)
      | (with_reducible exact ih5 _ _ _ _ _ _ _ _ _ _)
      | (with_reducible exact LeO.refl _)
      | (with_reducible exact LeO.none _)
      | (with_reducible refine LeO.ite ?_ ?_)
      | (with_reducible refine LeO.bind ?_ (fun _ => ?_))
      | exact ih0 _ _ _ _
      | exact ih1 _ _ _ _ _
      | exact ih2 _ _ _ _
      | exact ih3 _ _ _ _ _ _ _
      | exact ih4 _ _ _ _ _ _ _ _ _ _
      | exact ih5 _ _ _ _ _ _ _ _ _ _
      | exact LeO.none _
      | refine LeO.ite ?_ ?_
      | refine LeO.bind ?_ (fun _ => ?_)
    · intro y0 y1 y2 y3
      unfold clavigerlaw30_TableGoes.j2
      repeat' first
      | (with_reducible exact ih0 _ _ _ _)
      | (with_reducible exact ih1 _ _ _ _ _)
      | (with_reducible exact ih2 _ _ _ _)
      | (with_reducible exact ih3 _ _ _ _ _ _ _)
      | (with_reducible exact ih4 _ _ _ _ _ _ _ _ _ _)
      | (with_reducible exact ih5 _ _ _ _ _ _ _ _ _ _)
      | (with_reducible exact LeO.refl _)
      | (with_reducible exact LeO.none _)
      | (with_reducible refine LeO.ite ?_ ?_)
      | (with_reducible refine LeO.bind ?_ (fun _ => ?_))
      | exact ih0 _ _ _ _
      | exact ih1 _ _ _ _ _
      | exact ih2 _ _ _ _
      | exact ih3 _ _ _ _ _ _ _
      | exact ih4 _ _ _ _ _ _ _ _ _ _
      | exact ih5 _ _ _ _ _ _ _ _ _ _
      | exact LeO.none _
      | refine LeO.ite ?_ ?_
      | refine LeO.bind ?_ (fun _ => ?_)
    · intro y0 y1 y2 y3 y4 y5 y6
      unfold clavigerlaw30_TableGoes.l0
      repeat' first
      | (with_reducible exact ih0 _ _ _ _)
      | (with_reducible exact ih1 _ _ _ _ _)
      | (with_reducible exact ih2 _ _ _ _)
      | (with_reducible exact ih3 _ _ _ _ _ _ _)
      | (with_reducible exact ih4 _ _ _ _ _ _ _ _ _ _)
      | (with_reducible exact ih5 _ _ _ _ _ _ _ _ _ _)
      | (with_reducible exact LeO.refl _)
      | (with_reducible exact LeO.none _)
      | (with_reducible refine LeO.ite ?_ ?_)
      | (with_reducible refine LeO.bind ?_ (fun _ => ?_))
      | exact ih0 _ _ _ _
      | exact ih1 _ _ _ _ _
      | exact ih2 _ _ _ _
      | exact ih3 _ _ _ _ _ _ _
      | exact ih4 _ _ _ _ _ _ _ _ _ _
      | exact ih5 _ _ _ _ _ _ _ _ _ _
      | exact LeO.none _
      | refine LeO.ite ?_ ?_
      | refine LeO.bind ?_ (fun _ => ?_)
    · intro y0 y1 y2 y3 y4 y5 y6 y7 y8 y9
      unfold clavigerlaw30_TableGoes.j4
      repeat' first
      | (with_reducible exact ih0 _ _ _ _)
      | (with_reducible exact ih1 _ _ _ _ _)
      | (with_reducible exact ih2 _ _ _ _)
      | (with_reducible exact ih3 _ _ _ _ _ _ _)
      | (with_reducible exact ih4 _ _ _ _ _ _ _ _ _ _)
      | (with_reducible exact ih5 _ _ _ _ _ _ _ _ _ _)
      | (with_reducible exact LeO.refl _)
      | (with_reducible exact LeO.none _)
      | (with_reducible refine LeO.ite ?_ ?_)
      | (with_reducible refine LeO.bind ?_ (fun _ => ?_))
      | exact ih0 _ _ _ _
      | exact ih1 _ _ _ _ _
      | exact ih2 _ _ _ _
      | exact ih3 _ _ _ _ _ _ _
      | exact ih4 _ _ _ _ _ _ _ _ _ _
      | exact ih5 _ _ _ _ _ _ _ _ _ _
      | exact LeO.none _
      | refine LeO.ite ?_ ?_
      | refine LeO.bind ?_ (fun _ => ?_)
    · intro y0 y1 y2 y3 y4 y5 y6 y7 y8 y9
      unfold clavigerlaw30_TableGoes.l1
      repeat' first
      | (with_reducible exact ih0 _ _ _ _)
      | (with_reducible exact ih1 _ _ _ _ _)
      | (with_reducible exact ih2 _ _ _ _)
      | (with_reducible exact ih3 _ _ _ _ _ _ _)
      | (with_reducible exact ih4 _ _ _ _ _ _ _ _ _ _)
      | (with_reducible exact ih5 _ _ _ _ _ _ _ _ _ _)
      | (with_reducible exact LeO.refl _)
      | (with_reducible exact LeO.none _)
      | (with_reducible refine LeO.ite ?_ ?_)
      | (with_reducible refine LeO.bind ?_ (fun _ => ?_))
      | exact ih0 _ _ _ _
      | exact ih1 _ _ _ _ _
      | exact ih2 _ _ _ _
      | exact ih3 _ _ _ _ _ _ _
      | exact ih4 _ _ _ _ _ _ _ _ _ _
      | exact ih5 _ _ _ _ _ _ _ _ _ _
      | exact LeO.none _
      | refine LeO.ite ?_ ?_
      | refine LeO.bind ?_ (fun _ => ?_)
theorem clavigerlaw30_TableGoes.mono : ∀ a0 a1 a2 k, LeO (clavigerlaw30_TableGoes.f k a0 a1 a2) (clavigerlaw30_TableGoes.f (k + 1) a0 a1 a2) := by
  intro a0 a1 a2 k
  obtain ⟨ih0, ih1, ih2, ih3, ih4, ih5⟩ := clavigerlaw30_TableGoes.mono_l k
  unfold clavigerlaw30_TableGoes.f
  repeat' first
      | (with_reducible exact ih0 _ _ _ _)
      | (with_reducible exact ih1 _ _ _ _ _)
      | (with_reducible exact ih2 _ _ _ _)
      | (with_reducible exact ih3 _ _ _ _ _ _ _)
      | (with_reducible exact ih4 _ _ _ _ _ _ _ _ _ _)
      | (with_reducible exact ih5 _ _ _ _ _ _ _ _ _ _)
      | (with_reducible exact LeO.refl _)
      | (with_reducible exact LeO.none _)
      | (with_reducible refine LeO.ite ?_ ?_)
      | (with_reducible refine LeO.bind ?_ (fun _ => ?_))
      | exact ih0 _ _ _ _
      | exact ih1 _ _ _ _ _
      | exact ih2 _ _ _ _
      | exact ih3 _ _ _ _ _ _ _
      | exact ih4 _ _ _ _ _ _ _ _ _ _
      | exact ih5 _ _ _ _ _ _ _ _ _ _
      | exact LeO.none _
      | refine LeO.ite ?_ ?_
      | refine LeO.bind ?_ (fun _ => ?_)
set_option maxHeartbeats 8000000 in
set_option maxRecDepth 100000 in
theorem clavigerlaw30_TableGoes.calls (k : Nat) (a0 : ByteArray) (a1 : ByteArray) (a2 : ByteArray) (r : Bool) (w : World) (h : clavigerlaw30_TableGoes.f k a0 a1 a2 = some r) :
    Calls Try.prog 3 #[.string a0, .string a1, .string a2] w fun e w' => e = .returned (.bool r) ∧ Below w.heap.size w w' := by
  have hu31 := Try.underlying31
  have HB := Aside0.mk (Below.refl w.heap.size w)
  have H : (if (a0.size : Int) > 20 then (clavigerlaw30_TableGoes.j0 k a0 a1 a2 true) else (if (a1.size : Int) > 20 then (clavigerlaw30_TableGoes.j0 k a0 a1 a2 true) else (clavigerlaw30_TableGoes.j0 k a0 a1 a2 (decide ((a2.size : Int) > 20))))) = some r := h
  clear h
  have HC4 := Aside0.mk H
  clear H
  go_enter Try.func3, Try.ntmps3
  go_upto_region 1 with (fail)
  go_cut [24] (fun v24 wc => ∃ (kq : Nat) (x24_3 : Bool), v24 = .bool x24_3 ∧ Aside0 (clavigerlaw30_TableGoes.j0 kq a0 a1 a2 x24_3 = some r) ∧ Aside0 (kq ≤ k) ∧ Aside0 (Below w.heap.size w wc))
  case first =>
    have H := HC4.out
    clear HC4
    by_cases c5 : (a0.size : Int) > 20
    · rw [if_pos c5] at H
      have c5b0 : decide (20 < (a0.size : Int)) = true := decide_eq_true c5
      have c5b1 : decide (20 < a0.size) = true := decide_eq_true (by omega)
      clear c5
      (first | rw [c5b0] | (simp only [i64_w, i32_w]; rw [c5b0]) | skip)
      have H' := Aside0.mk H
      clear H
      go_wp2
      go_meet
      case rel => exact ⟨_, (true), (by first | rfl | (simp; done) | (simp [*]; done)), H', ⟨by first | omega | exact Nat.le_refl _⟩, ⟨by repeat (first | (with_reducible first | exact HB.out | apply below_alloc | apply pw_below_drewN | apply below_drew1) | exact HB.out)⟩⟩
    · rw [if_neg c5] at H
      have c5b0 : decide (20 < (a0.size : Int)) = false := decide_eq_false c5
      have c5b1 : decide (20 < a0.size) = false := decide_eq_false (by omega)
      clear c5
      (first | rw [c5b0] | (simp only [i64_w, i32_w]; rw [c5b0]) | skip)
      by_cases c6 : (a1.size : Int) > 20
      · rw [if_pos c6] at H
        have c6b0 : decide (20 < (a1.size : Int)) = true := decide_eq_true c6
        have c6b1 : decide (20 < a1.size) = true := decide_eq_true (by omega)
        clear c6
        have H' := Aside0.mk H
        clear H
        go_wp2
        go_meet
        case rel => exact ⟨_, (true), (by first | rfl | (simp; done) | (simp [*]; done)), H', ⟨by first | omega | exact Nat.le_refl _⟩, ⟨by repeat (first | (with_reducible first | exact HB.out | apply below_alloc | apply pw_below_drewN | apply below_drew1) | exact HB.out)⟩⟩
      · rw [if_neg c6] at H
        have c6b0 : decide (20 < (a1.size : Int)) = false := decide_eq_false c6
        have c6b1 : decide (20 < a1.size) = false := decide_eq_false (by omega)
        clear c6
        have H' := Aside0.mk H
        clear H
        go_wp2
        go_meet
        case rel => exact ⟨_, (decide ((a2.size : Int) > 20)), (by first | rfl | (simp; done) | (simp [*]; done)), H', ⟨by first | omega | exact Nat.le_refl _⟩, ⟨by repeat (first | (with_reducible first | exact HB.out | apply below_alloc | apply pw_below_drewN | apply below_drew1) | exact HB.out)⟩⟩
  case rest =>
    clear HC4
    try clear p2
    try clear c3
    try clear c5
    try clear c5b0
    try clear c5b1
    try clear c6
    try clear c6b0
    try clear c6b1
    obtain ⟨kq, x24_3, rfl, HA, HJ3, HB⟩ := hcut
    cases kq with
    | zero => exact absurd HA.out (by simp [clavigerlaw30_TableGoes.j0])
    | succ kj3 =>
      have H := HA.out
      clear HA
      simp only [clavigerlaw30_TableGoes.j0] at H
      by_cases c7 : x24_3 = true
      · subst c7
        have H1 : ((clavigerlaw30_awake.f).bind fun t133 => (some t133)) = some r := by rw [if_pos rfl] at H; exact H
        clear H
        have H := H1
        clear H1
        replace H := Option.bind_eq_some_iff.mp H
        obtain ⟨t133, A80, H⟩ := H
        replace H : (some t133) = some r := H
        have A8 := Aside0.mk A80
        clear A80
        obtain rfl := Option.some.inj H
        go_wp2_with (first | ((with_reducible refine gate_callee (f := 5) rfl ?_); refine goesL_ (some 25) rfl rfl Try.func5 (by kernel_rfl) rfl #[] rfl (by (try simp only [List.map_toArray, List.map_cons, List.map_nil]); first | done | rfl | (simp only [List.length_drop, List.length_take]; rfl)) ?_; (with_reducible refine (clavigerlaw30_awake.calls  t133 _ A8.out).mono ?_); rintro e w9 ⟨rfl, hb⟩; refine ⟨_, rfl, ?_⟩; have n0_ := Aside0.mk (below_step (by repeat (first | (with_reducible first | exact HB.out | apply below_alloc | apply pw_below_drewN | apply below_drew1) | exact HB.out)) hb); clear HB; have HB := n0_; clear n0_; (try clear hb); (try clear hb2); (try clear hk); (try clear hi)))
        go_ret
        exact ⟨by first | rfl | (simp [errW_none, errW_some] <;> rfl) | (simp [*, errW_none, errW_some] <;> rfl), by repeat (first | (with_reducible first | exact HB.out | apply below_alloc | apply pw_below_drewN | apply below_drew1) | exact HB.out)⟩
      · replace c7 := Bool.eq_false_iff.mpr c7
        subst c7
        have H1 : ((table_Version.f a1).bind fun t134 => (if t134 = true then ((table_Export.f a2).bind fun t135 => (clavigerlaw30_TableGoes.j1 kj3 a0 a1 a2 12 t135)) else (clavigerlaw30_TableGoes.j1 kj3 a0 a1 a2 12 false))) = some r := by rw [if_neg (show ¬ (false = true) by decide)] at H; exact H
        clear H
        have H := H1
        clear H1
        have HC10 := Aside0.mk H
        clear H
        go_upto_region 4 with (fail)
        go_cut [31] (fun v31 wc => ∃ (kq : Nat) (x31_9 : Bool), v31 = .bool x31_9 ∧ Aside0 (clavigerlaw30_TableGoes.j1 kq a0 a1 a2 12 x31_9 = some r) ∧ Aside0 (kq ≤ kj3) ∧ Aside0 (Below w.heap.size w wc))
        case first =>
          have H := HC10.out
          clear HC10
          replace H := Option.bind_eq_some_iff.mp H
          obtain ⟨t134, A110, H⟩ := H
          replace H : (if t134 = true then ((table_Export.f a2).bind fun t135 => (clavigerlaw30_TableGoes.j1 kj3 a0 a1 a2 12 t135)) else (clavigerlaw30_TableGoes.j1 kj3 a0 a1 a2 12 false)) = some r := H
          have A11 := Aside0.mk A110
          clear A110
          by_cases c12 : t134 = true
          · subst c12
            have H1 : ((table_Export.f a2).bind fun t135 => (clavigerlaw30_TableGoes.j1 kj3 a0 a1 a2 12 t135)) = some r := by rw [if_pos rfl] at H; exact H
            clear H
            have H := H1
            clear H1
            replace H := Option.bind_eq_some_iff.mp H
            obtain ⟨t135, A130, H⟩ := H
            replace H : (clavigerlaw30_TableGoes.j1 kj3 a0 a1 a2 12 t135) = some r := H
            have A13 := Aside0.mk A130
            clear A130
            have H' := Aside0.mk H
            clear H
            go_wp2_with (first | ((with_reducible refine gate_callee (f := 6) rfl ?_); refine goesL_ (some 27) rfl rfl Try.func6 (by kernel_rfl) rfl #[.string a1] rfl (by (try simp only [List.map_toArray, List.map_cons, List.map_nil]); first | done | rfl | (simp only [List.length_drop, List.length_take]; rfl)) ?_; (with_reducible refine (table_Version.calls a1 true _ A11.out).mono ?_); rintro e w' ⟨rfl, ⟨nd, rfl⟩⟩; refine ⟨_, rfl, ?_⟩) | (go_at_call 7; (with_reducible refine (table_Export.calls a2 t135 _ A13.out).mono ?_); rintro e w' ⟨rfl, ⟨nd, rfl⟩⟩))
            go_meet
            case rel => exact ⟨_, (t135), (by first | rfl | (simp; done) | (simp [*]; done)), H', ⟨by have := HJ3.out; first | omega | exact Nat.le_refl _⟩, ⟨by repeat (first | (with_reducible first | exact HB.out | apply below_alloc | apply pw_below_drewN | apply below_drew1) | exact HB.out)⟩⟩
          · replace c12 := Bool.eq_false_iff.mpr c12
            subst c12
            have H1 : (clavigerlaw30_TableGoes.j1 kj3 a0 a1 a2 12 false) = some r := by rw [if_neg (show ¬ (false = true) by decide)] at H; exact H
            clear H
            have H := H1
            clear H1
            have H' := Aside0.mk H
            clear H
            go_wp2_with (first | ((with_reducible refine gate_callee (f := 6) rfl ?_); refine goesL_ (some 27) rfl rfl Try.func6 (by kernel_rfl) rfl #[.string a1] rfl (by (try simp only [List.map_toArray, List.map_cons, List.map_nil]); first | done | rfl | (simp only [List.length_drop, List.length_take]; rfl)) ?_; (with_reducible refine (table_Version.calls a1 false _ A11.out).mono ?_); rintro e w' ⟨rfl, ⟨nd, rfl⟩⟩; refine ⟨_, rfl, ?_⟩))
            go_meet
            case rel => exact ⟨_, (false), (by first | rfl | (simp; done) | (simp [*]; done)), H', ⟨by have := HJ3.out; first | omega | exact Nat.le_refl _⟩, ⟨by repeat (first | (with_reducible first | exact HB.out | apply below_alloc | apply pw_below_drewN | apply below_drew1) | exact HB.out)⟩⟩
        case rest =>
          clear HC10
          try clear c1
          try clear p2
          try clear c3
          try clear c5
          try clear c5b0
          try clear c5b1
          try clear c6
          try clear c6b0
          try clear c6b1
          try clear c7
          try clear c12
          try clear p2
          obtain ⟨kq, x31_9, rfl, HA, HJ9, HB⟩ := hcut
          cases kq with
          | zero => exact absurd HA.out (by simp [clavigerlaw30_TableGoes.j1])
          | succ kj9 =>
            have H := HA.out
            clear HA
            simp only [clavigerlaw30_TableGoes.j1] at H
            have HC14 := Aside0.mk H
            clear H
            go_upto_if 31 with (fail)
            go_cut [7] (fun v7 wc => ∃ (kq : Nat) (x7_13 : Int), v7 = .int .i64 x7_13 ∧ Aside0 (clavigerlaw30_TableGoes.j2 kq a0 a1 a2 x7_13 = some r) ∧ Aside0 (kq ≤ kj9) ∧ Aside0 (Below w.heap.size w wc))
            case first =>
              have H := HC14.out
              clear HC14
              by_cases c15 : x31_9 = true
              · subst c15
                have H1 : (clavigerlaw30_TableGoes.j2 kj9 a0 a1 a2 0) = some r := by rw [if_pos rfl] at H; exact H
                clear H
                have H := H1
                clear H1
                have H' := Aside0.mk H
                clear H
                go_wp2
                go_meet
                case rel => exact ⟨_, (0), (by first | rfl | (simp; done) | (simp [*]; done)), H', ⟨by have := HJ3.out; have := HJ9.out; first | omega | exact Nat.le_refl _⟩, ⟨by repeat (first | (with_reducible first | exact HB.out | apply below_alloc | apply pw_below_drewN | apply below_drew1) | exact HB.out)⟩⟩
              · replace c15 := Bool.eq_false_iff.mpr c15
                subst c15
                have H1 : (clavigerlaw30_TableGoes.j2 kj9 a0 a1 a2 12) = some r := by rw [if_neg (show ¬ (false = true) by decide)] at H; exact H
                clear H
                have H := H1
                clear H1
                have H' := Aside0.mk H
                clear H
                go_wp2
                go_meet
                case rel => exact ⟨_, (12), (by first | rfl | (simp; done) | (simp [*]; done)), H', ⟨by have := HJ3.out; have := HJ9.out; first | omega | exact Nat.le_refl _⟩, ⟨by repeat (first | (with_reducible first | exact HB.out | apply below_alloc | apply pw_below_drewN | apply below_drew1) | exact HB.out)⟩⟩
            case rest =>
              clear HC14
              try clear c1
              try clear p2
              try clear c3
              try clear c5
              try clear c5b0
              try clear c5b1
              try clear c6
              try clear c6b0
              try clear c6b1
              try clear c7
              try clear c12
              try clear c15
              try clear p2
              obtain ⟨kq, x7_13, rfl, HA, HJ13, HB⟩ := hcut
              cases kq with
              | zero => exact absurd HA.out (by simp [clavigerlaw30_TableGoes.j2])
              | succ kj13 =>
                have H := HA.out
                clear HA
                simp only [clavigerlaw30_TableGoes.j2] at H
                replace H := Option.bind_eq_some_iff.mp H
                obtain ⟨t136, A160, H⟩ := H
                replace H : (clavigerlaw30_TableGoes.l0 kj13 a0 a1 a2 x7_13 t136 (t136.length : Int) 0) = some r := H
                have A16 := Aside0.mk A160
                clear A160
                have H' := Aside0.mk H
                clear H
                go_wp2_with (first | ((with_reducible refine gate_callee (f := 8) rfl ?_); refine goesL_ (some 33) rfl rfl Try.func8 (by kernel_rfl) rfl #[.string a0] rfl (by (try simp only [List.map_toArray, List.map_cons, List.map_nil]); first | done | rfl | (simp only [List.length_drop, List.length_take]; rfl)) ?_; (with_reducible refine (table_Usages.calls a0 t136 _ A16.out).mono ?_); rintro e w17 ⟨v137, rfl, ho0, hb⟩; refine ⟨_, rfl, ?_⟩; have n0_ := Aside0.mk (Kd.R_lower ho0 (below_size (by repeat (first | (with_reducible first | exact HB.out | apply below_alloc | apply pw_below_drewN | apply below_drew1) | exact HB.out)))); have n1_ := Aside0.mk (below_step (by repeat (first | (with_reducible first | exact HB.out | apply below_alloc | apply pw_below_drewN | apply below_drew1) | exact HB.out)) hb); clear HB; have HO138 := n0_; have HB := n1_; clear n0_ n1_; (try clear hb); (try clear hb2); (try clear hk); (try clear hi); (try clear ho0); obtain ⟨Ao18, co18, eo18⟩ := Kd.R_slice HO138.out; subst eo18))
                go_loopg [35] kj13 (fun kq v35 w' => ∃ (x35_4 : Int), v35 = .int .i64 x35_4 ∧ Aside0 (clavigerlaw30_TableGoes.l0 kq a0 a1 a2 x7_13 t136 (t136.length : Int) x35_4 = some r) ∧ Aside0 (kq ≤ kj13) ∧ Aside0 (Kd.R Kd.string 9 w' w.heap.size (fun _ => True) (.slice Ao18 t136.length co18) t136) ∧ Aside0 (Below w.heap.size w w'))
                case atStart => exact ⟨(0), (by first | rfl | (simp; done) | (simp [*]; done)), H', ⟨Nat.le_refl _⟩, ⟨by (with_reducible repeat (first | apply Kd.R_alloc | apply Kd.R_drewN | apply Kd.R_drew)); exact HO138.out⟩, ⟨by repeat (first | (with_reducible first | exact HB.out | apply below_alloc | apply pw_below_drewN | apply below_drew1) | exact HB.out)⟩⟩
                case round =>
                  clear H'
                  try clear c1
                  try clear p2
                  try clear c3
                  try clear c5
                  try clear c5b0
                  try clear c5b1
                  try clear c6
                  try clear c6b0
                  try clear c6b1
                  try clear c7
                  try clear c8
                  try clear c12
                  try clear c15
                  try clear p2
                  obtain ⟨x35_4, rfl, HA, HK4, HO_33, HB⟩ := hrel
                  cases gk with
                  | zero => exact absurd HA.out (by simp [clavigerlaw30_TableGoes.l0])
                  | succ k4 =>
                    have H := HA.out
                    clear HA
                    simp only [clavigerlaw30_TableGoes.l0] at H
                    by_cases c19 : x35_4 < (t136.length : Int)
                    · rw [if_pos c19] at H
                      have c19b0 : decide (x35_4 < (t136.length : Int)) = true := decide_eq_true c19
                      clear c19
                      by_cases c20 : 0 ≤ x35_4
                      · rw [if_pos c20] at H
                        have c20b0 : decide (0 ≤ x35_4) = true := decide_eq_true c20
                        clear c20
                        by_cases c21 : x35_4 < (t136.length : Int)
                        · rw [if_pos c21] at H
                          have c21b0 : decide (x35_4 < (t136.length : Int)) = true := decide_eq_true c21
                          clear c21
                          replace H := Option.bind_eq_some_iff.mp H
                          obtain ⟨t141, A220, H⟩ := H
                          replace H : ((table_Usage.f (rdOf ByteArray.empty t136 x35_4) a0).bind fun t142 => (if t142 = true then (clavigerlaw30_TableGoes.j4 k4 a0 a1 a2 x7_13 (rdOf ByteArray.empty t136 x35_4) t141 t136 (t136.length : Int) x35_4 ((t141.size : Int) == 0)) else (clavigerlaw30_TableGoes.j4 k4 a0 a1 a2 x7_13 (rdOf ByteArray.empty t136 x35_4) t141 t136 (t136.length : Int) x35_4 true))) = some r := H
                          have A22 := Aside0.mk A220
                          clear A220
                          have HC23 := Aside0.mk H
                          clear H
                          have p140 : 0 ≤ (x35_4 : Int) := of_decide_eq_true (by first | (with_reducible assumption) | assumption)
                          have q140 : x35_4 < (t136.length : Int) := of_decide_eq_true (by first | (with_reducible assumption) | assumption)
                          obtain ⟨ad140, e140, hx140_0⟩ := Kd.at_string (Kd.R_reads' HO_33.out).2.2 x35_4 p140 q140
                          cases e140
                          replace p140 := eq_true p140
                          replace q140 := eq_true q140
                          go_upto_region 10 with (first | ((with_reducible refine gate_callee (f := 9) rfl ?_); refine goesL_ (some 40) rfl rfl Try.func9 (by kernel_rfl) rfl #[.string (rdOf ByteArray.empty t136 x35_4)] rfl (by (try simp only [List.map_toArray, List.map_cons, List.map_nil]); first | done | rfl | (simp only [List.length_drop, List.length_take]; rfl)) ?_; (with_reducible refine (table_Modes.calls (rdOf ByteArray.empty t136 x35_4) t141 _ A22.out).mono ?_); rintro e w24 ⟨rfl, hb⟩; refine ⟨_, rfl, ?_⟩; have n0_ := Aside0.mk (Kd.R_below (by (with_reducible repeat (first | apply Kd.R_alloc | apply Kd.R_drewN | apply Kd.R_drew)); exact HO_33.out) hb); have n1_ := Aside0.mk (below_step (by repeat (first | (with_reducible first | exact HB.out | apply below_alloc | apply pw_below_drewN | apply below_drew1) | exact HB.out)) hb); clear HO_33; clear HB; have HO_33 := n0_; have HB := n1_; clear n0_ n1_; (try clear hb); (try clear hb2); (try clear hk); (try clear hi)))
                          (try simp only [Act.put, List.setIfInBounds_toArray, List.set_cons_zero, List.set_cons_succ])
                          go_cut [49] (fun v49 wc => ∃ (kq : Nat) (x49_22 : Bool), v49 = .bool x49_22 ∧ Aside0 (clavigerlaw30_TableGoes.j4 kq a0 a1 a2 x7_13 (rdOf ByteArray.empty t136 x35_4) t141 t136 (t136.length : Int) x35_4 x49_22 = some r) ∧ Aside0 (kq ≤ k4) ∧ Aside0 (Kd.R Kd.string 9 wc w.heap.size (fun _ => True) (.slice (some ad140) t136.length co18) t136) ∧ Aside0 (Below w.heap.size w wc))
                          case first =>
                            have H := HC23.out
                            clear HC23
                            replace H := Option.bind_eq_some_iff.mp H
                            obtain ⟨t142, A250, H⟩ := H
                            replace H : (if t142 = true then (clavigerlaw30_TableGoes.j4 k4 a0 a1 a2 x7_13 (rdOf ByteArray.empty t136 x35_4) t141 t136 (t136.length : Int) x35_4 ((t141.size : Int) == 0)) else (clavigerlaw30_TableGoes.j4 k4 a0 a1 a2 x7_13 (rdOf ByteArray.empty t136 x35_4) t141 t136 (t136.length : Int) x35_4 true)) = some r := H
                            have A25 := Aside0.mk A250
                            clear A250
                            by_cases c26 : t142 = true
                            · subst c26
                              have H1 : (clavigerlaw30_TableGoes.j4 k4 a0 a1 a2 x7_13 (rdOf ByteArray.empty t136 x35_4) t141 t136 (t136.length : Int) x35_4 ((t141.size : Int) == 0)) = some r := by rw [if_pos rfl] at H; exact H
                              clear H
                              have H := H1
                              clear H1
                              have H' := Aside0.mk H
                              clear H
                              go_wp2_with (first | ((with_reducible refine gate_callee (f := 10) rfl ?_); refine goesL_ (some 43) rfl rfl Try.func10 (by kernel_rfl) rfl #[.string (rdOf ByteArray.empty t136 x35_4), .string a0] rfl (by (try simp only [List.map_toArray, List.map_cons, List.map_nil]); first | done | rfl | (simp only [List.length_drop, List.length_take]; rfl)) ?_; (with_reducible refine (table_Usage.calls (rdOf ByteArray.empty t136 x35_4) a0 true _ A25.out).mono ?_); rintro e w27 ⟨rfl, hb⟩; refine ⟨_, rfl, ?_⟩; have n0_ := Aside0.mk (Kd.R_below (by (with_reducible repeat (first | apply Kd.R_alloc | apply Kd.R_drewN | apply Kd.R_drew)); exact HO_33.out) hb); have n1_ := Aside0.mk (below_step (by repeat (first | (with_reducible first | exact HB.out | apply below_alloc | apply pw_below_drewN | apply below_drew1) | exact HB.out)) hb); clear HO_33; clear HB; have HO_33 := n0_; have HB := n1_; clear n0_ n1_; (try clear hb); (try clear hb2); (try clear hk); (try clear hi)))
                              go_meet
                              case rel => exact ⟨_, (((t141.size : Int) == 0)), (by first | rfl | (simp; done) | (simp [*]; done)), H', ⟨by have := HJ3.out; have := HJ9.out; have := HJ13.out; have := HK4.out; first | omega | exact Nat.le_refl _⟩, ⟨by (with_reducible repeat (first | apply Kd.R_alloc | apply Kd.R_drewN | apply Kd.R_drew)); exact HO_33.out⟩, ⟨by repeat (first | (with_reducible first | exact HB.out | apply below_alloc | apply pw_below_drewN | apply below_drew1) | exact HB.out)⟩⟩
                            · replace c26 := Bool.eq_false_iff.mpr c26
                              subst c26
                              have H1 : (clavigerlaw30_TableGoes.j4 k4 a0 a1 a2 x7_13 (rdOf ByteArray.empty t136 x35_4) t141 t136 (t136.length : Int) x35_4 true) = some r := by rw [if_neg (show ¬ (false = true) by decide)] at H; exact H
                              clear H
                              have H := H1
                              clear H1
                              have H' := Aside0.mk H
                              clear H
                              go_wp2_with (first | ((with_reducible refine gate_callee (f := 10) rfl ?_); refine goesL_ (some 43) rfl rfl Try.func10 (by kernel_rfl) rfl #[.string (rdOf ByteArray.empty t136 x35_4), .string a0] rfl (by (try simp only [List.map_toArray, List.map_cons, List.map_nil]); first | done | rfl | (simp only [List.length_drop, List.length_take]; rfl)) ?_; (with_reducible refine (table_Usage.calls (rdOf ByteArray.empty t136 x35_4) a0 false _ A25.out).mono ?_); rintro e w28 ⟨rfl, hb⟩; refine ⟨_, rfl, ?_⟩; have n0_ := Aside0.mk (Kd.R_below (by (with_reducible repeat (first | apply Kd.R_alloc | apply Kd.R_drewN | apply Kd.R_drew)); exact HO_33.out) hb); have n1_ := Aside0.mk (below_step (by repeat (first | (with_reducible first | exact HB.out | apply below_alloc | apply pw_below_drewN | apply below_drew1) | exact HB.out)) hb); clear HO_33; clear HB; have HO_33 := n0_; have HB := n1_; clear n0_ n1_; (try clear hb); (try clear hb2); (try clear hk); (try clear hi)))
                              go_meet
                              case rel => exact ⟨_, (true), (by first | rfl | (simp; done) | (simp [*]; done)), H', ⟨by have := HJ3.out; have := HJ9.out; have := HJ13.out; have := HK4.out; first | omega | exact Nat.le_refl _⟩, ⟨by (with_reducible repeat (first | apply Kd.R_alloc | apply Kd.R_drewN | apply Kd.R_drew)); exact HO_33.out⟩, ⟨by repeat (first | (with_reducible first | exact HB.out | apply below_alloc | apply pw_below_drewN | apply below_drew1) | exact HB.out)⟩⟩
                          case rest =>
                            clear HC23
                            try clear c1
                            try clear p1
                            try clear q1
                            try clear hx1
                            try clear c2
                            try clear p2
                            try clear c3
                            try clear c5
                            try clear c5b0
                            try clear c5b1
                            try clear c6
                            try clear c6b0
                            try clear c6b1
                            try clear c7
                            try clear c8
                            try clear c9
                            try clear c10
                            try clear c12
                            try clear p14
                            try clear q14
                            try clear hx14
                            try clear c15
                            try clear c19
                            try clear c19b0
                            try clear c20
                            try clear c20b0
                            try clear c21
                            try clear c21b0
                            try clear c26
                            try clear hx140_0
                            try clear p140
                            try clear p2
                            try clear q140
                            obtain ⟨kq, x49_22, rfl, HA, HJ22, HO_33, HB⟩ := hcut
                            cases kq with
                            | zero => exact absurd HA.out (by simp [clavigerlaw30_TableGoes.j4])
                            | succ kj22 =>
                              have H := HA.out
                              clear HA
                              simp only [clavigerlaw30_TableGoes.j4] at H
                              by_cases c29 : x49_22 = true
                              · subst c29
                                have H1 : (some false) = some r := by rw [if_pos rfl] at H; exact H
                                clear H
                                have H := H1
                                clear H1
                                obtain rfl := Option.some.inj H
                                go_wp2
                                go_ret
                                exact ⟨by first | rfl | (simp [errW_none, errW_some] <;> rfl) | (simp [*, errW_none, errW_some] <;> rfl), by repeat (first | (with_reducible first | exact HB.out | apply below_alloc | apply pw_below_drewN | apply below_drew1) | exact HB.out)⟩
                              · replace c29 := Bool.eq_false_iff.mpr c29
                                subst c29
                                have H1 : (clavigerlaw30_TableGoes.l1 kj22 a0 a1 a2 x7_13 (rdOf ByteArray.empty t136 x35_4) t141 0 t136 (t136.length : Int) x35_4) = some r := by rw [if_neg (show ¬ (false = true) by decide)] at H; exact H
                                clear H
                                have H := H1
                                clear H1
                                have H' := Aside0.mk H
                                clear H
                                go_wp2
                                go_loopg [11] kj22 (fun kq v11 w' => ∃ (x11_6 : Int), v11 = .int .i64 x11_6 ∧ Aside0 (clavigerlaw30_TableGoes.l1 kq a0 a1 a2 x7_13 (rdOf ByteArray.empty t136 x35_4) t141 x11_6 t136 (t136.length : Int) x35_4 = some r) ∧ Aside0 (kq ≤ kj22) ∧ Aside0 (Kd.R Kd.string 9 w' w.heap.size (fun _ => True) (.slice (some ad140) t136.length co18) t136) ∧ Aside0 (Below w.heap.size w w'))
                                case atStart => exact ⟨(0), (by first | rfl | (simp; done) | (simp [*]; done)), H', ⟨Nat.le_refl _⟩, ⟨by (with_reducible repeat (first | apply Kd.R_alloc | apply Kd.R_drewN | apply Kd.R_drew)); exact HO_33.out⟩, ⟨by repeat (first | (with_reducible first | exact HB.out | apply below_alloc | apply pw_below_drewN | apply below_drew1) | exact HB.out)⟩⟩
                                case round =>
                                  clear H'
                                  try clear c1
                                  try clear p1
                                  try clear q1
                                  try clear hx1
                                  try clear c2
                                  try clear p2
                                  try clear c3
                                  try clear c5
                                  try clear c5b0
                                  try clear c5b1
                                  try clear c6
                                  try clear c6b0
                                  try clear c6b1
                                  try clear c7
                                  try clear c8
                                  try clear c9
                                  try clear c10
                                  try clear c12
                                  try clear p14
                                  try clear q14
                                  try clear hx14
                                  try clear c15
                                  try clear c19
                                  try clear c19b0
                                  try clear c20
                                  try clear c20b0
                                  try clear c21
                                  try clear c21b0
                                  try clear c26
                                  try clear c29
                                  try clear hx140_0
                                  try clear p1
                                  try clear p14
                                  try clear p140
                                  try clear p2
                                  try clear q1
                                  try clear q14
                                  try clear q140
                                  obtain ⟨x11_6, rfl, HA, HK6, HO_33, HB⟩ := hrel
                                  cases gk with
                                  | zero => exact absurd HA.out (by simp [clavigerlaw30_TableGoes.l1])
                                  | succ k6 =>
                                    have H := HA.out
                                    clear HA
                                    simp only [clavigerlaw30_TableGoes.l1] at H
                                    by_cases c30 : x11_6 < (t141.size : Int)
                                    · rw [if_pos c30] at H
                                      have c30b0 : decide (x11_6 < (t141.size : Int)) = true := decide_eq_true c30
                                      clear c30
                                      by_cases c31 : 0 ≤ x11_6
                                      · rw [if_pos c31] at H
                                        have c31b0 := eq_true c31
                                        have c31b1 : decide (0 ≤ x11_6) = true := decide_eq_true c31
                                        clear c31
                                        by_cases c32 : x11_6 ≤ (wrap64 (x11_6 + 1))
                                        · rw [if_pos c32] at H
                                          have c32b0 := eq_true c32
                                          have c32b1 : decide (x11_6 ≤ (wrap64 (x11_6 + 1))) = true := decide_eq_true c32
                                          by_cases c33 : (wrap64 (x11_6 + 1)) ≤ (t141.size : Int)
                                          · rw [if_pos c33] at H
                                            have c33b0 := eq_true c33
                                            have c33b1 : decide ((wrap64 (x11_6 + 1)) ≤ (t141.size : Int)) = true := decide_eq_true c33
                                            replace H := Option.bind_eq_some_iff.mp H
                                            obtain ⟨t143, A340, H⟩ := H
                                            replace H : (if t143 = x7_13 then (clavigerlaw30_TableGoes.l1 k6 a0 a1 a2 x7_13 (rdOf ByteArray.empty t136 x35_4) t141 (wrap64 (x11_6 + 1)) t136 (t136.length : Int) x35_4) else (some false)) = some r := H
                                            have A34 := Aside0.mk A340
                                            clear A340
                                            by_cases c35 : t143 = x7_13
                                            · rw [if_pos c35] at H
                                              have c35b0 : (t143 == x7_13) = true := beq_iff_eq.mpr c35
                                              have c35b1 : (t143 != x7_13) = false := bne_eq_false_iff_eq.mpr c35
                                              clear c35
                                              have H' := Aside0.mk H
                                              clear H
                                              go_wp2_with (first | ((with_reducible refine gate_callee (f := 11) rfl ?_); refine goesL_ (some 66) rfl rfl Try.func11 (by kernel_rfl) rfl #[.agg #[.string (rdOf ByteArray.empty t136 x35_4), .string (t141.extract (x11_6 : Int).toNat ((wrap64 (x11_6 + 1)) : Int).toNat), .string a1, .string a2], .string a0] rfl (by (try simp only [List.map_toArray, List.map_cons, List.map_nil]); first | done | rfl | (simp only [List.length_drop, List.length_take]; rfl)) ?_; (with_reducible refine (table_Check.calls (rdOf ByteArray.empty t136 x35_4) (t141.extract (x11_6 : Int).toNat ((wrap64 (x11_6 + 1)) : Int).toNat) a1 a2 a0 t143 _ A34.out).mono ?_); rintro e w36 ⟨rfl, hb⟩; refine ⟨_, rfl, ?_⟩; have n0_ := Aside0.mk (Kd.R_below (by (with_reducible repeat (first | apply Kd.R_alloc | apply Kd.R_drewN | apply Kd.R_drew)); exact HO_33.out) hb); have n1_ := Aside0.mk (below_step (by repeat (first | (with_reducible first | exact HB.out | apply below_alloc | apply pw_below_drewN | apply below_drew1) | exact HB.out)) hb); clear HO_33; clear HB; have HO_33 := n0_; have HB := n1_; clear n0_ n1_; (try clear hb); (try clear hb2); (try clear hk); (try clear hi)))
                                              go_roundg k6
                                              case measure => have := HJ3.out; have := HJ9.out; have := HJ13.out; have := HK4.out; have := HJ22.out; have := HK6.out; omega
                                              case rel => exact ⟨(wrap64 (x11_6 + 1)), (by first | rfl | (simp; done) | (simp [*]; done)), H', ⟨by have := HJ3.out; have := HJ9.out; have := HJ13.out; have := HK4.out; have := HJ22.out; have := HK6.out; omega⟩, ⟨by (with_reducible repeat (first | apply Kd.R_alloc | apply Kd.R_drewN | apply Kd.R_drew)); exact HO_33.out⟩, ⟨by repeat (first | (with_reducible first | exact HB.out | apply below_alloc | apply pw_below_drewN | apply below_drew1) | exact HB.out)⟩⟩
                                            · rw [if_neg c35] at H
                                              have c35b0 : (t143 == x7_13) = false := beq_eq_false_iff_ne.mpr c35
                                              have c35b1 : (t143 != x7_13) = true := bne_iff_ne.mpr c35
                                              obtain rfl := Option.some.inj H
                                              go_wp2_with (first | ((with_reducible refine gate_callee (f := 11) rfl ?_); refine goesL_ (some 66) rfl rfl Try.func11 (by kernel_rfl) rfl #[.agg #[.string (rdOf ByteArray.empty t136 x35_4), .string (t141.extract (x11_6 : Int).toNat ((wrap64 (x11_6 + 1)) : Int).toNat), .string a1, .string a2], .string a0] rfl (by (try simp only [List.map_toArray, List.map_cons, List.map_nil]); first | done | rfl | (simp only [List.length_drop, List.length_take]; rfl)) ?_; (with_reducible refine (table_Check.calls (rdOf ByteArray.empty t136 x35_4) (t141.extract (x11_6 : Int).toNat ((wrap64 (x11_6 + 1)) : Int).toNat) a1 a2 a0 t143 _ A34.out).mono ?_); rintro e w37 ⟨rfl, hb⟩; refine ⟨_, rfl, ?_⟩; have n0_ := Aside0.mk (Kd.R_below (by (with_reducible repeat (first | apply Kd.R_alloc | apply Kd.R_drewN | apply Kd.R_drew)); exact HO_33.out) hb); have n1_ := Aside0.mk (below_step (by repeat (first | (with_reducible first | exact HB.out | apply below_alloc | apply pw_below_drewN | apply below_drew1) | exact HB.out)) hb); clear HO_33; clear HB; have HO_33 := n0_; have HB := n1_; clear n0_ n1_; (try clear hb); (try clear hb2); (try clear hk); (try clear hi)))
                                              go_ret
                                              exact ⟨by first | rfl | (simp [errW_none, errW_some] <;> rfl) | (simp [*, errW_none, errW_some] <;> rfl), by repeat (first | (with_reducible first | exact HB.out | apply below_alloc | apply pw_below_drewN | apply below_drew1) | exact HB.out)⟩
                                          · rw [if_neg c33] at H
                                            exact absurd H (by simp)
                                        · rw [if_neg c32] at H
                                          exact absurd H (by simp)
                                      · rw [if_neg c31] at H
                                        exact absurd H (by simp)
                                    · rw [if_neg c30] at H
                                      have c30b0 : decide (x11_6 < (t141.size : Int)) = false := decide_eq_false c30
                                      clear c30
                                      have H' := Aside0.mk H
                                      clear H
                                      go_wp2
                                      go_roundg k6
                                      case measure => have := HJ3.out; have := HJ9.out; have := HJ13.out; have := HK4.out; have := HJ22.out; have := HK6.out; omega
                                      case rel => exact ⟨(wrap64 (x35_4 + 1)), (by first | rfl | (simp; done) | (simp [*]; done)), H', ⟨by have := HJ3.out; have := HJ9.out; have := HJ13.out; have := HK4.out; have := HJ22.out; have := HK6.out; omega⟩, ⟨by (with_reducible repeat (first | apply Kd.R_alloc | apply Kd.R_drewN | apply Kd.R_drew)); exact HO_33.out⟩, ⟨by repeat (first | (with_reducible first | exact HB.out | apply below_alloc | apply pw_below_drewN | apply below_drew1) | exact HB.out)⟩⟩
                        · rw [if_neg c21] at H
                          exact absurd H (by simp)
                      · rw [if_neg c20] at H
                        exact absurd H (by simp)
                    · rw [if_neg c19] at H
                      have c19b0 : decide (x35_4 < (t136.length : Int)) = false := decide_eq_false c19
                      clear c19
                      replace H := Option.bind_eq_some_iff.mp H
                      obtain ⟨t139, A380, H⟩ := H
                      replace H : (some t139) = some r := H
                      have A38 := Aside0.mk A380
                      clear A380
                      obtain rfl := Option.some.inj H
                      go_wp2_with (first | ((with_reducible refine gate_callee (f := 5) rfl ?_); refine goesL_ (some 70) rfl rfl Try.func5 (by kernel_rfl) rfl #[] rfl (by (try simp only [List.map_toArray, List.map_cons, List.map_nil]); first | done | rfl | (simp only [List.length_drop, List.length_take]; rfl)) ?_; (with_reducible refine (clavigerlaw30_awake.calls  t139 _ A38.out).mono ?_); rintro e w39 ⟨rfl, hb⟩; refine ⟨_, rfl, ?_⟩; have n0_ := Aside0.mk (Kd.R_below (by (with_reducible repeat (first | apply Kd.R_alloc | apply Kd.R_drewN | apply Kd.R_drew)); exact HO_33.out) hb); have n1_ := Aside0.mk (below_step (by repeat (first | (with_reducible first | exact HB.out | apply below_alloc | apply pw_below_drewN | apply below_drew1) | exact HB.out)) hb); clear HO_33; clear HB; have HO_33 := n0_; have HB := n1_; clear n0_ n1_; (try clear hb); (try clear hb2); (try clear hk); (try clear hi)))
                      go_ret
                      exact ⟨by first | rfl | (simp [errW_none, errW_some] <;> rfl) | (simp [*, errW_none, errW_some] <;> rfl), by repeat (first | (with_reducible first | exact HB.out | apply below_alloc | apply pw_below_drewN | apply below_drew1) | exact HB.out)⟩

/-- THE ONE PURE STATEMENT of clavigerlaw30_TableGoes: yours. -/
def clavigerlaw30_TableGoes.Pure : Prop := ∀ (a0 : ByteArray) (a1 : ByteArray) (a2 : ByteArray), a0.size ≤ 140737488351232 → a1.size ≤ 140737488351232 → a2.size ≤ 140737488351232 → ∃ k, clavigerlaw30_TableGoes.f k a0 a1 a2 = some true
theorem clavigerlaw30_TableGoes.walk (P : clavigerlaw30_TableGoes.Pure) (a0 : ByteArray) (a1 : ByteArray) (a2 : ByteArray) (w : World) (w0 : a0.size ≤ 140737488351232) (w1 : a1.size ≤ 140737488351232) (w2 : a2.size ≤ 140737488351232) :
    Calls Try.prog 3 #[.string a0, .string a1, .string a2] w fun e w' => e = .returned (.bool true) ∧ Below w.heap.size w w' := by
  obtain ⟨k, h⟩ := P a0 a1 a2 w0 w1 w2
  refine (clavigerlaw30_TableGoes.calls k a0 a1 a2 true w h).mono ?_
  rintro e w' ⟨rfl, hd⟩
  exact ⟨rfl, hd⟩

end Go.Proofs.Ytaapjmljdlneoaa.PTableGoes
