-- laid by a program out of the translation and of templates; not trusted: Lean checks it
import Derived.Test.YtlocmcemfjfhiaaDoorPStrsBackx0
import Derived.Test.YtlocmcemfjfhiaaDoorPStrsBackx1
import Derived.Test.YtlocmcemfjfhiaaDoorPStrsBackx2
import Derived.Test.YtlocmcemfjfhiaaDoorPStrsBackx3
namespace Go.Proofs.YtlocmcemfjfhiaaDoor.PStrsBack
open Go.RowKit Go.Proofs.YtlocmcemfjfhiaaDoorW.PrintWords Go.Proofs.YtlocmcemfjfhiaaDoorW.PrintLast Go.Proofs.YtlocmcemfjfhiaaDoorW.PrintMore
attribute [local go_sem] str_leq str_gtr str_geq max2_int min2_int max_two min_two max_three min_three max_four min_four   -- for this text's walks alone
set_option linter.unusedVariables false
set_option linter.unusedSimpArgs false

/-! ### clavigerlaw18_awake: function 35 -/
def clavigerlaw18_awake.f (k : Nat)  : Option (Bool) := (strs_Bits.f k (⟨#[240]⟩ : ByteArray) 4).bind fun bt144 => ((strs_Bits.f k (⟨#[241]⟩ : ByteArray) 4).bind fun bt146 => (if bt144.1.toList = ([4, 240] : List UInt8) then (if bt144.2 = true then (if bt146.2 = true then (some false) else ((strs_Bool.f true).bind fun t148 => (if t148.toList = ([255] : List UInt8) then ((strs_Utf.f (⟨#[195, 164]⟩ : ByteArray)).bind fun t149 => (if t149 = true then ((strs_Utf.f (⟨#[192, 128]⟩ : ByteArray)).bind fun t150 => (if t150 = true then (some false) else ((strs_Printable.f (⟨#[97, 45, 98]⟩ : ByteArray)).bind fun t151 => (if t151 = true then ((strs_Right.f k 5 (⟨#[]⟩ : ByteArray)).bind fun t152 => (some t152)) else (some false))))) else (some false))) else (some false)))) else (some false)) else (some false)))
theorem clavigerlaw18_awake.mono : ∀ k, LeO (clavigerlaw18_awake.f k ) (clavigerlaw18_awake.f (k + 1) ) := by
  intro  k
  unfold clavigerlaw18_awake.f
  repeat' first
      | (with_reducible exact strs_Bits.mono _ _ _)
      | (with_reducible exact strs_Right.mono _ _ _)
      | (with_reducible exact LeO.refl _)
      | (with_reducible exact LeO.none _)
      | (with_reducible refine LeO.ite ?_ ?_)
      | (with_reducible refine LeO.bind ?_ (fun _ => ?_))
      | exact strs_Bits.mono _ _ _
      | exact strs_Right.mono _ _ _
      | exact LeO.none _
      | refine LeO.ite ?_ ?_
      | refine LeO.bind ?_ (fun _ => ?_)
set_option maxHeartbeats 8000000 in
set_option maxRecDepth 100000 in
theorem clavigerlaw18_awake.calls (k : Nat)  (r : Bool) (w : World) (HT_ : Aside0 (TB w)) (h : clavigerlaw18_awake.f k  = some r) :
    Calls Tryd.prog 35 #[] w fun e w' => e = .returned (.bool r) ∧ Below w.heap.size w w' := by
  have HB := Aside0.mk (Below.refl w.heap.size w)
  have H : ((strs_Bits.f k (⟨#[240]⟩ : ByteArray) 4).bind fun bt144 => ((strs_Bits.f k (⟨#[241]⟩ : ByteArray) 4).bind fun bt146 => (if bt144.1.toList = ([4, 240] : List UInt8) then (if bt144.2 = true then (if bt146.2 = true then (some false) else ((strs_Bool.f true).bind fun t148 => (if t148.toList = ([255] : List UInt8) then ((strs_Utf.f (⟨#[195, 164]⟩ : ByteArray)).bind fun t149 => (if t149 = true then ((strs_Utf.f (⟨#[192, 128]⟩ : ByteArray)).bind fun t150 => (if t150 = true then (some false) else ((strs_Printable.f (⟨#[97, 45, 98]⟩ : ByteArray)).bind fun t151 => (if t151 = true then ((strs_Right.f k 5 (⟨#[]⟩ : ByteArray)).bind fun t152 => (some t152)) else (some false))))) else (some false))) else (some false)))) else (some false)) else (some false)))) = some r := h
  clear h
  replace H := Option.bind_eq_some_iff.mp H
  obtain ⟨⟨t144, t145⟩, A10, H⟩ := H
  replace H : ((strs_Bits.f k (⟨#[241]⟩ : ByteArray) 4).bind fun bt146 => (if t144.toList = ([4, 240] : List UInt8) then (if t145 = true then (if bt146.2 = true then (some false) else ((strs_Bool.f true).bind fun t148 => (if t148.toList = ([255] : List UInt8) then ((strs_Utf.f (⟨#[195, 164]⟩ : ByteArray)).bind fun t149 => (if t149 = true then ((strs_Utf.f (⟨#[192, 128]⟩ : ByteArray)).bind fun t150 => (if t150 = true then (some false) else ((strs_Printable.f (⟨#[97, 45, 98]⟩ : ByteArray)).bind fun t151 => (if t151 = true then ((strs_Right.f k 5 (⟨#[]⟩ : ByteArray)).bind fun t152 => (some t152)) else (some false))))) else (some false))) else (some false)))) else (some false)) else (some false))) = some r := H
  have A1 := Aside0.mk A10
  clear A10
  replace H := Option.bind_eq_some_iff.mp H
  obtain ⟨⟨t146, t147⟩, A20, H⟩ := H
  replace H : (if t144.toList = ([4, 240] : List UInt8) then (if t145 = true then (if t147 = true then (some false) else ((strs_Bool.f true).bind fun t148 => (if t148.toList = ([255] : List UInt8) then ((strs_Utf.f (⟨#[195, 164]⟩ : ByteArray)).bind fun t149 => (if t149 = true then ((strs_Utf.f (⟨#[192, 128]⟩ : ByteArray)).bind fun t150 => (if t150 = true then (some false) else ((strs_Printable.f (⟨#[97, 45, 98]⟩ : ByteArray)).bind fun t151 => (if t151 = true then ((strs_Right.f k 5 (⟨#[]⟩ : ByteArray)).bind fun t152 => (some t152)) else (some false))))) else (some false))) else (some false)))) else (some false)) else (some false)) = some r := H
  have A2 := Aside0.mk A20
  clear A20
  by_cases c3 : t144.toList = ([4, 240] : List UInt8)
  · rw [if_pos c3] at H
    have c3b0 : (t144.toList == ([4, 240] : List UInt8)) = true := beq_iff_eq.mpr c3
    have c3b1 : (t144.toList != ([4, 240] : List UInt8)) = false := bne_eq_false_iff_eq.mpr c3
    clear c3
    by_cases c4 : t145 = true
    · subst c4
      have H1 : (if t147 = true then (some false) else ((strs_Bool.f true).bind fun t148 => (if t148.toList = ([255] : List UInt8) then ((strs_Utf.f (⟨#[195, 164]⟩ : ByteArray)).bind fun t149 => (if t149 = true then ((strs_Utf.f (⟨#[192, 128]⟩ : ByteArray)).bind fun t150 => (if t150 = true then (some false) else ((strs_Printable.f (⟨#[97, 45, 98]⟩ : ByteArray)).bind fun t151 => (if t151 = true then ((strs_Right.f k 5 (⟨#[]⟩ : ByteArray)).bind fun t152 => (some t152)) else (some false))))) else (some false))) else (some false)))) = some r := by rw [if_pos rfl] at H; exact H
      clear H
      have H := H1
      clear H1
      by_cases c5 : t147 = true
      · subst c5
        have H1 : (some false) = some r := by rw [if_pos rfl] at H; exact H
        clear H
        have H := H1
        clear H1
        obtain rfl := Option.some.inj H
        go_enter Tryd.func35, Tryd.ntmps35
        go_wp2_with (first | ((with_reducible refine gate_callee (f := 36) rfl ?_); refine goesL_ (some 6) rfl rfl Tryd.func36 (by kernel_rfl) rfl #[.string (⟨#[240]⟩ : ByteArray), .int .i64 4] rfl (by (try simp only [List.map_toArray, List.map_cons, List.map_nil]); first | done | rfl | (simp only [List.length_drop, List.length_take]; rfl)) ?_; (with_reducible refine (strs_Bits.calls k (⟨#[240]⟩ : ByteArray) 4 t144 true _ A1.out).mono ?_); rintro e w6 ⟨rfl, hb⟩; refine ⟨_, rfl, ?_⟩; have n0_ := Aside0.mk (below_step (by repeat (first | (with_reducible first | exact HB.out | apply below_alloc | apply pw_below_drewN | apply below_drew1) | exact HB.out)) hb); clear HB; have HB := n0_; clear n0_; (try clear hb); (try clear hb2); (try clear hk); (try clear hi)) | ((with_reducible refine gate_callee (f := 36) rfl ?_); refine goesL_ (some 10) rfl rfl Tryd.func36 (by kernel_rfl) rfl #[.string (⟨#[241]⟩ : ByteArray), .int .i64 4] rfl (by (try simp only [List.map_toArray, List.map_cons, List.map_nil]); first | done | rfl | (simp only [List.length_drop, List.length_take]; rfl)) ?_; (with_reducible refine (strs_Bits.calls k (⟨#[241]⟩ : ByteArray) 4 t146 true _ A2.out).mono ?_); rintro e w7 ⟨rfl, hb⟩; refine ⟨_, rfl, ?_⟩; have n0_ := Aside0.mk (below_step (by repeat (first | (with_reducible first | exact HB.out | apply below_alloc | apply pw_below_drewN | apply below_drew1) | exact HB.out)) hb); clear HB; have HB := n0_; clear n0_; (try clear hb); (try clear hb2); (try clear hk); (try clear hi)))
        go_ret
        exact ⟨by first | rfl | (simp [errW_none, errW_some] <;> rfl) | (simp [*, errW_none, errW_some] <;> rfl), by repeat (first | (with_reducible first | exact HB.out | apply below_alloc | apply pw_below_drewN | apply below_drew1) | exact HB.out)⟩
      · replace c5 := Bool.eq_false_iff.mpr c5
        subst c5
        have H1 : ((strs_Bool.f true).bind fun t148 => (if t148.toList = ([255] : List UInt8) then ((strs_Utf.f (⟨#[195, 164]⟩ : ByteArray)).bind fun t149 => (if t149 = true then ((strs_Utf.f (⟨#[192, 128]⟩ : ByteArray)).bind fun t150 => (if t150 = true then (some false) else ((strs_Printable.f (⟨#[97, 45, 98]⟩ : ByteArray)).bind fun t151 => (if t151 = true then ((strs_Right.f k 5 (⟨#[]⟩ : ByteArray)).bind fun t152 => (some t152)) else (some false))))) else (some false))) else (some false))) = some r := by rw [if_neg (show ¬ (false = true) by decide)] at H; exact H
        clear H
        have H := H1
        clear H1
        replace H := Option.bind_eq_some_iff.mp H
        obtain ⟨t148, A80, H⟩ := H
        replace H : (if t148.toList = ([255] : List UInt8) then ((strs_Utf.f (⟨#[195, 164]⟩ : ByteArray)).bind fun t149 => (if t149 = true then ((strs_Utf.f (⟨#[192, 128]⟩ : ByteArray)).bind fun t150 => (if t150 = true then (some false) else ((strs_Printable.f (⟨#[97, 45, 98]⟩ : ByteArray)).bind fun t151 => (if t151 = true then ((strs_Right.f k 5 (⟨#[]⟩ : ByteArray)).bind fun t152 => (some t152)) else (some false))))) else (some false))) else (some false)) = some r := H
        have A8 := Aside0.mk A80
        clear A80
        by_cases c9 : t148.toList = ([255] : List UInt8)
        · rw [if_pos c9] at H
          have c9b0 : (t148.toList == ([255] : List UInt8)) = true := beq_iff_eq.mpr c9
          have c9b1 : (t148.toList != ([255] : List UInt8)) = false := bne_eq_false_iff_eq.mpr c9
          clear c9
          replace H := Option.bind_eq_some_iff.mp H
          obtain ⟨t149, A100, H⟩ := H
          replace H : (if t149 = true then ((strs_Utf.f (⟨#[192, 128]⟩ : ByteArray)).bind fun t150 => (if t150 = true then (some false) else ((strs_Printable.f (⟨#[97, 45, 98]⟩ : ByteArray)).bind fun t151 => (if t151 = true then ((strs_Right.f k 5 (⟨#[]⟩ : ByteArray)).bind fun t152 => (some t152)) else (some false))))) else (some false)) = some r := H
          have A10 := Aside0.mk A100
          clear A100
          by_cases c11 : t149 = true
          · subst c11
            have H1 : ((strs_Utf.f (⟨#[192, 128]⟩ : ByteArray)).bind fun t150 => (if t150 = true then (some false) else ((strs_Printable.f (⟨#[97, 45, 98]⟩ : ByteArray)).bind fun t151 => (if t151 = true then ((strs_Right.f k 5 (⟨#[]⟩ : ByteArray)).bind fun t152 => (some t152)) else (some false))))) = some r := by rw [if_pos rfl] at H; exact H
            clear H
            have H := H1
            clear H1
            replace H := Option.bind_eq_some_iff.mp H
            obtain ⟨t150, A120, H⟩ := H
            replace H : (if t150 = true then (some false) else ((strs_Printable.f (⟨#[97, 45, 98]⟩ : ByteArray)).bind fun t151 => (if t151 = true then ((strs_Right.f k 5 (⟨#[]⟩ : ByteArray)).bind fun t152 => (some t152)) else (some false)))) = some r := H
            have A12 := Aside0.mk A120
            clear A120
            by_cases c13 : t150 = true
            · subst c13
              have H1 : (some false) = some r := by rw [if_pos rfl] at H; exact H
              clear H
              have H := H1
              clear H1
              obtain rfl := Option.some.inj H
              go_enter Tryd.func35, Tryd.ntmps35
              go_wp2_with (first | ((with_reducible refine gate_callee (f := 36) rfl ?_); refine goesL_ (some 6) rfl rfl Tryd.func36 (by kernel_rfl) rfl #[.string (⟨#[240]⟩ : ByteArray), .int .i64 4] rfl (by (try simp only [List.map_toArray, List.map_cons, List.map_nil]); first | done | rfl | (simp only [List.length_drop, List.length_take]; rfl)) ?_; (with_reducible refine (strs_Bits.calls k (⟨#[240]⟩ : ByteArray) 4 t144 true _ A1.out).mono ?_); rintro e w14 ⟨rfl, hb⟩; refine ⟨_, rfl, ?_⟩; have n0_ := Aside0.mk (below_step (by repeat (first | (with_reducible first | exact HB.out | apply below_alloc | apply pw_below_drewN | apply below_drew1) | exact HB.out)) hb); clear HB; have HB := n0_; clear n0_; (try clear hb); (try clear hb2); (try clear hk); (try clear hi)) | ((with_reducible refine gate_callee (f := 36) rfl ?_); refine goesL_ (some 10) rfl rfl Tryd.func36 (by kernel_rfl) rfl #[.string (⟨#[241]⟩ : ByteArray), .int .i64 4] rfl (by (try simp only [List.map_toArray, List.map_cons, List.map_nil]); first | done | rfl | (simp only [List.length_drop, List.length_take]; rfl)) ?_; (with_reducible refine (strs_Bits.calls k (⟨#[241]⟩ : ByteArray) 4 t146 false _ A2.out).mono ?_); rintro e w15 ⟨rfl, hb⟩; refine ⟨_, rfl, ?_⟩; have n0_ := Aside0.mk (below_step (by repeat (first | (with_reducible first | exact HB.out | apply below_alloc | apply pw_below_drewN | apply below_drew1) | exact HB.out)) hb); clear HB; have HB := n0_; clear n0_; (try clear hb); (try clear hb2); (try clear hk); (try clear hi)) | (go_at_call 42; (with_reducible refine (strs_Bool.calls true t148 _ A8.out).mono ?_); rintro e w' ⟨rfl, ⟨nd, rfl⟩⟩) | (go_at_call 44; (with_reducible refine (strs_Utf.calls (⟨#[195, 164]⟩ : ByteArray) true _ ?tb_ A10.out).mono ?_); (case tb_ => exact ⟨TB.below HT_.out (by repeat (first | (with_reducible first | exact HB.out | apply below_alloc | apply pw_below_drewN | apply below_drew1) | exact HB.out | exact Below.refl _ _))⟩); rintro e w16 ⟨rfl, hb⟩; have n0_ := Aside0.mk (below_step (by repeat (first | (with_reducible first | exact HB.out | apply below_alloc | apply pw_below_drewN | apply below_drew1) | exact HB.out)) hb); clear HB; have HB := n0_; clear n0_; (try clear hb); (try clear hb2); (try clear hk); (try clear hi)) | (go_at_call 44; (with_reducible refine (strs_Utf.calls (⟨#[192, 128]⟩ : ByteArray) true _ ?tb_ A12.out).mono ?_); (case tb_ => exact ⟨TB.below HT_.out (by repeat (first | (with_reducible first | exact HB.out | apply below_alloc | apply pw_below_drewN | apply below_drew1) | exact HB.out | exact Below.refl _ _))⟩); rintro e w17 ⟨rfl, hb⟩; have n0_ := Aside0.mk (below_step (by repeat (first | (with_reducible first | exact HB.out | apply below_alloc | apply pw_below_drewN | apply below_drew1) | exact HB.out)) hb); clear HB; have HB := n0_; clear n0_; (try clear hb); (try clear hb2); (try clear hk); (try clear hi)))
              go_ret
              exact ⟨by first | rfl | (simp [errW_none, errW_some] <;> rfl) | (simp [*, errW_none, errW_some] <;> rfl), by repeat (first | (with_reducible first | exact HB.out | apply below_alloc | apply pw_below_drewN | apply below_drew1) | exact HB.out)⟩
            · replace c13 := Bool.eq_false_iff.mpr c13
              subst c13
              have H1 : ((strs_Printable.f (⟨#[97, 45, 98]⟩ : ByteArray)).bind fun t151 => (if t151 = true then ((strs_Right.f k 5 (⟨#[]⟩ : ByteArray)).bind fun t152 => (some t152)) else (some false))) = some r := by rw [if_neg (show ¬ (false = true) by decide)] at H; exact H
              clear H
              have H := H1
              clear H1
              replace H := Option.bind_eq_some_iff.mp H
              obtain ⟨t151, A180, H⟩ := H
              replace H : (if t151 = true then ((strs_Right.f k 5 (⟨#[]⟩ : ByteArray)).bind fun t152 => (some t152)) else (some false)) = some r := H
              have A18 := Aside0.mk A180
              clear A180
              by_cases c19 : t151 = true
              · subst c19
                have H1 : ((strs_Right.f k 5 (⟨#[]⟩ : ByteArray)).bind fun t152 => (some t152)) = some r := by rw [if_pos rfl] at H; exact H
                clear H
                have H := H1
                clear H1
                replace H := Option.bind_eq_some_iff.mp H
                obtain ⟨t152, A200, H⟩ := H
                replace H : (some t152) = some r := H
                have A20 := Aside0.mk A200
                clear A200
                obtain rfl := Option.some.inj H
                go_enter Tryd.func35, Tryd.ntmps35
                go_wp2_with (first | ((with_reducible refine gate_callee (f := 36) rfl ?_); refine goesL_ (some 6) rfl rfl Tryd.func36 (by kernel_rfl) rfl #[.string (⟨#[240]⟩ : ByteArray), .int .i64 4] rfl (by (try simp only [List.map_toArray, List.map_cons, List.map_nil]); first | done | rfl | (simp only [List.length_drop, List.length_take]; rfl)) ?_; (with_reducible refine (strs_Bits.calls k (⟨#[240]⟩ : ByteArray) 4 t144 true _ A1.out).mono ?_); rintro e w21 ⟨rfl, hb⟩; refine ⟨_, rfl, ?_⟩; have n0_ := Aside0.mk (below_step (by repeat (first | (with_reducible first | exact HB.out | apply below_alloc | apply pw_below_drewN | apply below_drew1) | exact HB.out)) hb); clear HB; have HB := n0_; clear n0_; (try clear hb); (try clear hb2); (try clear hk); (try clear hi)) | ((with_reducible refine gate_callee (f := 36) rfl ?_); refine goesL_ (some 10) rfl rfl Tryd.func36 (by kernel_rfl) rfl #[.string (⟨#[241]⟩ : ByteArray), .int .i64 4] rfl (by (try simp only [List.map_toArray, List.map_cons, List.map_nil]); first | done | rfl | (simp only [List.length_drop, List.length_take]; rfl)) ?_; (with_reducible refine (strs_Bits.calls k (⟨#[241]⟩ : ByteArray) 4 t146 false _ A2.out).mono ?_); rintro e w22 ⟨rfl, hb⟩; refine ⟨_, rfl, ?_⟩; have n0_ := Aside0.mk (below_step (by repeat (first | (with_reducible first | exact HB.out | apply below_alloc | apply pw_below_drewN | apply below_drew1) | exact HB.out)) hb); clear HB; have HB := n0_; clear n0_; (try clear hb); (try clear hb2); (try clear hk); (try clear hi)) | (go_at_call 42; (with_reducible refine (strs_Bool.calls true t148 _ A8.out).mono ?_); rintro e w' ⟨rfl, ⟨nd, rfl⟩⟩) | (go_at_call 44; (with_reducible refine (strs_Utf.calls (⟨#[195, 164]⟩ : ByteArray) true _ ?tb_ A10.out).mono ?_); (case tb_ => exact ⟨TB.below HT_.out (by repeat (first | (with_reducible first | exact HB.out | apply below_alloc | apply pw_below_drewN | apply below_drew1) | exact HB.out | exact Below.refl _ _))⟩); rintro e w23 ⟨rfl, hb⟩; have n0_ := Aside0.mk (below_step (by repeat (first | (with_reducible first | exact HB.out | apply below_alloc | apply pw_below_drewN | apply below_drew1) | exact HB.out)) hb); clear HB; have HB := n0_; clear n0_; (try clear hb); (try clear hb2); (try clear hk); (try clear hi)) | (go_at_call 44; (with_reducible refine (strs_Utf.calls (⟨#[192, 128]⟩ : ByteArray) false _ ?tb_ A12.out).mono ?_); (case tb_ => exact ⟨TB.below HT_.out (by repeat (first | (with_reducible first | exact HB.out | apply below_alloc | apply pw_below_drewN | apply below_drew1) | exact HB.out | exact Below.refl _ _))⟩); rintro e w24 ⟨rfl, hb⟩; have n0_ := Aside0.mk (below_step (by repeat (first | (with_reducible first | exact HB.out | apply below_alloc | apply pw_below_drewN | apply below_drew1) | exact HB.out)) hb); clear HB; have HB := n0_; clear n0_; (try clear hb); (try clear hb2); (try clear hk); (try clear hi)) | (go_at_call 46; (with_reducible refine (strs_Printable.calls (⟨#[97, 45, 98]⟩ : ByteArray) true _ A18.out).mono ?_); rintro e w25 ⟨rfl, hb⟩; have n0_ := Aside0.mk (below_step (by repeat (first | (with_reducible first | exact HB.out | apply below_alloc | apply pw_below_drewN | apply below_drew1) | exact HB.out)) hb); clear HB; have HB := n0_; clear n0_; (try clear hb); (try clear hb2); (try clear hk); (try clear hi)) | (go_at_call 48; (with_reducible refine (strs_Right.calls k 5 (⟨#[]⟩ : ByteArray) t152 _ ?tb_ A20.out).mono ?_); (case tb_ => exact ⟨TB.below HT_.out (by repeat (first | (with_reducible first | exact HB.out | apply below_alloc | apply pw_below_drewN | apply below_drew1) | exact HB.out | exact Below.refl _ _))⟩); rintro e w26 ⟨rfl, hb⟩; have n0_ := Aside0.mk (below_step (by repeat (first | (with_reducible first | exact HB.out | apply below_alloc | apply pw_below_drewN | apply below_drew1) | exact HB.out)) hb); clear HB; have HB := n0_; clear n0_; (try clear hb); (try clear hb2); (try clear hk); (try clear hi)))
                go_ret
                exact ⟨by first | rfl | (simp [errW_none, errW_some] <;> rfl) | (simp [*, errW_none, errW_some] <;> rfl), by repeat (first | (with_reducible first | exact HB.out | apply below_alloc | apply pw_below_drewN | apply below_drew1) | exact HB.out)⟩
              · replace c19 := Bool.eq_false_iff.mpr c19
                subst c19
                have H1 : (some false) = some r := by rw [if_neg (show ¬ (false = true) by decide)] at H; exact H
                clear H
                have H := H1
                clear H1
                obtain rfl := Option.some.inj H
                go_enter Tryd.func35, Tryd.ntmps35
                go_wp2_with (first | ((with_reducible refine gate_callee (f := 36) rfl ?_); refine goesL_ (some 6) rfl rfl Tryd.func36 (by kernel_rfl) rfl #[.string (⟨#[240]⟩ : ByteArray), .int .i64 4] rfl (by (try simp only [List.map_toArray, List.map_cons, List.map_nil]); first | done | rfl | (simp only [List.length_drop, List.length_take]; rfl)) ?_; (with_reducible refine (strs_Bits.calls k (⟨#[240]⟩ : ByteArray) 4 t144 true _ A1.out).mono ?_); rintro e w27 ⟨rfl, hb⟩; refine ⟨_, rfl, ?_⟩; have n0_ := Aside0.mk (below_step (by repeat (first | (with_reducible first | exact HB.out | apply below_alloc | apply pw_below_drewN | apply below_drew1) | exact HB.out)) hb); clear HB; have HB := n0_; clear n0_; (try clear hb); (try clear hb2); (try clear hk); (try clear hi)) | ((with_reducible refine gate_callee (f := 36) rfl ?_); refine goesL_ (some 10) rfl rfl Tryd.func36 (by kernel_rfl) rfl #[.string (⟨#[241]⟩ : ByteArray), .int .i64 4] rfl (by (try simp only [List.map_toArray, List.map_cons, List.map_nil]); first | done | rfl | (simp only [List.length_drop, List.length_take]; rfl)) ?_; (with_reducible refine (strs_Bits.calls k (⟨#[241]⟩ : ByteArray) 4 t146 false _ A2.out).mono ?_); rintro e w28 ⟨rfl, hb⟩; refine ⟨_, rfl, ?_⟩; have n0_ := Aside0.mk (below_step (by repeat (first | (with_reducible first | exact HB.out | apply below_alloc | apply pw_below_drewN | apply below_drew1) | exact HB.out)) hb); clear HB; have HB := n0_; clear n0_; (try clear hb); (try clear hb2); (try clear hk); (try clear hi)) | (go_at_call 42; (with_reducible refine (strs_Bool.calls true t148 _ A8.out).mono ?_); rintro e w' ⟨rfl, ⟨nd, rfl⟩⟩) | (go_at_call 44; (with_reducible refine (strs_Utf.calls (⟨#[195, 164]⟩ : ByteArray) true _ ?tb_ A10.out).mono ?_); (case tb_ => exact ⟨TB.below HT_.out (by repeat (first | (with_reducible first | exact HB.out | apply below_alloc | apply pw_below_drewN | apply below_drew1) | exact HB.out | exact Below.refl _ _))⟩); rintro e w29 ⟨rfl, hb⟩; have n0_ := Aside0.mk (below_step (by repeat (first | (with_reducible first | exact HB.out | apply below_alloc | apply pw_below_drewN | apply below_drew1) | exact HB.out)) hb); clear HB; have HB := n0_; clear n0_; (try clear hb); (try clear hb2); (try clear hk); (try clear hi)) | (go_at_call 44; (with_reducible refine (strs_Utf.calls (⟨#[192, 128]⟩ : ByteArray) false _ ?tb_ A12.out).mono ?_); (case tb_ => exact ⟨TB.below HT_.out (by repeat (first | (with_reducible first | exact HB.out | apply below_alloc | apply pw_below_drewN | apply below_drew1) | exact HB.out | exact Below.refl _ _))⟩); rintro e w30 ⟨rfl, hb⟩; have n0_ := Aside0.mk (below_step (by repeat (first | (with_reducible first | exact HB.out | apply below_alloc | apply pw_below_drewN | apply below_drew1) | exact HB.out)) hb); clear HB; have HB := n0_; clear n0_; (try clear hb); (try clear hb2); (try clear hk); (try clear hi)) | (go_at_call 46; (with_reducible refine (strs_Printable.calls (⟨#[97, 45, 98]⟩ : ByteArray) false _ A18.out).mono ?_); rintro e w31 ⟨rfl, hb⟩; have n0_ := Aside0.mk (below_step (by repeat (first | (with_reducible first | exact HB.out | apply below_alloc | apply pw_below_drewN | apply below_drew1) | exact HB.out)) hb); clear HB; have HB := n0_; clear n0_; (try clear hb); (try clear hb2); (try clear hk); (try clear hi)))
                go_ret
                exact ⟨by first | rfl | (simp [errW_none, errW_some] <;> rfl) | (simp [*, errW_none, errW_some] <;> rfl), by repeat (first | (with_reducible first | exact HB.out | apply below_alloc | apply pw_below_drewN | apply below_drew1) | exact HB.out)⟩
          · replace c11 := Bool.eq_false_iff.mpr c11
            subst c11
            have H1 : (some false) = some r := by rw [if_neg (show ¬ (false = true) by decide)] at H; exact H
            clear H
            have H := H1
            clear H1
            obtain rfl := Option.some.inj H
            go_enter Tryd.func35, Tryd.ntmps35
            go_wp2_with (first | ((with_reducible refine gate_callee (f := 36) rfl ?_); refine goesL_ (some 6) rfl rfl Tryd.func36 (by kernel_rfl) rfl #[.string (⟨#[240]⟩ : ByteArray), .int .i64 4] rfl (by (try simp only [List.map_toArray, List.map_cons, List.map_nil]); first | done | rfl | (simp only [List.length_drop, List.length_take]; rfl)) ?_; (with_reducible refine (strs_Bits.calls k (⟨#[240]⟩ : ByteArray) 4 t144 true _ A1.out).mono ?_); rintro e w32 ⟨rfl, hb⟩; refine ⟨_, rfl, ?_⟩; have n0_ := Aside0.mk (below_step (by repeat (first | (with_reducible first | exact HB.out | apply below_alloc | apply pw_below_drewN | apply below_drew1) | exact HB.out)) hb); clear HB; have HB := n0_; clear n0_; (try clear hb); (try clear hb2); (try clear hk); (try clear hi)) | ((with_reducible refine gate_callee (f := 36) rfl ?_); refine goesL_ (some 10) rfl rfl Tryd.func36 (by kernel_rfl) rfl #[.string (⟨#[241]⟩ : ByteArray), .int .i64 4] rfl (by (try simp only [List.map_toArray, List.map_cons, List.map_nil]); first | done | rfl | (simp only [List.length_drop, List.length_take]; rfl)) ?_; (with_reducible refine (strs_Bits.calls k (⟨#[241]⟩ : ByteArray) 4 t146 false _ A2.out).mono ?_); rintro e w33 ⟨rfl, hb⟩; refine ⟨_, rfl, ?_⟩; have n0_ := Aside0.mk (below_step (by repeat (first | (with_reducible first | exact HB.out | apply below_alloc | apply pw_below_drewN | apply below_drew1) | exact HB.out)) hb); clear HB; have HB := n0_; clear n0_; (try clear hb); (try clear hb2); (try clear hk); (try clear hi)) | (go_at_call 42; (with_reducible refine (strs_Bool.calls true t148 _ A8.out).mono ?_); rintro e w' ⟨rfl, ⟨nd, rfl⟩⟩) | (go_at_call 44; (with_reducible refine (strs_Utf.calls (⟨#[195, 164]⟩ : ByteArray) false _ ?tb_ A10.out).mono ?_); (case tb_ => exact ⟨TB.below HT_.out (by repeat (first | (with_reducible first | exact HB.out | apply below_alloc | apply pw_below_drewN | apply below_drew1) | exact HB.out | exact Below.refl _ _))⟩); rintro e w34 ⟨rfl, hb⟩; have n0_ := Aside0.mk (below_step (by repeat (first | (with_reducible first | exact HB.out | apply below_alloc | apply pw_below_drewN | apply below_drew1) | exact HB.out)) hb); clear HB; have HB := n0_; clear n0_; (try clear hb); (try clear hb2); (try clear hk); (try clear hi)))
            go_ret
            exact ⟨by first | rfl | (simp [errW_none, errW_some] <;> rfl) | (simp [*, errW_none, errW_some] <;> rfl), by repeat (first | (with_reducible first | exact HB.out | apply below_alloc | apply pw_below_drewN | apply below_drew1) | exact HB.out)⟩
        · rw [if_neg c9] at H
          have c9b0 : (t148.toList == ([255] : List UInt8)) = false := beq_eq_false_iff_ne.mpr c9
          have c9b1 : (t148.toList != ([255] : List UInt8)) = true := bne_iff_ne.mpr c9
          obtain rfl := Option.some.inj H
          go_enter Tryd.func35, Tryd.ntmps35
          go_wp2_with (first | ((with_reducible refine gate_callee (f := 36) rfl ?_); refine goesL_ (some 6) rfl rfl Tryd.func36 (by kernel_rfl) rfl #[.string (⟨#[240]⟩ : ByteArray), .int .i64 4] rfl (by (try simp only [List.map_toArray, List.map_cons, List.map_nil]); first | done | rfl | (simp only [List.length_drop, List.length_take]; rfl)) ?_; (with_reducible refine (strs_Bits.calls k (⟨#[240]⟩ : ByteArray) 4 t144 true _ A1.out).mono ?_); rintro e w35 ⟨rfl, hb⟩; refine ⟨_, rfl, ?_⟩; have n0_ := Aside0.mk (below_step (by repeat (first | (with_reducible first | exact HB.out | apply below_alloc | apply pw_below_drewN | apply below_drew1) | exact HB.out)) hb); clear HB; have HB := n0_; clear n0_; (try clear hb); (try clear hb2); (try clear hk); (try clear hi)) | ((with_reducible refine gate_callee (f := 36) rfl ?_); refine goesL_ (some 10) rfl rfl Tryd.func36 (by kernel_rfl) rfl #[.string (⟨#[241]⟩ : ByteArray), .int .i64 4] rfl (by (try simp only [List.map_toArray, List.map_cons, List.map_nil]); first | done | rfl | (simp only [List.length_drop, List.length_take]; rfl)) ?_; (with_reducible refine (strs_Bits.calls k (⟨#[241]⟩ : ByteArray) 4 t146 false _ A2.out).mono ?_); rintro e w36 ⟨rfl, hb⟩; refine ⟨_, rfl, ?_⟩; have n0_ := Aside0.mk (below_step (by repeat (first | (with_reducible first | exact HB.out | apply below_alloc | apply pw_below_drewN | apply below_drew1) | exact HB.out)) hb); clear HB; have HB := n0_; clear n0_; (try clear hb); (try clear hb2); (try clear hk); (try clear hi)) | (go_at_call 42; (with_reducible refine (strs_Bool.calls true t148 _ A8.out).mono ?_); rintro e w' ⟨rfl, ⟨nd, rfl⟩⟩))
          go_ret
          exact ⟨by first | rfl | (simp [errW_none, errW_some] <;> rfl) | (simp [*, errW_none, errW_some] <;> rfl), by repeat (first | (with_reducible first | exact HB.out | apply below_alloc | apply pw_below_drewN | apply below_drew1) | exact HB.out)⟩
    · replace c4 := Bool.eq_false_iff.mpr c4
      subst c4
      have H1 : (some false) = some r := by rw [if_neg (show ¬ (false = true) by decide)] at H; exact H
      clear H
      have H := H1
      clear H1
      obtain rfl := Option.some.inj H
      go_enter Tryd.func35, Tryd.ntmps35
      go_wp2_with (first | ((with_reducible refine gate_callee (f := 36) rfl ?_); refine goesL_ (some 6) rfl rfl Tryd.func36 (by kernel_rfl) rfl #[.string (⟨#[240]⟩ : ByteArray), .int .i64 4] rfl (by (try simp only [List.map_toArray, List.map_cons, List.map_nil]); first | done | rfl | (simp only [List.length_drop, List.length_take]; rfl)) ?_; (with_reducible refine (strs_Bits.calls k (⟨#[240]⟩ : ByteArray) 4 t144 false _ A1.out).mono ?_); rintro e w37 ⟨rfl, hb⟩; refine ⟨_, rfl, ?_⟩; have n0_ := Aside0.mk (below_step (by repeat (first | (with_reducible first | exact HB.out | apply below_alloc | apply pw_below_drewN | apply below_drew1) | exact HB.out)) hb); clear HB; have HB := n0_; clear n0_; (try clear hb); (try clear hb2); (try clear hk); (try clear hi)) | ((with_reducible refine gate_callee (f := 36) rfl ?_); refine goesL_ (some 10) rfl rfl Tryd.func36 (by kernel_rfl) rfl #[.string (⟨#[241]⟩ : ByteArray), .int .i64 4] rfl (by (try simp only [List.map_toArray, List.map_cons, List.map_nil]); first | done | rfl | (simp only [List.length_drop, List.length_take]; rfl)) ?_; (with_reducible refine (strs_Bits.calls k (⟨#[241]⟩ : ByteArray) 4 t146 t147 _ A2.out).mono ?_); rintro e w38 ⟨rfl, hb⟩; refine ⟨_, rfl, ?_⟩; have n0_ := Aside0.mk (below_step (by repeat (first | (with_reducible first | exact HB.out | apply below_alloc | apply pw_below_drewN | apply below_drew1) | exact HB.out)) hb); clear HB; have HB := n0_; clear n0_; (try clear hb); (try clear hb2); (try clear hk); (try clear hi)))
      go_ret
      exact ⟨by first | rfl | (simp [errW_none, errW_some] <;> rfl) | (simp [*, errW_none, errW_some] <;> rfl), by repeat (first | (with_reducible first | exact HB.out | apply below_alloc | apply pw_below_drewN | apply below_drew1) | exact HB.out)⟩
  · rw [if_neg c3] at H
    have c3b0 : (t144.toList == ([4, 240] : List UInt8)) = false := beq_eq_false_iff_ne.mpr c3
    have c3b1 : (t144.toList != ([4, 240] : List UInt8)) = true := bne_iff_ne.mpr c3
    obtain rfl := Option.some.inj H
    go_enter Tryd.func35, Tryd.ntmps35
    go_wp2_with (first | ((with_reducible refine gate_callee (f := 36) rfl ?_); refine goesL_ (some 6) rfl rfl Tryd.func36 (by kernel_rfl) rfl #[.string (⟨#[240]⟩ : ByteArray), .int .i64 4] rfl (by (try simp only [List.map_toArray, List.map_cons, List.map_nil]); first | done | rfl | (simp only [List.length_drop, List.length_take]; rfl)) ?_; (with_reducible refine (strs_Bits.calls k (⟨#[240]⟩ : ByteArray) 4 t144 t145 _ A1.out).mono ?_); rintro e w39 ⟨rfl, hb⟩; refine ⟨_, rfl, ?_⟩; have n0_ := Aside0.mk (below_step (by repeat (first | (with_reducible first | exact HB.out | apply below_alloc | apply pw_below_drewN | apply below_drew1) | exact HB.out)) hb); clear HB; have HB := n0_; clear n0_; (try clear hb); (try clear hb2); (try clear hk); (try clear hi)) | ((with_reducible refine gate_callee (f := 36) rfl ?_); refine goesL_ (some 10) rfl rfl Tryd.func36 (by kernel_rfl) rfl #[.string (⟨#[241]⟩ : ByteArray), .int .i64 4] rfl (by (try simp only [List.map_toArray, List.map_cons, List.map_nil]); first | done | rfl | (simp only [List.length_drop, List.length_take]; rfl)) ?_; (with_reducible refine (strs_Bits.calls k (⟨#[241]⟩ : ByteArray) 4 t146 t147 _ A2.out).mono ?_); rintro e w40 ⟨rfl, hb⟩; refine ⟨_, rfl, ?_⟩; have n0_ := Aside0.mk (below_step (by repeat (first | (with_reducible first | exact HB.out | apply below_alloc | apply pw_below_drewN | apply below_drew1) | exact HB.out)) hb); clear HB; have HB := n0_; clear n0_; (try clear hb); (try clear hb2); (try clear hk); (try clear hi)))
    go_ret
    exact ⟨by first | rfl | (simp [errW_none, errW_some] <;> rfl) | (simp [*, errW_none, errW_some] <;> rfl), by repeat (first | (with_reducible first | exact HB.out | apply below_alloc | apply pw_below_drewN | apply below_drew1) | exact HB.out)⟩

/-! ### clavigerlaw18_StrsBack: function 9 -/
mutual
def clavigerlaw18_StrsBack.j0 : Nat → ByteArray → ByteArray → Int → Bool → Bool → Option (Bool)
  | 0, _, _, _, _, _ => none
  | k + 1, x0, x1, x2, x3, x28 => if x28 = true then ((clavigerlaw18_awake.f k).bind fun t153 => (some t153)) else ((strs_Bool.f x3).bind fun t154 => ((strs_Unbool.f t154).bind fun bt155 => (if (bt155.1 != x3) = true then (clavigerlaw18_StrsBack.j1 k x0 x1 x2 true) else (clavigerlaw18_StrsBack.j1 k x0 x1 x2 (!bt155.2)))))
def clavigerlaw18_StrsBack.j1 : Nat → ByteArray → ByteArray → Int → Bool → Option (Bool)
  | 0, _, _, _, _ => none
  | k + 1, x0, x1, x2, x42 => if x42 = true then (some false) else ((strs_Bits.f k x0 x2).bind fun bt157 => (if bt157.2 = true then ((strs_Unbits.f k bt157.1).bind fun bt159 => (if bt159.1.toList = x0.toList then (if bt159.2.1 = x2 then (if bt159.2.2 = true then (clavigerlaw18_StrsBack.j2 k x0 x1) else (some false)) else (some false)) else (some false))) else (clavigerlaw18_StrsBack.j2 k x0 x1)))
def clavigerlaw18_StrsBack.j2 : Nat → ByteArray → ByteArray → Option (Bool)
  | 0, _, _ => none
  | k + 1, x0, x1 => (strs_Unbits.f k x0).bind fun bt162 => (if bt162.2.2 = true then ((strs_Bits.f k bt162.1 bt162.2.1).bind fun bt165 => (if bt165.1.toList = x0.toList then (if bt165.2 = true then (clavigerlaw18_StrsBack.j3 k x0 x1) else (some false)) else (some false))) else (clavigerlaw18_StrsBack.j3 k x0 x1))
def clavigerlaw18_StrsBack.j3 : Nat → ByteArray → ByteArray → Option (Bool)
  | 0, _, _ => none
  | k + 1, x0, x1 => (strs_Utf.f x0).bind fun t167 => (if t167 = true then (if x0.size + x1.size ≤ 9223372036854775807 then ((strs_Utf.f (x0 ++ x1)).bind fun t168 => ((strs_Utf.f x1).bind fun t169 => (if (t168 == t169) = true then ((strs_Printable.f (x0 ++ x1)).bind fun t170 => ((strs_Printable.f x0).bind fun t171 => (if t171 = true then ((strs_Printable.f x1).bind fun t172 => (if (t170 == t172) = true then ((clavigerlaw18_awake.f k).bind fun t173 => (some t173)) else (some false))) else (if (t170 == false) = true then ((clavigerlaw18_awake.f k).bind fun t174 => (some t174)) else (some false))))) else (some false)))) else (none)) else (if x0.size + x1.size ≤ 9223372036854775807 then ((strs_Printable.f (x0 ++ x1)).bind fun t175 => ((strs_Printable.f x0).bind fun t176 => (if t176 = true then ((strs_Printable.f x1).bind fun t177 => (if (t175 == t177) = true then ((clavigerlaw18_awake.f k).bind fun t178 => (some t178)) else (some false))) else (if (t175 == false) = true then ((clavigerlaw18_awake.f k).bind fun t179 => (some t179)) else (some false))))) else (none)))
end
def clavigerlaw18_StrsBack.f (k : Nat) (a0 : ByteArray) (a1 : ByteArray) (a2 : Int) (a3 : Bool) : Option (Bool) := if (a0.size : Int) > 200 then (clavigerlaw18_StrsBack.j0 k a0 a1 a2 a3 true) else (clavigerlaw18_StrsBack.j0 k a0 a1 a2 a3 (decide ((a1.size : Int) > 200)))
theorem clavigerlaw18_StrsBack.mono_l : ∀ k, (∀ y0 y1 y2 y3 y4, LeO (clavigerlaw18_StrsBack.j0 k y0 y1 y2 y3 y4) (clavigerlaw18_StrsBack.j0 (k + 1) y0 y1 y2 y3 y4)) ∧ (∀ y0 y1 y2 y3, LeO (clavigerlaw18_StrsBack.j1 k y0 y1 y2 y3) (clavigerlaw18_StrsBack.j1 (k + 1) y0 y1 y2 y3)) ∧ (∀ y0 y1, LeO (clavigerlaw18_StrsBack.j2 k y0 y1) (clavigerlaw18_StrsBack.j2 (k + 1) y0 y1)) ∧ (∀ y0 y1, LeO (clavigerlaw18_StrsBack.j3 k y0 y1) (clavigerlaw18_StrsBack.j3 (k + 1) y0 y1))
  | 0 => ⟨fun _ _ _ _ _ r h => by simp [clavigerlaw18_StrsBack.j0] at h, fun _ _ _ _ r h => by simp [clavigerlaw18_StrsBack.j1] at h, fun _ _ r h => by simp [clavigerlaw18_StrsBack.j2] at h, fun _ _ r h => by simp [clavigerlaw18_StrsBack.j3] at h⟩
  | k + 1 => by
    obtain ⟨ih0, ih1, ih2, ih3⟩ := clavigerlaw18_StrsBack.mono_l k
    refine ⟨?_, ?_, ?_, ?_⟩
    · intro y0 y1 y2 y3 y4
      unfold clavigerlaw18_StrsBack.j0
      repeat' first
      | (with_reducible exact ih0 _ _ _ _ _)
      | (with_reducible exact ih1 _ _ _ _)
      | (with_reducible exact ih2 _ _)
      | (with_reducible exact ih3 _ _)
      | (with_reducible exact clavigerlaw18_awake.mono _)
      | (with_reducible exact strs_Bits.mono _ _ _)
      | (with_reducible exact strs_Unbits.mono _ _)
      | (with_reducible exact LeO.refl _)
      | (with_reducible exact LeO.none _)
      | (with_reducible refine LeO.ite ?_ ?_)
      | (with_reducible refine LeO.bind ?_ (fun _ => ?_))
      | exact ih0 _ _ _ _ _
      | exact ih1 _ _ _ _
      | exact ih2 _ _
      | exact ih3 _ _
      | exact clavigerlaw18_awake.mono _
      | exact strs_Bits.mono _ _ _
      | exact strs_Unbits.mono _ _
      | exact LeO.none _
      | refine LeO.ite ?_ ?_
      | refine LeO.bind ?_ (fun _ => ?_)
    · intro y0 y1 y2 y3
      unfold clavigerlaw18_StrsBack.j1
      repeat' first
      | (with_reducible exact ih0 _ _ _ _ _)
      | (with_reducible exact ih1 _ _ _ _)
      | (with_reducible exact ih2 _ _)
      | (with_reducible exact ih3 _ _)
      | (with_reducible exact clavigerlaw18_awake.mono _)
      | (with_reducible exact strs_Bits.mono _ _ _)
      | (with_reducible exact strs_Unbits.mono _ _)
      | (with_reducible exact LeO.refl _)
      | (with_reducible exact LeO.none _)
      | (with_reducible refine LeO.ite ?_ ?_)
      | (with_reducible refine LeO.bind ?_ (fun _ => ?_))
      | exact ih0 _ _ _ _ _
      | exact ih1 _ _ _ _
      | exact ih2 _ _
      | exact ih3 _ _
      | exact clavigerlaw18_awake.mono _
      | exact strs_Bits.mono _ _ _
      | exact strs_Unbits.mono _ _
      | exact LeO.none _
      | refine LeO.ite ?_ ?_
      | refine LeO.bind ?_ (fun _ => ?_)
    · intro y0 y1
      unfold clavigerlaw18_StrsBack.j2
      repeat' first
      | (with_reducible exact ih0 _ _ _ _ _)
      | (with_reducible exact ih1 _ _ _ _)
      | (with_reducible exact ih2 _ _)
      | (with_reducible exact ih3 _ _)
      | (with_reducible exact clavigerlaw18_awake.mono _)
      | (with_reducible exact strs_Bits.mono _ _ _)
      | (with_reducible exact strs_Unbits.mono _ _)
      | (with_reducible exact LeO.refl _)
      | (with_reducible exact LeO.none _)
      | (with_reducible refine LeO.ite ?_ ?_)
      | (with_reducible refine LeO.bind ?_ (fun _ => ?_))
      | exact ih0 _ _ _ _ _
      | exact ih1 _ _ _ _
      | exact ih2 _ _
      | exact ih3 _ _
      | exact clavigerlaw18_awake.mono _
      | exact strs_Bits.mono _ _ _
      | exact strs_Unbits.mono _ _
      | exact LeO.none _
      | refine LeO.ite ?_ ?_
      | refine LeO.bind ?_ (fun _ => ?_)
    · intro y0 y1
      unfold clavigerlaw18_StrsBack.j3
      repeat' first
      | (with_reducible exact ih0 _ _ _ _ _)
      | (with_reducible exact ih1 _ _ _ _)
      | (with_reducible exact ih2 _ _)
      | (with_reducible exact ih3 _ _)
      | (with_reducible exact clavigerlaw18_awake.mono _)
      | (with_reducible exact strs_Bits.mono _ _ _)
      | (with_reducible exact strs_Unbits.mono _ _)
      | (with_reducible exact LeO.refl _)
      | (with_reducible exact LeO.none _)
      | (with_reducible refine LeO.ite ?_ ?_)
      | (with_reducible refine LeO.bind ?_ (fun _ => ?_))
      | exact ih0 _ _ _ _ _
      | exact ih1 _ _ _ _
      | exact ih2 _ _
      | exact ih3 _ _
      | exact clavigerlaw18_awake.mono _
      | exact strs_Bits.mono _ _ _
      | exact strs_Unbits.mono _ _
      | exact LeO.none _
      | refine LeO.ite ?_ ?_
      | refine LeO.bind ?_ (fun _ => ?_)
theorem clavigerlaw18_StrsBack.mono : ∀ a0 a1 a2 a3 k, LeO (clavigerlaw18_StrsBack.f k a0 a1 a2 a3) (clavigerlaw18_StrsBack.f (k + 1) a0 a1 a2 a3) := by
  intro a0 a1 a2 a3 k
  obtain ⟨ih0, ih1, ih2, ih3⟩ := clavigerlaw18_StrsBack.mono_l k
  unfold clavigerlaw18_StrsBack.f
  repeat' first
      | (with_reducible exact ih0 _ _ _ _ _)
      | (with_reducible exact ih1 _ _ _ _)
      | (with_reducible exact ih2 _ _)
      | (with_reducible exact ih3 _ _)
      | (with_reducible exact clavigerlaw18_awake.mono _)
      | (with_reducible exact strs_Bits.mono _ _ _)
      | (with_reducible exact strs_Unbits.mono _ _)
      | (with_reducible exact LeO.refl _)
      | (with_reducible exact LeO.none _)
      | (with_reducible refine LeO.ite ?_ ?_)
      | (with_reducible refine LeO.bind ?_ (fun _ => ?_))
      | exact ih0 _ _ _ _ _
      | exact ih1 _ _ _ _
      | exact ih2 _ _
      | exact ih3 _ _
      | exact clavigerlaw18_awake.mono _
      | exact strs_Bits.mono _ _ _
      | exact strs_Unbits.mono _ _
      | exact LeO.none _
      | refine LeO.ite ?_ ?_
      | refine LeO.bind ?_ (fun _ => ?_)
set_option maxHeartbeats 8000000 in
set_option maxRecDepth 100000 in
theorem clavigerlaw18_StrsBack.calls (k : Nat) (a0 : ByteArray) (a1 : ByteArray) (a2 : Int) (a3 : Bool) (r : Bool) (w : World) (HT_ : Aside0 (TB w)) (HR_ : Aside0 (r = true)) (h : clavigerlaw18_StrsBack.f k a0 a1 a2 a3 = some r) :
    Calls Tryd.prog 9 #[.string a0, .string a1, .int .i64 a2, .bool a3] w fun e w' => e = .returned (.bool r) ∧ Below w.heap.size w w' := by
  have HB := Aside0.mk (Below.refl w.heap.size w)
  have H : (if (a0.size : Int) > 200 then (clavigerlaw18_StrsBack.j0 k a0 a1 a2 a3 true) else (clavigerlaw18_StrsBack.j0 k a0 a1 a2 a3 (decide ((a1.size : Int) > 200)))) = some r := h
  clear h
  have HC5 := Aside0.mk H
  clear H
  go_enter Tryd.func9, Tryd.ntmps9
  go_upto_region 1 with (fail)
  go_cut [28] (fun v28 wc => ∃ (kq : Nat) (x28_4 : Bool), v28 = .bool x28_4 ∧ Aside0 (clavigerlaw18_StrsBack.j0 kq a0 a1 a2 a3 x28_4 = some r) ∧ Aside0 (kq ≤ k) ∧ Aside0 (Below w.heap.size w wc))
  case first =>
    have H := HC5.out
    clear HC5
    by_cases c6 : (a0.size : Int) > 200
    · rw [if_pos c6] at H
      have c6b0 : decide (200 < (a0.size : Int)) = true := decide_eq_true c6
      have c6b1 : decide (200 < a0.size) = true := decide_eq_true (by omega)
      clear c6
      (first | rw [c6b0] | (simp only [i64_w, i32_w]; rw [c6b0]) | skip)
      have H' := Aside0.mk H
      clear H
      go_wp2
      go_meet
      case rel => exact ⟨_, (true), (by first | rfl | (simp; done) | (simp [*]; done)), H', ⟨by first | omega | exact Nat.le_refl _⟩, ⟨by repeat (first | (with_reducible first | exact HB.out | apply below_alloc | apply pw_below_drewN | apply below_drew1) | exact HB.out)⟩⟩
    · rw [if_neg c6] at H
      have c6b0 : decide (200 < (a0.size : Int)) = false := decide_eq_false c6
      have c6b1 : decide (200 < a0.size) = false := decide_eq_false (by omega)
      clear c6
      (first | rw [c6b0] | (simp only [i64_w, i32_w]; rw [c6b0]) | skip)
      have H' := Aside0.mk H
      clear H
      go_wp2
      go_meet
      case rel => exact ⟨_, (decide ((a1.size : Int) > 200)), (by first | rfl | (simp; done) | (simp [*]; done)), H', ⟨by first | omega | exact Nat.le_refl _⟩, ⟨by repeat (first | (with_reducible first | exact HB.out | apply below_alloc | apply pw_below_drewN | apply below_drew1) | exact HB.out)⟩⟩
  case rest =>
    clear HC5
    try clear p2
    try clear c6
    try clear c6b0
    try clear c6b1
    obtain ⟨kq, x28_4, rfl, HA, HJ4, HB⟩ := hcut
    cases kq with
    | zero => exact absurd HA.out (by simp [clavigerlaw18_StrsBack.j0])
    | succ kj4 =>
      have H := HA.out
      clear HA
      simp only [clavigerlaw18_StrsBack.j0] at H
      by_cases c7 : x28_4 = true
      · subst c7
        have H1 : ((clavigerlaw18_awake.f kj4).bind fun t153 => (some t153)) = some r := by rw [if_pos rfl] at H; exact H
        clear H
        have H := H1
        clear H1
        replace H := Option.bind_eq_some_iff.mp H
        obtain ⟨t153, A80, H⟩ := H
        replace H : (some t153) = some r := H
        have A8 := Aside0.mk A80
        clear A80
        obtain rfl := Option.some.inj H
        go_wp2_with (first | ((with_reducible refine gate_callee (f := 35) rfl ?_); refine goesL_ (some 29) rfl rfl Tryd.func35 (by kernel_rfl) rfl #[] rfl (by (try simp only [List.map_toArray, List.map_cons, List.map_nil]); first | done | rfl | (simp only [List.length_drop, List.length_take]; rfl)) ?_; (with_reducible refine (clavigerlaw18_awake.calls kj4  t153 _ ?tb_ A8.out).mono ?_); (case tb_ => exact ⟨TB.below HT_.out (by repeat (first | (with_reducible first | exact HB.out | apply below_alloc | apply pw_below_drewN | apply below_drew1) | exact HB.out | exact Below.refl _ _))⟩); rintro e w9 ⟨rfl, hb⟩; refine ⟨_, rfl, ?_⟩; have n0_ := Aside0.mk (below_step (by repeat (first | (with_reducible first | exact HB.out | apply below_alloc | apply pw_below_drewN | apply below_drew1) | exact HB.out)) hb); clear HB; have HB := n0_; clear n0_; (try clear hb); (try clear hb2); (try clear hk); (try clear hi)))
        go_ret
        exact ⟨by first | rfl | (simp [errW_none, errW_some] <;> rfl) | (simp [*, errW_none, errW_some] <;> rfl), by repeat (first | (with_reducible first | exact HB.out | apply below_alloc | apply pw_below_drewN | apply below_drew1) | exact HB.out)⟩
      · replace c7 := Bool.eq_false_iff.mpr c7
        subst c7
        have H1 : ((strs_Bool.f a3).bind fun t154 => ((strs_Unbool.f t154).bind fun bt155 => (if (bt155.1 != a3) = true then (clavigerlaw18_StrsBack.j1 kj4 a0 a1 a2 true) else (clavigerlaw18_StrsBack.j1 kj4 a0 a1 a2 (!bt155.2))))) = some r := by rw [if_neg (show ¬ (false = true) by decide)] at H; exact H
        clear H
        have H := H1
        clear H1
        replace H := Option.bind_eq_some_iff.mp H
        obtain ⟨t154, A100, H⟩ := H
        replace H : ((strs_Unbool.f t154).bind fun bt155 => (if (bt155.1 != a3) = true then (clavigerlaw18_StrsBack.j1 kj4 a0 a1 a2 true) else (clavigerlaw18_StrsBack.j1 kj4 a0 a1 a2 (!bt155.2)))) = some r := H
        have A10 := Aside0.mk A100
        clear A100
        replace H := Option.bind_eq_some_iff.mp H
        obtain ⟨⟨t155, t156⟩, A110, H⟩ := H
        replace H : (if (t155 != a3) = true then (clavigerlaw18_StrsBack.j1 kj4 a0 a1 a2 true) else (clavigerlaw18_StrsBack.j1 kj4 a0 a1 a2 (!t156))) = some r := H
        have A11 := Aside0.mk A110
        clear A110
        have HC12 := Aside0.mk H
        clear H
        go_upto_region 4 with (first | ((with_reducible refine gate_callee (f := 42) rfl ?_); refine goesL_ (some 32) rfl rfl Tryd.func42 (by kernel_rfl) rfl #[.bool a3] rfl (by (try simp only [List.map_toArray, List.map_cons, List.map_nil]); first | done | rfl | (simp only [List.length_drop, List.length_take]; rfl)) ?_; (with_reducible refine (strs_Bool.calls a3 t154 _ A10.out).mono ?_); rintro e w' ⟨rfl, ⟨nd, rfl⟩⟩; refine ⟨_, rfl, ?_⟩) | ((with_reducible refine gate_callee (f := 40) rfl ?_); refine goesL_ (some 33) rfl rfl Tryd.func40 (by kernel_rfl) rfl #[.string t154] rfl (by (try simp only [List.map_toArray, List.map_cons, List.map_nil]); first | done | rfl | (simp only [List.length_drop, List.length_take]; rfl)) ?_; (with_reducible refine (strs_Unbool.calls t154 t155 t156 _ A11.out).mono ?_); rintro e w' ⟨rfl, ⟨nd, rfl⟩⟩; refine ⟨_, rfl, ?_⟩))
        (try simp only [Act.put, List.setIfInBounds_toArray, List.set_cons_zero, List.set_cons_succ])
        go_cut [42] (fun v42 wc => ∃ (kq : Nat) (x42_11 : Bool), v42 = .bool x42_11 ∧ Aside0 (clavigerlaw18_StrsBack.j1 kq a0 a1 a2 x42_11 = some r) ∧ Aside0 (kq ≤ kj4) ∧ Aside0 (Below w.heap.size w wc))
        case first =>
          have H := HC12.out
          clear HC12
          by_cases c13 : (t155 != a3) = true
          · rw [if_pos c13] at H
            have c13b0 : (t155 != a3) = true := c13
            (try (have c13b1 : decide (t155 = a3) = false := by simpa using c13))
            (try (have c13b2 : (t155 == a3) = false := by simpa using c13))
            (try (have c13b3 : ¬ (t155 = a3) := by simpa using c13))
            clear c13
            (first | rw [c13b0] | (simp only [i64_w, i32_w]; rw [c13b0]) | skip)
            have H' := Aside0.mk H
            clear H
            go_wp2
            go_meet
            case rel => exact ⟨_, (true), (by first | rfl | (simp; done) | (simp [*]; done)), H', ⟨by have := HJ4.out; first | omega | exact Nat.le_refl _⟩, ⟨by repeat (first | (with_reducible first | exact HB.out | apply below_alloc | apply pw_below_drewN | apply below_drew1) | exact HB.out)⟩⟩
          · rw [if_neg c13] at H
            have c13b0 : (t155 != a3) = false := by simpa using c13
            (try (have c13b1 : decide (t155 = a3) = true := by simpa using c13))
            (try (have c13b2 : (t155 == a3) = true := by simpa using c13))
            clear c13
            (first | rw [c13b0] | (simp only [i64_w, i32_w]; rw [c13b0]) | skip)
            have H' := Aside0.mk H
            clear H
            go_wp2
            go_meet
            case rel => exact ⟨_, (!t156), (by first | rfl | (simp; done) | (simp [*]; done)), H', ⟨by have := HJ4.out; first | omega | exact Nat.le_refl _⟩, ⟨by repeat (first | (with_reducible first | exact HB.out | apply below_alloc | apply pw_below_drewN | apply below_drew1) | exact HB.out)⟩⟩
        case rest =>
          clear HC12
          try clear c1
          try clear p2
          try clear c3
          try clear c4
          try clear c6
          try clear c6b0
          try clear c6b1
          try clear c7
          try clear c9
          try clear c13
          try clear c13b0
          try clear c13b1
          try clear c13b2
          try clear p2
          obtain ⟨kq, x42_11, rfl, HA, HJ11, HB⟩ := hcut
          cases kq with
          | zero => exact absurd HA.out (by simp [clavigerlaw18_StrsBack.j1])
          | succ kj11 =>
            have H := HA.out
            clear HA
            simp only [clavigerlaw18_StrsBack.j1] at H
            by_cases c14 : x42_11 = true
            · subst c14
              have H1 : (some false) = some r := by rw [if_pos rfl] at H; exact H
              clear H
              have H := H1
              clear H1
              exact absurd ((Option.some.inj H).trans HR_.out) (by decide)
            · replace c14 := Bool.eq_false_iff.mpr c14
              subst c14
              have H1 : ((strs_Bits.f kj11 a0 a2).bind fun bt157 => (if bt157.2 = true then ((strs_Unbits.f kj11 bt157.1).bind fun bt159 => (if bt159.1.toList = a0.toList then (if bt159.2.1 = a2 then (if bt159.2.2 = true then (clavigerlaw18_StrsBack.j2 kj11 a0 a1) else (some false)) else (some false)) else (some false))) else (clavigerlaw18_StrsBack.j2 kj11 a0 a1))) = some r := by rw [if_neg (show ¬ (false = true) by decide)] at H; exact H
              clear H
              have H := H1
              clear H1
              replace H := Option.bind_eq_some_iff.mp H
              obtain ⟨⟨t157, t158⟩, A150, H⟩ := H
              replace H : (if t158 = true then ((strs_Unbits.f kj11 t157).bind fun bt159 => (if bt159.1.toList = a0.toList then (if bt159.2.1 = a2 then (if bt159.2.2 = true then (clavigerlaw18_StrsBack.j2 kj11 a0 a1) else (some false)) else (some false)) else (some false))) else (clavigerlaw18_StrsBack.j2 kj11 a0 a1)) = some r := H
              have A15 := Aside0.mk A150
              clear A150
              have HC16 := Aside0.mk H
              clear H
              go_upto_if 49 with (first | ((with_reducible refine gate_callee (f := 36) rfl ?_); refine goesL_ (some 46) rfl rfl Tryd.func36 (by kernel_rfl) rfl #[.string a0, .int .i64 a2] rfl (by (try simp only [List.map_toArray, List.map_cons, List.map_nil]); first | done | rfl | (simp only [List.length_drop, List.length_take]; rfl)) ?_; (with_reducible refine (strs_Bits.calls kj11 a0 a2 t157 t158 _ A15.out).mono ?_); rintro e w17 ⟨rfl, hb⟩; refine ⟨_, rfl, ?_⟩; have n0_ := Aside0.mk (below_step (by repeat (first | (with_reducible first | exact HB.out | apply below_alloc | apply pw_below_drewN | apply below_drew1) | exact HB.out)) hb); clear HB; have HB := n0_; clear n0_; (try clear hb); (try clear hb2); (try clear hk); (try clear hi)))
              (try simp only [Act.put, List.setIfInBounds_toArray, List.set_cons_zero, List.set_cons_succ])
              go_cut [] (fun wc => ∃ (kq : Nat), Aside0 (clavigerlaw18_StrsBack.j2 kq a0 a1 = some r) ∧ Aside0 (kq ≤ kj11) ∧ Aside0 (Below w.heap.size w wc))
              case first =>
                have H := HC16.out
                clear HC16
                by_cases c18 : t158 = true
                · subst c18
                  have H1 : ((strs_Unbits.f kj11 t157).bind fun bt159 => (if bt159.1.toList = a0.toList then (if bt159.2.1 = a2 then (if bt159.2.2 = true then (clavigerlaw18_StrsBack.j2 kj11 a0 a1) else (some false)) else (some false)) else (some false))) = some r := by rw [if_pos rfl] at H; exact H
                  clear H
                  have H := H1
                  clear H1
                  replace H := Option.bind_eq_some_iff.mp H
                  obtain ⟨⟨t159, t160, t161⟩, A190, H⟩ := H
                  replace H : (if t159.toList = a0.toList then (if t160 = a2 then (if t161 = true then (clavigerlaw18_StrsBack.j2 kj11 a0 a1) else (some false)) else (some false)) else (some false)) = some r := H
                  have A19 := Aside0.mk A190
                  clear A190
                  by_cases c20 : t159.toList = a0.toList
                  · rw [if_pos c20] at H
                    have c20b0 : (t159.toList == a0.toList) = true := beq_iff_eq.mpr c20
                    have c20b1 : (t159.toList != a0.toList) = false := bne_eq_false_iff_eq.mpr c20
                    clear c20
                    (first | rw [c20b0] | (simp only [i64_w, i32_w]; rw [c20b0]) | skip)
                    by_cases c21 : t160 = a2
                    · rw [if_pos c21] at H
                      have c21b0 : (t160 == a2) = true := beq_iff_eq.mpr c21
                      have c21b1 : (t160 != a2) = false := bne_eq_false_iff_eq.mpr c21
                      clear c21
                      by_cases c22 : t161 = true
                      · subst c22
                        have H1 : (clavigerlaw18_StrsBack.j2 kj11 a0 a1) = some r := by rw [if_pos rfl] at H; exact H
                        clear H
                        have H := H1
                        clear H1
                        have H' := Aside0.mk H
                        clear H
                        go_wp2_with (first | ((with_reducible refine gate_callee (f := 38) rfl ?_); refine goesL_ (some 52) rfl rfl Tryd.func38 (by kernel_rfl) rfl #[.string t157] rfl (by (try simp only [List.map_toArray, List.map_cons, List.map_nil]); first | done | rfl | (simp only [List.length_drop, List.length_take]; rfl)) ?_; (with_reducible refine (strs_Unbits.calls kj11 t157 t159 t160 true _ A19.out).mono ?_); rintro e w' ⟨rfl, ⟨nd, rfl⟩⟩; refine ⟨_, rfl, ?_⟩))
                        go_meet
                        case rel => exact ⟨_, H', ⟨by have := HJ4.out; have := HJ11.out; first | omega | exact Nat.le_refl _⟩, ⟨by repeat (first | (with_reducible first | exact HB.out | apply below_alloc | apply pw_below_drewN | apply below_drew1) | exact HB.out)⟩⟩
                      · replace c22 := Bool.eq_false_iff.mpr c22
                        subst c22
                        have H1 : (some false) = some r := by rw [if_neg (show ¬ (false = true) by decide)] at H; exact H
                        clear H
                        have H := H1
                        clear H1
                        exact absurd ((Option.some.inj H).trans HR_.out) (by decide)
                    · rw [if_neg c21] at H
                      have c21b0 : (t160 == a2) = false := beq_eq_false_iff_ne.mpr c21
                      have c21b1 : (t160 != a2) = true := bne_iff_ne.mpr c21
                      exact absurd ((Option.some.inj H).trans HR_.out) (by decide)
                  · rw [if_neg c20] at H
                    have c20b0 : (t159.toList == a0.toList) = false := beq_eq_false_iff_ne.mpr c20
                    have c20b1 : (t159.toList != a0.toList) = true := bne_iff_ne.mpr c20
                    (first | rw [c20b0] | (simp only [i64_w, i32_w]; rw [c20b0]) | skip)
                    exact absurd ((Option.some.inj H).trans HR_.out) (by decide)
                · replace c18 := Bool.eq_false_iff.mpr c18
                  subst c18
                  have H1 : (clavigerlaw18_StrsBack.j2 kj11 a0 a1) = some r := by rw [if_neg (show ¬ (false = true) by decide)] at H; exact H
                  clear H
                  have H := H1
                  clear H1
                  have H' := Aside0.mk H
                  clear H
                  go_wp2
                  go_meet
                  case rel => exact ⟨_, H', ⟨by have := HJ4.out; have := HJ11.out; first | omega | exact Nat.le_refl _⟩, ⟨by repeat (first | (with_reducible first | exact HB.out | apply below_alloc | apply pw_below_drewN | apply below_drew1) | exact HB.out)⟩⟩
              case rest =>
                clear HC16
                try clear c1
                try clear c2
                try clear p2
                try clear c3
                try clear c4
                try clear c6
                try clear c6b0
                try clear c6b1
                try clear c7
                try clear c9
                try clear c13
                try clear c13b0
                try clear c13b1
                try clear c13b2
                try clear c14
                try clear c18
                try clear c20
                try clear c20b0
                try clear c20b1
                try clear c21
                try clear c21b0
                try clear c21b1
                try clear c22
                try clear p2
                obtain ⟨kq, HA, HJ15, HB⟩ := hcut
                cases kq with
                | zero => exact absurd HA.out (by simp [clavigerlaw18_StrsBack.j2])
                | succ kj15 =>
                  have H := HA.out
                  clear HA
                  simp only [clavigerlaw18_StrsBack.j2] at H
                  replace H := Option.bind_eq_some_iff.mp H
                  obtain ⟨⟨t162, t163, t164⟩, A230, H⟩ := H
                  replace H : (if t164 = true then ((strs_Bits.f kj15 t162 t163).bind fun bt165 => (if bt165.1.toList = a0.toList then (if bt165.2 = true then (clavigerlaw18_StrsBack.j3 kj15 a0 a1) else (some false)) else (some false))) else (clavigerlaw18_StrsBack.j3 kj15 a0 a1)) = some r := H
                  have A23 := Aside0.mk A230
                  clear A230
                  have HC24 := Aside0.mk H
                  clear H
                  go_upto_if 74 with (first | ((with_reducible refine gate_callee (f := 38) rfl ?_); refine goesL_ (some 70) rfl rfl Tryd.func38 (by kernel_rfl) rfl #[.string a0] rfl (by (try simp only [List.map_toArray, List.map_cons, List.map_nil]); first | done | rfl | (simp only [List.length_drop, List.length_take]; rfl)) ?_; (with_reducible refine (strs_Unbits.calls kj15 a0 t162 t163 t164 _ A23.out).mono ?_); rintro e w' ⟨rfl, ⟨nd, rfl⟩⟩; refine ⟨_, rfl, ?_⟩))
                  (try simp only [Act.put, List.setIfInBounds_toArray, List.set_cons_zero, List.set_cons_succ])
                  go_cut [] (fun wc => ∃ (kq : Nat), Aside0 (clavigerlaw18_StrsBack.j3 kq a0 a1 = some r) ∧ Aside0 (kq ≤ kj15) ∧ Aside0 (Below w.heap.size w wc))
                  case first =>
                    have H := HC24.out
                    clear HC24
                    by_cases c25 : t164 = true
                    · subst c25
                      have H1 : ((strs_Bits.f kj15 t162 t163).bind fun bt165 => (if bt165.1.toList = a0.toList then (if bt165.2 = true then (clavigerlaw18_StrsBack.j3 kj15 a0 a1) else (some false)) else (some false))) = some r := by rw [if_pos rfl] at H; exact H
                      clear H
                      have H := H1
                      clear H1
                      replace H := Option.bind_eq_some_iff.mp H
                      obtain ⟨⟨t165, t166⟩, A260, H⟩ := H
                      replace H : (if t165.toList = a0.toList then (if t166 = true then (clavigerlaw18_StrsBack.j3 kj15 a0 a1) else (some false)) else (some false)) = some r := H
                      have A26 := Aside0.mk A260
                      clear A260
                      by_cases c27 : t165.toList = a0.toList
                      · rw [if_pos c27] at H
                        have c27b0 : (t165.toList == a0.toList) = true := beq_iff_eq.mpr c27
                        have c27b1 : (t165.toList != a0.toList) = false := bne_eq_false_iff_eq.mpr c27
                        clear c27
                        (first | rw [c27b0] | (simp only [i64_w, i32_w]; rw [c27b0]) | skip)
                        by_cases c28 : t166 = true
                        · subst c28
                          have H1 : (clavigerlaw18_StrsBack.j3 kj15 a0 a1) = some r := by rw [if_pos rfl] at H; exact H
                          clear H
                          have H := H1
                          clear H1
                          have H' := Aside0.mk H
                          clear H
                          go_wp2_with (first | ((with_reducible refine gate_callee (f := 36) rfl ?_); refine goesL_ (some 78) rfl rfl Tryd.func36 (by kernel_rfl) rfl #[.string t162, .int .i64 t163] rfl (by (try simp only [List.map_toArray, List.map_cons, List.map_nil]); first | done | rfl | (simp only [List.length_drop, List.length_take]; rfl)) ?_; (with_reducible refine (strs_Bits.calls kj15 t162 t163 t165 true _ A26.out).mono ?_); rintro e w29 ⟨rfl, hb⟩; refine ⟨_, rfl, ?_⟩; have n0_ := Aside0.mk (below_step (by repeat (first | (with_reducible first | exact HB.out | apply below_alloc | apply pw_below_drewN | apply below_drew1) | exact HB.out)) hb); clear HB; have HB := n0_; clear n0_; (try clear hb); (try clear hb2); (try clear hk); (try clear hi)))
                          go_meet
                          case rel => exact ⟨_, H', ⟨by have := HJ4.out; have := HJ11.out; have := HJ15.out; first | omega | exact Nat.le_refl _⟩, ⟨by repeat (first | (with_reducible first | exact HB.out | apply below_alloc | apply pw_below_drewN | apply below_drew1) | exact HB.out)⟩⟩
                        · replace c28 := Bool.eq_false_iff.mpr c28
                          subst c28
                          have H1 : (some false) = some r := by rw [if_neg (show ¬ (false = true) by decide)] at H; exact H
                          clear H
                          have H := H1
                          clear H1
                          exact absurd ((Option.some.inj H).trans HR_.out) (by decide)
                      · rw [if_neg c27] at H
                        have c27b0 : (t165.toList == a0.toList) = false := beq_eq_false_iff_ne.mpr c27
                        have c27b1 : (t165.toList != a0.toList) = true := bne_iff_ne.mpr c27
                        (first | rw [c27b0] | (simp only [i64_w, i32_w]; rw [c27b0]) | skip)
                        exact absurd ((Option.some.inj H).trans HR_.out) (by decide)
                    · replace c25 := Bool.eq_false_iff.mpr c25
                      subst c25
                      have H1 : (clavigerlaw18_StrsBack.j3 kj15 a0 a1) = some r := by rw [if_neg (show ¬ (false = true) by decide)] at H; exact H
                      clear H
                      have H := H1
                      clear H1
                      have H' := Aside0.mk H
                      clear H
                      go_wp2
                      go_meet
                      case rel => exact ⟨_, H', ⟨by have := HJ4.out; have := HJ11.out; have := HJ15.out; first | omega | exact Nat.le_refl _⟩, ⟨by repeat (first | (with_reducible first | exact HB.out | apply below_alloc | apply pw_below_drewN | apply below_drew1) | exact HB.out)⟩⟩
                  case rest =>
                    clear HC24
                    try clear c1
                    try clear c2
                    try clear p2
                    try clear c3
                    try clear c4
                    try clear c6
                    try clear c6b0
                    try clear c6b1
                    try clear c7
                    try clear c9
                    try clear c13
                    try clear c13b0
                    try clear c13b1
                    try clear c13b2
                    try clear c14
                    try clear c18
                    try clear c20
                    try clear c20b0
                    try clear c20b1
                    try clear c21
                    try clear c21b0
                    try clear c21b1
                    try clear c22
                    try clear c25
                    try clear c27
                    try clear c27b0
                    try clear c27b1
                    try clear c28
                    try clear p2
                    obtain ⟨kq, HA, HJ23, HB⟩ := hcut
                    cases kq with
                    | zero => exact absurd HA.out (by simp [clavigerlaw18_StrsBack.j3])
                    | succ kj23 =>
                      have H := HA.out
                      clear HA
                      simp only [clavigerlaw18_StrsBack.j3] at H
                      replace H := Option.bind_eq_some_iff.mp H
                      obtain ⟨t167, A300, H⟩ := H
                      replace H : (if t167 = true then (if a0.size + a1.size ≤ 9223372036854775807 then ((strs_Utf.f (a0 ++ a1)).bind fun t168 => ((strs_Utf.f a1).bind fun t169 => (if (t168 == t169) = true then ((strs_Printable.f (a0 ++ a1)).bind fun t170 => ((strs_Printable.f a0).bind fun t171 => (if t171 = true then ((strs_Printable.f a1).bind fun t172 => (if (t170 == t172) = true then ((clavigerlaw18_awake.f kj23).bind fun t173 => (some t173)) else (some false))) else (if (t170 == false) = true then ((clavigerlaw18_awake.f kj23).bind fun t174 => (some t174)) else (some false))))) else (some false)))) else (none)) else (if a0.size + a1.size ≤ 9223372036854775807 then ((strs_Printable.f (a0 ++ a1)).bind fun t175 => ((strs_Printable.f a0).bind fun t176 => (if t176 = true then ((strs_Printable.f a1).bind fun t177 => (if (t175 == t177) = true then ((clavigerlaw18_awake.f kj23).bind fun t178 => (some t178)) else (some false))) else (if (t175 == false) = true then ((clavigerlaw18_awake.f kj23).bind fun t179 => (some t179)) else (some false))))) else (none))) = some r := H
                      have A30 := Aside0.mk A300
                      clear A300
                      by_cases c31 : t167 = true
                      · subst c31
                        have H1 : (if a0.size + a1.size ≤ 9223372036854775807 then ((strs_Utf.f (a0 ++ a1)).bind fun t168 => ((strs_Utf.f a1).bind fun t169 => (if (t168 == t169) = true then ((strs_Printable.f (a0 ++ a1)).bind fun t170 => ((strs_Printable.f a0).bind fun t171 => (if t171 = true then ((strs_Printable.f a1).bind fun t172 => (if (t170 == t172) = true then ((clavigerlaw18_awake.f kj23).bind fun t173 => (some t173)) else (some false))) else (if (t170 == false) = true then ((clavigerlaw18_awake.f kj23).bind fun t174 => (some t174)) else (some false))))) else (some false)))) else (none)) = some r := by rw [if_pos rfl] at H; exact H
                        clear H
                        have H := H1
                        clear H1
                        by_cases c32 : a0.size + a1.size ≤ 9223372036854775807
                        · rw [if_pos c32] at H
                          have c32b0 := eq_true c32
                          have c32b1 : decide (a0.size + a1.size ≤ 9223372036854775807) = true := decide_eq_true c32
                          try have c32b2 : (9223372036854775807 < a0.size + a1.size) = False := eq_false (Nat.not_lt.2 c32)
                          replace H := Option.bind_eq_some_iff.mp H
                          obtain ⟨t168, A330, H⟩ := H
                          replace H : ((strs_Utf.f a1).bind fun t169 => (if (t168 == t169) = true then ((strs_Printable.f (a0 ++ a1)).bind fun t170 => ((strs_Printable.f a0).bind fun t171 => (if t171 = true then ((strs_Printable.f a1).bind fun t172 => (if (t170 == t172) = true then ((clavigerlaw18_awake.f kj23).bind fun t173 => (some t173)) else (some false))) else (if (t170 == false) = true then ((clavigerlaw18_awake.f kj23).bind fun t174 => (some t174)) else (some false))))) else (some false))) = some r := H
                          have A33 := Aside0.mk A330
                          clear A330
                          replace H := Option.bind_eq_some_iff.mp H
                          obtain ⟨t169, A340, H⟩ := H
                          replace H : (if (t168 == t169) = true then ((strs_Printable.f (a0 ++ a1)).bind fun t170 => ((strs_Printable.f a0).bind fun t171 => (if t171 = true then ((strs_Printable.f a1).bind fun t172 => (if (t170 == t172) = true then ((clavigerlaw18_awake.f kj23).bind fun t173 => (some t173)) else (some false))) else (if (t170 == false) = true then ((clavigerlaw18_awake.f kj23).bind fun t174 => (some t174)) else (some false))))) else (some false)) = some r := H
                          have A34 := Aside0.mk A340
                          clear A340
                          by_cases c35 : (t168 == t169) = true
                          · rw [if_pos c35] at H
                            have c35b0 : (t168 == t169) = true := c35
                            (try (have c35b1 : decide (t168 = t169) = true := by simpa using c35))
                            (try (have c35b2 : (t168 == t169) = true := by simpa using c35))
                            clear c35
                            replace H := Option.bind_eq_some_iff.mp H
                            obtain ⟨t170, A360, H⟩ := H
                            replace H : ((strs_Printable.f a0).bind fun t171 => (if t171 = true then ((strs_Printable.f a1).bind fun t172 => (if (t170 == t172) = true then ((clavigerlaw18_awake.f kj23).bind fun t173 => (some t173)) else (some false))) else (if (t170 == false) = true then ((clavigerlaw18_awake.f kj23).bind fun t174 => (some t174)) else (some false)))) = some r := H
                            have A36 := Aside0.mk A360
                            clear A360
                            replace H := Option.bind_eq_some_iff.mp H
                            obtain ⟨t171, A370, H⟩ := H
                            replace H : (if t171 = true then ((strs_Printable.f a1).bind fun t172 => (if (t170 == t172) = true then ((clavigerlaw18_awake.f kj23).bind fun t173 => (some t173)) else (some false))) else (if (t170 == false) = true then ((clavigerlaw18_awake.f kj23).bind fun t174 => (some t174)) else (some false))) = some r := H
                            have A37 := Aside0.mk A370
                            clear A370
                            by_cases c38 : t171 = true
                            · subst c38
                              have H1 : ((strs_Printable.f a1).bind fun t172 => (if (t170 == t172) = true then ((clavigerlaw18_awake.f kj23).bind fun t173 => (some t173)) else (some false))) = some r := by rw [if_pos rfl] at H; exact H
                              clear H
                              have H := H1
                              clear H1
                              replace H := Option.bind_eq_some_iff.mp H
                              obtain ⟨t172, A390, H⟩ := H
                              replace H : (if (t170 == t172) = true then ((clavigerlaw18_awake.f kj23).bind fun t173 => (some t173)) else (some false)) = some r := H
                              have A39 := Aside0.mk A390
                              clear A390
                              by_cases c40 : (t170 == t172) = true
                              · rw [if_pos c40] at H
                                have c40b0 : (t170 == t172) = true := c40
                                (try (have c40b1 : decide (t170 = t172) = true := by simpa using c40))
                                (try (have c40b2 : (t170 == t172) = true := by simpa using c40))
                                clear c40
                                replace H := Option.bind_eq_some_iff.mp H
                                obtain ⟨t173, A410, H⟩ := H
                                replace H : (some t173) = some r := H
                                have A41 := Aside0.mk A410
                                clear A410
                                obtain rfl := Option.some.inj H
                                go_wp2_with (first | ((with_reducible refine gate_callee (f := 44) rfl ?_); refine goesL_ (some 89) rfl rfl Tryd.func44 (by kernel_rfl) rfl #[.string a0] rfl (by (try simp only [List.map_toArray, List.map_cons, List.map_nil]); first | done | rfl | (simp only [List.length_drop, List.length_take]; rfl)) ?_; (with_reducible refine (strs_Utf.calls a0 true _ ?tb_ A30.out).mono ?_); (case tb_ => exact ⟨TB.below HT_.out (by repeat (first | (with_reducible first | exact HB.out | apply below_alloc | apply pw_below_drewN | apply below_drew1) | exact HB.out | exact Below.refl _ _))⟩); rintro e w42 ⟨rfl, hb⟩; refine ⟨_, rfl, ?_⟩; have n0_ := Aside0.mk (below_step (by repeat (first | (with_reducible first | exact HB.out | apply below_alloc | apply pw_below_drewN | apply below_drew1) | exact HB.out)) hb); clear HB; have HB := n0_; clear n0_; (try clear hb); (try clear hb2); (try clear hk); (try clear hi)) | (go_at_call 44; (with_reducible refine (strs_Utf.calls (a0 ++ a1) t168 _ ?tb_ A33.out).mono ?_); (case tb_ => exact ⟨TB.below HT_.out (by repeat (first | (with_reducible first | exact HB.out | apply below_alloc | apply pw_below_drewN | apply below_drew1) | exact HB.out | exact Below.refl _ _))⟩); rintro e w43 ⟨rfl, hb⟩; have n0_ := Aside0.mk (below_step (by repeat (first | (with_reducible first | exact HB.out | apply below_alloc | apply pw_below_drewN | apply below_drew1) | exact HB.out)) hb); clear HB; have HB := n0_; clear n0_; (try clear hb); (try clear hb2); (try clear hk); (try clear hi)) | (go_at_call 44; (with_reducible refine (strs_Utf.calls a1 t169 _ ?tb_ A34.out).mono ?_); (case tb_ => exact ⟨TB.below HT_.out (by repeat (first | (with_reducible first | exact HB.out | apply below_alloc | apply pw_below_drewN | apply below_drew1) | exact HB.out | exact Below.refl _ _))⟩); rintro e w44 ⟨rfl, hb⟩; have n0_ := Aside0.mk (below_step (by repeat (first | (with_reducible first | exact HB.out | apply below_alloc | apply pw_below_drewN | apply below_drew1) | exact HB.out)) hb); clear HB; have HB := n0_; clear n0_; (try clear hb); (try clear hb2); (try clear hk); (try clear hi)) | (go_at_call 46; (with_reducible refine (strs_Printable.calls (a0 ++ a1) t170 _ A36.out).mono ?_); rintro e w45 ⟨rfl, hb⟩; have n0_ := Aside0.mk (below_step (by repeat (first | (with_reducible first | exact HB.out | apply below_alloc | apply pw_below_drewN | apply below_drew1) | exact HB.out)) hb); clear HB; have HB := n0_; clear n0_; (try clear hb); (try clear hb2); (try clear hk); (try clear hi)) | (go_at_call 46; (with_reducible refine (strs_Printable.calls a0 true _ A37.out).mono ?_); rintro e w46 ⟨rfl, hb⟩; have n0_ := Aside0.mk (below_step (by repeat (first | (with_reducible first | exact HB.out | apply below_alloc | apply pw_below_drewN | apply below_drew1) | exact HB.out)) hb); clear HB; have HB := n0_; clear n0_; (try clear hb); (try clear hb2); (try clear hk); (try clear hi)) | (go_at_call 46; (with_reducible refine (strs_Printable.calls a1 t172 _ A39.out).mono ?_); rintro e w47 ⟨rfl, hb⟩; have n0_ := Aside0.mk (below_step (by repeat (first | (with_reducible first | exact HB.out | apply below_alloc | apply pw_below_drewN | apply below_drew1) | exact HB.out)) hb); clear HB; have HB := n0_; clear n0_; (try clear hb); (try clear hb2); (try clear hk); (try clear hi)) | (go_at_call 35; (with_reducible refine (clavigerlaw18_awake.calls kj23  t173 _ ?tb_ A41.out).mono ?_); (case tb_ => exact ⟨TB.below HT_.out (by repeat (first | (with_reducible first | exact HB.out | apply below_alloc | apply pw_below_drewN | apply below_drew1) | exact HB.out | exact Below.refl _ _))⟩); rintro e w48 ⟨rfl, hb⟩; have n0_ := Aside0.mk (below_step (by repeat (first | (with_reducible first | exact HB.out | apply below_alloc | apply pw_below_drewN | apply below_drew1) | exact HB.out)) hb); clear HB; have HB := n0_; clear n0_; (try clear hb); (try clear hb2); (try clear hk); (try clear hi)))
                                go_ret
                                exact ⟨by first | rfl | (simp [errW_none, errW_some] <;> rfl) | (simp [*, errW_none, errW_some] <;> rfl), by repeat (first | (with_reducible first | exact HB.out | apply below_alloc | apply pw_below_drewN | apply below_drew1) | exact HB.out)⟩
                              · rw [if_neg c40] at H
                                have c40b0 : (t170 == t172) = false := by simpa using c40
                                (try (have c40b1 : decide (t170 = t172) = false := by simpa using c40))
                                (try (have c40b2 : (t170 == t172) = false := by simpa using c40))
                                (try (have c40b3 : ¬ (t170 = t172) := by simpa using c40))
                                clear c40
                                exact absurd ((Option.some.inj H).trans HR_.out) (by decide)
                            · replace c38 := Bool.eq_false_iff.mpr c38
                              subst c38
                              have H1 : (if (t170 == false) = true then ((clavigerlaw18_awake.f kj23).bind fun t174 => (some t174)) else (some false)) = some r := by rw [if_neg (show ¬ (false = true) by decide)] at H; exact H
                              clear H
                              have H := H1
                              clear H1
                              by_cases c49 : (t170 == false) = true
                              · rw [if_pos c49] at H
                                have c49b0 : (t170 == false) = true := c49
                                (try (have c49b1 : decide (t170 = false) = true := by simpa using c49))
                                (try (have c49b2 : (t170 == false) = true := by simpa using c49))
                                clear c49
                                replace H := Option.bind_eq_some_iff.mp H
                                obtain ⟨t174, A500, H⟩ := H
                                replace H : (some t174) = some r := H
                                have A50 := Aside0.mk A500
                                clear A500
                                obtain rfl := Option.some.inj H
                                go_wp2_with (first | ((with_reducible refine gate_callee (f := 44) rfl ?_); refine goesL_ (some 89) rfl rfl Tryd.func44 (by kernel_rfl) rfl #[.string a0] rfl (by (try simp only [List.map_toArray, List.map_cons, List.map_nil]); first | done | rfl | (simp only [List.length_drop, List.length_take]; rfl)) ?_; (with_reducible refine (strs_Utf.calls a0 true _ ?tb_ A30.out).mono ?_); (case tb_ => exact ⟨TB.below HT_.out (by repeat (first | (with_reducible first | exact HB.out | apply below_alloc | apply pw_below_drewN | apply below_drew1) | exact HB.out | exact Below.refl _ _))⟩); rintro e w51 ⟨rfl, hb⟩; refine ⟨_, rfl, ?_⟩; have n0_ := Aside0.mk (below_step (by repeat (first | (with_reducible first | exact HB.out | apply below_alloc | apply pw_below_drewN | apply below_drew1) | exact HB.out)) hb); clear HB; have HB := n0_; clear n0_; (try clear hb); (try clear hb2); (try clear hk); (try clear hi)) | (go_at_call 44; (with_reducible refine (strs_Utf.calls (a0 ++ a1) t168 _ ?tb_ A33.out).mono ?_); (case tb_ => exact ⟨TB.below HT_.out (by repeat (first | (with_reducible first | exact HB.out | apply below_alloc | apply pw_below_drewN | apply below_drew1) | exact HB.out | exact Below.refl _ _))⟩); rintro e w52 ⟨rfl, hb⟩; have n0_ := Aside0.mk (below_step (by repeat (first | (with_reducible first | exact HB.out | apply below_alloc | apply pw_below_drewN | apply below_drew1) | exact HB.out)) hb); clear HB; have HB := n0_; clear n0_; (try clear hb); (try clear hb2); (try clear hk); (try clear hi)) | (go_at_call 44; (with_reducible refine (strs_Utf.calls a1 t169 _ ?tb_ A34.out).mono ?_); (case tb_ => exact ⟨TB.below HT_.out (by repeat (first | (with_reducible first | exact HB.out | apply below_alloc | apply pw_below_drewN | apply below_drew1) | exact HB.out | exact Below.refl _ _))⟩); rintro e w53 ⟨rfl, hb⟩; have n0_ := Aside0.mk (below_step (by repeat (first | (with_reducible first | exact HB.out | apply below_alloc | apply pw_below_drewN | apply below_drew1) | exact HB.out)) hb); clear HB; have HB := n0_; clear n0_; (try clear hb); (try clear hb2); (try clear hk); (try clear hi)) | (go_at_call 46; (with_reducible refine (strs_Printable.calls (a0 ++ a1) t170 _ A36.out).mono ?_); rintro e w54 ⟨rfl, hb⟩; have n0_ := Aside0.mk (below_step (by repeat (first | (with_reducible first | exact HB.out | apply below_alloc | apply pw_below_drewN | apply below_drew1) | exact HB.out)) hb); clear HB; have HB := n0_; clear n0_; (try clear hb); (try clear hb2); (try clear hk); (try clear hi)) | (go_at_call 46; (with_reducible refine (strs_Printable.calls a0 false _ A37.out).mono ?_); rintro e w55 ⟨rfl, hb⟩; have n0_ := Aside0.mk (below_step (by repeat (first | (with_reducible first | exact HB.out | apply below_alloc | apply pw_below_drewN | apply below_drew1) | exact HB.out)) hb); clear HB; have HB := n0_; clear n0_; (try clear hb); (try clear hb2); (try clear hk); (try clear hi)) | (go_at_call 35; (with_reducible refine (clavigerlaw18_awake.calls kj23  t174 _ ?tb_ A50.out).mono ?_); (case tb_ => exact ⟨TB.below HT_.out (by repeat (first | (with_reducible first | exact HB.out | apply below_alloc | apply pw_below_drewN | apply below_drew1) | exact HB.out | exact Below.refl _ _))⟩); rintro e w56 ⟨rfl, hb⟩; have n0_ := Aside0.mk (below_step (by repeat (first | (with_reducible first | exact HB.out | apply below_alloc | apply pw_below_drewN | apply below_drew1) | exact HB.out)) hb); clear HB; have HB := n0_; clear n0_; (try clear hb); (try clear hb2); (try clear hk); (try clear hi)))
                                go_ret
                                exact ⟨by first | rfl | (simp [errW_none, errW_some] <;> rfl) | (simp [*, errW_none, errW_some] <;> rfl), by repeat (first | (with_reducible first | exact HB.out | apply below_alloc | apply pw_below_drewN | apply below_drew1) | exact HB.out)⟩
                              · rw [if_neg c49] at H
                                have c49b0 : (t170 == false) = false := by simpa using c49
                                (try (have c49b1 : decide (t170 = false) = false := by simpa using c49))
                                (try (have c49b2 : (t170 == false) = false := by simpa using c49))
                                (try (have c49b3 : ¬ (t170 = false) := by simpa using c49))
                                clear c49
                                exact absurd ((Option.some.inj H).trans HR_.out) (by decide)
                          · rw [if_neg c35] at H
                            have c35b0 : (t168 == t169) = false := by simpa using c35
                            (try (have c35b1 : decide (t168 = t169) = false := by simpa using c35))
                            (try (have c35b2 : (t168 == t169) = false := by simpa using c35))
                            (try (have c35b3 : ¬ (t168 = t169) := by simpa using c35))
                            clear c35
                            exact absurd ((Option.some.inj H).trans HR_.out) (by decide)
                        · rw [if_neg c32] at H
                          exact absurd H (by simp)
                      · replace c31 := Bool.eq_false_iff.mpr c31
                        subst c31
                        have H1 : (if a0.size + a1.size ≤ 9223372036854775807 then ((strs_Printable.f (a0 ++ a1)).bind fun t175 => ((strs_Printable.f a0).bind fun t176 => (if t176 = true then ((strs_Printable.f a1).bind fun t177 => (if (t175 == t177) = true then ((clavigerlaw18_awake.f kj23).bind fun t178 => (some t178)) else (some false))) else (if (t175 == false) = true then ((clavigerlaw18_awake.f kj23).bind fun t179 => (some t179)) else (some false))))) else (none)) = some r := by rw [if_neg (show ¬ (false = true) by decide)] at H; exact H
                        clear H
                        have H := H1
                        clear H1
                        by_cases c57 : a0.size + a1.size ≤ 9223372036854775807
                        · rw [if_pos c57] at H
                          have c57b0 := eq_true c57
                          have c57b1 : decide (a0.size + a1.size ≤ 9223372036854775807) = true := decide_eq_true c57
                          try have c57b2 : (9223372036854775807 < a0.size + a1.size) = False := eq_false (Nat.not_lt.2 c57)
                          replace H := Option.bind_eq_some_iff.mp H
                          obtain ⟨t175, A580, H⟩ := H
                          replace H : ((strs_Printable.f a0).bind fun t176 => (if t176 = true then ((strs_Printable.f a1).bind fun t177 => (if (t175 == t177) = true then ((clavigerlaw18_awake.f kj23).bind fun t178 => (some t178)) else (some false))) else (if (t175 == false) = true then ((clavigerlaw18_awake.f kj23).bind fun t179 => (some t179)) else (some false)))) = some r := H
                          have A58 := Aside0.mk A580
                          clear A580
                          replace H := Option.bind_eq_some_iff.mp H
                          obtain ⟨t176, A590, H⟩ := H
                          replace H : (if t176 = true then ((strs_Printable.f a1).bind fun t177 => (if (t175 == t177) = true then ((clavigerlaw18_awake.f kj23).bind fun t178 => (some t178)) else (some false))) else (if (t175 == false) = true then ((clavigerlaw18_awake.f kj23).bind fun t179 => (some t179)) else (some false))) = some r := H
                          have A59 := Aside0.mk A590
                          clear A590
                          by_cases c60 : t176 = true
                          · subst c60
                            have H1 : ((strs_Printable.f a1).bind fun t177 => (if (t175 == t177) = true then ((clavigerlaw18_awake.f kj23).bind fun t178 => (some t178)) else (some false))) = some r := by rw [if_pos rfl] at H; exact H
                            clear H
                            have H := H1
                            clear H1
                            replace H := Option.bind_eq_some_iff.mp H
                            obtain ⟨t177, A610, H⟩ := H
                            replace H : (if (t175 == t177) = true then ((clavigerlaw18_awake.f kj23).bind fun t178 => (some t178)) else (some false)) = some r := H
                            have A61 := Aside0.mk A610
                            clear A610
                            by_cases c62 : (t175 == t177) = true
                            · rw [if_pos c62] at H
                              have c62b0 : (t175 == t177) = true := c62
                              (try (have c62b1 : decide (t175 = t177) = true := by simpa using c62))
                              (try (have c62b2 : (t175 == t177) = true := by simpa using c62))
                              clear c62
                              replace H := Option.bind_eq_some_iff.mp H
                              obtain ⟨t178, A630, H⟩ := H
                              replace H : (some t178) = some r := H
                              have A63 := Aside0.mk A630
                              clear A630
                              obtain rfl := Option.some.inj H
                              go_wp2_with (first | ((with_reducible refine gate_callee (f := 44) rfl ?_); refine goesL_ (some 89) rfl rfl Tryd.func44 (by kernel_rfl) rfl #[.string a0] rfl (by (try simp only [List.map_toArray, List.map_cons, List.map_nil]); first | done | rfl | (simp only [List.length_drop, List.length_take]; rfl)) ?_; (with_reducible refine (strs_Utf.calls a0 false _ ?tb_ A30.out).mono ?_); (case tb_ => exact ⟨TB.below HT_.out (by repeat (first | (with_reducible first | exact HB.out | apply below_alloc | apply pw_below_drewN | apply below_drew1) | exact HB.out | exact Below.refl _ _))⟩); rintro e w64 ⟨rfl, hb⟩; refine ⟨_, rfl, ?_⟩; have n0_ := Aside0.mk (below_step (by repeat (first | (with_reducible first | exact HB.out | apply below_alloc | apply pw_below_drewN | apply below_drew1) | exact HB.out)) hb); clear HB; have HB := n0_; clear n0_; (try clear hb); (try clear hb2); (try clear hk); (try clear hi)) | (go_at_call 46; (with_reducible refine (strs_Printable.calls (a0 ++ a1) t175 _ A58.out).mono ?_); rintro e w65 ⟨rfl, hb⟩; have n0_ := Aside0.mk (below_step (by repeat (first | (with_reducible first | exact HB.out | apply below_alloc | apply pw_below_drewN | apply below_drew1) | exact HB.out)) hb); clear HB; have HB := n0_; clear n0_; (try clear hb); (try clear hb2); (try clear hk); (try clear hi)) | (go_at_call 46; (with_reducible refine (strs_Printable.calls a0 true _ A59.out).mono ?_); rintro e w66 ⟨rfl, hb⟩; have n0_ := Aside0.mk (below_step (by repeat (first | (with_reducible first | exact HB.out | apply below_alloc | apply pw_below_drewN | apply below_drew1) | exact HB.out)) hb); clear HB; have HB := n0_; clear n0_; (try clear hb); (try clear hb2); (try clear hk); (try clear hi)) | (go_at_call 46; (with_reducible refine (strs_Printable.calls a1 t177 _ A61.out).mono ?_); rintro e w67 ⟨rfl, hb⟩; have n0_ := Aside0.mk (below_step (by repeat (first | (with_reducible first | exact HB.out | apply below_alloc | apply pw_below_drewN | apply below_drew1) | exact HB.out)) hb); clear HB; have HB := n0_; clear n0_; (try clear hb); (try clear hb2); (try clear hk); (try clear hi)) | (go_at_call 35; (with_reducible refine (clavigerlaw18_awake.calls kj23  t178 _ ?tb_ A63.out).mono ?_); (case tb_ => exact ⟨TB.below HT_.out (by repeat (first | (with_reducible first | exact HB.out | apply below_alloc | apply pw_below_drewN | apply below_drew1) | exact HB.out | exact Below.refl _ _))⟩); rintro e w68 ⟨rfl, hb⟩; have n0_ := Aside0.mk (below_step (by repeat (first | (with_reducible first | exact HB.out | apply below_alloc | apply pw_below_drewN | apply below_drew1) | exact HB.out)) hb); clear HB; have HB := n0_; clear n0_; (try clear hb); (try clear hb2); (try clear hk); (try clear hi)))
                              go_ret
                              exact ⟨by first | rfl | (simp [errW_none, errW_some] <;> rfl) | (simp [*, errW_none, errW_some] <;> rfl), by repeat (first | (with_reducible first | exact HB.out | apply below_alloc | apply pw_below_drewN | apply below_drew1) | exact HB.out)⟩
                            · rw [if_neg c62] at H
                              have c62b0 : (t175 == t177) = false := by simpa using c62
                              (try (have c62b1 : decide (t175 = t177) = false := by simpa using c62))
                              (try (have c62b2 : (t175 == t177) = false := by simpa using c62))
                              (try (have c62b3 : ¬ (t175 = t177) := by simpa using c62))
                              clear c62
                              exact absurd ((Option.some.inj H).trans HR_.out) (by decide)
                          · replace c60 := Bool.eq_false_iff.mpr c60
                            subst c60
                            have H1 : (if (t175 == false) = true then ((clavigerlaw18_awake.f kj23).bind fun t179 => (some t179)) else (some false)) = some r := by rw [if_neg (show ¬ (false = true) by decide)] at H; exact H
                            clear H
                            have H := H1
                            clear H1
                            by_cases c69 : (t175 == false) = true
                            · rw [if_pos c69] at H
                              have c69b0 : (t175 == false) = true := c69
                              (try (have c69b1 : decide (t175 = false) = true := by simpa using c69))
                              (try (have c69b2 : (t175 == false) = true := by simpa using c69))
                              clear c69
                              replace H := Option.bind_eq_some_iff.mp H
                              obtain ⟨t179, A700, H⟩ := H
                              replace H : (some t179) = some r := H
                              have A70 := Aside0.mk A700
                              clear A700
                              obtain rfl := Option.some.inj H
                              go_wp2_with (first | ((with_reducible refine gate_callee (f := 44) rfl ?_); refine goesL_ (some 89) rfl rfl Tryd.func44 (by kernel_rfl) rfl #[.string a0] rfl (by (try simp only [List.map_toArray, List.map_cons, List.map_nil]); first | done | rfl | (simp only [List.length_drop, List.length_take]; rfl)) ?_; (with_reducible refine (strs_Utf.calls a0 false _ ?tb_ A30.out).mono ?_); (case tb_ => exact ⟨TB.below HT_.out (by repeat (first | (with_reducible first | exact HB.out | apply below_alloc | apply pw_below_drewN | apply below_drew1) | exact HB.out | exact Below.refl _ _))⟩); rintro e w71 ⟨rfl, hb⟩; refine ⟨_, rfl, ?_⟩; have n0_ := Aside0.mk (below_step (by repeat (first | (with_reducible first | exact HB.out | apply below_alloc | apply pw_below_drewN | apply below_drew1) | exact HB.out)) hb); clear HB; have HB := n0_; clear n0_; (try clear hb); (try clear hb2); (try clear hk); (try clear hi)) | (go_at_call 46; (with_reducible refine (strs_Printable.calls (a0 ++ a1) t175 _ A58.out).mono ?_); rintro e w72 ⟨rfl, hb⟩; have n0_ := Aside0.mk (below_step (by repeat (first | (with_reducible first | exact HB.out | apply below_alloc | apply pw_below_drewN | apply below_drew1) | exact HB.out)) hb); clear HB; have HB := n0_; clear n0_; (try clear hb); (try clear hb2); (try clear hk); (try clear hi)) | (go_at_call 46; (with_reducible refine (strs_Printable.calls a0 false _ A59.out).mono ?_); rintro e w73 ⟨rfl, hb⟩; have n0_ := Aside0.mk (below_step (by repeat (first | (with_reducible first | exact HB.out | apply below_alloc | apply pw_below_drewN | apply below_drew1) | exact HB.out)) hb); clear HB; have HB := n0_; clear n0_; (try clear hb); (try clear hb2); (try clear hk); (try clear hi)) | (go_at_call 35; (with_reducible refine (clavigerlaw18_awake.calls kj23  t179 _ ?tb_ A70.out).mono ?_); (case tb_ => exact ⟨TB.below HT_.out (by repeat (first | (with_reducible first | exact HB.out | apply below_alloc | apply pw_below_drewN | apply below_drew1) | exact HB.out | exact Below.refl _ _))⟩); rintro e w74 ⟨rfl, hb⟩; have n0_ := Aside0.mk (below_step (by repeat (first | (with_reducible first | exact HB.out | apply below_alloc | apply pw_below_drewN | apply below_drew1) | exact HB.out)) hb); clear HB; have HB := n0_; clear n0_; (try clear hb); (try clear hb2); (try clear hk); (try clear hi)))
                              go_ret
                              exact ⟨by first | rfl | (simp [errW_none, errW_some] <;> rfl) | (simp [*, errW_none, errW_some] <;> rfl), by repeat (first | (with_reducible first | exact HB.out | apply below_alloc | apply pw_below_drewN | apply below_drew1) | exact HB.out)⟩
                            · rw [if_neg c69] at H
                              have c69b0 : (t175 == false) = false := by simpa using c69
                              (try (have c69b1 : decide (t175 = false) = false := by simpa using c69))
                              (try (have c69b2 : (t175 == false) = false := by simpa using c69))
                              (try (have c69b3 : ¬ (t175 = false) := by simpa using c69))
                              clear c69
                              exact absurd ((Option.some.inj H).trans HR_.out) (by decide)
                        · rw [if_neg c57] at H
                          exact absurd H (by simp)

/-- THE ONE PURE STATEMENT of clavigerlaw18_StrsBack: yours. -/
def clavigerlaw18_StrsBack.Pure : Prop := ∀ (a0 : ByteArray) (a1 : ByteArray) (a2 : Int) (a3 : Bool), a0.size ≤ 140737488351232 → a1.size ≤ 140737488351232 → (Lit.int .i64 a2).wf = true → ∃ k, clavigerlaw18_StrsBack.f k a0 a1 a2 a3 = some true
theorem clavigerlaw18_StrsBack.walk (P : clavigerlaw18_StrsBack.Pure) (a0 : ByteArray) (a1 : ByteArray) (a2 : Int) (a3 : Bool) (w : World) (w0 : a0.size ≤ 140737488351232) (w1 : a1.size ≤ 140737488351232) (w2 : (Lit.int .i64 a2).wf = true) (HT_ : Aside0 (TB w)) :
    Calls Tryd.prog 9 #[.string a0, .string a1, .int .i64 a2, .bool a3] w fun e w' => e = .returned (.bool true) ∧ Below w.heap.size w w' := by
  obtain ⟨k, h⟩ := P a0 a1 a2 a3 w0 w1 w2
  refine (clavigerlaw18_StrsBack.calls k a0 a1 a2 a3 true w HT_ ⟨rfl⟩ h).mono ?_
  rintro e w' ⟨rfl, hd⟩
  exact ⟨rfl, hd⟩

end Go.Proofs.YtlocmcemfjfhiaaDoor.PStrsBack
