-- laid by a program out of the translation and of templates; not trusted: Lean checks it
import Derived.Test.YtlmldmeclgfoeaaGreatDoorPCurveTellsx0
import Derived.Test.YtlmldmeclgfoeaaGreatDoorPCurveTellsx1
import Derived.Test.YtlmldmeclgfoeaaGreatDoorPCurveTellsx2
import Derived.Test.YtlmldmeclgfoeaaGreatDoorPCurveTellsx3
import Derived.Test.YtlmldmeclgfoeaaGreatDoorPCurveTellsx4
import Derived.Test.YtlmldmeclgfoeaaGreatDoorPCurveTellsx5
import Derived.Test.YtlmldmeclgfoeaaGreatDoorPCurveTellsx6
namespace Go.Proofs.YtlmldmeclgfoeaaGreatDoor.PCurveTells
open Go.RowKit Go.Proofs.YtlmldmeclgfoeaaGreatDoorW.PrintWords Go.Proofs.YtlmldmeclgfoeaaGreatDoorW.PrintLast Go.Proofs.YtlmldmeclgfoeaaGreatDoorW.PrintMore
attribute [local go_sem high] c_add c_eql c_neq
attribute [local go_sem] str_leq str_gtr str_geq max2_int min2_int max_two min_two max_three min_three max_four min_four   -- for this text's walks alone
set_option linter.unusedVariables false
set_option linter.unusedSimpArgs false

/-! ### clavigerlaw22_CurveTells: function 3 -/
def clavigerlaw22_CurveTells.j0 : Nat → Int → List Int → Int → ByteArray → Bool → Option (Bool)
  | 0, _, _, _, _, _ => none
  | k + 1, x0, x1, x2, x3, x24 => if x24 = true then ((clavigerlaw22_awake.f k).bind fun t203 => (some t203)) else ((curve_By.f k x1).bind fun bt204 => ((clavigerref22_By.f k x1).bind fun bt206 => ((curve_Of.f x2).bind fun bt208 => ((clavigerref22_Of.f k x2).bind fun bt210 => ((curve_Name.f x0).bind fun t212 => ((clavigerref22_Name.f x0).bind fun t213 => (if t212.toList = t213.toList then ((curve_Width.f x0).bind fun t214 => ((clavigerref22_Width.f x0).bind fun t215 => (if t214 = t215 then ((curve_Arcs.f k x0).bind fun t216 => ((clavigerref22_Arcs.f x0).bind fun t219 => ((clavigerplain_Ints.f k t216 t219).bind fun t222 => (if t222 = true then ((curve_Order.f k x0).bind fun t223 => ((clavigerref22_Order.f k x0).bind fun t224 => (if t223.toList = t224.toList then (if bt204.1 = bt206.1 then (if (bt204.2 == bt206.2) = true then (if bt208.1 = bt210.1 then (if (bt208.2 == bt210.2) = true then ((curve_Scalar.f k x0 x3).bind fun t225 => ((clavigerref22_Scalar.f k x0 x3).bind fun t226 => (if (t225 == t226) = true then ((clavigerlaw22_awake.f k).bind fun t227 => (some t227)) else (some false)))) else (some false)) else (some false)) else (some false)) else (some false)) else (some false)))) else (some false))))) else (some false)))) else (some false))))))))
def clavigerlaw22_CurveTells.f (k : Nat) (a0 : Int) (l1 : List Int) (a2 : Int) (a3 : ByteArray) : Option (Bool) := if (l1.length : Int) > 60 then (clavigerlaw22_CurveTells.j0 k a0 l1 a2 a3 true) else (clavigerlaw22_CurveTells.j0 k a0 l1 a2 a3 (decide ((a3.size : Int) > 200)))
theorem clavigerlaw22_CurveTells.mono_l : ∀ k, (∀ y0 y1 y2 y3 y4, LeO (clavigerlaw22_CurveTells.j0 k y0 y1 y2 y3 y4) (clavigerlaw22_CurveTells.j0 (k + 1) y0 y1 y2 y3 y4))
  | 0 => fun _ _ _ _ _ r h => by simp [clavigerlaw22_CurveTells.j0] at h
  | k + 1 => by
    have ih0 := clavigerlaw22_CurveTells.mono_l k
    · intro y0 y1 y2 y3 y4
      unfold clavigerlaw22_CurveTells.j0
      repeat' first
      | (with_reducible exact ih0 _ _ _ _ _)
      | (with_reducible exact clavigerlaw22_awake.mono _)
      | (with_reducible exact clavigerplain_Ints.mono _ _ _)
      | (with_reducible exact clavigerref22_By.mono _ _)
      | (with_reducible exact clavigerref22_Of.mono _ _)
      | (with_reducible exact clavigerref22_Order.mono _ _)
      | (with_reducible exact clavigerref22_Scalar.mono _ _ _)
      | (with_reducible exact curve_Arcs.mono _ _)
      | (with_reducible exact curve_By.mono _ _)
      | (with_reducible exact curve_Order.mono _ _)
      | (with_reducible exact curve_Scalar.mono _ _ _)
      | (with_reducible exact LeO.refl _)
      | (with_reducible exact LeO.none _)
      | (with_reducible refine LeO.ite ?_ ?_)
      | (with_reducible refine LeO.bind ?_ (fun _ => ?_))
      | exact ih0 _ _ _ _ _
      | exact clavigerlaw22_awake.mono _
      | exact clavigerplain_Ints.mono _ _ _
      | exact clavigerref22_By.mono _ _
      | exact clavigerref22_Of.mono _ _
      | exact clavigerref22_Order.mono _ _
      | exact clavigerref22_Scalar.mono _ _ _
      | exact curve_Arcs.mono _ _
      | exact curve_By.mono _ _
      | exact curve_Order.mono _ _
      | exact curve_Scalar.mono _ _ _
      | exact LeO.none _
      | refine LeO.ite ?_ ?_
      | refine LeO.bind ?_ (fun _ => ?_)
theorem clavigerlaw22_CurveTells.mono : ∀ a0 a1 a2 a3 k, LeO (clavigerlaw22_CurveTells.f k a0 a1 a2 a3) (clavigerlaw22_CurveTells.f (k + 1) a0 a1 a2 a3) := by
  intro a0 a1 a2 a3 k
  have ih0 := clavigerlaw22_CurveTells.mono_l k
  unfold clavigerlaw22_CurveTells.f
  repeat' first
      | (with_reducible exact ih0 _ _ _ _ _)
      | (with_reducible exact clavigerlaw22_awake.mono _)
      | (with_reducible exact clavigerplain_Ints.mono _ _ _)
      | (with_reducible exact clavigerref22_By.mono _ _)
      | (with_reducible exact clavigerref22_Of.mono _ _)
      | (with_reducible exact clavigerref22_Order.mono _ _)
      | (with_reducible exact clavigerref22_Scalar.mono _ _ _)
      | (with_reducible exact curve_Arcs.mono _ _)
      | (with_reducible exact curve_By.mono _ _)
      | (with_reducible exact curve_Order.mono _ _)
      | (with_reducible exact curve_Scalar.mono _ _ _)
      | (with_reducible exact LeO.refl _)
      | (with_reducible exact LeO.none _)
      | (with_reducible refine LeO.ite ?_ ?_)
      | (with_reducible refine LeO.bind ?_ (fun _ => ?_))
      | exact ih0 _ _ _ _ _
      | exact clavigerlaw22_awake.mono _
      | exact clavigerplain_Ints.mono _ _ _
      | exact clavigerref22_By.mono _ _
      | exact clavigerref22_Of.mono _ _
      | exact clavigerref22_Order.mono _ _
      | exact clavigerref22_Scalar.mono _ _ _
      | exact curve_Arcs.mono _ _
      | exact curve_By.mono _ _
      | exact curve_Order.mono _ _
      | exact curve_Scalar.mono _ _ _
      | exact LeO.none _
      | refine LeO.ite ?_ ?_
      | refine LeO.bind ?_ (fun _ => ?_)
set_option maxHeartbeats 8000000 in
set_option maxRecDepth 100000 in
theorem clavigerlaw22_CurveTells.calls (k : Nat) (a0 : Int) (A1 : Option Addr) (c1 : Nat) (l1 : List Int) (a2 : Int) (a3 : ByteArray) (r : Bool) (w : World) (hr1 : Kd.C (Kd.int .i64) w A1 l1.length l1) (hc1 : l1.length ≤ c1) (HT_ : Aside0 (TB w)) (HR_ : Aside0 (r = true)) (h : clavigerlaw22_CurveTells.f k a0 l1 a2 a3 = some r) :
    Calls Tryz.prog 3 #[.int .i64 a0, .slice A1 l1.length c1, .int .i64 a2, .string a3] w fun e w' => e = .returned (.bool r) ∧ Below w.heap.size w w' := by
  have HR1 := Aside0.mk hr1
  have HC1 := Aside0.mk hc1
  clear hr1 hc1
  have HB := Aside0.mk (Below.refl w.heap.size w)
  have H : (if (l1.length : Int) > 60 then (clavigerlaw22_CurveTells.j0 k a0 l1 a2 a3 true) else (clavigerlaw22_CurveTells.j0 k a0 l1 a2 a3 (decide ((a3.size : Int) > 200)))) = some r := h
  clear h
  have HC5 := Aside0.mk H
  clear H
  go_enter Tryz.func3, Tryz.ntmps3
  go_upto_region 1 with (fail)
  go_cut [24] (fun v24 wc => ∃ (kq : Nat) (x24_4 : Bool), v24 = .bool x24_4 ∧ Aside0 (clavigerlaw22_CurveTells.j0 kq a0 l1 a2 a3 x24_4 = some r) ∧ Aside0 (kq ≤ k) ∧ Aside0 (Below w.heap.size w wc))
  case first =>
    have H := HC5.out
    clear HC5
    by_cases c6 : (l1.length : Int) > 60
    · rw [if_pos c6] at H
      have c6b0 : decide (60 < (l1.length : Int)) = true := decide_eq_true c6
      have c6b1 : decide (60 < l1.length) = true := decide_eq_true (by omega)
      clear c6
      (first | rw [c6b0] | (simp only [i64_w, i32_w]; rw [c6b0]) | skip)
      have H' := Aside0.mk H
      clear H
      go_wp2
      go_meet
      case rel => exact ⟨_, (true), (by first | rfl | (simp; done) | (simp [*]; done)), H', ⟨by first | omega | exact Nat.le_refl _⟩, ⟨by repeat (first | (with_reducible first | exact HB.out | apply below_alloc | apply pw_below_drewN | apply below_drew1) | exact HB.out)⟩⟩
    · rw [if_neg c6] at H
      have c6b0 : decide (60 < (l1.length : Int)) = false := decide_eq_false c6
      have c6b1 : decide (60 < l1.length) = false := decide_eq_false (by omega)
      clear c6
      (first | rw [c6b0] | (simp only [i64_w, i32_w]; rw [c6b0]) | skip)
      have H' := Aside0.mk H
      clear H
      go_wp2
      go_meet
      case rel => exact ⟨_, (decide ((a3.size : Int) > 200)), (by first | rfl | (simp; done) | (simp [*]; done)), H', ⟨by first | omega | exact Nat.le_refl _⟩, ⟨by repeat (first | (with_reducible first | exact HB.out | apply below_alloc | apply pw_below_drewN | apply below_drew1) | exact HB.out)⟩⟩
  case rest =>
    clear HC5
    try clear c1
    try clear p2
    try clear c3
    try clear c6
    try clear c6b0
    try clear c6b1
    obtain ⟨kq, x24_4, rfl, HA, HJ4, HB⟩ := hcut
    cases kq with
    | zero => exact absurd HA.out (by simp [clavigerlaw22_CurveTells.j0])
    | succ kj4 =>
      have H := HA.out
      clear HA
      simp only [clavigerlaw22_CurveTells.j0] at H
      by_cases c7 : x24_4 = true
      · subst c7
        have H1 : ((clavigerlaw22_awake.f kj4).bind fun t203 => (some t203)) = some r := by rw [if_pos rfl] at H; exact H
        clear H
        have H := H1
        clear H1
        replace H := Option.bind_eq_some_iff.mp H
        obtain ⟨t203, A80, H⟩ := H
        replace H : (some t203) = some r := H
        have A8 := Aside0.mk A80
        clear A80
        obtain rfl := Option.some.inj H
        go_wp2_with (first | ((with_reducible refine gate_callee (f := 4) rfl ?_); refine goesL_ (some 25) rfl rfl Tryz.func4 (by kernel_rfl) rfl #[] rfl (by (try simp only [List.map_toArray, List.map_cons, List.map_nil]); first | done | rfl | (simp only [List.length_drop, List.length_take]; rfl) | exact congrArg (fun z => #[Value.int .i64 z]) (w64 (by omega) (by omega)).symm) ?_; (with_reducible refine (clavigerlaw22_awake.calls kj4  t203 _ ?tb_ A8.out).mono ?_); (case tb_ => exact ⟨TB.below HT_.out (by repeat (first | (with_reducible first | exact HB.out | apply below_alloc | apply pw_below_drewN | apply below_drew1) | exact HB.out | exact Below.refl _ _))⟩); rintro e w9 ⟨rfl, hb⟩; refine ⟨_, rfl, ?_⟩; have n0_ := Aside0.mk (below_step (by repeat (first | (with_reducible first | exact HB.out | apply below_alloc | apply pw_below_drewN | apply below_drew1) | exact HB.out)) hb); clear HB; have HB := n0_; clear n0_; (try clear hb); (try clear hb2); (try clear hk); (try clear hi)))
        go_ret
        exact ⟨by first | rfl | (simp [errW_none, errW_some] <;> rfl) | (simp [*, errW_none, errW_some] <;> rfl), by repeat (first | (with_reducible first | exact HB.out | apply below_alloc | apply pw_below_drewN | apply below_drew1) | exact HB.out)⟩
      · replace c7 := Bool.eq_false_iff.mpr c7
        subst c7
        have H1 : ((curve_By.f kj4 l1).bind fun bt204 => ((clavigerref22_By.f kj4 l1).bind fun bt206 => ((curve_Of.f a2).bind fun bt208 => ((clavigerref22_Of.f kj4 a2).bind fun bt210 => ((curve_Name.f a0).bind fun t212 => ((clavigerref22_Name.f a0).bind fun t213 => (if t212.toList = t213.toList then ((curve_Width.f a0).bind fun t214 => ((clavigerref22_Width.f a0).bind fun t215 => (if t214 = t215 then ((curve_Arcs.f kj4 a0).bind fun t216 => ((clavigerref22_Arcs.f a0).bind fun t219 => ((clavigerplain_Ints.f kj4 t216 t219).bind fun t222 => (if t222 = true then ((curve_Order.f kj4 a0).bind fun t223 => ((clavigerref22_Order.f kj4 a0).bind fun t224 => (if t223.toList = t224.toList then (if bt204.1 = bt206.1 then (if (bt204.2 == bt206.2) = true then (if bt208.1 = bt210.1 then (if (bt208.2 == bt210.2) = true then ((curve_Scalar.f kj4 a0 a3).bind fun t225 => ((clavigerref22_Scalar.f kj4 a0 a3).bind fun t226 => (if (t225 == t226) = true then ((clavigerlaw22_awake.f kj4).bind fun t227 => (some t227)) else (some false)))) else (some false)) else (some false)) else (some false)) else (some false)) else (some false)))) else (some false))))) else (some false)))) else (some false)))))))) = some r := by rw [if_neg (show ¬ (false = true) by decide)] at H; exact H
        clear H
        have H := H1
        clear H1
        replace H := Option.bind_eq_some_iff.mp H
        obtain ⟨⟨t204, t205⟩, A100, H⟩ := H
        replace H : ((clavigerref22_By.f kj4 l1).bind fun bt206 => ((curve_Of.f a2).bind fun bt208 => ((clavigerref22_Of.f kj4 a2).bind fun bt210 => ((curve_Name.f a0).bind fun t212 => ((clavigerref22_Name.f a0).bind fun t213 => (if t212.toList = t213.toList then ((curve_Width.f a0).bind fun t214 => ((clavigerref22_Width.f a0).bind fun t215 => (if t214 = t215 then ((curve_Arcs.f kj4 a0).bind fun t216 => ((clavigerref22_Arcs.f a0).bind fun t219 => ((clavigerplain_Ints.f kj4 t216 t219).bind fun t222 => (if t222 = true then ((curve_Order.f kj4 a0).bind fun t223 => ((clavigerref22_Order.f kj4 a0).bind fun t224 => (if t223.toList = t224.toList then (if t204 = bt206.1 then (if (t205 == bt206.2) = true then (if bt208.1 = bt210.1 then (if (bt208.2 == bt210.2) = true then ((curve_Scalar.f kj4 a0 a3).bind fun t225 => ((clavigerref22_Scalar.f kj4 a0 a3).bind fun t226 => (if (t225 == t226) = true then ((clavigerlaw22_awake.f kj4).bind fun t227 => (some t227)) else (some false)))) else (some false)) else (some false)) else (some false)) else (some false)) else (some false)))) else (some false))))) else (some false)))) else (some false))))))) = some r := H
        have A10 := Aside0.mk A100
        clear A100
        replace H := Option.bind_eq_some_iff.mp H
        obtain ⟨⟨t206, t207⟩, A110, H⟩ := H
        replace H : ((curve_Of.f a2).bind fun bt208 => ((clavigerref22_Of.f kj4 a2).bind fun bt210 => ((curve_Name.f a0).bind fun t212 => ((clavigerref22_Name.f a0).bind fun t213 => (if t212.toList = t213.toList then ((curve_Width.f a0).bind fun t214 => ((clavigerref22_Width.f a0).bind fun t215 => (if t214 = t215 then ((curve_Arcs.f kj4 a0).bind fun t216 => ((clavigerref22_Arcs.f a0).bind fun t219 => ((clavigerplain_Ints.f kj4 t216 t219).bind fun t222 => (if t222 = true then ((curve_Order.f kj4 a0).bind fun t223 => ((clavigerref22_Order.f kj4 a0).bind fun t224 => (if t223.toList = t224.toList then (if t204 = t206 then (if (t205 == t207) = true then (if bt208.1 = bt210.1 then (if (bt208.2 == bt210.2) = true then ((curve_Scalar.f kj4 a0 a3).bind fun t225 => ((clavigerref22_Scalar.f kj4 a0 a3).bind fun t226 => (if (t225 == t226) = true then ((clavigerlaw22_awake.f kj4).bind fun t227 => (some t227)) else (some false)))) else (some false)) else (some false)) else (some false)) else (some false)) else (some false)))) else (some false))))) else (some false)))) else (some false)))))) = some r := H
        have A11 := Aside0.mk A110
        clear A110
        replace H := Option.bind_eq_some_iff.mp H
        obtain ⟨⟨t208, t209⟩, A120, H⟩ := H
        replace H : ((clavigerref22_Of.f kj4 a2).bind fun bt210 => ((curve_Name.f a0).bind fun t212 => ((clavigerref22_Name.f a0).bind fun t213 => (if t212.toList = t213.toList then ((curve_Width.f a0).bind fun t214 => ((clavigerref22_Width.f a0).bind fun t215 => (if t214 = t215 then ((curve_Arcs.f kj4 a0).bind fun t216 => ((clavigerref22_Arcs.f a0).bind fun t219 => ((clavigerplain_Ints.f kj4 t216 t219).bind fun t222 => (if t222 = true then ((curve_Order.f kj4 a0).bind fun t223 => ((clavigerref22_Order.f kj4 a0).bind fun t224 => (if t223.toList = t224.toList then (if t204 = t206 then (if (t205 == t207) = true then (if t208 = bt210.1 then (if (t209 == bt210.2) = true then ((curve_Scalar.f kj4 a0 a3).bind fun t225 => ((clavigerref22_Scalar.f kj4 a0 a3).bind fun t226 => (if (t225 == t226) = true then ((clavigerlaw22_awake.f kj4).bind fun t227 => (some t227)) else (some false)))) else (some false)) else (some false)) else (some false)) else (some false)) else (some false)))) else (some false))))) else (some false)))) else (some false))))) = some r := H
        have A12 := Aside0.mk A120
        clear A120
        replace H := Option.bind_eq_some_iff.mp H
        obtain ⟨⟨t210, t211⟩, A130, H⟩ := H
        replace H : ((curve_Name.f a0).bind fun t212 => ((clavigerref22_Name.f a0).bind fun t213 => (if t212.toList = t213.toList then ((curve_Width.f a0).bind fun t214 => ((clavigerref22_Width.f a0).bind fun t215 => (if t214 = t215 then ((curve_Arcs.f kj4 a0).bind fun t216 => ((clavigerref22_Arcs.f a0).bind fun t219 => ((clavigerplain_Ints.f kj4 t216 t219).bind fun t222 => (if t222 = true then ((curve_Order.f kj4 a0).bind fun t223 => ((clavigerref22_Order.f kj4 a0).bind fun t224 => (if t223.toList = t224.toList then (if t204 = t206 then (if (t205 == t207) = true then (if t208 = t210 then (if (t209 == t211) = true then ((curve_Scalar.f kj4 a0 a3).bind fun t225 => ((clavigerref22_Scalar.f kj4 a0 a3).bind fun t226 => (if (t225 == t226) = true then ((clavigerlaw22_awake.f kj4).bind fun t227 => (some t227)) else (some false)))) else (some false)) else (some false)) else (some false)) else (some false)) else (some false)))) else (some false))))) else (some false)))) else (some false)))) = some r := H
        have A13 := Aside0.mk A130
        clear A130
        replace H := Option.bind_eq_some_iff.mp H
        obtain ⟨t212, A140, H⟩ := H
        replace H : ((clavigerref22_Name.f a0).bind fun t213 => (if t212.toList = t213.toList then ((curve_Width.f a0).bind fun t214 => ((clavigerref22_Width.f a0).bind fun t215 => (if t214 = t215 then ((curve_Arcs.f kj4 a0).bind fun t216 => ((clavigerref22_Arcs.f a0).bind fun t219 => ((clavigerplain_Ints.f kj4 t216 t219).bind fun t222 => (if t222 = true then ((curve_Order.f kj4 a0).bind fun t223 => ((clavigerref22_Order.f kj4 a0).bind fun t224 => (if t223.toList = t224.toList then (if t204 = t206 then (if (t205 == t207) = true then (if t208 = t210 then (if (t209 == t211) = true then ((curve_Scalar.f kj4 a0 a3).bind fun t225 => ((clavigerref22_Scalar.f kj4 a0 a3).bind fun t226 => (if (t225 == t226) = true then ((clavigerlaw22_awake.f kj4).bind fun t227 => (some t227)) else (some false)))) else (some false)) else (some false)) else (some false)) else (some false)) else (some false)))) else (some false))))) else (some false)))) else (some false))) = some r := H
        have A14 := Aside0.mk A140
        clear A140
        replace H := Option.bind_eq_some_iff.mp H
        obtain ⟨t213, A150, H⟩ := H
        replace H : (if t212.toList = t213.toList then ((curve_Width.f a0).bind fun t214 => ((clavigerref22_Width.f a0).bind fun t215 => (if t214 = t215 then ((curve_Arcs.f kj4 a0).bind fun t216 => ((clavigerref22_Arcs.f a0).bind fun t219 => ((clavigerplain_Ints.f kj4 t216 t219).bind fun t222 => (if t222 = true then ((curve_Order.f kj4 a0).bind fun t223 => ((clavigerref22_Order.f kj4 a0).bind fun t224 => (if t223.toList = t224.toList then (if t204 = t206 then (if (t205 == t207) = true then (if t208 = t210 then (if (t209 == t211) = true then ((curve_Scalar.f kj4 a0 a3).bind fun t225 => ((clavigerref22_Scalar.f kj4 a0 a3).bind fun t226 => (if (t225 == t226) = true then ((clavigerlaw22_awake.f kj4).bind fun t227 => (some t227)) else (some false)))) else (some false)) else (some false)) else (some false)) else (some false)) else (some false)))) else (some false))))) else (some false)))) else (some false)) = some r := H
        have A15 := Aside0.mk A150
        clear A150
        by_cases c16 : t212.toList = t213.toList
        · rw [if_pos c16] at H
          have c16b0 : (t212.toList == t213.toList) = true := beq_iff_eq.mpr c16
          have c16b1 : (t212.toList != t213.toList) = false := bne_eq_false_iff_eq.mpr c16
          clear c16
          replace H := Option.bind_eq_some_iff.mp H
          obtain ⟨t214, A170, H⟩ := H
          replace H : ((clavigerref22_Width.f a0).bind fun t215 => (if t214 = t215 then ((curve_Arcs.f kj4 a0).bind fun t216 => ((clavigerref22_Arcs.f a0).bind fun t219 => ((clavigerplain_Ints.f kj4 t216 t219).bind fun t222 => (if t222 = true then ((curve_Order.f kj4 a0).bind fun t223 => ((clavigerref22_Order.f kj4 a0).bind fun t224 => (if t223.toList = t224.toList then (if t204 = t206 then (if (t205 == t207) = true then (if t208 = t210 then (if (t209 == t211) = true then ((curve_Scalar.f kj4 a0 a3).bind fun t225 => ((clavigerref22_Scalar.f kj4 a0 a3).bind fun t226 => (if (t225 == t226) = true then ((clavigerlaw22_awake.f kj4).bind fun t227 => (some t227)) else (some false)))) else (some false)) else (some false)) else (some false)) else (some false)) else (some false)))) else (some false))))) else (some false))) = some r := H
          have A17 := Aside0.mk A170
          clear A170
          replace H := Option.bind_eq_some_iff.mp H
          obtain ⟨t215, A180, H⟩ := H
          replace H : (if t214 = t215 then ((curve_Arcs.f kj4 a0).bind fun t216 => ((clavigerref22_Arcs.f a0).bind fun t219 => ((clavigerplain_Ints.f kj4 t216 t219).bind fun t222 => (if t222 = true then ((curve_Order.f kj4 a0).bind fun t223 => ((clavigerref22_Order.f kj4 a0).bind fun t224 => (if t223.toList = t224.toList then (if t204 = t206 then (if (t205 == t207) = true then (if t208 = t210 then (if (t209 == t211) = true then ((curve_Scalar.f kj4 a0 a3).bind fun t225 => ((clavigerref22_Scalar.f kj4 a0 a3).bind fun t226 => (if (t225 == t226) = true then ((clavigerlaw22_awake.f kj4).bind fun t227 => (some t227)) else (some false)))) else (some false)) else (some false)) else (some false)) else (some false)) else (some false)))) else (some false))))) else (some false)) = some r := H
          have A18 := Aside0.mk A180
          clear A180
          by_cases c19 : t214 = t215
          · rw [if_pos c19] at H
            have c19b0 : (t214 == t215) = true := beq_iff_eq.mpr c19
            have c19b1 : (t214 != t215) = false := bne_eq_false_iff_eq.mpr c19
            clear c19
            replace H := Option.bind_eq_some_iff.mp H
            obtain ⟨t216, A200, H⟩ := H
            replace H : ((clavigerref22_Arcs.f a0).bind fun t219 => ((clavigerplain_Ints.f kj4 t216 t219).bind fun t222 => (if t222 = true then ((curve_Order.f kj4 a0).bind fun t223 => ((clavigerref22_Order.f kj4 a0).bind fun t224 => (if t223.toList = t224.toList then (if t204 = t206 then (if (t205 == t207) = true then (if t208 = t210 then (if (t209 == t211) = true then ((curve_Scalar.f kj4 a0 a3).bind fun t225 => ((clavigerref22_Scalar.f kj4 a0 a3).bind fun t226 => (if (t225 == t226) = true then ((clavigerlaw22_awake.f kj4).bind fun t227 => (some t227)) else (some false)))) else (some false)) else (some false)) else (some false)) else (some false)) else (some false)))) else (some false)))) = some r := H
            have A20 := Aside0.mk A200
            clear A200
            replace H := Option.bind_eq_some_iff.mp H
            obtain ⟨t219, A210, H⟩ := H
            replace H : ((clavigerplain_Ints.f kj4 t216 t219).bind fun t222 => (if t222 = true then ((curve_Order.f kj4 a0).bind fun t223 => ((clavigerref22_Order.f kj4 a0).bind fun t224 => (if t223.toList = t224.toList then (if t204 = t206 then (if (t205 == t207) = true then (if t208 = t210 then (if (t209 == t211) = true then ((curve_Scalar.f kj4 a0 a3).bind fun t225 => ((clavigerref22_Scalar.f kj4 a0 a3).bind fun t226 => (if (t225 == t226) = true then ((clavigerlaw22_awake.f kj4).bind fun t227 => (some t227)) else (some false)))) else (some false)) else (some false)) else (some false)) else (some false)) else (some false)))) else (some false))) = some r := H
            have A21 := Aside0.mk A210
            clear A210
            replace H := Option.bind_eq_some_iff.mp H
            obtain ⟨t222, A220, H⟩ := H
            replace H : (if t222 = true then ((curve_Order.f kj4 a0).bind fun t223 => ((clavigerref22_Order.f kj4 a0).bind fun t224 => (if t223.toList = t224.toList then (if t204 = t206 then (if (t205 == t207) = true then (if t208 = t210 then (if (t209 == t211) = true then ((curve_Scalar.f kj4 a0 a3).bind fun t225 => ((clavigerref22_Scalar.f kj4 a0 a3).bind fun t226 => (if (t225 == t226) = true then ((clavigerlaw22_awake.f kj4).bind fun t227 => (some t227)) else (some false)))) else (some false)) else (some false)) else (some false)) else (some false)) else (some false)))) else (some false)) = some r := H
            have A22 := Aside0.mk A220
            clear A220
            by_cases c23 : t222 = true
            · subst c23
              have H1 : ((curve_Order.f kj4 a0).bind fun t223 => ((clavigerref22_Order.f kj4 a0).bind fun t224 => (if t223.toList = t224.toList then (if t204 = t206 then (if (t205 == t207) = true then (if t208 = t210 then (if (t209 == t211) = true then ((curve_Scalar.f kj4 a0 a3).bind fun t225 => ((clavigerref22_Scalar.f kj4 a0 a3).bind fun t226 => (if (t225 == t226) = true then ((clavigerlaw22_awake.f kj4).bind fun t227 => (some t227)) else (some false)))) else (some false)) else (some false)) else (some false)) else (some false)) else (some false)))) = some r := by rw [if_pos rfl] at H; exact H
              clear H
              have H := H1
              clear H1
              replace H := Option.bind_eq_some_iff.mp H
              obtain ⟨t223, A240, H⟩ := H
              replace H : ((clavigerref22_Order.f kj4 a0).bind fun t224 => (if t223.toList = t224.toList then (if t204 = t206 then (if (t205 == t207) = true then (if t208 = t210 then (if (t209 == t211) = true then ((curve_Scalar.f kj4 a0 a3).bind fun t225 => ((clavigerref22_Scalar.f kj4 a0 a3).bind fun t226 => (if (t225 == t226) = true then ((clavigerlaw22_awake.f kj4).bind fun t227 => (some t227)) else (some false)))) else (some false)) else (some false)) else (some false)) else (some false)) else (some false))) = some r := H
              have A24 := Aside0.mk A240
              clear A240
              replace H := Option.bind_eq_some_iff.mp H
              obtain ⟨t224, A250, H⟩ := H
              replace H : (if t223.toList = t224.toList then (if t204 = t206 then (if (t205 == t207) = true then (if t208 = t210 then (if (t209 == t211) = true then ((curve_Scalar.f kj4 a0 a3).bind fun t225 => ((clavigerref22_Scalar.f kj4 a0 a3).bind fun t226 => (if (t225 == t226) = true then ((clavigerlaw22_awake.f kj4).bind fun t227 => (some t227)) else (some false)))) else (some false)) else (some false)) else (some false)) else (some false)) else (some false)) = some r := H
              have A25 := Aside0.mk A250
              clear A250
              by_cases c26 : t223.toList = t224.toList
              · rw [if_pos c26] at H
                have c26b0 : (t223.toList == t224.toList) = true := beq_iff_eq.mpr c26
                have c26b1 : (t223.toList != t224.toList) = false := bne_eq_false_iff_eq.mpr c26
                clear c26
                by_cases c27 : t204 = t206
                · rw [if_pos c27] at H
                  have c27b0 : (t204 == t206) = true := beq_iff_eq.mpr c27
                  have c27b1 : (t204 != t206) = false := bne_eq_false_iff_eq.mpr c27
                  clear c27
                  by_cases c28 : (t205 == t207) = true
                  · rw [if_pos c28] at H
                    have c28b0 : (t205 == t207) = true := c28
                    (try (have c28b1 : decide (t205 = t207) = true := by simpa using c28))
                    (try (have c28b2 : (t205 == t207) = true := by simpa using c28))
                    clear c28
                    by_cases c29 : t208 = t210
                    · rw [if_pos c29] at H
                      have c29b0 : (t208 == t210) = true := beq_iff_eq.mpr c29
                      have c29b1 : (t208 != t210) = false := bne_eq_false_iff_eq.mpr c29
                      clear c29
                      by_cases c30 : (t209 == t211) = true
                      · rw [if_pos c30] at H
                        have c30b0 : (t209 == t211) = true := c30
                        (try (have c30b1 : decide (t209 = t211) = true := by simpa using c30))
                        (try (have c30b2 : (t209 == t211) = true := by simpa using c30))
                        clear c30
                        replace H := Option.bind_eq_some_iff.mp H
                        obtain ⟨t225, A310, H⟩ := H
                        replace H : ((clavigerref22_Scalar.f kj4 a0 a3).bind fun t226 => (if (t225 == t226) = true then ((clavigerlaw22_awake.f kj4).bind fun t227 => (some t227)) else (some false))) = some r := H
                        have A31 := Aside0.mk A310
                        clear A310
                        replace H := Option.bind_eq_some_iff.mp H
                        obtain ⟨t226, A320, H⟩ := H
                        replace H : (if (t225 == t226) = true then ((clavigerlaw22_awake.f kj4).bind fun t227 => (some t227)) else (some false)) = some r := H
                        have A32 := Aside0.mk A320
                        clear A320
                        by_cases c33 : (t225 == t226) = true
                        · rw [if_pos c33] at H
                          have c33b0 : (t225 == t226) = true := c33
                          (try (have c33b1 : decide (t225 = t226) = true := by simpa using c33))
                          (try (have c33b2 : (t225 == t226) = true := by simpa using c33))
                          clear c33
                          replace H := Option.bind_eq_some_iff.mp H
                          obtain ⟨t227, A340, H⟩ := H
                          replace H : (some t227) = some r := H
                          have A34 := Aside0.mk A340
                          clear A340
                          obtain rfl := Option.some.inj H
                          go_wp2_with (first | ((with_reducible refine gate_callee (f := 5) rfl ?_); refine goesL_ (some 28) rfl rfl Tryz.func5 (by kernel_rfl) rfl #[.slice A1 l1.length c1] rfl (by (try simp only [List.map_toArray, List.map_cons, List.map_nil]); first | done | rfl | (simp only [List.length_drop, List.length_take]; rfl) | exact congrArg (fun z => #[Value.int .i64 z]) (w64 (by omega) (by omega)).symm) ?_; (with_reducible refine (curve_By.calls kj4 _ _ l1 t204 t205 _ ?side1 ?side2 ?tb_ A10.out).mono ?_); (case tb_ => exact ⟨TB.below HT_.out (by repeat (first | (with_reducible first | exact HB.out | apply below_alloc | apply pw_below_drewN | apply below_drew1) | exact HB.out | exact Below.refl _ _))⟩); (case side1 => repeat (first | exact (Kd.C_below HR1.out HB.out) | (with_reducible refine Kd.C_alloc ?_ _) | (with_reducible refine Kd.C_drewN ?_ _) | (with_reducible refine Kd.C_drew ?_))); (case side2 => exact HC1.out); rintro e w35 ⟨rfl, hb⟩; refine ⟨_, rfl, ?_⟩; have n0_ := Aside0.mk (below_step (by repeat (first | (with_reducible first | exact HB.out | apply below_alloc | apply pw_below_drewN | apply below_drew1) | exact HB.out)) hb); clear HB; have HB := n0_; clear n0_; (try clear hb); (try clear hb2); (try clear hk); (try clear hi)) | ((with_reducible refine gate_callee (f := 6) rfl ?_); refine goesL_ (some 33) rfl rfl Tryz.func6 (by kernel_rfl) rfl #[.slice A1 l1.length c1] rfl (by (try simp only [List.map_toArray, List.map_cons, List.map_nil]); first | done | rfl | (simp only [List.length_drop, List.length_take]; rfl) | exact congrArg (fun z => #[Value.int .i64 z]) (w64 (by omega) (by omega)).symm) ?_; (with_reducible refine (clavigerref22_By.calls kj4 _ _ l1 t206 t207 _ ?side1 ?side2 A11.out).mono ?_); (case side1 => repeat (first | exact (Kd.C_below HR1.out HB.out) | (with_reducible refine Kd.C_alloc ?_ _) | (with_reducible refine Kd.C_drewN ?_ _) | (with_reducible refine Kd.C_drew ?_))); (case side2 => exact HC1.out); rintro e w36 ⟨rfl, hb⟩; refine ⟨_, rfl, ?_⟩; have n0_ := Aside0.mk (below_step (by repeat (first | (with_reducible first | exact HB.out | apply below_alloc | apply pw_below_drewN | apply below_drew1) | exact HB.out)) hb); clear HB; have HB := n0_; clear n0_; (try clear hb); (try clear hb2); (try clear hk); (try clear hi)) | ((with_reducible refine gate_callee (f := 7) rfl ?_); refine goesL_ (some 38) rfl rfl Tryz.func7 (by kernel_rfl) rfl #[.int .i64 a2] rfl (by (try simp only [List.map_toArray, List.map_cons, List.map_nil]); first | done | rfl | (simp only [List.length_drop, List.length_take]; rfl) | exact congrArg (fun z => #[Value.int .i64 z]) (w64 (by omega) (by omega)).symm) ?_; (with_reducible refine (curve_Of.calls a2 t208 t209 _ A12.out).mono ?_); rintro e w37 ⟨rfl, hb⟩; refine ⟨_, rfl, ?_⟩; have n0_ := Aside0.mk (below_step (by repeat (first | (with_reducible first | exact HB.out | apply below_alloc | apply pw_below_drewN | apply below_drew1) | exact HB.out)) hb); clear HB; have HB := n0_; clear n0_; (try clear hb); (try clear hb2); (try clear hk); (try clear hi)) | ((with_reducible refine gate_callee (f := 8) rfl ?_); refine goesL_ (some 43) rfl rfl Tryz.func8 (by kernel_rfl) rfl #[.int .i64 a2] rfl (by (try simp only [List.map_toArray, List.map_cons, List.map_nil]); first | done | rfl | (simp only [List.length_drop, List.length_take]; rfl) | exact congrArg (fun z => #[Value.int .i64 z]) (w64 (by omega) (by omega)).symm) ?_; (with_reducible refine (clavigerref22_Of.calls kj4 a2 t210 t211 _ A13.out).mono ?_); rintro e w' ⟨rfl, ⟨nd, rfl⟩⟩; refine ⟨_, rfl, ?_⟩) | ((with_reducible refine gate_callee (f := 9) rfl ?_); refine goesL_ (some 47) rfl rfl Tryz.func9 (by kernel_rfl) rfl #[.int .i64 a0] rfl (by (try simp only [List.map_toArray, List.map_cons, List.map_nil]); first | done | rfl | (simp only [List.length_drop, List.length_take]; rfl) | exact congrArg (fun z => #[Value.int .i64 z]) (w64 (by omega) (by omega)).symm) ?_; (with_reducible refine (curve_Name.calls a0 t212 _ A14.out).mono ?_); rintro e w38 ⟨rfl, hb⟩; refine ⟨_, rfl, ?_⟩; have n0_ := Aside0.mk (below_step (by repeat (first | (with_reducible first | exact HB.out | apply below_alloc | apply pw_below_drewN | apply below_drew1) | exact HB.out)) hb); clear HB; have HB := n0_; clear n0_; (try clear hb); (try clear hb2); (try clear hk); (try clear hi)) | ((with_reducible refine gate_callee (f := 10) rfl ?_); refine goesL_ (some 49) rfl rfl Tryz.func10 (by kernel_rfl) rfl #[.int .i64 a0] rfl (by (try simp only [List.map_toArray, List.map_cons, List.map_nil]); first | done | rfl | (simp only [List.length_drop, List.length_take]; rfl) | exact congrArg (fun z => #[Value.int .i64 z]) (w64 (by omega) (by omega)).symm) ?_; (with_reducible refine (clavigerref22_Name.calls a0 t213 _ A15.out).mono ?_); rintro e w' ⟨rfl, ⟨nd, rfl⟩⟩; refine ⟨_, rfl, ?_⟩) | (go_at_call 11; (with_reducible refine (curve_Width.calls a0 t214 _ A17.out).mono ?_); rintro e w39 ⟨rfl, hb⟩; have n0_ := Aside0.mk (below_step (by repeat (first | (with_reducible first | exact HB.out | apply below_alloc | apply pw_below_drewN | apply below_drew1) | exact HB.out)) hb); clear HB; have HB := n0_; clear n0_; (try clear hb); (try clear hb2); (try clear hk); (try clear hi)) | (go_at_call 12; (with_reducible refine (clavigerref22_Width.calls a0 t215 _ A18.out).mono ?_); rintro e w' ⟨rfl, ⟨nd, rfl⟩⟩) | (go_at_call 14; (with_reducible refine (curve_Arcs.calls kj4 a0 t216 _ ?tb_ A20.out).mono ?_); (case tb_ => exact ⟨TB.below HT_.out (by repeat (first | (with_reducible first | exact HB.out | apply below_alloc | apply pw_below_drewN | apply below_drew1) | exact HB.out | exact Below.refl _ _))⟩); rintro e w40 ⟨v217, rfl, ho0, hb⟩; have n0_ := Aside0.mk (Kd.R_lower ho0 (below_size (by repeat (first | (with_reducible first | exact HB.out | apply below_alloc | apply pw_below_drewN | apply below_drew1) | exact HB.out)))); have n1_ := Aside0.mk (below_step (by repeat (first | (with_reducible first | exact HB.out | apply below_alloc | apply pw_below_drewN | apply below_drew1) | exact HB.out)) hb); clear HB; have HO218 := n0_; have HB := n1_; clear n0_ n1_; (try clear hb); (try clear hb2); (try clear hk); (try clear hi); (try clear ho0)) | (go_at_call 15; (with_reducible refine (clavigerref22_Arcs.calls a0 t219 _ A21.out).mono ?_); rintro e w41 ⟨v220, rfl, ho0, hb⟩; have n0_ := Aside0.mk (Kd.R_elder' (by (with_reducible repeat (first | apply Kd.R_alloc | apply Kd.R_drewN | apply Kd.R_drew)); exact HO218.out) (Kd.R_base ho0) hb); have n1_ := Aside0.mk (Kd.R_lower (Kd.R_new' ho0 (Kd.R_lt (by (with_reducible repeat (first | apply Kd.R_alloc | apply Kd.R_drewN | apply Kd.R_drew)); exact HO218.out))) (below_size (by repeat (first | (with_reducible first | exact HB.out | apply below_alloc | apply pw_below_drewN | apply below_drew1) | exact HB.out)))); have n2_ := Aside0.mk (below_step (by repeat (first | (with_reducible first | exact HB.out | apply below_alloc | apply pw_below_drewN | apply below_drew1) | exact HB.out)) hb); clear HO218; clear HB; have HO218 := n0_; have HO221 := n1_; have HB := n2_; clear n0_ n1_ n2_; (try clear hb); (try clear hb2); (try clear hk); (try clear hi); (try clear ho0); obtain ⟨Ao42, co42, eo42⟩ := Kd.R_slice HO218.out; subst eo42; obtain ⟨Ao43, co43, eo43⟩ := Kd.R_slice HO221.out; subst eo43) | (go_at_call 13; (with_reducible refine (clavigerplain_Ints.calls kj4 _ _ t216 _ _ t219 true _ ?side1 ?side2 ?side3 ?side4 A22.out).mono ?_); (case side1 => repeat (first | exact (Kd.R_reads' HO218.out).2.2 | (with_reducible refine Kd.C_alloc ?_ _) | (with_reducible refine Kd.C_drewN ?_ _) | (with_reducible refine Kd.C_drew ?_))); (case side2 => exact (Kd.R_reads' HO218.out).2.1); (case side3 => repeat (first | exact (Kd.R_reads' HO221.out).2.2 | (with_reducible refine Kd.C_alloc ?_ _) | (with_reducible refine Kd.C_drewN ?_ _) | (with_reducible refine Kd.C_drew ?_))); (case side4 => exact (Kd.R_reads' HO221.out).2.1); rintro e w' ⟨rfl, ⟨nd, rfl⟩⟩) | (go_at_call 16; (with_reducible refine (curve_Order.calls kj4 a0 t223 _ A24.out).mono ?_); rintro e w44 ⟨rfl, hb⟩; have n0_ := Aside0.mk (Kd.R_below (by (with_reducible repeat (first | apply Kd.R_alloc | apply Kd.R_drewN | apply Kd.R_drew)); exact HO218.out) hb); have n1_ := Aside0.mk (Kd.R_below (by (with_reducible repeat (first | apply Kd.R_alloc | apply Kd.R_drewN | apply Kd.R_drew)); exact HO221.out) hb); have n2_ := Aside0.mk (below_step (by repeat (first | (with_reducible first | exact HB.out | apply below_alloc | apply pw_below_drewN | apply below_drew1) | exact HB.out)) hb); clear HO218; clear HO221; clear HB; have HO218 := n0_; have HO221 := n1_; have HB := n2_; clear n0_ n1_ n2_; (try clear hb); (try clear hb2); (try clear hk); (try clear hi)) | (go_at_call 17; (with_reducible refine (clavigerref22_Order.calls kj4 a0 t224 _ A25.out).mono ?_); rintro e w45 ⟨rfl, hb⟩; have n0_ := Aside0.mk (Kd.R_below (by (with_reducible repeat (first | apply Kd.R_alloc | apply Kd.R_drewN | apply Kd.R_drew)); exact HO218.out) hb); have n1_ := Aside0.mk (Kd.R_below (by (with_reducible repeat (first | apply Kd.R_alloc | apply Kd.R_drewN | apply Kd.R_drew)); exact HO221.out) hb); have n2_ := Aside0.mk (below_step (by repeat (first | (with_reducible first | exact HB.out | apply below_alloc | apply pw_below_drewN | apply below_drew1) | exact HB.out)) hb); clear HO218; clear HO221; clear HB; have HO218 := n0_; have HO221 := n1_; have HB := n2_; clear n0_ n1_ n2_; (try clear hb); (try clear hb2); (try clear hk); (try clear hi)) | (go_at_call 18; (with_reducible refine (curve_Scalar.calls kj4 a0 a3 t225 _ A31.out).mono ?_); rintro e w46 ⟨rfl, hb⟩; have n0_ := Aside0.mk (Kd.R_below (by (with_reducible repeat (first | apply Kd.R_alloc | apply Kd.R_drewN | apply Kd.R_drew)); exact HO218.out) hb); have n1_ := Aside0.mk (Kd.R_below (by (with_reducible repeat (first | apply Kd.R_alloc | apply Kd.R_drewN | apply Kd.R_drew)); exact HO221.out) hb); have n2_ := Aside0.mk (below_step (by repeat (first | (with_reducible first | exact HB.out | apply below_alloc | apply pw_below_drewN | apply below_drew1) | exact HB.out)) hb); clear HO218; clear HO221; clear HB; have HO218 := n0_; have HO221 := n1_; have HB := n2_; clear n0_ n1_ n2_; (try clear hb); (try clear hb2); (try clear hk); (try clear hi)) | (go_at_call 19; (with_reducible refine (clavigerref22_Scalar.calls kj4 a0 a3 t226 _ A32.out).mono ?_); rintro e w47 ⟨rfl, hb⟩; have n0_ := Aside0.mk (Kd.R_below (by (with_reducible repeat (first | apply Kd.R_alloc | apply Kd.R_drewN | apply Kd.R_drew)); exact HO218.out) hb); have n1_ := Aside0.mk (Kd.R_below (by (with_reducible repeat (first | apply Kd.R_alloc | apply Kd.R_drewN | apply Kd.R_drew)); exact HO221.out) hb); have n2_ := Aside0.mk (below_step (by repeat (first | (with_reducible first | exact HB.out | apply below_alloc | apply pw_below_drewN | apply below_drew1) | exact HB.out)) hb); clear HO218; clear HO221; clear HB; have HO218 := n0_; have HO221 := n1_; have HB := n2_; clear n0_ n1_ n2_; (try clear hb); (try clear hb2); (try clear hk); (try clear hi)) | (go_at_call 4; (with_reducible refine (clavigerlaw22_awake.calls kj4  t227 _ ?tb_ A34.out).mono ?_); (case tb_ => exact ⟨TB.below HT_.out (by repeat (first | (with_reducible first | exact HB.out | apply below_alloc | apply pw_below_drewN | apply below_drew1) | exact HB.out | exact Below.refl _ _))⟩); rintro e w48 ⟨rfl, hb⟩; have n0_ := Aside0.mk (Kd.R_below (by (with_reducible repeat (first | apply Kd.R_alloc | apply Kd.R_drewN | apply Kd.R_drew)); exact HO218.out) hb); have n1_ := Aside0.mk (Kd.R_below (by (with_reducible repeat (first | apply Kd.R_alloc | apply Kd.R_drewN | apply Kd.R_drew)); exact HO221.out) hb); have n2_ := Aside0.mk (below_step (by repeat (first | (with_reducible first | exact HB.out | apply below_alloc | apply pw_below_drewN | apply below_drew1) | exact HB.out)) hb); clear HO218; clear HO221; clear HB; have HO218 := n0_; have HO221 := n1_; have HB := n2_; clear n0_ n1_ n2_; (try clear hb); (try clear hb2); (try clear hk); (try clear hi)))
                          go_ret
                          exact ⟨by first | rfl | (simp [errW_none, errW_some] <;> rfl) | (simp [*, errW_none, errW_some] <;> rfl), by repeat (first | (with_reducible first | exact HB.out | apply below_alloc | apply pw_below_drewN | apply below_drew1) | exact HB.out)⟩
                        · rw [if_neg c33] at H
                          have c33b0 : (t225 == t226) = false := by simpa using c33
                          (try (have c33b1 : decide (t225 = t226) = false := by simpa using c33))
                          (try (have c33b2 : (t225 == t226) = false := by simpa using c33))
                          (try (have c33b3 : ¬ (t225 = t226) := by simpa using c33))
                          clear c33
                          exact absurd ((Option.some.inj H).trans HR_.out) (by decide)
                      · rw [if_neg c30] at H
                        have c30b0 : (t209 == t211) = false := by simpa using c30
                        (try (have c30b1 : decide (t209 = t211) = false := by simpa using c30))
                        (try (have c30b2 : (t209 == t211) = false := by simpa using c30))
                        (try (have c30b3 : ¬ (t209 = t211) := by simpa using c30))
                        clear c30
                        exact absurd ((Option.some.inj H).trans HR_.out) (by decide)
                    · rw [if_neg c29] at H
                      have c29b0 : (t208 == t210) = false := beq_eq_false_iff_ne.mpr c29
                      have c29b1 : (t208 != t210) = true := bne_iff_ne.mpr c29
                      exact absurd ((Option.some.inj H).trans HR_.out) (by decide)
                  · rw [if_neg c28] at H
                    have c28b0 : (t205 == t207) = false := by simpa using c28
                    (try (have c28b1 : decide (t205 = t207) = false := by simpa using c28))
                    (try (have c28b2 : (t205 == t207) = false := by simpa using c28))
                    (try (have c28b3 : ¬ (t205 = t207) := by simpa using c28))
                    clear c28
                    exact absurd ((Option.some.inj H).trans HR_.out) (by decide)
                · rw [if_neg c27] at H
                  have c27b0 : (t204 == t206) = false := beq_eq_false_iff_ne.mpr c27
                  have c27b1 : (t204 != t206) = true := bne_iff_ne.mpr c27
                  exact absurd ((Option.some.inj H).trans HR_.out) (by decide)
              · rw [if_neg c26] at H
                have c26b0 : (t223.toList == t224.toList) = false := beq_eq_false_iff_ne.mpr c26
                have c26b1 : (t223.toList != t224.toList) = true := bne_iff_ne.mpr c26
                exact absurd ((Option.some.inj H).trans HR_.out) (by decide)
            · replace c23 := Bool.eq_false_iff.mpr c23
              subst c23
              have H1 : (some false) = some r := by rw [if_neg (show ¬ (false = true) by decide)] at H; exact H
              clear H
              have H := H1
              clear H1
              exact absurd ((Option.some.inj H).trans HR_.out) (by decide)
          · rw [if_neg c19] at H
            have c19b0 : (t214 == t215) = false := beq_eq_false_iff_ne.mpr c19
            have c19b1 : (t214 != t215) = true := bne_iff_ne.mpr c19
            exact absurd ((Option.some.inj H).trans HR_.out) (by decide)
        · rw [if_neg c16] at H
          have c16b0 : (t212.toList == t213.toList) = false := beq_eq_false_iff_ne.mpr c16
          have c16b1 : (t212.toList != t213.toList) = true := bne_iff_ne.mpr c16
          exact absurd ((Option.some.inj H).trans HR_.out) (by decide)

/-- THE ONE PURE STATEMENT of clavigerlaw22_CurveTells: yours. -/
def clavigerlaw22_CurveTells.Pure : Prop := ∀ (a0 : Int) (l1 : List Int) (a2 : Int) (a3 : ByteArray), (Lit.int .i64 a0).wf = true → l1.length ≤ maxLen → l1.length * 8 ≤ 140737488351232 → (∀ x ∈ l1, (Lit.int .i64 x).wf = true) → (Lit.int .i64 a2).wf = true → a3.size ≤ 140737488351232 → ∃ k, clavigerlaw22_CurveTells.f k a0 l1 a2 a3 = some true
theorem clavigerlaw22_CurveTells.walk (P : clavigerlaw22_CurveTells.Pure) (a0 : Int) (a1 : Option Addr) (len1 cap1 : Nat) (z1 : List Int) (a2 : Int) (a3 : ByteArray) (w : World) (w0 : (Lit.int .i64 a0).wf = true) (w1 : (a1 = none ∧ len1 = 0 ∧ cap1 = 0 ∧ z1 = []) ∨ ∃ x, a1 = some x ∧ len1 ≤ cap1 ∧ cap1 ≤ maxLen ∧ z1.length = cap1 ∧ (∀ i, i < z1.length → w.cell? (x.add i) = some (.int .i64 (z1.getD i 0))) ∧ ∀ n ∈ z1, (Lit.int .i64 n).wf = true) (y1 : len1 * 8 ≤ 140737488351232) (w2 : (Lit.int .i64 a2).wf = true) (w3 : a3.size ≤ 140737488351232) (HT_ : Aside0 (TB w)) :
    Calls Tryz.prog 3 #[.int .i64 a0, .slice a1 len1 cap1, .int .i64 a2, .string a3] w fun e w' => e = .returned (.bool true) ∧ Below w.heap.size w w' := by
  obtain ⟨l1, rfl, hr1, hm1, hw1, hc1⟩ := ReadsInt.ofRowC w1
  obtain ⟨k, h⟩ := P a0 l1 a2 a3 w0 hm1 y1 hw1 w2 w3
  refine (clavigerlaw22_CurveTells.calls k a0 _ _ l1 a2 a3 true w (Kd.C_of_reads (d := (0 : Int)) (h1 := fun _ => rfl) hr1) hc1 HT_ ⟨rfl⟩ h).mono ?_
  rintro e w' ⟨rfl, hd⟩
  exact ⟨rfl, hd⟩

end Go.Proofs.YtlmldmeclgfoeaaGreatDoor.PCurveTells
