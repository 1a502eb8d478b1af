-- laid by a program out of the translation and of templates; not trusted: Lean checks it
import Derived.Test.YtleimmhpcomapaaGreatDoorPKindTellsx0
import Derived.Test.YtleimmhpcomapaaGreatDoorPKindTellsx1
import Derived.Test.YtleimmhpcomapaaGreatDoorPKindTellsx3
import Derived.Test.YtleimmhpcomapaaGreatDoorPKindTellsx4
import Derived.Test.YtleimmhpcomapaaGreatDoorPKindTellsx6
import Derived.Test.YtleimmhpcomapaaGreatDoorPKindTellsx7
import Derived.Test.YtleimmhpcomapaaGreatDoorPKindTellsx8
import Derived.Test.YtleimmhpcomapaaGreatDoorPKindTellsx9
namespace Go.Proofs.YtleimmhpcomapaaGreatDoor.PKindTells
open Go.RowKit Go.Proofs.YtleimmhpcomapaaGreatDoorW.PrintWords Go.Proofs.YtleimmhpcomapaaGreatDoorW.PrintLast Go.Proofs.YtleimmhpcomapaaGreatDoorW.PrintMore
attribute [local go_sem high] c_add c_eql c_neq
attribute [local go_sem] str_leq str_gtr str_geq max2_int min2_int max_two min_two max_three min_three max_four min_four   -- for this text's walks alone
set_option linter.unusedVariables false
set_option linter.unusedSimpArgs false

/-! ### clavigerlaw23_KindTells: function 3 -/
mutual
def clavigerlaw23_KindTells.j0 : Nat → Int → List Int → Int → Int → ByteArray → Bool → Option (Bool)
  | 0, _, _, _, _, _, _ => none
  | k + 1, x0, x1, x2, x3, x4, x26 => if x26 = true then ((clavigerlaw23_awake.f k).bind fun t239 => (some t239)) else ((kind_By.f k x1 x2 x3).bind fun bt240 => ((clavigerref23_By.f k x1 x2 x3).bind fun bt242 => ((kind_Of.f x4 x3).bind fun bt244 => ((clavigerref23_Of.f k x4 x3).bind fun bt246 => (if bt240.1 = bt242.1 then (if (bt240.2 != bt242.2) = true then (clavigerlaw23_KindTells.j1 k x0 true) else (if bt244.1 = bt246.1 then (if (bt244.2 != bt246.2) = true then (clavigerlaw23_KindTells.j1 k x0 true) else ((kind_Most.f k x4).bind fun t248 => ((clavigerref23_Most.f k x4).bind fun t249 => (clavigerlaw23_KindTells.j1 k x0 (t248 != t249))))) else (clavigerlaw23_KindTells.j1 k x0 true))) else (clavigerlaw23_KindTells.j1 k x0 true))))))
def clavigerlaw23_KindTells.j1 : Nat → Int → Bool → Option (Bool)
  | 0, _, _ => none
  | k + 1, x0, x78 => if x78 = true then (some false) else ((kind_Name.f x0).bind fun t250 => ((clavigerref23_Name.f x0).bind fun t251 => (if t250.toList = t251.toList then ((kind_Size.f x0).bind fun t252 => ((clavigerref23_Size.f x0).bind fun t253 => (if t252 = t253 then ((kind_Letter.f x0).bind fun t254 => ((clavigerref23_Letter.f k x0).bind fun t255 => (if t254.toList = t255.toList then ((kind_Curve.f x0).bind fun t256 => ((clavigerref23_Curve.f x0).bind fun t257 => (if t256 = t257 then ((kind_Arcs.f k x0).bind fun t258 => ((clavigerref23_Arcs.f k x0).bind fun t261 => ((clavigerplain_Ints.f k t258 t261).bind fun t264 => (if t264 = true then ((clavigerlaw23_awake.f k).bind fun t265 => (some t265)) else (some false))))) else (some false)))) else (some false)))) else (some false)))) else (some false))))
end
def clavigerlaw23_KindTells.f (k : Nat) (a0 : Int) (l1 : List Int) (a2 : Int) (a3 : Int) (a4 : ByteArray) : Option (Bool) := if (l1.length : Int) > 60 then (clavigerlaw23_KindTells.j0 k a0 l1 a2 a3 a4 true) else (clavigerlaw23_KindTells.j0 k a0 l1 a2 a3 a4 (decide ((a4.size : Int) > 100)))
theorem clavigerlaw23_KindTells.mono_l : ∀ k, (∀ y0 y1 y2 y3 y4 y5, LeO (clavigerlaw23_KindTells.j0 k y0 y1 y2 y3 y4 y5) (clavigerlaw23_KindTells.j0 (k + 1) y0 y1 y2 y3 y4 y5)) ∧ (∀ y0 y1, LeO (clavigerlaw23_KindTells.j1 k y0 y1) (clavigerlaw23_KindTells.j1 (k + 1) y0 y1))
  | 0 => ⟨fun _ _ _ _ _ _ r h => by simp [clavigerlaw23_KindTells.j0] at h, fun _ _ r h => by simp [clavigerlaw23_KindTells.j1] at h⟩
  | k + 1 => by
    obtain ⟨ih0, ih1⟩ := clavigerlaw23_KindTells.mono_l k
    refine ⟨?_, ?_⟩
    · intro y0 y1 y2 y3 y4 y5
      unfold clavigerlaw23_KindTells.j0
      repeat' first
      | (with_reducible exact ih0 _ _ _ _ _ _)
      | (with_reducible exact ih1 _ _)
      | (with_reducible exact clavigerlaw23_awake.mono _)
      | (with_reducible exact clavigerplain_Ints.mono _ _ _)
      | (with_reducible exact clavigerref23_Arcs.mono _ _)
      | (with_reducible exact clavigerref23_By.mono _ _ _ _)
      | (with_reducible exact clavigerref23_Letter.mono _ _)
      | (with_reducible exact clavigerref23_Most.mono _ _)
      | (with_reducible exact clavigerref23_Of.mono _ _ _)
      | (with_reducible exact kind_Arcs.mono _ _)
      | (with_reducible exact kind_By.mono _ _ _ _)
      | (with_reducible exact kind_Most.mono _ _)
      | (with_reducible exact LeO.refl _)
      | (with_reducible exact LeO.none _)
      | (with_reducible refine LeO.ite ?_ ?_)
      | (with_reducible refine LeO.bind ?_ (fun _ => ?_))
      | exact ih0 _ _ _ _ _ _
      | exact ih1 _ _
      | exact clavigerlaw23_awake.mono _
      | exact clavigerplain_Ints.mono _ _ _
      | exact clavigerref23_Arcs.mono _ _
      | exact clavigerref23_By.mono _ _ _ _
      | exact clavigerref23_Letter.mono _ _
      | exact clavigerref23_Most.mono _ _
      | exact clavigerref23_Of.mono _ _ _
      | exact kind_Arcs.mono _ _
      | exact kind_By.mono _ _ _ _
      | exact kind_Most.mono _ _
      | exact LeO.none _
      | refine LeO.ite ?_ ?_
      | refine LeO.bind ?_ (fun _ => ?_)
    · intro y0 y1
      unfold clavigerlaw23_KindTells.j1
      repeat' first
      | (with_reducible exact ih0 _ _ _ _ _ _)
      | (with_reducible exact ih1 _ _)
      | (with_reducible exact clavigerlaw23_awake.mono _)
      | (with_reducible exact clavigerplain_Ints.mono _ _ _)
      | (with_reducible exact clavigerref23_Arcs.mono _ _)
      | (with_reducible exact clavigerref23_By.mono _ _ _ _)
      | (with_reducible exact clavigerref23_Letter.mono _ _)
      | (with_reducible exact clavigerref23_Most.mono _ _)
      | (with_reducible exact clavigerref23_Of.mono _ _ _)
      | (with_reducible exact kind_Arcs.mono _ _)
      | (with_reducible exact kind_By.mono _ _ _ _)
      | (with_reducible exact kind_Most.mono _ _)
      | (with_reducible exact LeO.refl _)
      | (with_reducible exact LeO.none _)
      | (with_reducible refine LeO.ite ?_ ?_)
      | (with_reducible refine LeO.bind ?_ (fun _ => ?_))
      | exact ih0 _ _ _ _ _ _
      | exact ih1 _ _
      | exact clavigerlaw23_awake.mono _
      | exact clavigerplain_Ints.mono _ _ _
      | exact clavigerref23_Arcs.mono _ _
      | exact clavigerref23_By.mono _ _ _ _
      | exact clavigerref23_Letter.mono _ _
      | exact clavigerref23_Most.mono _ _
      | exact clavigerref23_Of.mono _ _ _
      | exact kind_Arcs.mono _ _
      | exact kind_By.mono _ _ _ _
      | exact kind_Most.mono _ _
      | exact LeO.none _
      | refine LeO.ite ?_ ?_
      | refine LeO.bind ?_ (fun _ => ?_)
theorem clavigerlaw23_KindTells.mono : ∀ a0 a1 a2 a3 a4 k, LeO (clavigerlaw23_KindTells.f k a0 a1 a2 a3 a4) (clavigerlaw23_KindTells.f (k + 1) a0 a1 a2 a3 a4) := by
  intro a0 a1 a2 a3 a4 k
  obtain ⟨ih0, ih1⟩ := clavigerlaw23_KindTells.mono_l k
  unfold clavigerlaw23_KindTells.f
  repeat' first
      | (with_reducible exact ih0 _ _ _ _ _ _)
      | (with_reducible exact ih1 _ _)
      | (with_reducible exact clavigerlaw23_awake.mono _)
      | (with_reducible exact clavigerplain_Ints.mono _ _ _)
      | (with_reducible exact clavigerref23_Arcs.mono _ _)
      | (with_reducible exact clavigerref23_By.mono _ _ _ _)
      | (with_reducible exact clavigerref23_Letter.mono _ _)
      | (with_reducible exact clavigerref23_Most.mono _ _)
      | (with_reducible exact clavigerref23_Of.mono _ _ _)
      | (with_reducible exact kind_Arcs.mono _ _)
      | (with_reducible exact kind_By.mono _ _ _ _)
      | (with_reducible exact kind_Most.mono _ _)
      | (with_reducible exact LeO.refl _)
      | (with_reducible exact LeO.none _)
      | (with_reducible refine LeO.ite ?_ ?_)
      | (with_reducible refine LeO.bind ?_ (fun _ => ?_))
      | exact ih0 _ _ _ _ _ _
      | exact ih1 _ _
      | exact clavigerlaw23_awake.mono _
      | exact clavigerplain_Ints.mono _ _ _
      | exact clavigerref23_Arcs.mono _ _
      | exact clavigerref23_By.mono _ _ _ _
      | exact clavigerref23_Letter.mono _ _
      | exact clavigerref23_Most.mono _ _
      | exact clavigerref23_Of.mono _ _ _
      | exact kind_Arcs.mono _ _
      | exact kind_By.mono _ _ _ _
      | exact kind_Most.mono _ _
      | exact LeO.none _
      | refine LeO.ite ?_ ?_
      | refine LeO.bind ?_ (fun _ => ?_)
set_option maxHeartbeats 8000000 in
set_option maxRecDepth 100000 in
theorem clavigerlaw23_KindTells.calls (k : Nat) (a0 : Int) (A1 : Option Addr) (c1 : Nat) (l1 : List Int) (a2 : Int) (a3 : Int) (a4 : ByteArray) (r : Bool) (w : World) (hr1 : Kd.C (Kd.int .i64) w A1 l1.length l1) (hc1 : l1.length ≤ c1) (HT_ : Aside0 (TB w)) (HR_ : Aside0 (r = true)) (h : clavigerlaw23_KindTells.f k a0 l1 a2 a3 a4 = some r) :
    Calls Tryz.prog 3 #[.int .i64 a0, .slice A1 l1.length c1, .int .i64 a2, .int .i64 a3, .string a4] w fun e w' => e = .returned (.bool r) ∧ Below w.heap.size w w' := by
  have HR1 := Aside0.mk hr1
  have HC1 := Aside0.mk hc1
  clear hr1 hc1
  have HB := Aside0.mk (Below.refl w.heap.size w)
  have H : (if (l1.length : Int) > 60 then (clavigerlaw23_KindTells.j0 k a0 l1 a2 a3 a4 true) else (clavigerlaw23_KindTells.j0 k a0 l1 a2 a3 a4 (decide ((a4.size : Int) > 100)))) = some r := h
  clear h
  have HC6 := Aside0.mk H
  clear H
  go_enter Tryz.func3, Tryz.ntmps3
  go_upto_region 1 with (fail)
  go_cut [26] (fun v26 wc => ∃ (kq : Nat) (x26_5 : Bool), v26 = .bool x26_5 ∧ Aside0 (clavigerlaw23_KindTells.j0 kq a0 l1 a2 a3 a4 x26_5 = some r) ∧ Aside0 (kq ≤ k) ∧ Aside0 (Below w.heap.size w wc))
  case first =>
    have H := HC6.out
    clear HC6
    by_cases c7 : (l1.length : Int) > 60
    · rw [if_pos c7] at H
      have c7b0 : decide (60 < (l1.length : Int)) = true := decide_eq_true c7
      have c7b1 : decide (60 < l1.length) = true := decide_eq_true (by omega)
      clear c7
      (first | rw [c7b0] | (simp only [i64_w, i32_w]; rw [c7b0]) | skip)
      have H' := Aside0.mk H
      clear H
      go_wp2
      go_meet
      case rel => exact ⟨_, (true), (by first | rfl | (simp; done) | (simp [*]; done)), H', ⟨by first | omega | exact Nat.le_refl _⟩, ⟨by repeat (first | (with_reducible first | exact HB.out | apply below_alloc | apply pw_below_drewN | apply below_drew1) | exact HB.out)⟩⟩
    · rw [if_neg c7] at H
      have c7b0 : decide (60 < (l1.length : Int)) = false := decide_eq_false c7
      have c7b1 : decide (60 < l1.length) = false := decide_eq_false (by omega)
      clear c7
      (first | rw [c7b0] | (simp only [i64_w, i32_w]; rw [c7b0]) | skip)
      have H' := Aside0.mk H
      clear H
      go_wp2
      go_meet
      case rel => exact ⟨_, (decide ((a4.size : Int) > 100)), (by first | rfl | (simp; done) | (simp [*]; done)), H', ⟨by first | omega | exact Nat.le_refl _⟩, ⟨by repeat (first | (with_reducible first | exact HB.out | apply below_alloc | apply pw_below_drewN | apply below_drew1) | exact HB.out)⟩⟩
  case rest =>
    clear HC6
    try clear c1
    try clear p2
    try clear c3
    try clear c7
    try clear c7b0
    try clear c7b1
    obtain ⟨kq, x26_5, rfl, HA, HJ5, HB⟩ := hcut
    cases kq with
    | zero => exact absurd HA.out (by simp [clavigerlaw23_KindTells.j0])
    | succ kj5 =>
      have H := HA.out
      clear HA
      simp only [clavigerlaw23_KindTells.j0] at H
      by_cases c8 : x26_5 = true
      · subst c8
        have H1 : ((clavigerlaw23_awake.f kj5).bind fun t239 => (some t239)) = some r := by rw [if_pos rfl] at H; exact H
        clear H
        have H := H1
        clear H1
        replace H := Option.bind_eq_some_iff.mp H
        obtain ⟨t239, A90, H⟩ := H
        replace H : (some t239) = some r := H
        have A9 := Aside0.mk A90
        clear A90
        obtain rfl := Option.some.inj H
        go_wp2_with (first | ((with_reducible refine gate_callee (f := 4) rfl ?_); refine goesL_ (some 27) rfl rfl Tryz.func4 (by kernel_rfl) rfl #[] rfl (by (try simp only [List.map_toArray, List.map_cons, List.map_nil]); first | done | rfl | (simp only [List.length_drop, List.length_take]; rfl) | exact congrArg (fun z => #[Value.int .i64 z]) (w64 (by omega) (by omega)).symm) ?_; (with_reducible refine (clavigerlaw23_awake.calls kj5  t239 _ A9.out).mono ?_); rintro e w10 ⟨rfl, hb⟩; refine ⟨_, rfl, ?_⟩; have n0_ := Aside0.mk (below_step (by repeat (first | (with_reducible first | exact HB.out | apply below_alloc | apply pw_below_drewN | apply below_drew1) | exact HB.out)) hb); clear HB; have HB := n0_; clear n0_; (try clear hb); (try clear hb2); (try clear hk); (try clear hi)))
        go_ret
        exact ⟨by first | rfl | (simp [errW_none, errW_some] <;> rfl) | (simp [*, errW_none, errW_some] <;> rfl), by repeat (first | (with_reducible first | exact HB.out | apply below_alloc | apply pw_below_drewN | apply below_drew1) | exact HB.out)⟩
      · replace c8 := Bool.eq_false_iff.mpr c8
        subst c8
        have H1 : ((kind_By.f kj5 l1 a2 a3).bind fun bt240 => ((clavigerref23_By.f kj5 l1 a2 a3).bind fun bt242 => ((kind_Of.f a4 a3).bind fun bt244 => ((clavigerref23_Of.f kj5 a4 a3).bind fun bt246 => (if bt240.1 = bt242.1 then (if (bt240.2 != bt242.2) = true then (clavigerlaw23_KindTells.j1 kj5 a0 true) else (if bt244.1 = bt246.1 then (if (bt244.2 != bt246.2) = true then (clavigerlaw23_KindTells.j1 kj5 a0 true) else ((kind_Most.f kj5 a4).bind fun t248 => ((clavigerref23_Most.f kj5 a4).bind fun t249 => (clavigerlaw23_KindTells.j1 kj5 a0 (t248 != t249))))) else (clavigerlaw23_KindTells.j1 kj5 a0 true))) else (clavigerlaw23_KindTells.j1 kj5 a0 true)))))) = some r := by rw [if_neg (show ¬ (false = true) by decide)] at H; exact H
        clear H
        have H := H1
        clear H1
        replace H := Option.bind_eq_some_iff.mp H
        obtain ⟨⟨t240, t241⟩, A110, H⟩ := H
        replace H : ((clavigerref23_By.f kj5 l1 a2 a3).bind fun bt242 => ((kind_Of.f a4 a3).bind fun bt244 => ((clavigerref23_Of.f kj5 a4 a3).bind fun bt246 => (if t240 = bt242.1 then (if (t241 != bt242.2) = true then (clavigerlaw23_KindTells.j1 kj5 a0 true) else (if bt244.1 = bt246.1 then (if (bt244.2 != bt246.2) = true then (clavigerlaw23_KindTells.j1 kj5 a0 true) else ((kind_Most.f kj5 a4).bind fun t248 => ((clavigerref23_Most.f kj5 a4).bind fun t249 => (clavigerlaw23_KindTells.j1 kj5 a0 (t248 != t249))))) else (clavigerlaw23_KindTells.j1 kj5 a0 true))) else (clavigerlaw23_KindTells.j1 kj5 a0 true))))) = some r := H
        have A11 := Aside0.mk A110
        clear A110
        replace H := Option.bind_eq_some_iff.mp H
        obtain ⟨⟨t242, t243⟩, A120, H⟩ := H
        replace H : ((kind_Of.f a4 a3).bind fun bt244 => ((clavigerref23_Of.f kj5 a4 a3).bind fun bt246 => (if t240 = t242 then (if (t241 != t243) = true then (clavigerlaw23_KindTells.j1 kj5 a0 true) else (if bt244.1 = bt246.1 then (if (bt244.2 != bt246.2) = true then (clavigerlaw23_KindTells.j1 kj5 a0 true) else ((kind_Most.f kj5 a4).bind fun t248 => ((clavigerref23_Most.f kj5 a4).bind fun t249 => (clavigerlaw23_KindTells.j1 kj5 a0 (t248 != t249))))) else (clavigerlaw23_KindTells.j1 kj5 a0 true))) else (clavigerlaw23_KindTells.j1 kj5 a0 true)))) = some r := H
        have A12 := Aside0.mk A120
        clear A120
        replace H := Option.bind_eq_some_iff.mp H
        obtain ⟨⟨t244, t245⟩, A130, H⟩ := H
        replace H : ((clavigerref23_Of.f kj5 a4 a3).bind fun bt246 => (if t240 = t242 then (if (t241 != t243) = true then (clavigerlaw23_KindTells.j1 kj5 a0 true) else (if t244 = bt246.1 then (if (t245 != bt246.2) = true then (clavigerlaw23_KindTells.j1 kj5 a0 true) else ((kind_Most.f kj5 a4).bind fun t248 => ((clavigerref23_Most.f kj5 a4).bind fun t249 => (clavigerlaw23_KindTells.j1 kj5 a0 (t248 != t249))))) else (clavigerlaw23_KindTells.j1 kj5 a0 true))) else (clavigerlaw23_KindTells.j1 kj5 a0 true))) = some r := H
        have A13 := Aside0.mk A130
        clear A130
        replace H := Option.bind_eq_some_iff.mp H
        obtain ⟨⟨t246, t247⟩, A140, H⟩ := H
        replace H : (if t240 = t242 then (if (t241 != t243) = true then (clavigerlaw23_KindTells.j1 kj5 a0 true) else (if t244 = t246 then (if (t245 != t247) = true then (clavigerlaw23_KindTells.j1 kj5 a0 true) else ((kind_Most.f kj5 a4).bind fun t248 => ((clavigerref23_Most.f kj5 a4).bind fun t249 => (clavigerlaw23_KindTells.j1 kj5 a0 (t248 != t249))))) else (clavigerlaw23_KindTells.j1 kj5 a0 true))) else (clavigerlaw23_KindTells.j1 kj5 a0 true)) = some r := H
        have A14 := Aside0.mk A140
        clear A140
        have HC15 := Aside0.mk H
        clear H
        go_upto_region 7 with (first | ((with_reducible refine gate_callee (f := 5) rfl ?_); refine goesL_ (some 32) rfl rfl Tryz.func5 (by kernel_rfl) rfl #[.slice A1 l1.length c1, .int .i64 a2, .int .i64 a3] rfl (by (try simp only [List.map_toArray, List.map_cons, List.map_nil]); first | done | rfl | (simp only [List.length_drop, List.length_take]; rfl) | exact congrArg (fun z => #[Value.int .i64 z]) (w64 (by omega) (by omega)).symm) ?_; (with_reducible refine (kind_By.calls kj5 _ _ l1 a2 a3 t240 t241 _ ?side1 ?side2 ?tb_ A11.out).mono ?_); (case tb_ => exact ⟨TB.below HT_.out (by repeat (first | (with_reducible first | exact HB.out | apply below_alloc | apply pw_below_drewN | apply below_drew1) | exact HB.out | exact Below.refl _ _))⟩); (case side1 => repeat (first | exact (Kd.C_below HR1.out HB.out) | (with_reducible refine Kd.C_alloc ?_ _) | (with_reducible refine Kd.C_drewN ?_ _) | (with_reducible refine Kd.C_drew ?_))); (case side2 => exact HC1.out); rintro e w16 ⟨rfl, hb⟩; refine ⟨_, rfl, ?_⟩; have n0_ := Aside0.mk (below_step (by repeat (first | (with_reducible first | exact HB.out | apply below_alloc | apply pw_below_drewN | apply below_drew1) | exact HB.out)) hb); clear HB; have HB := n0_; clear n0_; (try clear hb); (try clear hb2); (try clear hk); (try clear hi)) | ((with_reducible refine gate_callee (f := 6) rfl ?_); refine goesL_ (some 39) rfl rfl Tryz.func6 (by kernel_rfl) rfl #[.slice A1 l1.length c1, .int .i64 a2, .int .i64 a3] rfl (by (try simp only [List.map_toArray, List.map_cons, List.map_nil]); first | done | rfl | (simp only [List.length_drop, List.length_take]; rfl) | exact congrArg (fun z => #[Value.int .i64 z]) (w64 (by omega) (by omega)).symm) ?_; (with_reducible refine (clavigerref23_By.calls kj5 _ _ l1 a2 a3 t242 t243 _ ?side1 ?side2 A12.out).mono ?_); (case side1 => repeat (first | exact (Kd.C_below HR1.out HB.out) | (with_reducible refine Kd.C_alloc ?_ _) | (with_reducible refine Kd.C_drewN ?_ _) | (with_reducible refine Kd.C_drew ?_))); (case side2 => exact HC1.out); rintro e w' ⟨rfl, ⟨nd, rfl⟩⟩; refine ⟨_, rfl, ?_⟩) | ((with_reducible refine gate_callee (f := 7) rfl ?_); refine goesL_ (some 45) rfl rfl Tryz.func7 (by kernel_rfl) rfl #[.string a4, .int .i64 a3] rfl (by (try simp only [List.map_toArray, List.map_cons, List.map_nil]); first | done | rfl | (simp only [List.length_drop, List.length_take]; rfl) | exact congrArg (fun z => #[Value.int .i64 z]) (w64 (by omega) (by omega)).symm) ?_; (with_reducible refine (kind_Of.calls a4 a3 t244 t245 _ A13.out).mono ?_); rintro e w17 ⟨rfl, hb⟩; refine ⟨_, rfl, ?_⟩; have n0_ := Aside0.mk (below_step (by repeat (first | (with_reducible first | exact HB.out | apply below_alloc | apply pw_below_drewN | apply below_drew1) | exact HB.out)) hb); clear HB; have HB := n0_; clear n0_; (try clear hb); (try clear hb2); (try clear hk); (try clear hi)) | ((with_reducible refine gate_callee (f := 8) rfl ?_); refine goesL_ (some 51) rfl rfl Tryz.func8 (by kernel_rfl) rfl #[.string a4, .int .i64 a3] rfl (by (try simp only [List.map_toArray, List.map_cons, List.map_nil]); first | done | rfl | (simp only [List.length_drop, List.length_take]; rfl) | exact congrArg (fun z => #[Value.int .i64 z]) (w64 (by omega) (by omega)).symm) ?_; (with_reducible refine (clavigerref23_Of.calls kj5 a4 a3 t246 t247 _ A14.out).mono ?_); rintro e w' ⟨rfl, ⟨nd, rfl⟩⟩; refine ⟨_, rfl, ?_⟩))
        (try simp only [Act.put, List.setIfInBounds_toArray, List.set_cons_zero, List.set_cons_succ])
        go_cut [78] (fun v78 wc => ∃ (kq : Nat) (x78_14 : Bool), v78 = .bool x78_14 ∧ Aside0 (clavigerlaw23_KindTells.j1 kq a0 x78_14 = some r) ∧ Aside0 (kq ≤ kj5) ∧ Aside0 (Below w.heap.size w wc))
        case first =>
          have H := HC15.out
          clear HC15
          by_cases c18 : t240 = t242
          · rw [if_pos c18] at H
            have c18b0 : (t240 == t242) = true := beq_iff_eq.mpr c18
            have c18b1 : (t240 != t242) = false := bne_eq_false_iff_eq.mpr c18
            clear c18
            (first | rw [c18b0] | (simp only [i64_w, i32_w]; rw [c18b0]) | skip)
            by_cases c19 : (t241 != t243) = true
            · rw [if_pos c19] at H
              have c19b0 : (t241 != t243) = true := c19
              (try (have c19b1 : decide (t241 = t243) = false := by simpa using c19))
              (try (have c19b2 : (t241 == t243) = false := by simpa using c19))
              (try (have c19b3 : ¬ (t241 = t243) := by simpa using c19))
              clear c19
              have H' := Aside0.mk H
              clear H
              go_wp2
              go_meet
              case rel => exact ⟨_, (true), (by first | rfl | (simp; done) | (simp [*]; done)), H', ⟨by have := HJ5.out; first | omega | exact Nat.le_refl _⟩, ⟨by repeat (first | (with_reducible first | exact HB.out | apply below_alloc | apply pw_below_drewN | apply below_drew1) | exact HB.out)⟩⟩
            · rw [if_neg c19] at H
              have c19b0 : (t241 != t243) = false := by simpa using c19
              (try (have c19b1 : decide (t241 = t243) = true := by simpa using c19))
              (try (have c19b2 : (t241 == t243) = true := by simpa using c19))
              clear c19
              by_cases c20 : t244 = t246
              · rw [if_pos c20] at H
                have c20b0 : (t244 == t246) = true := beq_iff_eq.mpr c20
                have c20b1 : (t244 != t246) = false := bne_eq_false_iff_eq.mpr c20
                clear c20
                by_cases c21 : (t245 != t247) = true
                · rw [if_pos c21] at H
                  have c21b0 : (t245 != t247) = true := c21
                  (try (have c21b1 : decide (t245 = t247) = false := by simpa using c21))
                  (try (have c21b2 : (t245 == t247) = false := by simpa using c21))
                  (try (have c21b3 : ¬ (t245 = t247) := by simpa using c21))
                  clear c21
                  have H' := Aside0.mk H
                  clear H
                  go_wp2
                  go_meet
                  case rel => exact ⟨_, (true), (by first | rfl | (simp; done) | (simp [*]; done)), H', ⟨by have := HJ5.out; first | omega | exact Nat.le_refl _⟩, ⟨by repeat (first | (with_reducible first | exact HB.out | apply below_alloc | apply pw_below_drewN | apply below_drew1) | exact HB.out)⟩⟩
                · rw [if_neg c21] at H
                  have c21b0 : (t245 != t247) = false := by simpa using c21
                  (try (have c21b1 : decide (t245 = t247) = true := by simpa using c21))
                  (try (have c21b2 : (t245 == t247) = true := by simpa using c21))
                  clear c21
                  replace H := Option.bind_eq_some_iff.mp H
                  obtain ⟨t248, A220, H⟩ := H
                  replace H : ((clavigerref23_Most.f kj5 a4).bind fun t249 => (clavigerlaw23_KindTells.j1 kj5 a0 (t248 != t249))) = some r := H
                  have A22 := Aside0.mk A220
                  clear A220
                  replace H := Option.bind_eq_some_iff.mp H
                  obtain ⟨t249, A230, H⟩ := H
                  replace H : (clavigerlaw23_KindTells.j1 kj5 a0 (t248 != t249)) = some r := H
                  have A23 := Aside0.mk A230
                  clear A230
                  have H' := Aside0.mk H
                  clear H
                  go_wp2_with (first | (go_at_call 9; (with_reducible refine (kind_Most.calls kj5 a4 t248 _ A22.out).mono ?_); rintro e w24 ⟨rfl, hb⟩; have n0_ := Aside0.mk (below_step (by repeat (first | (with_reducible first | exact HB.out | apply below_alloc | apply pw_below_drewN | apply below_drew1) | exact HB.out)) hb); clear HB; have HB := n0_; clear n0_; (try clear hb); (try clear hb2); (try clear hk); (try clear hi)) | (go_at_call 10; (with_reducible refine (clavigerref23_Most.calls kj5 a4 t249 _ A23.out).mono ?_); rintro e w' ⟨rfl, ⟨nd, rfl⟩⟩))
                  go_meet
                  case rel => exact ⟨_, ((t248 != t249)), (by first | rfl | (simp; done) | (simp [*]; done)), H', ⟨by have := HJ5.out; first | omega | exact Nat.le_refl _⟩, ⟨by repeat (first | (with_reducible first | exact HB.out | apply below_alloc | apply pw_below_drewN | apply below_drew1) | exact HB.out)⟩⟩
              · rw [if_neg c20] at H
                have c20b0 : (t244 == t246) = false := beq_eq_false_iff_ne.mpr c20
                have c20b1 : (t244 != t246) = true := bne_iff_ne.mpr c20
                have H' := Aside0.mk H
                clear H
                go_wp2
                go_meet
                case rel => exact ⟨_, (true), (by first | rfl | (simp; done) | (simp [*]; done)), H', ⟨by have := HJ5.out; first | omega | exact Nat.le_refl _⟩, ⟨by repeat (first | (with_reducible first | exact HB.out | apply below_alloc | apply pw_below_drewN | apply below_drew1) | exact HB.out)⟩⟩
          · rw [if_neg c18] at H
            have c18b0 : (t240 == t242) = false := beq_eq_false_iff_ne.mpr c18
            have c18b1 : (t240 != t242) = true := bne_iff_ne.mpr c18
            (first | rw [c18b0] | (simp only [i64_w, i32_w]; rw [c18b0]) | skip)
            have H' := Aside0.mk H
            clear H
            go_wp2
            go_meet
            case rel => exact ⟨_, (true), (by first | rfl | (simp; done) | (simp [*]; done)), H', ⟨by have := HJ5.out; first | omega | exact Nat.le_refl _⟩, ⟨by repeat (first | (with_reducible first | exact HB.out | apply below_alloc | apply pw_below_drewN | apply below_drew1) | exact HB.out)⟩⟩
        case rest =>
          clear HC15
          try clear c1
          try clear c2
          try clear p2
          try clear c3
          try clear c4
          try clear c5
          try clear c6
          try clear c7
          try clear c7b0
          try clear c7b1
          try clear c8
          try clear c18
          try clear c18b0
          try clear c18b1
          try clear c19
          try clear c19b0
          try clear c19b1
          try clear c19b2
          try clear c20
          try clear c20b0
          try clear c20b1
          try clear c21
          try clear c21b0
          try clear c21b1
          try clear c21b2
          try clear p2
          obtain ⟨kq, x78_14, rfl, HA, HJ14, HB⟩ := hcut
          cases kq with
          | zero => exact absurd HA.out (by simp [clavigerlaw23_KindTells.j1])
          | succ kj14 =>
            have H := HA.out
            clear HA
            simp only [clavigerlaw23_KindTells.j1] at H
            by_cases c25 : x78_14 = true
            · subst c25
              have H1 : (some false) = some r := by rw [if_pos rfl] at H; exact H
              clear H
              have H := H1
              clear H1
              exact absurd ((Option.some.inj H).trans HR_.out) (by decide)
            · replace c25 := Bool.eq_false_iff.mpr c25
              subst c25
              have H1 : ((kind_Name.f a0).bind fun t250 => ((clavigerref23_Name.f a0).bind fun t251 => (if t250.toList = t251.toList then ((kind_Size.f a0).bind fun t252 => ((clavigerref23_Size.f a0).bind fun t253 => (if t252 = t253 then ((kind_Letter.f a0).bind fun t254 => ((clavigerref23_Letter.f kj14 a0).bind fun t255 => (if t254.toList = t255.toList then ((kind_Curve.f a0).bind fun t256 => ((clavigerref23_Curve.f a0).bind fun t257 => (if t256 = t257 then ((kind_Arcs.f kj14 a0).bind fun t258 => ((clavigerref23_Arcs.f kj14 a0).bind fun t261 => ((clavigerplain_Ints.f kj14 t258 t261).bind fun t264 => (if t264 = true then ((clavigerlaw23_awake.f kj14).bind fun t265 => (some t265)) else (some false))))) else (some false)))) else (some false)))) else (some false)))) else (some false)))) = some r := by rw [if_neg (show ¬ (false = true) by decide)] at H; exact H
              clear H
              have H := H1
              clear H1
              replace H := Option.bind_eq_some_iff.mp H
              obtain ⟨t250, A260, H⟩ := H
              replace H : ((clavigerref23_Name.f a0).bind fun t251 => (if t250.toList = t251.toList then ((kind_Size.f a0).bind fun t252 => ((clavigerref23_Size.f a0).bind fun t253 => (if t252 = t253 then ((kind_Letter.f a0).bind fun t254 => ((clavigerref23_Letter.f kj14 a0).bind fun t255 => (if t254.toList = t255.toList then ((kind_Curve.f a0).bind fun t256 => ((clavigerref23_Curve.f a0).bind fun t257 => (if t256 = t257 then ((kind_Arcs.f kj14 a0).bind fun t258 => ((clavigerref23_Arcs.f kj14 a0).bind fun t261 => ((clavigerplain_Ints.f kj14 t258 t261).bind fun t264 => (if t264 = true then ((clavigerlaw23_awake.f kj14).bind fun t265 => (some t265)) else (some false))))) else (some false)))) else (some false)))) else (some false)))) else (some false))) = some r := H
              have A26 := Aside0.mk A260
              clear A260
              replace H := Option.bind_eq_some_iff.mp H
              obtain ⟨t251, A270, H⟩ := H
              replace H : (if t250.toList = t251.toList then ((kind_Size.f a0).bind fun t252 => ((clavigerref23_Size.f a0).bind fun t253 => (if t252 = t253 then ((kind_Letter.f a0).bind fun t254 => ((clavigerref23_Letter.f kj14 a0).bind fun t255 => (if t254.toList = t255.toList then ((kind_Curve.f a0).bind fun t256 => ((clavigerref23_Curve.f a0).bind fun t257 => (if t256 = t257 then ((kind_Arcs.f kj14 a0).bind fun t258 => ((clavigerref23_Arcs.f kj14 a0).bind fun t261 => ((clavigerplain_Ints.f kj14 t258 t261).bind fun t264 => (if t264 = true then ((clavigerlaw23_awake.f kj14).bind fun t265 => (some t265)) else (some false))))) else (some false)))) else (some false)))) else (some false)))) else (some false)) = some r := H
              have A27 := Aside0.mk A270
              clear A270
              by_cases c28 : t250.toList = t251.toList
              · rw [if_pos c28] at H
                have c28b0 : (t250.toList == t251.toList) = true := beq_iff_eq.mpr c28
                have c28b1 : (t250.toList != t251.toList) = false := bne_eq_false_iff_eq.mpr c28
                clear c28
                replace H := Option.bind_eq_some_iff.mp H
                obtain ⟨t252, A290, H⟩ := H
                replace H : ((clavigerref23_Size.f a0).bind fun t253 => (if t252 = t253 then ((kind_Letter.f a0).bind fun t254 => ((clavigerref23_Letter.f kj14 a0).bind fun t255 => (if t254.toList = t255.toList then ((kind_Curve.f a0).bind fun t256 => ((clavigerref23_Curve.f a0).bind fun t257 => (if t256 = t257 then ((kind_Arcs.f kj14 a0).bind fun t258 => ((clavigerref23_Arcs.f kj14 a0).bind fun t261 => ((clavigerplain_Ints.f kj14 t258 t261).bind fun t264 => (if t264 = true then ((clavigerlaw23_awake.f kj14).bind fun t265 => (some t265)) else (some false))))) else (some false)))) else (some false)))) else (some false))) = some r := H
                have A29 := Aside0.mk A290
                clear A290
                replace H := Option.bind_eq_some_iff.mp H
                obtain ⟨t253, A300, H⟩ := H
                replace H : (if t252 = t253 then ((kind_Letter.f a0).bind fun t254 => ((clavigerref23_Letter.f kj14 a0).bind fun t255 => (if t254.toList = t255.toList then ((kind_Curve.f a0).bind fun t256 => ((clavigerref23_Curve.f a0).bind fun t257 => (if t256 = t257 then ((kind_Arcs.f kj14 a0).bind fun t258 => ((clavigerref23_Arcs.f kj14 a0).bind fun t261 => ((clavigerplain_Ints.f kj14 t258 t261).bind fun t264 => (if t264 = true then ((clavigerlaw23_awake.f kj14).bind fun t265 => (some t265)) else (some false))))) else (some false)))) else (some false)))) else (some false)) = some r := H
                have A30 := Aside0.mk A300
                clear A300
                by_cases c31 : t252 = t253
                · rw [if_pos c31] at H
                  have c31b0 : (t252 == t253) = true := beq_iff_eq.mpr c31
                  have c31b1 : (t252 != t253) = false := bne_eq_false_iff_eq.mpr c31
                  clear c31
                  replace H := Option.bind_eq_some_iff.mp H
                  obtain ⟨t254, A320, H⟩ := H
                  replace H : ((clavigerref23_Letter.f kj14 a0).bind fun t255 => (if t254.toList = t255.toList then ((kind_Curve.f a0).bind fun t256 => ((clavigerref23_Curve.f a0).bind fun t257 => (if t256 = t257 then ((kind_Arcs.f kj14 a0).bind fun t258 => ((clavigerref23_Arcs.f kj14 a0).bind fun t261 => ((clavigerplain_Ints.f kj14 t258 t261).bind fun t264 => (if t264 = true then ((clavigerlaw23_awake.f kj14).bind fun t265 => (some t265)) else (some false))))) else (some false)))) else (some false))) = some r := H
                  have A32 := Aside0.mk A320
                  clear A320
                  replace H := Option.bind_eq_some_iff.mp H
                  obtain ⟨t255, A330, H⟩ := H
                  replace H : (if t254.toList = t255.toList then ((kind_Curve.f a0).bind fun t256 => ((clavigerref23_Curve.f a0).bind fun t257 => (if t256 = t257 then ((kind_Arcs.f kj14 a0).bind fun t258 => ((clavigerref23_Arcs.f kj14 a0).bind fun t261 => ((clavigerplain_Ints.f kj14 t258 t261).bind fun t264 => (if t264 = true then ((clavigerlaw23_awake.f kj14).bind fun t265 => (some t265)) else (some false))))) else (some false)))) else (some false)) = some r := H
                  have A33 := Aside0.mk A330
                  clear A330
                  by_cases c34 : t254.toList = t255.toList
                  · rw [if_pos c34] at H
                    have c34b0 : (t254.toList == t255.toList) = true := beq_iff_eq.mpr c34
                    have c34b1 : (t254.toList != t255.toList) = false := bne_eq_false_iff_eq.mpr c34
                    clear c34
                    replace H := Option.bind_eq_some_iff.mp H
                    obtain ⟨t256, A350, H⟩ := H
                    replace H : ((clavigerref23_Curve.f a0).bind fun t257 => (if t256 = t257 then ((kind_Arcs.f kj14 a0).bind fun t258 => ((clavigerref23_Arcs.f kj14 a0).bind fun t261 => ((clavigerplain_Ints.f kj14 t258 t261).bind fun t264 => (if t264 = true then ((clavigerlaw23_awake.f kj14).bind fun t265 => (some t265)) else (some false))))) else (some false))) = some r := H
                    have A35 := Aside0.mk A350
                    clear A350
                    replace H := Option.bind_eq_some_iff.mp H
                    obtain ⟨t257, A360, H⟩ := H
                    replace H : (if t256 = t257 then ((kind_Arcs.f kj14 a0).bind fun t258 => ((clavigerref23_Arcs.f kj14 a0).bind fun t261 => ((clavigerplain_Ints.f kj14 t258 t261).bind fun t264 => (if t264 = true then ((clavigerlaw23_awake.f kj14).bind fun t265 => (some t265)) else (some false))))) else (some false)) = some r := H
                    have A36 := Aside0.mk A360
                    clear A360
                    by_cases c37 : t256 = t257
                    · rw [if_pos c37] at H
                      have c37b0 : (t256 == t257) = true := beq_iff_eq.mpr c37
                      have c37b1 : (t256 != t257) = false := bne_eq_false_iff_eq.mpr c37
                      clear c37
                      replace H := Option.bind_eq_some_iff.mp H
                      obtain ⟨t258, A380, H⟩ := H
                      replace H : ((clavigerref23_Arcs.f kj14 a0).bind fun t261 => ((clavigerplain_Ints.f kj14 t258 t261).bind fun t264 => (if t264 = true then ((clavigerlaw23_awake.f kj14).bind fun t265 => (some t265)) else (some false)))) = some r := H
                      have A38 := Aside0.mk A380
                      clear A380
                      replace H := Option.bind_eq_some_iff.mp H
                      obtain ⟨t261, A390, H⟩ := H
                      replace H : ((clavigerplain_Ints.f kj14 t258 t261).bind fun t264 => (if t264 = true then ((clavigerlaw23_awake.f kj14).bind fun t265 => (some t265)) else (some false))) = some r := H
                      have A39 := Aside0.mk A390
                      clear A390
                      replace H := Option.bind_eq_some_iff.mp H
                      obtain ⟨t264, A400, H⟩ := H
                      replace H : (if t264 = true then ((clavigerlaw23_awake.f kj14).bind fun t265 => (some t265)) else (some false)) = some r := H
                      have A40 := Aside0.mk A400
                      clear A400
                      by_cases c41 : t264 = true
                      · subst c41
                        have H1 : ((clavigerlaw23_awake.f kj14).bind fun t265 => (some t265)) = some r := by rw [if_pos rfl] at H; exact H
                        clear H
                        have H := H1
                        clear H1
                        replace H := Option.bind_eq_some_iff.mp H
                        obtain ⟨t265, A420, H⟩ := H
                        replace H : (some t265) = some r := H
                        have A42 := Aside0.mk A420
                        clear A420
                        obtain rfl := Option.some.inj H
                        go_wp2_with (first | ((with_reducible refine gate_callee (f := 11) rfl ?_); refine goesL_ (some 80) rfl rfl Tryz.func11 (by kernel_rfl) rfl #[.int .i64 a0] rfl (by (try simp only [List.map_toArray, List.map_cons, List.map_nil]); first | done | rfl | (simp only [List.length_drop, List.length_take]; rfl) | exact congrArg (fun z => #[Value.int .i64 z]) (w64 (by omega) (by omega)).symm) ?_; (with_reducible refine (kind_Name.calls a0 t250 _ A26.out).mono ?_); rintro e w43 ⟨rfl, hb⟩; refine ⟨_, rfl, ?_⟩; have n0_ := Aside0.mk (below_step (by repeat (first | (with_reducible first | exact HB.out | apply below_alloc | apply pw_below_drewN | apply below_drew1) | exact HB.out)) hb); clear HB; have HB := n0_; clear n0_; (try clear hb); (try clear hb2); (try clear hk); (try clear hi)) | ((with_reducible refine gate_callee (f := 12) rfl ?_); refine goesL_ (some 82) rfl rfl Tryz.func12 (by kernel_rfl) rfl #[.int .i64 a0] rfl (by (try simp only [List.map_toArray, List.map_cons, List.map_nil]); first | done | rfl | (simp only [List.length_drop, List.length_take]; rfl) | exact congrArg (fun z => #[Value.int .i64 z]) (w64 (by omega) (by omega)).symm) ?_; (with_reducible refine (clavigerref23_Name.calls a0 t251 _ A27.out).mono ?_); rintro e w' ⟨rfl, ⟨nd, rfl⟩⟩; refine ⟨_, rfl, ?_⟩) | (go_at_call 13; (with_reducible refine (kind_Size.calls a0 t252 _ A29.out).mono ?_); rintro e w44 ⟨rfl, hb⟩; have n0_ := Aside0.mk (below_step (by repeat (first | (with_reducible first | exact HB.out | apply below_alloc | apply pw_below_drewN | apply below_drew1) | exact HB.out)) hb); clear HB; have HB := n0_; clear n0_; (try clear hb); (try clear hb2); (try clear hk); (try clear hi)) | (go_at_call 14; (with_reducible refine (clavigerref23_Size.calls a0 t253 _ A30.out).mono ?_); rintro e w' ⟨rfl, ⟨nd, rfl⟩⟩) | (go_at_call 15; (with_reducible refine (kind_Letter.calls a0 t254 _ A32.out).mono ?_); rintro e w45 ⟨rfl, hb⟩; have n0_ := Aside0.mk (below_step (by repeat (first | (with_reducible first | exact HB.out | apply below_alloc | apply pw_below_drewN | apply below_drew1) | exact HB.out)) hb); clear HB; have HB := n0_; clear n0_; (try clear hb); (try clear hb2); (try clear hk); (try clear hi)) | (go_at_call 16; (with_reducible refine (clavigerref23_Letter.calls kj14 a0 t255 _ A33.out).mono ?_); rintro e w' ⟨rfl, ⟨nd, rfl⟩⟩) | (go_at_call 17; (with_reducible refine (kind_Curve.calls a0 t256 _ A35.out).mono ?_); rintro e w46 ⟨rfl, hb⟩; have n0_ := Aside0.mk (below_step (by repeat (first | (with_reducible first | exact HB.out | apply below_alloc | apply pw_below_drewN | apply below_drew1) | exact HB.out)) hb); clear HB; have HB := n0_; clear n0_; (try clear hb); (try clear hb2); (try clear hk); (try clear hi)) | (go_at_call 18; (with_reducible refine (clavigerref23_Curve.calls a0 t257 _ A36.out).mono ?_); rintro e w' ⟨rfl, ⟨nd, rfl⟩⟩) | (go_at_call 20; (with_reducible refine (kind_Arcs.calls kj14 a0 t258 _ ?tb_ A38.out).mono ?_); (case tb_ => exact ⟨TB.below HT_.out (by repeat (first | (with_reducible first | exact HB.out | apply below_alloc | apply pw_below_drewN | apply below_drew1) | exact HB.out | exact Below.refl _ _))⟩); rintro e w47 ⟨v259, rfl, ho0, hb⟩; have n0_ := Aside0.mk (Kd.R_lower ho0 (below_size (by repeat (first | (with_reducible first | exact HB.out | apply below_alloc | apply pw_below_drewN | apply below_drew1) | exact HB.out)))); have n1_ := Aside0.mk (below_step (by repeat (first | (with_reducible first | exact HB.out | apply below_alloc | apply pw_below_drewN | apply below_drew1) | exact HB.out)) hb); clear HB; have HO260 := n0_; have HB := n1_; clear n0_ n1_; (try clear hb); (try clear hb2); (try clear hk); (try clear hi); (try clear ho0)) | (go_at_call 21; (with_reducible refine (clavigerref23_Arcs.calls kj14 a0 t261 _ A39.out).mono ?_); rintro e w48 ⟨v262, rfl, ho0, hb⟩; have n0_ := Aside0.mk (Kd.R_elder' (by (with_reducible repeat (first | apply Kd.R_alloc | apply Kd.R_drewN | apply Kd.R_drew)); exact HO260.out) (Kd.R_base ho0) hb); have n1_ := Aside0.mk (Kd.R_lower (Kd.R_new' ho0 (Kd.R_lt (by (with_reducible repeat (first | apply Kd.R_alloc | apply Kd.R_drewN | apply Kd.R_drew)); exact HO260.out))) (below_size (by repeat (first | (with_reducible first | exact HB.out | apply below_alloc | apply pw_below_drewN | apply below_drew1) | exact HB.out)))); have n2_ := Aside0.mk (below_step (by repeat (first | (with_reducible first | exact HB.out | apply below_alloc | apply pw_below_drewN | apply below_drew1) | exact HB.out)) hb); clear HO260; clear HB; have HO260 := n0_; have HO263 := n1_; have HB := n2_; clear n0_ n1_ n2_; (try clear hb); (try clear hb2); (try clear hk); (try clear hi); (try clear ho0); obtain ⟨Ao49, co49, eo49⟩ := Kd.R_slice HO260.out; subst eo49; obtain ⟨Ao50, co50, eo50⟩ := Kd.R_slice HO263.out; subst eo50) | (go_at_call 19; (with_reducible refine (clavigerplain_Ints.calls kj14 _ _ t258 _ _ t261 true _ ?side1 ?side2 ?side3 ?side4 A40.out).mono ?_); (case side1 => repeat (first | exact (Kd.R_reads' HO260.out).2.2 | (with_reducible refine Kd.C_alloc ?_ _) | (with_reducible refine Kd.C_drewN ?_ _) | (with_reducible refine Kd.C_drew ?_))); (case side2 => exact (Kd.R_reads' HO260.out).2.1); (case side3 => repeat (first | exact (Kd.R_reads' HO263.out).2.2 | (with_reducible refine Kd.C_alloc ?_ _) | (with_reducible refine Kd.C_drewN ?_ _) | (with_reducible refine Kd.C_drew ?_))); (case side4 => exact (Kd.R_reads' HO263.out).2.1); rintro e w' ⟨rfl, ⟨nd, rfl⟩⟩) | (go_at_call 4; (with_reducible refine (clavigerlaw23_awake.calls kj14  t265 _ A42.out).mono ?_); rintro e w51 ⟨rfl, hb⟩; have n0_ := Aside0.mk (Kd.R_below (by (with_reducible repeat (first | apply Kd.R_alloc | apply Kd.R_drewN | apply Kd.R_drew)); exact HO260.out) hb); have n1_ := Aside0.mk (Kd.R_below (by (with_reducible repeat (first | apply Kd.R_alloc | apply Kd.R_drewN | apply Kd.R_drew)); exact HO263.out) hb); have n2_ := Aside0.mk (below_step (by repeat (first | (with_reducible first | exact HB.out | apply below_alloc | apply pw_below_drewN | apply below_drew1) | exact HB.out)) hb); clear HO260; clear HO263; clear HB; have HO260 := n0_; have HO263 := n1_; have HB := n2_; clear n0_ n1_ n2_; (try clear hb); (try clear hb2); (try clear hk); (try clear hi)))
                        go_ret
                        exact ⟨by first | rfl | (simp [errW_none, errW_some] <;> rfl) | (simp [*, errW_none, errW_some] <;> rfl), by repeat (first | (with_reducible first | exact HB.out | apply below_alloc | apply pw_below_drewN | apply below_drew1) | exact HB.out)⟩
                      · replace c41 := Bool.eq_false_iff.mpr c41
                        subst c41
                        have H1 : (some false) = some r := by rw [if_neg (show ¬ (false = true) by decide)] at H; exact H
                        clear H
                        have H := H1
                        clear H1
                        exact absurd ((Option.some.inj H).trans HR_.out) (by decide)
                    · rw [if_neg c37] at H
                      have c37b0 : (t256 == t257) = false := beq_eq_false_iff_ne.mpr c37
                      have c37b1 : (t256 != t257) = true := bne_iff_ne.mpr c37
                      exact absurd ((Option.some.inj H).trans HR_.out) (by decide)
                  · rw [if_neg c34] at H
                    have c34b0 : (t254.toList == t255.toList) = false := beq_eq_false_iff_ne.mpr c34
                    have c34b1 : (t254.toList != t255.toList) = true := bne_iff_ne.mpr c34
                    exact absurd ((Option.some.inj H).trans HR_.out) (by decide)
                · rw [if_neg c31] at H
                  have c31b0 : (t252 == t253) = false := beq_eq_false_iff_ne.mpr c31
                  have c31b1 : (t252 != t253) = true := bne_iff_ne.mpr c31
                  exact absurd ((Option.some.inj H).trans HR_.out) (by decide)
              · rw [if_neg c28] at H
                have c28b0 : (t250.toList == t251.toList) = false := beq_eq_false_iff_ne.mpr c28
                have c28b1 : (t250.toList != t251.toList) = true := bne_iff_ne.mpr c28
                exact absurd ((Option.some.inj H).trans HR_.out) (by decide)

/-- THE ONE PURE STATEMENT of clavigerlaw23_KindTells: yours. -/
def clavigerlaw23_KindTells.Pure : Prop := ∀ (a0 : Int) (l1 : List Int) (a2 : Int) (a3 : Int) (a4 : ByteArray), (Lit.int .i64 a0).wf = true → l1.length ≤ maxLen → l1.length * 8 ≤ 140737488351232 → (∀ x ∈ l1, (Lit.int .i64 x).wf = true) → (Lit.int .i64 a2).wf = true → (Lit.int .i64 a3).wf = true → a4.size ≤ 140737488351232 → ∃ k, clavigerlaw23_KindTells.f k a0 l1 a2 a3 a4 = some true
theorem clavigerlaw23_KindTells.walk (P : clavigerlaw23_KindTells.Pure) (a0 : Int) (a1 : Option Addr) (len1 cap1 : Nat) (z1 : List Int) (a2 : Int) (a3 : Int) (a4 : ByteArray) (w : World) (w0 : (Lit.int .i64 a0).wf = true) (w1 : (a1 = none ∧ len1 = 0 ∧ cap1 = 0 ∧ z1 = []) ∨ ∃ x, a1 = some x ∧ len1 ≤ cap1 ∧ cap1 ≤ maxLen ∧ z1.length = cap1 ∧ (∀ i, i < z1.length → w.cell? (x.add i) = some (.int .i64 (z1.getD i 0))) ∧ ∀ n ∈ z1, (Lit.int .i64 n).wf = true) (y1 : len1 * 8 ≤ 140737488351232) (w2 : (Lit.int .i64 a2).wf = true) (w3 : (Lit.int .i64 a3).wf = true) (w4 : a4.size ≤ 140737488351232) (HT_ : Aside0 (TB w)) :
    Calls Tryz.prog 3 #[.int .i64 a0, .slice a1 len1 cap1, .int .i64 a2, .int .i64 a3, .string a4] w fun e w' => e = .returned (.bool true) ∧ Below w.heap.size w w' := by
  obtain ⟨l1, rfl, hr1, hm1, hw1, hc1⟩ := ReadsInt.ofRowC w1
  obtain ⟨k, h⟩ := P a0 l1 a2 a3 a4 w0 hm1 y1 hw1 w2 w3 w4
  refine (clavigerlaw23_KindTells.calls k a0 _ _ l1 a2 a3 a4 true w (Kd.C_of_reads (d := (0 : Int)) (h1 := fun _ => rfl) hr1) hc1 HT_ ⟨rfl⟩ h).mono ?_
  rintro e w' ⟨rfl, hd⟩
  exact ⟨rfl, hd⟩

end Go.Proofs.YtleimmhpcomapaaGreatDoor.PKindTells
