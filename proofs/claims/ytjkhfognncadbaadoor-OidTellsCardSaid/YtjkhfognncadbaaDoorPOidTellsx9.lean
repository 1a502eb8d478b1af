-- laid by a program out of the translation and of templates; not trusted: Lean checks it
import Derived.Test.YtjkhfognncadbaaDoorPOidTellsx0
import Derived.Test.YtjkhfognncadbaaDoorPOidTellsx1
import Derived.Test.YtjkhfognncadbaaDoorPOidTellsx2
import Derived.Test.YtjkhfognncadbaaDoorPOidTellsx3
import Derived.Test.YtjkhfognncadbaaDoorPOidTellsx4
import Derived.Test.YtjkhfognncadbaaDoorPOidTellsx5
import Derived.Test.YtjkhfognncadbaaDoorPOidTellsx6
import Derived.Test.YtjkhfognncadbaaDoorPOidTellsx8
namespace Go.Proofs.YtjkhfognncadbaaDoor.POidTells
open Go.RowKit Go.Proofs.YtjkhfognncadbaaDoorW.PrintWords Go.Proofs.YtjkhfognncadbaaDoorW.PrintLast Go.Proofs.YtjkhfognncadbaaDoorW.PrintMore
attribute [local go_sem high] c_add c_eql c_neq
attribute [local go_sem] str_leq str_gtr str_geq max2_int min2_int max_two min_two max_three min_three max_four min_four   -- for this text's walks alone
set_option linter.unusedVariables false
set_option linter.unusedSimpArgs false

/-! ### clavigerlaw17_OidTells: function 3 -/
mutual
def clavigerlaw17_OidTells.j0 : Nat → List Int → List Int → ByteArray → ByteArray → Bool → Option (Bool)
  | 0, _, _, _, _, _ => none
  | k + 1, x0, x1, x2, x3, x38 => if x38 = true then ((clavigerlaw17_awake.f k).bind fun t219 => (some t219)) else ((oid_Encode.f k x0).bind fun bt220 => ((clavigerref17_Encode.f k x0).bind fun bt222 => ((oid_Decode.f k x2).bind fun bt224 => ((clavigerref17_Decode.f k x2).bind fun bt228 => ((oid_Right.f k x0).bind fun t232 => ((clavigerref17_Right.f k x0).bind fun t233 => (if (t232 != t233) = true then (clavigerlaw17_OidTells.j1 k x0 x3 true) else (if bt220.1.toList = bt222.1.toList then (if (bt220.2 != bt222.2) = true then (clavigerlaw17_OidTells.j1 k x0 x3 true) else ((slices_Equal_int_int.f k bt224.1 bt228.1).bind fun t234 => (if t234 = true then (if (bt224.2 != bt228.2) = true then (clavigerlaw17_OidTells.j1 k x0 x3 true) else ((oid_Under.f k x0 x1).bind fun t235 => ((clavigerref17_Under.f k x0 x1).bind fun t236 => (clavigerlaw17_OidTells.j1 k x0 x3 (t235 != t236))))) else (clavigerlaw17_OidTells.j1 k x0 x3 true)))) else (clavigerlaw17_OidTells.j1 k x0 x3 true)))))))))
def clavigerlaw17_OidTells.j1 : Nat → List Int → ByteArray → Bool → Option (Bool)
  | 0, _, _, _ => none
  | k + 1, x0, x3, x94 => if x94 = true then (some false) else ((oid_Parse.f k x3).bind fun bt237 => ((clavigerref17_Parse.f k x3).bind fun bt241 => ((slices_Equal_int_int.f k bt237.1 bt241.1).bind fun t245 => (if t245 = true then (if (bt237.2 == bt241.2) = true then ((oid_Text.f k x0).bind fun t246 => ((clavigerref17_Text.f k x0).bind fun t247 => (if t246.toList = t247.toList then ((clavigerlaw17_awake.f k).bind fun t248 => (some t248)) else (some false)))) else (some false)) else (some false)))))
end
def clavigerlaw17_OidTells.f (k : Nat) (l0 : List Int) (l1 : List Int) (a2 : ByteArray) (a3 : ByteArray) : Option (Bool) := if (l0.length : Int) > 60 then (clavigerlaw17_OidTells.j0 k l0 l1 a2 a3 true) else (if (l1.length : Int) > 60 then (clavigerlaw17_OidTells.j0 k l0 l1 a2 a3 true) else (if (a2.size : Int) > 200 then (clavigerlaw17_OidTells.j0 k l0 l1 a2 a3 true) else (clavigerlaw17_OidTells.j0 k l0 l1 a2 a3 (decide ((a3.size : Int) > 200)))))
theorem clavigerlaw17_OidTells.mono_l : ∀ k, (∀ y0 y1 y2 y3 y4, LeO (clavigerlaw17_OidTells.j0 k y0 y1 y2 y3 y4) (clavigerlaw17_OidTells.j0 (k + 1) y0 y1 y2 y3 y4)) ∧ (∀ y0 y1 y2, LeO (clavigerlaw17_OidTells.j1 k y0 y1 y2) (clavigerlaw17_OidTells.j1 (k + 1) y0 y1 y2))
  | 0 => ⟨fun _ _ _ _ _ r h => by simp [clavigerlaw17_OidTells.j0] at h, fun _ _ _ r h => by simp [clavigerlaw17_OidTells.j1] at h⟩
  | k + 1 => by
    obtain ⟨ih0, ih1⟩ := clavigerlaw17_OidTells.mono_l k
    refine ⟨?_, ?_⟩
    · intro y0 y1 y2 y3 y4
      unfold clavigerlaw17_OidTells.j0
      repeat' first
      | (with_reducible exact ih0 _ _ _ _ _)
      | (with_reducible exact ih1 _ _ _)
      | (with_reducible exact clavigerlaw17_awake.mono _)
      | (with_reducible exact clavigerref17_Decode.mono _ _)
      | (with_reducible exact clavigerref17_Encode.mono _ _)
      | (with_reducible exact clavigerref17_Parse.mono _ _)
      | (with_reducible exact clavigerref17_Right.mono _ _)
      | (with_reducible exact clavigerref17_Text.mono _ _)
      | (with_reducible exact clavigerref17_Under.mono _ _ _)
      | (with_reducible exact oid_Decode.mono _ _)
      | (with_reducible exact oid_Encode.mono _ _)
      | (with_reducible exact oid_Parse.mono _ _)
      | (with_reducible exact oid_Right.mono _ _)
      | (with_reducible exact oid_Text.mono _ _)
      | (with_reducible exact oid_Under.mono _ _ _)
      | (with_reducible exact slices_Equal_int_int.mono _ _ _)
      | (with_reducible exact LeO.refl _)
      | (with_reducible exact LeO.none _)
      | (with_reducible refine LeO.ite ?_ ?_)
      | (with_reducible refine LeO.bind ?_ (fun _ => ?_))
      | exact ih0 _ _ _ _ _
      | exact ih1 _ _ _
      | exact clavigerlaw17_awake.mono _
      | exact clavigerref17_Decode.mono _ _
      | exact clavigerref17_Encode.mono _ _
      | exact clavigerref17_Parse.mono _ _
      | exact clavigerref17_Right.mono _ _
      | exact clavigerref17_Text.mono _ _
      | exact clavigerref17_Under.mono _ _ _
      | exact oid_Decode.mono _ _
      | exact oid_Encode.mono _ _
      | exact oid_Parse.mono _ _
      | exact oid_Right.mono _ _
      | exact oid_Text.mono _ _
      | exact oid_Under.mono _ _ _
      | exact slices_Equal_int_int.mono _ _ _
      | exact LeO.none _
      | refine LeO.ite ?_ ?_
      | refine LeO.bind ?_ (fun _ => ?_)
    · intro y0 y1 y2
      unfold clavigerlaw17_OidTells.j1
      repeat' first
      | (with_reducible exact ih0 _ _ _ _ _)
      | (with_reducible exact ih1 _ _ _)
      | (with_reducible exact clavigerlaw17_awake.mono _)
      | (with_reducible exact clavigerref17_Decode.mono _ _)
      | (with_reducible exact clavigerref17_Encode.mono _ _)
      | (with_reducible exact clavigerref17_Parse.mono _ _)
      | (with_reducible exact clavigerref17_Right.mono _ _)
      | (with_reducible exact clavigerref17_Text.mono _ _)
      | (with_reducible exact clavigerref17_Under.mono _ _ _)
      | (with_reducible exact oid_Decode.mono _ _)
      | (with_reducible exact oid_Encode.mono _ _)
      | (with_reducible exact oid_Parse.mono _ _)
      | (with_reducible exact oid_Right.mono _ _)
      | (with_reducible exact oid_Text.mono _ _)
      | (with_reducible exact oid_Under.mono _ _ _)
      | (with_reducible exact slices_Equal_int_int.mono _ _ _)
      | (with_reducible exact LeO.refl _)
      | (with_reducible exact LeO.none _)
      | (with_reducible refine LeO.ite ?_ ?_)
      | (with_reducible refine LeO.bind ?_ (fun _ => ?_))
      | exact ih0 _ _ _ _ _
      | exact ih1 _ _ _
      | exact clavigerlaw17_awake.mono _
      | exact clavigerref17_Decode.mono _ _
      | exact clavigerref17_Encode.mono _ _
      | exact clavigerref17_Parse.mono _ _
      | exact clavigerref17_Right.mono _ _
      | exact clavigerref17_Text.mono _ _
      | exact clavigerref17_Under.mono _ _ _
      | exact oid_Decode.mono _ _
      | exact oid_Encode.mono _ _
      | exact oid_Parse.mono _ _
      | exact oid_Right.mono _ _
      | exact oid_Text.mono _ _
      | exact oid_Under.mono _ _ _
      | exact slices_Equal_int_int.mono _ _ _
      | exact LeO.none _
      | refine LeO.ite ?_ ?_
      | refine LeO.bind ?_ (fun _ => ?_)
theorem clavigerlaw17_OidTells.mono : ∀ a0 a1 a2 a3 k, LeO (clavigerlaw17_OidTells.f k a0 a1 a2 a3) (clavigerlaw17_OidTells.f (k + 1) a0 a1 a2 a3) := by
  intro a0 a1 a2 a3 k
  obtain ⟨ih0, ih1⟩ := clavigerlaw17_OidTells.mono_l k
  unfold clavigerlaw17_OidTells.f
  repeat' first
      | (with_reducible exact ih0 _ _ _ _ _)
      | (with_reducible exact ih1 _ _ _)
      | (with_reducible exact clavigerlaw17_awake.mono _)
      | (with_reducible exact clavigerref17_Decode.mono _ _)
      | (with_reducible exact clavigerref17_Encode.mono _ _)
      | (with_reducible exact clavigerref17_Parse.mono _ _)
      | (with_reducible exact clavigerref17_Right.mono _ _)
      | (with_reducible exact clavigerref17_Text.mono _ _)
      | (with_reducible exact clavigerref17_Under.mono _ _ _)
      | (with_reducible exact oid_Decode.mono _ _)
      | (with_reducible exact oid_Encode.mono _ _)
      | (with_reducible exact oid_Parse.mono _ _)
      | (with_reducible exact oid_Right.mono _ _)
      | (with_reducible exact oid_Text.mono _ _)
      | (with_reducible exact oid_Under.mono _ _ _)
      | (with_reducible exact slices_Equal_int_int.mono _ _ _)
      | (with_reducible exact LeO.refl _)
      | (with_reducible exact LeO.none _)
      | (with_reducible refine LeO.ite ?_ ?_)
      | (with_reducible refine LeO.bind ?_ (fun _ => ?_))
      | exact ih0 _ _ _ _ _
      | exact ih1 _ _ _
      | exact clavigerlaw17_awake.mono _
      | exact clavigerref17_Decode.mono _ _
      | exact clavigerref17_Encode.mono _ _
      | exact clavigerref17_Parse.mono _ _
      | exact clavigerref17_Right.mono _ _
      | exact clavigerref17_Text.mono _ _
      | exact clavigerref17_Under.mono _ _ _
      | exact oid_Decode.mono _ _
      | exact oid_Encode.mono _ _
      | exact oid_Parse.mono _ _
      | exact oid_Right.mono _ _
      | exact oid_Text.mono _ _
      | exact oid_Under.mono _ _ _
      | exact slices_Equal_int_int.mono _ _ _
      | exact LeO.none _
      | refine LeO.ite ?_ ?_
      | refine LeO.bind ?_ (fun _ => ?_)
set_option maxHeartbeats 8000000 in
set_option maxRecDepth 100000 in
theorem clavigerlaw17_OidTells.calls (k : Nat) (A0 : Option Addr) (c0 : Nat) (l0 : List Int) (A1 : Option Addr) (c1 : Nat) (l1 : List Int) (a2 : ByteArray) (a3 : ByteArray) (r : Bool) (w : World) (hr0 : Kd.C (Kd.int .i64) w A0 l0.length l0) (hc0 : l0.length ≤ c0) (hr1 : Kd.C (Kd.int .i64) w A1 l1.length l1) (hc1 : l1.length ≤ c1) (HT_ : Aside0 (TB w)) (HR_ : Aside0 (r = true)) (h : clavigerlaw17_OidTells.f k l0 l1 a2 a3 = some r) :
    Calls Tryd.prog 3 #[.slice A0 l0.length c0, .slice A1 l1.length c1, .string a2, .string a3] w fun e w' => e = .returned (.bool r) ∧ Below w.heap.size w w' := by
  have HR0 := Aside0.mk hr0
  have HC0 := Aside0.mk hc0
  clear hr0 hc0
  have HR1 := Aside0.mk hr1
  have HC1 := Aside0.mk hc1
  clear hr1 hc1
  have HB := Aside0.mk (Below.refl w.heap.size w)
  have H : (if (l0.length : Int) > 60 then (clavigerlaw17_OidTells.j0 k l0 l1 a2 a3 true) else (if (l1.length : Int) > 60 then (clavigerlaw17_OidTells.j0 k l0 l1 a2 a3 true) else (if (a2.size : Int) > 200 then (clavigerlaw17_OidTells.j0 k l0 l1 a2 a3 true) else (clavigerlaw17_OidTells.j0 k l0 l1 a2 a3 (decide ((a3.size : Int) > 200)))))) = some r := h
  clear h
  have HC5 := Aside0.mk H
  clear H
  go_enter Tryd.func3, Tryd.ntmps3
  go_upto_region 1 with (fail)
  go_cut [38] (fun v38 wc => ∃ (kq : Nat) (x38_4 : Bool), v38 = .bool x38_4 ∧ Aside0 (clavigerlaw17_OidTells.j0 kq l0 l1 a2 a3 x38_4 = some r) ∧ Aside0 (kq ≤ k) ∧ Aside0 (Below w.heap.size w wc))
  case first =>
    have H := HC5.out
    clear HC5
    by_cases c6 : (l0.length : Int) > 60
    · rw [if_pos c6] at H
      have c6b0 : decide (60 < (l0.length : Int)) = true := decide_eq_true c6
      have c6b1 : decide (60 < l0.length) = true := decide_eq_true (by omega)
      clear c6
      (first | rw [c6b0] | (simp only [i64_w, i32_w]; rw [c6b0]) | skip)
      have H' := Aside0.mk H
      clear H
      go_wp2
      go_meet
      case rel => exact ⟨_, (true), (by first | rfl | (simp; done) | (simp [*]; done)), H', ⟨by first | omega | exact Nat.le_refl _⟩, ⟨by repeat (first | (with_reducible first | exact HB.out | apply below_alloc | apply pw_below_drewN | apply below_drew1) | exact HB.out)⟩⟩
    · rw [if_neg c6] at H
      have c6b0 : decide (60 < (l0.length : Int)) = false := decide_eq_false c6
      have c6b1 : decide (60 < l0.length) = false := decide_eq_false (by omega)
      clear c6
      (first | rw [c6b0] | (simp only [i64_w, i32_w]; rw [c6b0]) | skip)
      by_cases c7 : (l1.length : Int) > 60
      · rw [if_pos c7] at H
        have c7b0 : decide (60 < (l1.length : Int)) = true := decide_eq_true c7
        have c7b1 : decide (60 < l1.length) = true := decide_eq_true (by omega)
        clear c7
        have H' := Aside0.mk H
        clear H
        go_wp2
        go_meet
        case rel => exact ⟨_, (true), (by first | rfl | (simp; done) | (simp [*]; done)), H', ⟨by first | omega | exact Nat.le_refl _⟩, ⟨by repeat (first | (with_reducible first | exact HB.out | apply below_alloc | apply pw_below_drewN | apply below_drew1) | exact HB.out)⟩⟩
      · rw [if_neg c7] at H
        have c7b0 : decide (60 < (l1.length : Int)) = false := decide_eq_false c7
        have c7b1 : decide (60 < l1.length) = false := decide_eq_false (by omega)
        clear c7
        by_cases c8 : (a2.size : Int) > 200
        · rw [if_pos c8] at H
          have c8b0 : decide (200 < (a2.size : Int)) = true := decide_eq_true c8
          have c8b1 : decide (200 < a2.size) = true := decide_eq_true (by omega)
          clear c8
          have H' := Aside0.mk H
          clear H
          go_wp2
          go_meet
          case rel => exact ⟨_, (true), (by first | rfl | (simp; done) | (simp [*]; done)), H', ⟨by first | omega | exact Nat.le_refl _⟩, ⟨by repeat (first | (with_reducible first | exact HB.out | apply below_alloc | apply pw_below_drewN | apply below_drew1) | exact HB.out)⟩⟩
        · rw [if_neg c8] at H
          have c8b0 : decide (200 < (a2.size : Int)) = false := decide_eq_false c8
          have c8b1 : decide (200 < a2.size) = false := decide_eq_false (by omega)
          clear c8
          have H' := Aside0.mk H
          clear H
          go_wp2
          go_meet
          case rel => exact ⟨_, (decide ((a3.size : Int) > 200)), (by first | rfl | (simp; done) | (simp [*]; done)), H', ⟨by first | omega | exact Nat.le_refl _⟩, ⟨by repeat (first | (with_reducible first | exact HB.out | apply below_alloc | apply pw_below_drewN | apply below_drew1) | exact HB.out)⟩⟩
  case rest =>
    clear HC5
    try clear c1
    try clear p2
    try clear c3
    try clear c6
    try clear c6b0
    try clear c6b1
    try clear c7
    try clear c7b0
    try clear c7b1
    try clear c8
    try clear c8b0
    try clear c8b1
    obtain ⟨kq, x38_4, rfl, HA, HJ4, HB⟩ := hcut
    cases kq with
    | zero => exact absurd HA.out (by simp [clavigerlaw17_OidTells.j0])
    | succ kj4 =>
      have H := HA.out
      clear HA
      simp only [clavigerlaw17_OidTells.j0] at H
      by_cases c9 : x38_4 = true
      · subst c9
        have H1 : ((clavigerlaw17_awake.f kj4).bind fun t219 => (some t219)) = some r := by rw [if_pos rfl] at H; exact H
        clear H
        have H := H1
        clear H1
        replace H := Option.bind_eq_some_iff.mp H
        obtain ⟨t219, A100, H⟩ := H
        replace H : (some t219) = some r := H
        have A10 := Aside0.mk A100
        clear A100
        obtain rfl := Option.some.inj H
        go_wp2_with (first | ((with_reducible refine gate_callee (f := 5) rfl ?_); refine goesL_ (some 39) rfl rfl Tryd.func5 (by kernel_rfl) rfl #[] rfl (by (try simp only [List.map_toArray, List.map_cons, List.map_nil]); first | done | rfl | (simp only [List.length_drop, List.length_take]; rfl) | exact congrArg (fun z => #[Value.int .i64 z]) (w64 (by omega) (by omega)).symm) ?_; (with_reducible refine (clavigerlaw17_awake.calls kj4  t219 _ ?tb_ A10.out).mono ?_); (case tb_ => exact ⟨TB.below HT_.out (by repeat (first | (with_reducible first | exact HB.out | apply below_alloc | apply pw_below_drewN | apply below_drew1) | exact HB.out | exact Below.refl _ _))⟩); rintro e w11 ⟨rfl, hb⟩; refine ⟨_, rfl, ?_⟩; have n0_ := Aside0.mk (below_step (by repeat (first | (with_reducible first | exact HB.out | apply below_alloc | apply pw_below_drewN | apply below_drew1) | exact HB.out)) hb); clear HB; have HB := n0_; clear n0_; (try clear hb); (try clear hb2); (try clear hk); (try clear hi)))
        go_ret
        exact ⟨by first | rfl | (simp [errW_none, errW_some] <;> rfl) | (simp [*, errW_none, errW_some] <;> rfl), by repeat (first | (with_reducible first | exact HB.out | apply below_alloc | apply pw_below_drewN | apply below_drew1) | exact HB.out)⟩
      · replace c9 := Bool.eq_false_iff.mpr c9
        subst c9
        have H1 : ((oid_Encode.f kj4 l0).bind fun bt220 => ((clavigerref17_Encode.f kj4 l0).bind fun bt222 => ((oid_Decode.f kj4 a2).bind fun bt224 => ((clavigerref17_Decode.f kj4 a2).bind fun bt228 => ((oid_Right.f kj4 l0).bind fun t232 => ((clavigerref17_Right.f kj4 l0).bind fun t233 => (if (t232 != t233) = true then (clavigerlaw17_OidTells.j1 kj4 l0 a3 true) else (if bt220.1.toList = bt222.1.toList then (if (bt220.2 != bt222.2) = true then (clavigerlaw17_OidTells.j1 kj4 l0 a3 true) else ((slices_Equal_int_int.f kj4 bt224.1 bt228.1).bind fun t234 => (if t234 = true then (if (bt224.2 != bt228.2) = true then (clavigerlaw17_OidTells.j1 kj4 l0 a3 true) else ((oid_Under.f kj4 l0 l1).bind fun t235 => ((clavigerref17_Under.f kj4 l0 l1).bind fun t236 => (clavigerlaw17_OidTells.j1 kj4 l0 a3 (t235 != t236))))) else (clavigerlaw17_OidTells.j1 kj4 l0 a3 true)))) else (clavigerlaw17_OidTells.j1 kj4 l0 a3 true))))))))) = some r := by rw [if_neg (show ¬ (false = true) by decide)] at H; exact H
        clear H
        have H := H1
        clear H1
        replace H := Option.bind_eq_some_iff.mp H
        obtain ⟨⟨t220, t221⟩, A120, H⟩ := H
        replace H : ((clavigerref17_Encode.f kj4 l0).bind fun bt222 => ((oid_Decode.f kj4 a2).bind fun bt224 => ((clavigerref17_Decode.f kj4 a2).bind fun bt228 => ((oid_Right.f kj4 l0).bind fun t232 => ((clavigerref17_Right.f kj4 l0).bind fun t233 => (if (t232 != t233) = true then (clavigerlaw17_OidTells.j1 kj4 l0 a3 true) else (if t220.toList = bt222.1.toList then (if (t221 != bt222.2) = true then (clavigerlaw17_OidTells.j1 kj4 l0 a3 true) else ((slices_Equal_int_int.f kj4 bt224.1 bt228.1).bind fun t234 => (if t234 = true then (if (bt224.2 != bt228.2) = true then (clavigerlaw17_OidTells.j1 kj4 l0 a3 true) else ((oid_Under.f kj4 l0 l1).bind fun t235 => ((clavigerref17_Under.f kj4 l0 l1).bind fun t236 => (clavigerlaw17_OidTells.j1 kj4 l0 a3 (t235 != t236))))) else (clavigerlaw17_OidTells.j1 kj4 l0 a3 true)))) else (clavigerlaw17_OidTells.j1 kj4 l0 a3 true)))))))) = some r := H
        have A12 := Aside0.mk A120
        clear A120
        replace H := Option.bind_eq_some_iff.mp H
        obtain ⟨⟨t222, t223⟩, A130, H⟩ := H
        replace H : ((oid_Decode.f kj4 a2).bind fun bt224 => ((clavigerref17_Decode.f kj4 a2).bind fun bt228 => ((oid_Right.f kj4 l0).bind fun t232 => ((clavigerref17_Right.f kj4 l0).bind fun t233 => (if (t232 != t233) = true then (clavigerlaw17_OidTells.j1 kj4 l0 a3 true) else (if t220.toList = t222.toList then (if (t221 != t223) = true then (clavigerlaw17_OidTells.j1 kj4 l0 a3 true) else ((slices_Equal_int_int.f kj4 bt224.1 bt228.1).bind fun t234 => (if t234 = true then (if (bt224.2 != bt228.2) = true then (clavigerlaw17_OidTells.j1 kj4 l0 a3 true) else ((oid_Under.f kj4 l0 l1).bind fun t235 => ((clavigerref17_Under.f kj4 l0 l1).bind fun t236 => (clavigerlaw17_OidTells.j1 kj4 l0 a3 (t235 != t236))))) else (clavigerlaw17_OidTells.j1 kj4 l0 a3 true)))) else (clavigerlaw17_OidTells.j1 kj4 l0 a3 true))))))) = some r := H
        have A13 := Aside0.mk A130
        clear A130
        replace H := Option.bind_eq_some_iff.mp H
        obtain ⟨⟨t224, t225⟩, A140, H⟩ := H
        replace H : ((clavigerref17_Decode.f kj4 a2).bind fun bt228 => ((oid_Right.f kj4 l0).bind fun t232 => ((clavigerref17_Right.f kj4 l0).bind fun t233 => (if (t232 != t233) = true then (clavigerlaw17_OidTells.j1 kj4 l0 a3 true) else (if t220.toList = t222.toList then (if (t221 != t223) = true then (clavigerlaw17_OidTells.j1 kj4 l0 a3 true) else ((slices_Equal_int_int.f kj4 t224 bt228.1).bind fun t234 => (if t234 = true then (if (t225 != bt228.2) = true then (clavigerlaw17_OidTells.j1 kj4 l0 a3 true) else ((oid_Under.f kj4 l0 l1).bind fun t235 => ((clavigerref17_Under.f kj4 l0 l1).bind fun t236 => (clavigerlaw17_OidTells.j1 kj4 l0 a3 (t235 != t236))))) else (clavigerlaw17_OidTells.j1 kj4 l0 a3 true)))) else (clavigerlaw17_OidTells.j1 kj4 l0 a3 true)))))) = some r := H
        have A14 := Aside0.mk A140
        clear A140
        replace H := Option.bind_eq_some_iff.mp H
        obtain ⟨⟨t228, t229⟩, A150, H⟩ := H
        replace H : ((oid_Right.f kj4 l0).bind fun t232 => ((clavigerref17_Right.f kj4 l0).bind fun t233 => (if (t232 != t233) = true then (clavigerlaw17_OidTells.j1 kj4 l0 a3 true) else (if t220.toList = t222.toList then (if (t221 != t223) = true then (clavigerlaw17_OidTells.j1 kj4 l0 a3 true) else ((slices_Equal_int_int.f kj4 t224 t228).bind fun t234 => (if t234 = true then (if (t225 != t229) = true then (clavigerlaw17_OidTells.j1 kj4 l0 a3 true) else ((oid_Under.f kj4 l0 l1).bind fun t235 => ((clavigerref17_Under.f kj4 l0 l1).bind fun t236 => (clavigerlaw17_OidTells.j1 kj4 l0 a3 (t235 != t236))))) else (clavigerlaw17_OidTells.j1 kj4 l0 a3 true)))) else (clavigerlaw17_OidTells.j1 kj4 l0 a3 true))))) = some r := H
        have A15 := Aside0.mk A150
        clear A150
        have HC16 := Aside0.mk H
        clear H
        go_upto_region 7 with (first | ((with_reducible refine gate_callee (f := 6) rfl ?_); refine goesL_ (some 42) rfl rfl Tryd.func6 (by kernel_rfl) rfl #[.slice A0 l0.length c0] rfl (by (try simp only [List.map_toArray, List.map_cons, List.map_nil]); first | done | rfl | (simp only [List.length_drop, List.length_take]; rfl) | exact congrArg (fun z => #[Value.int .i64 z]) (w64 (by omega) (by omega)).symm) ?_; (with_reducible refine (oid_Encode.calls kj4 _ _ l0 t220 t221 _ ?side1 ?side2 A12.out).mono ?_); (case side1 => repeat (first | exact (Kd.C_below HR0.out HB.out) | (with_reducible refine Kd.C_alloc ?_ _) | (with_reducible refine Kd.C_drewN ?_ _) | (with_reducible refine Kd.C_drew ?_))); (case side2 => exact HC0.out); rintro e w17 ⟨rfl, hb⟩; refine ⟨_, rfl, ?_⟩; have n0_ := Aside0.mk (below_step (by repeat (first | (with_reducible first | exact HB.out | apply below_alloc | apply pw_below_drewN | apply below_drew1) | exact HB.out)) hb); clear HB; have HB := n0_; clear n0_; (try clear hb); (try clear hb2); (try clear hk); (try clear hi)) | ((with_reducible refine gate_callee (f := 7) rfl ?_); refine goesL_ (some 47) rfl rfl Tryd.func7 (by kernel_rfl) rfl #[.slice A0 l0.length c0] rfl (by (try simp only [List.map_toArray, List.map_cons, List.map_nil]); first | done | rfl | (simp only [List.length_drop, List.length_take]; rfl) | exact congrArg (fun z => #[Value.int .i64 z]) (w64 (by omega) (by omega)).symm) ?_; (with_reducible refine (clavigerref17_Encode.calls kj4 _ _ l0 t222 t223 _ ?side1 ?side2 A13.out).mono ?_); (case side1 => repeat (first | exact (Kd.C_below HR0.out HB.out) | (with_reducible refine Kd.C_alloc ?_ _) | (with_reducible refine Kd.C_drewN ?_ _) | (with_reducible refine Kd.C_drew ?_))); (case side2 => exact HC0.out); rintro e w18 ⟨rfl, hb⟩; refine ⟨_, rfl, ?_⟩; have n0_ := Aside0.mk (below_step (by repeat (first | (with_reducible first | exact HB.out | apply below_alloc | apply pw_below_drewN | apply below_drew1) | exact HB.out)) hb); clear HB; have HB := n0_; clear n0_; (try clear hb); (try clear hb2); (try clear hk); (try clear hi)) | ((with_reducible refine gate_callee (f := 8) rfl ?_); refine goesL_ (some 52) rfl rfl Tryd.func8 (by kernel_rfl) rfl #[.string a2] rfl (by (try simp only [List.map_toArray, List.map_cons, List.map_nil]); first | done | rfl | (simp only [List.length_drop, List.length_take]; rfl) | exact congrArg (fun z => #[Value.int .i64 z]) (w64 (by omega) (by omega)).symm) ?_; (with_reducible refine (oid_Decode.calls kj4 a2 t224 t225 _ A14.out).mono ?_); rintro e w19 ⟨v226, rfl, ho0, hb⟩; refine ⟨_, rfl, ?_⟩; have n0_ := Aside0.mk (Kd.R_lower ho0 (below_size (by repeat (first | (with_reducible first | exact HB.out | apply below_alloc | apply pw_below_drewN | apply below_drew1) | exact HB.out)))); have n1_ := Aside0.mk (below_step (by repeat (first | (with_reducible first | exact HB.out | apply below_alloc | apply pw_below_drewN | apply below_drew1) | exact HB.out)) hb); clear HB; have HO227 := n0_; have HB := n1_; clear n0_ n1_; (try clear hb); (try clear hb2); (try clear hk); (try clear hi); (try clear ho0)) | ((with_reducible refine gate_callee (f := 9) rfl ?_); refine goesL_ (some 57) rfl rfl Tryd.func9 (by kernel_rfl) rfl #[.string a2] rfl (by (try simp only [List.map_toArray, List.map_cons, List.map_nil]); first | done | rfl | (simp only [List.length_drop, List.length_take]; rfl) | exact congrArg (fun z => #[Value.int .i64 z]) (w64 (by omega) (by omega)).symm) ?_; (with_reducible refine (clavigerref17_Decode.calls kj4 a2 t228 t229 _ A15.out).mono ?_); rintro e w20 ⟨v230, rfl, ho0, hb⟩; refine ⟨_, rfl, ?_⟩; have n0_ := Aside0.mk (Kd.R_elder' (by (with_reducible repeat (first | apply Kd.R_alloc | apply Kd.R_drewN | apply Kd.R_drew)); exact HO227.out) (Kd.R_base ho0) hb); have n1_ := Aside0.mk (Kd.R_lower (Kd.R_new' ho0 (Kd.R_lt (by (with_reducible repeat (first | apply Kd.R_alloc | apply Kd.R_drewN | apply Kd.R_drew)); exact HO227.out))) (below_size (by repeat (first | (with_reducible first | exact HB.out | apply below_alloc | apply pw_below_drewN | apply below_drew1) | exact HB.out)))); have n2_ := Aside0.mk (below_step (by repeat (first | (with_reducible first | exact HB.out | apply below_alloc | apply pw_below_drewN | apply below_drew1) | exact HB.out)) hb); clear HO227; clear HB; have HO227 := n0_; have HO231 := n1_; have HB := n2_; clear n0_ n1_ n2_; (try clear hb); (try clear hb2); (try clear hk); (try clear hi); (try clear ho0)))
        (try simp only [Act.put, List.setIfInBounds_toArray, List.set_cons_zero, List.set_cons_succ])
        go_cut [94] (fun v94 wc => ∃ (kq : Nat) (x94_15 : Bool), v94 = .bool x94_15 ∧ Aside0 (clavigerlaw17_OidTells.j1 kq l0 a3 x94_15 = some r) ∧ Aside0 (kq ≤ kj4) ∧ Aside0 (Below w.heap.size w wc))
        case first =>
          have H := HC16.out
          clear HC16
          replace H := Option.bind_eq_some_iff.mp H
          obtain ⟨t232, A210, H⟩ := H
          replace H : ((clavigerref17_Right.f kj4 l0).bind fun t233 => (if (t232 != t233) = true then (clavigerlaw17_OidTells.j1 kj4 l0 a3 true) else (if t220.toList = t222.toList then (if (t221 != t223) = true then (clavigerlaw17_OidTells.j1 kj4 l0 a3 true) else ((slices_Equal_int_int.f kj4 t224 t228).bind fun t234 => (if t234 = true then (if (t225 != t229) = true then (clavigerlaw17_OidTells.j1 kj4 l0 a3 true) else ((oid_Under.f kj4 l0 l1).bind fun t235 => ((clavigerref17_Under.f kj4 l0 l1).bind fun t236 => (clavigerlaw17_OidTells.j1 kj4 l0 a3 (t235 != t236))))) else (clavigerlaw17_OidTells.j1 kj4 l0 a3 true)))) else (clavigerlaw17_OidTells.j1 kj4 l0 a3 true)))) = some r := H
          have A21 := Aside0.mk A210
          clear A210
          replace H := Option.bind_eq_some_iff.mp H
          obtain ⟨t233, A220, H⟩ := H
          replace H : (if (t232 != t233) = true then (clavigerlaw17_OidTells.j1 kj4 l0 a3 true) else (if t220.toList = t222.toList then (if (t221 != t223) = true then (clavigerlaw17_OidTells.j1 kj4 l0 a3 true) else ((slices_Equal_int_int.f kj4 t224 t228).bind fun t234 => (if t234 = true then (if (t225 != t229) = true then (clavigerlaw17_OidTells.j1 kj4 l0 a3 true) else ((oid_Under.f kj4 l0 l1).bind fun t235 => ((clavigerref17_Under.f kj4 l0 l1).bind fun t236 => (clavigerlaw17_OidTells.j1 kj4 l0 a3 (t235 != t236))))) else (clavigerlaw17_OidTells.j1 kj4 l0 a3 true)))) else (clavigerlaw17_OidTells.j1 kj4 l0 a3 true))) = some r := H
          have A22 := Aside0.mk A220
          clear A220
          by_cases c23 : (t232 != t233) = true
          · rw [if_pos c23] at H
            have c23b0 : (t232 != t233) = true := c23
            (try (have c23b1 : decide (t232 = t233) = false := by simpa using c23))
            (try (have c23b2 : (t232 == t233) = false := by simpa using c23))
            (try (have c23b3 : ¬ (t232 = t233) := by simpa using c23))
            clear c23
            (first | rw [c23b0] | (simp only [i64_w, i32_w]; rw [c23b0]) | skip)
            have H' := Aside0.mk H
            clear H
            go_wp2_with (first | ((with_reducible refine gate_callee (f := 10) rfl ?_); refine goesL_ (some 61) rfl rfl Tryd.func10 (by kernel_rfl) rfl #[.slice A0 l0.length c0] rfl (by (try simp only [List.map_toArray, List.map_cons, List.map_nil]); first | done | rfl | (simp only [List.length_drop, List.length_take]; rfl) | exact congrArg (fun z => #[Value.int .i64 z]) (w64 (by omega) (by omega)).symm) ?_; (with_reducible refine (oid_Right.calls kj4 _ _ l0 t232 _ ?side1 ?side2 A21.out).mono ?_); (case side1 => repeat (first | exact (Kd.C_below HR0.out HB.out) | (with_reducible refine Kd.C_alloc ?_ _) | (with_reducible refine Kd.C_drewN ?_ _) | (with_reducible refine Kd.C_drew ?_))); (case side2 => exact HC0.out); rintro e w' ⟨rfl, ⟨nd, rfl⟩⟩; refine ⟨_, rfl, ?_⟩) | ((with_reducible refine gate_callee (f := 11) rfl ?_); refine goesL_ (some 63) rfl rfl Tryd.func11 (by kernel_rfl) rfl #[.slice A0 l0.length c0] rfl (by (try simp only [List.map_toArray, List.map_cons, List.map_nil]); first | done | rfl | (simp only [List.length_drop, List.length_take]; rfl) | exact congrArg (fun z => #[Value.int .i64 z]) (w64 (by omega) (by omega)).symm) ?_; (with_reducible refine (clavigerref17_Right.calls kj4 _ _ l0 t233 _ ?side1 ?side2 A22.out).mono ?_); (case side1 => repeat (first | exact (Kd.C_below HR0.out (by repeat (first | (with_reducible first | exact HB.out | apply below_alloc | apply pw_below_drewN | apply below_drew1) | exact HB.out))) | (with_reducible refine Kd.C_alloc ?_ _) | (with_reducible refine Kd.C_drewN ?_ _) | (with_reducible refine Kd.C_drew ?_))); (case side2 => exact HC0.out); rintro e w' ⟨rfl, ⟨nd, rfl⟩⟩; refine ⟨_, rfl, ?_⟩))
            go_meet
            case rel => exact ⟨_, (true), (by first | rfl | (simp; done) | (simp [*]; done)), H', ⟨by have := HJ4.out; first | omega | exact Nat.le_refl _⟩, ⟨by repeat (first | (with_reducible first | exact HB.out | apply below_alloc | apply pw_below_drewN | apply below_drew1) | exact HB.out)⟩⟩
          · rw [if_neg c23] at H
            have c23b0 : (t232 != t233) = false := by simpa using c23
            (try (have c23b1 : decide (t232 = t233) = true := by simpa using c23))
            (try (have c23b2 : (t232 == t233) = true := by simpa using c23))
            clear c23
            (first | rw [c23b0] | (simp only [i64_w, i32_w]; rw [c23b0]) | skip)
            by_cases c24 : t220.toList = t222.toList
            · rw [if_pos c24] at H
              have c24b0 : (t220.toList == t222.toList) = true := beq_iff_eq.mpr c24
              have c24b1 : (t220.toList != t222.toList) = false := bne_eq_false_iff_eq.mpr c24
              clear c24
              by_cases c25 : (t221 != t223) = true
              · rw [if_pos c25] at H
                have c25b0 : (t221 != t223) = true := c25
                (try (have c25b1 : decide (t221 = t223) = false := by simpa using c25))
                (try (have c25b2 : (t221 == t223) = false := by simpa using c25))
                (try (have c25b3 : ¬ (t221 = t223) := by simpa using c25))
                clear c25
                have H' := Aside0.mk H
                clear H
                go_wp2_with (first | ((with_reducible refine gate_callee (f := 10) rfl ?_); refine goesL_ (some 61) rfl rfl Tryd.func10 (by kernel_rfl) rfl #[.slice A0 l0.length c0] rfl (by (try simp only [List.map_toArray, List.map_cons, List.map_nil]); first | done | rfl | (simp only [List.length_drop, List.length_take]; rfl) | exact congrArg (fun z => #[Value.int .i64 z]) (w64 (by omega) (by omega)).symm) ?_; (with_reducible refine (oid_Right.calls kj4 _ _ l0 t232 _ ?side1 ?side2 A21.out).mono ?_); (case side1 => repeat (first | exact (Kd.C_below HR0.out HB.out) | (with_reducible refine Kd.C_alloc ?_ _) | (with_reducible refine Kd.C_drewN ?_ _) | (with_reducible refine Kd.C_drew ?_))); (case side2 => exact HC0.out); rintro e w' ⟨rfl, ⟨nd, rfl⟩⟩; refine ⟨_, rfl, ?_⟩) | ((with_reducible refine gate_callee (f := 11) rfl ?_); refine goesL_ (some 63) rfl rfl Tryd.func11 (by kernel_rfl) rfl #[.slice A0 l0.length c0] rfl (by (try simp only [List.map_toArray, List.map_cons, List.map_nil]); first | done | rfl | (simp only [List.length_drop, List.length_take]; rfl) | exact congrArg (fun z => #[Value.int .i64 z]) (w64 (by omega) (by omega)).symm) ?_; (with_reducible refine (clavigerref17_Right.calls kj4 _ _ l0 t233 _ ?side1 ?side2 A22.out).mono ?_); (case side1 => repeat (first | exact (Kd.C_below HR0.out (by repeat (first | (with_reducible first | exact HB.out | apply below_alloc | apply pw_below_drewN | apply below_drew1) | exact HB.out))) | (with_reducible refine Kd.C_alloc ?_ _) | (with_reducible refine Kd.C_drewN ?_ _) | (with_reducible refine Kd.C_drew ?_))); (case side2 => exact HC0.out); rintro e w' ⟨rfl, ⟨nd, rfl⟩⟩; refine ⟨_, rfl, ?_⟩))
                go_meet
                case rel => exact ⟨_, (true), (by first | rfl | (simp; done) | (simp [*]; done)), H', ⟨by have := HJ4.out; first | omega | exact Nat.le_refl _⟩, ⟨by repeat (first | (with_reducible first | exact HB.out | apply below_alloc | apply pw_below_drewN | apply below_drew1) | exact HB.out)⟩⟩
              · rw [if_neg c25] at H
                have c25b0 : (t221 != t223) = false := by simpa using c25
                (try (have c25b1 : decide (t221 = t223) = true := by simpa using c25))
                (try (have c25b2 : (t221 == t223) = true := by simpa using c25))
                clear c25
                replace H := Option.bind_eq_some_iff.mp H
                obtain ⟨t234, A260, H⟩ := H
                replace H : (if t234 = true then (if (t225 != t229) = true then (clavigerlaw17_OidTells.j1 kj4 l0 a3 true) else ((oid_Under.f kj4 l0 l1).bind fun t235 => ((clavigerref17_Under.f kj4 l0 l1).bind fun t236 => (clavigerlaw17_OidTells.j1 kj4 l0 a3 (t235 != t236))))) else (clavigerlaw17_OidTells.j1 kj4 l0 a3 true)) = some r := H
                have A26 := Aside0.mk A260
                clear A260
                by_cases c27 : t234 = true
                · subst c27
                  have H1 : (if (t225 != t229) = true then (clavigerlaw17_OidTells.j1 kj4 l0 a3 true) else ((oid_Under.f kj4 l0 l1).bind fun t235 => ((clavigerref17_Under.f kj4 l0 l1).bind fun t236 => (clavigerlaw17_OidTells.j1 kj4 l0 a3 (t235 != t236))))) = some r := by rw [if_pos rfl] at H; exact H
                  clear H
                  have H := H1
                  clear H1
                  by_cases c28 : (t225 != t229) = true
                  · rw [if_pos c28] at H
                    have c28b0 : (t225 != t229) = true := c28
                    (try (have c28b1 : decide (t225 = t229) = false := by simpa using c28))
                    (try (have c28b2 : (t225 == t229) = false := by simpa using c28))
                    (try (have c28b3 : ¬ (t225 = t229) := by simpa using c28))
                    clear c28
                    have H' := Aside0.mk H
                    clear H
                    go_wp2_with (first | ((with_reducible refine gate_callee (f := 10) rfl ?_); refine goesL_ (some 61) rfl rfl Tryd.func10 (by kernel_rfl) rfl #[.slice A0 l0.length c0] rfl (by (try simp only [List.map_toArray, List.map_cons, List.map_nil]); first | done | rfl | (simp only [List.length_drop, List.length_take]; rfl) | exact congrArg (fun z => #[Value.int .i64 z]) (w64 (by omega) (by omega)).symm) ?_; (with_reducible refine (oid_Right.calls kj4 _ _ l0 t232 _ ?side1 ?side2 A21.out).mono ?_); (case side1 => repeat (first | exact (Kd.C_below HR0.out HB.out) | (with_reducible refine Kd.C_alloc ?_ _) | (with_reducible refine Kd.C_drewN ?_ _) | (with_reducible refine Kd.C_drew ?_))); (case side2 => exact HC0.out); rintro e w' ⟨rfl, ⟨nd, rfl⟩⟩; refine ⟨_, rfl, ?_⟩) | ((with_reducible refine gate_callee (f := 11) rfl ?_); refine goesL_ (some 63) rfl rfl Tryd.func11 (by kernel_rfl) rfl #[.slice A0 l0.length c0] rfl (by (try simp only [List.map_toArray, List.map_cons, List.map_nil]); first | done | rfl | (simp only [List.length_drop, List.length_take]; rfl) | exact congrArg (fun z => #[Value.int .i64 z]) (w64 (by omega) (by omega)).symm) ?_; (with_reducible refine (clavigerref17_Right.calls kj4 _ _ l0 t233 _ ?side1 ?side2 A22.out).mono ?_); (case side1 => repeat (first | exact (Kd.C_below HR0.out (by repeat (first | (with_reducible first | exact HB.out | apply below_alloc | apply pw_below_drewN | apply below_drew1) | exact HB.out))) | (with_reducible refine Kd.C_alloc ?_ _) | (with_reducible refine Kd.C_drewN ?_ _) | (with_reducible refine Kd.C_drew ?_))); (case side2 => exact HC0.out); rintro e w' ⟨rfl, ⟨nd, rfl⟩⟩; refine ⟨_, rfl, ?_⟩; obtain ⟨Ao29, co29, eo29⟩ := Kd.R_slice HO227.out; subst eo29; obtain ⟨Ao30, co30, eo30⟩ := Kd.R_slice HO231.out; subst eo30) | (go_at_call 12; (with_reducible refine (slices_Equal_int_int.calls kj4 _ _ t224 _ _ t228 true _ ?side1 ?side2 ?side3 ?side4 A26.out).mono ?_); (case side1 => repeat (first | exact (Kd.R_reads' HO227.out).2.2 | (with_reducible refine Kd.C_alloc ?_ _) | (with_reducible refine Kd.C_drewN ?_ _) | (with_reducible refine Kd.C_drew ?_))); (case side2 => exact (Kd.R_reads' HO227.out).2.1); (case side3 => repeat (first | exact (Kd.R_reads' HO231.out).2.2 | (with_reducible refine Kd.C_alloc ?_ _) | (with_reducible refine Kd.C_drewN ?_ _) | (with_reducible refine Kd.C_drew ?_))); (case side4 => exact (Kd.R_reads' HO231.out).2.1); rintro e w' ⟨rfl, ⟨nd, rfl⟩⟩))
                    go_meet
                    case rel => exact ⟨_, (true), (by first | rfl | (simp; done) | (simp [*]; done)), H', ⟨by have := HJ4.out; first | omega | exact Nat.le_refl _⟩, ⟨by repeat (first | (with_reducible first | exact HB.out | apply below_alloc | apply pw_below_drewN | apply below_drew1) | exact HB.out)⟩⟩
                  · rw [if_neg c28] at H
                    have c28b0 : (t225 != t229) = false := by simpa using c28
                    (try (have c28b1 : decide (t225 = t229) = true := by simpa using c28))
                    (try (have c28b2 : (t225 == t229) = true := by simpa using c28))
                    clear c28
                    replace H := Option.bind_eq_some_iff.mp H
                    obtain ⟨t235, A310, H⟩ := H
                    replace H : ((clavigerref17_Under.f kj4 l0 l1).bind fun t236 => (clavigerlaw17_OidTells.j1 kj4 l0 a3 (t235 != t236))) = some r := H
                    have A31 := Aside0.mk A310
                    clear A310
                    replace H := Option.bind_eq_some_iff.mp H
                    obtain ⟨t236, A320, H⟩ := H
                    replace H : (clavigerlaw17_OidTells.j1 kj4 l0 a3 (t235 != t236)) = some r := H
                    have A32 := Aside0.mk A320
                    clear A320
                    have H' := Aside0.mk H
                    clear H
                    go_wp2_with (first | ((with_reducible refine gate_callee (f := 10) rfl ?_); refine goesL_ (some 61) rfl rfl Tryd.func10 (by kernel_rfl) rfl #[.slice A0 l0.length c0] rfl (by (try simp only [List.map_toArray, List.map_cons, List.map_nil]); first | done | rfl | (simp only [List.length_drop, List.length_take]; rfl) | exact congrArg (fun z => #[Value.int .i64 z]) (w64 (by omega) (by omega)).symm) ?_; (with_reducible refine (oid_Right.calls kj4 _ _ l0 t232 _ ?side1 ?side2 A21.out).mono ?_); (case side1 => repeat (first | exact (Kd.C_below HR0.out HB.out) | (with_reducible refine Kd.C_alloc ?_ _) | (with_reducible refine Kd.C_drewN ?_ _) | (with_reducible refine Kd.C_drew ?_))); (case side2 => exact HC0.out); rintro e w' ⟨rfl, ⟨nd, rfl⟩⟩; refine ⟨_, rfl, ?_⟩) | ((with_reducible refine gate_callee (f := 11) rfl ?_); refine goesL_ (some 63) rfl rfl Tryd.func11 (by kernel_rfl) rfl #[.slice A0 l0.length c0] rfl (by (try simp only [List.map_toArray, List.map_cons, List.map_nil]); first | done | rfl | (simp only [List.length_drop, List.length_take]; rfl) | exact congrArg (fun z => #[Value.int .i64 z]) (w64 (by omega) (by omega)).symm) ?_; (with_reducible refine (clavigerref17_Right.calls kj4 _ _ l0 t233 _ ?side1 ?side2 A22.out).mono ?_); (case side1 => repeat (first | exact (Kd.C_below HR0.out (by repeat (first | (with_reducible first | exact HB.out | apply below_alloc | apply pw_below_drewN | apply below_drew1) | exact HB.out))) | (with_reducible refine Kd.C_alloc ?_ _) | (with_reducible refine Kd.C_drewN ?_ _) | (with_reducible refine Kd.C_drew ?_))); (case side2 => exact HC0.out); rintro e w' ⟨rfl, ⟨nd, rfl⟩⟩; refine ⟨_, rfl, ?_⟩; obtain ⟨Ao33, co33, eo33⟩ := Kd.R_slice HO227.out; subst eo33; obtain ⟨Ao34, co34, eo34⟩ := Kd.R_slice HO231.out; subst eo34) | (go_at_call 12; (with_reducible refine (slices_Equal_int_int.calls kj4 _ _ t224 _ _ t228 true _ ?side1 ?side2 ?side3 ?side4 A26.out).mono ?_); (case side1 => repeat (first | exact (Kd.R_reads' HO227.out).2.2 | (with_reducible refine Kd.C_alloc ?_ _) | (with_reducible refine Kd.C_drewN ?_ _) | (with_reducible refine Kd.C_drew ?_))); (case side2 => exact (Kd.R_reads' HO227.out).2.1); (case side3 => repeat (first | exact (Kd.R_reads' HO231.out).2.2 | (with_reducible refine Kd.C_alloc ?_ _) | (with_reducible refine Kd.C_drewN ?_ _) | (with_reducible refine Kd.C_drew ?_))); (case side4 => exact (Kd.R_reads' HO231.out).2.1); rintro e w' ⟨rfl, ⟨nd, rfl⟩⟩) | (go_at_call 13; (with_reducible refine (oid_Under.calls kj4 _ _ l0 _ _ l1 t235 _ ?side1 ?side2 ?side3 ?side4 A31.out).mono ?_); (case side1 => repeat (first | exact (Kd.C_below HR0.out (by repeat (first | (with_reducible first | exact HB.out | apply below_alloc | apply pw_below_drewN | apply below_drew1) | exact HB.out))) | (with_reducible refine Kd.C_alloc ?_ _) | (with_reducible refine Kd.C_drewN ?_ _) | (with_reducible refine Kd.C_drew ?_))); (case side2 => exact HC0.out); (case side3 => repeat (first | exact (Kd.C_below HR1.out (by repeat (first | (with_reducible first | exact HB.out | apply below_alloc | apply pw_below_drewN | apply below_drew1) | exact HB.out))) | (with_reducible refine Kd.C_alloc ?_ _) | (with_reducible refine Kd.C_drewN ?_ _) | (with_reducible refine Kd.C_drew ?_))); (case side4 => exact HC1.out); rintro e w' ⟨rfl, ⟨nd, rfl⟩⟩) | (go_at_call 14; (with_reducible refine (clavigerref17_Under.calls kj4 _ _ l0 _ _ l1 t236 _ ?side1 ?side2 ?side3 ?side4 A32.out).mono ?_); (case side1 => repeat (first | exact (Kd.C_below HR0.out (by repeat (first | (with_reducible first | exact HB.out | apply below_alloc | apply pw_below_drewN | apply below_drew1) | exact HB.out))) | (with_reducible refine Kd.C_alloc ?_ _) | (with_reducible refine Kd.C_drewN ?_ _) | (with_reducible refine Kd.C_drew ?_))); (case side2 => exact HC0.out); (case side3 => repeat (first | exact (Kd.C_below HR1.out (by repeat (first | (with_reducible first | exact HB.out | apply below_alloc | apply pw_below_drewN | apply below_drew1) | exact HB.out))) | (with_reducible refine Kd.C_alloc ?_ _) | (with_reducible refine Kd.C_drewN ?_ _) | (with_reducible refine Kd.C_drew ?_))); (case side4 => exact HC1.out); rintro e w' ⟨rfl, ⟨nd, rfl⟩⟩))
                    go_meet
                    case rel => exact ⟨_, ((t235 != t236)), (by first | rfl | (simp; done) | (simp [*]; done)), H', ⟨by have := HJ4.out; first | omega | exact Nat.le_refl _⟩, ⟨by repeat (first | (with_reducible first | exact HB.out | apply below_alloc | apply pw_below_drewN | apply below_drew1) | exact HB.out)⟩⟩
                · replace c27 := Bool.eq_false_iff.mpr c27
                  subst c27
                  have H1 : (clavigerlaw17_OidTells.j1 kj4 l0 a3 true) = some r := by rw [if_neg (show ¬ (false = true) by decide)] at H; exact H
                  clear H
                  have H := H1
                  clear H1
                  have H' := Aside0.mk H
                  clear H
                  go_wp2_with (first | ((with_reducible refine gate_callee (f := 10) rfl ?_); refine goesL_ (some 61) rfl rfl Tryd.func10 (by kernel_rfl) rfl #[.slice A0 l0.length c0] rfl (by (try simp only [List.map_toArray, List.map_cons, List.map_nil]); first | done | rfl | (simp only [List.length_drop, List.length_take]; rfl) | exact congrArg (fun z => #[Value.int .i64 z]) (w64 (by omega) (by omega)).symm) ?_; (with_reducible refine (oid_Right.calls kj4 _ _ l0 t232 _ ?side1 ?side2 A21.out).mono ?_); (case side1 => repeat (first | exact (Kd.C_below HR0.out HB.out) | (with_reducible refine Kd.C_alloc ?_ _) | (with_reducible refine Kd.C_drewN ?_ _) | (with_reducible refine Kd.C_drew ?_))); (case side2 => exact HC0.out); rintro e w' ⟨rfl, ⟨nd, rfl⟩⟩; refine ⟨_, rfl, ?_⟩) | ((with_reducible refine gate_callee (f := 11) rfl ?_); refine goesL_ (some 63) rfl rfl Tryd.func11 (by kernel_rfl) rfl #[.slice A0 l0.length c0] rfl (by (try simp only [List.map_toArray, List.map_cons, List.map_nil]); first | done | rfl | (simp only [List.length_drop, List.length_take]; rfl) | exact congrArg (fun z => #[Value.int .i64 z]) (w64 (by omega) (by omega)).symm) ?_; (with_reducible refine (clavigerref17_Right.calls kj4 _ _ l0 t233 _ ?side1 ?side2 A22.out).mono ?_); (case side1 => repeat (first | exact (Kd.C_below HR0.out (by repeat (first | (with_reducible first | exact HB.out | apply below_alloc | apply pw_below_drewN | apply below_drew1) | exact HB.out))) | (with_reducible refine Kd.C_alloc ?_ _) | (with_reducible refine Kd.C_drewN ?_ _) | (with_reducible refine Kd.C_drew ?_))); (case side2 => exact HC0.out); rintro e w' ⟨rfl, ⟨nd, rfl⟩⟩; refine ⟨_, rfl, ?_⟩; obtain ⟨Ao35, co35, eo35⟩ := Kd.R_slice HO227.out; subst eo35; obtain ⟨Ao36, co36, eo36⟩ := Kd.R_slice HO231.out; subst eo36) | (go_at_call 12; (with_reducible refine (slices_Equal_int_int.calls kj4 _ _ t224 _ _ t228 false _ ?side1 ?side2 ?side3 ?side4 A26.out).mono ?_); (case side1 => repeat (first | exact (Kd.R_reads' HO227.out).2.2 | (with_reducible refine Kd.C_alloc ?_ _) | (with_reducible refine Kd.C_drewN ?_ _) | (with_reducible refine Kd.C_drew ?_))); (case side2 => exact (Kd.R_reads' HO227.out).2.1); (case side3 => repeat (first | exact (Kd.R_reads' HO231.out).2.2 | (with_reducible refine Kd.C_alloc ?_ _) | (with_reducible refine Kd.C_drewN ?_ _) | (with_reducible refine Kd.C_drew ?_))); (case side4 => exact (Kd.R_reads' HO231.out).2.1); rintro e w' ⟨rfl, ⟨nd, rfl⟩⟩))
                  go_meet
                  case rel => exact ⟨_, (true), (by first | rfl | (simp; done) | (simp [*]; done)), H', ⟨by have := HJ4.out; first | omega | exact Nat.le_refl _⟩, ⟨by repeat (first | (with_reducible first | exact HB.out | apply below_alloc | apply pw_below_drewN | apply below_drew1) | exact HB.out)⟩⟩
            · rw [if_neg c24] at H
              have c24b0 : (t220.toList == t222.toList) = false := beq_eq_false_iff_ne.mpr c24
              have c24b1 : (t220.toList != t222.toList) = true := bne_iff_ne.mpr c24
              have H' := Aside0.mk H
              clear H
              go_wp2_with (first | ((with_reducible refine gate_callee (f := 10) rfl ?_); refine goesL_ (some 61) rfl rfl Tryd.func10 (by kernel_rfl) rfl #[.slice A0 l0.length c0] rfl (by (try simp only [List.map_toArray, List.map_cons, List.map_nil]); first | done | rfl | (simp only [List.length_drop, List.length_take]; rfl) | exact congrArg (fun z => #[Value.int .i64 z]) (w64 (by omega) (by omega)).symm) ?_; (with_reducible refine (oid_Right.calls kj4 _ _ l0 t232 _ ?side1 ?side2 A21.out).mono ?_); (case side1 => repeat (first | exact (Kd.C_below HR0.out HB.out) | (with_reducible refine Kd.C_alloc ?_ _) | (with_reducible refine Kd.C_drewN ?_ _) | (with_reducible refine Kd.C_drew ?_))); (case side2 => exact HC0.out); rintro e w' ⟨rfl, ⟨nd, rfl⟩⟩; refine ⟨_, rfl, ?_⟩) | ((with_reducible refine gate_callee (f := 11) rfl ?_); refine goesL_ (some 63) rfl rfl Tryd.func11 (by kernel_rfl) rfl #[.slice A0 l0.length c0] rfl (by (try simp only [List.map_toArray, List.map_cons, List.map_nil]); first | done | rfl | (simp only [List.length_drop, List.length_take]; rfl) | exact congrArg (fun z => #[Value.int .i64 z]) (w64 (by omega) (by omega)).symm) ?_; (with_reducible refine (clavigerref17_Right.calls kj4 _ _ l0 t233 _ ?side1 ?side2 A22.out).mono ?_); (case side1 => repeat (first | exact (Kd.C_below HR0.out (by repeat (first | (with_reducible first | exact HB.out | apply below_alloc | apply pw_below_drewN | apply below_drew1) | exact HB.out))) | (with_reducible refine Kd.C_alloc ?_ _) | (with_reducible refine Kd.C_drewN ?_ _) | (with_reducible refine Kd.C_drew ?_))); (case side2 => exact HC0.out); rintro e w' ⟨rfl, ⟨nd, rfl⟩⟩; refine ⟨_, rfl, ?_⟩))
              go_meet
              case rel => exact ⟨_, (true), (by first | rfl | (simp; done) | (simp [*]; done)), H', ⟨by have := HJ4.out; first | omega | exact Nat.le_refl _⟩, ⟨by repeat (first | (with_reducible first | exact HB.out | apply below_alloc | apply pw_below_drewN | apply below_drew1) | exact HB.out)⟩⟩
        case rest =>
          clear HC16
          try clear c1
          try clear c2
          try clear p2
          try clear c3
          try clear c5
          try clear c6
          try clear c6b0
          try clear c6b1
          try clear c7
          try clear c7b0
          try clear c7b1
          try clear c8
          try clear c8b0
          try clear c8b1
          try clear c9
          try clear c10
          try clear c11
          try clear c23
          try clear c23b0
          try clear c23b1
          try clear c23b2
          try clear c24
          try clear c24b0
          try clear c24b1
          try clear c25
          try clear c25b0
          try clear c25b1
          try clear c25b2
          try clear c27
          try clear c28
          try clear c28b0
          try clear c28b1
          try clear c28b2
          try clear p2
          obtain ⟨kq, x94_15, rfl, HA, HJ15, HB⟩ := hcut
          cases kq with
          | zero => exact absurd HA.out (by simp [clavigerlaw17_OidTells.j1])
          | succ kj15 =>
            have H := HA.out
            clear HA
            simp only [clavigerlaw17_OidTells.j1] at H
            by_cases c37 : x94_15 = true
            · subst c37
              have H1 : (some false) = some r := by rw [if_pos rfl] at H; exact H
              clear H
              have H := H1
              clear H1
              exact absurd ((Option.some.inj H).trans HR_.out) (by decide)
            · replace c37 := Bool.eq_false_iff.mpr c37
              subst c37
              have H1 : ((oid_Parse.f kj15 a3).bind fun bt237 => ((clavigerref17_Parse.f kj15 a3).bind fun bt241 => ((slices_Equal_int_int.f kj15 bt237.1 bt241.1).bind fun t245 => (if t245 = true then (if (bt237.2 == bt241.2) = true then ((oid_Text.f kj15 l0).bind fun t246 => ((clavigerref17_Text.f kj15 l0).bind fun t247 => (if t246.toList = t247.toList then ((clavigerlaw17_awake.f kj15).bind fun t248 => (some t248)) else (some false)))) else (some false)) else (some false))))) = some r := by rw [if_neg (show ¬ (false = true) by decide)] at H; exact H
              clear H
              have H := H1
              clear H1
              replace H := Option.bind_eq_some_iff.mp H
              obtain ⟨⟨t237, t238⟩, A380, H⟩ := H
              replace H : ((clavigerref17_Parse.f kj15 a3).bind fun bt241 => ((slices_Equal_int_int.f kj15 t237 bt241.1).bind fun t245 => (if t245 = true then (if (t238 == bt241.2) = true then ((oid_Text.f kj15 l0).bind fun t246 => ((clavigerref17_Text.f kj15 l0).bind fun t247 => (if t246.toList = t247.toList then ((clavigerlaw17_awake.f kj15).bind fun t248 => (some t248)) else (some false)))) else (some false)) else (some false)))) = some r := H
              have A38 := Aside0.mk A380
              clear A380
              replace H := Option.bind_eq_some_iff.mp H
              obtain ⟨⟨t241, t242⟩, A390, H⟩ := H
              replace H : ((slices_Equal_int_int.f kj15 t237 t241).bind fun t245 => (if t245 = true then (if (t238 == t242) = true then ((oid_Text.f kj15 l0).bind fun t246 => ((clavigerref17_Text.f kj15 l0).bind fun t247 => (if t246.toList = t247.toList then ((clavigerlaw17_awake.f kj15).bind fun t248 => (some t248)) else (some false)))) else (some false)) else (some false))) = some r := H
              have A39 := Aside0.mk A390
              clear A390
              replace H := Option.bind_eq_some_iff.mp H
              obtain ⟨t245, A400, H⟩ := H
              replace H : (if t245 = true then (if (t238 == t242) = true then ((oid_Text.f kj15 l0).bind fun t246 => ((clavigerref17_Text.f kj15 l0).bind fun t247 => (if t246.toList = t247.toList then ((clavigerlaw17_awake.f kj15).bind fun t248 => (some t248)) else (some false)))) else (some false)) else (some false)) = some r := H
              have A40 := Aside0.mk A400
              clear A400
              by_cases c41 : t245 = true
              · subst c41
                have H1 : (if (t238 == t242) = true then ((oid_Text.f kj15 l0).bind fun t246 => ((clavigerref17_Text.f kj15 l0).bind fun t247 => (if t246.toList = t247.toList then ((clavigerlaw17_awake.f kj15).bind fun t248 => (some t248)) else (some false)))) else (some false)) = some r := by rw [if_pos rfl] at H; exact H
                clear H
                have H := H1
                clear H1
                by_cases c42 : (t238 == t242) = true
                · rw [if_pos c42] at H
                  have c42b0 : (t238 == t242) = true := c42
                  (try (have c42b1 : decide (t238 = t242) = true := by simpa using c42))
                  (try (have c42b2 : (t238 == t242) = true := by simpa using c42))
                  clear c42
                  replace H := Option.bind_eq_some_iff.mp H
                  obtain ⟨t246, A430, H⟩ := H
                  replace H : ((clavigerref17_Text.f kj15 l0).bind fun t247 => (if t246.toList = t247.toList then ((clavigerlaw17_awake.f kj15).bind fun t248 => (some t248)) else (some false))) = some r := H
                  have A43 := Aside0.mk A430
                  clear A430
                  replace H := Option.bind_eq_some_iff.mp H
                  obtain ⟨t247, A440, H⟩ := H
                  replace H : (if t246.toList = t247.toList then ((clavigerlaw17_awake.f kj15).bind fun t248 => (some t248)) else (some false)) = some r := H
                  have A44 := Aside0.mk A440
                  clear A440
                  by_cases c45 : t246.toList = t247.toList
                  · rw [if_pos c45] at H
                    have c45b0 : (t246.toList == t247.toList) = true := beq_iff_eq.mpr c45
                    have c45b1 : (t246.toList != t247.toList) = false := bne_eq_false_iff_eq.mpr c45
                    clear c45
                    replace H := Option.bind_eq_some_iff.mp H
                    obtain ⟨t248, A460, H⟩ := H
                    replace H : (some t248) = some r := H
                    have A46 := Aside0.mk A460
                    clear A460
                    obtain rfl := Option.some.inj H
                    go_wp2_with (first | ((with_reducible refine gate_callee (f := 15) rfl ?_); refine goesL_ (some 97) rfl rfl Tryd.func15 (by kernel_rfl) rfl #[.string a3] rfl (by (try simp only [List.map_toArray, List.map_cons, List.map_nil]); first | done | rfl | (simp only [List.length_drop, List.length_take]; rfl) | exact congrArg (fun z => #[Value.int .i64 z]) (w64 (by omega) (by omega)).symm) ?_; (with_reducible refine (oid_Parse.calls kj15 a3 t237 t238 _ ?tb_ A38.out).mono ?_); (case tb_ => exact ⟨TB.below HT_.out (by repeat (first | (with_reducible first | exact HB.out | apply below_alloc | apply pw_below_drewN | apply below_drew1) | exact HB.out | exact Below.refl _ _))⟩); rintro e w47 ⟨v239, rfl, ho0, hb⟩; refine ⟨_, rfl, ?_⟩; have n0_ := Aside0.mk (Kd.R_lower ho0 (below_size (by repeat (first | (with_reducible first | exact HB.out | apply below_alloc | apply pw_below_drewN | apply below_drew1) | exact HB.out)))); have n1_ := Aside0.mk (below_step (by repeat (first | (with_reducible first | exact HB.out | apply below_alloc | apply pw_below_drewN | apply below_drew1) | exact HB.out)) hb); clear HB; have HO240 := n0_; have HB := n1_; clear n0_ n1_; (try clear hb); (try clear hb2); (try clear hk); (try clear hi); (try clear ho0)) | ((with_reducible refine gate_callee (f := 16) rfl ?_); refine goesL_ (some 102) rfl rfl Tryd.func16 (by kernel_rfl) rfl #[.string a3] rfl (by (try simp only [List.map_toArray, List.map_cons, List.map_nil]); first | done | rfl | (simp only [List.length_drop, List.length_take]; rfl) | exact congrArg (fun z => #[Value.int .i64 z]) (w64 (by omega) (by omega)).symm) ?_; (with_reducible refine (clavigerref17_Parse.calls kj15 a3 t241 t242 _ A39.out).mono ?_); rintro e w48 ⟨v243, rfl, ho0, hb⟩; refine ⟨_, rfl, ?_⟩; have n0_ := Aside0.mk (Kd.R_elder' (by (with_reducible repeat (first | apply Kd.R_alloc | apply Kd.R_drewN | apply Kd.R_drew)); exact HO240.out) (Kd.R_base ho0) hb); have n1_ := Aside0.mk (Kd.R_lower (Kd.R_new' ho0 (Kd.R_lt (by (with_reducible repeat (first | apply Kd.R_alloc | apply Kd.R_drewN | apply Kd.R_drew)); exact HO240.out))) (below_size (by repeat (first | (with_reducible first | exact HB.out | apply below_alloc | apply pw_below_drewN | apply below_drew1) | exact HB.out)))); have n2_ := Aside0.mk (below_step (by repeat (first | (with_reducible first | exact HB.out | apply below_alloc | apply pw_below_drewN | apply below_drew1) | exact HB.out)) hb); clear HO240; clear HB; have HO240 := n0_; have HO244 := n1_; have HB := n2_; clear n0_ n1_ n2_; (try clear hb); (try clear hb2); (try clear hk); (try clear hi); (try clear ho0); obtain ⟨Ao49, co49, eo49⟩ := Kd.R_slice HO240.out; subst eo49; obtain ⟨Ao50, co50, eo50⟩ := Kd.R_slice HO244.out; subst eo50) | ((with_reducible refine gate_callee (f := 12) rfl ?_); refine goesL_ (some 107) rfl rfl Tryd.func12 (by kernel_rfl) rfl #[.slice Ao49 t237.length co49, .slice Ao50 t241.length co50] rfl (by (try simp only [List.map_toArray, List.map_cons, List.map_nil]); first | done | rfl | (simp only [List.length_drop, List.length_take]; rfl) | exact congrArg (fun z => #[Value.int .i64 z]) (w64 (by omega) (by omega)).symm) ?_; (with_reducible refine (slices_Equal_int_int.calls kj15 _ _ t237 _ _ t241 true _ ?side1 ?side2 ?side3 ?side4 A40.out).mono ?_); (case side1 => repeat (first | exact (Kd.R_reads' HO240.out).2.2 | (with_reducible refine Kd.C_alloc ?_ _) | (with_reducible refine Kd.C_drewN ?_ _) | (with_reducible refine Kd.C_drew ?_))); (case side2 => exact (Kd.R_reads' HO240.out).2.1); (case side3 => repeat (first | exact (Kd.R_reads' HO244.out).2.2 | (with_reducible refine Kd.C_alloc ?_ _) | (with_reducible refine Kd.C_drewN ?_ _) | (with_reducible refine Kd.C_drew ?_))); (case side4 => exact (Kd.R_reads' HO244.out).2.1); rintro e w' ⟨rfl, ⟨nd, rfl⟩⟩; refine ⟨_, rfl, ?_⟩) | (go_at_call 17; (with_reducible refine (oid_Text.calls kj15 _ _ l0 t246 _ ?side1 ?side2 ?tb_ A43.out).mono ?_); (case tb_ => exact ⟨TB.below HT_.out (by repeat (first | (with_reducible first | exact HB.out | apply below_alloc | apply pw_below_drewN | apply below_drew1) | exact HB.out | exact Below.refl _ _))⟩); (case side1 => repeat (first | exact (Kd.C_below HR0.out (by repeat (first | (with_reducible first | exact HB.out | apply below_alloc | apply pw_below_drewN | apply below_drew1) | exact HB.out))) | (with_reducible refine Kd.C_alloc ?_ _) | (with_reducible refine Kd.C_drewN ?_ _) | (with_reducible refine Kd.C_drew ?_))); (case side2 => exact HC0.out); rintro e w51 ⟨rfl, hb⟩; have n0_ := Aside0.mk (Kd.R_below (by (with_reducible repeat (first | apply Kd.R_alloc | apply Kd.R_drewN | apply Kd.R_drew)); exact HO240.out) hb); have n1_ := Aside0.mk (Kd.R_below (by (with_reducible repeat (first | apply Kd.R_alloc | apply Kd.R_drewN | apply Kd.R_drew)); exact HO244.out) hb); have n2_ := Aside0.mk (below_step (by repeat (first | (with_reducible first | exact HB.out | apply below_alloc | apply pw_below_drewN | apply below_drew1) | exact HB.out)) hb); clear HO240; clear HO244; clear HB; have HO240 := n0_; have HO244 := n1_; have HB := n2_; clear n0_ n1_ n2_; (try clear hb); (try clear hb2); (try clear hk); (try clear hi)) | (go_at_call 18; (with_reducible refine (clavigerref17_Text.calls kj15 _ _ l0 t247 _ ?side1 ?side2 A44.out).mono ?_); (case side1 => repeat (first | exact (Kd.C_below HR0.out HB.out) | (with_reducible refine Kd.C_alloc ?_ _) | (with_reducible refine Kd.C_drewN ?_ _) | (with_reducible refine Kd.C_drew ?_))); (case side2 => exact HC0.out); rintro e w' ⟨rfl, ⟨nd, rfl⟩⟩) | (go_at_call 5; (with_reducible refine (clavigerlaw17_awake.calls kj15  t248 _ ?tb_ A46.out).mono ?_); (case tb_ => exact ⟨TB.below HT_.out (by repeat (first | (with_reducible first | exact HB.out | apply below_alloc | apply pw_below_drewN | apply below_drew1) | exact HB.out | exact Below.refl _ _))⟩); rintro e w52 ⟨rfl, hb⟩; have n0_ := Aside0.mk (Kd.R_below (by (with_reducible repeat (first | apply Kd.R_alloc | apply Kd.R_drewN | apply Kd.R_drew)); exact HO240.out) hb); have n1_ := Aside0.mk (Kd.R_below (by (with_reducible repeat (first | apply Kd.R_alloc | apply Kd.R_drewN | apply Kd.R_drew)); exact HO244.out) hb); have n2_ := Aside0.mk (below_step (by repeat (first | (with_reducible first | exact HB.out | apply below_alloc | apply pw_below_drewN | apply below_drew1) | exact HB.out)) hb); clear HO240; clear HO244; clear HB; have HO240 := n0_; have HO244 := n1_; have HB := n2_; clear n0_ n1_ n2_; (try clear hb); (try clear hb2); (try clear hk); (try clear hi)))
                    go_ret
                    exact ⟨by first | rfl | (simp [errW_none, errW_some] <;> rfl) | (simp [*, errW_none, errW_some] <;> rfl), by repeat (first | (with_reducible first | exact HB.out | apply below_alloc | apply pw_below_drewN | apply below_drew1) | exact HB.out)⟩
                  · rw [if_neg c45] at H
                    have c45b0 : (t246.toList == t247.toList) = false := beq_eq_false_iff_ne.mpr c45
                    have c45b1 : (t246.toList != t247.toList) = true := bne_iff_ne.mpr c45
                    exact absurd ((Option.some.inj H).trans HR_.out) (by decide)
                · rw [if_neg c42] at H
                  have c42b0 : (t238 == t242) = false := by simpa using c42
                  (try (have c42b1 : decide (t238 = t242) = false := by simpa using c42))
                  (try (have c42b2 : (t238 == t242) = false := by simpa using c42))
                  (try (have c42b3 : ¬ (t238 = t242) := by simpa using c42))
                  clear c42
                  exact absurd ((Option.some.inj H).trans HR_.out) (by decide)
              · replace c41 := Bool.eq_false_iff.mpr c41
                subst c41
                have H1 : (some false) = some r := by rw [if_neg (show ¬ (false = true) by decide)] at H; exact H
                clear H
                have H := H1
                clear H1
                exact absurd ((Option.some.inj H).trans HR_.out) (by decide)

/-- THE ONE PURE STATEMENT of clavigerlaw17_OidTells: yours. -/
def clavigerlaw17_OidTells.Pure : Prop := ∀ (l0 : List Int) (l1 : List Int) (a2 : ByteArray) (a3 : ByteArray), l0.length ≤ maxLen → l0.length * 8 ≤ 140737488351232 → (∀ x ∈ l0, (Lit.int .i64 x).wf = true) → l1.length ≤ maxLen → l1.length * 8 ≤ 140737488351232 → (∀ x ∈ l1, (Lit.int .i64 x).wf = true) → a2.size ≤ 140737488351232 → a3.size ≤ 140737488351232 → ∃ k, clavigerlaw17_OidTells.f k l0 l1 a2 a3 = some true
theorem clavigerlaw17_OidTells.walk (P : clavigerlaw17_OidTells.Pure) (a0 : Option Addr) (len0 cap0 : Nat) (z0 : List Int) (a1 : Option Addr) (len1 cap1 : Nat) (z1 : List Int) (a2 : ByteArray) (a3 : ByteArray) (w : World) (w0 : (a0 = none ∧ len0 = 0 ∧ cap0 = 0 ∧ z0 = []) ∨ ∃ x, a0 = some x ∧ len0 ≤ cap0 ∧ cap0 ≤ maxLen ∧ z0.length = cap0 ∧ (∀ i, i < z0.length → w.cell? (x.add i) = some (.int .i64 (z0.getD i 0))) ∧ ∀ n ∈ z0, (Lit.int .i64 n).wf = true) (y0 : len0 * 8 ≤ 140737488351232) (w1 : (a1 = none ∧ len1 = 0 ∧ cap1 = 0 ∧ z1 = []) ∨ ∃ x, a1 = some x ∧ len1 ≤ cap1 ∧ cap1 ≤ maxLen ∧ z1.length = cap1 ∧ (∀ i, i < z1.length → w.cell? (x.add i) = some (.int .i64 (z1.getD i 0))) ∧ ∀ n ∈ z1, (Lit.int .i64 n).wf = true) (y1 : len1 * 8 ≤ 140737488351232) (w2 : a2.size ≤ 140737488351232) (w3 : a3.size ≤ 140737488351232) (HT_ : Aside0 (TB w)) :
    Calls Tryd.prog 3 #[.slice a0 len0 cap0, .slice a1 len1 cap1, .string a2, .string a3] w fun e w' => e = .returned (.bool true) ∧ Below w.heap.size w w' := by
  obtain ⟨l0, rfl, hr0, hm0, hw0, hc0⟩ := ReadsInt.ofRowC w0
  obtain ⟨l1, rfl, hr1, hm1, hw1, hc1⟩ := ReadsInt.ofRowC w1
  obtain ⟨k, h⟩ := P l0 l1 a2 a3 hm0 y0 hw0 hm1 y1 hw1 w2 w3
  refine (clavigerlaw17_OidTells.calls k _ _ l0 _ _ l1 a2 a3 true w (Kd.C_of_reads (d := (0 : Int)) (h1 := fun _ => rfl) hr0) hc0 (Kd.C_of_reads (d := (0 : Int)) (h1 := fun _ => rfl) hr1) hc1 HT_ ⟨rfl⟩ h).mono ?_
  rintro e w' ⟨rfl, hd⟩
  exact ⟨rfl, hd⟩

end Go.Proofs.YtjkhfognncadbaaDoor.POidTells
