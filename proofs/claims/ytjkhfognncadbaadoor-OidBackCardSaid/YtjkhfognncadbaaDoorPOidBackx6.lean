-- laid by a program out of the translation and of templates; not trusted: Lean checks it
import Derived.Test.YtjkhfognncadbaaDoorPOidBackx0
import Derived.Test.YtjkhfognncadbaaDoorPOidBackx2
import Derived.Test.YtjkhfognncadbaaDoorPOidBackx3
import Derived.Test.YtjkhfognncadbaaDoorPOidBackx4
import Derived.Test.YtjkhfognncadbaaDoorPOidBackx5
namespace Go.Proofs.YtjkhfognncadbaaDoor.POidBack
open Go.RowKit Go.Proofs.YtjkhfognncadbaaDoorW.PrintWords Go.Proofs.YtjkhfognncadbaaDoorW.PrintLast Go.Proofs.YtjkhfognncadbaaDoorW.PrintMore
attribute [local go_sem high] c_add c_eql c_neq
attribute [local go_sem] str_leq str_gtr str_geq max2_int min2_int max_two min_two max_three min_three max_four min_four   -- for this text's walks alone
set_option linter.unusedVariables false
set_option linter.unusedSimpArgs false

/-! ### clavigerlaw17_OidBack: function 4 -/
mutual
def clavigerlaw17_OidBack.j0 : Nat → List Int → List Int → ByteArray → ByteArray → Bool → Option (Bool)
  | 0, _, _, _, _, _ => none
  | k + 1, x0, x1, x2, x3, x40 => if x40 = true then ((clavigerlaw17_awake.f k).bind fun t162 => (some t162)) else ((oid_Encode.f k x0).bind fun bt163 => ((oid_Encode.f k x1).bind fun bt165 => (if bt163.2 = true then ((oid_Decode.f k bt163.1).bind fun bt167 => ((oid_Text.f k x0).bind fun t171 => ((oid_Parse.f k t171).bind fun bt172 => ((slices_Equal_int_int.f k bt167.1 x0).bind fun t176 => (if t176 = true then (if bt167.2 = true then ((slices_Equal_int_int.f k bt172.1 x0).bind fun t177 => (if t177 = true then (if bt172.2 = true then (if bt165.2 = true then ((slices_Equal_int_int.f k x0 x1).bind fun t178 => (if ((bt163.1.toList == bt165.1.toList) != t178) = true then (some false) else (clavigerlaw17_OidBack.j1 k x2 x3))) else (clavigerlaw17_OidBack.j1 k x2 x3)) else (some false)) else (some false))) else (some false)) else (some false)))))) else (clavigerlaw17_OidBack.j1 k x2 x3))))
def clavigerlaw17_OidBack.j1 : Nat → ByteArray → ByteArray → Option (Bool)
  | 0, _, _ => none
  | k + 1, x2, x3 => (oid_Decode.f k x2).bind fun bt179 => (if bt179.2 = true then ((oid_Encode.f k bt179.1).bind fun bt183 => (if bt183.1.toList = x2.toList then (clavigerlaw17_OidBack.j2 k x3 (!bt183.2)) else (clavigerlaw17_OidBack.j2 k x3 true))) else ((oid_Parse.f k x3).bind fun bt192 => (if bt192.2 = true then ((oid_Text.f k bt192.1).bind fun t196 => (if t196.toList = x3.toList then ((clavigerlaw17_awake.f k).bind fun t197 => (some t197)) else (some false))) else ((clavigerlaw17_awake.f k).bind fun t198 => (some t198)))))
def clavigerlaw17_OidBack.j2 : Nat → ByteArray → Bool → Option (Bool)
  | 0, _, _ => none
  | k + 1, x3, x111 => if x111 = true then (some false) else ((oid_Parse.f k x3).bind fun bt185 => (if bt185.2 = true then ((oid_Text.f k bt185.1).bind fun t189 => (if t189.toList = x3.toList then ((clavigerlaw17_awake.f k).bind fun t190 => (some t190)) else (some false))) else ((clavigerlaw17_awake.f k).bind fun t191 => (some t191))))
end
def clavigerlaw17_OidBack.f (k : Nat) (l0 : List Int) (l1 : List Int) (a2 : ByteArray) (a3 : ByteArray) : Option (Bool) := if (l0.length : Int) > 60 then (clavigerlaw17_OidBack.j0 k l0 l1 a2 a3 true) else (if (l1.length : Int) > 60 then (clavigerlaw17_OidBack.j0 k l0 l1 a2 a3 true) else (if (a2.size : Int) > 200 then (clavigerlaw17_OidBack.j0 k l0 l1 a2 a3 true) else (clavigerlaw17_OidBack.j0 k l0 l1 a2 a3 (decide ((a3.size : Int) > 200)))))
theorem clavigerlaw17_OidBack.mono_l : ∀ k, (∀ y0 y1 y2 y3 y4, LeO (clavigerlaw17_OidBack.j0 k y0 y1 y2 y3 y4) (clavigerlaw17_OidBack.j0 (k + 1) y0 y1 y2 y3 y4)) ∧ (∀ y0 y1, LeO (clavigerlaw17_OidBack.j1 k y0 y1) (clavigerlaw17_OidBack.j1 (k + 1) y0 y1)) ∧ (∀ y0 y1, LeO (clavigerlaw17_OidBack.j2 k y0 y1) (clavigerlaw17_OidBack.j2 (k + 1) y0 y1))
  | 0 => ⟨fun _ _ _ _ _ r h => by simp [clavigerlaw17_OidBack.j0] at h, fun _ _ r h => by simp [clavigerlaw17_OidBack.j1] at h, fun _ _ r h => by simp [clavigerlaw17_OidBack.j2] at h⟩
  | k + 1 => by
    obtain ⟨ih0, ih1, ih2⟩ := clavigerlaw17_OidBack.mono_l k
    refine ⟨?_, ?_, ?_⟩
    · intro y0 y1 y2 y3 y4
      unfold clavigerlaw17_OidBack.j0
      repeat' first
      | (with_reducible exact ih0 _ _ _ _ _)
      | (with_reducible exact ih1 _ _)
      | (with_reducible exact ih2 _ _)
      | (with_reducible exact clavigerlaw17_awake.mono _)
      | (with_reducible exact oid_Decode.mono _ _)
      | (with_reducible exact oid_Encode.mono _ _)
      | (with_reducible exact oid_Parse.mono _ _)
      | (with_reducible exact oid_Text.mono _ _)
      | (with_reducible exact slices_Equal_int_int.mono _ _ _)
      | (with_reducible exact LeO.refl _)
      | (with_reducible exact LeO.none _)
      | (with_reducible refine LeO.ite ?_ ?_)
      | (with_reducible refine LeO.bind ?_ (fun _ => ?_))
      | exact ih0 _ _ _ _ _
      | exact ih1 _ _
      | exact ih2 _ _
      | exact clavigerlaw17_awake.mono _
      | exact oid_Decode.mono _ _
      | exact oid_Encode.mono _ _
      | exact oid_Parse.mono _ _
      | exact oid_Text.mono _ _
      | exact slices_Equal_int_int.mono _ _ _
      | exact LeO.none _
      | refine LeO.ite ?_ ?_
      | refine LeO.bind ?_ (fun _ => ?_)
    · intro y0 y1
      unfold clavigerlaw17_OidBack.j1
      repeat' first
      | (with_reducible exact ih0 _ _ _ _ _)
      | (with_reducible exact ih1 _ _)
      | (with_reducible exact ih2 _ _)
      | (with_reducible exact clavigerlaw17_awake.mono _)
      | (with_reducible exact oid_Decode.mono _ _)
      | (with_reducible exact oid_Encode.mono _ _)
      | (with_reducible exact oid_Parse.mono _ _)
      | (with_reducible exact oid_Text.mono _ _)
      | (with_reducible exact slices_Equal_int_int.mono _ _ _)
      | (with_reducible exact LeO.refl _)
      | (with_reducible exact LeO.none _)
      | (with_reducible refine LeO.ite ?_ ?_)
      | (with_reducible refine LeO.bind ?_ (fun _ => ?_))
      | exact ih0 _ _ _ _ _
      | exact ih1 _ _
      | exact ih2 _ _
      | exact clavigerlaw17_awake.mono _
      | exact oid_Decode.mono _ _
      | exact oid_Encode.mono _ _
      | exact oid_Parse.mono _ _
      | exact oid_Text.mono _ _
      | exact slices_Equal_int_int.mono _ _ _
      | exact LeO.none _
      | refine LeO.ite ?_ ?_
      | refine LeO.bind ?_ (fun _ => ?_)
    · intro y0 y1
      unfold clavigerlaw17_OidBack.j2
      repeat' first
      | (with_reducible exact ih0 _ _ _ _ _)
      | (with_reducible exact ih1 _ _)
      | (with_reducible exact ih2 _ _)
      | (with_reducible exact clavigerlaw17_awake.mono _)
      | (with_reducible exact oid_Decode.mono _ _)
      | (with_reducible exact oid_Encode.mono _ _)
      | (with_reducible exact oid_Parse.mono _ _)
      | (with_reducible exact oid_Text.mono _ _)
      | (with_reducible exact slices_Equal_int_int.mono _ _ _)
      | (with_reducible exact LeO.refl _)
      | (with_reducible exact LeO.none _)
      | (with_reducible refine LeO.ite ?_ ?_)
      | (with_reducible refine LeO.bind ?_ (fun _ => ?_))
      | exact ih0 _ _ _ _ _
      | exact ih1 _ _
      | exact ih2 _ _
      | exact clavigerlaw17_awake.mono _
      | exact oid_Decode.mono _ _
      | exact oid_Encode.mono _ _
      | exact oid_Parse.mono _ _
      | exact oid_Text.mono _ _
      | exact slices_Equal_int_int.mono _ _ _
      | exact LeO.none _
      | refine LeO.ite ?_ ?_
      | refine LeO.bind ?_ (fun _ => ?_)
theorem clavigerlaw17_OidBack.mono : ∀ a0 a1 a2 a3 k, LeO (clavigerlaw17_OidBack.f k a0 a1 a2 a3) (clavigerlaw17_OidBack.f (k + 1) a0 a1 a2 a3) := by
  intro a0 a1 a2 a3 k
  obtain ⟨ih0, ih1, ih2⟩ := clavigerlaw17_OidBack.mono_l k
  unfold clavigerlaw17_OidBack.f
  repeat' first
      | (with_reducible exact ih0 _ _ _ _ _)
      | (with_reducible exact ih1 _ _)
      | (with_reducible exact ih2 _ _)
      | (with_reducible exact clavigerlaw17_awake.mono _)
      | (with_reducible exact oid_Decode.mono _ _)
      | (with_reducible exact oid_Encode.mono _ _)
      | (with_reducible exact oid_Parse.mono _ _)
      | (with_reducible exact oid_Text.mono _ _)
      | (with_reducible exact slices_Equal_int_int.mono _ _ _)
      | (with_reducible exact LeO.refl _)
      | (with_reducible exact LeO.none _)
      | (with_reducible refine LeO.ite ?_ ?_)
      | (with_reducible refine LeO.bind ?_ (fun _ => ?_))
      | exact ih0 _ _ _ _ _
      | exact ih1 _ _
      | exact ih2 _ _
      | exact clavigerlaw17_awake.mono _
      | exact oid_Decode.mono _ _
      | exact oid_Encode.mono _ _
      | exact oid_Parse.mono _ _
      | exact oid_Text.mono _ _
      | exact slices_Equal_int_int.mono _ _ _
      | exact LeO.none _
      | refine LeO.ite ?_ ?_
      | refine LeO.bind ?_ (fun _ => ?_)
set_option maxHeartbeats 8000000 in
set_option maxRecDepth 100000 in
theorem clavigerlaw17_OidBack.calls (k : Nat) (A0 : Option Addr) (c0 : Nat) (l0 : List Int) (A1 : Option Addr) (c1 : Nat) (l1 : List Int) (a2 : ByteArray) (a3 : ByteArray) (r : Bool) (w : World) (hr0 : Kd.C (Kd.int .i64) w A0 l0.length l0) (hc0 : l0.length ≤ c0) (hr1 : Kd.C (Kd.int .i64) w A1 l1.length l1) (hc1 : l1.length ≤ c1) (HT_ : Aside0 (TB w)) (HR_ : Aside0 (r = true)) (h : clavigerlaw17_OidBack.f k l0 l1 a2 a3 = some r) :
    Calls Tryd.prog 4 #[.slice A0 l0.length c0, .slice A1 l1.length c1, .string a2, .string a3] w fun e w' => e = .returned (.bool r) ∧ Below w.heap.size w w' := by
  have HR0 := Aside0.mk hr0
  have HC0 := Aside0.mk hc0
  clear hr0 hc0
  have HR1 := Aside0.mk hr1
  have HC1 := Aside0.mk hc1
  clear hr1 hc1
  have HB := Aside0.mk (Below.refl w.heap.size w)
  have H : (if (l0.length : Int) > 60 then (clavigerlaw17_OidBack.j0 k l0 l1 a2 a3 true) else (if (l1.length : Int) > 60 then (clavigerlaw17_OidBack.j0 k l0 l1 a2 a3 true) else (if (a2.size : Int) > 200 then (clavigerlaw17_OidBack.j0 k l0 l1 a2 a3 true) else (clavigerlaw17_OidBack.j0 k l0 l1 a2 a3 (decide ((a3.size : Int) > 200)))))) = some r := h
  clear h
  have HC5 := Aside0.mk H
  clear H
  go_enter Tryd.func4, Tryd.ntmps4
  go_upto_region 1 with (fail)
  go_cut [40] (fun v40 wc => ∃ (kq : Nat) (x40_4 : Bool), v40 = .bool x40_4 ∧ Aside0 (clavigerlaw17_OidBack.j0 kq l0 l1 a2 a3 x40_4 = some r) ∧ Aside0 (kq ≤ k) ∧ Aside0 (Below w.heap.size w wc))
  case first =>
    have H := HC5.out
    clear HC5
    by_cases c6 : (l0.length : Int) > 60
    · rw [if_pos c6] at H
      have c6b0 : decide (60 < (l0.length : Int)) = true := decide_eq_true c6
      have c6b1 : decide (60 < l0.length) = true := decide_eq_true (by omega)
      clear c6
      (first | rw [c6b0] | (simp only [i64_w, i32_w]; rw [c6b0]) | skip)
      have H' := Aside0.mk H
      clear H
      go_wp2
      go_meet
      case rel => exact ⟨_, (true), (by first | rfl | (simp; done) | (simp [*]; done)), H', ⟨by first | omega | exact Nat.le_refl _⟩, ⟨by repeat (first | (with_reducible first | exact HB.out | apply below_alloc | apply pw_below_drewN | apply below_drew1) | exact HB.out)⟩⟩
    · rw [if_neg c6] at H
      have c6b0 : decide (60 < (l0.length : Int)) = false := decide_eq_false c6
      have c6b1 : decide (60 < l0.length) = false := decide_eq_false (by omega)
      clear c6
      (first | rw [c6b0] | (simp only [i64_w, i32_w]; rw [c6b0]) | skip)
      by_cases c7 : (l1.length : Int) > 60
      · rw [if_pos c7] at H
        have c7b0 : decide (60 < (l1.length : Int)) = true := decide_eq_true c7
        have c7b1 : decide (60 < l1.length) = true := decide_eq_true (by omega)
        clear c7
        have H' := Aside0.mk H
        clear H
        go_wp2
        go_meet
        case rel => exact ⟨_, (true), (by first | rfl | (simp; done) | (simp [*]; done)), H', ⟨by first | omega | exact Nat.le_refl _⟩, ⟨by repeat (first | (with_reducible first | exact HB.out | apply below_alloc | apply pw_below_drewN | apply below_drew1) | exact HB.out)⟩⟩
      · rw [if_neg c7] at H
        have c7b0 : decide (60 < (l1.length : Int)) = false := decide_eq_false c7
        have c7b1 : decide (60 < l1.length) = false := decide_eq_false (by omega)
        clear c7
        by_cases c8 : (a2.size : Int) > 200
        · rw [if_pos c8] at H
          have c8b0 : decide (200 < (a2.size : Int)) = true := decide_eq_true c8
          have c8b1 : decide (200 < a2.size) = true := decide_eq_true (by omega)
          clear c8
          have H' := Aside0.mk H
          clear H
          go_wp2
          go_meet
          case rel => exact ⟨_, (true), (by first | rfl | (simp; done) | (simp [*]; done)), H', ⟨by first | omega | exact Nat.le_refl _⟩, ⟨by repeat (first | (with_reducible first | exact HB.out | apply below_alloc | apply pw_below_drewN | apply below_drew1) | exact HB.out)⟩⟩
        · rw [if_neg c8] at H
          have c8b0 : decide (200 < (a2.size : Int)) = false := decide_eq_false c8
          have c8b1 : decide (200 < a2.size) = false := decide_eq_false (by omega)
          clear c8
          have H' := Aside0.mk H
          clear H
          go_wp2
          go_meet
          case rel => exact ⟨_, (decide ((a3.size : Int) > 200)), (by first | rfl | (simp; done) | (simp [*]; done)), H', ⟨by first | omega | exact Nat.le_refl _⟩, ⟨by repeat (first | (with_reducible first | exact HB.out | apply below_alloc | apply pw_below_drewN | apply below_drew1) | exact HB.out)⟩⟩
  case rest =>
    clear HC5
    try clear c1
    try clear p2
    try clear c4
    try clear c6
    try clear c6b0
    try clear c6b1
    try clear c7
    try clear c7b0
    try clear c7b1
    try clear c8
    try clear c8b0
    try clear c8b1
    obtain ⟨kq, x40_4, rfl, HA, HJ4, HB⟩ := hcut
    cases kq with
    | zero => exact absurd HA.out (by simp [clavigerlaw17_OidBack.j0])
    | succ kj4 =>
      have H := HA.out
      clear HA
      simp only [clavigerlaw17_OidBack.j0] at H
      by_cases c9 : x40_4 = true
      · subst c9
        have H1 : ((clavigerlaw17_awake.f kj4).bind fun t162 => (some t162)) = some r := by rw [if_pos rfl] at H; exact H
        clear H
        have H := H1
        clear H1
        replace H := Option.bind_eq_some_iff.mp H
        obtain ⟨t162, A100, H⟩ := H
        replace H : (some t162) = some r := H
        have A10 := Aside0.mk A100
        clear A100
        obtain rfl := Option.some.inj H
        go_wp2_with (first | ((with_reducible refine gate_callee (f := 5) rfl ?_); refine goesL_ (some 41) rfl rfl Tryd.func5 (by kernel_rfl) rfl #[] rfl (by (try simp only [List.map_toArray, List.map_cons, List.map_nil]); first | done | rfl | (simp only [List.length_drop, List.length_take]; rfl) | exact congrArg (fun z => #[Value.int .i64 z]) (w64 (by omega) (by omega)).symm) ?_; (with_reducible refine (clavigerlaw17_awake.calls kj4  t162 _ ?tb_ A10.out).mono ?_); (case tb_ => exact ⟨TB.below HT_.out (by repeat (first | (with_reducible first | exact HB.out | apply below_alloc | apply pw_below_drewN | apply below_drew1) | exact HB.out | exact Below.refl _ _))⟩); rintro e w11 ⟨rfl, hb⟩; refine ⟨_, rfl, ?_⟩; have n0_ := Aside0.mk (below_step (by repeat (first | (with_reducible first | exact HB.out | apply below_alloc | apply pw_below_drewN | apply below_drew1) | exact HB.out)) hb); clear HB; have HB := n0_; clear n0_; (try clear hb); (try clear hb2); (try clear hk); (try clear hi)))
        go_ret
        exact ⟨by first | rfl | (simp [errW_none, errW_some] <;> rfl) | (simp [*, errW_none, errW_some] <;> rfl), by repeat (first | (with_reducible first | exact HB.out | apply below_alloc | apply pw_below_drewN | apply below_drew1) | exact HB.out)⟩
      · replace c9 := Bool.eq_false_iff.mpr c9
        subst c9
        have H1 : ((oid_Encode.f kj4 l0).bind fun bt163 => ((oid_Encode.f kj4 l1).bind fun bt165 => (if bt163.2 = true then ((oid_Decode.f kj4 bt163.1).bind fun bt167 => ((oid_Text.f kj4 l0).bind fun t171 => ((oid_Parse.f kj4 t171).bind fun bt172 => ((slices_Equal_int_int.f kj4 bt167.1 l0).bind fun t176 => (if t176 = true then (if bt167.2 = true then ((slices_Equal_int_int.f kj4 bt172.1 l0).bind fun t177 => (if t177 = true then (if bt172.2 = true then (if bt165.2 = true then ((slices_Equal_int_int.f kj4 l0 l1).bind fun t178 => (if ((bt163.1.toList == bt165.1.toList) != t178) = true then (some false) else (clavigerlaw17_OidBack.j1 kj4 a2 a3))) else (clavigerlaw17_OidBack.j1 kj4 a2 a3)) else (some false)) else (some false))) else (some false)) else (some false)))))) else (clavigerlaw17_OidBack.j1 kj4 a2 a3)))) = some r := by rw [if_neg (show ¬ (false = true) by decide)] at H; exact H
        clear H
        have H := H1
        clear H1
        replace H := Option.bind_eq_some_iff.mp H
        obtain ⟨⟨t163, t164⟩, A120, H⟩ := H
        replace H : ((oid_Encode.f kj4 l1).bind fun bt165 => (if t164 = true then ((oid_Decode.f kj4 t163).bind fun bt167 => ((oid_Text.f kj4 l0).bind fun t171 => ((oid_Parse.f kj4 t171).bind fun bt172 => ((slices_Equal_int_int.f kj4 bt167.1 l0).bind fun t176 => (if t176 = true then (if bt167.2 = true then ((slices_Equal_int_int.f kj4 bt172.1 l0).bind fun t177 => (if t177 = true then (if bt172.2 = true then (if bt165.2 = true then ((slices_Equal_int_int.f kj4 l0 l1).bind fun t178 => (if ((t163.toList == bt165.1.toList) != t178) = true then (some false) else (clavigerlaw17_OidBack.j1 kj4 a2 a3))) else (clavigerlaw17_OidBack.j1 kj4 a2 a3)) else (some false)) else (some false))) else (some false)) else (some false)))))) else (clavigerlaw17_OidBack.j1 kj4 a2 a3))) = some r := H
        have A12 := Aside0.mk A120
        clear A120
        replace H := Option.bind_eq_some_iff.mp H
        obtain ⟨⟨t165, t166⟩, A130, H⟩ := H
        replace H : (if t164 = true then ((oid_Decode.f kj4 t163).bind fun bt167 => ((oid_Text.f kj4 l0).bind fun t171 => ((oid_Parse.f kj4 t171).bind fun bt172 => ((slices_Equal_int_int.f kj4 bt167.1 l0).bind fun t176 => (if t176 = true then (if bt167.2 = true then ((slices_Equal_int_int.f kj4 bt172.1 l0).bind fun t177 => (if t177 = true then (if bt172.2 = true then (if t166 = true then ((slices_Equal_int_int.f kj4 l0 l1).bind fun t178 => (if ((t163.toList == t165.toList) != t178) = true then (some false) else (clavigerlaw17_OidBack.j1 kj4 a2 a3))) else (clavigerlaw17_OidBack.j1 kj4 a2 a3)) else (some false)) else (some false))) else (some false)) else (some false)))))) else (clavigerlaw17_OidBack.j1 kj4 a2 a3)) = some r := H
        have A13 := Aside0.mk A130
        clear A130
        have HC14 := Aside0.mk H
        clear H
        go_upto_if 52 with (first | ((with_reducible refine gate_callee (f := 6) rfl ?_); refine goesL_ (some 44) rfl rfl Tryd.func6 (by kernel_rfl) rfl #[.slice A0 l0.length c0] rfl (by (try simp only [List.map_toArray, List.map_cons, List.map_nil]); first | done | rfl | (simp only [List.length_drop, List.length_take]; rfl) | exact congrArg (fun z => #[Value.int .i64 z]) (w64 (by omega) (by omega)).symm) ?_; (with_reducible refine (oid_Encode.calls kj4 _ _ l0 t163 t164 _ ?side1 ?side2 A12.out).mono ?_); (case side1 => repeat (first | exact (Kd.C_below HR0.out HB.out) | (with_reducible refine Kd.C_alloc ?_ _) | (with_reducible refine Kd.C_drewN ?_ _) | (with_reducible refine Kd.C_drew ?_))); (case side2 => exact HC0.out); rintro e w15 ⟨rfl, hb⟩; refine ⟨_, rfl, ?_⟩; have n0_ := Aside0.mk (below_step (by repeat (first | (with_reducible first | exact HB.out | apply below_alloc | apply pw_below_drewN | apply below_drew1) | exact HB.out)) hb); clear HB; have HB := n0_; clear n0_; (try clear hb); (try clear hb2); (try clear hk); (try clear hi)) | ((with_reducible refine gate_callee (f := 6) rfl ?_); refine goesL_ (some 49) rfl rfl Tryd.func6 (by kernel_rfl) rfl #[.slice A1 l1.length c1] rfl (by (try simp only [List.map_toArray, List.map_cons, List.map_nil]); first | done | rfl | (simp only [List.length_drop, List.length_take]; rfl) | exact congrArg (fun z => #[Value.int .i64 z]) (w64 (by omega) (by omega)).symm) ?_; (with_reducible refine (oid_Encode.calls kj4 _ _ l1 t165 t166 _ ?side1 ?side2 A13.out).mono ?_); (case side1 => repeat (first | exact (Kd.C_below HR1.out HB.out) | (with_reducible refine Kd.C_alloc ?_ _) | (with_reducible refine Kd.C_drewN ?_ _) | (with_reducible refine Kd.C_drew ?_))); (case side2 => exact HC1.out); rintro e w16 ⟨rfl, hb⟩; refine ⟨_, rfl, ?_⟩; have n0_ := Aside0.mk (below_step (by repeat (first | (with_reducible first | exact HB.out | apply below_alloc | apply pw_below_drewN | apply below_drew1) | exact HB.out)) hb); clear HB; have HB := n0_; clear n0_; (try clear hb); (try clear hb2); (try clear hk); (try clear hi)))
        (try simp only [Act.put, List.setIfInBounds_toArray, List.set_cons_zero, List.set_cons_succ])
        go_cut [] (fun wc => ∃ (kq : Nat), Aside0 (clavigerlaw17_OidBack.j1 kq a2 a3 = some r) ∧ Aside0 (kq ≤ kj4) ∧ Aside0 (Below w.heap.size w wc))
        case first =>
          have H := HC14.out
          clear HC14
          by_cases c17 : t164 = true
          · subst c17
            have H1 : ((oid_Decode.f kj4 t163).bind fun bt167 => ((oid_Text.f kj4 l0).bind fun t171 => ((oid_Parse.f kj4 t171).bind fun bt172 => ((slices_Equal_int_int.f kj4 bt167.1 l0).bind fun t176 => (if t176 = true then (if bt167.2 = true then ((slices_Equal_int_int.f kj4 bt172.1 l0).bind fun t177 => (if t177 = true then (if bt172.2 = true then (if t166 = true then ((slices_Equal_int_int.f kj4 l0 l1).bind fun t178 => (if ((t163.toList == t165.toList) != t178) = true then (some false) else (clavigerlaw17_OidBack.j1 kj4 a2 a3))) else (clavigerlaw17_OidBack.j1 kj4 a2 a3)) else (some false)) else (some false))) else (some false)) else (some false)))))) = some r := by rw [if_pos rfl] at H; exact H
            clear H
            have H := H1
            clear H1
            replace H := Option.bind_eq_some_iff.mp H
            obtain ⟨⟨t167, t168⟩, A180, H⟩ := H
            replace H : ((oid_Text.f kj4 l0).bind fun t171 => ((oid_Parse.f kj4 t171).bind fun bt172 => ((slices_Equal_int_int.f kj4 t167 l0).bind fun t176 => (if t176 = true then (if t168 = true then ((slices_Equal_int_int.f kj4 bt172.1 l0).bind fun t177 => (if t177 = true then (if bt172.2 = true then (if t166 = true then ((slices_Equal_int_int.f kj4 l0 l1).bind fun t178 => (if ((t163.toList == t165.toList) != t178) = true then (some false) else (clavigerlaw17_OidBack.j1 kj4 a2 a3))) else (clavigerlaw17_OidBack.j1 kj4 a2 a3)) else (some false)) else (some false))) else (some false)) else (some false))))) = some r := H
            have A18 := Aside0.mk A180
            clear A180
            replace H := Option.bind_eq_some_iff.mp H
            obtain ⟨t171, A190, H⟩ := H
            replace H : ((oid_Parse.f kj4 t171).bind fun bt172 => ((slices_Equal_int_int.f kj4 t167 l0).bind fun t176 => (if t176 = true then (if t168 = true then ((slices_Equal_int_int.f kj4 bt172.1 l0).bind fun t177 => (if t177 = true then (if bt172.2 = true then (if t166 = true then ((slices_Equal_int_int.f kj4 l0 l1).bind fun t178 => (if ((t163.toList == t165.toList) != t178) = true then (some false) else (clavigerlaw17_OidBack.j1 kj4 a2 a3))) else (clavigerlaw17_OidBack.j1 kj4 a2 a3)) else (some false)) else (some false))) else (some false)) else (some false)))) = some r := H
            have A19 := Aside0.mk A190
            clear A190
            replace H := Option.bind_eq_some_iff.mp H
            obtain ⟨⟨t172, t173⟩, A200, H⟩ := H
            replace H : ((slices_Equal_int_int.f kj4 t167 l0).bind fun t176 => (if t176 = true then (if t168 = true then ((slices_Equal_int_int.f kj4 t172 l0).bind fun t177 => (if t177 = true then (if t173 = true then (if t166 = true then ((slices_Equal_int_int.f kj4 l0 l1).bind fun t178 => (if ((t163.toList == t165.toList) != t178) = true then (some false) else (clavigerlaw17_OidBack.j1 kj4 a2 a3))) else (clavigerlaw17_OidBack.j1 kj4 a2 a3)) else (some false)) else (some false))) else (some false)) else (some false))) = some r := H
            have A20 := Aside0.mk A200
            clear A200
            replace H := Option.bind_eq_some_iff.mp H
            obtain ⟨t176, A210, H⟩ := H
            replace H : (if t176 = true then (if t168 = true then ((slices_Equal_int_int.f kj4 t172 l0).bind fun t177 => (if t177 = true then (if t173 = true then (if t166 = true then ((slices_Equal_int_int.f kj4 l0 l1).bind fun t178 => (if ((t163.toList == t165.toList) != t178) = true then (some false) else (clavigerlaw17_OidBack.j1 kj4 a2 a3))) else (clavigerlaw17_OidBack.j1 kj4 a2 a3)) else (some false)) else (some false))) else (some false)) else (some false)) = some r := H
            have A21 := Aside0.mk A210
            clear A210
            by_cases c22 : t176 = true
            · subst c22
              have H1 : (if t168 = true then ((slices_Equal_int_int.f kj4 t172 l0).bind fun t177 => (if t177 = true then (if t173 = true then (if t166 = true then ((slices_Equal_int_int.f kj4 l0 l1).bind fun t178 => (if ((t163.toList == t165.toList) != t178) = true then (some false) else (clavigerlaw17_OidBack.j1 kj4 a2 a3))) else (clavigerlaw17_OidBack.j1 kj4 a2 a3)) else (some false)) else (some false))) else (some false)) = some r := by rw [if_pos rfl] at H; exact H
              clear H
              have H := H1
              clear H1
              by_cases c23 : t168 = true
              · subst c23
                have H1 : ((slices_Equal_int_int.f kj4 t172 l0).bind fun t177 => (if t177 = true then (if t173 = true then (if t166 = true then ((slices_Equal_int_int.f kj4 l0 l1).bind fun t178 => (if ((t163.toList == t165.toList) != t178) = true then (some false) else (clavigerlaw17_OidBack.j1 kj4 a2 a3))) else (clavigerlaw17_OidBack.j1 kj4 a2 a3)) else (some false)) else (some false))) = some r := by rw [if_pos rfl] at H; exact H
                clear H
                have H := H1
                clear H1
                replace H := Option.bind_eq_some_iff.mp H
                obtain ⟨t177, A240, H⟩ := H
                replace H : (if t177 = true then (if t173 = true then (if t166 = true then ((slices_Equal_int_int.f kj4 l0 l1).bind fun t178 => (if ((t163.toList == t165.toList) != t178) = true then (some false) else (clavigerlaw17_OidBack.j1 kj4 a2 a3))) else (clavigerlaw17_OidBack.j1 kj4 a2 a3)) else (some false)) else (some false)) = some r := H
                have A24 := Aside0.mk A240
                clear A240
                by_cases c25 : t177 = true
                · subst c25
                  have H1 : (if t173 = true then (if t166 = true then ((slices_Equal_int_int.f kj4 l0 l1).bind fun t178 => (if ((t163.toList == t165.toList) != t178) = true then (some false) else (clavigerlaw17_OidBack.j1 kj4 a2 a3))) else (clavigerlaw17_OidBack.j1 kj4 a2 a3)) else (some false)) = some r := by rw [if_pos rfl] at H; exact H
                  clear H
                  have H := H1
                  clear H1
                  by_cases c26 : t173 = true
                  · subst c26
                    have H1 : (if t166 = true then ((slices_Equal_int_int.f kj4 l0 l1).bind fun t178 => (if ((t163.toList == t165.toList) != t178) = true then (some false) else (clavigerlaw17_OidBack.j1 kj4 a2 a3))) else (clavigerlaw17_OidBack.j1 kj4 a2 a3)) = some r := by rw [if_pos rfl] at H; exact H
                    clear H
                    have H := H1
                    clear H1
                    by_cases c27 : t166 = true
                    · subst c27
                      have H1 : ((slices_Equal_int_int.f kj4 l0 l1).bind fun t178 => (if ((t163.toList == t165.toList) != t178) = true then (some false) else (clavigerlaw17_OidBack.j1 kj4 a2 a3))) = some r := by rw [if_pos rfl] at H; exact H
                      clear H
                      have H := H1
                      clear H1
                      replace H := Option.bind_eq_some_iff.mp H
                      obtain ⟨t178, A280, H⟩ := H
                      replace H : (if ((t163.toList == t165.toList) != t178) = true then (some false) else (clavigerlaw17_OidBack.j1 kj4 a2 a3)) = some r := H
                      have A28 := Aside0.mk A280
                      clear A280
                      by_cases c29 : ((t163.toList == t165.toList) != t178) = true
                      · rw [if_pos c29] at H
                        have c29b0 : ((t163.toList == t165.toList) != t178) = true := c29
                        (try (have c29b1 : decide ((t163.toList == t165.toList) = t178) = false := by simpa using c29))
                        (try (have c29b2 : ((t163.toList == t165.toList) == t178) = false := by simpa using c29))
                        (try (have c29b3 : ¬ ((t163.toList == t165.toList) = t178) := by simpa using c29))
                        clear c29
                        (first | rw [c29b0] | (simp only [i64_w, i32_w]; rw [c29b0]) | skip)
                        exact absurd ((Option.some.inj H).trans HR_.out) (by decide)
                      · rw [if_neg c29] at H
                        have c29b0 : ((t163.toList == t165.toList) != t178) = false := by simpa using c29
                        (try (have c29b1 : decide ((t163.toList == t165.toList) = t178) = true := by simpa using c29))
                        (try (have c29b2 : ((t163.toList == t165.toList) == t178) = true := by simpa using c29))
                        clear c29
                        (first | rw [c29b0] | (simp only [i64_w, i32_w]; rw [c29b0]) | skip)
                        have H' := Aside0.mk H
                        clear H
                        go_wp2_with (first | ((with_reducible refine gate_callee (f := 8) rfl ?_); refine goesL_ (some 55) rfl rfl Tryd.func8 (by kernel_rfl) rfl #[.string t163] rfl (by (try simp only [List.map_toArray, List.map_cons, List.map_nil]); first | done | rfl | (simp only [List.length_drop, List.length_take]; rfl) | exact congrArg (fun z => #[Value.int .i64 z]) (w64 (by omega) (by omega)).symm) ?_; (with_reducible refine (oid_Decode.calls kj4 t163 t167 true _ A18.out).mono ?_); rintro e w30 ⟨v169, rfl, ho0, hb⟩; refine ⟨_, rfl, ?_⟩; have n0_ := Aside0.mk (Kd.R_lower ho0 (below_size (by repeat (first | (with_reducible first | exact HB.out | apply below_alloc | apply pw_below_drewN | apply below_drew1) | exact HB.out)))); have n1_ := Aside0.mk (below_step (by repeat (first | (with_reducible first | exact HB.out | apply below_alloc | apply pw_below_drewN | apply below_drew1) | exact HB.out)) hb); clear HB; have HO170 := n0_; have HB := n1_; clear n0_ n1_; (try clear hb); (try clear hb2); (try clear hk); (try clear hi); (try clear ho0)) | ((with_reducible refine gate_callee (f := 17) rfl ?_); refine goesL_ (some 60) rfl rfl Tryd.func17 (by kernel_rfl) rfl #[.slice A0 l0.length c0] rfl (by (try simp only [List.map_toArray, List.map_cons, List.map_nil]); first | done | rfl | (simp only [List.length_drop, List.length_take]; rfl) | exact congrArg (fun z => #[Value.int .i64 z]) (w64 (by omega) (by omega)).symm) ?_; (with_reducible refine (oid_Text.calls kj4 _ _ l0 t171 _ ?side1 ?side2 ?tb_ A19.out).mono ?_); (case tb_ => exact ⟨TB.below HT_.out (by repeat (first | (with_reducible first | exact HB.out | apply below_alloc | apply pw_below_drewN | apply below_drew1) | exact HB.out | exact Below.refl _ _))⟩); (case side1 => repeat (first | exact (Kd.C_below HR0.out HB.out) | (with_reducible refine Kd.C_alloc ?_ _) | (with_reducible refine Kd.C_drewN ?_ _) | (with_reducible refine Kd.C_drew ?_))); (case side2 => exact HC0.out); rintro e w31 ⟨rfl, hb⟩; refine ⟨_, rfl, ?_⟩; have n0_ := Aside0.mk (Kd.R_below (by (with_reducible repeat (first | apply Kd.R_alloc | apply Kd.R_drewN | apply Kd.R_drew)); exact HO170.out) hb); have n1_ := Aside0.mk (below_step (by repeat (first | (with_reducible first | exact HB.out | apply below_alloc | apply pw_below_drewN | apply below_drew1) | exact HB.out)) hb); clear HO170; clear HB; have HO170 := n0_; have HB := n1_; clear n0_ n1_; (try clear hb); (try clear hb2); (try clear hk); (try clear hi)) | ((with_reducible refine gate_callee (f := 15) rfl ?_); refine goesL_ (some 61) rfl rfl Tryd.func15 (by kernel_rfl) rfl #[.string t171] rfl (by (try simp only [List.map_toArray, List.map_cons, List.map_nil]); first | done | rfl | (simp only [List.length_drop, List.length_take]; rfl) | exact congrArg (fun z => #[Value.int .i64 z]) (w64 (by omega) (by omega)).symm) ?_; (with_reducible refine (oid_Parse.calls kj4 t171 t172 true _ ?tb_ A20.out).mono ?_); (case tb_ => exact ⟨TB.below HT_.out (by repeat (first | (with_reducible first | exact HB.out | apply below_alloc | apply pw_below_drewN | apply below_drew1) | exact HB.out | exact Below.refl _ _))⟩); rintro e w32 ⟨v174, rfl, ho0, hb⟩; refine ⟨_, rfl, ?_⟩; have n0_ := Aside0.mk (Kd.R_elder' (by (with_reducible repeat (first | apply Kd.R_alloc | apply Kd.R_drewN | apply Kd.R_drew)); exact HO170.out) (Kd.R_base ho0) hb); have n1_ := Aside0.mk (Kd.R_lower (Kd.R_new' ho0 (Kd.R_lt (by (with_reducible repeat (first | apply Kd.R_alloc | apply Kd.R_drewN | apply Kd.R_drew)); exact HO170.out))) (below_size (by repeat (first | (with_reducible first | exact HB.out | apply below_alloc | apply pw_below_drewN | apply below_drew1) | exact HB.out)))); have n2_ := Aside0.mk (below_step (by repeat (first | (with_reducible first | exact HB.out | apply below_alloc | apply pw_below_drewN | apply below_drew1) | exact HB.out)) hb); clear HO170; clear HB; have HO170 := n0_; have HO175 := n1_; have HB := n2_; clear n0_ n1_ n2_; (try clear hb); (try clear hb2); (try clear hk); (try clear hi); (try clear ho0); obtain ⟨Ao33, co33, eo33⟩ := Kd.R_slice HO170.out; subst eo33) | ((with_reducible refine gate_callee (f := 12) rfl ?_); refine goesL_ (some 66) rfl rfl Tryd.func12 (by kernel_rfl) rfl #[.slice Ao33 t167.length co33, .slice A0 l0.length c0] rfl (by (try simp only [List.map_toArray, List.map_cons, List.map_nil]); first | done | rfl | (simp only [List.length_drop, List.length_take]; rfl) | exact congrArg (fun z => #[Value.int .i64 z]) (w64 (by omega) (by omega)).symm) ?_; (with_reducible refine (slices_Equal_int_int.calls kj4 _ _ t167 _ _ l0 true _ ?side1 ?side2 ?side3 ?side4 A21.out).mono ?_); (case side1 => repeat (first | exact (Kd.R_reads' HO170.out).2.2 | (with_reducible refine Kd.C_alloc ?_ _) | (with_reducible refine Kd.C_drewN ?_ _) | (with_reducible refine Kd.C_drew ?_))); (case side2 => exact (Kd.R_reads' HO170.out).2.1); (case side3 => repeat (first | exact (Kd.C_below HR0.out HB.out) | (with_reducible refine Kd.C_alloc ?_ _) | (with_reducible refine Kd.C_drewN ?_ _) | (with_reducible refine Kd.C_drew ?_))); (case side4 => exact HC0.out); rintro e w' ⟨rfl, ⟨nd, rfl⟩⟩; refine ⟨_, rfl, ?_⟩; obtain ⟨Ao34, co34, eo34⟩ := Kd.R_slice HO175.out; subst eo34) | (go_at_call 12; (with_reducible refine (slices_Equal_int_int.calls kj4 _ _ t172 _ _ l0 true _ ?side1 ?side2 ?side3 ?side4 A24.out).mono ?_); (case side1 => repeat (first | exact (Kd.R_reads' HO175.out).2.2 | (with_reducible refine Kd.C_alloc ?_ _) | (with_reducible refine Kd.C_drewN ?_ _) | (with_reducible refine Kd.C_drew ?_))); (case side2 => exact (Kd.R_reads' HO175.out).2.1); (case side3 => repeat (first | exact (Kd.C_below HR0.out (by repeat (first | (with_reducible first | exact HB.out | apply below_alloc | apply pw_below_drewN | apply below_drew1) | exact HB.out))) | (with_reducible refine Kd.C_alloc ?_ _) | (with_reducible refine Kd.C_drewN ?_ _) | (with_reducible refine Kd.C_drew ?_))); (case side4 => exact HC0.out); rintro e w' ⟨rfl, ⟨nd, rfl⟩⟩) | (go_at_call 12; (with_reducible refine (slices_Equal_int_int.calls kj4 _ _ l0 _ _ l1 t178 _ ?side1 ?side2 ?side3 ?side4 A28.out).mono ?_); (case side1 => repeat (first | exact (Kd.C_below HR0.out (by repeat (first | (with_reducible first | exact HB.out | apply below_alloc | apply pw_below_drewN | apply below_drew1) | exact HB.out))) | (with_reducible refine Kd.C_alloc ?_ _) | (with_reducible refine Kd.C_drewN ?_ _) | (with_reducible refine Kd.C_drew ?_))); (case side2 => exact HC0.out); (case side3 => repeat (first | exact (Kd.C_below HR1.out (by repeat (first | (with_reducible first | exact HB.out | apply below_alloc | apply pw_below_drewN | apply below_drew1) | exact HB.out))) | (with_reducible refine Kd.C_alloc ?_ _) | (with_reducible refine Kd.C_drewN ?_ _) | (with_reducible refine Kd.C_drew ?_))); (case side4 => exact HC1.out); rintro e w' ⟨rfl, ⟨nd, rfl⟩⟩))
                        go_meet
                        case rel => exact ⟨_, H', ⟨by have := HJ4.out; first | omega | exact Nat.le_refl _⟩, ⟨by repeat (first | (with_reducible first | exact HB.out | apply below_alloc | apply pw_below_drewN | apply below_drew1) | exact HB.out)⟩⟩
                    · replace c27 := Bool.eq_false_iff.mpr c27
                      subst c27
                      have H1 : (clavigerlaw17_OidBack.j1 kj4 a2 a3) = some r := by rw [if_neg (show ¬ (false = true) by decide)] at H; exact H
                      clear H
                      have H := H1
                      clear H1
                      have H' := Aside0.mk H
                      clear H
                      go_wp2_with (first | ((with_reducible refine gate_callee (f := 8) rfl ?_); refine goesL_ (some 55) rfl rfl Tryd.func8 (by kernel_rfl) rfl #[.string t163] rfl (by (try simp only [List.map_toArray, List.map_cons, List.map_nil]); first | done | rfl | (simp only [List.length_drop, List.length_take]; rfl) | exact congrArg (fun z => #[Value.int .i64 z]) (w64 (by omega) (by omega)).symm) ?_; (with_reducible refine (oid_Decode.calls kj4 t163 t167 true _ A18.out).mono ?_); rintro e w35 ⟨v169, rfl, ho0, hb⟩; refine ⟨_, rfl, ?_⟩; have n0_ := Aside0.mk (Kd.R_lower ho0 (below_size (by repeat (first | (with_reducible first | exact HB.out | apply below_alloc | apply pw_below_drewN | apply below_drew1) | exact HB.out)))); have n1_ := Aside0.mk (below_step (by repeat (first | (with_reducible first | exact HB.out | apply below_alloc | apply pw_below_drewN | apply below_drew1) | exact HB.out)) hb); clear HB; have HO170 := n0_; have HB := n1_; clear n0_ n1_; (try clear hb); (try clear hb2); (try clear hk); (try clear hi); (try clear ho0)) | ((with_reducible refine gate_callee (f := 17) rfl ?_); refine goesL_ (some 60) rfl rfl Tryd.func17 (by kernel_rfl) rfl #[.slice A0 l0.length c0] rfl (by (try simp only [List.map_toArray, List.map_cons, List.map_nil]); first | done | rfl | (simp only [List.length_drop, List.length_take]; rfl) | exact congrArg (fun z => #[Value.int .i64 z]) (w64 (by omega) (by omega)).symm) ?_; (with_reducible refine (oid_Text.calls kj4 _ _ l0 t171 _ ?side1 ?side2 ?tb_ A19.out).mono ?_); (case tb_ => exact ⟨TB.below HT_.out (by repeat (first | (with_reducible first | exact HB.out | apply below_alloc | apply pw_below_drewN | apply below_drew1) | exact HB.out | exact Below.refl _ _))⟩); (case side1 => repeat (first | exact (Kd.C_below HR0.out HB.out) | (with_reducible refine Kd.C_alloc ?_ _) | (with_reducible refine Kd.C_drewN ?_ _) | (with_reducible refine Kd.C_drew ?_))); (case side2 => exact HC0.out); rintro e w36 ⟨rfl, hb⟩; refine ⟨_, rfl, ?_⟩; have n0_ := Aside0.mk (Kd.R_below (by (with_reducible repeat (first | apply Kd.R_alloc | apply Kd.R_drewN | apply Kd.R_drew)); exact HO170.out) hb); have n1_ := Aside0.mk (below_step (by repeat (first | (with_reducible first | exact HB.out | apply below_alloc | apply pw_below_drewN | apply below_drew1) | exact HB.out)) hb); clear HO170; clear HB; have HO170 := n0_; have HB := n1_; clear n0_ n1_; (try clear hb); (try clear hb2); (try clear hk); (try clear hi)) | ((with_reducible refine gate_callee (f := 15) rfl ?_); refine goesL_ (some 61) rfl rfl Tryd.func15 (by kernel_rfl) rfl #[.string t171] rfl (by (try simp only [List.map_toArray, List.map_cons, List.map_nil]); first | done | rfl | (simp only [List.length_drop, List.length_take]; rfl) | exact congrArg (fun z => #[Value.int .i64 z]) (w64 (by omega) (by omega)).symm) ?_; (with_reducible refine (oid_Parse.calls kj4 t171 t172 true _ ?tb_ A20.out).mono ?_); (case tb_ => exact ⟨TB.below HT_.out (by repeat (first | (with_reducible first | exact HB.out | apply below_alloc | apply pw_below_drewN | apply below_drew1) | exact HB.out | exact Below.refl _ _))⟩); rintro e w37 ⟨v174, rfl, ho0, hb⟩; refine ⟨_, rfl, ?_⟩; have n0_ := Aside0.mk (Kd.R_elder' (by (with_reducible repeat (first | apply Kd.R_alloc | apply Kd.R_drewN | apply Kd.R_drew)); exact HO170.out) (Kd.R_base ho0) hb); have n1_ := Aside0.mk (Kd.R_lower (Kd.R_new' ho0 (Kd.R_lt (by (with_reducible repeat (first | apply Kd.R_alloc | apply Kd.R_drewN | apply Kd.R_drew)); exact HO170.out))) (below_size (by repeat (first | (with_reducible first | exact HB.out | apply below_alloc | apply pw_below_drewN | apply below_drew1) | exact HB.out)))); have n2_ := Aside0.mk (below_step (by repeat (first | (with_reducible first | exact HB.out | apply below_alloc | apply pw_below_drewN | apply below_drew1) | exact HB.out)) hb); clear HO170; clear HB; have HO170 := n0_; have HO175 := n1_; have HB := n2_; clear n0_ n1_ n2_; (try clear hb); (try clear hb2); (try clear hk); (try clear hi); (try clear ho0); obtain ⟨Ao38, co38, eo38⟩ := Kd.R_slice HO170.out; subst eo38) | ((with_reducible refine gate_callee (f := 12) rfl ?_); refine goesL_ (some 66) rfl rfl Tryd.func12 (by kernel_rfl) rfl #[.slice Ao38 t167.length co38, .slice A0 l0.length c0] rfl (by (try simp only [List.map_toArray, List.map_cons, List.map_nil]); first | done | rfl | (simp only [List.length_drop, List.length_take]; rfl) | exact congrArg (fun z => #[Value.int .i64 z]) (w64 (by omega) (by omega)).symm) ?_; (with_reducible refine (slices_Equal_int_int.calls kj4 _ _ t167 _ _ l0 true _ ?side1 ?side2 ?side3 ?side4 A21.out).mono ?_); (case side1 => repeat (first | exact (Kd.R_reads' HO170.out).2.2 | (with_reducible refine Kd.C_alloc ?_ _) | (with_reducible refine Kd.C_drewN ?_ _) | (with_reducible refine Kd.C_drew ?_))); (case side2 => exact (Kd.R_reads' HO170.out).2.1); (case side3 => repeat (first | exact (Kd.C_below HR0.out HB.out) | (with_reducible refine Kd.C_alloc ?_ _) | (with_reducible refine Kd.C_drewN ?_ _) | (with_reducible refine Kd.C_drew ?_))); (case side4 => exact HC0.out); rintro e w' ⟨rfl, ⟨nd, rfl⟩⟩; refine ⟨_, rfl, ?_⟩; obtain ⟨Ao39, co39, eo39⟩ := Kd.R_slice HO175.out; subst eo39) | (go_at_call 12; (with_reducible refine (slices_Equal_int_int.calls kj4 _ _ t172 _ _ l0 true _ ?side1 ?side2 ?side3 ?side4 A24.out).mono ?_); (case side1 => repeat (first | exact (Kd.R_reads' HO175.out).2.2 | (with_reducible refine Kd.C_alloc ?_ _) | (with_reducible refine Kd.C_drewN ?_ _) | (with_reducible refine Kd.C_drew ?_))); (case side2 => exact (Kd.R_reads' HO175.out).2.1); (case side3 => repeat (first | exact (Kd.C_below HR0.out (by repeat (first | (with_reducible first | exact HB.out | apply below_alloc | apply pw_below_drewN | apply below_drew1) | exact HB.out))) | (with_reducible refine Kd.C_alloc ?_ _) | (with_reducible refine Kd.C_drewN ?_ _) | (with_reducible refine Kd.C_drew ?_))); (case side4 => exact HC0.out); rintro e w' ⟨rfl, ⟨nd, rfl⟩⟩))
                      go_meet
                      case rel => exact ⟨_, H', ⟨by have := HJ4.out; first | omega | exact Nat.le_refl _⟩, ⟨by repeat (first | (with_reducible first | exact HB.out | apply below_alloc | apply pw_below_drewN | apply below_drew1) | exact HB.out)⟩⟩
                  · replace c26 := Bool.eq_false_iff.mpr c26
                    subst c26
                    have H1 : (some false) = some r := by rw [if_neg (show ¬ (false = true) by decide)] at H; exact H
                    clear H
                    have H := H1
                    clear H1
                    exact absurd ((Option.some.inj H).trans HR_.out) (by decide)
                · replace c25 := Bool.eq_false_iff.mpr c25
                  subst c25
                  have H1 : (some false) = some r := by rw [if_neg (show ¬ (false = true) by decide)] at H; exact H
                  clear H
                  have H := H1
                  clear H1
                  exact absurd ((Option.some.inj H).trans HR_.out) (by decide)
              · replace c23 := Bool.eq_false_iff.mpr c23
                subst c23
                have H1 : (some false) = some r := by rw [if_neg (show ¬ (false = true) by decide)] at H; exact H
                clear H
                have H := H1
                clear H1
                exact absurd ((Option.some.inj H).trans HR_.out) (by decide)
            · replace c22 := Bool.eq_false_iff.mpr c22
              subst c22
              have H1 : (some false) = some r := by rw [if_neg (show ¬ (false = true) by decide)] at H; exact H
              clear H
              have H := H1
              clear H1
              exact absurd ((Option.some.inj H).trans HR_.out) (by decide)
          · replace c17 := Bool.eq_false_iff.mpr c17
            subst c17
            have H1 : (clavigerlaw17_OidBack.j1 kj4 a2 a3) = some r := by rw [if_neg (show ¬ (false = true) by decide)] at H; exact H
            clear H
            have H := H1
            clear H1
            have H' := Aside0.mk H
            clear H
            go_wp2
            go_meet
            case rel => exact ⟨_, H', ⟨by have := HJ4.out; first | omega | exact Nat.le_refl _⟩, ⟨by repeat (first | (with_reducible first | exact HB.out | apply below_alloc | apply pw_below_drewN | apply below_drew1) | exact HB.out)⟩⟩
        case rest =>
          clear HC14
          try clear c1
          try clear c2
          try clear p2
          try clear c4
          try clear c5
          try clear c6
          try clear c6b0
          try clear c6b1
          try clear c7
          try clear c7b0
          try clear c7b1
          try clear c8
          try clear c8b0
          try clear c8b1
          try clear c9
          try clear c12
          try clear c15
          try clear c17
          try clear c22
          try clear c23
          try clear c25
          try clear c26
          try clear c27
          try clear c29
          try clear c29b0
          try clear c29b1
          try clear c29b2
          try clear p2
          obtain ⟨kq, HA, HJ13, HB⟩ := hcut
          cases kq with
          | zero => exact absurd HA.out (by simp [clavigerlaw17_OidBack.j1])
          | succ kj13 =>
            have H := HA.out
            clear HA
            simp only [clavigerlaw17_OidBack.j1] at H
            replace H := Option.bind_eq_some_iff.mp H
            obtain ⟨⟨t179, t180⟩, A400, H⟩ := H
            replace H : (if t180 = true then ((oid_Encode.f kj13 t179).bind fun bt183 => (if bt183.1.toList = a2.toList then (clavigerlaw17_OidBack.j2 kj13 a3 (!bt183.2)) else (clavigerlaw17_OidBack.j2 kj13 a3 true))) else ((oid_Parse.f kj13 a3).bind fun bt192 => (if bt192.2 = true then ((oid_Text.f kj13 bt192.1).bind fun t196 => (if t196.toList = a3.toList then ((clavigerlaw17_awake.f kj13).bind fun t197 => (some t197)) else (some false))) else ((clavigerlaw17_awake.f kj13).bind fun t198 => (some t198))))) = some r := H
            have A40 := Aside0.mk A400
            clear A400
            by_cases c41 : t180 = true
            · subst c41
              have H1 : ((oid_Encode.f kj13 t179).bind fun bt183 => (if bt183.1.toList = a2.toList then (clavigerlaw17_OidBack.j2 kj13 a3 (!bt183.2)) else (clavigerlaw17_OidBack.j2 kj13 a3 true))) = some r := by rw [if_pos rfl] at H; exact H
              clear H
              have H := H1
              clear H1
              replace H := Option.bind_eq_some_iff.mp H
              obtain ⟨⟨t183, t184⟩, A420, H⟩ := H
              replace H : (if t183.toList = a2.toList then (clavigerlaw17_OidBack.j2 kj13 a3 (!t184)) else (clavigerlaw17_OidBack.j2 kj13 a3 true)) = some r := H
              have A42 := Aside0.mk A420
              clear A420
              have HC43 := Aside0.mk H
              clear H
              go_upto_region 13 with (first | ((with_reducible refine gate_callee (f := 8) rfl ?_); refine goesL_ (some 96) rfl rfl Tryd.func8 (by kernel_rfl) rfl #[.string a2] rfl (by (try simp only [List.map_toArray, List.map_cons, List.map_nil]); first | done | rfl | (simp only [List.length_drop, List.length_take]; rfl) | exact congrArg (fun z => #[Value.int .i64 z]) (w64 (by omega) (by omega)).symm) ?_; (with_reducible refine (oid_Decode.calls kj13 a2 t179 true _ A40.out).mono ?_); rintro e w44 ⟨v181, rfl, ho0, hb⟩; refine ⟨_, rfl, ?_⟩; have n0_ := Aside0.mk (Kd.R_lower ho0 (below_size (by repeat (first | (with_reducible first | exact HB.out | apply below_alloc | apply pw_below_drewN | apply below_drew1) | exact HB.out)))); have n1_ := Aside0.mk (below_step (by repeat (first | (with_reducible first | exact HB.out | apply below_alloc | apply pw_below_drewN | apply below_drew1) | exact HB.out)) hb); clear HB; have HO182 := n0_; have HB := n1_; clear n0_ n1_; (try clear hb); (try clear hb2); (try clear hk); (try clear hi); (try clear ho0); obtain ⟨Ao45, co45, eo45⟩ := Kd.R_slice HO182.out; subst eo45) | ((with_reducible refine gate_callee (f := 6) rfl ?_); refine goesL_ (some 102) rfl rfl Tryd.func6 (by kernel_rfl) rfl #[.slice Ao45 t179.length co45] rfl (by (try simp only [List.map_toArray, List.map_cons, List.map_nil]); first | done | rfl | (simp only [List.length_drop, List.length_take]; rfl) | exact congrArg (fun z => #[Value.int .i64 z]) (w64 (by omega) (by omega)).symm) ?_; (with_reducible refine (oid_Encode.calls kj13 _ _ t179 t183 t184 _ ?side1 ?side2 A42.out).mono ?_); (case side1 => repeat (first | exact (Kd.R_reads' HO182.out).2.2 | (with_reducible refine Kd.C_alloc ?_ _) | (with_reducible refine Kd.C_drewN ?_ _) | (with_reducible refine Kd.C_drew ?_))); (case side2 => exact (Kd.R_reads' HO182.out).2.1); rintro e w46 ⟨rfl, hb⟩; refine ⟨_, rfl, ?_⟩; have n0_ := Aside0.mk (Kd.R_below (by (with_reducible repeat (first | apply Kd.R_alloc | apply Kd.R_drewN | apply Kd.R_drew)); exact HO182.out) hb); have n1_ := Aside0.mk (below_step (by repeat (first | (with_reducible first | exact HB.out | apply below_alloc | apply pw_below_drewN | apply below_drew1) | exact HB.out)) hb); clear HO182; clear HB; have HO182 := n0_; have HB := n1_; clear n0_ n1_; (try clear hb); (try clear hb2); (try clear hk); (try clear hi)))
              (try simp only [Act.put, List.setIfInBounds_toArray, List.set_cons_zero, List.set_cons_succ])
              go_cut [111] (fun v111 wc => ∃ (kq : Nat) (x111_42 : Bool), v111 = .bool x111_42 ∧ Aside0 (clavigerlaw17_OidBack.j2 kq a3 x111_42 = some r) ∧ Aside0 (kq ≤ kj13) ∧ Aside0 (Below w.heap.size w wc))
              case first =>
                have H := HC43.out
                clear HC43
                by_cases c47 : t183.toList = a2.toList
                · rw [if_pos c47] at H
                  have c47b0 : (t183.toList == a2.toList) = true := beq_iff_eq.mpr c47
                  have c47b1 : (t183.toList != a2.toList) = false := bne_eq_false_iff_eq.mpr c47
                  clear c47
                  (first | rw [c47b0] | (simp only [i64_w, i32_w]; rw [c47b0]) | skip)
                  have H' := Aside0.mk H
                  clear H
                  go_wp2
                  go_meet
                  case rel => exact ⟨_, (!t184), (by first | rfl | (simp; done) | (simp [*]; done)), H', ⟨by have := HJ4.out; have := HJ13.out; first | omega | exact Nat.le_refl _⟩, ⟨by repeat (first | (with_reducible first | exact HB.out | apply below_alloc | apply pw_below_drewN | apply below_drew1) | exact HB.out)⟩⟩
                · rw [if_neg c47] at H
                  have c47b0 : (t183.toList == a2.toList) = false := beq_eq_false_iff_ne.mpr c47
                  have c47b1 : (t183.toList != a2.toList) = true := bne_iff_ne.mpr c47
                  (first | rw [c47b0] | (simp only [i64_w, i32_w]; rw [c47b0]) | skip)
                  have H' := Aside0.mk H
                  clear H
                  go_wp2
                  go_meet
                  case rel => exact ⟨_, (true), (by first | rfl | (simp; done) | (simp [*]; done)), H', ⟨by have := HJ4.out; have := HJ13.out; first | omega | exact Nat.le_refl _⟩, ⟨by repeat (first | (with_reducible first | exact HB.out | apply below_alloc | apply pw_below_drewN | apply below_drew1) | exact HB.out)⟩⟩
              case rest =>
                clear HC43
                try clear c1
                try clear c2
                try clear p2
                try clear c4
                try clear c5
                try clear c6
                try clear c6b0
                try clear c6b1
                try clear c7
                try clear c7b0
                try clear c7b1
                try clear c8
                try clear c8b0
                try clear c8b1
                try clear c9
                try clear c12
                try clear c15
                try clear c17
                try clear c22
                try clear c23
                try clear c25
                try clear c26
                try clear c27
                try clear c29
                try clear c29b0
                try clear c29b1
                try clear c29b2
                try clear c41
                try clear c47
                try clear c47b0
                try clear c47b1
                try clear p2
                obtain ⟨kq, x111_42, rfl, HA, HJ42, HB⟩ := hcut
                cases kq with
                | zero => exact absurd HA.out (by simp [clavigerlaw17_OidBack.j2])
                | succ kj42 =>
                  have H := HA.out
                  clear HA
                  simp only [clavigerlaw17_OidBack.j2] at H
                  by_cases c48 : x111_42 = true
                  · subst c48
                    have H1 : (some false) = some r := by rw [if_pos rfl] at H; exact H
                    clear H
                    have H := H1
                    clear H1
                    exact absurd ((Option.some.inj H).trans HR_.out) (by decide)
                  · replace c48 := Bool.eq_false_iff.mpr c48
                    subst c48
                    have H1 : ((oid_Parse.f kj42 a3).bind fun bt185 => (if bt185.2 = true then ((oid_Text.f kj42 bt185.1).bind fun t189 => (if t189.toList = a3.toList then ((clavigerlaw17_awake.f kj42).bind fun t190 => (some t190)) else (some false))) else ((clavigerlaw17_awake.f kj42).bind fun t191 => (some t191)))) = some r := by rw [if_neg (show ¬ (false = true) by decide)] at H; exact H
                    clear H
                    have H := H1
                    clear H1
                    replace H := Option.bind_eq_some_iff.mp H
                    obtain ⟨⟨t185, t186⟩, A490, H⟩ := H
                    replace H : (if t186 = true then ((oid_Text.f kj42 t185).bind fun t189 => (if t189.toList = a3.toList then ((clavigerlaw17_awake.f kj42).bind fun t190 => (some t190)) else (some false))) else ((clavigerlaw17_awake.f kj42).bind fun t191 => (some t191))) = some r := H
                    have A49 := Aside0.mk A490
                    clear A490
                    by_cases c50 : t186 = true
                    · subst c50
                      have H1 : ((oid_Text.f kj42 t185).bind fun t189 => (if t189.toList = a3.toList then ((clavigerlaw17_awake.f kj42).bind fun t190 => (some t190)) else (some false))) = some r := by rw [if_pos rfl] at H; exact H
                      clear H
                      have H := H1
                      clear H1
                      replace H := Option.bind_eq_some_iff.mp H
                      obtain ⟨t189, A510, H⟩ := H
                      replace H : (if t189.toList = a3.toList then ((clavigerlaw17_awake.f kj42).bind fun t190 => (some t190)) else (some false)) = some r := H
                      have A51 := Aside0.mk A510
                      clear A510
                      by_cases c52 : t189.toList = a3.toList
                      · rw [if_pos c52] at H
                        have c52b0 : (t189.toList == a3.toList) = true := beq_iff_eq.mpr c52
                        have c52b1 : (t189.toList != a3.toList) = false := bne_eq_false_iff_eq.mpr c52
                        clear c52
                        replace H := Option.bind_eq_some_iff.mp H
                        obtain ⟨t190, A530, H⟩ := H
                        replace H : (some t190) = some r := H
                        have A53 := Aside0.mk A530
                        clear A530
                        obtain rfl := Option.some.inj H
                        go_wp2_with (first | ((with_reducible refine gate_callee (f := 15) rfl ?_); refine goesL_ (some 114) rfl rfl Tryd.func15 (by kernel_rfl) rfl #[.string a3] rfl (by (try simp only [List.map_toArray, List.map_cons, List.map_nil]); first | done | rfl | (simp only [List.length_drop, List.length_take]; rfl) | exact congrArg (fun z => #[Value.int .i64 z]) (w64 (by omega) (by omega)).symm) ?_; (with_reducible refine (oid_Parse.calls kj42 a3 t185 true _ ?tb_ A49.out).mono ?_); (case tb_ => exact ⟨TB.below HT_.out (by repeat (first | (with_reducible first | exact HB.out | apply below_alloc | apply pw_below_drewN | apply below_drew1) | exact HB.out | exact Below.refl _ _))⟩); rintro e w54 ⟨v187, rfl, ho0, hb⟩; refine ⟨_, rfl, ?_⟩; have n0_ := Aside0.mk (Kd.R_lower ho0 (below_size (by repeat (first | (with_reducible first | exact HB.out | apply below_alloc | apply pw_below_drewN | apply below_drew1) | exact HB.out)))); have n1_ := Aside0.mk (below_step (by repeat (first | (with_reducible first | exact HB.out | apply below_alloc | apply pw_below_drewN | apply below_drew1) | exact HB.out)) hb); clear HB; have HO188 := n0_; have HB := n1_; clear n0_ n1_; (try clear hb); (try clear hb2); (try clear hk); (try clear hi); (try clear ho0); obtain ⟨Ao55, co55, eo55⟩ := Kd.R_slice HO188.out; subst eo55) | (go_at_call 17; (with_reducible refine (oid_Text.calls kj42 _ _ t185 t189 _ ?side1 ?side2 ?tb_ A51.out).mono ?_); (case tb_ => exact ⟨TB.below HT_.out (by repeat (first | (with_reducible first | exact HB.out | apply below_alloc | apply pw_below_drewN | apply below_drew1) | exact HB.out | exact Below.refl _ _))⟩); (case side1 => repeat (first | exact (Kd.R_reads' HO188.out).2.2 | (with_reducible refine Kd.C_alloc ?_ _) | (with_reducible refine Kd.C_drewN ?_ _) | (with_reducible refine Kd.C_drew ?_))); (case side2 => exact (Kd.R_reads' HO188.out).2.1); rintro e w56 ⟨rfl, hb⟩; have n0_ := Aside0.mk (Kd.R_below (by (with_reducible repeat (first | apply Kd.R_alloc | apply Kd.R_drewN | apply Kd.R_drew)); exact HO188.out) hb); have n1_ := Aside0.mk (below_step (by repeat (first | (with_reducible first | exact HB.out | apply below_alloc | apply pw_below_drewN | apply below_drew1) | exact HB.out)) hb); clear HO188; clear HB; have HO188 := n0_; have HB := n1_; clear n0_ n1_; (try clear hb); (try clear hb2); (try clear hk); (try clear hi)) | (go_at_call 5; (with_reducible refine (clavigerlaw17_awake.calls kj42  t190 _ ?tb_ A53.out).mono ?_); (case tb_ => exact ⟨TB.below HT_.out (by repeat (first | (with_reducible first | exact HB.out | apply below_alloc | apply pw_below_drewN | apply below_drew1) | exact HB.out | exact Below.refl _ _))⟩); rintro e w57 ⟨rfl, hb⟩; have n0_ := Aside0.mk (Kd.R_below (by (with_reducible repeat (first | apply Kd.R_alloc | apply Kd.R_drewN | apply Kd.R_drew)); exact HO188.out) hb); have n1_ := Aside0.mk (below_step (by repeat (first | (with_reducible first | exact HB.out | apply below_alloc | apply pw_below_drewN | apply below_drew1) | exact HB.out)) hb); clear HO188; clear HB; have HO188 := n0_; have HB := n1_; clear n0_ n1_; (try clear hb); (try clear hb2); (try clear hk); (try clear hi)))
                        go_ret
                        exact ⟨by first | rfl | (simp [errW_none, errW_some] <;> rfl) | (simp [*, errW_none, errW_some] <;> rfl), by repeat (first | (with_reducible first | exact HB.out | apply below_alloc | apply pw_below_drewN | apply below_drew1) | exact HB.out)⟩
                      · rw [if_neg c52] at H
                        have c52b0 : (t189.toList == a3.toList) = false := beq_eq_false_iff_ne.mpr c52
                        have c52b1 : (t189.toList != a3.toList) = true := bne_iff_ne.mpr c52
                        exact absurd ((Option.some.inj H).trans HR_.out) (by decide)
                    · replace c50 := Bool.eq_false_iff.mpr c50
                      subst c50
                      have H1 : ((clavigerlaw17_awake.f kj42).bind fun t191 => (some t191)) = some r := by rw [if_neg (show ¬ (false = true) by decide)] at H; exact H
                      clear H
                      have H := H1
                      clear H1
                      replace H := Option.bind_eq_some_iff.mp H
                      obtain ⟨t191, A580, H⟩ := H
                      replace H : (some t191) = some r := H
                      have A58 := Aside0.mk A580
                      clear A580
                      obtain rfl := Option.some.inj H
                      go_wp2_with (first | ((with_reducible refine gate_callee (f := 15) rfl ?_); refine goesL_ (some 114) rfl rfl Tryd.func15 (by kernel_rfl) rfl #[.string a3] rfl (by (try simp only [List.map_toArray, List.map_cons, List.map_nil]); first | done | rfl | (simp only [List.length_drop, List.length_take]; rfl) | exact congrArg (fun z => #[Value.int .i64 z]) (w64 (by omega) (by omega)).symm) ?_; (with_reducible refine (oid_Parse.calls kj42 a3 t185 false _ ?tb_ A49.out).mono ?_); (case tb_ => exact ⟨TB.below HT_.out (by repeat (first | (with_reducible first | exact HB.out | apply below_alloc | apply pw_below_drewN | apply below_drew1) | exact HB.out | exact Below.refl _ _))⟩); rintro e w59 ⟨v187, rfl, ho0, hb⟩; refine ⟨_, rfl, ?_⟩; have n0_ := Aside0.mk (Kd.R_lower ho0 (below_size (by repeat (first | (with_reducible first | exact HB.out | apply below_alloc | apply pw_below_drewN | apply below_drew1) | exact HB.out)))); have n1_ := Aside0.mk (below_step (by repeat (first | (with_reducible first | exact HB.out | apply below_alloc | apply pw_below_drewN | apply below_drew1) | exact HB.out)) hb); clear HB; have HO188 := n0_; have HB := n1_; clear n0_ n1_; (try clear hb); (try clear hb2); (try clear hk); (try clear hi); (try clear ho0)) | (go_at_call 5; (with_reducible refine (clavigerlaw17_awake.calls kj42  t191 _ ?tb_ A58.out).mono ?_); (case tb_ => exact ⟨TB.below HT_.out (by repeat (first | (with_reducible first | exact HB.out | apply below_alloc | apply pw_below_drewN | apply below_drew1) | exact HB.out | exact Below.refl _ _))⟩); rintro e w60 ⟨rfl, hb⟩; have n0_ := Aside0.mk (Kd.R_below (by (with_reducible repeat (first | apply Kd.R_alloc | apply Kd.R_drewN | apply Kd.R_drew)); exact HO188.out) hb); have n1_ := Aside0.mk (below_step (by repeat (first | (with_reducible first | exact HB.out | apply below_alloc | apply pw_below_drewN | apply below_drew1) | exact HB.out)) hb); clear HO188; clear HB; have HO188 := n0_; have HB := n1_; clear n0_ n1_; (try clear hb); (try clear hb2); (try clear hk); (try clear hi)))
                      go_ret
                      exact ⟨by first | rfl | (simp [errW_none, errW_some] <;> rfl) | (simp [*, errW_none, errW_some] <;> rfl), by repeat (first | (with_reducible first | exact HB.out | apply below_alloc | apply pw_below_drewN | apply below_drew1) | exact HB.out)⟩
            · replace c41 := Bool.eq_false_iff.mpr c41
              subst c41
              have H1 : ((oid_Parse.f kj13 a3).bind fun bt192 => (if bt192.2 = true then ((oid_Text.f kj13 bt192.1).bind fun t196 => (if t196.toList = a3.toList then ((clavigerlaw17_awake.f kj13).bind fun t197 => (some t197)) else (some false))) else ((clavigerlaw17_awake.f kj13).bind fun t198 => (some t198)))) = some r := by rw [if_neg (show ¬ (false = true) by decide)] at H; exact H
              clear H
              have H := H1
              clear H1
              replace H := Option.bind_eq_some_iff.mp H
              obtain ⟨⟨t192, t193⟩, A610, H⟩ := H
              replace H : (if t193 = true then ((oid_Text.f kj13 t192).bind fun t196 => (if t196.toList = a3.toList then ((clavigerlaw17_awake.f kj13).bind fun t197 => (some t197)) else (some false))) else ((clavigerlaw17_awake.f kj13).bind fun t198 => (some t198))) = some r := H
              have A61 := Aside0.mk A610
              clear A610
              by_cases c62 : t193 = true
              · subst c62
                have H1 : ((oid_Text.f kj13 t192).bind fun t196 => (if t196.toList = a3.toList then ((clavigerlaw17_awake.f kj13).bind fun t197 => (some t197)) else (some false))) = some r := by rw [if_pos rfl] at H; exact H
                clear H
                have H := H1
                clear H1
                replace H := Option.bind_eq_some_iff.mp H
                obtain ⟨t196, A630, H⟩ := H
                replace H : (if t196.toList = a3.toList then ((clavigerlaw17_awake.f kj13).bind fun t197 => (some t197)) else (some false)) = some r := H
                have A63 := Aside0.mk A630
                clear A630
                by_cases c64 : t196.toList = a3.toList
                · rw [if_pos c64] at H
                  have c64b0 : (t196.toList == a3.toList) = true := beq_iff_eq.mpr c64
                  have c64b1 : (t196.toList != a3.toList) = false := bne_eq_false_iff_eq.mpr c64
                  clear c64
                  replace H := Option.bind_eq_some_iff.mp H
                  obtain ⟨t197, A650, H⟩ := H
                  replace H : (some t197) = some r := H
                  have A65 := Aside0.mk A650
                  clear A650
                  obtain rfl := Option.some.inj H
                  go_wp2_with (first | ((with_reducible refine gate_callee (f := 8) rfl ?_); refine goesL_ (some 96) rfl rfl Tryd.func8 (by kernel_rfl) rfl #[.string a2] rfl (by (try simp only [List.map_toArray, List.map_cons, List.map_nil]); first | done | rfl | (simp only [List.length_drop, List.length_take]; rfl) | exact congrArg (fun z => #[Value.int .i64 z]) (w64 (by omega) (by omega)).symm) ?_; (with_reducible refine (oid_Decode.calls kj13 a2 t179 false _ A40.out).mono ?_); rintro e w66 ⟨v181, rfl, ho0, hb⟩; refine ⟨_, rfl, ?_⟩; have n0_ := Aside0.mk (Kd.R_lower ho0 (below_size (by repeat (first | (with_reducible first | exact HB.out | apply below_alloc | apply pw_below_drewN | apply below_drew1) | exact HB.out)))); have n1_ := Aside0.mk (below_step (by repeat (first | (with_reducible first | exact HB.out | apply below_alloc | apply pw_below_drewN | apply below_drew1) | exact HB.out)) hb); clear HB; have HO182 := n0_; have HB := n1_; clear n0_ n1_; (try clear hb); (try clear hb2); (try clear hk); (try clear hi); (try clear ho0)) | ((with_reducible refine gate_callee (f := 15) rfl ?_); refine goesL_ (some 114) rfl rfl Tryd.func15 (by kernel_rfl) rfl #[.string a3] rfl (by (try simp only [List.map_toArray, List.map_cons, List.map_nil]); first | done | rfl | (simp only [List.length_drop, List.length_take]; rfl) | exact congrArg (fun z => #[Value.int .i64 z]) (w64 (by omega) (by omega)).symm) ?_; (with_reducible refine (oid_Parse.calls kj13 a3 t192 true _ ?tb_ A61.out).mono ?_); (case tb_ => exact ⟨TB.below HT_.out (by repeat (first | (with_reducible first | exact HB.out | apply below_alloc | apply pw_below_drewN | apply below_drew1) | exact HB.out | exact Below.refl _ _))⟩); rintro e w67 ⟨v194, rfl, ho0, hb⟩; refine ⟨_, rfl, ?_⟩; have n0_ := Aside0.mk (Kd.R_elder' (by (with_reducible repeat (first | apply Kd.R_alloc | apply Kd.R_drewN | apply Kd.R_drew)); exact HO182.out) (Kd.R_base ho0) hb); have n1_ := Aside0.mk (Kd.R_lower (Kd.R_new' ho0 (Kd.R_lt (by (with_reducible repeat (first | apply Kd.R_alloc | apply Kd.R_drewN | apply Kd.R_drew)); exact HO182.out))) (below_size (by repeat (first | (with_reducible first | exact HB.out | apply below_alloc | apply pw_below_drewN | apply below_drew1) | exact HB.out)))); have n2_ := Aside0.mk (below_step (by repeat (first | (with_reducible first | exact HB.out | apply below_alloc | apply pw_below_drewN | apply below_drew1) | exact HB.out)) hb); clear HO182; clear HB; have HO182 := n0_; have HO195 := n1_; have HB := n2_; clear n0_ n1_ n2_; (try clear hb); (try clear hb2); (try clear hk); (try clear hi); (try clear ho0); obtain ⟨Ao68, co68, eo68⟩ := Kd.R_slice HO195.out; subst eo68) | (go_at_call 17; (with_reducible refine (oid_Text.calls kj13 _ _ t192 t196 _ ?side1 ?side2 ?tb_ A63.out).mono ?_); (case tb_ => exact ⟨TB.below HT_.out (by repeat (first | (with_reducible first | exact HB.out | apply below_alloc | apply pw_below_drewN | apply below_drew1) | exact HB.out | exact Below.refl _ _))⟩); (case side1 => repeat (first | exact (Kd.R_reads' HO195.out).2.2 | (with_reducible refine Kd.C_alloc ?_ _) | (with_reducible refine Kd.C_drewN ?_ _) | (with_reducible refine Kd.C_drew ?_))); (case side2 => exact (Kd.R_reads' HO195.out).2.1); rintro e w69 ⟨rfl, hb⟩; have n0_ := Aside0.mk (Kd.R_below (by (with_reducible repeat (first | apply Kd.R_alloc | apply Kd.R_drewN | apply Kd.R_drew)); exact HO182.out) hb); have n1_ := Aside0.mk (Kd.R_below (by (with_reducible repeat (first | apply Kd.R_alloc | apply Kd.R_drewN | apply Kd.R_drew)); exact HO195.out) hb); have n2_ := Aside0.mk (below_step (by repeat (first | (with_reducible first | exact HB.out | apply below_alloc | apply pw_below_drewN | apply below_drew1) | exact HB.out)) hb); clear HO182; clear HO195; clear HB; have HO182 := n0_; have HO195 := n1_; have HB := n2_; clear n0_ n1_ n2_; (try clear hb); (try clear hb2); (try clear hk); (try clear hi)) | (go_at_call 5; (with_reducible refine (clavigerlaw17_awake.calls kj13  t197 _ ?tb_ A65.out).mono ?_); (case tb_ => exact ⟨TB.below HT_.out (by repeat (first | (with_reducible first | exact HB.out | apply below_alloc | apply pw_below_drewN | apply below_drew1) | exact HB.out | exact Below.refl _ _))⟩); rintro e w70 ⟨rfl, hb⟩; have n0_ := Aside0.mk (Kd.R_below (by (with_reducible repeat (first | apply Kd.R_alloc | apply Kd.R_drewN | apply Kd.R_drew)); exact HO182.out) hb); have n1_ := Aside0.mk (Kd.R_below (by (with_reducible repeat (first | apply Kd.R_alloc | apply Kd.R_drewN | apply Kd.R_drew)); exact HO195.out) hb); have n2_ := Aside0.mk (below_step (by repeat (first | (with_reducible first | exact HB.out | apply below_alloc | apply pw_below_drewN | apply below_drew1) | exact HB.out)) hb); clear HO182; clear HO195; clear HB; have HO182 := n0_; have HO195 := n1_; have HB := n2_; clear n0_ n1_ n2_; (try clear hb); (try clear hb2); (try clear hk); (try clear hi)))
                  go_ret
                  exact ⟨by first | rfl | (simp [errW_none, errW_some] <;> rfl) | (simp [*, errW_none, errW_some] <;> rfl), by repeat (first | (with_reducible first | exact HB.out | apply below_alloc | apply pw_below_drewN | apply below_drew1) | exact HB.out)⟩
                · rw [if_neg c64] at H
                  have c64b0 : (t196.toList == a3.toList) = false := beq_eq_false_iff_ne.mpr c64
                  have c64b1 : (t196.toList != a3.toList) = true := bne_iff_ne.mpr c64
                  exact absurd ((Option.some.inj H).trans HR_.out) (by decide)
              · replace c62 := Bool.eq_false_iff.mpr c62
                subst c62
                have H1 : ((clavigerlaw17_awake.f kj13).bind fun t198 => (some t198)) = some r := by rw [if_neg (show ¬ (false = true) by decide)] at H; exact H
                clear H
                have H := H1
                clear H1
                replace H := Option.bind_eq_some_iff.mp H
                obtain ⟨t198, A710, H⟩ := H
                replace H : (some t198) = some r := H
                have A71 := Aside0.mk A710
                clear A710
                obtain rfl := Option.some.inj H
                go_wp2_with (first | ((with_reducible refine gate_callee (f := 8) rfl ?_); refine goesL_ (some 96) rfl rfl Tryd.func8 (by kernel_rfl) rfl #[.string a2] rfl (by (try simp only [List.map_toArray, List.map_cons, List.map_nil]); first | done | rfl | (simp only [List.length_drop, List.length_take]; rfl) | exact congrArg (fun z => #[Value.int .i64 z]) (w64 (by omega) (by omega)).symm) ?_; (with_reducible refine (oid_Decode.calls kj13 a2 t179 false _ A40.out).mono ?_); rintro e w72 ⟨v181, rfl, ho0, hb⟩; refine ⟨_, rfl, ?_⟩; have n0_ := Aside0.mk (Kd.R_lower ho0 (below_size (by repeat (first | (with_reducible first | exact HB.out | apply below_alloc | apply pw_below_drewN | apply below_drew1) | exact HB.out)))); have n1_ := Aside0.mk (below_step (by repeat (first | (with_reducible first | exact HB.out | apply below_alloc | apply pw_below_drewN | apply below_drew1) | exact HB.out)) hb); clear HB; have HO182 := n0_; have HB := n1_; clear n0_ n1_; (try clear hb); (try clear hb2); (try clear hk); (try clear hi); (try clear ho0)) | ((with_reducible refine gate_callee (f := 15) rfl ?_); refine goesL_ (some 114) rfl rfl Tryd.func15 (by kernel_rfl) rfl #[.string a3] rfl (by (try simp only [List.map_toArray, List.map_cons, List.map_nil]); first | done | rfl | (simp only [List.length_drop, List.length_take]; rfl) | exact congrArg (fun z => #[Value.int .i64 z]) (w64 (by omega) (by omega)).symm) ?_; (with_reducible refine (oid_Parse.calls kj13 a3 t192 false _ ?tb_ A61.out).mono ?_); (case tb_ => exact ⟨TB.below HT_.out (by repeat (first | (with_reducible first | exact HB.out | apply below_alloc | apply pw_below_drewN | apply below_drew1) | exact HB.out | exact Below.refl _ _))⟩); rintro e w73 ⟨v194, rfl, ho0, hb⟩; refine ⟨_, rfl, ?_⟩; have n0_ := Aside0.mk (Kd.R_elder' (by (with_reducible repeat (first | apply Kd.R_alloc | apply Kd.R_drewN | apply Kd.R_drew)); exact HO182.out) (Kd.R_base ho0) hb); have n1_ := Aside0.mk (Kd.R_lower (Kd.R_new' ho0 (Kd.R_lt (by (with_reducible repeat (first | apply Kd.R_alloc | apply Kd.R_drewN | apply Kd.R_drew)); exact HO182.out))) (below_size (by repeat (first | (with_reducible first | exact HB.out | apply below_alloc | apply pw_below_drewN | apply below_drew1) | exact HB.out)))); have n2_ := Aside0.mk (below_step (by repeat (first | (with_reducible first | exact HB.out | apply below_alloc | apply pw_below_drewN | apply below_drew1) | exact HB.out)) hb); clear HO182; clear HB; have HO182 := n0_; have HO195 := n1_; have HB := n2_; clear n0_ n1_ n2_; (try clear hb); (try clear hb2); (try clear hk); (try clear hi); (try clear ho0)) | (go_at_call 5; (with_reducible refine (clavigerlaw17_awake.calls kj13  t198 _ ?tb_ A71.out).mono ?_); (case tb_ => exact ⟨TB.below HT_.out (by repeat (first | (with_reducible first | exact HB.out | apply below_alloc | apply pw_below_drewN | apply below_drew1) | exact HB.out | exact Below.refl _ _))⟩); rintro e w74 ⟨rfl, hb⟩; have n0_ := Aside0.mk (Kd.R_below (by (with_reducible repeat (first | apply Kd.R_alloc | apply Kd.R_drewN | apply Kd.R_drew)); exact HO182.out) hb); have n1_ := Aside0.mk (Kd.R_below (by (with_reducible repeat (first | apply Kd.R_alloc | apply Kd.R_drewN | apply Kd.R_drew)); exact HO195.out) hb); have n2_ := Aside0.mk (below_step (by repeat (first | (with_reducible first | exact HB.out | apply below_alloc | apply pw_below_drewN | apply below_drew1) | exact HB.out)) hb); clear HO182; clear HO195; clear HB; have HO182 := n0_; have HO195 := n1_; have HB := n2_; clear n0_ n1_ n2_; (try clear hb); (try clear hb2); (try clear hk); (try clear hi)))
                go_ret
                exact ⟨by first | rfl | (simp [errW_none, errW_some] <;> rfl) | (simp [*, errW_none, errW_some] <;> rfl), by repeat (first | (with_reducible first | exact HB.out | apply below_alloc | apply pw_below_drewN | apply below_drew1) | exact HB.out)⟩

/-- THE ONE PURE STATEMENT of clavigerlaw17_OidBack: yours. -/
def clavigerlaw17_OidBack.Pure : Prop := ∀ (l0 : List Int) (l1 : List Int) (a2 : ByteArray) (a3 : ByteArray), l0.length ≤ maxLen → l0.length * 8 ≤ 140737488351232 → (∀ x ∈ l0, (Lit.int .i64 x).wf = true) → l1.length ≤ maxLen → l1.length * 8 ≤ 140737488351232 → (∀ x ∈ l1, (Lit.int .i64 x).wf = true) → a2.size ≤ 140737488351232 → a3.size ≤ 140737488351232 → ∃ k, clavigerlaw17_OidBack.f k l0 l1 a2 a3 = some true
theorem clavigerlaw17_OidBack.walk (P : clavigerlaw17_OidBack.Pure) (a0 : Option Addr) (len0 cap0 : Nat) (z0 : List Int) (a1 : Option Addr) (len1 cap1 : Nat) (z1 : List Int) (a2 : ByteArray) (a3 : ByteArray) (w : World) (w0 : (a0 = none ∧ len0 = 0 ∧ cap0 = 0 ∧ z0 = []) ∨ ∃ x, a0 = some x ∧ len0 ≤ cap0 ∧ cap0 ≤ maxLen ∧ z0.length = cap0 ∧ (∀ i, i < z0.length → w.cell? (x.add i) = some (.int .i64 (z0.getD i 0))) ∧ ∀ n ∈ z0, (Lit.int .i64 n).wf = true) (y0 : len0 * 8 ≤ 140737488351232) (w1 : (a1 = none ∧ len1 = 0 ∧ cap1 = 0 ∧ z1 = []) ∨ ∃ x, a1 = some x ∧ len1 ≤ cap1 ∧ cap1 ≤ maxLen ∧ z1.length = cap1 ∧ (∀ i, i < z1.length → w.cell? (x.add i) = some (.int .i64 (z1.getD i 0))) ∧ ∀ n ∈ z1, (Lit.int .i64 n).wf = true) (y1 : len1 * 8 ≤ 140737488351232) (w2 : a2.size ≤ 140737488351232) (w3 : a3.size ≤ 140737488351232) (HT_ : Aside0 (TB w)) :
    Calls Tryd.prog 4 #[.slice a0 len0 cap0, .slice a1 len1 cap1, .string a2, .string a3] w fun e w' => e = .returned (.bool true) ∧ Below w.heap.size w w' := by
  obtain ⟨l0, rfl, hr0, hm0, hw0, hc0⟩ := ReadsInt.ofRowC w0
  obtain ⟨l1, rfl, hr1, hm1, hw1, hc1⟩ := ReadsInt.ofRowC w1
  obtain ⟨k, h⟩ := P l0 l1 a2 a3 hm0 y0 hw0 hm1 y1 hw1 w2 w3
  refine (clavigerlaw17_OidBack.calls k _ _ l0 _ _ l1 a2 a3 true w (Kd.C_of_reads (d := (0 : Int)) (h1 := fun _ => rfl) hr0) hc0 (Kd.C_of_reads (d := (0 : Int)) (h1 := fun _ => rfl) hr1) hc1 HT_ ⟨rfl⟩ h).mono ?_
  rintro e w' ⟨rfl, hd⟩
  exact ⟨rfl, hd⟩

end Go.Proofs.YtjkhfognncadbaaDoor.POidBack
