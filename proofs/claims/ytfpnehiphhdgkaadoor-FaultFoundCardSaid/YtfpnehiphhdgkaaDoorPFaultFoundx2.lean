-- laid by a program out of the translation and of templates; not trusted: Lean checks it
import Derived.Test.YtfpnehiphhdgkaaDoorPFaultFoundx0
import Derived.Test.YtfpnehiphhdgkaaDoorPFaultFoundx1
namespace Go.Proofs.YtfpnehiphhdgkaaDoor.PFaultFound
open Go.RowKit Go.Proofs.YtfpnehiphhdgkaaDoorW.PrintWords Go.Proofs.YtfpnehiphhdgkaaDoorW.PrintLast Go.Proofs.YtfpnehiphhdgkaaDoorW.PrintMore
attribute [local go_sem] str_leq str_gtr str_geq max2_int min2_int max_two min_two max_three min_three max_four min_four   -- for this text's walks alone
set_option linter.unusedVariables false
set_option linter.unusedSimpArgs false

/-! ### api_Errno_27: function 27 -/
def api_Errno_27.l0 : Nat → List Int → Int → Int → Int → Option (Int)
  | 0, _, _, _, _ => none
  | k + 1, x0, x1, x7, x8 => if x8 < x7 then (if 0 ≤ x8 then (if x8 < (x0.length : Int) then (if x1 = (rd x0 x8) then (some x8) else (api_Errno_27.l0 k x0 x1 x7 (wrap64 (x8 + 1)))) else (none)) else (none)) else (some (-1))
def api_Errno_27.f (k : Nat) (l0 : List Int) (a1 : Int) : Option (Int) := api_Errno_27.l0 k l0 a1 (l0.length : Int) 0
theorem api_Errno_27.mono_l : ∀ k, (∀ y0 y1 y2 y3, LeO (api_Errno_27.l0 k y0 y1 y2 y3) (api_Errno_27.l0 (k + 1) y0 y1 y2 y3))
  | 0 => fun _ _ _ _ r h => by simp [api_Errno_27.l0] at h
  | k + 1 => by
    have ih0 := api_Errno_27.mono_l k
    · intro y0 y1 y2 y3
      unfold api_Errno_27.l0
      repeat' first
      | (with_reducible exact ih0 _ _ _ _)
      | (with_reducible exact LeO.refl _)
      | (with_reducible exact LeO.none _)
      | (with_reducible refine LeO.ite ?_ ?_)
      | (with_reducible refine LeO.bind ?_ (fun _ => ?_))
      | exact ih0 _ _ _ _
      | exact LeO.none _
      | refine LeO.ite ?_ ?_
      | refine LeO.bind ?_ (fun _ => ?_)
theorem api_Errno_27.mono : ∀ a0 a1 k, LeO (api_Errno_27.f k a0 a1) (api_Errno_27.f (k + 1) a0 a1) := by
  intro a0 a1 k
  have ih0 := api_Errno_27.mono_l k
  unfold api_Errno_27.f
  repeat' first
      | (with_reducible exact ih0 _ _ _ _)
      | (with_reducible exact LeO.refl _)
      | (with_reducible exact LeO.none _)
      | (with_reducible refine LeO.ite ?_ ?_)
      | (with_reducible refine LeO.bind ?_ (fun _ => ?_))
      | exact ih0 _ _ _ _
      | exact LeO.none _
      | refine LeO.ite ?_ ?_
      | refine LeO.bind ?_ (fun _ => ?_)
set_option maxHeartbeats 8000000 in
set_option maxRecDepth 100000 in
theorem api_Errno_27.calls (k : Nat) (A0 : Option Addr) (c0 : Nat) (l0 : List Int) (a1 : Int) (r : Int) (w : World) (hr0 : Kd.C (Kd.int .i64) w A0 l0.length l0) (hc0 : l0.length ≤ c0) (h : api_Errno_27.f k l0 a1 = some r) :
    Calls Tryd.prog 27 #[.slice A0 l0.length c0, .int .i64 a1] w fun e w' => e = .returned (.int .i64 r) ∧ Drawn0 w w' := by
  have HR0 := Aside0.mk hr0
  have HC0 := Aside0.mk hc0
  clear hr0 hc0
  have H : (api_Errno_27.l0 k l0 a1 (l0.length : Int) 0) = some r := h
  clear h
  have H' := Aside0.mk H
  clear H
  go_enter Tryd.func27, Tryd.ntmps27
  go_wp2
  go_loopg [8] k (fun kq v8 w' => ∃ (x8_1 : Int), v8 = .int .i64 x8_1 ∧ Aside0 (api_Errno_27.l0 kq l0 a1 (l0.length : Int) x8_1 = some r) ∧ Aside0 (kq ≤ k) ∧ Drawn0 w w')
  case atStart => exact ⟨(0), (by first | rfl | (simp; done) | (simp [*]; done)), H', ⟨Nat.le_refl _⟩, by repeat (first | exact Drawn0.refl _ | apply Drawn0.step)⟩
  case round =>
    clear H'
    try clear c2
    try clear p2
    obtain ⟨x8_1, rfl, HA, HK1, ⟨m1, rfl⟩⟩ := hrel
    cases gk with
    | zero => exact absurd HA.out (by simp [api_Errno_27.l0])
    | succ k1 =>
      have H := HA.out
      clear HA
      simp only [api_Errno_27.l0] at H
      by_cases c3 : x8_1 < (l0.length : Int)
      · rw [if_pos c3] at H
        have c3b0 : decide (x8_1 < (l0.length : Int)) = true := decide_eq_true c3
        clear c3
        by_cases c4 : 0 ≤ x8_1
        · rw [if_pos c4] at H
          have c4b0 : decide (0 ≤ x8_1) = true := decide_eq_true c4
          clear c4
          by_cases c5 : x8_1 < (l0.length : Int)
          · rw [if_pos c5] at H
            have c5b0 : decide (x8_1 < (l0.length : Int)) = true := decide_eq_true c5
            clear c5
            by_cases c6 : a1 = (rd l0 x8_1)
            · rw [if_pos c6] at H
              have c6b0 : (a1 == (rd l0 x8_1)) = true := beq_iff_eq.mpr c6
              have c6b1 : (a1 != (rd l0 x8_1)) = false := bne_eq_false_iff_eq.mpr c6
              clear c6
              obtain rfl := Option.some.inj H
              have p131 : 0 ≤ (x8_1 : Int) := of_decide_eq_true (by first | (with_reducible assumption) | assumption)
              have q131 : x8_1 < (l0.length : Int) := of_decide_eq_true (by first | (with_reducible assumption) | assumption)
              obtain ⟨ad131, e131, hx131_0⟩ := Kd.at_int HR0.out x8_1 p131 q131
              cases e131
              replace p131 := eq_true p131
              replace q131 := eq_true q131
              go_wp2
              go_ret
              exact ⟨by first | rfl | (simp; done) | (simp [*]; done), by repeat (first | exact Drawn0.refl _ | apply Drawn0.step)⟩
            · rw [if_neg c6] at H
              have c6b0 : (a1 == (rd l0 x8_1)) = false := beq_eq_false_iff_ne.mpr c6
              have c6b1 : (a1 != (rd l0 x8_1)) = true := bne_iff_ne.mpr c6
              have H' := Aside0.mk H
              clear H
              have p131 : 0 ≤ (x8_1 : Int) := of_decide_eq_true (by first | (with_reducible assumption) | assumption)
              have q131 : x8_1 < (l0.length : Int) := of_decide_eq_true (by first | (with_reducible assumption) | assumption)
              obtain ⟨ad131, e131, hx131_0⟩ := Kd.at_int HR0.out x8_1 p131 q131
              cases e131
              replace p131 := eq_true p131
              replace q131 := eq_true q131
              go_wp2
              go_roundg k1
              case measure => have := HK1.out; omega
              case rel => exact ⟨(wrap64 (x8_1 + 1)), (by first | rfl | (simp; done) | (simp [*]; done)), H', ⟨by have := HK1.out; omega⟩, by repeat (first | exact Drawn0.refl _ | apply Drawn0.step)⟩
          · rw [if_neg c5] at H
            exact absurd H (by simp)
        · rw [if_neg c4] at H
          exact absurd H (by simp)
      · rw [if_neg c3] at H
        have c3b0 : decide (x8_1 < (l0.length : Int)) = false := decide_eq_false c3
        clear c3
        obtain rfl := Option.some.inj H
        go_wp2
        go_ret
        exact ⟨by first | rfl | (simp; done) | (simp [*]; done), by repeat (first | exact Drawn0.refl _ | apply Drawn0.step)⟩

/-! ### api_Errno_11: function 11 -/
def api_Errno_11.f (k : Nat) (l0 : List Int) (a1 : Int) : Option (Bool) := (api_Errno_27.f k l0 a1).bind fun t132 => (some (decide (t132 ≥ 0)))
theorem api_Errno_11.mono : ∀ a0 a1 k, LeO (api_Errno_11.f k a0 a1) (api_Errno_11.f (k + 1) a0 a1) := by
  intro a0 a1 k
  unfold api_Errno_11.f
  repeat' first
      | (with_reducible exact api_Errno_27.mono _ _ _)
      | (with_reducible exact LeO.refl _)
      | (with_reducible exact LeO.none _)
      | (with_reducible refine LeO.ite ?_ ?_)
      | (with_reducible refine LeO.bind ?_ (fun _ => ?_))
      | exact api_Errno_27.mono _ _ _
      | exact LeO.none _
      | refine LeO.ite ?_ ?_
      | refine LeO.bind ?_ (fun _ => ?_)
set_option maxHeartbeats 8000000 in
set_option maxRecDepth 100000 in
theorem api_Errno_11.calls (k : Nat) (A0 : Option Addr) (c0 : Nat) (l0 : List Int) (a1 : Int) (r : Bool) (w : World) (hr0 : Kd.C (Kd.int .i64) w A0 l0.length l0) (hc0 : l0.length ≤ c0) (h : api_Errno_11.f k l0 a1 = some r) :
    Calls Tryd.prog 11 #[.slice A0 l0.length c0, .int .i64 a1] w fun e w' => e = .returned (.bool r) ∧ Drawn0 w w' := by
  have HR0 := Aside0.mk hr0
  have HC0 := Aside0.mk hc0
  clear hr0 hc0
  have H : ((api_Errno_27.f k l0 a1).bind fun t132 => (some (decide (t132 ≥ 0)))) = some r := h
  clear h
  replace H := Option.bind_eq_some_iff.mp H
  obtain ⟨t132, A30, H⟩ := H
  replace H : (some (decide (t132 ≥ 0))) = some r := H
  have A3 := Aside0.mk A30
  clear A30
  obtain rfl := Option.some.inj H
  go_enter Tryd.func11, Tryd.ntmps11
  go_wp2_with (first | ((with_reducible refine gate_callee (f := 27) rfl ?_); refine goesL_ (some 7) rfl rfl Tryd.func27 (by kernel_rfl) rfl #[.slice A0 l0.length c0, .int .i64 a1] rfl (by (try simp only [List.map_toArray, List.map_cons, List.map_nil]); first | done | rfl | (simp only [List.length_drop, List.length_take]; rfl)) ?_; (with_reducible refine (api_Errno_27.calls k _ _ l0 a1 t132 _ ?side1 ?side2 A3.out).mono ?_); (case side1 => repeat (first | exact HR0.out | (with_reducible refine Kd.C_alloc ?_ _) | (with_reducible refine Kd.C_drewN ?_ _) | (with_reducible refine Kd.C_drew ?_))); (case side2 => exact HC0.out); rintro e w' ⟨rfl, ⟨nd, rfl⟩⟩; refine ⟨_, rfl, ?_⟩))
  go_ret
  exact ⟨by first | rfl | (simp; done) | (simp [*]; done), by repeat (first | exact Drawn0.refl _ | apply Drawn0.step)⟩

/-! ### clavigerlaw40_FaultFound: function 3 -/
def clavigerlaw40_FaultFound.f (k : Nat) (a0 : Int) : Option (Bool) := (fault_Name.f a0).bind fun t133 => (if t133.toList = ([] : List UInt8) then ((fault_Class.f a0).bind fun t134 => (if t134 = (-1) then ((fault_Told.f a0 true).bind fun t135 => (if t135 = true then (some false) else ((fault_Told.f a0 false).bind fun t136 => (if t136 = true then (some false) else ((clavigerlaw40_awake.f k).bind fun t137 => (some t137)))))) else (some false))) else ((fault_By.f k t133).bind fun bt138 => ((fault_Class.f a0).bind fun t140 => (if bt138.1 = a0 then (if bt138.2 = true then (if t140 ≥ 0 then (if t140 ≤ 4 then (if ((t140 == 0) == (a0 == 0)) = true then ((fault_Told.f a0 true).bind fun t141 => ((fault_Told.f a0 false).bind fun t142 => (if (t141 != t142) = true then ((fault_All.f k).bind fun t143 => ((api_Errno_11.f k t143 a0).bind fun t146 => (if t146 = true then ((clavigerlaw40_awake.f k).bind fun t147 => (some t147)) else (some false)))) else (some false)))) else (some false)) else (some false)) else (some false)) else (some false)) else (some false)))))
theorem clavigerlaw40_FaultFound.mono : ∀ a0 k, LeO (clavigerlaw40_FaultFound.f k a0) (clavigerlaw40_FaultFound.f (k + 1) a0) := by
  intro a0 k
  unfold clavigerlaw40_FaultFound.f
  repeat' first
      | (with_reducible exact api_Errno_11.mono _ _ _)
      | (with_reducible exact clavigerlaw40_awake.mono _)
      | (with_reducible exact fault_All.mono _)
      | (with_reducible exact fault_By.mono _ _)
      | (with_reducible exact LeO.refl _)
      | (with_reducible exact LeO.none _)
      | (with_reducible refine LeO.ite ?_ ?_)
      | (with_reducible refine LeO.bind ?_ (fun _ => ?_))
      | exact api_Errno_11.mono _ _ _
      | exact clavigerlaw40_awake.mono _
      | exact fault_All.mono _
      | exact fault_By.mono _ _
      | exact LeO.none _
      | refine LeO.ite ?_ ?_
      | refine LeO.bind ?_ (fun _ => ?_)
set_option maxHeartbeats 8000000 in
set_option maxRecDepth 100000 in
theorem clavigerlaw40_FaultFound.calls (k : Nat) (a0 : Int) (r : Bool) (w : World) (HT_ : Aside0 (TB w)) (HR_ : Aside0 (r = true)) (h : clavigerlaw40_FaultFound.f k a0 = some r) :
    Calls Tryd.prog 3 #[.int .i64 a0] w fun e w' => e = .returned (.bool r) ∧ Below w.heap.size w w' := by
  have HB := Aside0.mk (Below.refl w.heap.size w)
  have H : ((fault_Name.f a0).bind fun t133 => (if t133.toList = ([] : List UInt8) then ((fault_Class.f a0).bind fun t134 => (if t134 = (-1) then ((fault_Told.f a0 true).bind fun t135 => (if t135 = true then (some false) else ((fault_Told.f a0 false).bind fun t136 => (if t136 = true then (some false) else ((clavigerlaw40_awake.f k).bind fun t137 => (some t137)))))) else (some false))) else ((fault_By.f k t133).bind fun bt138 => ((fault_Class.f a0).bind fun t140 => (if bt138.1 = a0 then (if bt138.2 = true then (if t140 ≥ 0 then (if t140 ≤ 4 then (if ((t140 == 0) == (a0 == 0)) = true then ((fault_Told.f a0 true).bind fun t141 => ((fault_Told.f a0 false).bind fun t142 => (if (t141 != t142) = true then ((fault_All.f k).bind fun t143 => ((api_Errno_11.f k t143 a0).bind fun t146 => (if t146 = true then ((clavigerlaw40_awake.f k).bind fun t147 => (some t147)) else (some false)))) else (some false)))) else (some false)) else (some false)) else (some false)) else (some false)) else (some false)))))) = some r := h
  clear h
  replace H := Option.bind_eq_some_iff.mp H
  obtain ⟨t133, A20, H⟩ := H
  replace H : (if t133.toList = ([] : List UInt8) then ((fault_Class.f a0).bind fun t134 => (if t134 = (-1) then ((fault_Told.f a0 true).bind fun t135 => (if t135 = true then (some false) else ((fault_Told.f a0 false).bind fun t136 => (if t136 = true then (some false) else ((clavigerlaw40_awake.f k).bind fun t137 => (some t137)))))) else (some false))) else ((fault_By.f k t133).bind fun bt138 => ((fault_Class.f a0).bind fun t140 => (if bt138.1 = a0 then (if bt138.2 = true then (if t140 ≥ 0 then (if t140 ≤ 4 then (if ((t140 == 0) == (a0 == 0)) = true then ((fault_Told.f a0 true).bind fun t141 => ((fault_Told.f a0 false).bind fun t142 => (if (t141 != t142) = true then ((fault_All.f k).bind fun t143 => ((api_Errno_11.f k t143 a0).bind fun t146 => (if t146 = true then ((clavigerlaw40_awake.f k).bind fun t147 => (some t147)) else (some false)))) else (some false)))) else (some false)) else (some false)) else (some false)) else (some false)) else (some false))))) = some r := H
  have A2 := Aside0.mk A20
  clear A20
  by_cases c3 : t133.toList = ([] : List UInt8)
  · rw [if_pos c3] at H
    have c3b0 : (t133.toList == ([] : List UInt8)) = true := beq_iff_eq.mpr c3
    have c3b1 : (t133.toList != ([] : List UInt8)) = false := bne_eq_false_iff_eq.mpr c3
    clear c3
    replace H := Option.bind_eq_some_iff.mp H
    obtain ⟨t134, A40, H⟩ := H
    replace H : (if t134 = (-1) then ((fault_Told.f a0 true).bind fun t135 => (if t135 = true then (some false) else ((fault_Told.f a0 false).bind fun t136 => (if t136 = true then (some false) else ((clavigerlaw40_awake.f k).bind fun t137 => (some t137)))))) else (some false)) = some r := H
    have A4 := Aside0.mk A40
    clear A40
    by_cases c5 : t134 = (-1)
    · rw [if_pos c5] at H
      have c5b0 : (t134 == (-1)) = true := beq_iff_eq.mpr c5
      have c5b1 : (t134 != (-1)) = false := bne_eq_false_iff_eq.mpr c5
      clear c5
      replace H := Option.bind_eq_some_iff.mp H
      obtain ⟨t135, A60, H⟩ := H
      replace H : (if t135 = true then (some false) else ((fault_Told.f a0 false).bind fun t136 => (if t136 = true then (some false) else ((clavigerlaw40_awake.f k).bind fun t137 => (some t137))))) = some r := H
      have A6 := Aside0.mk A60
      clear A60
      by_cases c7 : t135 = true
      · subst c7
        have H1 : (some false) = some r := by rw [if_pos rfl] at H; exact H
        clear H
        have H := H1
        clear H1
        exact absurd ((Option.some.inj H).trans HR_.out) (by decide)
      · replace c7 := Bool.eq_false_iff.mpr c7
        subst c7
        have H1 : ((fault_Told.f a0 false).bind fun t136 => (if t136 = true then (some false) else ((clavigerlaw40_awake.f k).bind fun t137 => (some t137)))) = some r := by rw [if_neg (show ¬ (false = true) by decide)] at H; exact H
        clear H
        have H := H1
        clear H1
        replace H := Option.bind_eq_some_iff.mp H
        obtain ⟨t136, A80, H⟩ := H
        replace H : (if t136 = true then (some false) else ((clavigerlaw40_awake.f k).bind fun t137 => (some t137))) = some r := H
        have A8 := Aside0.mk A80
        clear A80
        by_cases c9 : t136 = true
        · subst c9
          have H1 : (some false) = some r := by rw [if_pos rfl] at H; exact H
          clear H
          have H := H1
          clear H1
          exact absurd ((Option.some.inj H).trans HR_.out) (by decide)
        · replace c9 := Bool.eq_false_iff.mpr c9
          subst c9
          have H1 : ((clavigerlaw40_awake.f k).bind fun t137 => (some t137)) = some r := by rw [if_neg (show ¬ (false = true) by decide)] at H; exact H
          clear H
          have H := H1
          clear H1
          replace H := Option.bind_eq_some_iff.mp H
          obtain ⟨t137, A100, H⟩ := H
          replace H : (some t137) = some r := H
          have A10 := Aside0.mk A100
          clear A100
          obtain rfl := Option.some.inj H
          go_enter Tryd.func3, Tryd.ntmps3
          go_wp2_with (first | ((with_reducible refine gate_callee (f := 6) rfl ?_); refine goesL_ (some 8) rfl rfl Tryd.func6 (by kernel_rfl) rfl #[.int .i64 a0] rfl (by (try simp only [List.map_toArray, List.map_cons, List.map_nil]); first | done | rfl | (simp only [List.length_drop, List.length_take]; rfl)) ?_; (with_reducible refine (fault_Name.calls a0 t133 _ ?tb_ A2.out).mono ?_); (case tb_ => exact ⟨TB.below HT_.out (by repeat (first | (with_reducible first | exact HB.out | apply below_alloc | apply pw_below_drewN | apply below_drew1) | exact HB.out | exact Below.refl _ _))⟩); rintro e w11 ⟨rfl, hb⟩; refine ⟨_, rfl, ?_⟩; have n0_ := Aside0.mk (below_step (by repeat (first | (with_reducible first | exact HB.out | apply below_alloc | apply pw_below_drewN | apply below_drew1) | exact HB.out)) hb); clear HB; have HB := n0_; clear n0_; (try clear hb); (try clear hb2); (try clear hk); (try clear hi)) | ((with_reducible refine gate_callee (f := 7) rfl ?_); refine goesL_ (some 12) rfl rfl Tryd.func7 (by kernel_rfl) rfl #[.int .i64 a0] rfl (by (try simp only [List.map_toArray, List.map_cons, List.map_nil]); first | done | rfl | (simp only [List.length_drop, List.length_take]; rfl)) ?_; (with_reducible refine (fault_Class.calls a0 t134 _ A4.out).mono ?_); rintro e w' ⟨rfl, ⟨nd, rfl⟩⟩; refine ⟨_, rfl, ?_⟩) | (go_at_call 8; (with_reducible refine (fault_Told.calls a0 true false _ A6.out).mono ?_); rintro e w' ⟨rfl, ⟨nd, rfl⟩⟩) | (go_at_call 8; (with_reducible refine (fault_Told.calls a0 false false _ A8.out).mono ?_); rintro e w' ⟨rfl, ⟨nd, rfl⟩⟩) | (go_at_call 9; (with_reducible refine (clavigerlaw40_awake.calls k  t137 _ ?tb_ A10.out).mono ?_); (case tb_ => exact ⟨TB.below HT_.out (by repeat (first | (with_reducible first | exact HB.out | apply below_alloc | apply pw_below_drewN | apply below_drew1) | exact HB.out | exact Below.refl _ _))⟩); rintro e w12 ⟨rfl, hb⟩; have n0_ := Aside0.mk (below_step (by repeat (first | (with_reducible first | exact HB.out | apply below_alloc | apply pw_below_drewN | apply below_drew1) | exact HB.out)) hb); clear HB; have HB := n0_; clear n0_; (try clear hb); (try clear hb2); (try clear hk); (try clear hi)))
          go_ret
          exact ⟨by first | rfl | (simp [errW_none, errW_some] <;> rfl) | (simp [*, errW_none, errW_some] <;> rfl), by repeat (first | (with_reducible first | exact HB.out | apply below_alloc | apply pw_below_drewN | apply below_drew1) | exact HB.out)⟩
    · rw [if_neg c5] at H
      have c5b0 : (t134 == (-1)) = false := beq_eq_false_iff_ne.mpr c5
      have c5b1 : (t134 != (-1)) = true := bne_iff_ne.mpr c5
      exact absurd ((Option.some.inj H).trans HR_.out) (by decide)
  · rw [if_neg c3] at H
    have c3b0 : (t133.toList == ([] : List UInt8)) = false := beq_eq_false_iff_ne.mpr c3
    have c3b1 : (t133.toList != ([] : List UInt8)) = true := bne_iff_ne.mpr c3
    replace H := Option.bind_eq_some_iff.mp H
    obtain ⟨⟨t138, t139⟩, A130, H⟩ := H
    replace H : ((fault_Class.f a0).bind fun t140 => (if t138 = a0 then (if t139 = true then (if t140 ≥ 0 then (if t140 ≤ 4 then (if ((t140 == 0) == (a0 == 0)) = true then ((fault_Told.f a0 true).bind fun t141 => ((fault_Told.f a0 false).bind fun t142 => (if (t141 != t142) = true then ((fault_All.f k).bind fun t143 => ((api_Errno_11.f k t143 a0).bind fun t146 => (if t146 = true then ((clavigerlaw40_awake.f k).bind fun t147 => (some t147)) else (some false)))) else (some false)))) else (some false)) else (some false)) else (some false)) else (some false)) else (some false))) = some r := H
    have A13 := Aside0.mk A130
    clear A130
    replace H := Option.bind_eq_some_iff.mp H
    obtain ⟨t140, A140, H⟩ := H
    replace H : (if t138 = a0 then (if t139 = true then (if t140 ≥ 0 then (if t140 ≤ 4 then (if ((t140 == 0) == (a0 == 0)) = true then ((fault_Told.f a0 true).bind fun t141 => ((fault_Told.f a0 false).bind fun t142 => (if (t141 != t142) = true then ((fault_All.f k).bind fun t143 => ((api_Errno_11.f k t143 a0).bind fun t146 => (if t146 = true then ((clavigerlaw40_awake.f k).bind fun t147 => (some t147)) else (some false)))) else (some false)))) else (some false)) else (some false)) else (some false)) else (some false)) else (some false)) = some r := H
    have A14 := Aside0.mk A140
    clear A140
    by_cases c15 : t138 = a0
    · rw [if_pos c15] at H
      have c15b0 : (t138 == a0) = true := beq_iff_eq.mpr c15
      have c15b1 : (t138 != a0) = false := bne_eq_false_iff_eq.mpr c15
      clear c15
      by_cases c16 : t139 = true
      · subst c16
        have H1 : (if t140 ≥ 0 then (if t140 ≤ 4 then (if ((t140 == 0) == (a0 == 0)) = true then ((fault_Told.f a0 true).bind fun t141 => ((fault_Told.f a0 false).bind fun t142 => (if (t141 != t142) = true then ((fault_All.f k).bind fun t143 => ((api_Errno_11.f k t143 a0).bind fun t146 => (if t146 = true then ((clavigerlaw40_awake.f k).bind fun t147 => (some t147)) else (some false)))) else (some false)))) else (some false)) else (some false)) else (some false)) = some r := by rw [if_pos rfl] at H; exact H
        clear H
        have H := H1
        clear H1
        by_cases c17 : t140 ≥ 0
        · rw [if_pos c17] at H
          have c17b0 : decide (0 ≤ t140) = true := decide_eq_true c17
          clear c17
          by_cases c18 : t140 ≤ 4
          · rw [if_pos c18] at H
            have c18b0 : decide (t140 ≤ 4) = true := decide_eq_true c18
            clear c18
            by_cases c19 : ((t140 == 0) == (a0 == 0)) = true
            · rw [if_pos c19] at H
              have c19b0 : ((t140 == 0) == (a0 == 0)) = true := c19
              (try (have c19b1 : decide ((t140 == 0) = (a0 == 0)) = true := by simpa using c19))
              (try (have c19b2 : ((t140 == 0) == (a0 == 0)) = true := by simpa using c19))
              clear c19
              replace H := Option.bind_eq_some_iff.mp H
              obtain ⟨t141, A200, H⟩ := H
              replace H : ((fault_Told.f a0 false).bind fun t142 => (if (t141 != t142) = true then ((fault_All.f k).bind fun t143 => ((api_Errno_11.f k t143 a0).bind fun t146 => (if t146 = true then ((clavigerlaw40_awake.f k).bind fun t147 => (some t147)) else (some false)))) else (some false))) = some r := H
              have A20 := Aside0.mk A200
              clear A200
              replace H := Option.bind_eq_some_iff.mp H
              obtain ⟨t142, A210, H⟩ := H
              replace H : (if (t141 != t142) = true then ((fault_All.f k).bind fun t143 => ((api_Errno_11.f k t143 a0).bind fun t146 => (if t146 = true then ((clavigerlaw40_awake.f k).bind fun t147 => (some t147)) else (some false)))) else (some false)) = some r := H
              have A21 := Aside0.mk A210
              clear A210
              by_cases c22 : (t141 != t142) = true
              · rw [if_pos c22] at H
                have c22b0 : (t141 != t142) = true := c22
                (try (have c22b1 : decide (t141 = t142) = false := by simpa using c22))
                (try (have c22b2 : (t141 == t142) = false := by simpa using c22))
                (try (have c22b3 : ¬ (t141 = t142) := by simpa using c22))
                clear c22
                replace H := Option.bind_eq_some_iff.mp H
                obtain ⟨t143, A230, H⟩ := H
                replace H : ((api_Errno_11.f k t143 a0).bind fun t146 => (if t146 = true then ((clavigerlaw40_awake.f k).bind fun t147 => (some t147)) else (some false))) = some r := H
                have A23 := Aside0.mk A230
                clear A230
                replace H := Option.bind_eq_some_iff.mp H
                obtain ⟨t146, A240, H⟩ := H
                replace H : (if t146 = true then ((clavigerlaw40_awake.f k).bind fun t147 => (some t147)) else (some false)) = some r := H
                have A24 := Aside0.mk A240
                clear A240
                by_cases c25 : t146 = true
                · subst c25
                  have H1 : ((clavigerlaw40_awake.f k).bind fun t147 => (some t147)) = some r := by rw [if_pos rfl] at H; exact H
                  clear H
                  have H := H1
                  clear H1
                  replace H := Option.bind_eq_some_iff.mp H
                  obtain ⟨t147, A260, H⟩ := H
                  replace H : (some t147) = some r := H
                  have A26 := Aside0.mk A260
                  clear A260
                  obtain rfl := Option.some.inj H
                  go_enter Tryd.func3, Tryd.ntmps3
                  go_wp2_with (first | ((with_reducible refine gate_callee (f := 6) rfl ?_); refine goesL_ (some 8) rfl rfl Tryd.func6 (by kernel_rfl) rfl #[.int .i64 a0] rfl (by (try simp only [List.map_toArray, List.map_cons, List.map_nil]); first | done | rfl | (simp only [List.length_drop, List.length_take]; rfl)) ?_; (with_reducible refine (fault_Name.calls a0 t133 _ ?tb_ A2.out).mono ?_); (case tb_ => exact ⟨TB.below HT_.out (by repeat (first | (with_reducible first | exact HB.out | apply below_alloc | apply pw_below_drewN | apply below_drew1) | exact HB.out | exact Below.refl _ _))⟩); rintro e w27 ⟨rfl, hb⟩; refine ⟨_, rfl, ?_⟩; have n0_ := Aside0.mk (below_step (by repeat (first | (with_reducible first | exact HB.out | apply below_alloc | apply pw_below_drewN | apply below_drew1) | exact HB.out)) hb); clear HB; have HB := n0_; clear n0_; (try clear hb); (try clear hb2); (try clear hk); (try clear hi)) | ((with_reducible refine gate_callee (f := 10) rfl ?_); refine goesL_ (some 29) rfl rfl Tryd.func10 (by kernel_rfl) rfl #[.string t133] rfl (by (try simp only [List.map_toArray, List.map_cons, List.map_nil]); first | done | rfl | (simp only [List.length_drop, List.length_take]; rfl)) ?_; (with_reducible refine (fault_By.calls k t133 t138 true _ ?tb_ A13.out).mono ?_); (case tb_ => exact ⟨TB.below HT_.out (by repeat (first | (with_reducible first | exact HB.out | apply below_alloc | apply pw_below_drewN | apply below_drew1) | exact HB.out | exact Below.refl _ _))⟩); rintro e w28 ⟨rfl, hb⟩; refine ⟨_, rfl, ?_⟩; have n0_ := Aside0.mk (below_step (by repeat (first | (with_reducible first | exact HB.out | apply below_alloc | apply pw_below_drewN | apply below_drew1) | exact HB.out)) hb); clear HB; have HB := n0_; clear n0_; (try clear hb); (try clear hb2); (try clear hk); (try clear hi)) | ((with_reducible refine gate_callee (f := 7) rfl ?_); refine goesL_ (some 33) rfl rfl Tryd.func7 (by kernel_rfl) rfl #[.int .i64 a0] rfl (by (try simp only [List.map_toArray, List.map_cons, List.map_nil]); first | done | rfl | (simp only [List.length_drop, List.length_take]; rfl)) ?_; (with_reducible refine (fault_Class.calls a0 t140 _ A14.out).mono ?_); rintro e w' ⟨rfl, ⟨nd, rfl⟩⟩; refine ⟨_, rfl, ?_⟩) | (go_at_call 8; (with_reducible refine (fault_Told.calls a0 true t141 _ A20.out).mono ?_); rintro e w' ⟨rfl, ⟨nd, rfl⟩⟩) | (go_at_call 8; (with_reducible refine (fault_Told.calls a0 false t142 _ A21.out).mono ?_); rintro e w' ⟨rfl, ⟨nd, rfl⟩⟩) | (go_at_call 12; (with_reducible refine (fault_All.calls k  t143 _ A23.out).mono ?_); rintro e w29 ⟨v144, rfl, ho0, hb⟩; have n0_ := Aside0.mk (Kd.R_lower ho0 (below_size (by repeat (first | (with_reducible first | exact HB.out | apply below_alloc | apply pw_below_drewN | apply below_drew1) | exact HB.out)))); have n1_ := Aside0.mk (below_step (by repeat (first | (with_reducible first | exact HB.out | apply below_alloc | apply pw_below_drewN | apply below_drew1) | exact HB.out)) hb); clear HB; have HO145 := n0_; have HB := n1_; clear n0_ n1_; (try clear hb); (try clear hb2); (try clear hk); (try clear hi); (try clear ho0); obtain ⟨Ao30, co30, eo30⟩ := Kd.R_slice HO145.out; subst eo30) | (go_at_call 11; (with_reducible refine (api_Errno_11.calls k _ _ t143 a0 true _ ?side1 ?side2 A24.out).mono ?_); (case side1 => repeat (first | exact (Kd.R_reads' HO145.out).2.2 | (with_reducible refine Kd.C_alloc ?_ _) | (with_reducible refine Kd.C_drewN ?_ _) | (with_reducible refine Kd.C_drew ?_))); (case side2 => exact (Kd.R_reads' HO145.out).2.1); rintro e w' ⟨rfl, ⟨nd, rfl⟩⟩) | (go_at_call 9; (with_reducible refine (clavigerlaw40_awake.calls k  t147 _ ?tb_ A26.out).mono ?_); (case tb_ => exact ⟨TB.below HT_.out (by repeat (first | (with_reducible first | exact HB.out | apply below_alloc | apply pw_below_drewN | apply below_drew1) | exact HB.out | exact Below.refl _ _))⟩); rintro e w31 ⟨rfl, hb⟩; have n0_ := Aside0.mk (Kd.R_below (by (with_reducible repeat (first | apply Kd.R_alloc | apply Kd.R_drewN | apply Kd.R_drew)); exact HO145.out) hb); have n1_ := Aside0.mk (below_step (by repeat (first | (with_reducible first | exact HB.out | apply below_alloc | apply pw_below_drewN | apply below_drew1) | exact HB.out)) hb); clear HO145; clear HB; have HO145 := n0_; have HB := n1_; clear n0_ n1_; (try clear hb); (try clear hb2); (try clear hk); (try clear hi)))
                  go_ret
                  exact ⟨by first | rfl | (simp [errW_none, errW_some] <;> rfl) | (simp [*, errW_none, errW_some] <;> rfl), by repeat (first | (with_reducible first | exact HB.out | apply below_alloc | apply pw_below_drewN | apply below_drew1) | exact HB.out)⟩
                · replace c25 := Bool.eq_false_iff.mpr c25
                  subst c25
                  have H1 : (some false) = some r := by rw [if_neg (show ¬ (false = true) by decide)] at H; exact H
                  clear H
                  have H := H1
                  clear H1
                  exact absurd ((Option.some.inj H).trans HR_.out) (by decide)
              · rw [if_neg c22] at H
                have c22b0 : (t141 != t142) = false := by simpa using c22
                (try (have c22b1 : decide (t141 = t142) = true := by simpa using c22))
                (try (have c22b2 : (t141 == t142) = true := by simpa using c22))
                clear c22
                exact absurd ((Option.some.inj H).trans HR_.out) (by decide)
            · rw [if_neg c19] at H
              have c19b0 : ((t140 == 0) == (a0 == 0)) = false := by simpa using c19
              (try (have c19b1 : decide ((t140 == 0) = (a0 == 0)) = false := by simpa using c19))
              (try (have c19b2 : ((t140 == 0) == (a0 == 0)) = false := by simpa using c19))
              (try (have c19b3 : ¬ ((t140 == 0) = (a0 == 0)) := by simpa using c19))
              clear c19
              exact absurd ((Option.some.inj H).trans HR_.out) (by decide)
          · rw [if_neg c18] at H
            have c18b0 : decide (t140 ≤ 4) = false := decide_eq_false c18
            clear c18
            exact absurd ((Option.some.inj H).trans HR_.out) (by decide)
        · rw [if_neg c17] at H
          have c17b0 : decide (0 ≤ t140) = false := decide_eq_false c17
          clear c17
          exact absurd ((Option.some.inj H).trans HR_.out) (by decide)
      · replace c16 := Bool.eq_false_iff.mpr c16
        subst c16
        have H1 : (some false) = some r := by rw [if_neg (show ¬ (false = true) by decide)] at H; exact H
        clear H
        have H := H1
        clear H1
        exact absurd ((Option.some.inj H).trans HR_.out) (by decide)
    · rw [if_neg c15] at H
      have c15b0 : (t138 == a0) = false := beq_eq_false_iff_ne.mpr c15
      have c15b1 : (t138 != a0) = true := bne_iff_ne.mpr c15
      exact absurd ((Option.some.inj H).trans HR_.out) (by decide)

/-- THE ONE PURE STATEMENT of clavigerlaw40_FaultFound: yours. -/
def clavigerlaw40_FaultFound.Pure : Prop := ∀ (a0 : Int), (Lit.int .i64 a0).wf = true → ∃ k, clavigerlaw40_FaultFound.f k a0 = some true
theorem clavigerlaw40_FaultFound.walk (P : clavigerlaw40_FaultFound.Pure) (a0 : Int) (w : World) (w0 : (Lit.int .i64 a0).wf = true) (HT_ : Aside0 (TB w)) :
    Calls Tryd.prog 3 #[.int .i64 a0] w fun e w' => e = .returned (.bool true) ∧ Below w.heap.size w w' := by
  obtain ⟨k, h⟩ := P a0 w0
  refine (clavigerlaw40_FaultFound.calls k a0 true w HT_ ⟨rfl⟩ h).mono ?_
  rintro e w' ⟨rfl, hd⟩
  exact ⟨rfl, hd⟩

end Go.Proofs.YtfpnehiphhdgkaaDoor.PFaultFound
