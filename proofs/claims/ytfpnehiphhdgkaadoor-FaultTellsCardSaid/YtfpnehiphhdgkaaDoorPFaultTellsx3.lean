-- laid by a program out of the translation and of templates; not trusted: Lean checks it
import Derived.Test.YtfpnehiphhdgkaaDoorPFaultTellsx0
import Derived.Test.YtfpnehiphhdgkaaDoorPFaultTellsx1
import Derived.Test.YtfpnehiphhdgkaaDoorPFaultTellsx2
namespace Go.Proofs.YtfpnehiphhdgkaaDoor.PFaultTells
open Go.RowKit Go.Proofs.YtfpnehiphhdgkaaDoorW.PrintWords Go.Proofs.YtfpnehiphhdgkaaDoorW.PrintLast Go.Proofs.YtfpnehiphhdgkaaDoorW.PrintMore
attribute [local go_sem] str_leq str_gtr str_geq max2_int min2_int max_two min_two max_three min_three max_four min_four   -- for this text's walks alone
set_option linter.unusedVariables false
set_option linter.unusedSimpArgs false

/-! ### clavigerref40_All: function 17 -/
def clavigerref40_All.l0 : Nat → List Int → Int → Option (List Int)
  | 0, _, _ => none
  | k + 1, x1, x2 => if x2 < 18 then (if x1.length < 17592186044416 then (clavigerref40_All.l0 k (x1 ++ [x2]) (wrap64 (x2 + 1))) else (none)) else (some x1)
def clavigerref40_All.f (k : Nat)  : Option (List Int) := clavigerref40_All.l0 k ([] : List Int) 0
theorem clavigerref40_All.mono_l : ∀ k, (∀ y0 y1, LeO (clavigerref40_All.l0 k y0 y1) (clavigerref40_All.l0 (k + 1) y0 y1))
  | 0 => fun _ _ r h => by simp [clavigerref40_All.l0] at h
  | k + 1 => by
    have ih0 := clavigerref40_All.mono_l k
    · intro y0 y1
      unfold clavigerref40_All.l0
      repeat' first
      | (with_reducible exact ih0 _ _)
      | (with_reducible exact LeO.refl _)
      | (with_reducible exact LeO.none _)
      | (with_reducible refine LeO.ite ?_ ?_)
      | (with_reducible refine LeO.bind ?_ (fun _ => ?_))
      | exact ih0 _ _
      | exact LeO.none _
      | refine LeO.ite ?_ ?_
      | refine LeO.bind ?_ (fun _ => ?_)
theorem clavigerref40_All.mono : ∀ k, LeO (clavigerref40_All.f k ) (clavigerref40_All.f (k + 1) ) := by
  intro  k
  have ih0 := clavigerref40_All.mono_l k
  unfold clavigerref40_All.f
  repeat' first
      | (with_reducible exact ih0 _ _)
      | (with_reducible exact LeO.refl _)
      | (with_reducible exact LeO.none _)
      | (with_reducible refine LeO.ite ?_ ?_)
      | (with_reducible refine LeO.bind ?_ (fun _ => ?_))
      | exact ih0 _ _
      | exact LeO.none _
      | refine LeO.ite ?_ ?_
      | refine LeO.bind ?_ (fun _ => ?_)
set_option maxHeartbeats 8000000 in
set_option maxRecDepth 100000 in
theorem clavigerref40_All.calls (k : Nat)  (r : List Int) (w : World) (h : clavigerref40_All.f k  = some r) :
    Calls Tryd.prog 17 #[] w fun e w' => ∃ v0_ : Value, e = .returned (v0_) ∧ Kd.R (Kd.int .i64) 22 w' w.heap.size (fun _ => True) v0_ r ∧ Below w.heap.size w w' := by
  have HB := Aside0.mk (Below.refl w.heap.size w)
  have H : (clavigerref40_All.l0 k ([] : List Int) 0) = some r := h
  clear h
  have H' := Aside0.mk H
  clear H
  go_enter Tryd.func17, Tryd.ntmps17
  go_wp2
  go_loopg [1, 2] k (fun kq v1 v2 w' => ∃ (x1_1 : List Int) (x2_1 : Int), v2 = .int .i64 x2_1 ∧ Aside0 (clavigerref40_All.l0 kq x1_1 x2_1 = some r) ∧ Aside0 (kq ≤ k) ∧ Aside0 (Kd.R (Kd.int .i64) 22 w' w.heap.size (fun _ => True) v1 x1_1) ∧ Aside0 (Below w.heap.size w w'))
  case atStart => exact ⟨(([] : List Int)), (0), (by first | rfl | (simp; done) | (simp [*]; done)), H', ⟨Nat.le_refl _⟩, ⟨by first | exact Kd.R_nil _ _ _ _ _ | exact Kd.N_nil _ _ _ _ _ | exact Kd.V_nil _ _ _ _ _ | exact Kd.Q_nil _ _ _ _ _ | exact Kd.S_nil _ _ _ _ _⟩, ⟨by repeat (first | (with_reducible first | exact HB.out | apply below_alloc | apply pw_below_drewN | apply below_drew1) | exact HB.out)⟩⟩
  case round =>
    clear H'
    obtain ⟨x1_1, x2_1, rfl, HA, HK1, HO_1, HB⟩ := hrel
    cases gk with
    | zero => exact absurd HA.out (by simp [clavigerref40_All.l0])
    | succ k1 =>
      have H := HA.out
      clear HA
      simp only [clavigerref40_All.l0] at H
      by_cases c1 : x2_1 < 18
      · rw [if_pos c1] at H
        have c1b0 : decide (x2_1 < 18) = true := decide_eq_true c1
        clear c1
        by_cases c2 : x1_1.length < 17592186044416
        · rw [if_pos c2] at H
          have LMc2 := Aside0.mk c2
          clear c2
          obtain ⟨y144, hy144⟩ : ∃ y_ : List Int, y_ = (x1_1 ++ [x2_1]) := ⟨_, rfl⟩
          replace H : (clavigerref40_All.l0 k1 y144 (wrap64 (x2_1 + 1))) = some r := by first | (rw [hy144]; with_reducible exact H) | (have H2_ := (Option.bind_some _ _).symm.trans H; rw [hy144]; with_reducible exact H2_) | (have H2_ := (Option.bind_some _ _).symm.trans H; with_reducible exact H2_) | with_reducible exact H | (rw [hy144]; exact H) | exact H
          have Ny144 := Aside0.mk hy144
          clear hy144
          have H' := Aside0.mk H
          clear H
          go_wp2_with (first | ((with_reducible refine gate_builtin (b := .append) (xs := #[.tmp 7, .tmp 9]) rfl ?_); at_builtin; refine Kd.R_append (Kd.int .i64) (w0 := w) w.heap.size rfl (.tmp 7) (.tmp 9) 30 22 (.int .i64 0) 8 rfl Tryd.underlying30 info22 rfl (by decide) (by omega) u1 x1_1 x2_1 [.int .i64 x2_1] (fun _ => True) (fun _ => False) rfl rfl ?aP (fun _ hk => hk.elim) ?aF ?aO ?aB ?aS ?aL ?_; (case aP => exact rfl); (case aB => exact (by repeat (first | (with_reducible first | exact HB.out | apply below_alloc | apply pw_below_drewN | apply below_drew1) | exact HB.out))); (case aF => exact (fun _ _ => trivial)); (case aO => exact (by (with_reducible repeat (first | apply Kd.R_alloc | apply Kd.R_drewN | apply Kd.R_drew)); exact HO_1.out)); (case aS => exact (below_size (by repeat (first | (with_reducible first | exact HB.out | apply below_alloc | apply pw_below_drewN | apply below_drew1) | exact HB.out)))); (case aL => have := LMc2.out; omega); intro v145 w3 ho hb hg hat; rw [← Ny144.out] at ho; have n0_ := Aside0.mk (hb); have n1_ := Aside0.mk (ho); clear HB; clear HO_1; have HB := n0_; have HO146 := n1_; clear n0_ n1_; clear ho hb hg hat))
          go_roundg k1
          case measure => have := HK1.out; omega
          case rel => exact ⟨(y144), (wrap64 (x2_1 + 1)), (by first | rfl | (simp; done) | (simp [*]; done)), H', ⟨by have := HK1.out; omega⟩, ⟨by (with_reducible repeat (first | apply Kd.R_alloc | apply Kd.R_drewN | apply Kd.R_drew)); exact HO146.out⟩, ⟨by repeat (first | (with_reducible first | exact HB.out | apply below_alloc | apply pw_below_drewN | apply below_drew1) | exact HB.out)⟩⟩
        · rw [if_neg c2] at H
          exact absurd H (by simp)
      · rw [if_neg c1] at H
        have c1b0 : decide (x2_1 < 18) = false := decide_eq_false c1
        clear c1
        obtain rfl := Option.some.inj H
        go_wp2
        go_ret
        exact ⟨_, by first | rfl | (simp [errW_none, errW_some] <;> rfl) | (simp [*, errW_none, errW_some] <;> rfl), by (with_reducible repeat (first | apply Kd.R_alloc | apply Kd.R_drewN | apply Kd.R_drew)); exact HO_1.out, by repeat (first | (with_reducible first | exact HB.out | apply below_alloc | apply pw_below_drewN | apply below_drew1) | exact HB.out)⟩

/-! ### clavigerlaw40_FaultTells: function 4 -/
def clavigerlaw40_FaultTells.f (k : Nat) (a0 : Int) (a1 : ByteArray) : Option (Bool) := if (a1.size : Int) > 100 then ((clavigerlaw40_awake.f k).bind fun t147 => (some t147)) else ((fault_By.f k a1).bind fun bt148 => ((clavigerref40_By.f k a1).bind fun bt150 => ((fault_Name.f a0).bind fun t152 => ((clavigerref40_Name.f a0).bind fun t153 => (if t152.toList = t153.toList then ((fault_Class.f a0).bind fun t154 => ((clavigerref40_Class.f k a0).bind fun t155 => (if t154 = t155 then (if bt148.1 = bt150.1 then (if (bt148.2 == bt150.2) = true then ((fault_All.f k).bind fun t156 => ((clavigerref40_All.f k).bind fun t159 => ((api_Errno.f k t156 t159).bind fun t162 => (if t162 = true then ((clavigerlaw40_awake.f k).bind fun t163 => (some t163)) else (some false))))) else (some false)) else (some false)) else (some false)))) else (some false))))))
theorem clavigerlaw40_FaultTells.mono : ∀ a0 a1 k, LeO (clavigerlaw40_FaultTells.f k a0 a1) (clavigerlaw40_FaultTells.f (k + 1) a0 a1) := by
  intro a0 a1 k
  unfold clavigerlaw40_FaultTells.f
  repeat' first
      | (with_reducible exact api_Errno.mono _ _ _)
      | (with_reducible exact clavigerlaw40_awake.mono _)
      | (with_reducible exact clavigerref40_All.mono _)
      | (with_reducible exact clavigerref40_By.mono _ _)
      | (with_reducible exact clavigerref40_Class.mono _ _)
      | (with_reducible exact fault_All.mono _)
      | (with_reducible exact fault_By.mono _ _)
      | (with_reducible exact LeO.refl _)
      | (with_reducible exact LeO.none _)
      | (with_reducible refine LeO.ite ?_ ?_)
      | (with_reducible refine LeO.bind ?_ (fun _ => ?_))
      | exact api_Errno.mono _ _ _
      | exact clavigerlaw40_awake.mono _
      | exact clavigerref40_All.mono _
      | exact clavigerref40_By.mono _ _
      | exact clavigerref40_Class.mono _ _
      | exact fault_All.mono _
      | exact fault_By.mono _ _
      | exact LeO.none _
      | refine LeO.ite ?_ ?_
      | refine LeO.bind ?_ (fun _ => ?_)
set_option maxHeartbeats 8000000 in
set_option maxRecDepth 100000 in
theorem clavigerlaw40_FaultTells.calls (k : Nat) (a0 : Int) (a1 : ByteArray) (r : Bool) (w : World) (HT_ : Aside0 (TB w)) (HR_ : Aside0 (r = true)) (h : clavigerlaw40_FaultTells.f k a0 a1 = some r) :
    Calls Tryd.prog 4 #[.int .i64 a0, .string a1] w fun e w' => e = .returned (.bool r) ∧ Below w.heap.size w w' := by
  have HB := Aside0.mk (Below.refl w.heap.size w)
  have H : (if (a1.size : Int) > 100 then ((clavigerlaw40_awake.f k).bind fun t147 => (some t147)) else ((fault_By.f k a1).bind fun bt148 => ((clavigerref40_By.f k a1).bind fun bt150 => ((fault_Name.f a0).bind fun t152 => ((clavigerref40_Name.f a0).bind fun t153 => (if t152.toList = t153.toList then ((fault_Class.f a0).bind fun t154 => ((clavigerref40_Class.f k a0).bind fun t155 => (if t154 = t155 then (if bt148.1 = bt150.1 then (if (bt148.2 == bt150.2) = true then ((fault_All.f k).bind fun t156 => ((clavigerref40_All.f k).bind fun t159 => ((api_Errno.f k t156 t159).bind fun t162 => (if t162 = true then ((clavigerlaw40_awake.f k).bind fun t163 => (some t163)) else (some false))))) else (some false)) else (some false)) else (some false)))) else (some false))))))) = some r := h
  clear h
  by_cases c3 : (a1.size : Int) > 100
  · rw [if_pos c3] at H
    have c3b0 : decide (100 < (a1.size : Int)) = true := decide_eq_true c3
    have c3b1 : decide (100 < a1.size) = true := decide_eq_true (by omega)
    clear c3
    replace H := Option.bind_eq_some_iff.mp H
    obtain ⟨t147, A40, H⟩ := H
    replace H : (some t147) = some r := H
    have A4 := Aside0.mk A40
    clear A40
    obtain rfl := Option.some.inj H
    go_enter Tryd.func4, Tryd.ntmps4
    go_wp2_with (first | ((with_reducible refine gate_callee (f := 9) rfl ?_); refine goesL_ (some 12) rfl rfl Tryd.func9 (by kernel_rfl) rfl #[] rfl (by (try simp only [List.map_toArray, List.map_cons, List.map_nil]); first | done | rfl | (simp only [List.length_drop, List.length_take]; rfl)) ?_; (with_reducible refine (clavigerlaw40_awake.calls k  t147 _ ?tb_ A4.out).mono ?_); (case tb_ => exact ⟨TB.below HT_.out (by repeat (first | (with_reducible first | exact HB.out | apply below_alloc | apply pw_below_drewN | apply below_drew1) | exact HB.out | exact Below.refl _ _))⟩); rintro e w5 ⟨rfl, hb⟩; refine ⟨_, rfl, ?_⟩; have n0_ := Aside0.mk (below_step (by repeat (first | (with_reducible first | exact HB.out | apply below_alloc | apply pw_below_drewN | apply below_drew1) | exact HB.out)) hb); clear HB; have HB := n0_; clear n0_; (try clear hb); (try clear hb2); (try clear hk); (try clear hi)))
    go_ret
    exact ⟨by first | rfl | (simp [errW_none, errW_some] <;> rfl) | (simp [*, errW_none, errW_some] <;> rfl), by repeat (first | (with_reducible first | exact HB.out | apply below_alloc | apply pw_below_drewN | apply below_drew1) | exact HB.out)⟩
  · rw [if_neg c3] at H
    have c3b0 : decide (100 < (a1.size : Int)) = false := decide_eq_false c3
    have c3b1 : decide (100 < a1.size) = false := decide_eq_false (by omega)
    clear c3
    replace H := Option.bind_eq_some_iff.mp H
    obtain ⟨⟨t148, t149⟩, A60, H⟩ := H
    replace H : ((clavigerref40_By.f k a1).bind fun bt150 => ((fault_Name.f a0).bind fun t152 => ((clavigerref40_Name.f a0).bind fun t153 => (if t152.toList = t153.toList then ((fault_Class.f a0).bind fun t154 => ((clavigerref40_Class.f k a0).bind fun t155 => (if t154 = t155 then (if t148 = bt150.1 then (if (t149 == bt150.2) = true then ((fault_All.f k).bind fun t156 => ((clavigerref40_All.f k).bind fun t159 => ((api_Errno.f k t156 t159).bind fun t162 => (if t162 = true then ((clavigerlaw40_awake.f k).bind fun t163 => (some t163)) else (some false))))) else (some false)) else (some false)) else (some false)))) else (some false))))) = some r := H
    have A6 := Aside0.mk A60
    clear A60
    replace H := Option.bind_eq_some_iff.mp H
    obtain ⟨⟨t150, t151⟩, A70, H⟩ := H
    replace H : ((fault_Name.f a0).bind fun t152 => ((clavigerref40_Name.f a0).bind fun t153 => (if t152.toList = t153.toList then ((fault_Class.f a0).bind fun t154 => ((clavigerref40_Class.f k a0).bind fun t155 => (if t154 = t155 then (if t148 = t150 then (if (t149 == t151) = true then ((fault_All.f k).bind fun t156 => ((clavigerref40_All.f k).bind fun t159 => ((api_Errno.f k t156 t159).bind fun t162 => (if t162 = true then ((clavigerlaw40_awake.f k).bind fun t163 => (some t163)) else (some false))))) else (some false)) else (some false)) else (some false)))) else (some false)))) = some r := H
    have A7 := Aside0.mk A70
    clear A70
    replace H := Option.bind_eq_some_iff.mp H
    obtain ⟨t152, A80, H⟩ := H
    replace H : ((clavigerref40_Name.f a0).bind fun t153 => (if t152.toList = t153.toList then ((fault_Class.f a0).bind fun t154 => ((clavigerref40_Class.f k a0).bind fun t155 => (if t154 = t155 then (if t148 = t150 then (if (t149 == t151) = true then ((fault_All.f k).bind fun t156 => ((clavigerref40_All.f k).bind fun t159 => ((api_Errno.f k t156 t159).bind fun t162 => (if t162 = true then ((clavigerlaw40_awake.f k).bind fun t163 => (some t163)) else (some false))))) else (some false)) else (some false)) else (some false)))) else (some false))) = some r := H
    have A8 := Aside0.mk A80
    clear A80
    replace H := Option.bind_eq_some_iff.mp H
    obtain ⟨t153, A90, H⟩ := H
    replace H : (if t152.toList = t153.toList then ((fault_Class.f a0).bind fun t154 => ((clavigerref40_Class.f k a0).bind fun t155 => (if t154 = t155 then (if t148 = t150 then (if (t149 == t151) = true then ((fault_All.f k).bind fun t156 => ((clavigerref40_All.f k).bind fun t159 => ((api_Errno.f k t156 t159).bind fun t162 => (if t162 = true then ((clavigerlaw40_awake.f k).bind fun t163 => (some t163)) else (some false))))) else (some false)) else (some false)) else (some false)))) else (some false)) = some r := H
    have A9 := Aside0.mk A90
    clear A90
    by_cases c10 : t152.toList = t153.toList
    · rw [if_pos c10] at H
      have c10b0 : (t152.toList == t153.toList) = true := beq_iff_eq.mpr c10
      have c10b1 : (t152.toList != t153.toList) = false := bne_eq_false_iff_eq.mpr c10
      clear c10
      replace H := Option.bind_eq_some_iff.mp H
      obtain ⟨t154, A110, H⟩ := H
      replace H : ((clavigerref40_Class.f k a0).bind fun t155 => (if t154 = t155 then (if t148 = t150 then (if (t149 == t151) = true then ((fault_All.f k).bind fun t156 => ((clavigerref40_All.f k).bind fun t159 => ((api_Errno.f k t156 t159).bind fun t162 => (if t162 = true then ((clavigerlaw40_awake.f k).bind fun t163 => (some t163)) else (some false))))) else (some false)) else (some false)) else (some false))) = some r := H
      have A11 := Aside0.mk A110
      clear A110
      replace H := Option.bind_eq_some_iff.mp H
      obtain ⟨t155, A120, H⟩ := H
      replace H : (if t154 = t155 then (if t148 = t150 then (if (t149 == t151) = true then ((fault_All.f k).bind fun t156 => ((clavigerref40_All.f k).bind fun t159 => ((api_Errno.f k t156 t159).bind fun t162 => (if t162 = true then ((clavigerlaw40_awake.f k).bind fun t163 => (some t163)) else (some false))))) else (some false)) else (some false)) else (some false)) = some r := H
      have A12 := Aside0.mk A120
      clear A120
      by_cases c13 : t154 = t155
      · rw [if_pos c13] at H
        have c13b0 : (t154 == t155) = true := beq_iff_eq.mpr c13
        have c13b1 : (t154 != t155) = false := bne_eq_false_iff_eq.mpr c13
        clear c13
        by_cases c14 : t148 = t150
        · rw [if_pos c14] at H
          have c14b0 : (t148 == t150) = true := beq_iff_eq.mpr c14
          have c14b1 : (t148 != t150) = false := bne_eq_false_iff_eq.mpr c14
          clear c14
          by_cases c15 : (t149 == t151) = true
          · rw [if_pos c15] at H
            have c15b0 : (t149 == t151) = true := c15
            (try (have c15b1 : decide (t149 = t151) = true := by simpa using c15))
            (try (have c15b2 : (t149 == t151) = true := by simpa using c15))
            clear c15
            replace H := Option.bind_eq_some_iff.mp H
            obtain ⟨t156, A160, H⟩ := H
            replace H : ((clavigerref40_All.f k).bind fun t159 => ((api_Errno.f k t156 t159).bind fun t162 => (if t162 = true then ((clavigerlaw40_awake.f k).bind fun t163 => (some t163)) else (some false)))) = some r := H
            have A16 := Aside0.mk A160
            clear A160
            replace H := Option.bind_eq_some_iff.mp H
            obtain ⟨t159, A170, H⟩ := H
            replace H : ((api_Errno.f k t156 t159).bind fun t162 => (if t162 = true then ((clavigerlaw40_awake.f k).bind fun t163 => (some t163)) else (some false))) = some r := H
            have A17 := Aside0.mk A170
            clear A170
            replace H := Option.bind_eq_some_iff.mp H
            obtain ⟨t162, A180, H⟩ := H
            replace H : (if t162 = true then ((clavigerlaw40_awake.f k).bind fun t163 => (some t163)) else (some false)) = some r := H
            have A18 := Aside0.mk A180
            clear A180
            by_cases c19 : t162 = true
            · subst c19
              have H1 : ((clavigerlaw40_awake.f k).bind fun t163 => (some t163)) = some r := by rw [if_pos rfl] at H; exact H
              clear H
              have H := H1
              clear H1
              replace H := Option.bind_eq_some_iff.mp H
              obtain ⟨t163, A200, H⟩ := H
              replace H : (some t163) = some r := H
              have A20 := Aside0.mk A200
              clear A200
              obtain rfl := Option.some.inj H
              go_enter Tryd.func4, Tryd.ntmps4
              go_wp2_with (first | ((with_reducible refine gate_callee (f := 10) rfl ?_); refine goesL_ (some 15) rfl rfl Tryd.func10 (by kernel_rfl) rfl #[.string a1] rfl (by (try simp only [List.map_toArray, List.map_cons, List.map_nil]); first | done | rfl | (simp only [List.length_drop, List.length_take]; rfl)) ?_; (with_reducible refine (fault_By.calls k a1 t148 t149 _ ?tb_ A6.out).mono ?_); (case tb_ => exact ⟨TB.below HT_.out (by repeat (first | (with_reducible first | exact HB.out | apply below_alloc | apply pw_below_drewN | apply below_drew1) | exact HB.out | exact Below.refl _ _))⟩); rintro e w21 ⟨rfl, hb⟩; refine ⟨_, rfl, ?_⟩; have n0_ := Aside0.mk (below_step (by repeat (first | (with_reducible first | exact HB.out | apply below_alloc | apply pw_below_drewN | apply below_drew1) | exact HB.out)) hb); clear HB; have HB := n0_; clear n0_; (try clear hb); (try clear hb2); (try clear hk); (try clear hi)) | ((with_reducible refine gate_callee (f := 13) rfl ?_); refine goesL_ (some 20) rfl rfl Tryd.func13 (by kernel_rfl) rfl #[.string a1] rfl (by (try simp only [List.map_toArray, List.map_cons, List.map_nil]); first | done | rfl | (simp only [List.length_drop, List.length_take]; rfl)) ?_; (with_reducible refine (clavigerref40_By.calls k a1 t150 t151 _ A7.out).mono ?_); rintro e w22 ⟨rfl, hb⟩; refine ⟨_, rfl, ?_⟩; have n0_ := Aside0.mk (below_step (by repeat (first | (with_reducible first | exact HB.out | apply below_alloc | apply pw_below_drewN | apply below_drew1) | exact HB.out)) hb); clear HB; have HB := n0_; clear n0_; (try clear hb); (try clear hb2); (try clear hk); (try clear hi)) | ((with_reducible refine gate_callee (f := 6) rfl ?_); refine goesL_ (some 24) rfl rfl Tryd.func6 (by kernel_rfl) rfl #[.int .i64 a0] rfl (by (try simp only [List.map_toArray, List.map_cons, List.map_nil]); first | done | rfl | (simp only [List.length_drop, List.length_take]; rfl)) ?_; (with_reducible refine (fault_Name.calls a0 t152 _ ?tb_ A8.out).mono ?_); (case tb_ => exact ⟨TB.below HT_.out (by repeat (first | (with_reducible first | exact HB.out | apply below_alloc | apply pw_below_drewN | apply below_drew1) | exact HB.out | exact Below.refl _ _))⟩); rintro e w23 ⟨rfl, hb⟩; refine ⟨_, rfl, ?_⟩; have n0_ := Aside0.mk (below_step (by repeat (first | (with_reducible first | exact HB.out | apply below_alloc | apply pw_below_drewN | apply below_drew1) | exact HB.out)) hb); clear HB; have HB := n0_; clear n0_; (try clear hb); (try clear hb2); (try clear hk); (try clear hi)) | ((with_reducible refine gate_callee (f := 14) rfl ?_); refine goesL_ (some 26) rfl rfl Tryd.func14 (by kernel_rfl) rfl #[.int .i64 a0] rfl (by (try simp only [List.map_toArray, List.map_cons, List.map_nil]); first | done | rfl | (simp only [List.length_drop, List.length_take]; rfl)) ?_; (with_reducible refine (clavigerref40_Name.calls a0 t153 _ A9.out).mono ?_); rintro e w24 ⟨rfl, hb⟩; refine ⟨_, rfl, ?_⟩; have n0_ := Aside0.mk (below_step (by repeat (first | (with_reducible first | exact HB.out | apply below_alloc | apply pw_below_drewN | apply below_drew1) | exact HB.out)) hb); clear HB; have HB := n0_; clear n0_; (try clear hb); (try clear hb2); (try clear hk); (try clear hi)) | (go_at_call 7; (with_reducible refine (fault_Class.calls a0 t154 _ A11.out).mono ?_); rintro e w' ⟨rfl, ⟨nd, rfl⟩⟩) | (go_at_call 15; (with_reducible refine (clavigerref40_Class.calls k a0 t155 _ A12.out).mono ?_); rintro e w' ⟨rfl, ⟨nd, rfl⟩⟩) | (go_at_call 12; (with_reducible refine (fault_All.calls k  t156 _ A16.out).mono ?_); rintro e w25 ⟨v157, rfl, ho0, hb⟩; have n0_ := Aside0.mk (Kd.R_lower ho0 (below_size (by repeat (first | (with_reducible first | exact HB.out | apply below_alloc | apply pw_below_drewN | apply below_drew1) | exact HB.out)))); have n1_ := Aside0.mk (below_step (by repeat (first | (with_reducible first | exact HB.out | apply below_alloc | apply pw_below_drewN | apply below_drew1) | exact HB.out)) hb); clear HB; have HO158 := n0_; have HB := n1_; clear n0_ n1_; (try clear hb); (try clear hb2); (try clear hk); (try clear hi); (try clear ho0)) | (go_at_call 17; (with_reducible refine (clavigerref40_All.calls k  t159 _ A17.out).mono ?_); rintro e w26 ⟨v160, rfl, ho0, hb⟩; have n0_ := Aside0.mk (Kd.R_elder' (by (with_reducible repeat (first | apply Kd.R_alloc | apply Kd.R_drewN | apply Kd.R_drew)); exact HO158.out) (Kd.R_base ho0) hb); have n1_ := Aside0.mk (Kd.R_lower (Kd.R_new' ho0 (Kd.R_lt (by (with_reducible repeat (first | apply Kd.R_alloc | apply Kd.R_drewN | apply Kd.R_drew)); exact HO158.out))) (below_size (by repeat (first | (with_reducible first | exact HB.out | apply below_alloc | apply pw_below_drewN | apply below_drew1) | exact HB.out)))); have n2_ := Aside0.mk (below_step (by repeat (first | (with_reducible first | exact HB.out | apply below_alloc | apply pw_below_drewN | apply below_drew1) | exact HB.out)) hb); clear HO158; clear HB; have HO158 := n0_; have HO161 := n1_; have HB := n2_; clear n0_ n1_ n2_; (try clear hb); (try clear hb2); (try clear hk); (try clear hi); (try clear ho0); obtain ⟨Ao27, co27, eo27⟩ := Kd.R_slice HO158.out; subst eo27; obtain ⟨Ao28, co28, eo28⟩ := Kd.R_slice HO161.out; subst eo28) | (go_at_call 16; (with_reducible refine (api_Errno.calls k _ _ t156 _ _ t159 true _ ?side1 ?side2 ?side3 ?side4 A18.out).mono ?_); (case side1 => repeat (first | exact (Kd.R_reads' HO158.out).2.2 | (with_reducible refine Kd.C_alloc ?_ _) | (with_reducible refine Kd.C_drewN ?_ _) | (with_reducible refine Kd.C_drew ?_))); (case side2 => exact (Kd.R_reads' HO158.out).2.1); (case side3 => repeat (first | exact (Kd.R_reads' HO161.out).2.2 | (with_reducible refine Kd.C_alloc ?_ _) | (with_reducible refine Kd.C_drewN ?_ _) | (with_reducible refine Kd.C_drew ?_))); (case side4 => exact (Kd.R_reads' HO161.out).2.1); rintro e w' ⟨rfl, ⟨nd, rfl⟩⟩) | (go_at_call 9; (with_reducible refine (clavigerlaw40_awake.calls k  t163 _ ?tb_ A20.out).mono ?_); (case tb_ => exact ⟨TB.below HT_.out (by repeat (first | (with_reducible first | exact HB.out | apply below_alloc | apply pw_below_drewN | apply below_drew1) | exact HB.out | exact Below.refl _ _))⟩); rintro e w29 ⟨rfl, hb⟩; have n0_ := Aside0.mk (Kd.R_below (by (with_reducible repeat (first | apply Kd.R_alloc | apply Kd.R_drewN | apply Kd.R_drew)); exact HO158.out) hb); have n1_ := Aside0.mk (Kd.R_below (by (with_reducible repeat (first | apply Kd.R_alloc | apply Kd.R_drewN | apply Kd.R_drew)); exact HO161.out) hb); have n2_ := Aside0.mk (below_step (by repeat (first | (with_reducible first | exact HB.out | apply below_alloc | apply pw_below_drewN | apply below_drew1) | exact HB.out)) hb); clear HO158; clear HO161; clear HB; have HO158 := n0_; have HO161 := n1_; have HB := n2_; clear n0_ n1_ n2_; (try clear hb); (try clear hb2); (try clear hk); (try clear hi)))
              go_ret
              exact ⟨by first | rfl | (simp [errW_none, errW_some] <;> rfl) | (simp [*, errW_none, errW_some] <;> rfl), by repeat (first | (with_reducible first | exact HB.out | apply below_alloc | apply pw_below_drewN | apply below_drew1) | exact HB.out)⟩
            · replace c19 := Bool.eq_false_iff.mpr c19
              subst c19
              have H1 : (some false) = some r := by rw [if_neg (show ¬ (false = true) by decide)] at H; exact H
              clear H
              have H := H1
              clear H1
              exact absurd ((Option.some.inj H).trans HR_.out) (by decide)
          · rw [if_neg c15] at H
            have c15b0 : (t149 == t151) = false := by simpa using c15
            (try (have c15b1 : decide (t149 = t151) = false := by simpa using c15))
            (try (have c15b2 : (t149 == t151) = false := by simpa using c15))
            (try (have c15b3 : ¬ (t149 = t151) := by simpa using c15))
            clear c15
            exact absurd ((Option.some.inj H).trans HR_.out) (by decide)
        · rw [if_neg c14] at H
          have c14b0 : (t148 == t150) = false := beq_eq_false_iff_ne.mpr c14
          have c14b1 : (t148 != t150) = true := bne_iff_ne.mpr c14
          exact absurd ((Option.some.inj H).trans HR_.out) (by decide)
      · rw [if_neg c13] at H
        have c13b0 : (t154 == t155) = false := beq_eq_false_iff_ne.mpr c13
        have c13b1 : (t154 != t155) = true := bne_iff_ne.mpr c13
        exact absurd ((Option.some.inj H).trans HR_.out) (by decide)
    · rw [if_neg c10] at H
      have c10b0 : (t152.toList == t153.toList) = false := beq_eq_false_iff_ne.mpr c10
      have c10b1 : (t152.toList != t153.toList) = true := bne_iff_ne.mpr c10
      exact absurd ((Option.some.inj H).trans HR_.out) (by decide)

/-- THE ONE PURE STATEMENT of clavigerlaw40_FaultTells: yours. -/
def clavigerlaw40_FaultTells.Pure : Prop := ∀ (a0 : Int) (a1 : ByteArray), (Lit.int .i64 a0).wf = true → a1.size ≤ 140737488351232 → ∃ k, clavigerlaw40_FaultTells.f k a0 a1 = some true
theorem clavigerlaw40_FaultTells.walk (P : clavigerlaw40_FaultTells.Pure) (a0 : Int) (a1 : ByteArray) (w : World) (w0 : (Lit.int .i64 a0).wf = true) (w1 : a1.size ≤ 140737488351232) (HT_ : Aside0 (TB w)) :
    Calls Tryd.prog 4 #[.int .i64 a0, .string a1] w fun e w' => e = .returned (.bool true) ∧ Below w.heap.size w w' := by
  obtain ⟨k, h⟩ := P a0 a1 w0 w1
  refine (clavigerlaw40_FaultTells.calls k a0 a1 true w HT_ ⟨rfl⟩ h).mono ?_
  rintro e w' ⟨rfl, hd⟩
  exact ⟨rfl, hd⟩

end Go.Proofs.YtfpnehiphhdgkaaDoor.PFaultTells
