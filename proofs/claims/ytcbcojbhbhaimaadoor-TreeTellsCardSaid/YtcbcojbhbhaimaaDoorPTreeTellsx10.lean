import Derived.Test.YtcbcojbhbhaimaaDoorPTreeTellsx0
import Derived.Test.YtcbcojbhbhaimaaDoorPTreeTellsx5
import Derived.Test.YtcbcojbhbhaimaaDoorPTreeTellsx8
import Derived.Test.YtcbcojbhbhaimaaDoorPTreeTellsx9
namespace Go.Proofs.YtcbcojbhbhaimaaDoor.PTreeTells
open Go.RowKit Go.Proofs.YtcbcojbhbhaimaaDoorW.PrintWords Go.Proofs.YtcbcojbhbhaimaaDoorW.PrintLast Go.Proofs.YtcbcojbhbhaimaaDoorW.PrintMore
attribute [local go_sem high] c_add c_eql c_neq
attribute [local go_sem] f_store_c f_store_f f_add f_toint f_fold_eq f_fold_ne f_fold_lt f_fold_gt f_fold_le f_fold_ge
attribute [local go_sem] str_leq str_gtr str_geq max2_int min2_int max_two min_two max_three min_three max_four min_four   -- for this text's walks alone
set_option linter.unusedVariables false
set_option linter.unusedSimpArgs false

/-! ### tree_Kids: function 23 -/
def tree_Kids.l0 : Nat → List (S41) → List (List (S41)) → List Int → Int → Int → Option ((List (List (S41))))
 | 0, _, _, _, _, _ => none
 | k + 1, x0, x3, x12, x13, x14 => if x14 < x13 then (if 0 ≤ x14 then (if x14 < (x12.length : Int) then ((tree_Sub.f k x0 (rd x12 x14)).bind fun t289 => (if x3.length < 5864062014805 then (tree_Kids.l0 k x0 (x3 ++ [t289]) x12 x13 (wrap64 (x14 + 1))) else (none))) else (none)) else (none)) else (some x3)
def tree_Kids.f (k : Nat) (l0 : List (S41)) : Option ((List (List (S41)))) := (tree_Right.f k l0).bind fun t286 => (if t286 = true then (if 0 < (l0.length : Int) then (tree_Kids.l0 k l0 ([] : List (List (S41))) ((rd_T41 l0 0).f4) (((rd_T41 l0 0).f4).length : Int) 0) else (none)) else (some ([] : List (List (S41)))))
theorem tree_Kids.mono_l : ∀ k, (∀ y0 y1 y2 y3 y4, LeO (tree_Kids.l0 k y0 y1 y2 y3 y4) (tree_Kids.l0 (k + 1) y0 y1 y2 y3 y4))
 | 0 => fun _ _ _ _ _ r h => by simp [tree_Kids.l0] at h
 | k + 1 => by
  have ih0 := tree_Kids.mono_l k
  ·intro y0 y1 y2 y3 y4
   unfold tree_Kids.l0
   repeat' first
   | (with_reducible first | exact ih0 _ _ _ _ _ | exact tree_Right.mono _ _ | exact tree_Sub.mono _ _ _ | exact LeO.refl _ | exact LeO.none _ | refine LeO.ite ?_ ?_ | refine LeO.bind ?_ (fun _ => ?_))
   | exact ih0 _ _ _ _ _
   | exact tree_Right.mono _ _
   | exact tree_Sub.mono _ _ _
   | exact LeO.none _
   | refine LeO.ite ?_ ?_
   | refine LeO.bind ?_ (fun _ => ?_)
theorem tree_Kids.mono : ∀ a0 k, LeO (tree_Kids.f k a0) (tree_Kids.f (k + 1) a0) := by
 intro a0 k
 have ih0 := tree_Kids.mono_l k
 unfold tree_Kids.f
 repeat' first
  | (with_reducible first | exact ih0 _ _ _ _ _ | exact tree_Right.mono _ _ | exact tree_Sub.mono _ _ _ | exact LeO.refl _ | exact LeO.none _ | refine LeO.ite ?_ ?_ | refine LeO.bind ?_ (fun _ => ?_))
  | exact ih0 _ _ _ _ _
  | exact tree_Right.mono _ _
  | exact tree_Sub.mono _ _ _
  | exact LeO.none _
  | refine LeO.ite ?_ ?_
  | refine LeO.bind ?_ (fun _ => ?_)
set_option maxHeartbeats 8000000 in
set_option maxRecDepth 100000 in
theorem tree_Kids.calls (k : Nat) (A0 : Option Addr) (c0 : Nat) (l0 : List (S41)) (r : List (List (S41))) (w : World) (hr0 : Kd.C k41 w A0 l0.length l0) (hc0 : l0.length ≤ c0) (HT_ : Aside0 (TB w)) (h : tree_Kids.f k l0 = some r) :
 Calls Tryd.prog 23 #[.slice A0 l0.length c0] w fun e w' => ∃ v0_ : Value, e = .returned (v0_) ∧ Kd.R (Kd.slice 41 k41) 23 w' w.heap.size (fun _ => True) v0_ r ∧ Below w.heap.size w w' := by
 have HR0 := Aside0.mk hr0
 have HC0 := Aside0.mk hc0
 clear hr0 hc0
 have HB := Aside0.mk (Below.refl w.heap.size w)
 have H : ((tree_Right.f k l0).bind fun t286 => (if t286 = true then (if 0 < (l0.length : Int) then (tree_Kids.l0 k l0 ([] : List (List (S41))) ((rd_T41 l0 0).f4) (((rd_T41 l0 0).f4).length : Int) 0) else (none)) else (some ([] : List (List (S41)))))) = some r := h
 clear h
 replace H := Option.bind_eq_some_iff.mp H
 obtain ⟨t286, A20, H⟩ := H
 replace H : (if t286 = true then (if 0 < (l0.length : Int) then (tree_Kids.l0 k l0 ([] : List (List (S41))) ((rd_T41 l0 0).f4) (((rd_T41 l0 0).f4).length : Int) 0) else (none)) else (some ([] : List (List (S41))))) = some r := H
 have A2 := Aside0.mk A20
 clear A20
 by_cases c3 : t286 = true
 case neg =>
  replace c3 := Bool.eq_false_iff.mpr c3
  subst c3
  have H1 : (some ([] : List (List (S41)))) = some r := by rw [if_neg (show ¬ (false = true) by decide)] at H; exact H
  clear H
  have H := H1
  clear H1
  obtain rfl := Option.some.inj H
  go_enter Tryd.func23, Tryd.ntmps23
  go_wp2_with (first | ((with_reducible refine gate_callee (f := 11) rfl ?_); refine goesL_ (some 7) rfl rfl Tryd.func11 (by kernel_rfl) rfl #[.slice A0 l0.length c0] rfl gargs ?_; (with_reducible refine (tree_Right.calls k _ _ l0 false _ ?side1 ?side2 ?tb_ A2.out).mono ?_); (case tb_ => exact tbw); (case side1 => exact kcW HR0.out); (case side2 => exact HC0.out); rintro e w14 ⟨rfl, hb⟩; refine ⟨_, rfl, ?_⟩; replace HB := Aside0.mk (below_step blw hb); (try clear hb); (try clear hb2); (try clear hk); (try clear hi)))
  go_ret
  exact ⟨_, rse, by first | exact Kd.R_nil _ _ _ _ _ | exact Kd.N_nil _ _ _ _ _ | exact Kd.V_nil _ _ _ _ _ | exact Kd.Q_nil _ _ _ _ _ | exact Kd.S_nil _ _ _ _ _, blw⟩
 subst c3
 have H1 : (if 0 < (l0.length : Int) then (tree_Kids.l0 k l0 ([] : List (List (S41))) ((rd_T41 l0 0).f4) (((rd_T41 l0 0).f4).length : Int) 0) else (none)) = some r := by rw [if_pos rfl] at H; exact H
 clear H
 have H := H1
 clear H1
 by_cases c4 : 0 < (l0.length : Int)
 case neg =>
  rw [if_neg c4] at H
  exact absurd H (by simp)
 rw [if_pos c4] at H
 have c4b0 : decide (0 < (l0.length : Int)) = true := decide_eq_true c4
 have c4b1 : decide (0 < l0.length) = true := decide_eq_true (by omega)
 clear c4
 have H' := Aside0.mk H
 clear H
 go_enter Tryd.func23, Tryd.ntmps23
 go_wp2_with (first | ((with_reducible refine gate_callee (f := 11) rfl ?_); refine goesL_ (some 7) rfl rfl Tryd.func11 (by kernel_rfl) rfl #[.slice A0 l0.length c0] rfl gargs ?_; (with_reducible refine (tree_Right.calls k _ _ l0 true _ ?side1 ?side2 ?tb_ A2.out).mono ?_); (case tb_ => exact tbw); (case side1 => exact kcW HR0.out); (case side2 => exact HC0.out); rintro e w5 ⟨rfl, hb⟩; refine ⟨_, rfl, ?_⟩; replace HB := Aside0.mk (below_step blw hb); (try clear hb); (try clear hb2); (try clear hk); (try clear hi); have p287 : 0 ≤ (0 : Int) := (by omega); have q287 : 0 < (l0.length : Int) := odt; obtain ⟨ad287, A287_4, c287_4, e287, hx287_0, hx287_1, hx287_2, hx287_3, hx287_4, hl287_4, hi287_4⟩ := at_T41 HR0.out 0 p287 q287; cases e287; have qi287 : (0 < l0.length) = True := eq_true (by omega); (try rw [show ((0 : Int)).toNat = 0 from rfl] at hx287_0); (try rw [show 0 * 5 = 0 from rfl] at hx287_0); (try rw [Addr.add_zero'] at hx287_0); (try rw [show ((0 : Int)).toNat = 0 from rfl] at hx287_1); (try rw [show 0 * 5 = 0 from rfl] at hx287_1); (try rw [Addr.add_zero'] at hx287_1); (try rw [show ((0 : Int)).toNat = 0 from rfl] at hx287_2); (try rw [show 0 * 5 = 0 from rfl] at hx287_2); (try rw [Addr.add_zero'] at hx287_2); (try rw [show ((0 : Int)).toNat = 0 from rfl] at hx287_3); (try rw [show 0 * 5 = 0 from rfl] at hx287_3); (try rw [Addr.add_zero'] at hx287_3); (try rw [show ((0 : Int)).toNat = 0 from rfl] at hx287_4); (try rw [show 0 * 5 = 0 from rfl] at hx287_4); (try rw [Addr.add_zero'] at hx287_4); replace hx287_0 := cellB hx287_0; replace hx287_1 := cellB hx287_1; replace hx287_2 := cellB hx287_2; replace hx287_3 := cellB hx287_3; replace hx287_4 := cellB hx287_4; have HR287_4 := Aside0.mk hi287_4; have HC287_4 := Aside0.mk hl287_4; clear hi287_4 hl287_4; replace p287 := eq_true p287; replace q287 := eq_true q287))
 go_loopg [3, 14] k (fun kq v3 v14 w' => ∃ (x3_1 : List (List (S41))) (x14_1 : Int), v14 = .int .i64 x14_1 ∧ Aside0 (tree_Kids.l0 kq l0 x3_1 ((rd_T41 l0 0).f4) (((rd_T41 l0 0).f4).length : Int) x14_1 = some r) ∧ Aside0 (kq ≤ k) ∧ Aside0 (Kd.R (Kd.slice 41 k41) 23 w' w.heap.size (fun _ => True) v3 x3_1) ∧ Aside0 (Below w.heap.size w w'))
 case atStart => exact ⟨(([] : List (List (S41)))), (0), rsd, H', ⟨Nat.le_refl _⟩, ⟨by first | exact Kd.R_nil _ _ _ _ _ | exact Kd.N_nil _ _ _ _ _ | exact Kd.V_nil _ _ _ _ _ | exact Kd.Q_nil _ _ _ _ _ | exact Kd.S_nil _ _ _ _ _⟩, ⟨blw⟩⟩
 case round =>
  clear H'
  try clear c3
  try clear c4
  try clear c4b0
  try clear c4b1
  try clear hx287_0
  try clear hx287_1
  try clear hx287_2
  try clear hx287_3
  try clear hx287_4
  try clear p287
  try clear q287
  obtain ⟨x3_1, x14_1, rfl, HA, HK1, HO_3, HB⟩ := hrel
  cases gk with
  | zero => exact absurd HA.out (by simp [tree_Kids.l0])
  | succ k1 =>
   have H := HA.out
   clear HA
   simp only [tree_Kids.l0] at H
   by_cases c6 : x14_1 < (((rd_T41 l0 0).f4).length : Int)
   case neg =>
    rw [if_neg c6] at H
    have c6b0 : decide (x14_1 < (((rd_T41 l0 0).f4).length : Int)) = false := decide_eq_false c6
    clear c6
    obtain rfl := Option.some.inj H
    go_wp2
    go_ret
    exact ⟨_, rse, roW HO_3.out, blw⟩
   rw [if_pos c6] at H
   have c6b0 : decide (x14_1 < (((rd_T41 l0 0).f4).length : Int)) = true := decide_eq_true c6
   clear c6
   by_cases c7 : 0 ≤ x14_1
   case neg =>
    rw [if_neg c7] at H
    exact absurd H (by simp)
   rw [if_pos c7] at H
   have c7b0 : decide (0 ≤ x14_1) = true := decide_eq_true c7
   clear c7
   by_cases c8 : x14_1 < (((rd_T41 l0 0).f4).length : Int)
   case neg =>
    rw [if_neg c8] at H
    exact absurd H (by simp)
   rw [if_pos c8] at H
   have c8b0 : decide (x14_1 < (((rd_T41 l0 0).f4).length : Int)) = true := decide_eq_true c8
   clear c8
   replace H := Option.bind_eq_some_iff.mp H
   obtain ⟨t289, A90, H⟩ := H
   replace H : (if x3_1.length < 5864062014805 then (tree_Kids.l0 k1 l0 (x3_1 ++ [t289]) ((rd_T41 l0 0).f4) (((rd_T41 l0 0).f4).length : Int) (wrap64 (x14_1 + 1))) else (none)) = some r := H
   have A9 := Aside0.mk A90
   clear A90
   by_cases c10 : x3_1.length < 5864062014805
   case neg =>
    rw [if_neg c10] at H
    exact absurd H (by simp)
   rw [if_pos c10] at H
   have LMc10 := Aside0.mk c10
   clear c10
   obtain ⟨y292, hy292⟩ : ∃ y_ : List (List (S41)), y_ = (x3_1 ++ [t289]) := ⟨_, rfl⟩
   replace H : (tree_Kids.l0 k1 l0 y292 ((rd_T41 l0 0).f4) (((rd_T41 l0 0).f4).length : Int) (wrap64 (x14_1 + 1))) = some r := by first | (rw [hy292]; with_reducible exact H) | (have H2_ := (Option.bind_some _ _).symm.trans H; rw [hy292]; with_reducible exact H2_) | (have H2_ := (Option.bind_some _ _).symm.trans H; with_reducible exact H2_) | with_reducible exact H | (rw [hy292]; exact H) | exact H
   have Ny292 := Aside0.mk hy292
   clear hy292
   have H' := Aside0.mk H
   clear H
   have p288 : 0 ≤ (x14_1 : Int) := odt
   have q288 : x14_1 < (((rd_T41 l0 0).f4).length : Int) := odt
   obtain ⟨ad288, e288, hx288_0⟩ := Kd.at_int HR287_4.out x14_1 p288 q288
   cases e288
   replace hx288_0 := cellB hx288_0
   replace p288 := eq_true p288
   replace q288 := eq_true q288
   go_wp2_with (first | ((with_reducible refine gate_callee (f := 17) rfl ?_); refine goesL_ (some 21) rfl rfl Tryd.func17 (by kernel_rfl) rfl #[.slice (some ad287) l0.length c0, .int .i64 (rd ((rd_T41 l0 0).f4) x14_1)] rfl gargs ?_; (with_reducible refine (tree_Sub.calls k1 _ _ l0 (rd ((rd_T41 l0 0).f4) x14_1) t289 _ ?side1 ?side2 ?tb_ A9.out).mono ?_); (case tb_ => exact tbw); (case side1 => exact kcW (Kd.C_below HR0.out HB.out)); (case side2 => exact HC0.out); rintro e w11 ⟨v290, rfl, ho0, hb⟩; refine ⟨_, rfl, ?_⟩; have n0_ := Aside0.mk (Kd.R_elder' (roW HO_3.out) (Kd.S_base ho0) hb); have n1_ := Aside0.mk (Kd.S_lower ho0 (below_size blw)); have n2_ := Aside0.mk (below_step blw hb); clear HO_3; clear HB; have HO_3 := n0_; have HO291 := n1_; have HB := n2_; clear n0_ n1_ n2_; (try clear hb); (try clear hb2); (try clear hk); (try clear hi); (try clear ho0); obtain ⟨Ao13, co13, eo13⟩ := Kd.S_slice HO291.out; subst eo13) | ((with_reducible refine gate_builtin (b := .append) (xs := #[.tmp 18, .tmp 22]) rfl ?_); at_builtin; refine Kd.R_append (Kd.slice 41 k41) (w0 := w) w.heap.size rfl (.tmp 18) (.tmp 22) 33 23 (.slice none 0 0) 24 rfl Tryd.underlying33 info23 rfl (by decide) (by omega) u3 x3_1 t289 [.slice Ao13 t289.length co13] (fun _ => True) (fun k_ => ((fun _ => True)) k_ ∧ some k_ ≠ (u3 : Value).ownBlock) rfl rfl ?aP (fun _ hk => hk) ?aF ?aO ?aB ?aS ?aL ?_; (case aP => exact Kd.M_row (Kd.R_mono (Kd.R_apart' ((Kd.S_R HO291.out)) (Kd.R_typed HO_3.out) (by decide)) (fun k_ hk => ⟨trivial, hk.2⟩))); (case aB => exact blw); (case aF => exact (fun _ _ => trivial)); (case aO => exact (by (with_reducible repeat (first | apply Kd.R_alloc | apply Kd.R_drewN | apply Kd.R_drew)); exact Kd.R_mono HO_3.out (fun _ hk => trivial))); (case aS => exact (below_size blw)); (case aL => have := LMc10.out; omega); intro v293 w12 ho hb hg hat; rw [← Ny292.out] at ho; have n0_ := Aside0.mk (hb); have n1_ := Aside0.mk (ho); clear HB; clear HO_3; clear HO291; have HB := n0_; have HO294 := n1_; clear n0_ n1_; clear ho hb hg hat))
   go_roundg k1
   case measure => have := HK1.out; omega
   case rel => exact ⟨(y292), (wrap64 (x14_1 + 1)), rsd, H', ⟨by have := HK1.out; omega⟩, ⟨roW HO294.out⟩, ⟨blw⟩⟩

/-! ### clavigerlaw20_awake: function 8 -/
def clavigerlaw20_awake.f (k : Nat)  : Option (Bool) := (tree_Leaf.f 0 2 (⟨#[5]⟩ : ByteArray)).bind fun t295 => ((tree_Of.f k 0 16 (([t295] : List (List (S41))))).bind fun t301 => ((tree_Encode.f k t301).bind fun bt304 => (if bt304.1.toList = ([48, 3, 2, 1, 5] : List UInt8) then (if bt304.2 = 0 then ((tree_Right.f k t301).bind fun t306 => (if t306 = true then ((tree_Depth.f k t301).bind fun t307 => (if t307 = 2 then ((tree_Size.f k t301).bind fun t308 => (if t308 = 5 then ((tree_Kids.f k t301).bind fun t309 => (if (t309.length : Int) = 1 then ((tree_Sub.f k t301 1).bind fun t312 => (some ((t312.length : Int) == 1))) else (some false))) else (some false))) else (some false))) else (some false))) else (some false)) else (some false))))
theorem clavigerlaw20_awake.mono : ∀ k, LeO (clavigerlaw20_awake.f k ) (clavigerlaw20_awake.f (k + 1) ) := by
 intro  k
 unfold clavigerlaw20_awake.f
 repeat' first
  | (with_reducible first | exact tree_Depth.mono _ _ | exact tree_Encode.mono _ _ | exact tree_Kids.mono _ _ | exact tree_Of.mono _ _ _ _ | exact tree_Right.mono _ _ | exact tree_Size.mono _ _ | exact tree_Sub.mono _ _ _ | exact LeO.refl _ | exact LeO.none _ | refine LeO.ite ?_ ?_ | refine LeO.bind ?_ (fun _ => ?_))
  | exact tree_Depth.mono _ _
  | exact tree_Encode.mono _ _
  | exact tree_Kids.mono _ _
  | exact tree_Of.mono _ _ _ _
  | exact tree_Right.mono _ _
  | exact tree_Size.mono _ _
  | exact tree_Sub.mono _ _ _
  | exact LeO.none _
  | refine LeO.ite ?_ ?_
  | refine LeO.bind ?_ (fun _ => ?_)
set_option maxHeartbeats 8000000 in
set_option maxRecDepth 100000 in
theorem clavigerlaw20_awake.calls (k : Nat)  (r : Bool) (w : World) (HT_ : Aside0 (TB w)) (h : clavigerlaw20_awake.f k  = some r) :
 Calls Tryd.prog 8 #[] w fun e w' => e = .returned (.bool r) ∧ Below w.heap.size w w' := by
 have HB := Aside0.mk (Below.refl w.heap.size w)
 have H : ((tree_Leaf.f 0 2 (⟨#[5]⟩ : ByteArray)).bind fun t295 => ((tree_Of.f k 0 16 (([t295] : List (List (S41))))).bind fun t301 => ((tree_Encode.f k t301).bind fun bt304 => (if bt304.1.toList = ([48, 3, 2, 1, 5] : List UInt8) then (if bt304.2 = 0 then ((tree_Right.f k t301).bind fun t306 => (if t306 = true then ((tree_Depth.f k t301).bind fun t307 => (if t307 = 2 then ((tree_Size.f k t301).bind fun t308 => (if t308 = 5 then ((tree_Kids.f k t301).bind fun t309 => (if (t309.length : Int) = 1 then ((tree_Sub.f k t301 1).bind fun t312 => (some ((t312.length : Int) == 1))) else (some false))) else (some false))) else (some false))) else (some false))) else (some false)) else (some false))))) = some r := h
 clear h
 replace H := Option.bind_eq_some_iff.mp H
 obtain ⟨t295, A10, H⟩ := H
 replace H : ((tree_Of.f k 0 16 (([t295] : List (List (S41))))).bind fun t301 => ((tree_Encode.f k t301).bind fun bt304 => (if bt304.1.toList = ([48, 3, 2, 1, 5] : List UInt8) then (if bt304.2 = 0 then ((tree_Right.f k t301).bind fun t306 => (if t306 = true then ((tree_Depth.f k t301).bind fun t307 => (if t307 = 2 then ((tree_Size.f k t301).bind fun t308 => (if t308 = 5 then ((tree_Kids.f k t301).bind fun t309 => (if (t309.length : Int) = 1 then ((tree_Sub.f k t301 1).bind fun t312 => (some ((t312.length : Int) == 1))) else (some false))) else (some false))) else (some false))) else (some false))) else (some false)) else (some false)))) = some r := H
 have A1 := Aside0.mk A10
 clear A10
 obtain ⟨y298, hy298⟩ : ∃ y_ : List (List (S41)), y_ = (([t295] : List (List (S41)))) := ⟨_, rfl⟩
 replace H : ((tree_Of.f k 0 16 y298).bind fun t301 => ((tree_Encode.f k t301).bind fun bt304 => (if bt304.1.toList = ([48, 3, 2, 1, 5] : List UInt8) then (if bt304.2 = 0 then ((tree_Right.f k t301).bind fun t306 => (if t306 = true then ((tree_Depth.f k t301).bind fun t307 => (if t307 = 2 then ((tree_Size.f k t301).bind fun t308 => (if t308 = 5 then ((tree_Kids.f k t301).bind fun t309 => (if (t309.length : Int) = 1 then ((tree_Sub.f k t301 1).bind fun t312 => (some ((t312.length : Int) == 1))) else (some false))) else (some false))) else (some false))) else (some false))) else (some false)) else (some false)))) = some r := by first | (rw [hy298]; with_reducible exact H) | (have H2_ := (Option.bind_some _ _).symm.trans H; rw [hy298]; with_reducible exact H2_) | (have H2_ := (Option.bind_some _ _).symm.trans H; with_reducible exact H2_) | with_reducible exact H | (rw [hy298]; exact H) | exact H
 have Ny298 := Aside0.mk hy298
 clear hy298
 replace H := Option.bind_eq_some_iff.mp H
 obtain ⟨t301, A20, H⟩ := H
 replace H : ((tree_Encode.f k t301).bind fun bt304 => (if bt304.1.toList = ([48, 3, 2, 1, 5] : List UInt8) then (if bt304.2 = 0 then ((tree_Right.f k t301).bind fun t306 => (if t306 = true then ((tree_Depth.f k t301).bind fun t307 => (if t307 = 2 then ((tree_Size.f k t301).bind fun t308 => (if t308 = 5 then ((tree_Kids.f k t301).bind fun t309 => (if (t309.length : Int) = 1 then ((tree_Sub.f k t301 1).bind fun t312 => (some ((t312.length : Int) == 1))) else (some false))) else (some false))) else (some false))) else (some false))) else (some false)) else (some false))) = some r := H
 have A2 := Aside0.mk A20
 clear A20
 replace H := Option.bind_eq_some_iff.mp H
 obtain ⟨⟨t304, t305⟩, A30, H⟩ := H
 replace H : (if t304.toList = ([48, 3, 2, 1, 5] : List UInt8) then (if t305 = 0 then ((tree_Right.f k t301).bind fun t306 => (if t306 = true then ((tree_Depth.f k t301).bind fun t307 => (if t307 = 2 then ((tree_Size.f k t301).bind fun t308 => (if t308 = 5 then ((tree_Kids.f k t301).bind fun t309 => (if (t309.length : Int) = 1 then ((tree_Sub.f k t301 1).bind fun t312 => (some ((t312.length : Int) == 1))) else (some false))) else (some false))) else (some false))) else (some false))) else (some false)) else (some false)) = some r := H
 have A3 := Aside0.mk A30
 clear A30
 by_cases c4 : t304.toList = ([48, 3, 2, 1, 5] : List UInt8)
 case neg =>
  rw [if_neg c4] at H
  have c4b0 : (t304.toList == ([48, 3, 2, 1, 5] : List UInt8)) = false := beq_eq_false_iff_ne.mpr c4
  have c4b1 : (t304.toList != ([48, 3, 2, 1, 5] : List UInt8)) = true := bne_iff_ne.mpr c4
  obtain rfl := Option.some.inj H
  go_enter Tryd.func8, Tryd.ntmps8
  go_wp2_with (first | ((with_reducible refine gate_callee (f := 21) rfl ?_); refine goesL_ (some 4) rfl rfl Tryd.func21 (by kernel_rfl) rfl #[.int .i64 0, .int .i64 2, .string (⟨#[5]⟩ : ByteArray)] rfl gargs ?_; (with_reducible refine (tree_Leaf.calls 0 2 (⟨#[5]⟩ : ByteArray) t295 _ A1.out).mono ?_); rintro e w81 ⟨v296, rfl, ho0, hb⟩; refine ⟨_, rfl, ?_⟩; have n0_ := Aside0.mk (Kd.N_lower (Kd.N_mono (ok' := fun k_ => True) (Kd.S_N (Kd.S_bound ho0)) (fun k_ hk_ => trivial)) (below_size blw)); have n1_ := Aside0.mk (below_step blw hb); clear HB; have HO297 := n0_; have HB := n1_; clear n0_ n1_; (try clear hb); (try clear hb2); (try clear hk); (try clear hi); (try clear ho0); obtain ⟨Ao82, co82, eo82⟩ := Kd.N_slice HO297.out; subst eo82) | ((with_reducible refine gate_dst (N := 5) rfl ?_); (try (refine gate_guard (by rfl) ?_; dsimp only)); refine Kd.N_lit (Kd.slice 41 k41) _ 23 ?hg (N' := 5) ?hd (xs := ([t295] : List (List (S41)))) (inner := [.slice Ao82 t295.length co82]) (ok := (fun _ => True)) (okp := (fun _ => True)) ?hr ?hp (fun _ hk => hk) ((show ∀ k_, w81.heap.size ≤ k_ → (fun _ => True) k_ from fun k_ hk => trivial) _ (Nat.le_refl _)) (Below.refl _ _) (Nat.le_refl _) (by simp) ?_; (case hd => rfl); (case hg => rfl); (case hr => first | (go_simp; done) | (go_simp; rfl)); (case hp => exact (Reps.one (show Kd.FK (Kd.slice 41 k41) _ _ t295 [.slice Ao82 t295.length co82] from (Kd.FK_slice_mk (Kd.N_reads' (Kd.N_mono (ok' := (fun _ => True)) (HO297.out) (fun k_ hk => trivial))).2.1 (Kd.N_F (Kd.N_mono (ok' := (fun _ => True)) (HO297.out) (fun k_ hk => trivial))))) (Reps.none _ _))); intro v299 w83 ho84 hb hg_ hnew_; clear hg_ hnew_; (first | rw [← Ny298.out] at ho84 | (simp only [Int.reduceToNat] at ho84; rw [← Ny298.out] at ho84)); have n0_ := Aside0.mk (Kd.N_lower ho84 (below_size blw)); have n1_ := Aside0.mk (below_step blw hb); clear HB; clear HO297; have HO300 := n0_; have HB := n1_; clear n0_ n1_; clear hb ho84; obtain ⟨Ao85, co85, eo85⟩ := Kd.N_slice HO300.out; subst eo85) | ((with_reducible refine gate_callee (f := 19) rfl ?_); refine goesL_ (some 6) rfl rfl Tryd.func19 (by kernel_rfl) rfl #[.int .i64 0, .int .i64 16, .slice Ao85 y298.length co85] rfl gargs ?_; (with_reducible refine (tree_Of.calls k 0 16 _ _ y298 t301 _ ?side1 ?side2 A2.out).mono ?_); (case side1 => exact kcW (Kd.N_reads' HO300.out).2.2); (case side2 => exact (Kd.N_reads' HO300.out).2.1); rintro e w86 ⟨v302, rfl, ho0, hb⟩; refine ⟨_, rfl, ?_⟩; have n0_ := Aside0.mk (Kd.N_elder' (noW HO300.out) (Kd.S_base ho0) hb); have n1_ := Aside0.mk (Kd.N_lower (Kd.N_mono (ok' := fun k_ => some k_ ≠ (.slice Ao85 y298.length co85 : Value).ownBlock) (Kd.S_N (Kd.S_bound ho0)) (fun k_ hk_ => (Kd.fresh' (Kd.N_lt (noW HO300.out)) k_ hk_.2.1))) (below_size blw)); have n2_ := Aside0.mk (below_step blw hb); clear HO300; clear HB; have HO300 := n0_; have HO303 := n1_; have HB := n2_; clear n0_ n1_ n2_; (try clear hb); (try clear hb2); (try clear hk); (try clear hi); (try clear ho0); obtain ⟨Ao87, co87, eo87⟩ := Kd.N_slice HO303.out; subst eo87) | ((with_reducible refine gate_callee (f := 9) rfl ?_); refine goesL_ (some 9) rfl rfl Tryd.func9 (by kernel_rfl) rfl #[.slice Ao87 t301.length co87] rfl gargs ?_; (with_reducible refine (tree_Encode.calls k _ _ t301 t304 t305 _ ?side1 ?side2 ?tb_ A3.out).mono ?_); (case tb_ => exact tbw); (case side1 => exact kcW (Kd.N_reads' HO303.out).2.2); (case side2 => exact (Kd.N_reads' HO303.out).2.1); rintro e w88 ⟨rfl, hb⟩; refine ⟨_, rfl, ?_⟩; have n0_ := Aside0.mk (Kd.N_below (noW HO300.out) hb); have n1_ := Aside0.mk (Kd.N_below (noW HO303.out) hb); have n2_ := Aside0.mk (below_step blw hb); clear HO300; clear HO303; clear HB; have HO300 := n0_; have HO303 := n1_; have HB := n2_; clear n0_ n1_ n2_; (try clear hb); (try clear hb2); (try clear hk); (try clear hi)))
  go_ret
  exact ⟨rse, blw⟩
 rw [if_pos c4] at H
 have c4b0 : (t304.toList == ([48, 3, 2, 1, 5] : List UInt8)) = true := beq_iff_eq.mpr c4
 have c4b1 : (t304.toList != ([48, 3, 2, 1, 5] : List UInt8)) = false := bne_eq_false_iff_eq.mpr c4
 clear c4
 by_cases c5 : t305 = 0
 case neg =>
  rw [if_neg c5] at H
  have c5b0 : (t305 == 0) = false := beq_eq_false_iff_ne.mpr c5
  have c5b1 : (t305 != 0) = true := bne_iff_ne.mpr c5
  obtain rfl := Option.some.inj H
  go_enter Tryd.func8, Tryd.ntmps8
  go_wp2_with (first | ((with_reducible refine gate_callee (f := 21) rfl ?_); refine goesL_ (some 4) rfl rfl Tryd.func21 (by kernel_rfl) rfl #[.int .i64 0, .int .i64 2, .string (⟨#[5]⟩ : ByteArray)] rfl gargs ?_; (with_reducible refine (tree_Leaf.calls 0 2 (⟨#[5]⟩ : ByteArray) t295 _ A1.out).mono ?_); rintro e w73 ⟨v296, rfl, ho0, hb⟩; refine ⟨_, rfl, ?_⟩; have n0_ := Aside0.mk (Kd.N_lower (Kd.N_mono (ok' := fun k_ => True) (Kd.S_N (Kd.S_bound ho0)) (fun k_ hk_ => trivial)) (below_size blw)); have n1_ := Aside0.mk (below_step blw hb); clear HB; have HO297 := n0_; have HB := n1_; clear n0_ n1_; (try clear hb); (try clear hb2); (try clear hk); (try clear hi); (try clear ho0); obtain ⟨Ao74, co74, eo74⟩ := Kd.N_slice HO297.out; subst eo74) | ((with_reducible refine gate_dst (N := 5) rfl ?_); (try (refine gate_guard (by rfl) ?_; dsimp only)); refine Kd.N_lit (Kd.slice 41 k41) _ 23 ?hg (N' := 5) ?hd (xs := ([t295] : List (List (S41)))) (inner := [.slice Ao74 t295.length co74]) (ok := (fun _ => True)) (okp := (fun _ => True)) ?hr ?hp (fun _ hk => hk) ((show ∀ k_, w73.heap.size ≤ k_ → (fun _ => True) k_ from fun k_ hk => trivial) _ (Nat.le_refl _)) (Below.refl _ _) (Nat.le_refl _) (by simp) ?_; (case hd => rfl); (case hg => rfl); (case hr => first | (go_simp; done) | (go_simp; rfl)); (case hp => exact (Reps.one (show Kd.FK (Kd.slice 41 k41) _ _ t295 [.slice Ao74 t295.length co74] from (Kd.FK_slice_mk (Kd.N_reads' (Kd.N_mono (ok' := (fun _ => True)) (HO297.out) (fun k_ hk => trivial))).2.1 (Kd.N_F (Kd.N_mono (ok' := (fun _ => True)) (HO297.out) (fun k_ hk => trivial))))) (Reps.none _ _))); intro v299 w75 ho76 hb hg_ hnew_; clear hg_ hnew_; (first | rw [← Ny298.out] at ho76 | (simp only [Int.reduceToNat] at ho76; rw [← Ny298.out] at ho76)); have n0_ := Aside0.mk (Kd.N_lower ho76 (below_size blw)); have n1_ := Aside0.mk (below_step blw hb); clear HB; clear HO297; have HO300 := n0_; have HB := n1_; clear n0_ n1_; clear hb ho76; obtain ⟨Ao77, co77, eo77⟩ := Kd.N_slice HO300.out; subst eo77) | ((with_reducible refine gate_callee (f := 19) rfl ?_); refine goesL_ (some 6) rfl rfl Tryd.func19 (by kernel_rfl) rfl #[.int .i64 0, .int .i64 16, .slice Ao77 y298.length co77] rfl gargs ?_; (with_reducible refine (tree_Of.calls k 0 16 _ _ y298 t301 _ ?side1 ?side2 A2.out).mono ?_); (case side1 => exact kcW (Kd.N_reads' HO300.out).2.2); (case side2 => exact (Kd.N_reads' HO300.out).2.1); rintro e w78 ⟨v302, rfl, ho0, hb⟩; refine ⟨_, rfl, ?_⟩; have n0_ := Aside0.mk (Kd.N_elder' (noW HO300.out) (Kd.S_base ho0) hb); have n1_ := Aside0.mk (Kd.N_lower (Kd.N_mono (ok' := fun k_ => some k_ ≠ (.slice Ao77 y298.length co77 : Value).ownBlock) (Kd.S_N (Kd.S_bound ho0)) (fun k_ hk_ => (Kd.fresh' (Kd.N_lt (noW HO300.out)) k_ hk_.2.1))) (below_size blw)); have n2_ := Aside0.mk (below_step blw hb); clear HO300; clear HB; have HO300 := n0_; have HO303 := n1_; have HB := n2_; clear n0_ n1_ n2_; (try clear hb); (try clear hb2); (try clear hk); (try clear hi); (try clear ho0); obtain ⟨Ao79, co79, eo79⟩ := Kd.N_slice HO303.out; subst eo79) | ((with_reducible refine gate_callee (f := 9) rfl ?_); refine goesL_ (some 9) rfl rfl Tryd.func9 (by kernel_rfl) rfl #[.slice Ao79 t301.length co79] rfl gargs ?_; (with_reducible refine (tree_Encode.calls k _ _ t301 t304 t305 _ ?side1 ?side2 ?tb_ A3.out).mono ?_); (case tb_ => exact tbw); (case side1 => exact kcW (Kd.N_reads' HO303.out).2.2); (case side2 => exact (Kd.N_reads' HO303.out).2.1); rintro e w80 ⟨rfl, hb⟩; refine ⟨_, rfl, ?_⟩; have n0_ := Aside0.mk (Kd.N_below (noW HO300.out) hb); have n1_ := Aside0.mk (Kd.N_below (noW HO303.out) hb); have n2_ := Aside0.mk (below_step blw hb); clear HO300; clear HO303; clear HB; have HO300 := n0_; have HO303 := n1_; have HB := n2_; clear n0_ n1_ n2_; (try clear hb); (try clear hb2); (try clear hk); (try clear hi)))
  go_ret
  exact ⟨rse, blw⟩
 rw [if_pos c5] at H
 have c5b0 : (t305 == 0) = true := beq_iff_eq.mpr c5
 have c5b1 : (t305 != 0) = false := bne_eq_false_iff_eq.mpr c5
 clear c5
 replace H := Option.bind_eq_some_iff.mp H
 obtain ⟨t306, A60, H⟩ := H
 replace H : (if t306 = true then ((tree_Depth.f k t301).bind fun t307 => (if t307 = 2 then ((tree_Size.f k t301).bind fun t308 => (if t308 = 5 then ((tree_Kids.f k t301).bind fun t309 => (if (t309.length : Int) = 1 then ((tree_Sub.f k t301 1).bind fun t312 => (some ((t312.length : Int) == 1))) else (some false))) else (some false))) else (some false))) else (some false)) = some r := H
 have A6 := Aside0.mk A60
 clear A60
 by_cases c7 : t306 = true
 case neg =>
  replace c7 := Bool.eq_false_iff.mpr c7
  subst c7
  have H1 : (some false) = some r := by rw [if_neg (show ¬ (false = true) by decide)] at H; exact H
  clear H
  have H := H1
  clear H1
  obtain rfl := Option.some.inj H
  go_enter Tryd.func8, Tryd.ntmps8
  go_wp2_with (first | ((with_reducible refine gate_callee (f := 21) rfl ?_); refine goesL_ (some 4) rfl rfl Tryd.func21 (by kernel_rfl) rfl #[.int .i64 0, .int .i64 2, .string (⟨#[5]⟩ : ByteArray)] rfl gargs ?_; (with_reducible refine (tree_Leaf.calls 0 2 (⟨#[5]⟩ : ByteArray) t295 _ A1.out).mono ?_); rintro e w64 ⟨v296, rfl, ho0, hb⟩; refine ⟨_, rfl, ?_⟩; have n0_ := Aside0.mk (Kd.N_lower (Kd.N_mono (ok' := fun k_ => True) (Kd.S_N (Kd.S_bound ho0)) (fun k_ hk_ => trivial)) (below_size blw)); have n1_ := Aside0.mk (below_step blw hb); clear HB; have HO297 := n0_; have HB := n1_; clear n0_ n1_; (try clear hb); (try clear hb2); (try clear hk); (try clear hi); (try clear ho0); obtain ⟨Ao65, co65, eo65⟩ := Kd.N_slice HO297.out; subst eo65) | ((with_reducible refine gate_dst (N := 5) rfl ?_); (try (refine gate_guard (by rfl) ?_; dsimp only)); refine Kd.N_lit (Kd.slice 41 k41) _ 23 ?hg (N' := 5) ?hd (xs := ([t295] : List (List (S41)))) (inner := [.slice Ao65 t295.length co65]) (ok := (fun _ => True)) (okp := (fun _ => True)) ?hr ?hp (fun _ hk => hk) ((show ∀ k_, w64.heap.size ≤ k_ → (fun _ => True) k_ from fun k_ hk => trivial) _ (Nat.le_refl _)) (Below.refl _ _) (Nat.le_refl _) (by simp) ?_; (case hd => rfl); (case hg => rfl); (case hr => first | (go_simp; done) | (go_simp; rfl)); (case hp => exact (Reps.one (show Kd.FK (Kd.slice 41 k41) _ _ t295 [.slice Ao65 t295.length co65] from (Kd.FK_slice_mk (Kd.N_reads' (Kd.N_mono (ok' := (fun _ => True)) (HO297.out) (fun k_ hk => trivial))).2.1 (Kd.N_F (Kd.N_mono (ok' := (fun _ => True)) (HO297.out) (fun k_ hk => trivial))))) (Reps.none _ _))); intro v299 w66 ho67 hb hg_ hnew_; clear hg_ hnew_; (first | rw [← Ny298.out] at ho67 | (simp only [Int.reduceToNat] at ho67; rw [← Ny298.out] at ho67)); have n0_ := Aside0.mk (Kd.N_lower ho67 (below_size blw)); have n1_ := Aside0.mk (below_step blw hb); clear HB; clear HO297; have HO300 := n0_; have HB := n1_; clear n0_ n1_; clear hb ho67; obtain ⟨Ao68, co68, eo68⟩ := Kd.N_slice HO300.out; subst eo68) | ((with_reducible refine gate_callee (f := 19) rfl ?_); refine goesL_ (some 6) rfl rfl Tryd.func19 (by kernel_rfl) rfl #[.int .i64 0, .int .i64 16, .slice Ao68 y298.length co68] rfl gargs ?_; (with_reducible refine (tree_Of.calls k 0 16 _ _ y298 t301 _ ?side1 ?side2 A2.out).mono ?_); (case side1 => exact kcW (Kd.N_reads' HO300.out).2.2); (case side2 => exact (Kd.N_reads' HO300.out).2.1); rintro e w69 ⟨v302, rfl, ho0, hb⟩; refine ⟨_, rfl, ?_⟩; have n0_ := Aside0.mk (Kd.N_elder' (noW HO300.out) (Kd.S_base ho0) hb); have n1_ := Aside0.mk (Kd.N_lower (Kd.N_mono (ok' := fun k_ => some k_ ≠ (.slice Ao68 y298.length co68 : Value).ownBlock) (Kd.S_N (Kd.S_bound ho0)) (fun k_ hk_ => (Kd.fresh' (Kd.N_lt (noW HO300.out)) k_ hk_.2.1))) (below_size blw)); have n2_ := Aside0.mk (below_step blw hb); clear HO300; clear HB; have HO300 := n0_; have HO303 := n1_; have HB := n2_; clear n0_ n1_ n2_; (try clear hb); (try clear hb2); (try clear hk); (try clear hi); (try clear ho0); obtain ⟨Ao70, co70, eo70⟩ := Kd.N_slice HO303.out; subst eo70) | ((with_reducible refine gate_callee (f := 9) rfl ?_); refine goesL_ (some 9) rfl rfl Tryd.func9 (by kernel_rfl) rfl #[.slice Ao70 t301.length co70] rfl gargs ?_; (with_reducible refine (tree_Encode.calls k _ _ t301 t304 t305 _ ?side1 ?side2 ?tb_ A3.out).mono ?_); (case tb_ => exact tbw); (case side1 => exact kcW (Kd.N_reads' HO303.out).2.2); (case side2 => exact (Kd.N_reads' HO303.out).2.1); rintro e w71 ⟨rfl, hb⟩; refine ⟨_, rfl, ?_⟩; have n0_ := Aside0.mk (Kd.N_below (noW HO300.out) hb); have n1_ := Aside0.mk (Kd.N_below (noW HO303.out) hb); have n2_ := Aside0.mk (below_step blw hb); clear HO300; clear HO303; clear HB; have HO300 := n0_; have HO303 := n1_; have HB := n2_; clear n0_ n1_ n2_; (try clear hb); (try clear hb2); (try clear hk); (try clear hi)) | (go_at_call 11; (with_reducible refine (tree_Right.calls k _ _ t301 false _ ?side1 ?side2 ?tb_ A6.out).mono ?_); (case tb_ => exact tbw); (case side1 => exact kcW (Kd.N_reads' HO303.out).2.2); (case side2 => exact (Kd.N_reads' HO303.out).2.1); rintro e w72 ⟨rfl, hb⟩; have n0_ := Aside0.mk (Kd.N_below (noW HO300.out) hb); have n1_ := Aside0.mk (Kd.N_below (noW HO303.out) hb); have n2_ := Aside0.mk (below_step blw hb); clear HO300; clear HO303; clear HB; have HO300 := n0_; have HO303 := n1_; have HB := n2_; clear n0_ n1_ n2_; (try clear hb); (try clear hb2); (try clear hk); (try clear hi)))
  go_ret
  exact ⟨rse, blw⟩
 subst c7
 have H1 : ((tree_Depth.f k t301).bind fun t307 => (if t307 = 2 then ((tree_Size.f k t301).bind fun t308 => (if t308 = 5 then ((tree_Kids.f k t301).bind fun t309 => (if (t309.length : Int) = 1 then ((tree_Sub.f k t301 1).bind fun t312 => (some ((t312.length : Int) == 1))) else (some false))) else (some false))) else (some false))) = some r := by rw [if_pos rfl] at H; exact H
 clear H
 have H := H1
 clear H1
 replace H := Option.bind_eq_some_iff.mp H
 obtain ⟨t307, A80, H⟩ := H
 replace H : (if t307 = 2 then ((tree_Size.f k t301).bind fun t308 => (if t308 = 5 then ((tree_Kids.f k t301).bind fun t309 => (if (t309.length : Int) = 1 then ((tree_Sub.f k t301 1).bind fun t312 => (some ((t312.length : Int) == 1))) else (some false))) else (some false))) else (some false)) = some r := H
 have A8 := Aside0.mk A80
 clear A80
 by_cases c9 : t307 = 2
 case neg =>
  rw [if_neg c9] at H
  have c9b0 : (t307 == 2) = false := beq_eq_false_iff_ne.mpr c9
  have c9b1 : (t307 != 2) = true := bne_iff_ne.mpr c9
  obtain rfl := Option.some.inj H
  go_enter Tryd.func8, Tryd.ntmps8
  go_wp2_with (first | ((with_reducible refine gate_callee (f := 21) rfl ?_); refine goesL_ (some 4) rfl rfl Tryd.func21 (by kernel_rfl) rfl #[.int .i64 0, .int .i64 2, .string (⟨#[5]⟩ : ByteArray)] rfl gargs ?_; (with_reducible refine (tree_Leaf.calls 0 2 (⟨#[5]⟩ : ByteArray) t295 _ A1.out).mono ?_); rintro e w54 ⟨v296, rfl, ho0, hb⟩; refine ⟨_, rfl, ?_⟩; have n0_ := Aside0.mk (Kd.N_lower (Kd.N_mono (ok' := fun k_ => True) (Kd.S_N (Kd.S_bound ho0)) (fun k_ hk_ => trivial)) (below_size blw)); have n1_ := Aside0.mk (below_step blw hb); clear HB; have HO297 := n0_; have HB := n1_; clear n0_ n1_; (try clear hb); (try clear hb2); (try clear hk); (try clear hi); (try clear ho0); obtain ⟨Ao55, co55, eo55⟩ := Kd.N_slice HO297.out; subst eo55) | ((with_reducible refine gate_dst (N := 5) rfl ?_); (try (refine gate_guard (by rfl) ?_; dsimp only)); refine Kd.N_lit (Kd.slice 41 k41) _ 23 ?hg (N' := 5) ?hd (xs := ([t295] : List (List (S41)))) (inner := [.slice Ao55 t295.length co55]) (ok := (fun _ => True)) (okp := (fun _ => True)) ?hr ?hp (fun _ hk => hk) ((show ∀ k_, w54.heap.size ≤ k_ → (fun _ => True) k_ from fun k_ hk => trivial) _ (Nat.le_refl _)) (Below.refl _ _) (Nat.le_refl _) (by simp) ?_; (case hd => rfl); (case hg => rfl); (case hr => first | (go_simp; done) | (go_simp; rfl)); (case hp => exact (Reps.one (show Kd.FK (Kd.slice 41 k41) _ _ t295 [.slice Ao55 t295.length co55] from (Kd.FK_slice_mk (Kd.N_reads' (Kd.N_mono (ok' := (fun _ => True)) (HO297.out) (fun k_ hk => trivial))).2.1 (Kd.N_F (Kd.N_mono (ok' := (fun _ => True)) (HO297.out) (fun k_ hk => trivial))))) (Reps.none _ _))); intro v299 w56 ho57 hb hg_ hnew_; clear hg_ hnew_; (first | rw [← Ny298.out] at ho57 | (simp only [Int.reduceToNat] at ho57; rw [← Ny298.out] at ho57)); have n0_ := Aside0.mk (Kd.N_lower ho57 (below_size blw)); have n1_ := Aside0.mk (below_step blw hb); clear HB; clear HO297; have HO300 := n0_; have HB := n1_; clear n0_ n1_; clear hb ho57; obtain ⟨Ao58, co58, eo58⟩ := Kd.N_slice HO300.out; subst eo58) | ((with_reducible refine gate_callee (f := 19) rfl ?_); refine goesL_ (some 6) rfl rfl Tryd.func19 (by kernel_rfl) rfl #[.int .i64 0, .int .i64 16, .slice Ao58 y298.length co58] rfl gargs ?_; (with_reducible refine (tree_Of.calls k 0 16 _ _ y298 t301 _ ?side1 ?side2 A2.out).mono ?_); (case side1 => exact kcW (Kd.N_reads' HO300.out).2.2); (case side2 => exact (Kd.N_reads' HO300.out).2.1); rintro e w59 ⟨v302, rfl, ho0, hb⟩; refine ⟨_, rfl, ?_⟩; have n0_ := Aside0.mk (Kd.N_elder' (noW HO300.out) (Kd.S_base ho0) hb); have n1_ := Aside0.mk (Kd.N_lower (Kd.N_mono (ok' := fun k_ => some k_ ≠ (.slice Ao58 y298.length co58 : Value).ownBlock) (Kd.S_N (Kd.S_bound ho0)) (fun k_ hk_ => (Kd.fresh' (Kd.N_lt (noW HO300.out)) k_ hk_.2.1))) (below_size blw)); have n2_ := Aside0.mk (below_step blw hb); clear HO300; clear HB; have HO300 := n0_; have HO303 := n1_; have HB := n2_; clear n0_ n1_ n2_; (try clear hb); (try clear hb2); (try clear hk); (try clear hi); (try clear ho0); obtain ⟨Ao60, co60, eo60⟩ := Kd.N_slice HO303.out; subst eo60) | ((with_reducible refine gate_callee (f := 9) rfl ?_); refine goesL_ (some 9) rfl rfl Tryd.func9 (by kernel_rfl) rfl #[.slice Ao60 t301.length co60] rfl gargs ?_; (with_reducible refine (tree_Encode.calls k _ _ t301 t304 t305 _ ?side1 ?side2 ?tb_ A3.out).mono ?_); (case tb_ => exact tbw); (case side1 => exact kcW (Kd.N_reads' HO303.out).2.2); (case side2 => exact (Kd.N_reads' HO303.out).2.1); rintro e w61 ⟨rfl, hb⟩; refine ⟨_, rfl, ?_⟩; have n0_ := Aside0.mk (Kd.N_below (noW HO300.out) hb); have n1_ := Aside0.mk (Kd.N_below (noW HO303.out) hb); have n2_ := Aside0.mk (below_step blw hb); clear HO300; clear HO303; clear HB; have HO300 := n0_; have HO303 := n1_; have HB := n2_; clear n0_ n1_ n2_; (try clear hb); (try clear hb2); (try clear hk); (try clear hi)) | (go_at_call 11; (with_reducible refine (tree_Right.calls k _ _ t301 true _ ?side1 ?side2 ?tb_ A6.out).mono ?_); (case tb_ => exact tbw); (case side1 => exact kcW (Kd.N_reads' HO303.out).2.2); (case side2 => exact (Kd.N_reads' HO303.out).2.1); rintro e w62 ⟨rfl, hb⟩; have n0_ := Aside0.mk (Kd.N_below (noW HO300.out) hb); have n1_ := Aside0.mk (Kd.N_below (noW HO303.out) hb); have n2_ := Aside0.mk (below_step blw hb); clear HO300; clear HO303; clear HB; have HO300 := n0_; have HO303 := n1_; have HB := n2_; clear n0_ n1_ n2_; (try clear hb); (try clear hb2); (try clear hk); (try clear hi)) | (go_at_call 14; (with_reducible refine (tree_Depth.calls k _ _ t301 t307 _ ?side1 ?side2 ?tb_ A8.out).mono ?_); (case tb_ => exact tbw); (case side1 => exact kcW (Kd.N_reads' HO303.out).2.2); (case side2 => exact (Kd.N_reads' HO303.out).2.1); rintro e w63 ⟨rfl, hb⟩; have n0_ := Aside0.mk (Kd.N_below (noW HO300.out) hb); have n1_ := Aside0.mk (Kd.N_below (noW HO303.out) hb); have n2_ := Aside0.mk (below_step blw hb); clear HO300; clear HO303; clear HB; have HO300 := n0_; have HO303 := n1_; have HB := n2_; clear n0_ n1_ n2_; (try clear hb); (try clear hb2); (try clear hk); (try clear hi)))
  go_ret
  exact ⟨rse, blw⟩
 rw [if_pos c9] at H
 have c9b0 : (t307 == 2) = true := beq_iff_eq.mpr c9
 have c9b1 : (t307 != 2) = false := bne_eq_false_iff_eq.mpr c9
 clear c9
 replace H := Option.bind_eq_some_iff.mp H
 obtain ⟨t308, A100, H⟩ := H
 replace H : (if t308 = 5 then ((tree_Kids.f k t301).bind fun t309 => (if (t309.length : Int) = 1 then ((tree_Sub.f k t301 1).bind fun t312 => (some ((t312.length : Int) == 1))) else (some false))) else (some false)) = some r := H
 have A10 := Aside0.mk A100
 clear A100
 by_cases c11 : t308 = 5
 case neg =>
  rw [if_neg c11] at H
  have c11b0 : (t308 == 5) = false := beq_eq_false_iff_ne.mpr c11
  have c11b1 : (t308 != 5) = true := bne_iff_ne.mpr c11
  obtain rfl := Option.some.inj H
  go_enter Tryd.func8, Tryd.ntmps8
  go_wp2_with (first | ((with_reducible refine gate_callee (f := 21) rfl ?_); refine goesL_ (some 4) rfl rfl Tryd.func21 (by kernel_rfl) rfl #[.int .i64 0, .int .i64 2, .string (⟨#[5]⟩ : ByteArray)] rfl gargs ?_; (with_reducible refine (tree_Leaf.calls 0 2 (⟨#[5]⟩ : ByteArray) t295 _ A1.out).mono ?_); rintro e w43 ⟨v296, rfl, ho0, hb⟩; refine ⟨_, rfl, ?_⟩; have n0_ := Aside0.mk (Kd.N_lower (Kd.N_mono (ok' := fun k_ => True) (Kd.S_N (Kd.S_bound ho0)) (fun k_ hk_ => trivial)) (below_size blw)); have n1_ := Aside0.mk (below_step blw hb); clear HB; have HO297 := n0_; have HB := n1_; clear n0_ n1_; (try clear hb); (try clear hb2); (try clear hk); (try clear hi); (try clear ho0); obtain ⟨Ao44, co44, eo44⟩ := Kd.N_slice HO297.out; subst eo44) | ((with_reducible refine gate_dst (N := 5) rfl ?_); (try (refine gate_guard (by rfl) ?_; dsimp only)); refine Kd.N_lit (Kd.slice 41 k41) _ 23 ?hg (N' := 5) ?hd (xs := ([t295] : List (List (S41)))) (inner := [.slice Ao44 t295.length co44]) (ok := (fun _ => True)) (okp := (fun _ => True)) ?hr ?hp (fun _ hk => hk) ((show ∀ k_, w43.heap.size ≤ k_ → (fun _ => True) k_ from fun k_ hk => trivial) _ (Nat.le_refl _)) (Below.refl _ _) (Nat.le_refl _) (by simp) ?_; (case hd => rfl); (case hg => rfl); (case hr => first | (go_simp; done) | (go_simp; rfl)); (case hp => exact (Reps.one (show Kd.FK (Kd.slice 41 k41) _ _ t295 [.slice Ao44 t295.length co44] from (Kd.FK_slice_mk (Kd.N_reads' (Kd.N_mono (ok' := (fun _ => True)) (HO297.out) (fun k_ hk => trivial))).2.1 (Kd.N_F (Kd.N_mono (ok' := (fun _ => True)) (HO297.out) (fun k_ hk => trivial))))) (Reps.none _ _))); intro v299 w45 ho46 hb hg_ hnew_; clear hg_ hnew_; (first | rw [← Ny298.out] at ho46 | (simp only [Int.reduceToNat] at ho46; rw [← Ny298.out] at ho46)); have n0_ := Aside0.mk (Kd.N_lower ho46 (below_size blw)); have n1_ := Aside0.mk (below_step blw hb); clear HB; clear HO297; have HO300 := n0_; have HB := n1_; clear n0_ n1_; clear hb ho46; obtain ⟨Ao47, co47, eo47⟩ := Kd.N_slice HO300.out; subst eo47) | ((with_reducible refine gate_callee (f := 19) rfl ?_); refine goesL_ (some 6) rfl rfl Tryd.func19 (by kernel_rfl) rfl #[.int .i64 0, .int .i64 16, .slice Ao47 y298.length co47] rfl gargs ?_; (with_reducible refine (tree_Of.calls k 0 16 _ _ y298 t301 _ ?side1 ?side2 A2.out).mono ?_); (case side1 => exact kcW (Kd.N_reads' HO300.out).2.2); (case side2 => exact (Kd.N_reads' HO300.out).2.1); rintro e w48 ⟨v302, rfl, ho0, hb⟩; refine ⟨_, rfl, ?_⟩; have n0_ := Aside0.mk (Kd.N_elder' (noW HO300.out) (Kd.S_base ho0) hb); have n1_ := Aside0.mk (Kd.N_lower (Kd.N_mono (ok' := fun k_ => some k_ ≠ (.slice Ao47 y298.length co47 : Value).ownBlock) (Kd.S_N (Kd.S_bound ho0)) (fun k_ hk_ => (Kd.fresh' (Kd.N_lt (noW HO300.out)) k_ hk_.2.1))) (below_size blw)); have n2_ := Aside0.mk (below_step blw hb); clear HO300; clear HB; have HO300 := n0_; have HO303 := n1_; have HB := n2_; clear n0_ n1_ n2_; (try clear hb); (try clear hb2); (try clear hk); (try clear hi); (try clear ho0); obtain ⟨Ao49, co49, eo49⟩ := Kd.N_slice HO303.out; subst eo49) | ((with_reducible refine gate_callee (f := 9) rfl ?_); refine goesL_ (some 9) rfl rfl Tryd.func9 (by kernel_rfl) rfl #[.slice Ao49 t301.length co49] rfl gargs ?_; (with_reducible refine (tree_Encode.calls k _ _ t301 t304 t305 _ ?side1 ?side2 ?tb_ A3.out).mono ?_); (case tb_ => exact tbw); (case side1 => exact kcW (Kd.N_reads' HO303.out).2.2); (case side2 => exact (Kd.N_reads' HO303.out).2.1); rintro e w50 ⟨rfl, hb⟩; refine ⟨_, rfl, ?_⟩; have n0_ := Aside0.mk (Kd.N_below (noW HO300.out) hb); have n1_ := Aside0.mk (Kd.N_below (noW HO303.out) hb); have n2_ := Aside0.mk (below_step blw hb); clear HO300; clear HO303; clear HB; have HO300 := n0_; have HO303 := n1_; have HB := n2_; clear n0_ n1_ n2_; (try clear hb); (try clear hb2); (try clear hk); (try clear hi)) | (go_at_call 11; (with_reducible refine (tree_Right.calls k _ _ t301 true _ ?side1 ?side2 ?tb_ A6.out).mono ?_); (case tb_ => exact tbw); (case side1 => exact kcW (Kd.N_reads' HO303.out).2.2); (case side2 => exact (Kd.N_reads' HO303.out).2.1); rintro e w51 ⟨rfl, hb⟩; have n0_ := Aside0.mk (Kd.N_below (noW HO300.out) hb); have n1_ := Aside0.mk (Kd.N_below (noW HO303.out) hb); have n2_ := Aside0.mk (below_step blw hb); clear HO300; clear HO303; clear HB; have HO300 := n0_; have HO303 := n1_; have HB := n2_; clear n0_ n1_ n2_; (try clear hb); (try clear hb2); (try clear hk); (try clear hi)) | (go_at_call 14; (with_reducible refine (tree_Depth.calls k _ _ t301 t307 _ ?side1 ?side2 ?tb_ A8.out).mono ?_); (case tb_ => exact tbw); (case side1 => exact kcW (Kd.N_reads' HO303.out).2.2); (case side2 => exact (Kd.N_reads' HO303.out).2.1); rintro e w52 ⟨rfl, hb⟩; have n0_ := Aside0.mk (Kd.N_below (noW HO300.out) hb); have n1_ := Aside0.mk (Kd.N_below (noW HO303.out) hb); have n2_ := Aside0.mk (below_step blw hb); clear HO300; clear HO303; clear HB; have HO300 := n0_; have HO303 := n1_; have HB := n2_; clear n0_ n1_ n2_; (try clear hb); (try clear hb2); (try clear hk); (try clear hi)) | (go_at_call 13; (with_reducible refine (tree_Size.calls k _ _ t301 t308 _ ?side1 ?side2 ?tb_ A10.out).mono ?_); (case tb_ => exact tbw); (case side1 => exact kcW (Kd.N_reads' HO303.out).2.2); (case side2 => exact (Kd.N_reads' HO303.out).2.1); rintro e w53 ⟨rfl, hb⟩; have n0_ := Aside0.mk (Kd.N_below (noW HO300.out) hb); have n1_ := Aside0.mk (Kd.N_below (noW HO303.out) hb); have n2_ := Aside0.mk (below_step blw hb); clear HO300; clear HO303; clear HB; have HO300 := n0_; have HO303 := n1_; have HB := n2_; clear n0_ n1_ n2_; (try clear hb); (try clear hb2); (try clear hk); (try clear hi)))
  go_ret
  exact ⟨rse, blw⟩
 rw [if_pos c11] at H
 have c11b0 : (t308 == 5) = true := beq_iff_eq.mpr c11
 have c11b1 : (t308 != 5) = false := bne_eq_false_iff_eq.mpr c11
 clear c11
 replace H := Option.bind_eq_some_iff.mp H
 obtain ⟨t309, A120, H⟩ := H
 replace H : (if (t309.length : Int) = 1 then ((tree_Sub.f k t301 1).bind fun t312 => (some ((t312.length : Int) == 1))) else (some false)) = some r := H
 have A12 := Aside0.mk A120
 clear A120
 by_cases c13 : (t309.length : Int) = 1
 case neg =>
  rw [if_neg c13] at H
  have c13b0 : ((t309.length : Int) == 1) = false := beq_eq_false_iff_ne.mpr c13
  have c13b1 : ((t309.length : Int) != 1) = true := bne_iff_ne.mpr c13
  obtain rfl := Option.some.inj H
  go_enter Tryd.func8, Tryd.ntmps8
  go_wp2_with (first | ((with_reducible refine gate_callee (f := 21) rfl ?_); refine goesL_ (some 4) rfl rfl Tryd.func21 (by kernel_rfl) rfl #[.int .i64 0, .int .i64 2, .string (⟨#[5]⟩ : ByteArray)] rfl gargs ?_; (with_reducible refine (tree_Leaf.calls 0 2 (⟨#[5]⟩ : ByteArray) t295 _ A1.out).mono ?_); rintro e w30 ⟨v296, rfl, ho0, hb⟩; refine ⟨_, rfl, ?_⟩; have n0_ := Aside0.mk (Kd.N_lower (Kd.N_mono (ok' := fun k_ => True) (Kd.S_N (Kd.S_bound ho0)) (fun k_ hk_ => trivial)) (below_size blw)); have n1_ := Aside0.mk (below_step blw hb); clear HB; have HO297 := n0_; have HB := n1_; clear n0_ n1_; (try clear hb); (try clear hb2); (try clear hk); (try clear hi); (try clear ho0); obtain ⟨Ao31, co31, eo31⟩ := Kd.N_slice HO297.out; subst eo31) | ((with_reducible refine gate_dst (N := 5) rfl ?_); (try (refine gate_guard (by rfl) ?_; dsimp only)); refine Kd.N_lit (Kd.slice 41 k41) _ 23 ?hg (N' := 5) ?hd (xs := ([t295] : List (List (S41)))) (inner := [.slice Ao31 t295.length co31]) (ok := (fun _ => True)) (okp := (fun _ => True)) ?hr ?hp (fun _ hk => hk) ((show ∀ k_, w30.heap.size ≤ k_ → (fun _ => True) k_ from fun k_ hk => trivial) _ (Nat.le_refl _)) (Below.refl _ _) (Nat.le_refl _) (by simp) ?_; (case hd => rfl); (case hg => rfl); (case hr => first | (go_simp; done) | (go_simp; rfl)); (case hp => exact (Reps.one (show Kd.FK (Kd.slice 41 k41) _ _ t295 [.slice Ao31 t295.length co31] from (Kd.FK_slice_mk (Kd.N_reads' (Kd.N_mono (ok' := (fun _ => True)) (HO297.out) (fun k_ hk => trivial))).2.1 (Kd.N_F (Kd.N_mono (ok' := (fun _ => True)) (HO297.out) (fun k_ hk => trivial))))) (Reps.none _ _))); intro v299 w32 ho33 hb hg_ hnew_; clear hg_ hnew_; (first | rw [← Ny298.out] at ho33 | (simp only [Int.reduceToNat] at ho33; rw [← Ny298.out] at ho33)); have n0_ := Aside0.mk (Kd.N_lower ho33 (below_size blw)); have n1_ := Aside0.mk (below_step blw hb); clear HB; clear HO297; have HO300 := n0_; have HB := n1_; clear n0_ n1_; clear hb ho33; obtain ⟨Ao34, co34, eo34⟩ := Kd.N_slice HO300.out; subst eo34) | ((with_reducible refine gate_callee (f := 19) rfl ?_); refine goesL_ (some 6) rfl rfl Tryd.func19 (by kernel_rfl) rfl #[.int .i64 0, .int .i64 16, .slice Ao34 y298.length co34] rfl gargs ?_; (with_reducible refine (tree_Of.calls k 0 16 _ _ y298 t301 _ ?side1 ?side2 A2.out).mono ?_); (case side1 => exact kcW (Kd.N_reads' HO300.out).2.2); (case side2 => exact (Kd.N_reads' HO300.out).2.1); rintro e w35 ⟨v302, rfl, ho0, hb⟩; refine ⟨_, rfl, ?_⟩; have n0_ := Aside0.mk (Kd.N_elder' (noW HO300.out) (Kd.S_base ho0) hb); have n1_ := Aside0.mk (Kd.N_lower (Kd.N_mono (ok' := fun k_ => some k_ ≠ (.slice Ao34 y298.length co34 : Value).ownBlock) (Kd.S_N (Kd.S_bound ho0)) (fun k_ hk_ => (Kd.fresh' (Kd.N_lt (noW HO300.out)) k_ hk_.2.1))) (below_size blw)); have n2_ := Aside0.mk (below_step blw hb); clear HO300; clear HB; have HO300 := n0_; have HO303 := n1_; have HB := n2_; clear n0_ n1_ n2_; (try clear hb); (try clear hb2); (try clear hk); (try clear hi); (try clear ho0); obtain ⟨Ao36, co36, eo36⟩ := Kd.N_slice HO303.out; subst eo36) | ((with_reducible refine gate_callee (f := 9) rfl ?_); refine goesL_ (some 9) rfl rfl Tryd.func9 (by kernel_rfl) rfl #[.slice Ao36 t301.length co36] rfl gargs ?_; (with_reducible refine (tree_Encode.calls k _ _ t301 t304 t305 _ ?side1 ?side2 ?tb_ A3.out).mono ?_); (case tb_ => exact tbw); (case side1 => exact kcW (Kd.N_reads' HO303.out).2.2); (case side2 => exact (Kd.N_reads' HO303.out).2.1); rintro e w37 ⟨rfl, hb⟩; refine ⟨_, rfl, ?_⟩; have n0_ := Aside0.mk (Kd.N_below (noW HO300.out) hb); have n1_ := Aside0.mk (Kd.N_below (noW HO303.out) hb); have n2_ := Aside0.mk (below_step blw hb); clear HO300; clear HO303; clear HB; have HO300 := n0_; have HO303 := n1_; have HB := n2_; clear n0_ n1_ n2_; (try clear hb); (try clear hb2); (try clear hk); (try clear hi)) | (go_at_call 11; (with_reducible refine (tree_Right.calls k _ _ t301 true _ ?side1 ?side2 ?tb_ A6.out).mono ?_); (case tb_ => exact tbw); (case side1 => exact kcW (Kd.N_reads' HO303.out).2.2); (case side2 => exact (Kd.N_reads' HO303.out).2.1); rintro e w38 ⟨rfl, hb⟩; have n0_ := Aside0.mk (Kd.N_below (noW HO300.out) hb); have n1_ := Aside0.mk (Kd.N_below (noW HO303.out) hb); have n2_ := Aside0.mk (below_step blw hb); clear HO300; clear HO303; clear HB; have HO300 := n0_; have HO303 := n1_; have HB := n2_; clear n0_ n1_ n2_; (try clear hb); (try clear hb2); (try clear hk); (try clear hi)) | (go_at_call 14; (with_reducible refine (tree_Depth.calls k _ _ t301 t307 _ ?side1 ?side2 ?tb_ A8.out).mono ?_); (case tb_ => exact tbw); (case side1 => exact kcW (Kd.N_reads' HO303.out).2.2); (case side2 => exact (Kd.N_reads' HO303.out).2.1); rintro e w39 ⟨rfl, hb⟩; have n0_ := Aside0.mk (Kd.N_below (noW HO300.out) hb); have n1_ := Aside0.mk (Kd.N_below (noW HO303.out) hb); have n2_ := Aside0.mk (below_step blw hb); clear HO300; clear HO303; clear HB; have HO300 := n0_; have HO303 := n1_; have HB := n2_; clear n0_ n1_ n2_; (try clear hb); (try clear hb2); (try clear hk); (try clear hi)) | (go_at_call 13; (with_reducible refine (tree_Size.calls k _ _ t301 t308 _ ?side1 ?side2 ?tb_ A10.out).mono ?_); (case tb_ => exact tbw); (case side1 => exact kcW (Kd.N_reads' HO303.out).2.2); (case side2 => exact (Kd.N_reads' HO303.out).2.1); rintro e w40 ⟨rfl, hb⟩; have n0_ := Aside0.mk (Kd.N_below (noW HO300.out) hb); have n1_ := Aside0.mk (Kd.N_below (noW HO303.out) hb); have n2_ := Aside0.mk (below_step blw hb); clear HO300; clear HO303; clear HB; have HO300 := n0_; have HO303 := n1_; have HB := n2_; clear n0_ n1_ n2_; (try clear hb); (try clear hb2); (try clear hk); (try clear hi)) | (go_at_call 23; (with_reducible refine (tree_Kids.calls k _ _ t301 t309 _ ?side1 ?side2 ?tb_ A12.out).mono ?_); (case tb_ => exact tbw); (case side1 => exact kcW (Kd.N_reads' HO303.out).2.2); (case side2 => exact (Kd.N_reads' HO303.out).2.1); rintro e w41 ⟨v310, rfl, ho0, hb⟩; have n0_ := Aside0.mk (Kd.N_elder' (noW HO300.out) (Kd.R_base ho0) hb); have n1_ := Aside0.mk (Kd.N_elder' (noW HO303.out) (Kd.R_base ho0) hb); have n2_ := Aside0.mk (Kd.N_lower (Kd.N_mono (ok' := fun k_ => some k_ ≠ (.slice Ao34 y298.length co34 : Value).ownBlock ∧ some k_ ≠ (.slice Ao36 t301.length co36 : Value).ownBlock) (Kd.R_N (Kd.R_bound ho0)) (fun k_ hk_ => ⟨(Kd.fresh' (Kd.N_lt (noW HO300.out)) k_ hk_.2.1), (Kd.fresh' (Kd.N_lt (noW HO303.out)) k_ hk_.2.1)⟩)) (below_size blw)); have n3_ := Aside0.mk (below_step blw hb); clear HO300; clear HO303; clear HB; have HO300 := n0_; have HO303 := n1_; have HO311 := n2_; have HB := n3_; clear n0_ n1_ n2_ n3_; (try clear hb); (try clear hb2); (try clear hk); (try clear hi); (try clear ho0); obtain ⟨Ao42, co42, eo42⟩ := Kd.N_slice HO311.out; subst eo42))
  go_ret
  exact ⟨rse, blw⟩
 rw [if_pos c13] at H
 have c13b0 : ((t309.length : Int) == 1) = true := beq_iff_eq.mpr c13
 have c13b1 : ((t309.length : Int) != 1) = false := bne_eq_false_iff_eq.mpr c13
 clear c13
 replace H := Option.bind_eq_some_iff.mp H
 obtain ⟨t312, A140, H⟩ := H
 replace H : (some ((t312.length : Int) == 1)) = some r := H
 have A14 := Aside0.mk A140
 clear A140
 obtain rfl := Option.some.inj H
 go_enter Tryd.func8, Tryd.ntmps8
 go_wp2_with (first | ((with_reducible refine gate_callee (f := 21) rfl ?_); refine goesL_ (some 4) rfl rfl Tryd.func21 (by kernel_rfl) rfl #[.int .i64 0, .int .i64 2, .string (⟨#[5]⟩ : ByteArray)] rfl gargs ?_; (with_reducible refine (tree_Leaf.calls 0 2 (⟨#[5]⟩ : ByteArray) t295 _ A1.out).mono ?_); rintro e w15 ⟨v296, rfl, ho0, hb⟩; refine ⟨_, rfl, ?_⟩; have n0_ := Aside0.mk (Kd.N_lower (Kd.N_mono (ok' := fun k_ => True) (Kd.S_N (Kd.S_bound ho0)) (fun k_ hk_ => trivial)) (below_size blw)); have n1_ := Aside0.mk (below_step blw hb); clear HB; have HO297 := n0_; have HB := n1_; clear n0_ n1_; (try clear hb); (try clear hb2); (try clear hk); (try clear hi); (try clear ho0); obtain ⟨Ao16, co16, eo16⟩ := Kd.N_slice HO297.out; subst eo16) | ((with_reducible refine gate_dst (N := 5) rfl ?_); (try (refine gate_guard (by rfl) ?_; dsimp only)); refine Kd.N_lit (Kd.slice 41 k41) _ 23 ?hg (N' := 5) ?hd (xs := ([t295] : List (List (S41)))) (inner := [.slice Ao16 t295.length co16]) (ok := (fun _ => True)) (okp := (fun _ => True)) ?hr ?hp (fun _ hk => hk) ((show ∀ k_, w15.heap.size ≤ k_ → (fun _ => True) k_ from fun k_ hk => trivial) _ (Nat.le_refl _)) (Below.refl _ _) (Nat.le_refl _) (by simp) ?_; (case hd => rfl); (case hg => rfl); (case hr => first | (go_simp; done) | (go_simp; rfl)); (case hp => exact (Reps.one (show Kd.FK (Kd.slice 41 k41) _ _ t295 [.slice Ao16 t295.length co16] from (Kd.FK_slice_mk (Kd.N_reads' (Kd.N_mono (ok' := (fun _ => True)) (HO297.out) (fun k_ hk => trivial))).2.1 (Kd.N_F (Kd.N_mono (ok' := (fun _ => True)) (HO297.out) (fun k_ hk => trivial))))) (Reps.none _ _))); intro v299 w17 ho18 hb hg_ hnew_; clear hg_ hnew_; (first | rw [← Ny298.out] at ho18 | (simp only [Int.reduceToNat] at ho18; rw [← Ny298.out] at ho18)); have n0_ := Aside0.mk (Kd.N_lower ho18 (below_size blw)); have n1_ := Aside0.mk (below_step blw hb); clear HB; clear HO297; have HO300 := n0_; have HB := n1_; clear n0_ n1_; clear hb ho18; obtain ⟨Ao19, co19, eo19⟩ := Kd.N_slice HO300.out; subst eo19) | ((with_reducible refine gate_callee (f := 19) rfl ?_); refine goesL_ (some 6) rfl rfl Tryd.func19 (by kernel_rfl) rfl #[.int .i64 0, .int .i64 16, .slice Ao19 y298.length co19] rfl gargs ?_; (with_reducible refine (tree_Of.calls k 0 16 _ _ y298 t301 _ ?side1 ?side2 A2.out).mono ?_); (case side1 => exact kcW (Kd.N_reads' HO300.out).2.2); (case side2 => exact (Kd.N_reads' HO300.out).2.1); rintro e w20 ⟨v302, rfl, ho0, hb⟩; refine ⟨_, rfl, ?_⟩; have n0_ := Aside0.mk (Kd.N_elder' (noW HO300.out) (Kd.S_base ho0) hb); have n1_ := Aside0.mk (Kd.N_lower (Kd.N_mono (ok' := fun k_ => some k_ ≠ (.slice Ao19 y298.length co19 : Value).ownBlock) (Kd.S_N (Kd.S_bound ho0)) (fun k_ hk_ => (Kd.fresh' (Kd.N_lt (noW HO300.out)) k_ hk_.2.1))) (below_size blw)); have n2_ := Aside0.mk (below_step blw hb); clear HO300; clear HB; have HO300 := n0_; have HO303 := n1_; have HB := n2_; clear n0_ n1_ n2_; (try clear hb); (try clear hb2); (try clear hk); (try clear hi); (try clear ho0); obtain ⟨Ao21, co21, eo21⟩ := Kd.N_slice HO303.out; subst eo21) | ((with_reducible refine gate_callee (f := 9) rfl ?_); refine goesL_ (some 9) rfl rfl Tryd.func9 (by kernel_rfl) rfl #[.slice Ao21 t301.length co21] rfl gargs ?_; (with_reducible refine (tree_Encode.calls k _ _ t301 t304 t305 _ ?side1 ?side2 ?tb_ A3.out).mono ?_); (case tb_ => exact tbw); (case side1 => exact kcW (Kd.N_reads' HO303.out).2.2); (case side2 => exact (Kd.N_reads' HO303.out).2.1); rintro e w22 ⟨rfl, hb⟩; refine ⟨_, rfl, ?_⟩; have n0_ := Aside0.mk (Kd.N_below (noW HO300.out) hb); have n1_ := Aside0.mk (Kd.N_below (noW HO303.out) hb); have n2_ := Aside0.mk (below_step blw hb); clear HO300; clear HO303; clear HB; have HO300 := n0_; have HO303 := n1_; have HB := n2_; clear n0_ n1_ n2_; (try clear hb); (try clear hb2); (try clear hk); (try clear hi)) | (go_at_call 11; (with_reducible refine (tree_Right.calls k _ _ t301 true _ ?side1 ?side2 ?tb_ A6.out).mono ?_); (case tb_ => exact tbw); (case side1 => exact kcW (Kd.N_reads' HO303.out).2.2); (case side2 => exact (Kd.N_reads' HO303.out).2.1); rintro e w23 ⟨rfl, hb⟩; have n0_ := Aside0.mk (Kd.N_below (noW HO300.out) hb); have n1_ := Aside0.mk (Kd.N_below (noW HO303.out) hb); have n2_ := Aside0.mk (below_step blw hb); clear HO300; clear HO303; clear HB; have HO300 := n0_; have HO303 := n1_; have HB := n2_; clear n0_ n1_ n2_; (try clear hb); (try clear hb2); (try clear hk); (try clear hi)) | (go_at_call 14; (with_reducible refine (tree_Depth.calls k _ _ t301 t307 _ ?side1 ?side2 ?tb_ A8.out).mono ?_); (case tb_ => exact tbw); (case side1 => exact kcW (Kd.N_reads' HO303.out).2.2); (case side2 => exact (Kd.N_reads' HO303.out).2.1); rintro e w24 ⟨rfl, hb⟩; have n0_ := Aside0.mk (Kd.N_below (noW HO300.out) hb); have n1_ := Aside0.mk (Kd.N_below (noW HO303.out) hb); have n2_ := Aside0.mk (below_step blw hb); clear HO300; clear HO303; clear HB; have HO300 := n0_; have HO303 := n1_; have HB := n2_; clear n0_ n1_ n2_; (try clear hb); (try clear hb2); (try clear hk); (try clear hi)) | (go_at_call 13; (with_reducible refine (tree_Size.calls k _ _ t301 t308 _ ?side1 ?side2 ?tb_ A10.out).mono ?_); (case tb_ => exact tbw); (case side1 => exact kcW (Kd.N_reads' HO303.out).2.2); (case side2 => exact (Kd.N_reads' HO303.out).2.1); rintro e w25 ⟨rfl, hb⟩; have n0_ := Aside0.mk (Kd.N_below (noW HO300.out) hb); have n1_ := Aside0.mk (Kd.N_below (noW HO303.out) hb); have n2_ := Aside0.mk (below_step blw hb); clear HO300; clear HO303; clear HB; have HO300 := n0_; have HO303 := n1_; have HB := n2_; clear n0_ n1_ n2_; (try clear hb); (try clear hb2); (try clear hk); (try clear hi)) | (go_at_call 23; (with_reducible refine (tree_Kids.calls k _ _ t301 t309 _ ?side1 ?side2 ?tb_ A12.out).mono ?_); (case tb_ => exact tbw); (case side1 => exact kcW (Kd.N_reads' HO303.out).2.2); (case side2 => exact (Kd.N_reads' HO303.out).2.1); rintro e w26 ⟨v310, rfl, ho0, hb⟩; have n0_ := Aside0.mk (Kd.N_elder' (noW HO300.out) (Kd.R_base ho0) hb); have n1_ := Aside0.mk (Kd.N_elder' (noW HO303.out) (Kd.R_base ho0) hb); have n2_ := Aside0.mk (Kd.N_lower (Kd.N_mono (ok' := fun k_ => some k_ ≠ (.slice Ao19 y298.length co19 : Value).ownBlock ∧ some k_ ≠ (.slice Ao21 t301.length co21 : Value).ownBlock) (Kd.R_N (Kd.R_bound ho0)) (fun k_ hk_ => ⟨(Kd.fresh' (Kd.N_lt (noW HO300.out)) k_ hk_.2.1), (Kd.fresh' (Kd.N_lt (noW HO303.out)) k_ hk_.2.1)⟩)) (below_size blw)); have n3_ := Aside0.mk (below_step blw hb); clear HO300; clear HO303; clear HB; have HO300 := n0_; have HO303 := n1_; have HO311 := n2_; have HB := n3_; clear n0_ n1_ n2_ n3_; (try clear hb); (try clear hb2); (try clear hk); (try clear hi); (try clear ho0); obtain ⟨Ao27, co27, eo27⟩ := Kd.N_slice HO311.out; subst eo27) | (go_at_call 17; (with_reducible refine (tree_Sub.calls k _ _ t301 1 t312 _ ?side1 ?side2 ?tb_ A14.out).mono ?_); (case tb_ => exact tbw); (case side1 => exact kcW (Kd.N_reads' HO303.out).2.2); (case side2 => exact (Kd.N_reads' HO303.out).2.1); rintro e w28 ⟨v313, rfl, ho0, hb⟩; have n0_ := Aside0.mk (Kd.N_elder' (noW HO300.out) (Kd.S_base ho0) hb); have n1_ := Aside0.mk (Kd.N_elder' (noW HO303.out) (Kd.S_base ho0) hb); have n2_ := Aside0.mk (Kd.N_elder' (noW HO311.out) (Kd.S_base ho0) hb); have n3_ := Aside0.mk (Kd.N_lower (Kd.N_mono (ok' := fun k_ => some k_ ≠ (.slice Ao19 y298.length co19 : Value).ownBlock ∧ some k_ ≠ (.slice Ao21 t301.length co21 : Value).ownBlock ∧ some k_ ≠ (.slice Ao27 t309.length co27 : Value).ownBlock) (Kd.S_N (Kd.S_bound ho0)) (fun k_ hk_ => ⟨(Kd.fresh' (Kd.N_lt (noW HO300.out)) k_ hk_.2.1), (Kd.fresh' (Kd.N_lt (noW HO303.out)) k_ hk_.2.1), (Kd.fresh' (Kd.N_lt (noW HO311.out)) k_ hk_.2.1)⟩)) (below_size blw)); have n4_ := Aside0.mk (below_step blw hb); clear HO300; clear HO303; clear HO311; clear HB; have HO300 := n0_; have HO303 := n1_; have HO311 := n2_; have HO314 := n3_; have HB := n4_; clear n0_ n1_ n2_ n3_ n4_; (try clear hb); (try clear hb2); (try clear hk); (try clear hi); (try clear ho0); obtain ⟨Ao29, co29, eo29⟩ := Kd.N_slice HO314.out; subst eo29))
 go_ret
 exact ⟨rse, blw⟩

/-! ### cr18_Unbool: function 62 -/
def cr18_Unbool.f (a0 : ByteArray) : Option (Bool × Bool) := if a0.toList = ([255] : List UInt8) then (some (true, true)) else (some (false, (a0.toList == ([0] : List UInt8))))
set_option maxHeartbeats 8000000 in
set_option maxRecDepth 100000 in
theorem cr18_Unbool.calls (a0 : ByteArray) (r1 : Bool) (r2 : Bool) (w : World) (h : cr18_Unbool.f a0 = some (r1, r2)) :
 Calls Tryd.prog 62 #[.string a0] w fun e w' => e = .returned (.tuple #[.bool r1, .bool r2]) ∧ Drawn0 w w' := by
 have H : (if a0.toList = ([255] : List UInt8) then (some (true, true)) else (some (false, (a0.toList == ([0] : List UInt8))))) = some (r1, r2) := h
 clear h
 by_cases c2 : a0.toList = ([255] : List UInt8)
 case neg =>
  rw [if_neg c2] at H
  have c2b0 : (a0.toList == ([255] : List UInt8)) = false := beq_eq_false_iff_ne.mpr c2
  have c2b1 : (a0.toList != ([255] : List UInt8)) = true := bne_iff_ne.mpr c2
  simp only [Option.some.injEq, Prod.mk.injEq] at H
  obtain ⟨rfl, rfl⟩ := H
  go_enter Tryd.func62, Tryd.ntmps62
  go_wp2
  go_ret2
  exact ⟨rsd, drw⟩
 rw [if_pos c2] at H
 have c2b0 : (a0.toList == ([255] : List UInt8)) = true := beq_iff_eq.mpr c2
 have c2b1 : (a0.toList != ([255] : List UInt8)) = false := bne_eq_false_iff_eq.mpr c2
 clear c2
 simp only [Option.some.injEq, Prod.mk.injEq] at H
 obtain ⟨rfl, rfl⟩ := H
 go_enter Tryd.func62, Tryd.ntmps62
 go_wp2
 go_ret2
 exact ⟨rsd, drw⟩

/-! ### cr16_Right: function 63 -/
def cr16_Right.f (a0 : ByteArray) : Option (Bool) := if a0.toList = ([] : List UInt8) then (some false) else (if (a0.size : Int) = 1 then (some true) else (if 0 < (a0.size : Int) then (if (bt a0 0) = 0 then (if 1 < (a0.size : Int) then (if (bt a0 1) < 128 then (some false) else (if (bt a0 0) = 255 then (some (decide ((bt a0 1) < 128))) else (some true))) else (none)) else (if (bt a0 0) = 255 then (if 1 < (a0.size : Int) then (some (decide ((bt a0 1) < 128))) else (none)) else (some true))) else (none)))
set_option maxHeartbeats 8000000 in
set_option maxRecDepth 100000 in
theorem cr16_Right.calls (a0 : ByteArray) (r : Bool) (w : World) (h : cr16_Right.f a0 = some r) :
 Calls Tryd.prog 63 #[.string a0] w fun e w' => e = .returned (.bool r) ∧ Drawn0 w w' := by
 have H : (if a0.toList = ([] : List UInt8) then (some false) else (if (a0.size : Int) = 1 then (some true) else (if 0 < (a0.size : Int) then (if (bt a0 0) = 0 then (if 1 < (a0.size : Int) then (if (bt a0 1) < 128 then (some false) else (if (bt a0 0) = 255 then (some (decide ((bt a0 1) < 128))) else (some true))) else (none)) else (if (bt a0 0) = 255 then (if 1 < (a0.size : Int) then (some (decide ((bt a0 1) < 128))) else (none)) else (some true))) else (none)))) = some r := h
 clear h
 by_cases c2 : a0.toList = ([] : List UInt8)
 case pos =>
  rw [if_pos c2] at H
  have c2b0 : (a0.toList == ([] : List UInt8)) = true := beq_iff_eq.mpr c2
  have c2b1 : (a0.toList != ([] : List UInt8)) = false := bne_eq_false_iff_eq.mpr c2
  clear c2
  obtain rfl := Option.some.inj H
  go_enter Tryd.func63, Tryd.ntmps63
  go_wp2
  go_ret
  exact ⟨rsd, drw⟩
 rw [if_neg c2] at H
 have c2b0 : (a0.toList == ([] : List UInt8)) = false := beq_eq_false_iff_ne.mpr c2
 have c2b1 : (a0.toList != ([] : List UInt8)) = true := bne_iff_ne.mpr c2
 by_cases c3 : (a0.size : Int) = 1
 case pos =>
  rw [if_pos c3] at H
  have c3b0 : ((a0.size : Int) == 1) = true := beq_iff_eq.mpr c3
  have c3b1 : ((a0.size : Int) != 1) = false := bne_eq_false_iff_eq.mpr c3
  clear c3
  obtain rfl := Option.some.inj H
  go_enter Tryd.func63, Tryd.ntmps63
  go_wp2
  go_ret
  exact ⟨rsd, drw⟩
 rw [if_neg c3] at H
 have c3b0 : ((a0.size : Int) == 1) = false := beq_eq_false_iff_ne.mpr c3
 have c3b1 : ((a0.size : Int) != 1) = true := bne_iff_ne.mpr c3
 by_cases c4 : 0 < (a0.size : Int)
 case neg =>
  rw [if_neg c4] at H
  exact absurd H (by simp)
 rw [if_pos c4] at H
 have c4b0 : decide (0 < (a0.size : Int)) = true := decide_eq_true c4
 have c4b1 : decide (0 < a0.size) = true := decide_eq_true (by omega)
 clear c4
 by_cases c6 : (bt a0 0) = 0
 case neg =>
  rw [if_neg c6] at H
  have c6b0 : ((bt a0 0) == 0) = false := beq_eq_false_iff_ne.mpr c6
  have c6b1 : ((bt a0 0) != 0) = true := bne_iff_ne.mpr c6
  by_cases c14 : (bt a0 0) = 255
  case neg =>
   rw [if_neg c14] at H
   have c14b0 : ((bt a0 0) == 255) = false := beq_eq_false_iff_ne.mpr c14
   have c14b1 : ((bt a0 0) != 255) = true := bne_iff_ne.mpr c14
   obtain rfl := Option.some.inj H
   have p5 : 0 ≤ (0 : Int) := (by omega)
   have q5 : 0 < a0.size := (by have : (0 : Int) < (a0.size : Int) := odt; omega)
   have hx5 : ∀ h : 0 < a0.size, ((a0[0]'h).toNat : Int) = bt a0 0 := bt_at a0 0
   clear p5
   have qi5 : (0 < (a0.size : Int)) = True := eq_true odt
   replace q5 := eq_true q5
   have p13 : 0 ≤ (0 : Int) := (by omega)
   have q13 : 0 < a0.size := (by have : (0 : Int) < (a0.size : Int) := odt; omega)
   have hx13 : ∀ h : 0 < a0.size, ((a0[0]'h).toNat : Int) = bt a0 0 := bt_at a0 0
   clear p13
   have qi13 : (0 < (a0.size : Int)) = True := eq_true odt
   replace q13 := eq_true q13
   go_enter Tryd.func63, Tryd.ntmps63
   go_wp2
   go_ret
   exact ⟨rsd, drw⟩
  rw [if_pos c14] at H
  have c14b0 : ((bt a0 0) == 255) = true := beq_iff_eq.mpr c14
  have c14b1 : ((bt a0 0) != 255) = false := bne_eq_false_iff_eq.mpr c14
  clear c14
  by_cases c15 : 1 < (a0.size : Int)
  case neg =>
   rw [if_neg c15] at H
   exact absurd H (by simp)
  rw [if_pos c15] at H
  have c15b0 : decide (1 < (a0.size : Int)) = true := decide_eq_true c15
  have c15b1 : decide (1 < a0.size) = true := decide_eq_true (by omega)
  clear c15
  obtain rfl := Option.some.inj H
  have p5 : 0 ≤ (0 : Int) := (by omega)
  have q5 : 0 < a0.size := (by have : (0 : Int) < (a0.size : Int) := odt; omega)
  have hx5 : ∀ h : 0 < a0.size, ((a0[0]'h).toNat : Int) = bt a0 0 := bt_at a0 0
  clear p5
  have qi5 : (0 < (a0.size : Int)) = True := eq_true odt
  replace q5 := eq_true q5
  have p13 : 0 ≤ (0 : Int) := (by omega)
  have q13 : 0 < a0.size := (by have : (0 : Int) < (a0.size : Int) := odt; omega)
  have hx13 : ∀ h : 0 < a0.size, ((a0[0]'h).toNat : Int) = bt a0 0 := bt_at a0 0
  clear p13
  have qi13 : (0 < (a0.size : Int)) = True := eq_true odt
  replace q13 := eq_true q13
  have p16 : 0 ≤ (1 : Int) := (by omega)
  have q16 : 1 < a0.size := (by have : (1 : Int) < (a0.size : Int) := odt; omega)
  have hx16 : ∀ h : 1 < a0.size, ((a0[1]'h).toNat : Int) = bt a0 1 := bt_at a0 1
  clear p16
  have qi16 : (1 < (a0.size : Int)) = True := eq_true odt
  replace q16 := eq_true q16
  go_enter Tryd.func63, Tryd.ntmps63
  go_wp2
  go_ret
  exact ⟨rsd, drw⟩
 rw [if_pos c6] at H
 have c6b0 : ((bt a0 0) == 0) = true := beq_iff_eq.mpr c6
 have c6b1 : ((bt a0 0) != 0) = false := bne_eq_false_iff_eq.mpr c6
 clear c6
 by_cases c7 : 1 < (a0.size : Int)
 case neg =>
  rw [if_neg c7] at H
  exact absurd H (by simp)
 rw [if_pos c7] at H
 have c7b0 : decide (1 < (a0.size : Int)) = true := decide_eq_true c7
 have c7b1 : decide (1 < a0.size) = true := decide_eq_true (by omega)
 clear c7
 by_cases c9 : (bt a0 1) < 128
 case pos =>
  rw [if_pos c9] at H
  have c9b0 : decide ((bt a0 1) < 128) = true := decide_eq_true c9
  clear c9
  obtain rfl := Option.some.inj H
  have p5 : 0 ≤ (0 : Int) := (by omega)
  have q5 : 0 < a0.size := (by have : (0 : Int) < (a0.size : Int) := odt; omega)
  have hx5 : ∀ h : 0 < a0.size, ((a0[0]'h).toNat : Int) = bt a0 0 := bt_at a0 0
  clear p5
  have qi5 : (0 < (a0.size : Int)) = True := eq_true odt
  replace q5 := eq_true q5
  have p8 : 0 ≤ (1 : Int) := (by omega)
  have q8 : 1 < a0.size := (by have : (1 : Int) < (a0.size : Int) := odt; omega)
  have hx8 : ∀ h : 1 < a0.size, ((a0[1]'h).toNat : Int) = bt a0 1 := bt_at a0 1
  clear p8
  have qi8 : (1 < (a0.size : Int)) = True := eq_true odt
  replace q8 := eq_true q8
  go_enter Tryd.func63, Tryd.ntmps63
  go_wp2
  go_ret
  exact ⟨rsd, drw⟩
 rw [if_neg c9] at H
 have c9b0 : decide ((bt a0 1) < 128) = false := decide_eq_false c9
 clear c9
 by_cases c11 : (bt a0 0) = 255
 case neg =>
  rw [if_neg c11] at H
  have c11b0 : ((bt a0 0) == 255) = false := beq_eq_false_iff_ne.mpr c11
  have c11b1 : ((bt a0 0) != 255) = true := bne_iff_ne.mpr c11
  obtain rfl := Option.some.inj H
  have p5 : 0 ≤ (0 : Int) := (by omega)
  have q5 : 0 < a0.size := (by have : (0 : Int) < (a0.size : Int) := odt; omega)
  have hx5 : ∀ h : 0 < a0.size, ((a0[0]'h).toNat : Int) = bt a0 0 := bt_at a0 0
  clear p5
  have qi5 : (0 < (a0.size : Int)) = True := eq_true odt
  replace q5 := eq_true q5
  have p8 : 0 ≤ (1 : Int) := (by omega)
  have q8 : 1 < a0.size := (by have : (1 : Int) < (a0.size : Int) := odt; omega)
  have hx8 : ∀ h : 1 < a0.size, ((a0[1]'h).toNat : Int) = bt a0 1 := bt_at a0 1
  clear p8
  have qi8 : (1 < (a0.size : Int)) = True := eq_true odt
  replace q8 := eq_true q8
  have p10 : 0 ≤ (0 : Int) := (by omega)
  have q10 : 0 < a0.size := (by have : (0 : Int) < (a0.size : Int) := odt; omega)
  have hx10 : ∀ h : 0 < a0.size, ((a0[0]'h).toNat : Int) = bt a0 0 := bt_at a0 0
  clear p10
  have qi10 : (0 < (a0.size : Int)) = True := eq_true odt
  replace q10 := eq_true q10
  go_enter Tryd.func63, Tryd.ntmps63
  go_wp2
  go_ret
  exact ⟨rsd, drw⟩
 rw [if_pos c11] at H
 have c11b0 : ((bt a0 0) == 255) = true := beq_iff_eq.mpr c11
 have c11b1 : ((bt a0 0) != 255) = false := bne_eq_false_iff_eq.mpr c11
 clear c11
 obtain rfl := Option.some.inj H
 have p5 : 0 ≤ (0 : Int) := (by omega)
 have q5 : 0 < a0.size := (by have : (0 : Int) < (a0.size : Int) := odt; omega)
 have hx5 : ∀ h : 0 < a0.size, ((a0[0]'h).toNat : Int) = bt a0 0 := bt_at a0 0
 clear p5
 have qi5 : (0 < (a0.size : Int)) = True := eq_true odt
 replace q5 := eq_true q5
 have p8 : 0 ≤ (1 : Int) := (by omega)
 have q8 : 1 < a0.size := (by have : (1 : Int) < (a0.size : Int) := odt; omega)
 have hx8 : ∀ h : 1 < a0.size, ((a0[1]'h).toNat : Int) = bt a0 1 := bt_at a0 1
 clear p8
 have qi8 : (1 < (a0.size : Int)) = True := eq_true odt
 replace q8 := eq_true q8
 have p10 : 0 ≤ (0 : Int) := (by omega)
 have q10 : 0 < a0.size := (by have : (0 : Int) < (a0.size : Int) := odt; omega)
 have hx10 : ∀ h : 0 < a0.size, ((a0[0]'h).toNat : Int) = bt a0 0 := bt_at a0 0
 clear p10
 have qi10 : (0 < (a0.size : Int)) = True := eq_true odt
 replace q10 := eq_true q10
 have p12 : 0 ≤ (1 : Int) := (by omega)
 have q12 : 1 < a0.size := (by have : (1 : Int) < (a0.size : Int) := odt; omega)
 have hx12 : ∀ h : 1 < a0.size, ((a0[1]'h).toNat : Int) = bt a0 1 := bt_at a0 1
 clear p12
 have qi12 : (1 < (a0.size : Int)) = True := eq_true odt
 replace q12 := eq_true q12
 go_enter Tryd.func63, Tryd.ntmps63
 go_wp2
 go_ret
 exact ⟨rsd, drw⟩

/-! ### cr01_Put: function 51 -/
mutual
def cr01_Put.j0 : Nat → Int → Int → Bool → Option (ByteArray)
 | 0, _, _, _ => none
 | k + 1, x0, x1, x12 => if x12 = true then (some (⟨#[]⟩ : ByteArray)) else (cr01_Put.l0 k x0 x1 (⟨#[]⟩ : ByteArray) 0)
def cr01_Put.l0 : Nat → Int → Int → ByteArray → Int → Option (ByteArray)
 | 0, _, _, _, _ => none
 | k + 1, x0, x1, x5, x6 => if x6 < x1 then ((some (([(Int.tmod x0 256) % 256] : List Int) : List Int)).bind fun y315 => (if (strOfNums y315).size + x5.size ≤ 9223372036854775807 then (cr01_Put.l0 k (IntKind.u64.wrap (Int.tdiv x0 256)) x1 ((strOfNums y315) ++ x5) (wrap64 (x6 + 1))) else (none))) else (some x5)
end
def cr01_Put.f (k : Nat) (a0 : Int) (a1 : Int) : Option (ByteArray) := if a1 < 1 then (cr01_Put.j0 k a0 a1 true) else (cr01_Put.j0 k a0 a1 (decide (a1 > 8)))
theorem cr01_Put.mono_l : ∀ k, (∀ y0 y1 y2, LeO (cr01_Put.j0 k y0 y1 y2) (cr01_Put.j0 (k + 1) y0 y1 y2)) ∧ (∀ y0 y1 y2 y3, LeO (cr01_Put.l0 k y0 y1 y2 y3) (cr01_Put.l0 (k + 1) y0 y1 y2 y3))
 | 0 => ⟨fun _ _ _ r h => by simp [cr01_Put.j0] at h, fun _ _ _ _ r h => by simp [cr01_Put.l0] at h⟩
 | k + 1 => by
  obtain ⟨ih0, ih1⟩ := cr01_Put.mono_l k
  refine ⟨?_, ?_⟩ <;> intros <;> first | unfold cr01_Put.j0 | unfold cr01_Put.l0
  all_goals repeat' first
  | (with_reducible first | exact ih0 _ _ _ | exact ih1 _ _ _ _ | exact LeO.refl _ | exact LeO.none _ | refine LeO.ite ?_ ?_ | refine LeO.bind ?_ (fun _ => ?_))
  | exact ih0 _ _ _
  | exact ih1 _ _ _ _
  | exact LeO.none _
  | refine LeO.ite ?_ ?_
  | refine LeO.bind ?_ (fun _ => ?_)
theorem cr01_Put.mono : ∀ a0 a1 k, LeO (cr01_Put.f k a0 a1) (cr01_Put.f (k + 1) a0 a1) := by
 intro a0 a1 k
 obtain ⟨ih0, ih1⟩ := cr01_Put.mono_l k
 unfold cr01_Put.f
 repeat' first
  | (with_reducible first | exact ih0 _ _ _ | exact ih1 _ _ _ _ | exact LeO.refl _ | exact LeO.none _ | refine LeO.ite ?_ ?_ | refine LeO.bind ?_ (fun _ => ?_))
  | exact ih0 _ _ _
  | exact ih1 _ _ _ _
  | exact LeO.none _
  | refine LeO.ite ?_ ?_
  | refine LeO.bind ?_ (fun _ => ?_)
set_option maxHeartbeats 8000000 in
set_option maxRecDepth 100000 in
theorem cr01_Put.calls (k : Nat) (a0 : Int) (a1 : Int) (r : ByteArray) (w : World) (h : cr01_Put.f k a0 a1 = some r) :
 Calls Tryd.prog 51 #[.int .u64 a0, .int .i64 a1] w fun e w' => e = .returned (.string r) ∧ Below w.heap.size w w' := by
 have HB := Aside0.mk (Below.refl w.heap.size w)
 have H : (if a1 < 1 then (cr01_Put.j0 k a0 a1 true) else (cr01_Put.j0 k a0 a1 (decide (a1 > 8)))) = some r := h
 clear h
 have HC3 := Aside0.mk H
 clear H
 go_enter Tryd.func51, Tryd.ntmps51
 go_upto_region 1 with (fail)
 go_cut [12] (fun v12 wc => ∃ (kq : Nat) (x12_2 : Bool), v12 = .bool x12_2 ∧ Aside0 (cr01_Put.j0 kq a0 a1 x12_2 = some r) ∧ Aside0 (kq ≤ k) ∧ Aside0 (Below w.heap.size w wc))
 case first =>
  have H := HC3.out
  clear HC3
  by_cases c4 : a1 < 1
  case neg =>
   rw [if_neg c4] at H
   have c4b0 : decide (a1 < 1) = false := decide_eq_false c4
   clear c4
   (first | rw [c4b0] | (simp only [i64_w, i32_w]; rw [c4b0]) | rw [c4b1] | skip)
   have H' := Aside0.mk H
   clear H
   go_wp2
   go_meet
   case rel => exact ⟨_, (decide (a1 > 8)), rsd, H', ⟨by first | omega | exact Nat.le_refl _⟩, ⟨blw⟩⟩
  rw [if_pos c4] at H
  have c4b0 : decide (a1 < 1) = true := decide_eq_true c4
  clear c4
  (first | rw [c4b0] | (simp only [i64_w, i32_w]; rw [c4b0]) | rw [c4b1] | skip)
  have H' := Aside0.mk H
  clear H
  go_wp2
  go_meet
  case rel => exact ⟨_, (true), rsd, H', ⟨by first | omega | exact Nat.le_refl _⟩, ⟨blw⟩⟩
 case rest =>
  clear HC3
  try clear c4
  try clear c4b0
  try clear c4b1
  obtain ⟨kq, x12_2, rfl, HA, HJ2, HB⟩ := hcut
  cases kq with
  | zero => exact absurd HA.out (by simp [cr01_Put.j0])
  | succ kj2 =>
   have H := HA.out
   clear HA
   simp only [cr01_Put.j0] at H
   by_cases c5 : x12_2 = true
   case pos =>
    subst c5
    have H1 : (some (⟨#[]⟩ : ByteArray)) = some r := by rw [if_pos rfl] at H; exact H
    clear H
    have H := H1
    clear H1
    obtain rfl := Option.some.inj H
    go_wp2
    go_ret
    exact ⟨rse, blw⟩
   replace c5 := Bool.eq_false_iff.mpr c5
   subst c5
   have H1 : (cr01_Put.l0 kj2 a0 a1 (⟨#[]⟩ : ByteArray) 0) = some r := by rw [if_neg (show ¬ (false = true) by decide)] at H; exact H
   clear H
   have H := H1
   clear H1
   have H' := Aside0.mk H
   clear H
   go_wp2
   go_loopg [0, 5, 6] kj2 (fun kq v0 v5 v6 w' => ∃ (x0_2 : Int) (x5_2 : ByteArray) (x6_2 : Int), v0 = .int .u64 x0_2 ∧ v5 = .string x5_2 ∧ v6 = .int .i64 x6_2 ∧ Aside0 (cr01_Put.l0 kq x0_2 a1 x5_2 x6_2 = some r) ∧ Aside0 (kq ≤ kj2) ∧ Aside0 (Below w.heap.size w w'))
   case atStart => exact ⟨(a0), ((⟨#[]⟩ : ByteArray)), (0), rsd, rsd, rsd, H', ⟨Nat.le_refl _⟩, ⟨blw⟩⟩
   case round =>
    clear H'
    try clear c4
    try clear c4b0
    try clear c4b1
    try clear c5
    obtain ⟨x0_2, x5_2, x6_2, rfl, rfl, rfl, HA, HK2, HB⟩ := hrel
    cases gk with
    | zero => exact absurd HA.out (by simp [cr01_Put.l0])
    | succ k2 =>
     have H := HA.out
     clear HA
     simp only [cr01_Put.l0] at H
     by_cases c6 : x6_2 < a1
     case neg =>
      rw [if_neg c6] at H
      have c6b0 : decide (x6_2 < a1) = false := decide_eq_false c6
      clear c6
      obtain rfl := Option.some.inj H
      go_wp2
      go_ret
      exact ⟨rse, blw⟩
     rw [if_pos c6] at H
     have c6b0 : decide (x6_2 < a1) = true := decide_eq_true c6
     clear c6
     obtain ⟨y315, hy315⟩ : ∃ y_ : List Int, y_ = (([(Int.tmod x0_2 256) % 256] : List Int)) := ⟨_, rfl⟩
     replace H : (if (strOfNums y315).size + x5_2.size ≤ 9223372036854775807 then (cr01_Put.l0 k2 (IntKind.u64.wrap (Int.tdiv x0_2 256)) a1 ((strOfNums y315) ++ x5_2) (wrap64 (x6_2 + 1))) else (none)) = some r := by first | (rw [hy315]; with_reducible exact H) | (have H2_ := (Option.bind_some _ _).symm.trans H; rw [hy315]; with_reducible exact H2_) | (have H2_ := (Option.bind_some _ _).symm.trans H; with_reducible exact H2_) | with_reducible exact H | (rw [hy315]; exact H) | exact H
     have Ny315 := Aside0.mk hy315
     clear hy315
     by_cases c7 : (strOfNums y315).size + x5_2.size ≤ 9223372036854775807
     case neg =>
      rw [if_neg c7] at H
      exact absurd H (by simp)
     rw [if_pos c7] at H
     have c7b0 := eq_true c7
     have c7b1 : decide ((strOfNums y315).size + x5_2.size ≤ 9223372036854775807) = true := decide_eq_true c7
     try have c7b2 : (9223372036854775807 < (strOfNums y315).size + x5_2.size) = False := eq_false (Nat.not_lt.2 c7)
     have H' := Aside0.mk H
     clear H
     go_wp2_with (first | ((with_reducible refine gate_dst (N := 21) rfl ?_); refine Kd.R_lit (Kd.int .u8) _ 5 ?hg (N := 21) ?hd (xs := ([(Int.tmod x0_2 256) % 256] : List Int)) (inner := [.int .u8 ((Int.tmod x0_2 256) % 256)]) (ok := fun _ => True) (okp := fun _ => True) ?hr ?hp (fun _ hk => hk) trivial (Below.refl _ _) (Nat.le_refl _) (by simp) ?_; (case hd => rfl); (case hg => rfl); (case hr => first | (go_simp; done) | (go_simp; rfl)); (case hp => exact (Reps.one (show Kd.M (Kd.int .u8) _ _ _ ((Int.tmod x0_2 256) % 256) [.int .u8 ((Int.tmod x0_2 256) % 256)] from rfl) (Reps.none _ _))); intro v316 w8 ho9 hb hg_ hnew_; clear hg_ hnew_; (first | rw [← Ny315.out] at ho9 | (simp only [Int.reduceToNat] at ho9; rw [← Ny315.out] at ho9)); have n0_ := Aside0.mk (Kd.R_lower ho9 (below_size blw)); have n1_ := Aside0.mk (below_step blw hb); clear HB; have HO317 := n0_; have HB := n1_; clear n0_ n1_; clear hb ho9; have hcv10 := own_string (P := Tryd.prog) Tryd.underlying50 Tryd.underlying5 Tryd.underlying9 (Kd.own_of_R HO317.out)))
     go_roundg k2
     case measure => have := HJ2.out; have := HK2.out; omega
     case rel => exact ⟨(IntKind.u64.wrap (Int.tdiv x0_2 256)), ((strOfNums y315) ++ x5_2), (wrap64 (x6_2 + 1)), rsd, rsd, rsd, H', ⟨by have := HJ2.out; have := HK2.out; omega⟩, ⟨blw⟩⟩

end Go.Proofs.YtcbcojbhbhaimaaDoor.PTreeTells
