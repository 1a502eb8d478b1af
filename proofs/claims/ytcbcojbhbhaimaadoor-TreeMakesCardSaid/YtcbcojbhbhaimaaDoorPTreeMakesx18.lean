-- laid by a program out of the translation and of templates; not trusted: Lean checks it
import Derived.Test.YtcbcojbhbhaimaaDoorPTreeMakesx0
import Derived.Test.YtcbcojbhbhaimaaDoorPTreeMakesx17
namespace Go.Proofs.YtcbcojbhbhaimaaDoor.PTreeMakes
open Go.RowKit Go.Proofs.YtcbcojbhbhaimaaDoorW.PrintWords Go.Proofs.YtcbcojbhbhaimaaDoorW.PrintLast Go.Proofs.YtcbcojbhbhaimaaDoorW.PrintMore
attribute [local go_sem high] c_add c_eql c_neq
attribute [local go_sem] f_store_c f_store_f f_add f_toint f_fold_eq f_fold_ne f_fold_lt f_fold_gt f_fold_le f_fold_ge
attribute [local go_sem] str_leq str_gtr str_geq max2_int min2_int max_two min_two max_three min_three max_four min_four   -- for this text's walks alone
set_option linter.unusedVariables false
set_option linter.unusedSimpArgs false

/-! ### clavigerref20_Of: function 20 -/
mutual
def clavigerref20_Of.l0 : Nat → List (List (S41)) → List (S41) → Int → Option ((List (S41)))
 | 0, _, _, _ => none
 | k + 1, x2, x7, x8 => if x8 < (x2.length : Int) then (if 0 ≤ x8 then (if ((rd_L9 x2 x8).length : Int) > 0 then (if 0 < (x7.length : Int) then (if ((rd_T41 x7 0).f4).length < 17592186044416 then (clavigerref20_Of.j1 k x2 (x7.set (0 : Int).toNat (⟨(rd_T41 x7 0).f0, (rd_T41 x7 0).f1, (rd_T41 x7 0).f2, (rd_T41 x7 0).f3, (((rd_T41 x7 0).f4) ++ [(x7.length : Int)])⟩ : S41)) x8 (x7.length : Int)) else (none)) else (none)) else (clavigerref20_Of.j1 k x2 x7 x8 (x7.length : Int))) else (none)) else (some x7)
def clavigerref20_Of.j1 : Nat → List (List (S41)) → List (S41) → Int → Int → Option ((List (S41)))
 | 0, _, _, _, _ => none
 | k + 1, x2, x7, x8, x9 => clavigerref20_Of.l1 k x2 x7 x8 x9 0
def clavigerref20_Of.l1 : Nat → List (List (S41)) → List (S41) → Int → Int → Int → Option ((List (S41)))
 | 0, _, _, _, _, _ => none
 | k + 1, x2, x7, x8, x9, x10 => if 0 ≤ x8 then (if x8 < (x2.length : Int) then (if x10 < ((rd_L9 x2 x8).length : Int) then (if 0 ≤ x10 then ((clavigerref20_moved.f k ((rd_T41 (rd_L9 x2 x8) x10).f4) x9).bind fun t406 => (if x7.length < 2199023255552 then (clavigerref20_Of.l1 k x2 (x7 ++ [(⟨(rd_T41 (rd_L9 x2 x8) x10).f0, (rd_T41 (rd_L9 x2 x8) x10).f1, (rd_T41 (rd_L9 x2 x8) x10).f2, (rd_T41 (rd_L9 x2 x8) x10).f3, t406⟩ : S41)]) x8 x9 (wrap64 (x10 + 1))) else (none))) else (none)) else (clavigerref20_Of.l0 k x2 x7 (wrap64 (x8 + 1)))) else (none)) else (none)
end
def clavigerref20_Of.f (k : Nat) (a0 : Int) (a1 : Int) (l2 : List (List (S41))) : Option ((List (S41))) := clavigerref20_Of.l0 k l2 (([(⟨a0, a1, true, (⟨#[]⟩ : ByteArray), ([] : List Int)⟩ : S41)] : List (S41))) 0
theorem clavigerref20_Of.mono_l : ∀ k, (∀ y0 y1 y2, LeO (clavigerref20_Of.l0 k y0 y1 y2) (clavigerref20_Of.l0 (k + 1) y0 y1 y2)) ∧ (∀ y0 y1 y2 y3, LeO (clavigerref20_Of.j1 k y0 y1 y2 y3) (clavigerref20_Of.j1 (k + 1) y0 y1 y2 y3)) ∧ (∀ y0 y1 y2 y3 y4, LeO (clavigerref20_Of.l1 k y0 y1 y2 y3 y4) (clavigerref20_Of.l1 (k + 1) y0 y1 y2 y3 y4))
 | 0 => ⟨fun _ _ _ r h => by simp [clavigerref20_Of.l0] at h, fun _ _ _ _ r h => by simp [clavigerref20_Of.j1] at h, fun _ _ _ _ _ r h => by simp [clavigerref20_Of.l1] at h⟩
 | k + 1 => by
  obtain ⟨ih0, ih1, ih2⟩ := clavigerref20_Of.mono_l k
  refine ⟨?_, ?_, ?_⟩ <;> intros <;> first | unfold clavigerref20_Of.l0 | unfold clavigerref20_Of.j1 | unfold clavigerref20_Of.l1
  all_goals repeat' first
  | (with_reducible exact ih0 _ _ _)
  | (with_reducible exact ih1 _ _ _ _)
  | (with_reducible exact ih2 _ _ _ _ _)
  | (with_reducible exact clavigerref20_moved.mono _ _ _)
  | (with_reducible exact LeO.refl _)
  | (with_reducible exact LeO.none _)
  | (with_reducible refine LeO.ite ?_ ?_)
  | (with_reducible refine LeO.bind ?_ (fun _ => ?_))
  | exact ih0 _ _ _
  | exact ih1 _ _ _ _
  | exact ih2 _ _ _ _ _
  | exact clavigerref20_moved.mono _ _ _
  | exact LeO.none _
  | refine LeO.ite ?_ ?_
  | refine LeO.bind ?_ (fun _ => ?_)
theorem clavigerref20_Of.mono : ∀ a0 a1 a2 k, LeO (clavigerref20_Of.f k a0 a1 a2) (clavigerref20_Of.f (k + 1) a0 a1 a2) := by
 intro a0 a1 a2 k
 obtain ⟨ih0, ih1, ih2⟩ := clavigerref20_Of.mono_l k
 unfold clavigerref20_Of.f
 repeat' first
  | (with_reducible exact ih0 _ _ _)
  | (with_reducible exact ih1 _ _ _ _)
  | (with_reducible exact ih2 _ _ _ _ _)
  | (with_reducible exact clavigerref20_moved.mono _ _ _)
  | (with_reducible exact LeO.refl _)
  | (with_reducible exact LeO.none _)
  | (with_reducible refine LeO.ite ?_ ?_)
  | (with_reducible refine LeO.bind ?_ (fun _ => ?_))
  | exact ih0 _ _ _
  | exact ih1 _ _ _ _
  | exact ih2 _ _ _ _ _
  | exact clavigerref20_moved.mono _ _ _
  | exact LeO.none _
  | refine LeO.ite ?_ ?_
  | refine LeO.bind ?_ (fun _ => ?_)
set_option maxHeartbeats 8000000 in
set_option maxRecDepth 100000 in
theorem clavigerref20_Of.calls (k : Nat) (a0 : Int) (a1 : Int) (A2 : Option Addr) (c2 : Nat) (l2 : List (List (S41))) (r : List (S41)) (w : World) (hr2 : Kd.C (Kd.slice 41 k41) w A2 l2.length l2) (hc2 : l2.length ≤ c2) (h : clavigerref20_Of.f k a0 a1 l2 = some r) :
 Calls Tryd.prog 20 #[.int .i64 a0, .int .i64 a1, .slice A2 l2.length c2] w fun e w' => ∃ v0_ : Value, e = .returned (v0_) ∧ Kd.S k41 41 w' w.heap.size (fun _ => True) v0_ r ∧ Below w.heap.size w w' := by
 have hu41 := Tryd.underlying41
 have HR2 := Aside0.mk hr2
 have HC2 := Aside0.mk hc2
 clear hr2 hc2
 have HB := Aside0.mk (Below.refl w.heap.size w)
 have H : (clavigerref20_Of.l0 k l2 (([(⟨a0, a1, true, (⟨#[]⟩ : ByteArray), ([] : List Int)⟩ : S41)] : List (S41))) 0) = some r := h
 clear h
 obtain ⟨y393, hy393⟩ : ∃ y_ : List (S41), y_ = (([(⟨a0, a1, true, (⟨#[]⟩ : ByteArray), ([] : List Int)⟩ : S41)] : List (S41))) := ⟨_, rfl⟩
 replace H : (clavigerref20_Of.l0 k l2 y393 0) = some r := by first | (rw [hy393]; with_reducible exact H) | (have H2_ := (Option.bind_some _ _).symm.trans H; rw [hy393]; with_reducible exact H2_) | (have H2_ := (Option.bind_some _ _).symm.trans H; with_reducible exact H2_) | with_reducible exact H | (rw [hy393]; exact H) | exact H
 have Ny393 := Aside0.mk hy393
 clear hy393
 have H' := Aside0.mk H
 clear H
 go_enter Tryd.func20, Tryd.ntmps20
 go_wp2_with (first | ((with_reducible refine gate_dst (N := 15) rfl ?_); refine Kd.S_lit k41 _ 41 ?hg (N := 15) ?hd (xs := ([(⟨a0, a1, true, (⟨#[]⟩ : ByteArray), ([] : List Int)⟩ : S41)] : List (S41))) (inner := [.int .i64 a0, .int .i64 a1, .bool true, .string (⟨#[]⟩ : ByteArray), .slice none 0 0]) (ok := fun _ => True) (okp := fun _ => True) ?hr ?hp (fun _ hk => hk) trivial (Below.refl _ _) (Nat.le_refl _) (by simp) ?_; (case hd => rfl); (case hg => rfl); (case hr => first | (go_simp; done) | (go_simp; rfl)); (case hp => exact (Reps.c5 (show Kd.M k41 _ _ _ (⟨a0, a1, true, (⟨#[]⟩ : ByteArray), ([] : List Int)⟩ : S41) [.int .i64 a0, .int .i64 a1, .bool true, .string (⟨#[]⟩ : ByteArray), .slice none 0 0] from (k41_mkM _ _ _ (⟨a0, a1, true, (⟨#[]⟩ : ByteArray), ([] : List Int)⟩ : S41) (Kd.R_nil _ _ _ _ _))) (Reps.none _ _))); intro v394 w4 ho5 hb hg_ hnew_; clear hg_ hnew_; (first | rw [← Ny393.out] at ho5 | (simp only [Int.reduceToNat] at ho5; rw [← Ny393.out] at ho5)); have n0_ := Aside0.mk (Kd.S_lower ho5 (below_size blw)); have n1_ := Aside0.mk (below_step blw hb); clear HB; have HO395 := n0_; have HB := n1_; clear n0_ n1_; clear hb ho5))
 go_loopg [7, 8] k (fun kq v7 v8 w' => ∃ (x7_1 : List (S41)) (x8_1 : Int), v8 = .int .i64 x8_1 ∧ Aside0 (clavigerref20_Of.l0 kq l2 x7_1 x8_1 = some r) ∧ Aside0 (kq ≤ k) ∧ Aside0 (Kd.S k41 41 w' w.heap.size (fun _ => True) v7 x7_1) ∧ Aside0 (Below w.heap.size w w'))
 case atStart => exact ⟨(y393), (0), rsd, H', ⟨Nat.le_refl _⟩, ⟨by (with_reducible repeat (first | apply Kd.S_alloc | apply Kd.S_drewN | apply Kd.S_drew)); exact HO395.out⟩, ⟨blw⟩⟩
 case round =>
  clear H'
  try clear c2
  try clear c5
  obtain ⟨x7_1, x8_1, rfl, HA, HK1, HO_7, HB⟩ := hrel
  cases gk with
  | zero => exact absurd HA.out (by simp [clavigerref20_Of.l0])
  | succ k1 =>
   have H := HA.out
   clear HA
   simp only [clavigerref20_Of.l0] at H
   by_cases c6 : x8_1 < (l2.length : Int)
   case neg =>
    rw [if_neg c6] at H
    have c6b0 : decide (x8_1 < (l2.length : Int)) = false := decide_eq_false c6
    clear c6
    obtain rfl := Option.some.inj H
    go_wp2
    go_ret
    exact ⟨_, rse, by (with_reducible repeat (first | apply Kd.S_alloc | apply Kd.S_drewN | apply Kd.S_drew)); exact HO_7.out, blw⟩
   rw [if_pos c6] at H
   have c6b0 : decide (x8_1 < (l2.length : Int)) = true := decide_eq_true c6
   clear c6
   by_cases c7 : 0 ≤ x8_1
   case neg =>
    rw [if_neg c7] at H
    exact absurd H (by simp)
   rw [if_pos c7] at H
   have c7b0 : decide (0 ≤ x8_1) = true := decide_eq_true c7
   clear c7
   have HC8 := Aside0.mk H
   clear H
   obtain ⟨Ao9, co9, eo9⟩ := Kd.S_slice HO_7.out
   subst eo9
   have p396 : 0 ≤ (x8_1 : Int) := odt
   have q396 : x8_1 < (l2.length : Int) := odt
   obtain ⟨ad396, A396_0, c396_0, e396, hx396_0, hl396_0, hi396_0⟩ := at_L9 HR2.out x8_1 p396 q396
   cases e396
   replace hx396_0 := cellB hx396_0
   have HR396_0 := Aside0.mk hi396_0
   have HC396_0 := Aside0.mk hl396_0
   clear hi396_0 hl396_0
   replace p396 := eq_true p396
   replace q396 := eq_true q396
   go_upto_if 29 with (fail)
   go_cut [] (fun wc => ∃ (kq : Nat) (x7_7 : List (S41)), Aside0 (clavigerref20_Of.j1 kq l2 x7_7 x8_1 (x7_1.length : Int) = some r) ∧ Aside0 (kq ≤ k1) ∧ Aside0 (Kd.S k41 41 wc w.heap.size (fun _ => True) (.slice Ao9 x7_1.length co9) x7_7) ∧ Aside0 (Below w.heap.size w wc))
   case first =>
    have H := HC8.out
    clear HC8
    by_cases c10 : ((rd_L9 l2 x8_1).length : Int) > 0
    case neg =>
     rw [if_neg c10] at H
     have c10b0 : decide (0 < ((rd_L9 l2 x8_1).length : Int)) = false := decide_eq_false c10
     have c10b1 : decide (0 < (rd_L9 l2 x8_1).length) = false := decide_eq_false (by omega)
     clear c10
     (first | rw [c10b0] | (simp only [i64_w, i32_w]; rw [c10b0]) | rw [c10b1] | skip)
     have H' := Aside0.mk H
     clear H
     go_wp2
     go_meet
     case rel => exact ⟨_, (x7_1), H', ⟨by have := HK1.out; first | omega | exact Nat.le_refl _⟩, ⟨by (with_reducible repeat (first | apply Kd.S_alloc | apply Kd.S_drewN | apply Kd.S_drew)); exact HO_7.out⟩, ⟨blw⟩⟩
    rw [if_pos c10] at H
    have c10b0 : decide (0 < ((rd_L9 l2 x8_1).length : Int)) = true := decide_eq_true c10
    have c10b1 : decide (0 < (rd_L9 l2 x8_1).length) = true := decide_eq_true (by omega)
    clear c10
    (first | rw [c10b0] | (simp only [i64_w, i32_w]; rw [c10b0]) | rw [c10b1] | skip)
    by_cases c11 : 0 < (x7_1.length : Int)
    case neg =>
     rw [if_neg c11] at H
     exact absurd H (by simp)
    rw [if_pos c11] at H
    have c11b0 : decide (0 < (x7_1.length : Int)) = true := decide_eq_true c11
    have c11b1 : decide (0 < x7_1.length) = true := decide_eq_true (by omega)
    clear c11
    by_cases c12 : ((rd_T41 x7_1 0).f4).length < 17592186044416
    case neg =>
     rw [if_neg c12] at H
     exact absurd H (by simp)
    rw [if_pos c12] at H
    have LMc12 := Aside0.mk c12
    clear c12
    obtain ⟨y398, hy398⟩ : ∃ y_ : List Int, y_ = (((rd_T41 x7_1 0).f4) ++ [(x7_1.length : Int)]) := ⟨_, rfl⟩
    replace H : (clavigerref20_Of.j1 k1 l2 (x7_1.set (0 : Int).toNat (⟨(rd_T41 x7_1 0).f0, (rd_T41 x7_1 0).f1, (rd_T41 x7_1 0).f2, (rd_T41 x7_1 0).f3, y398⟩ : S41)) x8_1 (x7_1.length : Int)) = some r := by first | (rw [hy398]; with_reducible exact H) | (have H2_ := (Option.bind_some _ _).symm.trans H; rw [hy398]; with_reducible exact H2_) | (have H2_ := (Option.bind_some _ _).symm.trans H; with_reducible exact H2_) | with_reducible exact H | (rw [hy398]; exact H) | exact H
    have Ny398 := Aside0.mk hy398
    clear hy398
    obtain ⟨y401, hy401⟩ : ∃ y_ : List (S41), y_ = (x7_1.set (0 : Int).toNat (⟨(rd_T41 x7_1 0).f0, (rd_T41 x7_1 0).f1, (rd_T41 x7_1 0).f2, (rd_T41 x7_1 0).f3, y398⟩ : S41)) := ⟨_, rfl⟩
    replace H : (clavigerref20_Of.j1 k1 l2 y401 x8_1 (x7_1.length : Int)) = some r := by first | (rw [hy401]; with_reducible exact H) | (have H2_ := (Option.bind_some _ _).symm.trans H; rw [hy401]; with_reducible exact H2_) | (have H2_ := (Option.bind_some _ _).symm.trans H; with_reducible exact H2_) | with_reducible exact H | (rw [hy401]; exact H) | exact H
    have Ny401 := Aside0.mk hy401
    clear hy401
    have H' := Aside0.mk H
    clear H
    have p397 : 0 ≤ (0 : Int) := (by omega)
    have q397 : 0 < (x7_1.length : Int) := odt
    obtain ⟨ad397, A397_4, c397_4, e397, hx397_0, hx397_1, hx397_2, hx397_3, hx397_4, hl397_4, hi397_4⟩ := at_T41 (Kd.S_reads' HO_7.out).2.2 0 p397 q397
    cases e397
    obtain ⟨ce397, hce397, hMe397, hcc397⟩ := Kd.S_get HO_7.out z41 0 p397 (by first | exact q397 | exact odt | (have e_ := (Kd.S_reads' HO_7.out).1; omega))
    obtain ⟨ve397_4, rfl, ge397_4⟩ := k41_openM hMe397
    have hv397_4 := hcc397 4 _ rfl
    rw [add_field _ _ 4 (by omega)] at hv397_4
    replace hv397_4 := Option.some.inj (hv397_4.symm.trans hx397_4)
    rw [hv397_4] at ge397_4
    have HL397_4 := Aside0.mk (show Kd.R (Kd.int .i64) 3 _ _ _ _ ((rd_T41 x7_1 0).f4) from ge397_4)
    clear hv397_4 ge397_4
    have HX397_4 := Aside0.mk hx397_4
    clear hcc397 hce397
    have qi397 : (0 < x7_1.length) = True := eq_true (by omega)
    (try rw [show ((0 : Int)).toNat = 0 from rfl] at hx397_0)
    (try rw [show 0 * 5 = 0 from rfl] at hx397_0)
    (try rw [Addr.add_zero'] at hx397_0)
    (try rw [show ((0 : Int)).toNat = 0 from rfl] at hx397_1)
    (try rw [show 0 * 5 = 0 from rfl] at hx397_1)
    (try rw [Addr.add_zero'] at hx397_1)
    (try rw [show ((0 : Int)).toNat = 0 from rfl] at hx397_2)
    (try rw [show 0 * 5 = 0 from rfl] at hx397_2)
    (try rw [Addr.add_zero'] at hx397_2)
    (try rw [show ((0 : Int)).toNat = 0 from rfl] at hx397_3)
    (try rw [show 0 * 5 = 0 from rfl] at hx397_3)
    (try rw [Addr.add_zero'] at hx397_3)
    (try rw [show ((0 : Int)).toNat = 0 from rfl] at hx397_4)
    (try rw [show 0 * 5 = 0 from rfl] at hx397_4)
    (try rw [Addr.add_zero'] at hx397_4)
    have HR397_4 := Aside0.mk hi397_4
    have HC397_4 := Aside0.mk hl397_4
    clear hi397_4 hl397_4
    replace p397 := eq_true p397
    replace q397 := eq_true q397
    obtain ⟨go14, co14, eo14, gb14, gl14, cl14, HG14⟩ := Kd.S_form HO_7.out (by have h_ : (0 : Int) < ((x7_1.length : Int) : Int) := odt; have h2_ : 0 ≤ (0 : Int) := (by omega); omega)
    (first | cases eo14 | (injection eo14 with ea_ en_ ec_; (first | subst ea_ | (injection ea_ with ea_; subst ea_)); subst ec_; clear en_))
    have GB14 := Aside0.mk gb14
    have GG14 := Aside0.mk HG14
    clear gb14 gl14 HG14
    (first | simp only [add_plain] at hx397_0 | skip)
    (first | simp only [add_plain] at hx397_1 | skip)
    (first | simp only [add_plain] at hx397_2 | skip)
    (first | simp only [add_plain] at hx397_3 | skip)
    (first | simp only [add_plain] at hx397_4 | skip)
    obtain ⟨oki14, ce14, hcl14, hM14, hcc14, _, _, hH14⟩ := Kd.S_elem HO_7.out z41 (0 : Int) (by omega) (by have h_ : (0 : Int) < ((x7_1.length : Int) : Int) := odt; first | exact h_ | (have e_ := (Kd.S_reads' HO_7.out).1; omega) | simpa using h_)
    obtain ⟨ve14_4, rfl, ge14_4⟩ := k41_openM hM14
    have hv14 := hcc14 4 _ rfl
    have hX14 := HX397_4.out
    (try simp only [add_plain] at hX14)
    (try simp only [Nat.add_zero] at hv14)
    replace hv14 := Option.some.inj (hv14.symm.trans hX14)
    subst hv14
    clear hX14 hcc14 hcl14
    have UU14 := Aside0.mk (show Kd.R (Kd.int .i64) 3 _ w.heap.size oki14 (.slice A397_4 ((rd_T41 x7_1 0).f4).length c397_4) ((rd_T41 x7_1 0).f4) from ge14_4)
    have HH14 := Aside0.mk hH14
    have HN14 := Aside0.mk (Kd.S_reads' HO_7.out).1
    clear hH14 ge14_4
    go_wp2_with (first | ((with_reducible refine gate_builtin (b := .append) (xs := #[.tmp 34, .tmp 36]) rfl ?_); at_builtin; refine Kd.R_append (Kd.int .i64) (w0 := w) w.heap.size rfl (.tmp 34) (.tmp 36) 39 3 (.int .i64 0) 8 rfl Tryd.underlying39 info3 rfl (by decide) (by omega) (.slice A397_4 ((rd_T41 x7_1 0).f4).length c397_4) ((rd_T41 x7_1 0).f4) (x7_1.length : Int) [.int .i64 (x7_1.length : Int)] (fun k_ => oki14 k_ ∨ ((fun _ => True)) k_ ∧ wr.heap.size ≤ k_) (fun _ => False) rfl rfl ?aP (fun _ hk => hk.elim) ?aF ?aO ?aB ?aS ?aL ?_; (case aP => exact rfl); (case aB => exact blw); (case aF => exact (fun k_ hk => .inr ⟨trivial, hk⟩)); (case aO => exact (by (with_reducible repeat (first | apply Kd.R_alloc | apply Kd.R_drewN | apply Kd.R_drew)); exact Kd.R_mono UU14.out (fun _ hk => .inl hk))); (case aS => exact (below_size blw)); (case aL => have := LMc12.out; omega); intro v399 w15 ho hb hg hat; rw [← Ny398.out] at ho; have n0_ := Aside0.mk (hb); have n1_ := Aside0.mk (Kd.H_grown (Kd.H_widen (by repeat (first | exact HH14.out | refine Kd.H_alloc ?_ _ | refine Kd.H_drewN ?_ _ | refine Kd.H_drew ?_))) hg (fun k_ e_ => .inl (UU14.out.1 k_ e_))); have n2_ := Aside0.mk (ho); clear HB; clear HH14; clear HO_7; clear UU14; clear HL397_4; have HB := n0_; have HH14 := n1_; have HO400 := n2_; clear n0_ n1_ n2_; clear ho hb hg hat; have p13 : 0 ≤ (0 : Int) := (by omega); have q13 : (0 : Int) < ((x7_1.length : Int) : Int) := odt; replace p13 := eq_true p13; replace q13 := eq_true q13; obtain ⟨Ao18, co18, eo18⟩ := Kd.R_slice HO400.out; subst eo18; obtain ⟨_, _, hraw16, _, _, hcc16, _⟩ := Kd.H_raw HH14.out (by omega) (by have h_ : (0 : Int) < ((x7_1.length : Int) : Int) := odt; first | exact h_ | (have e_ := (HN14.out); omega) | simpa using h_); obtain ⟨_, hfr16⟩ := Kd.H_at HH14.out (by omega) (by have h_ : (0 : Int) < ((x7_1.length : Int) : Int) := odt; first | exact h_ | (have e_ := (HN14.out); omega) | simpa using h_); have hx16_0 := hcc16 4 _ rfl; have hf16_0 := hfr16 4; (try rw [show (k41).sz = 5 from rfl] at hx16_0); (try rw [show (k41).sz = 5 from rfl] at hf16_0); (try rw [show ((0 : Int)).toNat = 0 from rfl] at hx16_0); (try simp only [Nat.reduceMul, Nat.zero_mul, Nat.zero_add, Nat.reduceAdd] at hx16_0); (try rw [show ((0 : Int)).toNat = 0 from rfl] at hf16_0); (try simp only [Nat.reduceMul, Nat.zero_mul, Nat.zero_add, Nat.reduceAdd] at hf16_0); have HP16 := Kd.S_seg0 HH14.out (by omega) (by have h_ : (0 : Int) < ((x7_1.length : Int) : Int) := odt; first | exact h_ | (have e_ := (HN14.out); omega) | simpa using h_) (seg := [.slice Ao18 y398.length co18]) (j := 4) (show 5 ≤ 5 from by decide) (x' := (⟨(rd_T41 x7_1 0).f0, (rd_T41 x7_1 0).f1, (rd_T41 x7_1 0).f2, (rd_T41 x7_1 0).f3, y398⟩ : S41)) (k41_mkM _ _ _ (⟨(rd_T41 x7_1 0).f0, (rd_T41 x7_1 0).f1, (rd_T41 x7_1 0).f2, (rd_T41 x7_1 0).f3, y398⟩ : S41) HO400.out) (fun _ hk => hk); clear hcc16 hfr16) | ((with_reducible refine gate_store (t := 39) (p := 39) rfl ?_); refine store_event (t := 39) (p := 39) (v := ?vo_w17) (w1 := (w15.setCell ⟨go14, (0 : Int).toNat * 5 + 4, none⟩ (.slice Ao18 y398.length co18))) ?hg ?ho ?hn ?hr ?_; (case ho => rfl); (case hg => rfl); (case hn => rfl); (case hr => first | (go_simp; done) | (go_simp; rfl)); intro w17 hw; have hg : w15.grownBy w17 (some go14) := (by rw [hw]; exact HP16.2); have hp_ : Kd.S k41 41 w17 w.heap.size (fun _ => True) (.slice (some ⟨go14, 0, none⟩) x7_1.length co9) y401 := (by rw [hw, Ny401.out]; exact HP16.1); clear HP16; have n0_ := Aside0.mk ((by rw [hw]; exact below_set HB.out GB14.out : Below w.heap.size w w17)); have n1_ := Aside0.mk (hp_); clear HB; clear HO400; clear HH14; have HB := n0_; have HO_7 := n1_; clear n0_ n1_; clear hg hw hp_ hraw16))
    go_meet
    case rel => exact ⟨_, (y401), H', ⟨by have := HK1.out; first | omega | exact Nat.le_refl _⟩, ⟨by (with_reducible repeat (first | apply Kd.S_alloc | apply Kd.S_drewN | apply Kd.S_drew)); exact HO_7.out⟩, ⟨blw⟩⟩
   case rest =>
    clear HC8
    try clear c2
    try clear c5
    try clear c6
    try clear c6b0
    try clear c7
    try clear c7b0
    try clear c10
    try clear c10b0
    try clear c10b1
    try clear c11
    try clear c11b0
    try clear c11b1
    try clear c12
    try clear p13
    try clear q13
    try clear hx16_0
    try clear hx396_0
    try clear hx397_0
    try clear hx397_1
    try clear hx397_2
    try clear hx397_3
    try clear hx397_4
    try clear p13
    try clear p396
    try clear p397
    try clear q13
    try clear q396
    try clear q397
    obtain ⟨kq, x7_7, HA, HJ7, HO_7, HB⟩ := hcut
    have hl7_7 := (Kd.S_reads' HO_7.out).1
    rw [hl7_7] at HO_7
    (try simp only [hl7_7])
    cases kq with
    | zero => exact absurd HA.out (by simp [clavigerref20_Of.j1])
    | succ kj7 =>
     have H := HA.out
     clear HA
     simp only [clavigerref20_Of.j1] at H
     have H' := Aside0.mk H
     clear H
     go_wp2
     go_loopg [7, 10] kj7 (fun kq v7 v10 w' => ∃ (x7_3 : List (S41)) (x10_3 : Int), v10 = .int .i64 x10_3 ∧ Aside0 (clavigerref20_Of.l1 kq l2 x7_3 x8_1 (x7_1.length : Int) x10_3 = some r) ∧ Aside0 (kq ≤ kj7) ∧ Aside0 (Kd.S k41 41 w' w.heap.size (fun _ => True) v7 x7_3) ∧ Aside0 (Below w.heap.size w w'))
     case atStart => exact ⟨(x7_7), (0), rsd, H', ⟨Nat.le_refl _⟩, ⟨by (try simp only [hl7_7]); (with_reducible repeat (first | apply Kd.S_alloc | apply Kd.S_drewN | apply Kd.S_drew)); exact HO_7.out⟩, ⟨blw⟩⟩
     case round =>
      clear H'
      try clear c2
      try clear c5
      try clear c6
      try clear c6b0
      try clear c7
      try clear c7b0
      try clear c10
      try clear c10b0
      try clear c10b1
      try clear c11
      try clear c11b0
      try clear c11b1
      try clear c12
      try clear p13
      try clear q13
      try clear hx16_0
      try clear hx396_0
      try clear hx397_0
      try clear hx397_1
      try clear hx397_2
      try clear hx397_3
      try clear hx397_4
      try clear p13
      try clear p396
      try clear p397
      try clear q13
      try clear q396
      try clear q397
      obtain ⟨x7_3, x10_3, rfl, HA, HK3, HO_7, HB⟩ := hrel
      cases gk with
      | zero => exact absurd HA.out (by simp [clavigerref20_Of.l1])
      | succ k3 =>
       have H := HA.out
       clear HA
       simp only [clavigerref20_Of.l1] at H
       by_cases c19 : 0 ≤ x8_1
       case neg =>
        rw [if_neg c19] at H
        exact absurd H (by simp)
       rw [if_pos c19] at H
       have c19b0 : decide (0 ≤ x8_1) = true := decide_eq_true c19
       clear c19
       by_cases c20 : x8_1 < (l2.length : Int)
       case neg =>
        rw [if_neg c20] at H
        exact absurd H (by simp)
       rw [if_pos c20] at H
       have c20b0 : decide (x8_1 < (l2.length : Int)) = true := decide_eq_true c20
       try (have c20b0x := c20b0; rw [hl7_7] at c20b0x)
       clear c20
       by_cases c21 : x10_3 < ((rd_L9 l2 x8_1).length : Int)
       case neg =>
        rw [if_neg c21] at H
        have c21b0 : decide (x10_3 < ((rd_L9 l2 x8_1).length : Int)) = false := decide_eq_false c21
        try (have c21b0x := c21b0; rw [hl7_7] at c21b0x)
        clear c21
        have H' := Aside0.mk H
        clear H
        have p402 : 0 ≤ (x8_1 : Int) := odt
        have q402 : x8_1 < (l2.length : Int) := odt
        obtain ⟨ad402, A402_0, c402_0, e402, hx402_0, hl402_0, hi402_0⟩ := at_L9 HR2.out x8_1 p402 q402
        obtain rfl : ad396 = ad402 := (by injection e402)
        replace hx402_0 := cellB hx402_0
        have HR402_0 := Aside0.mk hi402_0
        have HC402_0 := Aside0.mk hl402_0
        clear hi402_0 hl402_0
        replace p402 := eq_true p402
        replace q402 := eq_true q402
        go_wp2
        (try simp only [← hl7_7])
        go_roundg k3
        case measure => have := HK1.out; have := HJ7.out; have := HK3.out; omega
        case rel => exact ⟨(x7_3), (wrap64 (x8_1 + 1)), rsd, H', ⟨by have := HK1.out; have := HJ7.out; have := HK3.out; omega⟩, ⟨by (try simp only [hl7_7]); (with_reducible repeat (first | apply Kd.S_alloc | apply Kd.S_drewN | apply Kd.S_drew)); exact HO_7.out⟩, ⟨blw⟩⟩
       rw [if_pos c21] at H
       have c21b0 : decide (x10_3 < ((rd_L9 l2 x8_1).length : Int)) = true := decide_eq_true c21
       try (have c21b0x := c21b0; rw [hl7_7] at c21b0x)
       clear c21
       by_cases c22 : 0 ≤ x10_3
       case neg =>
        rw [if_neg c22] at H
        exact absurd H (by simp)
       rw [if_pos c22] at H
       have c22b0 : decide (0 ≤ x10_3) = true := decide_eq_true c22
       clear c22
       replace H := Option.bind_eq_some_iff.mp H
       obtain ⟨t406, A230, H⟩ := H
       replace H : (if x7_3.length < 2199023255552 then (clavigerref20_Of.l1 k3 l2 (x7_3 ++ [(⟨(rd_T41 (rd_L9 l2 x8_1) x10_3).f0, (rd_T41 (rd_L9 l2 x8_1) x10_3).f1, (rd_T41 (rd_L9 l2 x8_1) x10_3).f2, (rd_T41 (rd_L9 l2 x8_1) x10_3).f3, t406⟩ : S41)]) x8_1 (x7_1.length : Int) (wrap64 (x10_3 + 1))) else (none)) = some r := H
       have A23 := Aside0.mk A230
       clear A230
       by_cases c24 : x7_3.length < 2199023255552
       case neg =>
        rw [if_neg c24] at H
        exact absurd H (by simp)
       rw [if_pos c24] at H
       have LMc24 := Aside0.mk c24
       clear c24
       obtain ⟨y409, hy409⟩ : ∃ y_ : List (S41), y_ = (x7_3 ++ [(⟨(rd_T41 (rd_L9 l2 x8_1) x10_3).f0, (rd_T41 (rd_L9 l2 x8_1) x10_3).f1, (rd_T41 (rd_L9 l2 x8_1) x10_3).f2, (rd_T41 (rd_L9 l2 x8_1) x10_3).f3, t406⟩ : S41)]) := ⟨_, rfl⟩
       replace H : (clavigerref20_Of.l1 k3 l2 y409 x8_1 (x7_1.length : Int) (wrap64 (x10_3 + 1))) = some r := by first | (rw [hy409]; with_reducible exact H) | (have H2_ := (Option.bind_some _ _).symm.trans H; rw [hy409]; with_reducible exact H2_) | (have H2_ := (Option.bind_some _ _).symm.trans H; with_reducible exact H2_) | with_reducible exact H | (rw [hy409]; exact H) | exact H
       have Ny409 := Aside0.mk hy409
       clear hy409
       have H' := Aside0.mk H
       clear H
       have p402 : 0 ≤ (x8_1 : Int) := odt
       have q402 : x8_1 < (l2.length : Int) := odt
       obtain ⟨ad402, A402_0, c402_0, e402, hx402_0, hl402_0, hi402_0⟩ := at_L9 HR2.out x8_1 p402 q402
       obtain rfl : ad396 = ad402 := (by injection e402)
       replace hx402_0 := cellB hx402_0
       have HR402_0 := Aside0.mk hi402_0
       have HC402_0 := Aside0.mk hl402_0
       clear hi402_0 hl402_0
       replace p402 := eq_true p402
       replace q402 := eq_true q402
       have p403 : 0 ≤ (x8_1 : Int) := odt
       have q403 : x8_1 < (l2.length : Int) := odt
       obtain ⟨ad403, A403_0, c403_0, e403, hx403_0, hl403_0, hi403_0⟩ := at_L9 HR2.out x8_1 p403 q403
       obtain rfl : ad396 = ad403 := (by injection e403)
       replace hx403_0 := cellB hx403_0
       have HR403_0 := Aside0.mk hi403_0
       have HC403_0 := Aside0.mk hl403_0
       clear hi403_0 hl403_0
       replace p403 := eq_true p403
       replace q403 := eq_true q403
       have ea_ := Option.some.inj (hx402_0.symm.trans hx403_0)
       injection ea_ with ea_ en_ ec_
       subst ea_
       subst ec_
       clear en_
       have p404 : 0 ≤ (x10_3 : Int) := odt
       have q404 : x10_3 < ((rd_L9 l2 x8_1).length : Int) := odt
       obtain ⟨ad404, A404_4, c404_4, e404, hx404_0, hx404_1, hx404_2, hx404_3, hx404_4, hl404_4, hi404_4⟩ := at_T41 HR403_0.out x10_3 p404 q404
       cases e404
       replace hx404_0 := cellB hx404_0
       replace hx404_1 := cellB hx404_1
       replace hx404_2 := cellB hx404_2
       replace hx404_3 := cellB hx404_3
       replace hx404_4 := cellB hx404_4
       have HR404_4 := Aside0.mk hi404_4
       have HC404_4 := Aside0.mk hl404_4
       clear hi404_4 hl404_4
       replace p404 := eq_true p404
       replace q404 := eq_true q404
       go_wp2_with (first | ((with_reducible refine gate_dst (N := 11) rfl ?_); refine box_event ?hg (N := 11) ?hd (cs := #[.int .i64 0, .int .i64 0, .bool false, .string (⟨#[]⟩ : ByteArray), .slice none 0 0]) (t := 41) ?hr ?_; (case hd => rfl); (case hg => rfl); (case hr => first | (go_simp; done) | (go_simp; rfl)); intro gb405 hg w25 hbox hb; have n0_ := Aside0.mk (Kd.S_below (Kd.S_elderB (by (with_reducible repeat (first | apply Kd.S_alloc | apply Kd.S_drewN | apply Kd.S_drew)); exact HO_7.out) gb405 (Nat.le_of_eq hg.symm)) hb); have n1_ := Aside0.mk (below_step blw hb); have n2_ := Aside0.mk (hbox); have n3_ := Aside0.mk ((by rw [hg]; exact (below_size blw) : w.heap.size ≤ gb405)); have n4_ := Aside0.mk ((by rw [hg]; exact (below_size blw) : w.heap.size ≤ gb405)); clear HO_7; clear HB; have HO_7 := n0_; have HB := n1_; have BK405 := n2_; have GW405 := n3_; have GE405 := n4_; clear n0_ n1_ n2_ n3_ n4_; clear hb hbox hg; have hcz26_0 : w25.cell? ⟨gb405, 0, none⟩ = some (.int .i64 0) := (blk_cell BK405.out 0).trans rfl; have hcz26_1 : w25.cell? ⟨gb405, 1, none⟩ = some (.int .i64 0) := (blk_cell BK405.out 1).trans rfl; have hcz26_2 : w25.cell? ⟨gb405, 2, none⟩ = some (.bool false) := (blk_cell BK405.out 2).trans rfl; have hcz26_3 : w25.cell? ⟨gb405, 3, none⟩ = some (.string (⟨#[]⟩ : ByteArray)) := (blk_cell BK405.out 3).trans rfl; have hcz26_4 : w25.cell? ⟨gb405, 4, none⟩ = some (.slice none 0 0) := (blk_cell BK405.out 4).trans rfl; have hfz26_0 := blk_frozen BK405.out 0; have hfz26_1 := blk_frozen BK405.out 1; have hfz26_2 := blk_frozen BK405.out 2; have hfz26_3 := blk_frozen BK405.out 3; have hfz26_4 := blk_frozen BK405.out 4) | ((with_reducible refine gate_callee (f := 34) rfl ?_); refine goesL_ (some 59) rfl rfl Tryd.func34 (by kernel_rfl) rfl #[.slice A404_4 ((rd_T41 (rd_L9 l2 x8_1) x10_3).f4).length c404_4, .int .i64 (x7_1.length : Int)] rfl (by (try simp only [List.map_toArray, List.map_cons, List.map_nil]); first | done | (simp only [hl7_7]; rfl) | rfl | (simp only [List.length_drop, List.length_take]; rfl) | exact congrArg (fun z => #[Value.int .i64 z]) (w64 (by omega) (by omega)).symm) ?_; (with_reducible refine (clavigerref20_moved.calls k3 _ _ ((rd_T41 (rd_L9 l2 x8_1) x10_3).f4) (x7_1.length : Int) t406 _ ?side1 ?side2 A23.out).mono ?_); (case side1 => exact Kd.C_below HR404_4.out (by repeat (first | (with_reducible first | exact HB.out | apply below_alloc | apply pw_below_drewN | apply below_drew1 | refine below_set ?_ GE405.out) | exact HB.out))); (case side2 => exact HC404_4.out); rintro e w27 ⟨v407, rfl, ho0, hb⟩; refine ⟨_, rfl, ?_⟩; have n0_ := Aside0.mk (Kd.S_elder' (by (with_reducible repeat (first | apply Kd.S_alloc | apply Kd.S_drewN | apply Kd.S_drew)); exact (Kd.S_mono (Kd.S_far (p := ⟨gb405, 4, none⟩) (Kd.S_far (p := ⟨gb405, 3, none⟩) (Kd.S_far (p := ⟨gb405, 2, none⟩) (Kd.S_far (p := ⟨gb405, 1, none⟩) (Kd.S_far (p := ⟨gb405, 0, none⟩) (Kd.S_mono HO_7.out (fun k_ hk => (⟨hk, hk.2⟩ : _ ∧ k_ ≠ gb405))) (fun _ hk => hk.2) (.int .i64 ((rd_T41 (rd_L9 l2 x8_1) x10_3).f0))) (fun _ hk => hk.2) (.int .i64 ((rd_T41 (rd_L9 l2 x8_1) x10_3).f1))) (fun _ hk => hk.2) (.bool ((rd_T41 (rd_L9 l2 x8_1) x10_3).f2))) (fun _ hk => hk.2) (.string ((rd_T41 (rd_L9 l2 x8_1) x10_3).f3))) (fun _ hk => hk.2) (.slice A404_4 ((rd_T41 (rd_L9 l2 x8_1) x10_3).f4).length c404_4)) (fun _ h_ => h_.1))) (Kd.R_base ho0) hb); have n1_ := Aside0.mk (Kd.R_lower ho0 (below_size (by repeat (first | (with_reducible first | exact HB.out | apply below_alloc | apply pw_below_drewN | apply below_drew1 | refine below_set ?_ GE405.out) | exact HB.out)))); have n2_ := Aside0.mk (blk_below (g := gb405) (o := .cells #[.int .i64 ((rd_T41 (rd_L9 l2 x8_1) x10_3).f0), .int .i64 ((rd_T41 (rd_L9 l2 x8_1) x10_3).f1), .bool ((rd_T41 (rd_L9 l2 x8_1) x10_3).f2), .string ((rd_T41 (rd_L9 l2 x8_1) x10_3).f3), .slice A404_4 ((rd_T41 (rd_L9 l2 x8_1) x10_3).f4).length c404_4] 41 (0, 0)) (by (with_reducible repeat (first | refine blk_drewN ?_ _ | refine blk_drew ?_ | refine blk_alloc ?_ _)); refine blk_put (cs := #[.int .i64 ((rd_T41 (rd_L9 l2 x8_1) x10_3).f0), .int .i64 ((rd_T41 (rd_L9 l2 x8_1) x10_3).f1), .bool ((rd_T41 (rd_L9 l2 x8_1) x10_3).f2), .string ((rd_T41 (rd_L9 l2 x8_1) x10_3).f3), .slice none 0 0]) ?_ 4 _ rfl; (with_reducible repeat (first | refine blk_drewN ?_ _ | refine blk_drew ?_ | refine blk_alloc ?_ _)); refine blk_put (cs := #[.int .i64 ((rd_T41 (rd_L9 l2 x8_1) x10_3).f0), .int .i64 ((rd_T41 (rd_L9 l2 x8_1) x10_3).f1), .bool ((rd_T41 (rd_L9 l2 x8_1) x10_3).f2), .string (⟨#[]⟩ : ByteArray), .slice none 0 0]) ?_ 3 _ rfl; (with_reducible repeat (first | refine blk_drewN ?_ _ | refine blk_drew ?_ | refine blk_alloc ?_ _)); refine blk_put (cs := #[.int .i64 ((rd_T41 (rd_L9 l2 x8_1) x10_3).f0), .int .i64 ((rd_T41 (rd_L9 l2 x8_1) x10_3).f1), .bool false, .string (⟨#[]⟩ : ByteArray), .slice none 0 0]) ?_ 2 _ rfl; (with_reducible repeat (first | refine blk_drewN ?_ _ | refine blk_drew ?_ | refine blk_alloc ?_ _)); refine blk_put (cs := #[.int .i64 ((rd_T41 (rd_L9 l2 x8_1) x10_3).f0), .int .i64 0, .bool false, .string (⟨#[]⟩ : ByteArray), .slice none 0 0]) ?_ 1 _ rfl; (with_reducible repeat (first | refine blk_drewN ?_ _ | refine blk_drew ?_ | refine blk_alloc ?_ _)); refine blk_put (cs := #[.int .i64 0, .int .i64 0, .bool false, .string (⟨#[]⟩ : ByteArray), .slice none 0 0]) ?_ 0 _ rfl; (with_reducible repeat (first | refine blk_drewN ?_ _ | refine blk_drew ?_ | refine blk_alloc ?_ _)); exact BK405.out) hb); have n3_ := Aside0.mk (below_step (by repeat (first | (with_reducible first | exact HB.out | apply below_alloc | apply pw_below_drewN | apply below_drew1 | refine below_set ?_ GE405.out) | exact HB.out)) hb); clear HO_7; clear BK405; clear HB; have HO_7 := n0_; have HO408 := n1_; have BK405 := n2_; have HB := n3_; clear n0_ n1_ n2_ n3_; (try clear hb); (try clear hb2); (try clear hk); (try clear hi); (try clear ho0); obtain ⟨Ao28, co28, eo28⟩ := Kd.R_slice HO408.out; subst eo28; have hcz29_0 : w27.cell? ⟨gb405, 0, none⟩ = some (.int .i64 ((rd_T41 (rd_L9 l2 x8_1) x10_3).f0)) := (blk_cell BK405.out 0).trans rfl; have hcz29_1 : w27.cell? ⟨gb405, 1, none⟩ = some (.int .i64 ((rd_T41 (rd_L9 l2 x8_1) x10_3).f1)) := (blk_cell BK405.out 1).trans rfl; have hcz29_2 : w27.cell? ⟨gb405, 2, none⟩ = some (.bool ((rd_T41 (rd_L9 l2 x8_1) x10_3).f2)) := (blk_cell BK405.out 2).trans rfl; have hcz29_3 : w27.cell? ⟨gb405, 3, none⟩ = some (.string ((rd_T41 (rd_L9 l2 x8_1) x10_3).f3)) := (blk_cell BK405.out 3).trans rfl; have hcz29_4 : w27.cell? ⟨gb405, 4, none⟩ = some (.slice A404_4 ((rd_T41 (rd_L9 l2 x8_1) x10_3).f4).length c404_4) := (blk_cell BK405.out 4).trans rfl; have hfz29_0 := blk_frozen BK405.out 0; have hfz29_1 := blk_frozen BK405.out 1; have hfz29_2 := blk_frozen BK405.out 2; have hfz29_3 := blk_frozen BK405.out 3; have hfz29_4 := blk_frozen BK405.out 4) | ((with_reducible refine gate_store (t := 39) (p := 60) rfl ?_); refine store_event (t := 39) (p := 60) (v := ?vo_w30) (w1 := (w27.setCell ⟨gb405, 4, none⟩ (.slice Ao28 t406.length co28))) ?hg ?ho ?hn ?hr ?_; (case ho => rfl); (case hg => rfl); (case hn => rfl); (case hr => first | (go_simp; done) | (go_simp; rfl)); intro w30 hw; have n0_ : Aside0 (Kd.S k41 41 w30 w.heap.size (fun k_ => some k_ ≠ (.slice Ao28 t406.length co28 : Value).ownBlock ∧ k_ ≠ gb405) u7 x7_3) := ⟨(by rw [hw]; exact (by (with_reducible repeat (first | apply Kd.S_alloc | apply Kd.S_drewN | apply Kd.S_drew)); exact Kd.S_mono (Kd.S_far (p := ⟨gb405, 4, none⟩) (Kd.S_mono HO_7.out (fun k_ hk => (⟨hk, hk.1.2⟩ : _ ∧ k_ ≠ gb405))) (fun _ hk => hk.2) (.slice Ao28 t406.length co28)) (fun _ hk => ⟨hk.1.2, hk.1.1.2⟩)))⟩; have n1_ : Aside0 (Kd.R (Kd.int .i64) 3 w30 w.heap.size (fun _ => True) (.slice Ao28 t406.length co28) t406) := ⟨(by rw [hw]; exact (by (with_reducible repeat (first | apply Kd.R_alloc | apply Kd.R_drewN | apply Kd.R_drew)); exact Kd.R_mono (Kd.R_far (p := ⟨gb405, 4, none⟩) (Kd.R_types HO408.out BK405.out (by decide)) (fun _ hk => hk.2) (.slice Ao28 t406.length co28)) (fun _ hk => trivial)))⟩; have n2_ : Aside0 (w30.heap[gb405]? = some (.cells #[.int .i64 ((rd_T41 (rd_L9 l2 x8_1) x10_3).f0), .int .i64 ((rd_T41 (rd_L9 l2 x8_1) x10_3).f1), .bool ((rd_T41 (rd_L9 l2 x8_1) x10_3).f2), .string ((rd_T41 (rd_L9 l2 x8_1) x10_3).f3), .slice Ao28 t406.length co28] 41 (0, 0))) := ⟨(by rw [hw]; exact (by (with_reducible repeat (first | refine blk_drewN ?_ _ | refine blk_drew ?_ | refine blk_alloc ?_ _)); refine blk_put (cs := #[.int .i64 ((rd_T41 (rd_L9 l2 x8_1) x10_3).f0), .int .i64 ((rd_T41 (rd_L9 l2 x8_1) x10_3).f1), .bool ((rd_T41 (rd_L9 l2 x8_1) x10_3).f2), .string ((rd_T41 (rd_L9 l2 x8_1) x10_3).f3), .slice A404_4 ((rd_T41 (rd_L9 l2 x8_1) x10_3).f4).length c404_4]) ?_ 4 _ rfl; (with_reducible repeat (first | refine blk_drewN ?_ _ | refine blk_drew ?_ | refine blk_alloc ?_ _)); exact BK405.out))⟩; have n3_ : Aside0 (Below w.heap.size w w30) := ⟨(by rw [hw]; exact (by repeat (first | (with_reducible first | exact HB.out | apply below_alloc | apply pw_below_drewN | apply below_drew1 | refine below_set ?_ GE405.out) | exact HB.out)))⟩; clear hw; clear HO_7; clear HO408; clear BK405; clear HB; have HO_7 := n0_; have HO408 := n1_; have BK405 := n2_; have HB := n3_; clear n0_ n1_ n2_ n3_; have hcz31_0 : w30.cell? ⟨gb405, 0, none⟩ = some (.int .i64 ((rd_T41 (rd_L9 l2 x8_1) x10_3).f0)) := (blk_cell BK405.out 0).trans rfl; have hcz31_1 : w30.cell? ⟨gb405, 1, none⟩ = some (.int .i64 ((rd_T41 (rd_L9 l2 x8_1) x10_3).f1)) := (blk_cell BK405.out 1).trans rfl; have hcz31_2 : w30.cell? ⟨gb405, 2, none⟩ = some (.bool ((rd_T41 (rd_L9 l2 x8_1) x10_3).f2)) := (blk_cell BK405.out 2).trans rfl; have hcz31_3 : w30.cell? ⟨gb405, 3, none⟩ = some (.string ((rd_T41 (rd_L9 l2 x8_1) x10_3).f3)) := (blk_cell BK405.out 3).trans rfl; have hcz31_4 : w30.cell? ⟨gb405, 4, none⟩ = some (.slice Ao28 t406.length co28) := (blk_cell BK405.out 4).trans rfl; have hfz31_0 := blk_frozen BK405.out 0; have hfz31_1 := blk_frozen BK405.out 1; have hfz31_2 := blk_frozen BK405.out 2; have hfz31_3 := blk_frozen BK405.out 3; have hfz31_4 := blk_frozen BK405.out 4) | ((with_reducible refine gate_builtin (b := .append) (xs := #[.tmp 61, .tmp 63]) rfl ?_); at_builtin; refine Kd.S_append k41 (w0 := w) w.heap.size rfl (.tmp 61) (.tmp 63) 23 41 (.agg #[(.int .i64 0), (.int .i64 0), (.bool false), (.string ⟨#[]⟩), (.slice none 0 0)]) 64 rfl Tryd.underlying23 info41 rfl (by decide) (by omega) u7 x7_3 (⟨(rd_T41 (rd_L9 l2 x8_1) x10_3).f0, (rd_T41 (rd_L9 l2 x8_1) x10_3).f1, (rd_T41 (rd_L9 l2 x8_1) x10_3).f2, (rd_T41 (rd_L9 l2 x8_1) x10_3).f3, t406⟩ : S41) [.int .i64 ((rd_T41 (rd_L9 l2 x8_1) x10_3).f0), .int .i64 ((rd_T41 (rd_L9 l2 x8_1) x10_3).f1), .bool ((rd_T41 (rd_L9 l2 x8_1) x10_3).f2), .string ((rd_T41 (rd_L9 l2 x8_1) x10_3).f3), .slice Ao28 t406.length co28] (fun k_ => k_ ≠ gb405) (fun k_ => some k_ = (.slice Ao28 t406.length co28 : Value).ownBlock) rfl rfl ?aP (fun k_ hk_ => ((Kd.R_mono (ok' := fun k_ => ((fun k_ => k_ ≠ gb405)) k_ ∧ some k_ ≠ (u7 : Value).ownBlock) (Kd.R_types (Kd.R_apart' (HO408.out) (Kd.S_typed HO_7.out) (by decide)) BK405.out (by decide)) (fun k_ hk => ⟨hk.2, hk.1.2⟩))).1 k_ hk_.symm) ?aF ?aO ?aB ?aS ?aL ?_; (case aP => exact k41_mkM _ _ _ (⟨(rd_T41 (rd_L9 l2 x8_1) x10_3).f0, (rd_T41 (rd_L9 l2 x8_1) x10_3).f1, (rd_T41 (rd_L9 l2 x8_1) x10_3).f2, (rd_T41 (rd_L9 l2 x8_1) x10_3).f3, t406⟩ : S41) (Kd.R_mono (Kd.R_tight rfl (Kd.R_mono (ok' := fun k_ => ((fun k_ => k_ ≠ gb405)) k_ ∧ some k_ ≠ (u7 : Value).ownBlock) (Kd.R_types (Kd.R_apart' (HO408.out) (Kd.S_typed HO_7.out) (by decide)) BK405.out (by decide)) (fun k_ hk => ⟨hk.2, hk.1.2⟩))) (fun _ h_ => h_))); (case aB => exact (by repeat (first | (with_reducible first | exact HB.out | apply below_alloc | apply pw_below_drewN | apply below_drew1 | refine below_set ?_ GE405.out) | exact HB.out))); (case aF => exact (fun k_ hk => Kd.freshB (g := gb405) (o := .cells #[.int .i64 ((rd_T41 (rd_L9 l2 x8_1) x10_3).f0), .int .i64 ((rd_T41 (rd_L9 l2 x8_1) x10_3).f1), .bool ((rd_T41 (rd_L9 l2 x8_1) x10_3).f2), .string ((rd_T41 (rd_L9 l2 x8_1) x10_3).f3), .slice Ao28 t406.length co28] 41 (0, 0)) (by (with_reducible repeat (first | refine blk_drewN ?_ _ | refine blk_drew ?_ | refine blk_alloc ?_ _)); exact BK405.out) k_ hk)); (case aO => exact (by (with_reducible repeat (first | apply Kd.S_alloc | apply Kd.S_drewN | apply Kd.S_drew)); exact Kd.S_mono HO_7.out (fun k_ hk => ⟨hk.2, fun e_ => hk.1 e_⟩))); (case aS => exact (below_size (by repeat (first | (with_reducible first | exact HB.out | apply below_alloc | apply pw_below_drewN | apply below_drew1 | refine below_set ?_ GE405.out) | exact HB.out)))); (case aL => have := LMc24.out; omega); intro v410 w32 ho hb hg hat; rw [← Ny409.out] at ho; have n0_ := Aside0.mk (blk_grown (g := gb405) (o := .cells #[.int .i64 ((rd_T41 (rd_L9 l2 x8_1) x10_3).f0), .int .i64 ((rd_T41 (rd_L9 l2 x8_1) x10_3).f1), .bool ((rd_T41 (rd_L9 l2 x8_1) x10_3).f2), .string ((rd_T41 (rd_L9 l2 x8_1) x10_3).f3), .slice Ao28 t406.length co28] 41 (0, 0)) (by (with_reducible repeat (first | refine blk_drewN ?_ _ | refine blk_drew ?_ | refine blk_alloc ?_ _)); exact BK405.out) hg (Kd.S_away HO_7.out (fun _ hk => hk.2))); have n1_ := Aside0.mk (hb); have n2_ := Aside0.mk (ho); clear BK405; clear HB; clear HO_7; clear HO408; have BK405 := n0_; have HB := n1_; have HO411 := n2_; clear n0_ n1_ n2_; clear ho hb hg hat))
       go_roundg k3
       case measure => have := HK1.out; have := HJ7.out; have := HK3.out; omega
       case rel => exact ⟨(y409), (wrap64 (x10_3 + 1)), rsd, H', ⟨by have := HK1.out; have := HJ7.out; have := HK3.out; omega⟩, ⟨by (try simp only [hl7_7]); (with_reducible repeat (first | apply Kd.S_alloc | apply Kd.S_drewN | apply Kd.S_drew)); exact Kd.S_mono HO411.out (fun _ hk => trivial)⟩, ⟨by repeat (first | (with_reducible first | exact HB.out | apply below_alloc | apply pw_below_drewN | apply below_drew1 | refine below_set ?_ GE405.out) | exact HB.out)⟩⟩

/-! ### clavigerref20_Leaf: function 22 -/
def clavigerref20_Leaf.f (a0 : Int) (a1 : Int) (a2 : ByteArray) : Option ((List (S41))) := some (([(⟨a0, a1, false, a2, ([] : List Int)⟩ : S41)] : List (S41)))
set_option maxHeartbeats 8000000 in
set_option maxRecDepth 100000 in
theorem clavigerref20_Leaf.calls (a0 : Int) (a1 : Int) (a2 : ByteArray) (r : List (S41)) (w : World) (h : clavigerref20_Leaf.f a0 a1 a2 = some r) :
 Calls Tryd.prog 22 #[.int .i64 a0, .int .i64 a1, .string a2] w fun e w' => ∃ v0_ : Value, e = .returned (v0_) ∧ Kd.S k41 41 w' w.heap.size (fun _ => True) v0_ r ∧ Below w.heap.size w w' := by
 have hu41 := Tryd.underlying41
 have HB := Aside0.mk (Below.refl w.heap.size w)
 have H : (some (([(⟨a0, a1, false, a2, ([] : List Int)⟩ : S41)] : List (S41)))) = some r := h
 clear h
 obtain ⟨y412, hy412⟩ : ∃ y_ : List (S41), y_ = (([(⟨a0, a1, false, a2, ([] : List Int)⟩ : S41)] : List (S41))) := ⟨_, rfl⟩
 replace H : (some y412) = some r := by first | (rw [hy412]; with_reducible exact H) | (have H2_ := (Option.bind_some _ _).symm.trans H; rw [hy412]; with_reducible exact H2_) | (have H2_ := (Option.bind_some _ _).symm.trans H; with_reducible exact H2_) | with_reducible exact H | (rw [hy412]; exact H) | exact H
 have Ny412 := Aside0.mk hy412
 clear hy412
 obtain rfl := Option.some.inj H
 go_enter Tryd.func22, Tryd.ntmps22
 go_wp2_with (first | ((with_reducible refine gate_dst (N := 11) rfl ?_); refine Kd.S_lit k41 _ 41 ?hg (N := 11) ?hd (xs := ([(⟨a0, a1, false, a2, ([] : List Int)⟩ : S41)] : List (S41))) (inner := [.int .i64 a0, .int .i64 a1, .bool false, .string a2, .slice none 0 0]) (ok := fun _ => True) (okp := fun _ => True) ?hr ?hp (fun _ hk => hk) trivial (Below.refl _ _) (Nat.le_refl _) (by simp) ?_; (case hd => rfl); (case hg => rfl); (case hr => first | (go_simp; done) | (go_simp; rfl)); (case hp => exact (Reps.c5 (show Kd.M k41 _ _ _ (⟨a0, a1, false, a2, ([] : List Int)⟩ : S41) [.int .i64 a0, .int .i64 a1, .bool false, .string a2, .slice none 0 0] from (k41_mkM _ _ _ (⟨a0, a1, false, a2, ([] : List Int)⟩ : S41) (Kd.R_nil _ _ _ _ _))) (Reps.none _ _))); intro v413 w4 ho5 hb hg_ hnew_; clear hg_ hnew_; (first | rw [← Ny412.out] at ho5 | (simp only [Int.reduceToNat] at ho5; rw [← Ny412.out] at ho5)); have n0_ := Aside0.mk (Kd.S_lower ho5 (below_size blw)); have n1_ := Aside0.mk (below_step blw hb); clear HB; have HO414 := n0_; have HB := n1_; clear n0_ n1_; clear hb ho5))
 go_ret
 exact ⟨_, rse, by (with_reducible repeat (first | apply Kd.S_alloc | apply Kd.S_drewN | apply Kd.S_drew)); exact HO414.out, blw⟩

end Go.Proofs.YtcbcojbhbhaimaaDoor.PTreeMakes
