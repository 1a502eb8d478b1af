-- laid by a program out of the translation and of templates; not trusted: Lean checks it
import Derived.Test.YtaapjmljdlneoaaPTableTellsx0
import Derived.Test.YtaapjmljdlneoaaPTableTellsx3
namespace Go.Proofs.Ytaapjmljdlneoaa.PTableTells
open Go.RowKit Go.Proofs.YtaapjmljdlneoaaW.PrintWords Go.Proofs.YtaapjmljdlneoaaW.PrintLast Go.Proofs.YtaapjmljdlneoaaW.PrintMore
attribute [local go_sem] str_leq str_gtr str_geq max2_int min2_int max_two min_two max_three min_three max_four min_four   -- for this text's walks alone
set_option linter.unusedVariables false
set_option linter.unusedSimpArgs false

/-! ### clavigerref30_Usages: function 21 -/
def clavigerref30_Usages.l0 : Nat → ByteArray → List ByteArray → List ByteArray → Int → Option (List ByteArray)
  | 0, _, _, _, _ => none
  | k + 1, x0, x3, x4, x5 => if x5 < (x3.length : Int) then (if 0 ≤ x5 then ((clavigerref30_Usage.f k (rdOf ByteArray.empty x3 x5) x0).bind fun t153 => (if t153 = true then (if x4.length < 8796093022208 then (clavigerref30_Usages.l0 k x0 x3 (x4 ++ [rdOf ByteArray.empty x3 x5]) (wrap64 (x5 + 1))) else (none)) else (clavigerref30_Usages.l0 k x0 x3 x4 (wrap64 (x5 + 1))))) else (none)) else (some x4)
def clavigerref30_Usages.f (k : Nat) (a0 : ByteArray) : Option (List ByteArray) := clavigerref30_Usages.l0 k a0 (([(⟨#[66, 48]⟩ : ByteArray), (⟨#[68, 48]⟩ : ByteArray), (⟨#[68, 49]⟩ : ByteArray), (⟨#[75, 48]⟩ : ByteArray), (⟨#[75, 49]⟩ : ByteArray), (⟨#[77, 51]⟩ : ByteArray), (⟨#[77, 54]⟩ : ByteArray), (⟨#[77, 55]⟩ : ByteArray), (⟨#[80, 48]⟩ : ByteArray), (⟨#[83, 48]⟩ : ByteArray)] : List ByteArray)) ([] : List ByteArray) 0
theorem clavigerref30_Usages.mono_l : ∀ k, (∀ y0 y1 y2 y3, LeO (clavigerref30_Usages.l0 k y0 y1 y2 y3) (clavigerref30_Usages.l0 (k + 1) y0 y1 y2 y3))
  | 0 => fun _ _ _ _ r h => by simp [clavigerref30_Usages.l0] at h
  | k + 1 => by
    have ih0 := clavigerref30_Usages.mono_l k
    · intro y0 y1 y2 y3
      unfold clavigerref30_Usages.l0
      repeat' first
      | (with_reducible exact ih0 _ _ _ _)
      | (with_reducible exact clavigerref30_Usage.mono _ _ _)
      | (with_reducible exact LeO.refl _)
      | (with_reducible exact LeO.none _)
      | (with_reducible refine LeO.ite ?_ ?_)
      | (with_reducible refine LeO.bind ?_ (fun _ => ?_))
      | exact ih0 _ _ _ _
      | exact clavigerref30_Usage.mono _ _ _
      | exact LeO.none _
      | refine LeO.ite ?_ ?_
      | refine LeO.bind ?_ (fun _ => ?_)
theorem clavigerref30_Usages.mono : ∀ a0 k, LeO (clavigerref30_Usages.f k a0) (clavigerref30_Usages.f (k + 1) a0) := by
  intro a0 k
  have ih0 := clavigerref30_Usages.mono_l k
  unfold clavigerref30_Usages.f
  repeat' first
      | (with_reducible exact ih0 _ _ _ _)
      | (with_reducible exact clavigerref30_Usage.mono _ _ _)
      | (with_reducible exact LeO.refl _)
      | (with_reducible exact LeO.none _)
      | (with_reducible refine LeO.ite ?_ ?_)
      | (with_reducible refine LeO.bind ?_ (fun _ => ?_))
      | exact ih0 _ _ _ _
      | exact clavigerref30_Usage.mono _ _ _
      | exact LeO.none _
      | refine LeO.ite ?_ ?_
      | refine LeO.bind ?_ (fun _ => ?_)
set_option maxHeartbeats 8000000 in
set_option maxRecDepth 100000 in
theorem clavigerref30_Usages.calls (k : Nat) (a0 : ByteArray) (r : List ByteArray) (w : World) (h : clavigerref30_Usages.f k a0 = some r) :
    Calls Try.prog 21 #[.string a0] w fun e w' => ∃ v0_ : Value, e = .returned (v0_) ∧ Kd.R Kd.string 9 w' w.heap.size (fun _ => True) v0_ r ∧ Below w.heap.size w w' := by
  have HB := Aside0.mk (Below.refl w.heap.size w)
  have H : (clavigerref30_Usages.l0 k a0 (([(⟨#[66, 48]⟩ : ByteArray), (⟨#[68, 48]⟩ : ByteArray), (⟨#[68, 49]⟩ : ByteArray), (⟨#[75, 48]⟩ : ByteArray), (⟨#[75, 49]⟩ : ByteArray), (⟨#[77, 51]⟩ : ByteArray), (⟨#[77, 54]⟩ : ByteArray), (⟨#[77, 55]⟩ : ByteArray), (⟨#[80, 48]⟩ : ByteArray), (⟨#[83, 48]⟩ : ByteArray)] : List ByteArray)) ([] : List ByteArray) 0) = some r := h
  clear h
  obtain ⟨y149, hy149⟩ : ∃ y_ : List ByteArray, y_ = (([(⟨#[66, 48]⟩ : ByteArray), (⟨#[68, 48]⟩ : ByteArray), (⟨#[68, 49]⟩ : ByteArray), (⟨#[75, 48]⟩ : ByteArray), (⟨#[75, 49]⟩ : ByteArray), (⟨#[77, 51]⟩ : ByteArray), (⟨#[77, 54]⟩ : ByteArray), (⟨#[77, 55]⟩ : ByteArray), (⟨#[80, 48]⟩ : ByteArray), (⟨#[83, 48]⟩ : ByteArray)] : List ByteArray)) := ⟨_, rfl⟩
  replace H : (clavigerref30_Usages.l0 k a0 y149 ([] : List ByteArray) 0) = some r := by first | (rw [hy149]; with_reducible exact H) | (have H2_ := (Option.bind_some _ _).symm.trans H; rw [hy149]; with_reducible exact H2_) | (have H2_ := (Option.bind_some _ _).symm.trans H; with_reducible exact H2_) | with_reducible exact H | (rw [hy149]; exact H) | exact H
  have Ny149 := Aside0.mk hy149
  clear hy149
  have H' := Aside0.mk H
  clear H
  go_enter Try.func21, Try.ntmps21
  go_wp2_with (first | ((with_reducible refine gate_dst (N := 6) rfl ?_); refine Kd.R_lit Kd.string _ 9 ?hg (N := 6) ?hd (xs := ([(⟨#[66, 48]⟩ : ByteArray), (⟨#[68, 48]⟩ : ByteArray), (⟨#[68, 49]⟩ : ByteArray), (⟨#[75, 48]⟩ : ByteArray), (⟨#[75, 49]⟩ : ByteArray), (⟨#[77, 51]⟩ : ByteArray), (⟨#[77, 54]⟩ : ByteArray), (⟨#[77, 55]⟩ : ByteArray), (⟨#[80, 48]⟩ : ByteArray), (⟨#[83, 48]⟩ : ByteArray)] : List ByteArray)) (inner := [.string (⟨#[66, 48]⟩ : ByteArray), .string (⟨#[68, 48]⟩ : ByteArray), .string (⟨#[68, 49]⟩ : ByteArray), .string (⟨#[75, 48]⟩ : ByteArray), .string (⟨#[75, 49]⟩ : ByteArray), .string (⟨#[77, 51]⟩ : ByteArray), .string (⟨#[77, 54]⟩ : ByteArray), .string (⟨#[77, 55]⟩ : ByteArray), .string (⟨#[80, 48]⟩ : ByteArray), .string (⟨#[83, 48]⟩ : ByteArray)]) (ok := fun _ => True) (okp := fun _ => True) ?hr ?hp (fun _ hk => hk) trivial (Below.refl _ _) (Nat.le_refl _) (by simp) ?_; (case hd => rfl); (case hg => rfl); (case hr => first | (go_simp; done) | (go_simp; rfl)); (case hp => exact (Reps.one (show Kd.M Kd.string _ _ _ (⟨#[66, 48]⟩ : ByteArray) [.string (⟨#[66, 48]⟩ : ByteArray)] from rfl) (Reps.one (show Kd.M Kd.string _ _ _ (⟨#[68, 48]⟩ : ByteArray) [.string (⟨#[68, 48]⟩ : ByteArray)] from rfl) (Reps.one (show Kd.M Kd.string _ _ _ (⟨#[68, 49]⟩ : ByteArray) [.string (⟨#[68, 49]⟩ : ByteArray)] from rfl) (Reps.one (show Kd.M Kd.string _ _ _ (⟨#[75, 48]⟩ : ByteArray) [.string (⟨#[75, 48]⟩ : ByteArray)] from rfl) (Reps.one (show Kd.M Kd.string _ _ _ (⟨#[75, 49]⟩ : ByteArray) [.string (⟨#[75, 49]⟩ : ByteArray)] from rfl) (Reps.one (show Kd.M Kd.string _ _ _ (⟨#[77, 51]⟩ : ByteArray) [.string (⟨#[77, 51]⟩ : ByteArray)] from rfl) (Reps.one (show Kd.M Kd.string _ _ _ (⟨#[77, 54]⟩ : ByteArray) [.string (⟨#[77, 54]⟩ : ByteArray)] from rfl) (Reps.one (show Kd.M Kd.string _ _ _ (⟨#[77, 55]⟩ : ByteArray) [.string (⟨#[77, 55]⟩ : ByteArray)] from rfl) (Reps.one (show Kd.M Kd.string _ _ _ (⟨#[80, 48]⟩ : ByteArray) [.string (⟨#[80, 48]⟩ : ByteArray)] from rfl) (Reps.one (show Kd.M Kd.string _ _ _ (⟨#[83, 48]⟩ : ByteArray) [.string (⟨#[83, 48]⟩ : ByteArray)] from rfl) (Reps.none _ _)))))))))))); intro v150 w2 ho3 hb hg_ hnew_; clear hg_ hnew_; (first | rw [← Ny149.out] at ho3 | (simp only [Int.reduceToNat] at ho3; rw [← Ny149.out] at ho3)); have n0_ := Aside0.mk (Kd.R_lower ho3 (below_size (by repeat (first | (with_reducible first | exact HB.out | apply below_alloc | apply pw_below_drewN | apply below_drew1) | exact HB.out)))); have n1_ := Aside0.mk (below_step (by repeat (first | (with_reducible first | exact HB.out | apply below_alloc | apply pw_below_drewN | apply below_drew1) | exact HB.out)) hb); clear HB; have HO151 := n0_; have HB := n1_; clear n0_ n1_; clear hb ho3))
  go_loopg [4, 5] k (fun kq v4 v5 w' => ∃ (x4_1 : List ByteArray) (x5_1 : Int), v5 = .int .i64 x5_1 ∧ Aside0 (clavigerref30_Usages.l0 kq a0 y149 x4_1 x5_1 = some r) ∧ Aside0 (kq ≤ k) ∧ Aside0 (Kd.R Kd.string 9 w' w.heap.size (fun k_ => some k_ ≠ (v4 : Value).ownBlock) v150 y149) ∧ Aside0 (Kd.R Kd.string 9 w' w.heap.size (fun k_ => some k_ ≠ (v150 : Value).ownBlock) v4 x4_1) ∧ Aside0 (Below w.heap.size w w'))
  case atStart => exact ⟨(([] : List ByteArray)), (0), (by first | rfl | (simp; done) | (simp [*]; done)), H', ⟨Nat.le_refl _⟩, ⟨by (with_reducible repeat (first | apply Kd.R_alloc | apply Kd.R_drewN | apply Kd.R_drew)); exact Kd.R_mono HO151.out (fun _ hk => (by simp [Value.ownBlock]))⟩, ⟨by first | exact Kd.R_nil _ _ _ _ _ | exact Kd.N_nil _ _ _ _ _ | exact Kd.V_nil _ _ _ _ _ | exact Kd.Q_nil _ _ _ _ _ | exact Kd.S_nil _ _ _ _ _⟩, ⟨by repeat (first | (with_reducible first | exact HB.out | apply below_alloc | apply pw_below_drewN | apply below_drew1) | exact HB.out)⟩⟩
  case round =>
    clear H'
    try clear c2
    try clear p2
    obtain ⟨x4_1, x5_1, rfl, HA, HK1, HO_3, HO_4, HB⟩ := hrel
    cases gk with
    | zero => exact absurd HA.out (by simp [clavigerref30_Usages.l0])
    | succ k1 =>
      have H := HA.out
      clear HA
      simp only [clavigerref30_Usages.l0] at H
      by_cases c4 : x5_1 < (y149.length : Int)
      · rw [if_pos c4] at H
        have c4b0 : decide (x5_1 < (y149.length : Int)) = true := decide_eq_true c4
        clear c4
        by_cases c5 : 0 ≤ x5_1
        · rw [if_pos c5] at H
          have c5b0 : decide (0 ≤ x5_1) = true := decide_eq_true c5
          clear c5
          replace H := Option.bind_eq_some_iff.mp H
          obtain ⟨t153, A60, H⟩ := H
          replace H : (if t153 = true then (if x4_1.length < 8796093022208 then (clavigerref30_Usages.l0 k1 a0 y149 (x4_1 ++ [rdOf ByteArray.empty y149 x5_1]) (wrap64 (x5_1 + 1))) else (none)) else (clavigerref30_Usages.l0 k1 a0 y149 x4_1 (wrap64 (x5_1 + 1)))) = some r := H
          have A6 := Aside0.mk A60
          clear A60
          by_cases c7 : t153 = true
          · subst c7
            have H1 : (if x4_1.length < 8796093022208 then (clavigerref30_Usages.l0 k1 a0 y149 (x4_1 ++ [rdOf ByteArray.empty y149 x5_1]) (wrap64 (x5_1 + 1))) else (none)) = some r := by rw [if_pos rfl] at H; exact H
            clear H
            have H := H1
            clear H1
            by_cases c8 : x4_1.length < 8796093022208
            · rw [if_pos c8] at H
              have LMc8 := Aside0.mk c8
              clear c8
              obtain ⟨y155, hy155⟩ : ∃ y_ : List ByteArray, y_ = (x4_1 ++ [rdOf ByteArray.empty y149 x5_1]) := ⟨_, rfl⟩
              replace H : (clavigerref30_Usages.l0 k1 a0 y149 y155 (wrap64 (x5_1 + 1))) = some r := by first | (rw [hy155]; with_reducible exact H) | (have H2_ := (Option.bind_some _ _).symm.trans H; rw [hy155]; with_reducible exact H2_) | (have H2_ := (Option.bind_some _ _).symm.trans H; with_reducible exact H2_) | with_reducible exact H | (rw [hy155]; exact H) | exact H
              have Ny155 := Aside0.mk hy155
              clear hy155
              have H' := Aside0.mk H
              clear H
              obtain ⟨Ao9, co9, eo9⟩ := Kd.R_slice HO_3.out
              subst eo9
              have p152 : 0 ≤ (x5_1 : Int) := of_decide_eq_true (by first | (with_reducible assumption) | assumption)
              have q152 : x5_1 < (y149.length : Int) := of_decide_eq_true (by first | (with_reducible assumption) | assumption)
              obtain ⟨ad152, e152, hx152_0⟩ := Kd.at_string (Kd.R_reads' HO_3.out).2.2 x5_1 p152 q152
              cases e152
              replace p152 := eq_true p152
              replace q152 := eq_true q152
              go_wp2_with (first | ((with_reducible refine gate_callee (f := 13) rfl ?_); refine goesL_ (some 18) rfl rfl Try.func13 (by kernel_rfl) rfl #[.string (rdOf ByteArray.empty y149 x5_1), .string a0] rfl (by (try simp only [List.map_toArray, List.map_cons, List.map_nil]); first | done | rfl | (simp only [List.length_drop, List.length_take]; rfl)) ?_; (with_reducible refine (clavigerref30_Usage.calls k1 (rdOf ByteArray.empty y149 x5_1) a0 true _ A6.out).mono ?_); rintro e w' ⟨rfl, ⟨nd, rfl⟩⟩; refine ⟨_, rfl, ?_⟩; have p154 : 0 ≤ (x5_1 : Int) := of_decide_eq_true (by first | (with_reducible assumption) | assumption); have q154 : x5_1 < (y149.length : Int) := of_decide_eq_true (by first | (with_reducible assumption) | assumption); obtain ⟨ad154, e154, hx154_0⟩ := Kd.at_string (Kd.R_reads' HO_3.out).2.2 x5_1 p154 q154; obtain rfl : ad152 = ad154 := (by injection e154); replace p154 := eq_true p154; replace q154 := eq_true q154) | ((with_reducible refine gate_builtin (b := .append) (xs := #[.tmp 19, .tmp 24]) rfl ?_); at_builtin; refine Kd.R_append Kd.string (w0 := w) w.heap.size rfl (.tmp 19) (.tmp 24) 25 9 (.string ⟨#[]⟩) 16 rfl Try.underlying25 info9 rfl (by decide) (by omega) u4 x4_1 (rdOf ByteArray.empty y149 x5_1) [.string (rdOf ByteArray.empty y149 x5_1)] (fun k_ => some k_ ≠ (.slice (some ad152) y149.length co9 : Value).ownBlock) (fun _ => False) rfl rfl ?aP (fun _ hk => hk.elim) ?aF ?aO ?aB ?aS ?aL ?_; (case aP => exact rfl); (case aB => exact (by repeat (first | (with_reducible first | exact HB.out | apply below_alloc | apply pw_below_drewN | apply below_drew1) | exact HB.out))); (case aF => exact (fun k_ hk => Kd.fresh' (Kd.R_lt (by (with_reducible repeat (first | apply Kd.R_alloc | apply Kd.R_drewN | apply Kd.R_drew)); exact HO_3.out)) k_ hk)); (case aO => exact (by (with_reducible repeat (first | apply Kd.R_alloc | apply Kd.R_drewN | apply Kd.R_drew)); exact HO_4.out)); (case aS => exact (below_size (by repeat (first | (with_reducible first | exact HB.out | apply below_alloc | apply pw_below_drewN | apply below_drew1) | exact HB.out)))); (case aL => have := LMc8.out; omega); intro v156 w10 ho hb hg hat; rw [← Ny155.out] at ho; have n0_ := Aside0.mk (Kd.R_after (ok := (fun _ => True)) (by (with_reducible repeat (first | apply Kd.R_alloc | apply Kd.R_drewN | apply Kd.R_drew)); exact Kd.R_mono HO_3.out (fun _ hk => ⟨trivial, hk⟩)) hg hat); have n1_ := Aside0.mk (hb); have n2_ := Aside0.mk (ho); clear HO_3; clear HB; clear HO_4; have HO_3 := n0_; have HB := n1_; have HO157 := n2_; clear n0_ n1_ n2_; clear ho hb hg hat))
              go_roundg k1
              case measure => have := HK1.out; omega
              case rel => exact ⟨(y155), (wrap64 (x5_1 + 1)), (by first | rfl | (simp; done) | (simp [*]; done)), H', ⟨by have := HK1.out; omega⟩, ⟨by (with_reducible repeat (first | apply Kd.R_alloc | apply Kd.R_drewN | apply Kd.R_drew)); exact Kd.R_mono HO_3.out (fun _ hk => hk.2)⟩, ⟨by (with_reducible repeat (first | apply Kd.R_alloc | apply Kd.R_drewN | apply Kd.R_drew)); exact HO157.out⟩, ⟨by repeat (first | (with_reducible first | exact HB.out | apply below_alloc | apply pw_below_drewN | apply below_drew1) | exact HB.out)⟩⟩
            · rw [if_neg c8] at H
              exact absurd H (by simp)
          · replace c7 := Bool.eq_false_iff.mpr c7
            subst c7
            have H1 : (clavigerref30_Usages.l0 k1 a0 y149 x4_1 (wrap64 (x5_1 + 1))) = some r := by rw [if_neg (show ¬ (false = true) by decide)] at H; exact H
            clear H
            have H := H1
            clear H1
            have H' := Aside0.mk H
            clear H
            obtain ⟨Ao11, co11, eo11⟩ := Kd.R_slice HO_3.out
            subst eo11
            have p152 : 0 ≤ (x5_1 : Int) := of_decide_eq_true (by first | (with_reducible assumption) | assumption)
            have q152 : x5_1 < (y149.length : Int) := of_decide_eq_true (by first | (with_reducible assumption) | assumption)
            obtain ⟨ad152, e152, hx152_0⟩ := Kd.at_string (Kd.R_reads' HO_3.out).2.2 x5_1 p152 q152
            cases e152
            replace p152 := eq_true p152
            replace q152 := eq_true q152
            go_wp2_with (first | ((with_reducible refine gate_callee (f := 13) rfl ?_); refine goesL_ (some 18) rfl rfl Try.func13 (by kernel_rfl) rfl #[.string (rdOf ByteArray.empty y149 x5_1), .string a0] rfl (by (try simp only [List.map_toArray, List.map_cons, List.map_nil]); first | done | rfl | (simp only [List.length_drop, List.length_take]; rfl)) ?_; (with_reducible refine (clavigerref30_Usage.calls k1 (rdOf ByteArray.empty y149 x5_1) a0 false _ A6.out).mono ?_); rintro e w' ⟨rfl, ⟨nd, rfl⟩⟩; refine ⟨_, rfl, ?_⟩))
            go_roundg k1
            case measure => have := HK1.out; omega
            case rel => exact ⟨(x4_1), (wrap64 (x5_1 + 1)), (by first | rfl | (simp; done) | (simp [*]; done)), H', ⟨by have := HK1.out; omega⟩, ⟨by (with_reducible repeat (first | apply Kd.R_alloc | apply Kd.R_drewN | apply Kd.R_drew)); exact HO_3.out⟩, ⟨by (with_reducible repeat (first | apply Kd.R_alloc | apply Kd.R_drewN | apply Kd.R_drew)); exact HO_4.out⟩, ⟨by repeat (first | (with_reducible first | exact HB.out | apply below_alloc | apply pw_below_drewN | apply below_drew1) | exact HB.out)⟩⟩
        · rw [if_neg c5] at H
          exact absurd H (by simp)
      · rw [if_neg c4] at H
        have c4b0 : decide (x5_1 < (y149.length : Int)) = false := decide_eq_false c4
        clear c4
        obtain rfl := Option.some.inj H
        obtain ⟨Ao12, co12, eo12⟩ := Kd.R_slice HO_3.out
        subst eo12
        go_wp2
        go_ret
        exact ⟨_, by first | rfl | (simp [errW_none, errW_some] <;> rfl) | (simp [*, errW_none, errW_some] <;> rfl), by (with_reducible repeat (first | apply Kd.R_alloc | apply Kd.R_drewN | apply Kd.R_drew)); exact Kd.R_mono HO_4.out (fun _ hk => trivial), by repeat (first | (with_reducible first | exact HB.out | apply below_alloc | apply pw_below_drewN | apply below_drew1) | exact HB.out)⟩

end Go.Proofs.Ytaapjmljdlneoaa.PTableTells
