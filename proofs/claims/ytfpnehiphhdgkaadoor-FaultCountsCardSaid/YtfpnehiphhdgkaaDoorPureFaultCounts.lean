/- of any errors the first, how many there are, and what goes with something that was got, is as the document says. -/
import Derived.Test.YtfpnehiphhdgkaaDoorPFaultCountsx2
namespace Go.Proofs.YtfpnehiphhdgkaaDoor.Pure
open Go.RowKit Go.Proofs.YtfpnehiphhdgkaaDoor.PFaultCounts Go.Proofs.YtfpnehiphhdgkaaDoorW.PrintWords Go.Proofs.YtfpnehiphhdgkaaDoorW.PrintLast
set_option linter.unusedVariables false
set_option linter.unusedSimpArgs false
/-- The number of bytes. -/
def getN (l : List Int) : Int := l.foldl (fun n b => n * 256 + b) 0
theorem getN_snoc (l : List Int) (x : Int) : getN (l ++ [x]) = getN l * 256 + x := by simp [getN]
theorem getN_take {l : List Int} (i : Nat) (h : i < l.length) : getN (l.take (i + 1)) = getN (l.take i) * 256 + l[i] := by
  rw [List.take_succ_eq_append_getElem h, getN_snoc]
theorem getN_bd (n : Nat) : ∀ l : List Int, OkB l → l.length ≤ n → 0 ≤ getN l ∧ getN l < 256 ^ n := by
  induction n with
  | zero => intro l h hn; obtain rfl := List.eq_nil_of_length_eq_zero (Nat.le_zero.1 hn); simp [getN]
  | succ n ih =>
    intro l h hn
    have hp : (0 : Int) < 256 ^ n := Int.pow_pos (by decide)
    by_cases e : l = []
    · subst e
      rw [Int.pow_succ]
      simp only [getN, List.foldl_nil]
      omega
    · obtain ⟨m, x, rfl⟩ : ∃ m x, l = m ++ [x] := ⟨l.dropLast, l.getLast e, (List.dropLast_concat_getLast e).symm⟩
      have h1 := ih m (fun y hy => h y (List.mem_append_left _ hy)) (by simp at hn; omega)
      have h2 := h x (by simp)
      rw [getN_snoc, Int.pow_succ]
      omega
theorem getN_lt7 (l : List Int) (h : OkB l) (hn : l.length ≤ 7) : 0 ≤ getN l ∧ getN l < 72057594037927936 := getN_bd 7 l h hn
theorem awake40 : clavigerlaw40_awake.f 40 = some true := by kernel_rfl
theorem awake_ev : Ev (fun k => clavigerlaw40_awake.f k) true := Ev.of clavigerlaw40_awake.mono (k := 40) awake40
theorem known_out {a : Int} (h : ¬ (0 ≤ a ∧ a < 18)) : fault_known.f a = some false := by
  unfold fault_known.f
  by_cases h0 : a ≥ 0
  · rw [if_pos h0, decide_eq_false (by omega)]
  · rw [if_neg h0]
theorem name_out {a : Int} (h : ¬ (0 ≤ a ∧ a < 18)) : fault_Name.f a = some ⟨#[]⟩ := by
  unfold fault_Name.f
  rw [known_out h]
  rfl
theorem all_at {p : Int → Bool} (h : ((List.range 18).all fun i => p (i : Int)) = true) {a : Int} (ha : 0 ≤ a ∧ a < 18) : p a = true := by
  have h1 := List.all_eq_true.1 h a.toNat (List.mem_range.2 (by omega))
  simp only [Int.toNat_of_nonneg ha.1] at h1
  exact h1
theorem class_out {a : Int} (h : ¬ (0 ≤ a ∧ a < 18)) : fault_Class.f a = some (-1) := by
  unfold fault_Class.f
  rw [known_out h]
  rfl
theorem told_out {a : Int} (b : Bool) (h : ¬ (0 ≤ a ∧ a < 18)) : fault_Told.f a b = some false := by
  unfold fault_Told.f
  rw [known_out h]
  rfl
def W18 : List ByteArray := [⟨#[111, 107]⟩, ⟨#[97, 114, 103, 117, 109, 101, 110, 116]⟩, ⟨#[107, 101, 121]⟩, ⟨#[101, 109, 112, 116, 121]⟩, ⟨#[115, 105, 122, 101]⟩, ⟨#[102, 111, 114, 109]⟩, ⟨#[100, 101, 112, 116, 104]⟩, ⟨#[115, 117, 109]⟩, ⟨#[107, 105, 110, 100]⟩, ⟨#[108, 101, 110, 103, 116, 104]⟩, ⟨#[118, 97, 108, 117, 101]⟩, ⟨#[97, 116, 116, 114, 105, 98, 117, 116, 101, 115]⟩, ⟨#[104, 101, 97, 100, 101, 114]⟩, ⟨#[112, 97, 100, 115]⟩, ⟨#[117, 115, 97, 103, 101]⟩, ⟨#[110, 111, 110, 101]⟩, ⟨#[116, 119, 105, 99, 101]⟩, ⟨#[102, 117, 108, 108]⟩]
theorem names_is : clavigerref40_names.f = some W18 := by kernel_rfl
theorem ref_name_all : ((List.range 18).all fun i => match clavigerref40_Name.f (i : Int) with | some t => decide (t.toList ≠ []) | none => false) = true := by kernel_rfl
theorem ref_name_is (x : Int) : ∃ t, clavigerref40_Name.f x = some t ∧ (t.toList = [] ↔ ¬ (0 ≤ x ∧ x < 18)) := by
  by_cases h : 0 ≤ x ∧ x < 18
  · have h1 := List.all_eq_true.1 ref_name_all x.toNat (List.mem_range.2 (by omega))
    rw [Int.toNat_of_nonneg h.1] at h1
    revert h1
    cases hk : clavigerref40_Name.f x with
    | none => intro h1; cases h1
    | some t =>
      intro h1
      exact ⟨t, rfl, fun e => absurd e (of_decide_eq_true h1), fun e => absurd h e⟩
  · refine ⟨⟨#[]⟩, ?_, fun _ => h, fun _ => by kernel_rfl⟩
    unfold clavigerref40_Name.f
    rw [names_is, Option.bind_some]
    by_cases h0 : x < 0
    · rw [if_pos h0]
    · rw [if_neg h0, if_pos (show x ≥ ((W18.length : Nat) : Int) from by have : W18.length = 18 := rfl; omega)]
theorem first_loop (l : List Int) (hs : l.length ≤ 1000) (d : Nat) : ∀ i : Nat, i ≤ l.length → l.length - i = d → ∃ r, Ev (fun k => fault_First.l0 k l (l.length : Int) (i : Int)) r ∧ Ev (fun k => clavigerref40_First.l0 k l (i : Int)) r := by
  induction d with
  | zero =>
    intro i hi hd
    refine ⟨0, ?_, ?_⟩
    · refine Ev.step (fun k => by rw [fault_First.l0]) ?_
      exact Ev.ifn (by omega) (Ev.now _)
    · refine Ev.step (fun k => by rw [clavigerref40_First.l0]) ?_
      exact Ev.ifn (by omega) (Ev.now _)
  | succ d ih =>
    intro i hi hd
    have hlt : i < l.length := by omega
    obtain ⟨r, r1, r2⟩ := ih (i + 1) (by omega) (by omega)
    by_cases h : l[i] = 0
    · refine ⟨r, ?_, ?_⟩
      · refine Ev.step (fun k => by rw [fault_First.l0]) ?_
        rw [rd_get i hlt, w64 (by omega) (by omega)]
        exact Ev.ifp (by omega) (Ev.ifp (by omega) (Ev.ifp (by omega) (Ev.ifp h r1)))
      · refine Ev.step (fun k => by rw [clavigerref40_First.l0]) ?_
        rw [rd_get i hlt, w64 (by omega) (by omega)]
        exact Ev.ifp (by omega) (Ev.ifp (by omega) (Ev.ifp h r2))
    · refine ⟨l[i], ?_, ?_⟩
      · refine Ev.step (fun k => by rw [fault_First.l0]) ?_
        rw [rd_get i hlt]
        exact Ev.ifp (by omega) (Ev.ifp (by omega) (Ev.ifp (by omega) (Ev.ifn h (Ev.now _))))
      · refine Ev.step (fun k => by rw [clavigerref40_First.l0]) ?_
        rw [rd_get i hlt]
        exact Ev.ifp (by omega) (Ev.ifp (by omega) (Ev.ifn h (Ev.now _)))
theorem fl_all : ((List.range 101).all fun n => fok (floatOfInt .f64 (n : Int)) 4607182418800017408 && decide (fadd (floatOfInt .f64 (n : Int)) 4607182418800017408 = floatOfInt .f64 ((n : Int) + 1)) && fok (floatOfInt .f64 (n : Int)) 0 && decide (fadd (floatOfInt .f64 (n : Int)) 0 = floatOfInt .f64 (n : Int)) && feq (floatOfInt .f64 (n : Int)) (floatOfInt .f64 (n : Int))) = true := by kernel_rfl
theorem fl_is (n : Nat) (h : n ≤ 100) : fok (floatOfInt .f64 (n : Int)) 4607182418800017408 = true ∧ fadd (floatOfInt .f64 (n : Int)) 4607182418800017408 = floatOfInt .f64 (((n + 1 : Nat) : Int)) ∧ fok (floatOfInt .f64 (n : Int)) 0 = true ∧ fadd (floatOfInt .f64 (n : Int)) 0 = floatOfInt .f64 (n : Int) ∧ feq (floatOfInt .f64 (n : Int)) (floatOfInt .f64 (n : Int)) = true := by
  have h1 := List.all_eq_true.1 fl_all n (List.mem_range.2 (by omega))
  simp only [Bool.and_eq_true, decide_eq_true_eq] at h1
  obtain ⟨⟨⟨⟨a, b⟩, c⟩, d⟩, e⟩ := h1
  exact ⟨a, by rw [b]; rfl, c, d, e⟩
theorem known_is (x : Int) : fault_known.f x = some (decide (0 ≤ x ∧ x < 18)) := by
  unfold fault_known.f
  by_cases h0 : x ≥ 0
  · rw [if_pos h0]
    exact congrArg some (decide_eq_decide.2 (by omega))
  · rw [if_neg h0, decide_eq_false (by omega)]
theorem count_loop (l : List Int) (hs : l.length ≤ 100) (d : Nat) : ∀ (i a b u v : Nat), i ≤ l.length → l.length - i = d → a ≤ i → b ≤ i → Aside0 (u = floatOfInt .f64 (a : Int)) → Aside0 (v = floatOfInt .f64 (b : Int)) → ∃ A B U V : Nat, A ≤ 100 ∧ B ≤ 100 ∧ Aside0 (U = floatOfInt .f64 (A : Int)) ∧ Aside0 (V = floatOfInt .f64 (B : Int)) ∧ Ev (fun k => fault_Count.l0 k (u, v) l (l.length : Int) (i : Int)) (U, V) ∧
    Ev (fun k => clavigerref40_Fine.l0 k l (a : Int) (i : Int)) (A : Int) ∧ Ev (fun k => clavigerref40_Others.l0 k l (b : Int) (i : Int)) (B : Int) := by
  induction d with
  | zero =>
    intro i a b u v hi hd ha hb hu hv
    refine ⟨a, b, u, v, by omega, by omega, hu, hv, ?_, ?_, ?_⟩
    · refine Ev.step (fun k => by rw [fault_Count.l0]) ?_
      exact Ev.ifn (by omega) (Ev.now _)
    · refine Ev.step (fun k => by rw [clavigerref40_Fine.l0]) ?_
      exact Ev.ifn (by omega) (Ev.now _)
    · refine Ev.step (fun k => by rw [clavigerref40_Others.l0]) ?_
      exact Ev.ifn (by omega) (Ev.now _)
  | succ d ih =>
    intro i a b u v hi hd ha hb hu hv
    have hlt : i < l.length := by omega
    have fa := Aside0.mk (fl_is a (by omega))
    have fb := Aside0.mk (fl_is b (by omega))
    rw [← hu.out] at fa
    rw [← hv.out] at fb
    have hi1 : wrap64 ((i : Int) + 1) = ((i + 1 : Nat) : Int) := w64 (by omega) (by omega)
    have ha1 : wrap64 ((a : Int) + 1) = ((a + 1 : Nat) : Int) := w64 (by omega) (by omega)
    have hb1 : wrap64 ((b : Int) + 1) = ((b + 1 : Nat) : Int) := w64 (by omega) (by omega)
    obtain ⟨nm, n1, n2⟩ := ref_name_is l[i]
    by_cases h : l[i] = 0
    · obtain ⟨A, B, U, V, hA, hB, hU, hV, e1, e2, e3⟩ := ih (i + 1) (a + 1) b (fadd u 4607182418800017408) (fadd v 0) (by omega) (by omega) (by omega) (by omega) ⟨fa.out.2.1⟩ ⟨fb.out.2.2.2.1.trans hv.out⟩
      refine ⟨A, B, U, V, hA, hB, hU, hV, ?_, ?_, ?_⟩
      · refine Ev.step (fun k => by rw [fault_Count.l0, rd_get i hlt, hi1]) ?_
        exact Ev.ifp (by omega) (Ev.ifp (by omega) (Ev.ifp (by omega) (Ev.ifp h (Ev.ifp fa.out.1 (Ev.ifp fb.out.2.2.1 e1)))))
      · refine Ev.step (fun k => by rw [clavigerref40_Fine.l0, rd_get i hlt, hi1, ha1]) ?_
        exact Ev.ifp (by omega) (Ev.ifp (by omega) (Ev.ifp h e2))
      · refine Ev.step (fun k => by rw [clavigerref40_Others.l0, rd_get i hlt, hi1]) ?_
        exact Ev.ifp (by omega) (Ev.ifp (by omega) (Ev.ifp h e3))
    · by_cases hk : 0 ≤ l[i] ∧ l[i] < 18
      · obtain ⟨A, B, U, V, hA, hB, hU, hV, e1, e2, e3⟩ := ih (i + 1) a (b + 1) (fadd u 0) (fadd v 4607182418800017408) (by omega) (by omega) (by omega) (by omega) ⟨fa.out.2.2.2.1.trans hu.out⟩ ⟨fb.out.2.1⟩
        refine ⟨A, B, U, V, hA, hB, hU, hV, ?_, ?_, ?_⟩
        · refine Ev.step (fun k => by rw [fault_Count.l0, rd_get i hlt, hi1]) ?_
          exact Ev.ifp (by omega) (Ev.ifp (by omega) (Ev.ifp (by omega) (Ev.ifn h (Ev.bindc (known_is _) (Ev.ifp (decide_eq_true hk) (Ev.ifp fa.out.2.2.1 (Ev.ifp fb.out.1 e1)))))))
        · refine Ev.step (fun k => by rw [clavigerref40_Fine.l0, rd_get i hlt, hi1]) ?_
          exact Ev.ifp (by omega) (Ev.ifp (by omega) (Ev.ifn h e2))
        · refine Ev.step (fun k => by rw [clavigerref40_Others.l0, rd_get i hlt, hi1, hb1]) ?_
          exact Ev.ifp (by omega) (Ev.ifp (by omega) (Ev.ifn h (Ev.bindc n1 (Ev.ifn (fun e => n2.1 e hk) e3))))
      · obtain ⟨A, B, U, V, hA, hB, hU, hV, e1, e2, e3⟩ := ih (i + 1) a b u v (by omega) (by omega) (by omega) (by omega) hu hv
        refine ⟨A, B, U, V, hA, hB, hU, hV, ?_, ?_, ?_⟩
        · refine Ev.step (fun k => by rw [fault_Count.l0, rd_get i hlt, hi1]) ?_
          exact Ev.ifp (by omega) (Ev.ifp (by omega) (Ev.ifp (by omega) (Ev.ifn h (Ev.bindc (known_is _) (Ev.ifn (by simp [hk]) e1)))))
        · refine Ev.step (fun k => by rw [clavigerref40_Fine.l0, rd_get i hlt, hi1]) ?_
          exact Ev.ifp (by omega) (Ev.ifp (by omega) (Ev.ifn h e2))
        · refine Ev.step (fun k => by rw [clavigerref40_Others.l0, rd_get i hlt, hi1]) ?_
          exact Ev.ifp (by omega) (Ev.ifp (by omega) (Ev.ifn h (Ev.bindc n1 (Ev.ifp (n2.2 hk) e3))))
theorem told_eq (x : Int) (b : Bool) : ∃ t, fault_Told.f x b = some t ∧ clavigerref40_Told.f x b = some t := by
  obtain ⟨nm, n1, n2⟩ := ref_name_is x
  unfold fault_Told.f clavigerref40_Told.f
  rw [known_is, Option.bind_some]
  by_cases h : x = 0
  · subst h
    refine ⟨b, ?_, rfl⟩
    rw [if_pos (by decide)]
    cases b <;> rfl
  · rw [if_neg h, n1, Option.bind_some]
    by_cases hk : 0 ≤ x ∧ x < 18
    · refine ⟨!b, ?_, by rw [if_neg (fun e => n2.1 e hk)]⟩
      rw [if_pos (decide_eq_true hk), show (x == 0) = false from beq_eq_false_iff_ne.2 h]
      cases b <;> rfl
    · refine ⟨false, ?_, by rw [if_pos (n2.2 hk)]⟩
      rw [if_neg (by simp [hk])]
theorem FaultCounts : clavigerlaw40_FaultCounts.Pure := by
  intro l a b _ _ _ _
  refine Ev.rounds (g := fun k => clavigerlaw40_FaultCounts.f k l a b) ?_
  refine Ev.congr (fun k => by rw [clavigerlaw40_FaultCounts.f]) ?_
  by_cases hb : (l.length : Int) > 100
  · exact Ev.ifp hb (Ev.bind awake_ev (Ev.now _))
  refine Ev.ifn hb ?_
  obtain ⟨r, r1, r2⟩ := first_loop l (by omega) _ 0 (by omega) rfl
  have hl100 : l.length ≤ 100 := by omega
  have z : 0 = floatOfInt .f64 ((0 : Nat) : Int) := by kernel_rfl
  obtain ⟨A, B, U, V, hA, hB, hU, hV, e1, e2, e3⟩ := count_loop l hl100 _ 0 0 0 0 0 (Nat.zero_le _) rfl (Nat.le_refl _) (Nat.le_refl _) ⟨z⟩ ⟨z⟩
  have f1 := (fl_is A hA).2.2.2.2
  have f2 := (fl_is B hB).2.2.2.2
  obtain ⟨X, hX⟩ : ∃ X, floatOfInt .f64 (A : Int) = X := ⟨_, rfl⟩
  obtain ⟨Y, hY⟩ : ∃ Y, floatOfInt .f64 (B : Int) = Y := ⟨_, rfl⟩
  have hU := hU.out
  have hV := hV.out
  rw [hX] at hU f1
  rw [hY] at hV f2
  subst hU hV
  clear z
  refine Ev.bind (a := r) (Ev.congr (fun k => by rw [fault_First.f]; rfl) r1) ?_
  refine Ev.bind (a := r) (Ev.congr (fun k => by rw [clavigerref40_First.f]; rfl) r2) ?_
  refine Ev.ifp rfl ?_
  refine Ev.bind (a := (U, V)) (Ev.congr (fun k => by rw [fault_Count.f]; rfl) e1) ?_
  refine Ev.bind (a := (A : Int)) (Ev.congr (fun k => by rw [clavigerref40_Fine.f]; rfl) e2) ?_
  refine Ev.bind (a := (B : Int)) (Ev.congr (fun k => by rw [clavigerref40_Others.f]; rfl) e3) ?_
  rw [hX, hY]
  refine Ev.ifp (by rw [f1, f2]; rfl) ?_
  obtain ⟨t, t1, t2⟩ := told_eq a b
  refine Ev.bindc t1 (Ev.bindc t2 (Ev.ifp (by simp) ?_))
  exact Ev.bind awake_ev (Ev.now _)
end Go.Proofs.YtfpnehiphhdgkaaDoor.Pure
