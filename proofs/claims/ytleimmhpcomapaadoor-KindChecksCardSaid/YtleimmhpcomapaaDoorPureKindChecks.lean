/- whether any bytes are a key of any kind is as the document says. -/
import Derived.Test.YtleimmhpcomapaaDoorPKindChecksx
namespace Go.Proofs.YtleimmhpcomapaaDoor.Pure
open Go.RowKit Go.Proofs.YtleimmhpcomapaaDoor.PKindChecks Go.Proofs.YtleimmhpcomapaaDoorW.PrintWords Go.Proofs.YtleimmhpcomapaaDoorW.PrintLast
set_option linter.unusedVariables false
set_option linter.unusedSimpArgs false
/-- The number of bytes. -/
def getN (l : List Int) : Int := l.foldl (fun n b => n * 256 + b) 0
theorem getN_snoc (l : List Int) (x : Int) : getN (l ++ [x]) = getN l * 256 + x := by simp [getN]
theorem getN_take {l : List Int} (i : Nat) (h : i < l.length) : getN (l.take (i + 1)) = getN (l.take i) * 256 + l[i] := by
  rw [List.take_succ_eq_append_getElem h, getN_snoc]
theorem getN_bd (n : Nat) : ∀ l : List Int, OkB l → l.length ≤ n → 0 ≤ getN l ∧ getN l < 256 ^ n := by
  induction n with
  | zero => intro l h hn; obtain rfl := List.eq_nil_of_length_eq_zero (Nat.le_zero.1 hn); simp [getN]
  | succ n ih =>
    intro l h hn
    have hp : (0 : Int) < 256 ^ n := Int.pow_pos (by decide)
    by_cases e : l = []
    · subst e
      rw [Int.pow_succ]
      simp only [getN, List.foldl_nil]
      omega
    · obtain ⟨m, x, rfl⟩ : ∃ m x, l = m ++ [x] := ⟨l.dropLast, l.getLast e, (List.dropLast_concat_getLast e).symm⟩
      have h1 := ih m (fun y hy => h y (List.mem_append_left _ hy)) (by simp at hn; omega)
      have h2 := h x (by simp)
      rw [getN_snoc, Int.pow_succ]
      omega
theorem getN_lt7 (l : List Int) (h : OkB l) (hn : l.length ≤ 7) : 0 ≤ getN l ∧ getN l < 72057594037927936 := getN_bd 7 l h hn
theorem compare_less : ∀ (a b : List UInt8), decide (Lib.compareBytes a b < 0) = Op.bytesLess a b
  | [], [] => rfl
  | [], _ :: _ => rfl
  | _ :: _, [] => rfl
  | a :: x, b :: y => by
    rw [Lib.compareBytes, Op.bytesLess]
    by_cases h1 : a < b
    · rw [if_pos h1]
      simp [h1]
    · rw [if_neg h1]
      by_cases h2 : b < a
      · rw [if_pos h2]
        have h3 : (a == b) = false := beq_eq_false_iff_ne.2 (fun e => by subst e; exact h1 h2)
        simp [h1, h3]
      · rw [if_neg h2, compare_less x y]
        have h3 : a = b := UInt8.le_antisymm (UInt8.not_lt.1 h2) (UInt8.not_lt.1 h1)
        subst h3
        simp [h1]
theorem drop_all (p : UInt8 → Bool) : ∀ l : List UInt8, (∀ x ∈ l.dropWhile p, p x = true) → ∀ x ∈ l, p x = true
  | [], _, x, hx => by cases hx
  | a :: l, h, x, hx => by
    by_cases ha : p a = true
    · rw [List.dropWhile_cons, if_pos ha] at h
      rcases List.mem_cons.1 hx with rfl | hx
      · exact ha
      · exact drop_all p l h x hx
    · rw [List.dropWhile_cons, if_neg ha] at h
      exact absurd (h a (by simp)) ha
theorem trimB_nil (l : List UInt8) : Lib.trimB l 0 = [] ↔ ∀ b ∈ l, b = 0 := by
  unfold Lib.trimB Lib.trimLeftB Lib.trimRightB
  constructor
  · intro h b hb
    have h1 : ∀ x ∈ (l.reverse.dropWhile (· == 0)).reverse, (x == 0) = true := by
      have h2 := drop_all (· == 0) ((l.reverse.dropWhile (· == 0)).reverse) (by rw [h]; intro x hx; cases hx)
      exact h2
    have h3 := drop_all (· == 0) l.reverse (fun x hx => h1 x (List.mem_reverse.2 hx)) b (List.mem_reverse.2 hb)
    exact beq_iff_eq.1 h3
  · intro h
    have h1 : l.reverse.dropWhile (· == 0) = [] := by
      have : ∀ m : List UInt8, (∀ x ∈ m, x = 0) → m.dropWhile (· == 0) = [] := by
        intro m
        induction m with
        | nil => intro _; rfl
        | cons a m ih =>
          intro hm
          rw [List.dropWhile_cons, if_pos (beq_iff_eq.2 (hm a (by simp)))]
          exact ih (fun x hx => hm x (List.mem_cons_of_mem _ hx))
      exact this _ (fun x hx => h x (List.mem_reverse.1 hx))
    rw [h1]
    rfl
theorem bt_at22 (s : ByteArray) (i : Nat) (h : i < s.size) : bt s (i : Int) = ((s.data.toList.getD i 0).toNat : Int) := by
  have hl : i < s.data.toList.length := by rw [Array.length_toList]; exact h
  unfold bt
  rw [dif_pos (by simpa using h)]
  rw [List.getD_eq_getElem?_getD, List.getElem?_eq_getElem hl]
  rfl
/-- The orders, once for all. -/
theorem order_all : ((List.range 4).all fun i => decide (curve_Order.f 200 ((i : Int) + 1) = clavigerref22_Order.f 200 ((i : Int) + 1)) && (curve_Order.f 200 ((i : Int) + 1)).isSome) = true := by kernel_rfl
theorem order_is {c : Int} (h1 : 1 ≤ c) (h4 : c ≤ 4) : ∃ o, Ev (fun k => curve_Order.f k c) o ∧ Ev (fun k => clavigerref22_Order.f k c) o := by
  have h := List.all_eq_true.1 order_all (c - 1).toNat (List.mem_range.2 (by omega))
  rw [show (((c - 1).toNat : Nat) : Int) + 1 = c by omega, Bool.and_eq_true] at h
  obtain ⟨o, ho⟩ := Option.isSome_iff_exists.1 h.2
  exact ⟨o, Ev.of (curve_Order.mono c) (k := 200) ho, Ev.of (clavigerref22_Order.mono c) (k := 200) ((of_decide_eq_true h.1) ▸ ho)⟩
def scalarA (o s : ByteArray) : Bool := s.data.toList.any (fun b => !(b == 0)) && Op.bytesLess s.toList o.toList
theorem ref_scalar_loop (c : Int) (s o : ByteArray) (hs : s.size ≤ 1000000) (ho : Ev (fun k => clavigerref22_Order.f k c) o) (d : Nat) : ∀ (i : Nat) (f : Bool), i ≤ s.size → s.size - i = d →
    Ev (fun k => clavigerref22_Scalar.l0 k c s f (i : Int)) ((f || (s.data.toList.drop i).any (fun b => !(b == 0))) && Op.bytesLess s.toList o.toList) := by
  have hl : s.data.toList.length = s.size := Array.length_toList
  induction d with
  | zero =>
    intro i f hi hd
    refine Ev.step (fun k => by rw [clavigerref22_Scalar.l0]) ?_
    refine Ev.ifn (by omega) ?_
    rw [List.drop_eq_nil_of_le (by omega)]
    cases f with
    | true => exact Ev.ifp rfl (Ev.bind ho ((Ev.now _).eq (by simp)))
    | false => exact Ev.ifn (by simp) ((Ev.now _).eq (by simp))
  | succ d ih =>
    intro i f hi hd
    have hlt : i < s.data.toList.length := by omega
    have hd2 : s.data.toList.drop i = s.data.toList.getD i 0 :: s.data.toList.drop (i + 1) := by
      rw [List.drop_eq_getElem_cons hlt, List.getD_eq_getElem?_getD, List.getElem?_eq_getElem hlt]
      rfl
    refine Ev.step (fun k => by rw [clavigerref22_Scalar.l0]) ?_
    refine Ev.ifp (by omega) ?_
    refine Ev.ifp (by omega) ?_
    rw [bt_at22 s i (by omega), w64 (by omega) (by omega), hd2, List.any_cons]
    by_cases h0 : ((s.data.toList.getD i 0).toNat : Int) = 0
    · refine Ev.ifp h0 ?_
      have e : s.data.toList.getD i 0 = 0 := UInt8.toNat_inj.1 (by simpa using h0)
      refine (ih (i + 1) f (by omega) (by omega)).eq ?_
      rw [e]; rfl
    · refine Ev.ifn h0 ?_
      have e : ¬ s.data.toList.getD i 0 = 0 := fun e => h0 (by rw [e]; rfl)
      refine (ih (i + 1) true (by omega) (by omega)).eq ?_
      have e2 : (s.data.toList.getD i 0 == 0) = false := beq_eq_false_iff_ne.2 e
      rw [e2]
      simp
def widths (c : Int) : Int := if c = 1 then 28 else if c = 2 then 32 else if c = 3 then 48 else if c = 4 then 66 else 0
theorem ref_width (c : Int) : clavigerref22_Width.f c = some (widths c) := by
  unfold clavigerref22_Width.f widths
  repeat' split
  all_goals rfl
theorem line_width (c : Int) : ∃ a b o, curve_line.f c = some (a, b, o, widths c) := by
  unfold curve_line.f widths
  repeat' split
  all_goals exact ⟨_, _, _, rfl⟩
theorem scalar_is (c : Int) (s : ByteArray) (hs : s.size ≤ 1000000) : ∃ r, Ev (fun k => curve_Scalar.f k c s) r ∧ Ev (fun k => clavigerref22_Scalar.f k c s) r := by
  obtain ⟨n, a, o, hw⟩ := line_width c
  have hno1 : Ev (fun k => curve_Scalar.j0 k c s true) false := by
    refine Ev.step (fun k => by rw [curve_Scalar.j0]) ?_
    exact Ev.ifp rfl (Ev.now _)
  have hno2 : Ev (fun k => clavigerref22_Scalar.j0 k c s true) false := by
    refine Ev.step (fun k => by rw [clavigerref22_Scalar.j0]) ?_
    exact Ev.ifp rfl (Ev.now _)
  by_cases h0 : widths c = 0
  · refine ⟨false, ?_, ?_⟩
    · refine Ev.congr (fun k => by rw [curve_Scalar.f]) (Ev.bindc hw (Ev.ifp h0 hno1))
    · refine Ev.congr (fun k => by rw [clavigerref22_Scalar.f]) (Ev.bindc (ref_width c) (Ev.ifp h0 hno2))
  by_cases h1 : (s.size : Int) = widths c
  · have hb : ((s.size : Int) != widths c) = false := by rw [h1]; simp
    have hc : 1 ≤ c ∧ c ≤ 4 := by
      unfold widths at h0
      by_cases c1 : c = 1
      · omega
      by_cases c2 : c = 2
      · omega
      by_cases c3 : c = 3
      · omega
      by_cases c4 : c = 4
      · omega
      · rw [if_neg c1, if_neg c2, if_neg c3, if_neg c4] at h0
        exact absurd rfl h0
    obtain ⟨o, o1, o2⟩ := order_is hc.1 hc.2
    refine ⟨scalarA o s, ?_, ?_⟩
    · refine Ev.congr (fun k => by rw [curve_Scalar.f]) (Ev.bindc hw (Ev.ifn h0 (Ev.bindc hw ?_)))
      simp only
      rw [hb]
      refine Ev.step (fun k => by rw [curve_Scalar.j0]) ?_
      refine Ev.ifn (by simp) ?_
      refine Ev.bindc (a := ⟨(Lib.trimB s.data.toList 0).toArray⟩) (by
        unfold strings_Trim.f
        rw [if_pos ⟨rfl, by omega⟩, if_pos (by decide)]
        rfl) ?_
      have hall : (s.data.toList.any (fun b => !(b == 0))) = !decide (∀ b ∈ s.data.toList, b = 0) := by
        by_cases hz : ∀ b ∈ s.data.toList, b = 0
        · rw [decide_eq_true hz, List.any_eq_false.2 (fun x hx => by simp [hz x hx])]
          rfl
        · rw [decide_eq_false hz, List.any_eq_true.2]
          · rfl
          · exact Classical.byContradiction fun hn => hz fun b hb => Classical.byContradiction fun hne => hn ⟨b, hb, by simp [hne]⟩
      by_cases hz : ∀ b ∈ s.data.toList, b = 0
      · refine Ev.ifp ?_ ((Ev.now _).eq ?_)
        · rw [(trimB_nil _).2 hz, toList_data]
        · unfold scalarA
          rw [hall, decide_eq_true hz]
          rfl
      · refine Ev.ifn ?_ ?_
        · rw [toList_data]
          intro e
          exact hz ((trimB_nil _).1 e)
        · refine Ev.bind o1 ?_
          refine Ev.bindc rfl ?_
          refine (Ev.now _).eq ?_
          unfold scalarA
          rw [hall, decide_eq_false hz, compare_less, toList_data, toList_data]
          rfl
    · refine Ev.congr (fun k => by rw [clavigerref22_Scalar.f]) (Ev.bindc (ref_width c) (Ev.ifn h0 (Ev.bindc (ref_width c) ?_)))
      rw [hb]
      refine Ev.step (fun k => by rw [clavigerref22_Scalar.j0]) ?_
      refine Ev.ifn (by simp) ?_
      refine (ref_scalar_loop c s o hs o2 _ 0 false (by omega) rfl).eq ?_
      unfold scalarA
      simp
  · have hb : ((s.size : Int) != widths c) = true := bne_iff_ne.2 h1
    refine ⟨false, ?_, ?_⟩
    · refine Ev.congr (fun k => by rw [curve_Scalar.f]) (Ev.bindc hw (Ev.ifn h0 (Ev.bindc hw ?_)))
      simp only
      rw [hb]
      exact hno1
    · refine Ev.congr (fun k => by rw [clavigerref22_Scalar.f]) (Ev.bindc (ref_width c) (Ev.ifn h0 (Ev.bindc (ref_width c) ?_)))
      rw [hb]
      exact hno2
theorem of_all : ((List.range 12).all fun i => match kind_of.f (i : Int) with | some (_, s, _, c, _) => decide (clavigerref23_Size.f (i : Int) = some s) && decide (clavigerref23_Curve.f (i : Int) = some c) | none => false) = true := by kernel_rfl
theorem of_is (a : Int) : ∃ n s l c t, kind_of.f a = some (n, s, l, c, t) ∧ clavigerref23_Size.f a = some s ∧ clavigerref23_Curve.f a = some c := by
  by_cases h : 0 ≤ a ∧ a < 12
  · have h1 := List.all_eq_true.1 of_all a.toNat (List.mem_range.2 (by omega))
    rw [Int.toNat_of_nonneg h.1] at h1
    revert h1
    cases hk : kind_of.f a with
    | none => intro h1; cases h1
    | some v =>
      obtain ⟨n, s, l, c, t⟩ := v
      intro h1
      simp only [Bool.and_eq_true, decide_eq_true_eq] at h1
      exact ⟨n, s, l, c, t, rfl, h1.1, h1.2⟩
  · have hk : kind_of.f a = kind_of.f 0 := by
      unfold kind_of.f
      by_cases h0 : a < 0
      · simp only [kind_table.f, Option.bind_some, if_pos h0]
        rfl
      · have h12 : a ≥ 12 := by omega
        simp only [kind_table.f, Option.bind_some, if_neg h0, List.length_cons, List.length_nil]
        rw [if_pos (by omega)]
        rfl
    refine ⟨⟨#[]⟩, 0, ⟨#[]⟩, 0, ⟨#[]⟩, hk.trans (by kernel_rfl), ?_, ?_⟩
    · unfold clavigerref23_Size.f
      rw [if_neg (by omega), if_neg (by omega), if_neg (by omega), if_neg (by omega), if_neg (by omega), if_neg (by omega), if_neg (by omega), if_neg (by omega), if_neg (by omega), if_neg (by omega), if_neg (by omega)]
    · unfold clavigerref23_Curve.f
      by_cases h8 : a ≥ 8
      · rw [if_pos h8, if_neg (by omega)]
      · rw [if_neg h8]
theorem check_is (a : Int) (s : ByteArray) (hs : s.size ≤ 1000000) : ∃ r, Ev (fun k => kind_Check.f k a s) r ∧ Ev (fun k => clavigerref23_Check.f k a s) r := by
  obtain ⟨n, z, l, c, t, h1, h2, h3⟩ := of_is a
  have e1 : ∀ k, kind_Check.f k a s = _ := fun k => by rw [kind_Check.f]
  have e2 : ∀ k, clavigerref23_Check.f k a s = _ := fun k => by rw [clavigerref23_Check.f]
  by_cases hz : z = 0
  · exact ⟨8, Ev.congr e1 (Ev.bindc h1 (Ev.ifp hz (Ev.now _))), Ev.congr e2 (Ev.bindc h2 (Ev.ifp hz (Ev.now _)))⟩
  by_cases hl : z = (s.size : Int)
  · by_cases hc : c > 0
    · obtain ⟨r, r1, r2⟩ := scalar_is c s hs
      refine ⟨if r = true then 0 else 10, Ev.congr e1 (Ev.bindc h1 (Ev.ifn hz (Ev.ifp hl (Ev.ifp hc (Ev.bind r1 ?_))))), Ev.congr e2 (Ev.bindc h2 (Ev.ifn hz (Ev.bindc h2 (Ev.ifp hl.symm (Ev.bindc h3 (Ev.ifp hc (Ev.bindc h3 (Ev.bind r2 ?_))))))))⟩
      · exact Ev.ite (fun _ => Ev.now _) (fun _ => Ev.now _)
      · exact Ev.ite (fun _ => Ev.now _) (fun _ => Ev.now _)
    · exact ⟨0, Ev.congr e1 (Ev.bindc h1 (Ev.ifn hz (Ev.ifp hl (Ev.ifn hc (Ev.now _))))), Ev.congr e2 (Ev.bindc h2 (Ev.ifn hz (Ev.bindc h2 (Ev.ifp hl.symm (Ev.bindc h3 (Ev.ifn hc (Ev.now _)))))))⟩
  · exact ⟨9, Ev.congr e1 (Ev.bindc h1 (Ev.ifn hz (Ev.ifn hl (Ev.now _)))), Ev.congr e2 (Ev.bindc h2 (Ev.ifn hz (Ev.bindc h2 (Ev.ifn (fun e => hl e.symm) (Ev.now _)))))⟩
theorem awake23 : Ev (fun k => clavigerlaw23_awake.f k) true := Ev.of clavigerlaw23_awake.mono (k := 40) (by kernel_rfl)
theorem KindChecks : clavigerlaw23_KindChecks.Pure := by
  intro a0 a1 _ _
  refine Ev.rounds (g := fun k => clavigerlaw23_KindChecks.f k a0 a1) ?_
  refine Ev.congr (fun k => by rw [clavigerlaw23_KindChecks.f]) ?_
  by_cases ha : (a1.size : Int) > 200
  · exact Ev.ifp ha (Ev.bind awake23 (Ev.now _))
  refine Ev.ifn ha ?_
  obtain ⟨r, r1, r2⟩ := check_is a0 a1 (by omega)
  refine Ev.bind r1 (Ev.bind r2 (Ev.ifp rfl ?_))
  exact Ev.bind awake23 (Ev.now _)
end Go.Proofs.YtleimmhpcomapaaDoor.Pure
