/- Whatever three texts (up to 200 bytes) and the list (up to 30 texts of up to 100 bytes): of two unlike texts just one is less, what is less than what is less is so, and what is sorted stays so and has the same texts (P21.3). -/
import Derived.Test.YtjelhckfncffpaaPSetofOrderx
namespace Go.Proofs.Ytjelhckfncffpaa.Pure
open Go.RowKit Go.Proofs.Ytjelhckfncffpaa.PSetofOrder Go.Proofs.YtjelhckfncffpaaW.PrintWords Go.Proofs.YtjelhckfncffpaaW.PrintLast
set_option linter.unusedVariables false
set_option linter.unusedSimpArgs false
/-- The number of bytes. -/
def getN (l : List Int) : Int := l.foldl (fun n b => n * 256 + b) 0
theorem getN_snoc (l : List Int) (x : Int) : getN (l ++ [x]) = getN l * 256 + x := by simp [getN]
theorem getN_take {l : List Int} (i : Nat) (h : i < l.length) : getN (l.take (i + 1)) = getN (l.take i) * 256 + l[i] := by
  rw [List.take_succ_eq_append_getElem h, getN_snoc]
theorem getN_bd (n : Nat) : ∀ l : List Int, OkB l → l.length ≤ n → 0 ≤ getN l ∧ getN l < 256 ^ n := by
  induction n with
  | zero => intro l h hn; obtain rfl := List.eq_nil_of_length_eq_zero (Nat.le_zero.1 hn); simp [getN]
  | succ n ih =>
    intro l h hn
    have hp : (0 : Int) < 256 ^ n := Int.pow_pos (by decide)
    by_cases e : l = []
    · subst e
      rw [Int.pow_succ]
      simp only [getN, List.foldl_nil]
      omega
    · obtain ⟨m, x, rfl⟩ : ∃ m x, l = m ++ [x] := ⟨l.dropLast, l.getLast e, (List.dropLast_concat_getLast e).symm⟩
      have h1 := ih m (fun y hy => h y (List.mem_append_left _ hy)) (by simp at hn; omega)
      have h2 := h x (by simp)
      rw [getN_snoc, Int.pow_succ]
      omega
theorem getN_lt7 (l : List Int) (h : OkB l) (hn : l.length ≤ 7) : 0 ≤ getN l ∧ getN l < 72057594037927936 := getN_bd 7 l h hn
/-- Bytes 0. -/
def zerosL (n : Int) : List Int := if 1 ≤ n ∧ n ≤ 65552 then List.replicate n.toNat 0 else []
theorem zerosL_ok (n : Int) : OkB (zerosL n) := by
  unfold zerosL
  split
  · exact OkB.replicate _
  · exact OkB.nil
theorem zerosL_nat (k : Nat) (h : k ≤ 65552) : zerosL (k : Int) = List.replicate k 0 := by
  unfold zerosL
  by_cases h0 : k = 0
  · subst h0; rfl
  · rw [if_pos (by omega), Int.toNat_natCast]
theorem octets_Zeros_eq (n : Int) : octets_Zeros.f n = some (strOfNums (zerosL n)) := by
  unfold octets_Zeros.f zerosL
  by_cases h1 : n < 1
  · rw [if_pos h1, if_neg (by omega)]; rfl
  · by_cases h2 : n > 65552
    · rw [if_neg h1, if_pos h2, if_neg (by omega)]; rfl
    · rw [if_neg h1, if_neg h2, if_pos (by omega), if_pos (by omega), if_pos (by omega)]
theorem slices_Equal_refl (L : List ByteArray) (h : L.length ≤ 9223372036854775806) : Ev (fun k => slices_Equal_string_string.f k L L) true := by
  unfold slices_Equal_string_string.f
  refine Ev.ifp rfl ?_
  have loop : ∀ d i : Nat, i ≤ L.length → L.length - i = d → Ev (fun k => slices_Equal_string_string.l0 k L L (L.length : Int) (i : Int)) true := by
    intro d
    induction d with
    | zero =>
      intro i hi hd
      refine Ev.step (fun k => by rw [slices_Equal_string_string.l0]) ?_
      exact Ev.ifn (by omega) (Ev.now _)
    | succ d ih =>
      intro i hi hd
      refine Ev.step (fun k => by rw [slices_Equal_string_string.l0]) ?_
      rw [w64 (by omega) (by omega)]
      exact Ev.ifp (by omega) (Ev.ifp (by omega) (Ev.ifp (by omega) (Ev.ifp (by omega) (Ev.ifp rfl (ih (i + 1) (by omega) (by omega))))))
  exact loop _ 0 (by omega) rfl
theorem zeros_f (n : Int) : octets_Zeros.f n = some (zerosS n) := by
  unfold octets_Zeros.f zerosS
  by_cases h1 : n < 1
  · rw [if_pos h1, if_pos h1]
  · rw [if_neg h1, if_neg h1]
    by_cases h2 : n > 65552
    · rw [if_pos h2, if_pos h2]
    · rw [if_neg h2, if_neg h2, if_pos (by omega), if_pos (by omega)]
theorem compareInt_f (x y : Int) : cmp_Compare_int.f x y = some (Lib.compareInt x y) := by
  have hn : ∀ z : Int, cmp_isNaN_int.f z = some false := fun z => by unfold cmp_isNaN_int.f; simp
  unfold cmp_Compare_int.f Lib.compareInt
  rw [hn, hn]
  simp only [Option.bind_some]
  rw [if_neg (show ¬ (false = true) by decide), if_neg (show ¬ (false = true) by decide)]
  by_cases h1 : x < y
  · rw [if_pos h1, if_pos h1]
  · rw [if_neg h1, if_neg h1]
    by_cases h2 : x > y
    · rw [if_pos h2, if_pos h2]
    · rw [if_neg h2, if_neg h2]
theorem mx_nat (a b : Nat) : mx (a : Int) (b : Int) = ((max a b : Nat) : Int) := by
  unfold mx
  split <;> omega
theorem compare_is (a b : ByteArray) (ha : a.size ≤ 60000) (hb : b.size ≤ 60000) : Ev (fun k => setof_compare.f k a b) (cmpR a b) := by
  have e1 : wrap64 (mx (a.size : Int) (b.size : Int) - (a.size : Int)) = ((max a.size b.size - a.size : Nat) : Int) := by rw [mx_nat]; exact (w64 (by omega) (by omega)).trans (by omega)
  have e2 : wrap64 (mx (a.size : Int) (b.size : Int) - (b.size : Int)) = ((max a.size b.size - b.size : Nat) : Int) := by rw [mx_nat]; exact (w64 (by omega) (by omega)).trans (by omega)
  have d1 := zerosS_data (max a.size b.size - a.size) (by omega)
  have d2 := zerosS_data (max a.size b.size - b.size) (by omega)
  have s1 : (zerosS ((max a.size b.size - a.size : Nat) : Int)).size = max a.size b.size - a.size := by rw [← data_length, d1, List.length_replicate]
  have s2 : (zerosS ((max a.size b.size - b.size : Nat) : Int)).size = max a.size b.size - b.size := by rw [← data_length, d2, List.length_replicate]
  refine Ev.congr (fun k => by rw [setof_compare.f, e1, e2]) ?_
  refine Ev.bindc (zeros_f _) (Ev.ifp (by omega) ?_)
  refine Ev.bindc (zeros_f _) (Ev.ifp (by omega) ?_)
  refine Ev.bindc (show strings_Compare.f _ _ = some _ from rfl) ?_
  refine Ev.bindc (compareInt_f _ _) ?_
  refine Ev.bind (Ev.of (cmp_Or_int.mono _) (or_two _ _)) ((Ev.now _).eq ?_)
  rw [str_data_append, str_data_append, d1, d2]
  have h := cmpB_pad a.data.toList b.data.toList
  rw [data_length, data_length] at h
  unfold cmpR
  rw [← h]
  congr 1
  unfold lenCmp Lib.compareInt
  rw [data_length, data_length]
  simp only [Int.ofNat_lt, gt_iff_lt]
/-- One text is less than another one: byte by byte, a beginning ahead of what goes on. -/
def ltB (a b : ByteArray) : Bool := decide (a.data.toList < b.data.toList)
theorem cmpR_lt (a b : ByteArray) : decide (cmpR a b < 0) = ltB a b := cmpB_lt _ _
theorem cmpR_lt_iff (a b : ByteArray) : cmpR a b < 0 ↔ ltB a b = true := by rw [← cmpR_lt]; exact decide_eq_true_iff.symm
theorem cmpB_zero : ∀ (a b : List UInt8), Lib.compareBytes a b = 0 ↔ a = b
  | [], [] => by simp [Lib.compareBytes]
  | [], y :: b => by simp [Lib.compareBytes]
  | x :: a, [] => by simp [Lib.compareBytes]
  | x :: a, y :: b => by
    have ih := cmpB_zero a b
    rw [Lib.compareBytes]
    by_cases h1 : x < y
    · rw [if_pos h1]
      have h3 : ¬ x = y := fun e => by subst e; exact absurd h1 (by simp)
      simp [h3]
    · rw [if_neg h1]
      by_cases h2 : y < x
      · rw [if_pos h2]
        have h3 : ¬ x = y := fun e => by subst e; exact absurd h2 (by simp)
        simp [h3]
      · rw [if_neg h2, ih]
        have h3 : x = y := UInt8.le_antisymm (UInt8.not_lt.1 h2) (UInt8.not_lt.1 h1)
        simp [h3]
theorem less_is (a b : ByteArray) (ha : a.size ≤ 60000) (hb : b.size ≤ 60000) : Ev (fun k => setof_Less.f k a b) (ltB a b) := by
  refine Ev.congr (fun k => by rw [setof_Less.f]) ?_
  refine Ev.bind (compare_is a b ha hb) ((Ev.now _).eq (cmpR_lt a b))
def risesB : List ByteArray → Bool
  | a :: b :: r => ltB a b && risesB (b :: r)
  | _ => true
theorem rises_two {l : List ByteArray} (i : Nat) (h : i + 1 < l.length) : risesB (l.drop i) = (ltB (l[i]'(by omega)) l[i + 1] && risesB (l.drop (i + 1))) := by
  rw [List.drop_eq_getElem_cons (by omega : i < l.length), List.drop_eq_getElem_cons h]
  rfl
theorem rises_end {l : List ByteArray} (i : Nat) (h : l.length ≤ i + 1) : risesB (l.drop i) = true := by
  have h2 : (l.drop i).length ≤ 1 := by rw [List.length_drop]; omega
  match hl : l.drop i, h2 with
  | [], _ => rfl
  | [a], _ => rfl
theorem rises_is (l : List ByteArray) (hl : l.length ≤ 1000000) (ha : ∀ x ∈ l, x.size ≤ 60000) : Ev (fun k => setof_Rises.f k l) (risesB l) := by
  have loop : ∀ d i : Nat, 1 ≤ i → l.length - i = d → Ev (fun k => setof_Rises.l0 k l (l.length : Int) (i : Int)) (risesB (l.drop (i - 1))) := by
    intro d
    induction d with
    | zero =>
      intro i h1 hd
      refine Ev.step (fun k => by rw [setof_Rises.l0]) ?_
      exact Ev.ifn (by omega) ((Ev.now _).eq (rises_end _ (by omega)).symm)
    | succ d ih =>
      intro i h1 hd
      have hlt : i < l.length := by omega
      have hw : wrap64 ((i : Int) + 1) = ((i + 1 : Nat) : Int) := (w64 (by omega) (by omega)).trans (by omega)
      have hw2 : wrap64 ((i : Int) - 1) = ((i - 1 : Nat) : Int) := (w64 (by omega) (by omega)).trans (by omega)
      refine Ev.step (fun k => by rw [setof_Rises.l0]) ?_
      rw [hw, hw2, rdOf_get _ _ hlt, rdOf_get _ _ (by omega : i - 1 < l.length)]
      refine Ev.ifp (by omega) (Ev.ifp (by omega) (Ev.ifp (by omega) (Ev.ifp (by omega) (Ev.ifp (by omega) (Ev.ifp (by omega) ?_)))))
      refine Ev.bind (compare_is _ _ (ha _ (List.getElem_mem _)) (ha _ (List.getElem_mem _))) ?_
      have e : risesB (l.drop (i - 1)) = (ltB (l[i - 1]'(by omega)) l[i] && risesB (l.drop i)) := by
        have h := rises_two (l := l) (i - 1) (by omega)
        simp only [Nat.sub_add_cancel h1] at h
        exact h
      rw [e]
      by_cases hc : cmpR (l[i - 1]'(by omega)) l[i] ≥ 0
      · refine Ev.ifp hc ((Ev.now _).eq ?_)
        have : ltB (l[i - 1]'(by omega)) l[i] = false := by
          rw [← cmpR_lt]
          exact decide_eq_false (by omega)
        rw [this]
        rfl
      · refine Ev.ifn hc ?_
        have : ltB (l[i - 1]'(by omega)) l[i] = true := by
          rw [← cmpR_lt]
          exact decide_eq_true (by omega)
        rw [this, Bool.true_and]
        exact ih (i + 1) (by omega) (by omega)
  refine Ev.congr (fun k => by rw [setof_Rises.f]) ?_
  by_cases h0 : l.length = 0
  · obtain rfl : l = [] := List.eq_nil_of_length_eq_zero h0
    refine Ev.step (fun k => by rw [setof_Rises.l0]) ?_
    exact Ev.ifn (by simp) (Ev.now _)
  · refine Ev.step (fun k => by rw [setof_Rises.l0]) ?_
    refine Ev.ifp (by omega) (Ev.ifn (by decide) ?_)
    rw [show wrap64 (0 + 1) = ((1 : Nat) : Int) from w64 (by omega) (by omega)]
    exact loop _ 1 (Nat.le_refl _) rfl
theorem sort_is (l : List ByteArray) (hl : l.length ≤ 1000000) (ha : ∀ x ∈ l, x.size ≤ 60000) : setof_Sort.f l = some (sortB l) := by
  unfold setof_Sort.f
  rw [if_pos ⟨hl, List.all_eq_true.2 fun x hx => by simpa using ha x hx⟩]
theorem leB_tr : ∀ a b c : List UInt8, leB a b = true → leB b c = true → leB a c = true := fun a b c h1 h2 => by simp only [leB, decide_eq_true_eq] at *; exact List.le_trans h1 h2
theorem leB_tot : ∀ a b : List UInt8, (leB a b || leB b a) = true := fun a b => by simp only [leB, Bool.or_eq_true, decide_eq_true_eq]; exact List.le_total a b
theorem sorted_one {l r : List (List UInt8)} (hr : r.Pairwise fun a b => leB a b = true) (hp : r.Perm l) : l.mergeSort leB = r := by
  refine List.Perm.eq_of_pairwise (le := fun a b => leB a b = true) (fun a b _ _ h1 h2 => ?_) (List.pairwise_mergeSort leB_tr leB_tot l) hr ((List.mergeSort_perm l leB).trans hp.symm)
  simp only [leB, decide_eq_true_eq] at h1 h2
  exact List.le_antisymm h1 h2
theorem sortB_data (l : List ByteArray) : (sortB l).map (fun s => s.data.toList) = (l.map fun s => s.data.toList).mergeSort leB := by
  unfold sortB
  simp [List.map_map, Function.comp_def]
theorem data_map (l : List ByteArray) : (l.map fun s => s.data.toList).map (fun b => (⟨b.toArray⟩ : ByteArray)) = l := by
  simp [List.map_map, Function.comp_def]
theorem sortB_one {l r : List ByteArray} (hr : (r.map fun s => s.data.toList).Pairwise fun a b => leB a b = true) (hp : r.Perm l) : sortB l = r := by
  unfold sortB
  rw [sorted_one hr (hp.map _), data_map]
theorem sortB_perm (l : List ByteArray) : (sortB l).Perm l := by
  have h := (List.mergeSort_perm (l.map fun s => s.data.toList) leB).map (fun b => (⟨b.toArray⟩ : ByteArray))
  rw [data_map] at h
  exact h
theorem sortB_pair (l : List ByteArray) : ((sortB l).map fun s => s.data.toList).Pairwise fun a b => leB a b = true := by
  rw [sortB_data]
  exact List.pairwise_mergeSort leB_tr leB_tot _
theorem sortB_sortB (l : List ByteArray) : sortB (sortB l) = sortB l := sortB_one (sortB_pair l) (List.Perm.refl _)
theorem sortB_mem (l : List ByteArray) : ∀ x ∈ sortB l, x ∈ l := fun x hx => (sortB_perm l).mem_iff.1 hx
theorem sortB_len (l : List ByteArray) : (sortB l).length = l.length := (sortB_perm l).length_eq
theorem shorts_is (l : List ByteArray) (hl : l.length ≤ 9223372036854775807) : ∃ t, Ev (fun k => clavigerplain_Shorts.f k l 30 100) t ∧ (t = true → l.length ≤ 30 ∧ ∀ x ∈ l, x.size ≤ 100) := by
  have loop : ∀ d i : Nat, i + d = l.length → ∃ t, Ev (fun k => clavigerplain_Shorts.l0 k l 100 (i : Int)) t ∧ (t = true → ∀ x ∈ l.drop i, x.size ≤ 100) := by
    intro d
    induction d with
    | zero =>
      intro i hd
      refine ⟨true, Ev.step (fun k => by rw [clavigerplain_Shorts.l0]) (Ev.ifn (by omega) (Ev.now _)), fun _ x hx => ?_⟩
      rw [List.drop_eq_nil_of_le (by omega)] at hx
      cases hx
    | succ d ih =>
      intro i hd
      have hlt : i < l.length := by omega
      have hw : wrap64 ((i : Int) + 1) = ((i + 1 : Nat) : Int) := (w64 (by omega) (by omega)).trans (by omega)
      by_cases h : (l[i].size : Int) > 100
      · refine ⟨false, ?_, fun e => by cases e⟩
        refine Ev.step (fun k => by rw [clavigerplain_Shorts.l0]) ?_
        rw [rdOf_get _ _ hlt]
        exact Ev.ifp (by omega) (Ev.ifp (by omega) (Ev.ifp h (Ev.now _)))
      · obtain ⟨t, ht, hk⟩ := ih (i + 1) (by omega)
        refine ⟨t, ?_, fun e x hx => ?_⟩
        · refine Ev.step (fun k => by rw [clavigerplain_Shorts.l0]) ?_
          rw [rdOf_get _ _ hlt, hw]
          exact Ev.ifp (by omega) (Ev.ifp (by omega) (Ev.ifn h ht))
        · rw [List.drop_eq_getElem_cons hlt] at hx
          rcases List.mem_cons.1 hx with rfl | hx
          · omega
          · exact hk e x hx
  by_cases h : (l.length : Int) > 30
  · refine ⟨false, ?_, fun e => by cases e⟩
    refine Ev.congr (fun k => by rw [clavigerplain_Shorts.f]) ?_
    exact Ev.ifp h (Ev.now _)
  · obtain ⟨t, ht0, hk⟩ := loop l.length 0 (by omega)
    have ht : Ev (fun k => clavigerplain_Shorts.l0 k l 100 0) t := ht0
    refine ⟨t, ?_, fun e => ⟨by omega, fun x hx => hk e x (by simpa using hx)⟩⟩
    refine Ev.congr (fun k => by rw [clavigerplain_Shorts.f]) ?_
    exact Ev.ifn h ht
theorem awake21 : Ev (fun k => clavigerlaw21_awake.f k) true := by
  refine Ev.congr (fun k => by rw [clavigerlaw21_awake.f]) ?_
  refine Ev.bind (less_is _ _ (by decide) (by decide)) (Ev.ifp (by kernel_rfl) ?_)
  refine Ev.bind (less_is _ _ (by decide) (by decide)) (Ev.ifn (by rw [show ltB ⟨#[97, 0]⟩ ⟨#[97]⟩ = false by kernel_rfl]; decide) ?_)
  refine Ev.bind (less_is _ _ (by decide) (by decide)) (Ev.ifp (by kernel_rfl) ?_)
  refine Ev.bind (rises_is _ (by decide) (by decide)) (Ev.ifp (by kernel_rfl) ?_)
  have hs : sortB [⟨#[98]⟩, ⟨#[97]⟩, ⟨#[98]⟩] = [⟨#[97]⟩, ⟨#[98]⟩, ⟨#[98]⟩] := sortB_one (by decide) (List.Perm.swap _ _ _)
  refine Ev.bindc (sort_is _ (by decide) (by decide)) ?_
  rw [hs]
  exact Ev.bind (slices_Equal_refl _ (by decide)) (Ev.now _)
def dupB : List ByteArray → Bool
  | a :: b :: r => (b.toList == a.toList) || dupB (b :: r)
  | _ => false
theorem dup_two {l : List ByteArray} (i : Nat) (h : i + 1 < l.length) : dupB (l.drop i) = ((l[i + 1].toList == (l[i]'(by omega)).toList) || dupB (l.drop (i + 1))) := by
  rw [List.drop_eq_getElem_cons (by omega : i < l.length), List.drop_eq_getElem_cons h]
  rfl
theorem dup_end {l : List ByteArray} (i : Nat) (h : l.length ≤ i + 1) : dupB (l.drop i) = false := by
  have h2 : (l.drop i).length ≤ 1 := by rw [List.length_drop]; omega
  match hl : l.drop i, h2 with
  | [], _ => rfl
  | [a], _ => rfl
theorem rises_dup : ∀ (l : List ByteArray), ((l.map fun s => s.data.toList).Pairwise fun a b => leB a b = true) → risesB l = !dupB l
  | [], _ => rfl
  | [a], _ => rfl
  | a :: b :: r, h => by
    rw [List.map_cons, List.pairwise_cons] at h
    have ih := rises_dup (b :: r) h.2
    have hab := h.1 b.data.toList (by simp)
    simp only [leB, decide_eq_true_eq] at hab
    rw [risesB, dupB, ih, Bool.not_or]
    congr 1
    rw [Bool.eq_iff_iff]
    simp only [ltB, decide_eq_true_eq, Bool.not_eq_true', beq_eq_false_iff_ne, ne_eq, toList_data]
    constructor
    · intro h1 h2
      rw [h2] at h1
      exact List.lt_irrefl _ h1
    · intro h1
      rcases List.le_iff_lt_or_eq.1 hab with h2 | h2
      · exact h2
      · exact absurd h2.symm h1
theorem less_facts (a b : ByteArray) (h : ltB a b = ltB b a) : a.toList = b.toList := by
  rw [toList_data, toList_data]
  have h1 : ltB a b = false := by
    cases h2 : ltB a b with
    | false => rfl
    | true =>
      have h3 := h2
      rw [h] at h3
      simp only [ltB, decide_eq_true_eq] at h2 h3
      exact absurd (List.lt_trans h2 h3) (List.lt_irrefl _)
  have h2 := h1
  rw [h] at h2
  simp only [ltB, decide_eq_false_iff_not] at h1 h2
  exact List.le_antisymm (List.not_lt.1 h2) (List.not_lt.1 h1)
theorem less_self (a : ByteArray) : ltB a a = false := by
  simp only [ltB, decide_eq_false_iff_not]
  exact List.lt_irrefl _
theorem less_on (a b c : ByteArray) (h1 : ltB a b = true) (h2 : ltB b c = true) : ltB a c = true := by
  simp only [ltB, decide_eq_true_eq] at *
  exact List.lt_trans h1 h2
theorem clone_is (l : List ByteArray) (hl : l.length ≤ 1000000) : slices_Clone_string_string.f l = some l := by
  unfold slices_Clone_string_string.f
  rw [if_pos (by omega)]
theorem sorts_is (l : List ByteArray) (hl : l.length ≤ 1000000) : slices_Sort_string_string.f l = some (sortB l) := by
  unfold slices_Sort_string_string.f
  rw [if_pos hl]
theorem SetofOrder : clavigerlaw21_SetofOrder.Pure := by
  intro a b c l ha hb hc hl hs
  obtain ⟨t, ht, hk⟩ := shorts_is l hl
  have hloop : ∀ (s : List ByteArray), s.length ≤ 1000 → (∀ y ∈ s, y.size ≤ 60000) → ((s.map fun s => s.data.toList).Pairwise fun a b => leB a b = true) → ∀ (d i : Nat) (t : Bool), 1 ≤ i → s.length - i = d → (t || dupB (s.drop (i - 1))) = !risesB s → Ev (fun k => clavigerlaw21_SetofOrder.l0 k s s t (i : Int)) true := by
    intro s hsl hsz hsp d
    induction d with
    | zero =>
      intro i t h1 hd he
      rw [dup_end _ (by omega), Bool.or_false] at he
      refine Ev.step (fun k => by rw [clavigerlaw21_SetofOrder.l0]) ?_
      refine Ev.ifn (by omega) ?_
      refine Ev.bind (rises_is s (by omega) hsz) (Ev.ifp (by rw [he]; simp) (Ev.bind awake21 (Ev.now _)))
    | succ d ih =>
      intro i t h1 hd he
      have hlt : i < s.length := by omega
      have hw : wrap64 ((i : Int) + 1) = ((i + 1 : Nat) : Int) := (w64 (by omega) (by omega)).trans (by omega)
      have hw2 : wrap64 ((i : Int) - 1) = ((i - 1 : Nat) : Int) := (w64 (by omega) (by omega)).trans (by omega)
      have e : dupB (s.drop (i - 1)) = ((s[i].toList == (s[i - 1]'(by omega)).toList) || dupB (s.drop i)) := by
        have h := dup_two (l := s) (i - 1) (by omega)
        simp only [Nat.sub_add_cancel h1] at h
        exact h
      refine Ev.step (fun k => by rw [clavigerlaw21_SetofOrder.l0]) ?_
      rw [hw, hw2, rdOf_get _ _ hlt, rdOf_get _ _ (by omega : i - 1 < s.length)]
      refine Ev.ifp (by omega) ?_
      cases t with
      | true =>
        refine Ev.ifp rfl (ih (i + 1) true (by omega) (by omega) ?_)
        rw [← he]
        rfl
      | false =>
        refine Ev.ifn (by decide) (Ev.ifp (by omega) (Ev.ifp (by omega) (Ev.ifp (by omega) (ih (i + 1) _ (by omega) (by omega) ?_))))
        rw [← he, e]
        rfl
  have hj1 : l.length ≤ 30 → (∀ y ∈ l, y.size ≤ 100) → Ev (fun k => clavigerlaw21_SetofOrder.j1 k l false) true := by
    intro h3 h4
    have h5 : ∀ y ∈ l, y.size ≤ 60000 := fun y hy => Nat.le_trans (h4 y hy) (by decide)
    have h6 : ∀ y ∈ sortB l, y.size ≤ 60000 := fun y hy => h5 y (sortB_mem l y hy)
    have h7 := sortB_len l
    refine Ev.step (fun k => by rw [clavigerlaw21_SetofOrder.j1]) ?_
    refine Ev.ifn (by decide) ?_
    refine Ev.bindc (sort_is l (by omega) h5) (Ev.bindc (clone_is _ (by omega)) (Ev.bindc (clone_is _ (by omega)) ?_))
    refine Ev.bindc (sorts_is _ (by omega)) (Ev.bindc (sorts_is _ (by omega)) ?_)
    rw [sortB_sortB]
    refine Ev.bind (slices_Equal_refl _ (by omega)) (Ev.ifp rfl ?_)
    refine Ev.bindc (sort_is _ (by omega) h6) ?_
    rw [sortB_sortB]
    refine Ev.bind (slices_Equal_refl _ (by omega)) ?_
    refine Ev.step (fun k => by rw [clavigerlaw21_SetofOrder.j2]) ?_
    refine Ev.ifn (by decide) ?_
    refine hloop (sortB l) (by omega) h6 (sortB_pair l) _ 1 false (Nat.le_refl _) rfl ?_
    rw [rises_dup _ (sortB_pair l)]
    simp
  have hj : ∀ x : Bool, (x = false → (a.size ≤ 200 ∧ b.size ≤ 200 ∧ c.size ≤ 200 ∧ l.length ≤ 30 ∧ ∀ y ∈ l, y.size ≤ 100)) → Ev (fun k => clavigerlaw21_SetofOrder.j0 k a b c l x) true := by
    intro x hx
    refine Ev.step (fun k => by rw [clavigerlaw21_SetofOrder.j0]) ?_
    cases x with
    | true => exact Ev.ifp rfl (Ev.bind awake21 (Ev.now _))
    | false =>
      obtain ⟨h1, h2, h2', h3, h4⟩ := hx rfl
      have hrest : Ev (fun k => (setof_Less.f k a a).bind fun t147 => (if t147 = true then (clavigerlaw21_SetofOrder.j1 k l true) else (if ltB a b = true then ((setof_Less.f k b c).bind fun t149 => (if t149 = true then ((setof_Less.f k a c).bind fun t150 => (clavigerlaw21_SetofOrder.j1 k l (!t150))) else (clavigerlaw21_SetofOrder.j1 k l false))) else (clavigerlaw21_SetofOrder.j1 k l false)))) true := by
        refine Ev.bind (less_is a a (by omega) (by omega)) ?_
        rw [less_self]
        refine Ev.ifn (by decide) ?_
        cases hab : ltB a b with
        | false => exact Ev.ifn (by decide) (hj1 h3 h4)
        | true =>
          refine Ev.ifp rfl ?_
          refine Ev.bind (less_is b c (by omega) (by omega)) ?_
          cases hbc : ltB b c with
          | false => exact Ev.ifn (by decide) (hj1 h3 h4)
          | true =>
            refine Ev.ifp rfl ?_
            refine Ev.bind (less_is a c (by omega) (by omega)) ?_
            rw [less_on a b c hab hbc]
            exact hj1 h3 h4
      refine Ev.ifn (by decide) ?_
      refine Ev.bind (less_is a b (by omega) (by omega)) (Ev.bind (less_is b a (by omega) (by omega)) ?_)
      by_cases he : (ltB a b == ltB b a) = true
      · refine Ev.ifp he ?_
        refine Ev.ifp (less_facts a b (by simpa using he)) hrest
      · exact Ev.ifn he hrest
  refine Ev.rounds ?_
  refine Ev.congr (fun k => by rw [clavigerlaw21_SetofOrder.f]) ?_
  by_cases h1 : (a.size : Int) > 200
  · exact Ev.ifp h1 (hj true (fun e => by cases e))
  · refine Ev.ifn h1 ?_
    by_cases h2 : (b.size : Int) > 200
    · exact Ev.ifp h2 (hj true (fun e => by cases e))
    · refine Ev.ifn h2 ?_
      by_cases h3 : (c.size : Int) > 200
      · exact Ev.ifp h3 (hj true (fun e => by cases e))
      · refine Ev.ifn h3 ?_
        refine Ev.bind ht (hj _ (fun e => ?_))
        have ht2 : t = true := by simpa using e
        exact ⟨by omega, by omega, by omega, hk ht2⟩
end Go.Proofs.Ytjelhckfncffpaa.Pure
