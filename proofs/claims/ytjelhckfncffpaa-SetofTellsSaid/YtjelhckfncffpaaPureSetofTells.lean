/- Whatever the two texts (up to 200 bytes) and the list (up to 30 texts of up to 100 bytes): which text is less, the list's order, whether it rises and where a text stands in it are as the document's reference says (P21.1, P21.2). -/
import Derived.Test.YtjelhckfncffpaaPSetofTellsx
namespace Go.Proofs.Ytjelhckfncffpaa.Pure
open Go.RowKit Go.Proofs.Ytjelhckfncffpaa.PSetofTells Go.Proofs.YtjelhckfncffpaaW.PrintWords Go.Proofs.YtjelhckfncffpaaW.PrintLast
set_option linter.unusedVariables false
set_option linter.unusedSimpArgs false
/-- The number of bytes. -/
def getN (l : List Int) : Int := l.foldl (fun n b => n * 256 + b) 0
theorem getN_snoc (l : List Int) (x : Int) : getN (l ++ [x]) = getN l * 256 + x := by simp [getN]
theorem getN_take {l : List Int} (i : Nat) (h : i < l.length) : getN (l.take (i + 1)) = getN (l.take i) * 256 + l[i] := by
  rw [List.take_succ_eq_append_getElem h, getN_snoc]
theorem getN_bd (n : Nat) : ∀ l : List Int, OkB l → l.length ≤ n → 0 ≤ getN l ∧ getN l < 256 ^ n := by
  induction n with
  | zero => intro l h hn; obtain rfl := List.eq_nil_of_length_eq_zero (Nat.le_zero.1 hn); simp [getN]
  | succ n ih =>
    intro l h hn
    have hp : (0 : Int) < 256 ^ n := Int.pow_pos (by decide)
    by_cases e : l = []
    · subst e
      rw [Int.pow_succ]
      simp only [getN, List.foldl_nil]
      omega
    · obtain ⟨m, x, rfl⟩ : ∃ m x, l = m ++ [x] := ⟨l.dropLast, l.getLast e, (List.dropLast_concat_getLast e).symm⟩
      have h1 := ih m (fun y hy => h y (List.mem_append_left _ hy)) (by simp at hn; omega)
      have h2 := h x (by simp)
      rw [getN_snoc, Int.pow_succ]
      omega
theorem getN_lt7 (l : List Int) (h : OkB l) (hn : l.length ≤ 7) : 0 ≤ getN l ∧ getN l < 72057594037927936 := getN_bd 7 l h hn
/-- Bytes 0. -/
def zerosL (n : Int) : List Int := if 1 ≤ n ∧ n ≤ 65552 then List.replicate n.toNat 0 else []
theorem zerosL_ok (n : Int) : OkB (zerosL n) := by
  unfold zerosL
  split
  · exact OkB.replicate _
  · exact OkB.nil
theorem zerosL_nat (k : Nat) (h : k ≤ 65552) : zerosL (k : Int) = List.replicate k 0 := by
  unfold zerosL
  by_cases h0 : k = 0
  · subst h0; rfl
  · rw [if_pos (by omega), Int.toNat_natCast]
theorem octets_Zeros_eq (n : Int) : octets_Zeros.f n = some (strOfNums (zerosL n)) := by
  unfold octets_Zeros.f zerosL
  by_cases h1 : n < 1
  · rw [if_pos h1, if_neg (by omega)]; rfl
  · by_cases h2 : n > 65552
    · rw [if_neg h1, if_pos h2, if_neg (by omega)]; rfl
    · rw [if_neg h1, if_neg h2, if_pos (by omega), if_pos (by omega), if_pos (by omega)]
theorem slices_Equal_refl (L : List ByteArray) (h : L.length ≤ 9223372036854775806) : Ev (fun k => slices_Equal_string_string.f k L L) true := by
  unfold slices_Equal_string_string.f
  refine Ev.ifp rfl ?_
  have loop : ∀ d i : Nat, i ≤ L.length → L.length - i = d → Ev (fun k => slices_Equal_string_string.l0 k L L (L.length : Int) (i : Int)) true := by
    intro d
    induction d with
    | zero =>
      intro i hi hd
      refine Ev.step (fun k => by rw [slices_Equal_string_string.l0]) ?_
      exact Ev.ifn (by omega) (Ev.now _)
    | succ d ih =>
      intro i hi hd
      refine Ev.step (fun k => by rw [slices_Equal_string_string.l0]) ?_
      rw [w64 (by omega) (by omega)]
      exact Ev.ifp (by omega) (Ev.ifp (by omega) (Ev.ifp (by omega) (Ev.ifp (by omega) (Ev.ifp rfl (ih (i + 1) (by omega) (by omega))))))
  exact loop _ 0 (by omega) rfl
theorem zeros_f (n : Int) : octets_Zeros.f n = some (zerosS n) := by
  unfold octets_Zeros.f zerosS
  by_cases h1 : n < 1
  · rw [if_pos h1, if_pos h1]
  · rw [if_neg h1, if_neg h1]
    by_cases h2 : n > 65552
    · rw [if_pos h2, if_pos h2]
    · rw [if_neg h2, if_neg h2, if_pos (by omega), if_pos (by omega)]
theorem compareInt_f (x y : Int) : cmp_Compare_int.f x y = some (Lib.compareInt x y) := by
  have hn : ∀ z : Int, cmp_isNaN_int.f z = some false := fun z => by unfold cmp_isNaN_int.f; simp
  unfold cmp_Compare_int.f Lib.compareInt
  rw [hn, hn]
  simp only [Option.bind_some]
  rw [if_neg (show ¬ (false = true) by decide), if_neg (show ¬ (false = true) by decide)]
  by_cases h1 : x < y
  · rw [if_pos h1, if_pos h1]
  · rw [if_neg h1, if_neg h1]
    by_cases h2 : x > y
    · rw [if_pos h2, if_pos h2]
    · rw [if_neg h2, if_neg h2]
theorem mx_nat (a b : Nat) : mx (a : Int) (b : Int) = ((max a b : Nat) : Int) := by
  unfold mx
  split <;> omega
theorem compare_is (a b : ByteArray) (ha : a.size ≤ 60000) (hb : b.size ≤ 60000) : Ev (fun k => setof_compare.f k a b) (cmpR a b) := by
  have e1 : wrap64 (mx (a.size : Int) (b.size : Int) - (a.size : Int)) = ((max a.size b.size - a.size : Nat) : Int) := by rw [mx_nat]; exact (w64 (by omega) (by omega)).trans (by omega)
  have e2 : wrap64 (mx (a.size : Int) (b.size : Int) - (b.size : Int)) = ((max a.size b.size - b.size : Nat) : Int) := by rw [mx_nat]; exact (w64 (by omega) (by omega)).trans (by omega)
  have d1 := zerosS_data (max a.size b.size - a.size) (by omega)
  have d2 := zerosS_data (max a.size b.size - b.size) (by omega)
  have s1 : (zerosS ((max a.size b.size - a.size : Nat) : Int)).size = max a.size b.size - a.size := by rw [← data_length, d1, List.length_replicate]
  have s2 : (zerosS ((max a.size b.size - b.size : Nat) : Int)).size = max a.size b.size - b.size := by rw [← data_length, d2, List.length_replicate]
  refine Ev.congr (fun k => by rw [setof_compare.f, e1, e2]) ?_
  refine Ev.bindc (zeros_f _) (Ev.ifp (by omega) ?_)
  refine Ev.bindc (zeros_f _) (Ev.ifp (by omega) ?_)
  refine Ev.bindc (show strings_Compare.f _ _ = some _ from rfl) ?_
  refine Ev.bindc (compareInt_f _ _) ?_
  refine Ev.bind (Ev.of (cmp_Or_int.mono _) (or_two _ _)) ((Ev.now _).eq ?_)
  rw [str_data_append, str_data_append, d1, d2]
  have h := cmpB_pad a.data.toList b.data.toList
  rw [data_length, data_length] at h
  unfold cmpR
  rw [← h]
  congr 1
  unfold lenCmp Lib.compareInt
  rw [data_length, data_length]
  simp only [Int.ofNat_lt, gt_iff_lt]
/-- One text is less than another one: byte by byte, a beginning ahead of what goes on. -/
def ltB (a b : ByteArray) : Bool := decide (a.data.toList < b.data.toList)
theorem cmpR_lt (a b : ByteArray) : decide (cmpR a b < 0) = ltB a b := cmpB_lt _ _
theorem cmpR_lt_iff (a b : ByteArray) : cmpR a b < 0 ↔ ltB a b = true := by rw [← cmpR_lt]; exact decide_eq_true_iff.symm
theorem cmpB_zero : ∀ (a b : List UInt8), Lib.compareBytes a b = 0 ↔ a = b
  | [], [] => by simp [Lib.compareBytes]
  | [], y :: b => by simp [Lib.compareBytes]
  | x :: a, [] => by simp [Lib.compareBytes]
  | x :: a, y :: b => by
    have ih := cmpB_zero a b
    rw [Lib.compareBytes]
    by_cases h1 : x < y
    · rw [if_pos h1]
      have h3 : ¬ x = y := fun e => by subst e; exact absurd h1 (by simp)
      simp [h3]
    · rw [if_neg h1]
      by_cases h2 : y < x
      · rw [if_pos h2]
        have h3 : ¬ x = y := fun e => by subst e; exact absurd h2 (by simp)
        simp [h3]
      · rw [if_neg h2, ih]
        have h3 : x = y := UInt8.le_antisymm (UInt8.not_lt.1 h2) (UInt8.not_lt.1 h1)
        simp [h3]
theorem less_is (a b : ByteArray) (ha : a.size ≤ 60000) (hb : b.size ≤ 60000) : Ev (fun k => setof_Less.f k a b) (ltB a b) := by
  refine Ev.congr (fun k => by rw [setof_Less.f]) ?_
  refine Ev.bind (compare_is a b ha hb) ((Ev.now _).eq (cmpR_lt a b))
def risesB : List ByteArray → Bool
  | a :: b :: r => ltB a b && risesB (b :: r)
  | _ => true
theorem rises_two {l : List ByteArray} (i : Nat) (h : i + 1 < l.length) : risesB (l.drop i) = (ltB (l[i]'(by omega)) l[i + 1] && risesB (l.drop (i + 1))) := by
  rw [List.drop_eq_getElem_cons (by omega : i < l.length), List.drop_eq_getElem_cons h]
  rfl
theorem rises_end {l : List ByteArray} (i : Nat) (h : l.length ≤ i + 1) : risesB (l.drop i) = true := by
  have h2 : (l.drop i).length ≤ 1 := by rw [List.length_drop]; omega
  match hl : l.drop i, h2 with
  | [], _ => rfl
  | [a], _ => rfl
theorem rises_is (l : List ByteArray) (hl : l.length ≤ 1000000) (ha : ∀ x ∈ l, x.size ≤ 60000) : Ev (fun k => setof_Rises.f k l) (risesB l) := by
  have loop : ∀ d i : Nat, 1 ≤ i → l.length - i = d → Ev (fun k => setof_Rises.l0 k l (l.length : Int) (i : Int)) (risesB (l.drop (i - 1))) := by
    intro d
    induction d with
    | zero =>
      intro i h1 hd
      refine Ev.step (fun k => by rw [setof_Rises.l0]) ?_
      exact Ev.ifn (by omega) ((Ev.now _).eq (rises_end _ (by omega)).symm)
    | succ d ih =>
      intro i h1 hd
      have hlt : i < l.length := by omega
      have hw : wrap64 ((i : Int) + 1) = ((i + 1 : Nat) : Int) := (w64 (by omega) (by omega)).trans (by omega)
      have hw2 : wrap64 ((i : Int) - 1) = ((i - 1 : Nat) : Int) := (w64 (by omega) (by omega)).trans (by omega)
      refine Ev.step (fun k => by rw [setof_Rises.l0]) ?_
      rw [hw, hw2, rdOf_get _ _ hlt, rdOf_get _ _ (by omega : i - 1 < l.length)]
      refine Ev.ifp (by omega) (Ev.ifp (by omega) (Ev.ifp (by omega) (Ev.ifp (by omega) (Ev.ifp (by omega) (Ev.ifp (by omega) ?_)))))
      refine Ev.bind (compare_is _ _ (ha _ (List.getElem_mem _)) (ha _ (List.getElem_mem _))) ?_
      have e : risesB (l.drop (i - 1)) = (ltB (l[i - 1]'(by omega)) l[i] && risesB (l.drop i)) := by
        have h := rises_two (l := l) (i - 1) (by omega)
        simp only [Nat.sub_add_cancel h1] at h
        exact h
      rw [e]
      by_cases hc : cmpR (l[i - 1]'(by omega)) l[i] ≥ 0
      · refine Ev.ifp hc ((Ev.now _).eq ?_)
        have : ltB (l[i - 1]'(by omega)) l[i] = false := by
          rw [← cmpR_lt]
          exact decide_eq_false (by omega)
        rw [this]
        rfl
      · refine Ev.ifn hc ?_
        have : ltB (l[i - 1]'(by omega)) l[i] = true := by
          rw [← cmpR_lt]
          exact decide_eq_true (by omega)
        rw [this, Bool.true_and]
        exact ih (i + 1) (by omega) (by omega)
  refine Ev.congr (fun k => by rw [setof_Rises.f]) ?_
  by_cases h0 : l.length = 0
  · obtain rfl : l = [] := List.eq_nil_of_length_eq_zero h0
    refine Ev.step (fun k => by rw [setof_Rises.l0]) ?_
    exact Ev.ifn (by simp) (Ev.now _)
  · refine Ev.step (fun k => by rw [setof_Rises.l0]) ?_
    refine Ev.ifp (by omega) (Ev.ifn (by decide) ?_)
    rw [show wrap64 (0 + 1) = ((1 : Nat) : Int) from w64 (by omega) (by omega)]
    exact loop _ 1 (Nat.le_refl _) rfl
theorem sort_is (l : List ByteArray) (hl : l.length ≤ 1000000) (ha : ∀ x ∈ l, x.size ≤ 60000) : setof_Sort.f l = some (sortB l) := by
  unfold setof_Sort.f
  rw [if_pos ⟨hl, List.all_eq_true.2 fun x hx => by simpa using ha x hx⟩]
theorem leB_tr : ∀ a b c : List UInt8, leB a b = true → leB b c = true → leB a c = true := fun a b c h1 h2 => by simp only [leB, decide_eq_true_eq] at *; exact List.le_trans h1 h2
theorem leB_tot : ∀ a b : List UInt8, (leB a b || leB b a) = true := fun a b => by simp only [leB, Bool.or_eq_true, decide_eq_true_eq]; exact List.le_total a b
theorem sorted_one {l r : List (List UInt8)} (hr : r.Pairwise fun a b => leB a b = true) (hp : r.Perm l) : l.mergeSort leB = r := by
  refine List.Perm.eq_of_pairwise (le := fun a b => leB a b = true) (fun a b _ _ h1 h2 => ?_) (List.pairwise_mergeSort leB_tr leB_tot l) hr ((List.mergeSort_perm l leB).trans hp.symm)
  simp only [leB, decide_eq_true_eq] at h1 h2
  exact List.le_antisymm h1 h2
theorem sortB_data (l : List ByteArray) : (sortB l).map (fun s => s.data.toList) = (l.map fun s => s.data.toList).mergeSort leB := by
  unfold sortB
  simp [List.map_map, Function.comp_def]
theorem data_map (l : List ByteArray) : (l.map fun s => s.data.toList).map (fun b => (⟨b.toArray⟩ : ByteArray)) = l := by
  simp [List.map_map, Function.comp_def]
theorem sortB_one {l r : List ByteArray} (hr : (r.map fun s => s.data.toList).Pairwise fun a b => leB a b = true) (hp : r.Perm l) : sortB l = r := by
  unfold sortB
  rw [sorted_one hr (hp.map _), data_map]
theorem sortB_perm (l : List ByteArray) : (sortB l).Perm l := by
  have h := (List.mergeSort_perm (l.map fun s => s.data.toList) leB).map (fun b => (⟨b.toArray⟩ : ByteArray))
  rw [data_map] at h
  exact h
theorem sortB_pair (l : List ByteArray) : ((sortB l).map fun s => s.data.toList).Pairwise fun a b => leB a b = true := by
  rw [sortB_data]
  exact List.pairwise_mergeSort leB_tr leB_tot _
theorem sortB_sortB (l : List ByteArray) : sortB (sortB l) = sortB l := sortB_one (sortB_pair l) (List.Perm.refl _)
theorem sortB_mem (l : List ByteArray) : ∀ x ∈ sortB l, x ∈ l := fun x hx => (sortB_perm l).mem_iff.1 hx
theorem sortB_len (l : List ByteArray) : (sortB l).length = l.length := (sortB_perm l).length_eq
theorem shorts_is (l : List ByteArray) (hl : l.length ≤ 9223372036854775807) : ∃ t, Ev (fun k => clavigerplain_Shorts.f k l 30 100) t ∧ (t = true → l.length ≤ 30 ∧ ∀ x ∈ l, x.size ≤ 100) := by
  have loop : ∀ d i : Nat, i + d = l.length → ∃ t, Ev (fun k => clavigerplain_Shorts.l0 k l 100 (i : Int)) t ∧ (t = true → ∀ x ∈ l.drop i, x.size ≤ 100) := by
    intro d
    induction d with
    | zero =>
      intro i hd
      refine ⟨true, Ev.step (fun k => by rw [clavigerplain_Shorts.l0]) (Ev.ifn (by omega) (Ev.now _)), fun _ x hx => ?_⟩
      rw [List.drop_eq_nil_of_le (by omega)] at hx
      cases hx
    | succ d ih =>
      intro i hd
      have hlt : i < l.length := by omega
      have hw : wrap64 ((i : Int) + 1) = ((i + 1 : Nat) : Int) := (w64 (by omega) (by omega)).trans (by omega)
      by_cases h : (l[i].size : Int) > 100
      · refine ⟨false, ?_, fun e => by cases e⟩
        refine Ev.step (fun k => by rw [clavigerplain_Shorts.l0]) ?_
        rw [rdOf_get _ _ hlt]
        exact Ev.ifp (by omega) (Ev.ifp (by omega) (Ev.ifp h (Ev.now _)))
      · obtain ⟨t, ht, hk⟩ := ih (i + 1) (by omega)
        refine ⟨t, ?_, fun e x hx => ?_⟩
        · refine Ev.step (fun k => by rw [clavigerplain_Shorts.l0]) ?_
          rw [rdOf_get _ _ hlt, hw]
          exact Ev.ifp (by omega) (Ev.ifp (by omega) (Ev.ifn h ht))
        · rw [List.drop_eq_getElem_cons hlt] at hx
          rcases List.mem_cons.1 hx with rfl | hx
          · omega
          · exact hk e x hx
  by_cases h : (l.length : Int) > 30
  · refine ⟨false, ?_, fun e => by cases e⟩
    refine Ev.congr (fun k => by rw [clavigerplain_Shorts.f]) ?_
    exact Ev.ifp h (Ev.now _)
  · obtain ⟨t, ht0, hk⟩ := loop l.length 0 (by omega)
    have ht : Ev (fun k => clavigerplain_Shorts.l0 k l 100 0) t := ht0
    refine ⟨t, ?_, fun e => ⟨by omega, fun x hx => hk e x (by simpa using hx)⟩⟩
    refine Ev.congr (fun k => by rw [clavigerplain_Shorts.f]) ?_
    exact Ev.ifn h ht
theorem awake21 : Ev (fun k => clavigerlaw21_awake.f k) true := by
  refine Ev.congr (fun k => by rw [clavigerlaw21_awake.f]) ?_
  refine Ev.bind (less_is _ _ (by decide) (by decide)) (Ev.ifp (by kernel_rfl) ?_)
  refine Ev.bind (less_is _ _ (by decide) (by decide)) (Ev.ifn (by rw [show ltB ⟨#[97, 0]⟩ ⟨#[97]⟩ = false by kernel_rfl]; decide) ?_)
  refine Ev.bind (less_is _ _ (by decide) (by decide)) (Ev.ifp (by kernel_rfl) ?_)
  refine Ev.bind (rises_is _ (by decide) (by decide)) (Ev.ifp (by kernel_rfl) ?_)
  have hs : sortB [⟨#[98]⟩, ⟨#[97]⟩, ⟨#[98]⟩] = [⟨#[97]⟩, ⟨#[98]⟩, ⟨#[98]⟩] := sortB_one (by decide) (List.Perm.swap _ _ _)
  refine Ev.bindc (sort_is _ (by decide) (by decide)) ?_
  rw [hs]
  exact Ev.bind (slices_Equal_refl _ (by decide)) (Ev.now _)
/-- Where two texts differ first, the shorter one gone on with zeros. -/
def zc : List UInt8 → List UInt8 → Option Bool
  | [], [] => none
  | [], y :: v => if y = 0 then zc [] v else some true
  | x :: u, [] => if x = 0 then zc u [] else some false
  | x :: u, y :: v => if x = y then zc u v else some (decide (x < y))
theorem zc_nil : ∀ v, zc [] v = none ∨ zc [] v = some true
  | [] => Or.inl (by simp [zc])
  | y :: v => by
    rw [zc]
    by_cases h : y = 0
    · rw [if_pos h]; exact zc_nil v
    · rw [if_neg h]; exact Or.inr rfl
theorem zc_nil2 : ∀ u, zc u [] = none ∨ zc u [] = some false
  | [] => Or.inl (by simp [zc])
  | x :: u => by
    rw [zc]
    by_cases h : x = 0
    · rw [if_pos h]; exact zc_nil2 u
    · rw [if_neg h]; exact Or.inr rfl
theorem zc_lt : ∀ (u v : List UInt8), (zc u v).getD (decide (u.length < v.length)) = decide (u < v)
  | [], [] => by simp [zc]
  | [], y :: v => by rcases zc_nil (y :: v) with h | h <;> rw [h] <;> simp
  | x :: u, [] => by rcases zc_nil2 (x :: u) with h | h <;> rw [h] <;> simp
  | x :: u, y :: v => by
    have ih := zc_lt u v
    rw [zc]
    by_cases h : x = y
    · subst h
      rw [if_pos rfl]
      simp only [List.length_cons, Nat.add_lt_add_iff_right]
      rw [ih]
      simp [List.cons_lt_cons_iff]
    · rw [if_neg h]
      simp [List.cons_lt_cons_iff, h]
def byte21 (l : List UInt8) : Int := match l with
  | [] => 0
  | b :: _ => (b.toNat : Int)
theorem byte_is (a : ByteArray) (i : Nat) (hi : i ≤ 100000) : clavigerref21_byte0.f a (i : Int) = some (byte21 (a.data.toList.drop i)) := by
  have hl : a.data.toList.length = a.size := data_length a
  unfold clavigerref21_byte0.f
  by_cases h : i < a.size
  · rw [if_pos (by omega), if_pos (by omega), List.drop_eq_getElem_cons (by omega)]
    have hb : bt a (i : Int) = ((a.data.toList[i]'(by omega)).toNat : Int) := by
      unfold bt
      rw [dif_pos (by simpa using h)]
      rfl
    have := (a.data.toList[i]'(by omega)).toNat_lt
    rw [hb, w64 (by omega) (by omega)]
    rfl
  · rw [if_neg (by omega), List.drop_eq_nil_of_le (by omega)]
    rfl
theorem ref_less_is (a b : ByteArray) (ha : a.size ≤ 1000) (hb : b.size ≤ 1000) : Ev (fun k => clavigerref21_Less.f k a b) (ltB a b) := by
  have la : a.data.toList.length = a.size := data_length a
  have lb : b.data.toList.length = b.size := data_length b
  have loop : ∀ d i : Nat, max a.size b.size - i = d → i ≤ 1000 → Ev (fun k => clavigerref21_Less.l0 k a b (i : Int)) ((zc (a.data.toList.drop i) (b.data.toList.drop i)).getD (decide (a.size < b.size))) := by
    intro d
    induction d with
    | zero =>
      intro i hd hi
      refine Ev.step (fun k => by rw [clavigerref21_Less.l0]) ?_
      refine Ev.ifn (by omega) ?_
      refine Ev.step (fun k => by rw [clavigerref21_Less.j1]) ?_
      refine Ev.ifn (by simp; omega) ((Ev.now _).eq ?_)
      rw [List.drop_eq_nil_of_le (by omega), List.drop_eq_nil_of_le (by omega)]
      simp [zc]
    | succ d ih =>
      intro i hd hi
      have hw : wrap64 ((i : Int) + 1) = ((i + 1 : Nat) : Int) := (w64 (by omega) (by omega)).trans (by omega)
      have hj : Ev (fun k => clavigerref21_Less.j1 k a b (i : Int) true) ((zc (a.data.toList.drop i) (b.data.toList.drop i)).getD (decide (a.size < b.size))) := by
        refine Ev.step (fun k => by rw [clavigerref21_Less.j1]) ?_
        refine Ev.ifp rfl ?_
        refine Ev.bindc (byte_is a i (by omega)) (Ev.bindc (byte_is b i (by omega)) ?_)
        have inext := ih (i + 1) (by omega) (by omega)
        rw [← hw] at inext
        by_cases h1 : i < a.size
        · by_cases h2 : i < b.size
          · rw [List.drop_eq_getElem_cons (by omega : i < a.data.toList.length), List.drop_eq_getElem_cons (by omega : i < b.data.toList.length)]
            rw [zc]
            by_cases h3 : a.data.toList[i]'(by omega) = b.data.toList[i]'(by omega)
            · rw [if_pos h3]
              exact Ev.ifp (by show ((_ : Nat) : Int) = ((_ : Nat) : Int); rw [h3]) inext
            · rw [if_neg h3]
              refine Ev.ifn (fun e => h3 (UInt8.toNat_inj.1 (by have : (((a.data.toList[i]'(by omega)).toNat : Int)) = ((b.data.toList[i]'(by omega)).toNat : Int) := e; omega))) ?_
              refine Ev.bindc (byte_is a i (by omega)) (Ev.bindc (byte_is b i (by omega)) ((Ev.now _).eq ?_))
              rw [List.drop_eq_getElem_cons (by omega : i < a.data.toList.length), List.drop_eq_getElem_cons (by omega : i < b.data.toList.length)]
              show decide (((a.data.toList[i]'(by omega)).toNat : Int) < ((b.data.toList[i]'(by omega)).toNat : Int)) = decide _
              exact decide_eq_decide.2 (by rw [UInt8.lt_iff_toNat_lt]; omega)
          · rw [List.drop_eq_getElem_cons (by omega : i < a.data.toList.length), List.drop_eq_nil_of_le (by omega : b.data.toList.length ≤ i)]
            rw [List.drop_eq_nil_of_le (by omega : b.data.toList.length ≤ i + 1)] at inext
            rw [zc]
            by_cases h3 : a.data.toList[i]'(by omega) = 0
            · rw [if_pos h3]
              exact Ev.ifp (by show ((_ : Nat) : Int) = (0 : Int); rw [h3]; rfl) inext
            · rw [if_neg h3]
              have h4 : (a.data.toList[i]'(by omega)).toNat ≠ 0 := fun e => h3 (UInt8.toNat_inj.1 e)
              refine Ev.ifn (fun e => by have : (((a.data.toList[i]'(by omega)).toNat : Int)) = 0 := e; omega) ?_
              refine Ev.bindc (byte_is a i (by omega)) (Ev.bindc (byte_is b i (by omega)) ((Ev.now _).eq ?_))
              rw [List.drop_eq_getElem_cons (by omega : i < a.data.toList.length), List.drop_eq_nil_of_le (by omega : b.data.toList.length ≤ i)]
              show decide (((a.data.toList[i]'(by omega)).toNat : Int) < (0 : Int)) = false
              exact decide_eq_false (by omega)
        · have h2 : i < b.size := by omega
          rw [List.drop_eq_nil_of_le (by omega : a.data.toList.length ≤ i), List.drop_eq_getElem_cons (by omega : i < b.data.toList.length)]
          rw [List.drop_eq_nil_of_le (by omega : a.data.toList.length ≤ i + 1)] at inext
          rw [zc]
          by_cases h3 : b.data.toList[i]'(by omega) = 0
          · rw [if_pos h3]
            exact Ev.ifp (by show (0 : Int) = ((_ : Nat) : Int); rw [h3]; rfl) inext
          · rw [if_neg h3]
            have h4 : (b.data.toList[i]'(by omega)).toNat ≠ 0 := fun e => h3 (UInt8.toNat_inj.1 e)
            refine Ev.ifn (fun e => by have : (0 : Int) = (((b.data.toList[i]'(by omega)).toNat : Int)) := e; omega) ?_
            refine Ev.bindc (byte_is a i (by omega)) (Ev.bindc (byte_is b i (by omega)) ((Ev.now _).eq ?_))
            rw [List.drop_eq_nil_of_le (by omega : a.data.toList.length ≤ i), List.drop_eq_getElem_cons (by omega : i < b.data.toList.length)]
            show decide ((0 : Int) < ((b.data.toList[i]'(by omega)).toNat : Int)) = true
            exact decide_eq_true (by omega)
      refine Ev.step (fun k => by rw [clavigerref21_Less.l0]) ?_
      by_cases h1 : (i : Int) < (a.size : Int)
      · exact Ev.ifp h1 hj
      · refine Ev.ifn h1 ?_
        rw [decide_eq_true (by omega : (i : Int) < (b.size : Int))]
        exact hj
  refine Ev.congr (fun k => by rw [clavigerref21_Less.f]) ?_
  refine (loop _ 0 rfl (by omega)).eq ?_
  rw [List.drop_zero, List.drop_zero, ← la, ← lb]
  exact zc_lt _ _
theorem ref_rises_is (l : List ByteArray) (hl : l.length ≤ 1000000) (ha : ∀ x ∈ l, x.size ≤ 1000) : Ev (fun k => clavigerref21_Rises.f k l) (risesB l) := by
  have loop : ∀ d i : Nat, 1 ≤ i → l.length - i = d → Ev (fun k => clavigerref21_Rises.l0 k l (i : Int)) (risesB (l.drop (i - 1))) := by
    intro d
    induction d with
    | zero =>
      intro i h1 hd
      refine Ev.step (fun k => by rw [clavigerref21_Rises.l0]) ?_
      exact Ev.ifn (by omega) ((Ev.now _).eq (rises_end _ (by omega)).symm)
    | succ d ih =>
      intro i h1 hd
      have hlt : i < l.length := by omega
      have hw : wrap64 ((i : Int) + 1) = ((i + 1 : Nat) : Int) := (w64 (by omega) (by omega)).trans (by omega)
      have hw2 : wrap64 ((i : Int) - 1) = ((i - 1 : Nat) : Int) := (w64 (by omega) (by omega)).trans (by omega)
      refine Ev.step (fun k => by rw [clavigerref21_Rises.l0]) ?_
      rw [hw, hw2, rdOf_get _ _ hlt, rdOf_get _ _ (by omega : i - 1 < l.length)]
      refine Ev.ifp (by omega) (Ev.ifp (by omega) (Ev.ifp (by omega) (Ev.ifp (by omega) ?_)))
      refine Ev.bind (ref_less_is _ _ (ha _ (List.getElem_mem _)) (ha _ (List.getElem_mem _))) ?_
      have e : risesB (l.drop (i - 1)) = (ltB (l[i - 1]'(by omega)) l[i] && risesB (l.drop i)) := by
        have h := rises_two (l := l) (i - 1) (by omega)
        simp only [Nat.sub_add_cancel h1] at h
        exact h
      rw [e]
      cases hc : ltB (l[i - 1]'(by omega)) l[i] with
      | true => exact Ev.ifp rfl (ih (i + 1) (by omega) (by omega))
      | false => exact Ev.ifn (by decide) (Ev.now _)
  refine Ev.congr (fun k => by rw [clavigerref21_Rises.f]) ?_
  by_cases h0 : l.length = 0
  · obtain rfl : l = [] := List.eq_nil_of_length_eq_zero h0
    refine Ev.step (fun k => by rw [clavigerref21_Rises.l0]) ?_
    exact Ev.ifn (by simp) (Ev.now _)
  · exact loop _ 1 (Nat.le_refl _) rfl
theorem rises_pair : ∀ (l : List ByteArray), risesB l = true → l.Pairwise fun a b => ltB a b = true
  | [], _ => List.Pairwise.nil
  | [a], _ => List.pairwise_singleton _ _
  | a :: b :: r, h => by
    rw [risesB, Bool.and_eq_true] at h
    have ih := rises_pair (b :: r) h.2
    refine List.pairwise_cons.2 ⟨fun x hx => ?_, ih⟩
    rcases List.mem_cons.1 hx with rfl | hx
    · exact h.1
    · have h2 := (List.pairwise_cons.1 ih).1 x hx
      have h3 := h.1
      simp only [ltB, decide_eq_true_eq] at h2 h3 ⊢
      exact List.lt_trans h3 h2
theorem bs_spec (l : List ByteArray) (s : ByteArray) (hp : l.Pairwise fun a b => ltB a b = true) : ∀ (q lo hi : Nat), lo ≤ hi → hi ≤ l.length → hi - lo < q → (∀ t (h : t < l.length), t < lo → ltB l[t] s = true) → (∀ t (h : t < l.length), hi ≤ t → ltB l[t] s = false) → bs0 l s q lo hi = l.countP fun x => ltB x s
  | 0, lo, hi, _, _, h, _, _ => absurd h (Nat.not_lt_zero _)
  | q + 1, lo, hi, h1, h2, h3, ha, hb => by
    rw [bs0]
    by_cases hlt : lo < hi
    · rw [if_pos hlt]
      have hm : (lo + hi) / 2 < l.length := by omega
      have e : l.getD ((lo + hi) / 2) ByteArray.empty = l[(lo + hi) / 2] := by simp [List.getD_eq_getElem?_getD, hm]
      rw [e]
      have mono : ∀ i j (hi : i < l.length) (hj : j < l.length), i < j → ltB l[i] l[j] = true := fun i j hi hj hij => (List.pairwise_iff_getElem.1 hp) i j hi hj hij
      by_cases hc : cmpR l[(lo + hi) / 2] s < 0
      · rw [if_pos hc]
        have hc2 := (cmpR_lt_iff _ _).1 hc
        refine bs_spec l s hp q _ hi (by omega) h2 (by omega) (fun t ht h4 => ?_) hb
        rcases Nat.lt_or_ge t ((lo + hi) / 2) with h5 | h5
        · have h6 := mono t _ ht hm h5
          simp only [ltB, decide_eq_true_eq] at h6 hc2 ⊢
          exact List.lt_trans h6 hc2
        · have : t = (lo + hi) / 2 := by omega
          subst this
          exact hc2
      · rw [if_neg hc]
        have hc2 : ltB l[(lo + hi) / 2] s = false := Bool.eq_false_iff.2 (fun h => hc ((cmpR_lt_iff _ _).2 h))
        refine bs_spec l s hp q lo _ (by omega) (by omega) (by omega) ha (fun t ht h4 => ?_)
        rcases Nat.lt_or_ge ((lo + hi) / 2) t with h5 | h5
        · have h6 := mono _ t hm ht h5
          cases h7 : ltB l[t] s with
          | false => rfl
          | true =>
            rw [← hc2]
            simp only [ltB, decide_eq_true_eq] at h6 h7 ⊢
            exact (decide_eq_true (List.lt_trans h6 h7)).symm
        · have : t = (lo + hi) / 2 := by omega
          subst this
          exact hc2
    · rw [if_neg hlt]
      have : hi = lo := by omega
      subst this
      have e1 : l.countP (fun x => ltB x s) = (l.take hi).countP (fun x => ltB x s) + (l.drop hi).countP (fun x => ltB x s) := by
        rw [← List.countP_append, List.take_append_drop]
      have e2 : (l.take hi).countP (fun x => ltB x s) = hi := by
        have : (l.take hi).countP (fun x => ltB x s) = (l.take hi).length := by
          rw [List.countP_eq_length]
          intro x hx
          obtain ⟨i, hi', rfl⟩ := List.getElem_of_mem hx
          rw [List.length_take] at hi'
          rw [List.getElem_take]
          exact ha i (by omega) (by omega)
        rw [this, List.length_take]
        omega
      have e3 : (l.drop hi).countP (fun x => ltB x s) = 0 := by
        rw [List.countP_eq_zero]
        intro x hx
        obtain ⟨i, hi', rfl⟩ := List.getElem_of_mem hx
        rw [List.length_drop] at hi'
        rw [List.getElem_drop, hb (hi + i) (by omega) (by omega)]
        decide
      omega
def isIn21 (l : List ByteArray) (s : ByteArray) : Bool := l.any fun x => x.toList == s.toList
theorem bs_is (l : List ByteArray) (s : ByteArray) (hr : risesB l = true) : bsAt l s = l.countP (fun x => ltB x s) ∧ bsIs l s = isIn21 l s := by
  have hp := rises_pair l hr
  have e1 : bsAt l s = l.countP fun x => ltB x s := bs_spec l s hp _ 0 l.length (Nat.zero_le _) (Nat.le_refl _) (by omega) (fun t _ h => absurd h (Nat.not_lt_zero _)) (fun t h1 h2 => by omega)
  refine ⟨e1, ?_⟩
  have mono : ∀ i j (hi : i < l.length) (hj : j < l.length), i < j → ltB l[i] l[j] = true := fun i j hi hj hij => (List.pairwise_iff_getElem.1 hp) i j hi hj hij
  have eqd : ∀ x : ByteArray, (x.toList == s.toList) = true ↔ x.data.toList = s.data.toList := fun x => by rw [beq_iff_eq, toList_data, toList_data]
  rw [Bool.eq_iff_iff]
  unfold bsIs isIn21
  rw [Bool.and_eq_true, decide_eq_true_eq, decide_eq_true_eq, List.any_eq_true]
  constructor
  · rintro ⟨h1, h2⟩
    rw [List.getD_eq_getElem?_getD, List.getElem?_eq_getElem h1] at h2
    exact ⟨_, List.getElem_mem h1, (eqd _).2 ((cmpB_zero _ _).1 h2)⟩
  · rintro ⟨x, hx, he⟩
    obtain ⟨i, hi, rfl⟩ := List.getElem_of_mem hx
    have hd := (eqd _).1 he
    have key : l.countP (fun x => ltB x s) = i := by
      have e4 : l.countP (fun x => ltB x s) = (l.take i).countP (fun x => ltB x s) + (l.drop i).countP (fun x => ltB x s) := by
        rw [← List.countP_append, List.take_append_drop]
      have e5 : (l.take i).countP (fun x => ltB x s) = i := by
        have : (l.take i).countP (fun x => ltB x s) = (l.take i).length := by
          rw [List.countP_eq_length]
          intro x hx
          obtain ⟨j, hj, rfl⟩ := List.getElem_of_mem hx
          rw [List.length_take] at hj
          rw [List.getElem_take]
          have := mono j i (by omega) hi (by omega)
          simp only [ltB] at this ⊢
          rw [hd] at this
          exact this
        rw [this, List.length_take]
        omega
      have e6 : (l.drop i).countP (fun x => ltB x s) = 0 := by
        rw [List.countP_eq_zero]
        intro x hx
        obtain ⟨j, hj, rfl⟩ := List.getElem_of_mem hx
        rw [List.length_drop] at hj
        rw [List.getElem_drop]
        rcases Nat.eq_zero_or_pos j with h0 | h0
        · subst h0
          simp only [Nat.add_zero, ltB, hd, decide_eq_true_eq]
          exact List.lt_irrefl _
        · have h7 := mono i (i + j) hi (by omega) (by omega)
          simp only [ltB, decide_eq_true_eq] at h7 ⊢
          rw [hd] at h7
          exact fun h8 => List.lt_irrefl _ (List.lt_trans h7 h8)
      omega
    rw [e1, key]
    refine ⟨hi, ?_⟩
    rw [List.getD_eq_getElem?_getD, List.getElem?_eq_getElem hi]
    exact (cmpB_zero _ _).2 hd
def placeT (l : List ByteArray) (s : ByteArray) : Int × Bool := if risesB l = true then ((l.countP fun x => ltB x s : Nat), isIn21 l s) else (0, false)
theorem place_is (l : List ByteArray) (s : ByteArray) (hl : l.length ≤ 1000000) (hs : s.size ≤ 60000) (ha : ∀ x ∈ l, x.size ≤ 60000) : Ev (fun k => setof_Place.f k l s) (placeT l s) := by
  refine Ev.congr (fun k => by rw [setof_Place.f]) ?_
  refine Ev.bind (rises_is l hl ha) ?_
  unfold placeT
  cases hr : risesB l with
  | true =>
    refine Ev.ifp rfl ?_
    obtain ⟨e1, e2⟩ := bs_is l s hr
    refine Ev.ifp ⟨hl, hs, List.all_eq_true.2 fun x hx => by simpa using ha x hx⟩ ((Ev.now _).eq ?_)
    rw [if_pos rfl, e1, e2]
  | false => exact Ev.ifn (by decide) ((Ev.now _).eq rfl)
theorem ref_place_is (l : List ByteArray) (s : ByteArray) (hl : l.length ≤ 1000) (hs : s.size ≤ 1000) (ha : ∀ x ∈ l, x.size ≤ 1000) : Ev (fun k => clavigerref21_Place.f k l s) (placeT l s) := by
  have loop : ∀ (d i n : Nat) (b : Bool), i + d = l.length → n ≤ i → Ev (fun k => clavigerref21_Place.l0 k l s (n : Int) b (i : Int)) (((n + (l.drop i).countP (fun x => ltB x s) : Nat) : Int), (b || isIn21 (l.drop i) s)) := by
    intro d
    induction d with
    | zero =>
      intro i n b hd hn
      refine Ev.step (fun k => by rw [clavigerref21_Place.l0]) ?_
      refine Ev.ifn (by omega) ((Ev.now _).eq ?_)
      rw [List.drop_eq_nil_of_le (by omega)]
      simp [isIn21]
    | succ d ih =>
      intro i n b hd hn
      have hlt : i < l.length := by omega
      have hw : wrap64 ((i : Int) + 1) = ((i + 1 : Nat) : Int) := (w64 (by omega) (by omega)).trans (by omega)
      have hw2 : wrap64 ((n : Int) + 1) = ((n + 1 : Nat) : Int) := (w64 (by omega) (by omega)).trans (by omega)
      refine Ev.step (fun k => by rw [clavigerref21_Place.l0]) ?_
      rw [hw, hw2, rdOf_get _ _ hlt, List.drop_eq_getElem_cons hlt]
      refine Ev.ifp (by omega) (Ev.ifp (by omega) ?_)
      refine Ev.bind (ref_less_is _ _ (ha _ (List.getElem_mem _)) hs) ?_
      have e2 : ∀ b' : Bool, (b' || isIn21 (l[i] :: l.drop (i + 1)) s) = ((b' || (l[i].toList == s.toList)) || isIn21 (l.drop (i + 1)) s) := fun b' => by simp only [isIn21, List.any_cons, Bool.or_assoc]
      cases hc : ltB l[i] s with
      | true =>
        refine Ev.ifp rfl ?_
        have e3 : n + (l[i] :: l.drop (i + 1)).countP (fun x => ltB x s) = n + 1 + (l.drop (i + 1)).countP (fun x => ltB x s) := by
          rw [List.countP_cons_of_pos (p := fun x => ltB x s) hc]; omega
        rw [e3, e2]
        by_cases h : l[i].toList = s.toList
        · rw [show (l[i].toList == s.toList) = true from beq_iff_eq.2 h, Bool.or_true]
          exact Ev.ifp h (ih (i + 1) (n + 1) true (by omega) (by omega))
        · rw [show (l[i].toList == s.toList) = false from beq_eq_false_iff_ne.2 h, Bool.or_false]
          exact Ev.ifn h (ih (i + 1) (n + 1) b (by omega) (by omega))
      | false =>
        refine Ev.ifn (by decide) ?_
        have e3 : n + (l[i] :: l.drop (i + 1)).countP (fun x => ltB x s) = n + (l.drop (i + 1)).countP (fun x => ltB x s) := by
          rw [List.countP_cons_of_neg (p := fun x => ltB x s) (by show ¬ ltB l[i] s = true; rw [hc]; decide)]
        rw [e3, e2]
        by_cases h : l[i].toList = s.toList
        · rw [show (l[i].toList == s.toList) = true from beq_iff_eq.2 h, Bool.or_true]
          exact Ev.ifp h (ih (i + 1) n true (by omega) (by omega))
        · rw [show (l[i].toList == s.toList) = false from beq_eq_false_iff_ne.2 h, Bool.or_false]
          exact Ev.ifn h (ih (i + 1) n b (by omega) (by omega))
  refine Ev.congr (fun k => by rw [clavigerref21_Place.f]) ?_
  refine Ev.bind (ref_rises_is l (by omega) ha) ?_
  unfold placeT
  cases hr : risesB l with
  | true =>
    refine Ev.ifp rfl ((loop l.length 0 0 false (Nat.zero_add _) (Nat.le_refl _)).eq ?_)
    rw [if_pos rfl]
    simp
  | false => exact Ev.ifn (by decide) ((Ev.now _).eq rfl)
theorem sortB_least (l : List ByteArray) (i : Nat) (h : i < l.length) (hm : ∀ j (hj : j < l.length), ltB l[j] l[i] = false) : sortB l = l[i] :: sortB (l.eraseIdx i) := by
  refine sortB_one ?_ ?_
  · rw [List.map_cons, List.pairwise_cons]
    refine ⟨fun a ha => ?_, sortB_pair _⟩
    obtain ⟨x, hx, rfl⟩ := List.mem_map.1 ha
    have hx2 := List.mem_of_mem_eraseIdx (sortB_mem _ x hx)
    obtain ⟨j, hj, rfl⟩ := List.getElem_of_mem hx2
    have := hm j hj
    simp only [ltB, decide_eq_false_iff_not] at this
    simp only [leB, decide_eq_true_eq]
    exact List.not_lt.1 this
  · have e : l = l.take i ++ l[i] :: l.drop (i + 1) := by rw [← List.drop_eq_getElem_cons h, List.take_append_drop]
    have e2 : l.eraseIdx i = l.take i ++ l.drop (i + 1) := List.eraseIdx_eq_take_drop_succ l i
    refine ((sortB_perm _).cons _).trans ?_
    rw [e2]
    have h3 : (l[i] :: (l.take i ++ l.drop (i + 1))).Perm (l.take i ++ l[i] :: l.drop (i + 1)) := List.perm_middle.symm
    rwa [← e] at h3
theorem ref_sort_is (l : List ByteArray) (hl : l.length ≤ 1000) (ha : ∀ x ∈ l, x.size ≤ 1000) : Ev (fun k => clavigerref21_Sort.f k l) (sortB l) := by
  have outer : ∀ (n : Nat) (L out : List ByteArray), L.length = n → L.length ≤ 1000 → out.length + L.length ≤ 1000 → (∀ x ∈ L, x.size ≤ 1000) → Ev (fun k => clavigerref21_Sort.l0 k L out) (out ++ sortB L) := by
    intro n
    induction n with
    | zero =>
      intro L out hn _ _ _
      obtain rfl : L = [] := List.eq_nil_of_length_eq_zero hn
      refine Ev.step (fun k => by rw [clavigerref21_Sort.l0]) ?_
      exact Ev.ifn (by decide) ((Ev.now _).eq (by simp [sortB]))
    | succ n ihn =>
      intro L out hn hL ho hx
      have inner : ∀ (d i b : Nat), i + d = L.length → 1 ≤ i → (hb : b < i) → (hbl : b < L.length) → (∀ j (hj : j < L.length), j < i → ltB L[j] L[b] = false) → Ev (fun k => clavigerref21_Sort.l1 k L out (b : Int) (i : Int)) (out ++ sortB L) := by
        intro d
        induction d with
        | zero =>
          intro i b hd h1 hb hbl hm
          refine Ev.step (fun k => by rw [clavigerref21_Sort.l1]) ?_
          have hw : wrap64 ((b : Int) + 1) = ((b + 1 : Nat) : Int) := (w64 (by omega) (by omega)).trans (by omega)
          rw [hw, rdOf_get _ _ hbl, Int.toNat_natCast]
          refine Ev.ifn (by omega) (Ev.ifp (by omega) (Ev.ifp (by omega) (Ev.ifp (by omega) (Ev.ifp (by omega) (Ev.ifp (by omega) (Ev.ifp (by omega) ?_))))))
          have he : (L.eraseIdx b).length = n := by rw [List.length_eraseIdx, if_pos hbl]; omega
          refine (ihn (L.eraseIdx b) (out ++ [L[b]]) he (by omega) (by simp; omega) (fun x h => hx x (List.mem_of_mem_eraseIdx h))).eq ?_
          rw [sortB_least L b hbl (fun j hj => hm j hj (by omega))]
          simp
        | succ d ih =>
          intro i b hd h1 hb hbl hm
          have hlt : i < L.length := by omega
          refine Ev.step (fun k => by rw [clavigerref21_Sort.l1]) ?_
          have hw : wrap64 ((i : Int) + 1) = ((i + 1 : Nat) : Int) := (w64 (by omega) (by omega)).trans (by omega)
          rw [hw, rdOf_get _ _ hbl, rdOf_get _ _ hlt]
          refine Ev.ifp (by omega) (Ev.ifp (by omega) (Ev.ifp (by omega) (Ev.ifp (by omega) ?_)))
          refine Ev.bind (ref_less_is _ _ (hx _ (List.getElem_mem _)) (hx _ (List.getElem_mem _))) ?_
          cases hc : ltB L[i] L[b] with
          | true =>
            refine Ev.ifp rfl (ih (i + 1) i (by omega) (by omega) (by omega) hlt (fun j hj hji => ?_))
            rcases Nat.lt_or_ge j i with h5 | h5
            · have h6 := hm j hj h5
              cases h7 : ltB L[j] L[i] with
              | false => rfl
              | true =>
                rw [← h6]
                simp only [ltB, decide_eq_true_eq] at h7 hc ⊢
                exact (decide_eq_true (List.lt_trans h7 hc)).symm
            · have : j = i := by omega
              subst this
              simp only [ltB, decide_eq_false_iff_not]
              exact List.lt_irrefl _
          | false =>
            refine Ev.ifn (by decide) (ih (i + 1) b (by omega) (by omega) (by omega) hbl (fun j hj hji => ?_))
            rcases Nat.lt_or_ge j i with h5 | h5
            · exact hm j hj h5
            · have : j = i := by omega
              subst this
              exact hc
      refine Ev.step (fun k => by rw [clavigerref21_Sort.l0]) ?_
      refine Ev.ifp (by omega) ?_
      refine inner (L.length - 1) 1 0 (by omega) (Nat.le_refl _) (by omega) (by omega) (fun j hj h => ?_)
      have : j = 0 := by omega
      subst this
      simp only [ltB, decide_eq_false_iff_not]
      exact List.lt_irrefl _
  refine Ev.congr (fun k => by rw [clavigerref21_Sort.f]) ?_
  refine Ev.bindc rfl (Ev.ifp (by simp; omega) ?_)
  exact (outer l.length l [] rfl hl (by simpa using hl) ha).eq (by simp)
theorem SetofTells : clavigerlaw21_SetofTells.Pure := by
  intro a b l ha hb hl hs
  obtain ⟨t, ht, hk⟩ := shorts_is l hl
  have hj : ∀ x : Bool, (x = false → (a.size ≤ 200 ∧ b.size ≤ 200 ∧ l.length ≤ 30 ∧ ∀ y ∈ l, y.size ≤ 100)) → Ev (fun k => clavigerlaw21_SetofTells.j0 k a b l x) true := by
    intro x hx
    refine Ev.step (fun k => by rw [clavigerlaw21_SetofTells.j0]) ?_
    cases x with
    | true => exact Ev.ifp rfl (Ev.bind awake21 (Ev.now _))
    | false =>
      obtain ⟨h1, h2, h3, h4⟩ := hx rfl
      have h5 : ∀ y ∈ l, y.size ≤ 60000 := fun y hy => Nat.le_trans (h4 y hy) (by decide)
      have h6 : ∀ y ∈ l, y.size ≤ 1000 := fun y hy => Nat.le_trans (h4 y hy) (by decide)
      refine Ev.ifn (by decide) ?_
      refine Ev.bind (place_is l a (by omega) (by omega) h5) (Ev.bind (ref_place_is l a (by omega) (by omega) h6) ?_)
      refine Ev.bind (less_is a b (by omega) (by omega)) (Ev.bind (ref_less_is a b (by omega) (by omega)) (Ev.ifp (by simp) ?_))
      refine Ev.bindc (sort_is l (by omega) h5) (Ev.bind (ref_sort_is l (by omega) h6) ?_)
      refine Ev.bind (slices_Equal_refl _ (by rw [sortB_len]; omega)) (Ev.ifp rfl ?_)
      refine Ev.bind (rises_is l (by omega) h5) (Ev.bind (ref_rises_is l (by omega) h6) (Ev.ifp (by simp) ?_))
      refine Ev.ifp rfl (Ev.ifp (by simp) ?_)
      exact Ev.bind awake21 (Ev.now _)
  refine Ev.rounds ?_
  refine Ev.congr (fun k => by rw [clavigerlaw21_SetofTells.f]) ?_
  by_cases h1 : (a.size : Int) > 200
  · exact Ev.ifp h1 (hj true (fun e => by cases e))
  · refine Ev.ifn h1 ?_
    by_cases h2 : (b.size : Int) > 200
    · exact Ev.ifp h2 (hj true (fun e => by cases e))
    · refine Ev.ifn h2 ?_
      refine Ev.bind ht (hj _ (fun e => ?_))
      have ht2 : t = true := by simpa using e
      exact ⟨by omega, by omega, hk ht2⟩
end Go.Proofs.Ytjelhckfncffpaa.Pure
