/- any key and pads make the payload, any payload has the key, that the document says, or why not. -/
import Derived.Test.YtgkiikdfmjhnjaaDoorPLoadTellsx
namespace Go.Proofs.YtgkiikdfmjhnjaaDoor.Pure
open Go.RowKit Go.Proofs.YtgkiikdfmjhnjaaDoor.PLoadTells Go.Proofs.YtgkiikdfmjhnjaaDoorW.PrintWords Go.Proofs.YtgkiikdfmjhnjaaDoorW.PrintLast
set_option linter.unusedVariables false
set_option linter.unusedSimpArgs false
/-- The number of bytes. -/
def getN (l : List Int) : Int := l.foldl (fun n b => n * 256 + b) 0
theorem getN_snoc (l : List Int) (x : Int) : getN (l ++ [x]) = getN l * 256 + x := by simp [getN]
theorem getN_take {l : List Int} (i : Nat) (h : i < l.length) : getN (l.take (i + 1)) = getN (l.take i) * 256 + l[i] := by
  rw [List.take_succ_eq_append_getElem h, getN_snoc]
theorem getN_bd (n : Nat) : ∀ l : List Int, OkB l → l.length ≤ n → 0 ≤ getN l ∧ getN l < 256 ^ n := by
  induction n with
  | zero => intro l h hn; obtain rfl := List.eq_nil_of_length_eq_zero (Nat.le_zero.1 hn); simp [getN]
  | succ n ih =>
    intro l h hn
    have hp : (0 : Int) < 256 ^ n := Int.pow_pos (by decide)
    by_cases e : l = []
    · subst e
      rw [Int.pow_succ]
      simp only [getN, List.foldl_nil]
      omega
    · obtain ⟨m, x, rfl⟩ : ∃ m x, l = m ++ [x] := ⟨l.dropLast, l.getLast e, (List.dropLast_concat_getLast e).symm⟩
      have h1 := ih m (fun y hy => h y (List.mem_append_left _ hy)) (by simp at hn; omega)
      have h2 := h x (by simp)
      rw [getN_snoc, Int.pow_succ]
      omega
theorem getN_lt7 (l : List Int) (h : OkB l) (hn : l.length ≤ 7) : 0 ≤ getN l ∧ getN l < 72057594037927936 := getN_bd 7 l h hn
theorem octets_Get_loop (l : List Int) (hl : OkB l) (h8 : l.length ≤ 8) (d : Nat) : ∀ i : Nat, i ≤ l.length → l.length - i = d →
    Ev (fun k => octets_Get.l0 k (strOfNums l) (getN (l.take i)) (l.length : Int) (i : Int)) (getN l, true) := by
  induction d with
  | zero =>
    intro i hi hd
    obtain rfl : i = l.length := by omega
    refine Ev.step (f := fun _ => some (getN l, true)) (fun k => ?_) (Ev.now _)
    simp only [octets_Get.l0]
    rw [if_neg (by omega), List.take_length]
  | succ d ih =>
    intro i hi hd
    have hlt : i < l.length := by omega
    refine Ev.step (fun k => ?_) (ih (i + 1) (by omega) (by omega))
    have hb := hl.get i hlt
    have hg := getN_lt7 (l.take i) (hl.take i) (by rw [List.length_take]; omega)
    simp only [octets_Get.l0]
    rw [if_pos (by omega), if_pos (by omega), if_pos (by rw [nums_size]; omega), nums_bt hl i hlt, wu64 (by omega) (by omega), wu64 (by omega) (by omega), w64 (by omega) (by omega), or_u64 8 (by omega) (by omega) (by omega) (by omega) (by omega) (by decide), getN_take i hlt]
    simp only [Int.natCast_add, Int.natCast_one]
theorem octets_Get_yes (l : List Int) (hl : OkB l) (h1 : 1 ≤ l.length) (h8 : l.length ≤ 8) : Ev (fun k => octets_Get.f k (strOfNums l)) (getN l, true) := by
  have h := octets_Get_loop l hl h8 _ 0 (by omega) rfl
  refine Ev.congr (f := fun k => octets_Get.j0 k (strOfNums l) false) (fun k => ?_) ?_
  · simp only [octets_Get.f]
    rw [nums_sizeI, if_neg (by omega), decide_eq_false (by omega)]
  · refine Ev.step (fun k => ?_) h
    simp only [octets_Get.j0]
    rw [if_neg (by decide), nums_sizeI]
    rfl
theorem octets_Get_no (l : List Int) (h : l.length = 0 ∨ 8 < l.length) : Ev (fun k => octets_Get.f k (strOfNums l)) (0, false) := by
  refine Ev.congr (f := fun k => octets_Get.j0 k (strOfNums l) true) (fun k => ?_) ?_
  · simp only [octets_Get.f]
    rw [nums_sizeI]
    rcases h with h | h
    · rw [if_pos (by omega)]
    · rw [if_neg (by omega), decide_eq_true (by omega)]
  · refine Ev.step (f := fun _ => some (0, false)) (fun k => ?_) (Ev.now _)
    simp only [octets_Get.j0]
    simp only [if_true]
theorem putNums_ok (n : Int) : OkB (putNums n) := by
  intro x hx
  simp only [putNums, List.mem_cons, List.not_mem_nil, or_false] at hx
  omega
/-- The low bytes of a number. -/
def lowB (n : Int) : Nat → List Int
  | 0 => []
  | w + 1 => (n / 256 ^ w % 256) :: lowB n w
theorem lowB_ok (n : Int) (w : Nat) : OkB (lowB n w) := by
  induction w with
  | zero => exact OkB.nil
  | succ w ih => exact OkB.cons (by omega) (by omega) ih
theorem lowB_length (n : Int) (w : Nat) : (lowB n w).length = w := by
  induction w with
  | zero => rfl
  | succ w ih => simp [lowB, ih]
theorem putNums_drop (n : Int) (w : Nat) (h : w ≤ 8) : (putNums n).drop (8 - w) = lowB n w := by
  have : w = 0 ∨ w = 1 ∨ w = 2 ∨ w = 3 ∨ w = 4 ∨ w = 5 ∨ w = 6 ∨ w = 7 ∨ w = 8 := by omega
  rcases this with rfl | rfl | rfl | rfl | rfl | rfl | rfl | rfl | rfl <;> simp [putNums, lowB]
theorem octets_Put_eq (n : Int) (w : Int) : octets_Put.f n w = some (strOfNums (if 1 ≤ w ∧ w ≤ 8 then lowB n w.toNat else [])) := by
  unfold octets_Put.f
  by_cases h1 : w < 1
  · rw [if_pos h1, if_neg (by omega)]; rfl
  · by_cases h2 : w > 8
    · rw [if_neg h1, if_pos h2, if_neg (by omega)]; rfl
    · rw [if_neg h1, if_neg h2, if_pos (by omega), putNums_drop n w.toNat (by omega)]
theorem ref01_Put_loop (n : Int) (h0 : 0 ≤ n) (hn : n < 18446744073709551616) (w : Nat) (hw : w ≤ 8) (d : Nat) : ∀ i : Nat, i ≤ w → w - i = d →
    Ev (fun k => clavigerref01_Put.l0 k (n / 256 ^ i) (w : Int) (strOfNums (lowB n i)) (i : Int)) (strOfNums (lowB n w)) := by
  induction d with
  | zero =>
    intro i hi hd
    obtain rfl : i = w := by omega
    refine Ev.step (f := fun _ => some _) (fun k => ?_) (Ev.now _)
    simp only [clavigerref01_Put.l0]
    rw [if_neg (by omega)]
  | succ d ih =>
    intro i hi hd
    refine Ev.step (fun k => ?_) (ih (i + 1) (by omega) (by omega))
    have hq0 : 0 ≤ n / 256 ^ i := Int.ediv_nonneg h0 (Int.le_of_lt (Int.pow_pos (by decide)))
    have hq1 : n / 256 ^ i ≤ n := Int.ediv_le_self _ h0
    have hs : n / 256 ^ (i + 1) = n / 256 ^ i / 256 := by rw [Int.pow_succ, Int.ediv_ediv_of_nonneg (Int.le_of_lt (Int.pow_pos (by decide)))]
    simp only [clavigerref01_Put.l0]
    rw [if_pos (by omega)]
    simp only [Option.bind_some]
    rw [nums_size, nums_size, lowB_length, if_pos (by simp; omega), Int.tmod_eq_emod_of_nonneg hq0, Int.tdiv_eq_ediv_of_nonneg hq0, wu64 (by omega) (by omega), w64 (by omega) (by omega), str_append, hs]
    simp only [lowB, Int.natCast_add, Int.natCast_one, List.singleton_append, Int.emod_emod_of_dvd _ (Int.dvd_refl 256)]
theorem ref01_Put_eq (n : Int) (h0 : 0 ≤ n) (hn : n < 18446744073709551616) (w : Int) : Ev (fun k => clavigerref01_Put.f k n w) (strOfNums (if 1 ≤ w ∧ w ≤ 8 then lowB n w.toNat else [])) := by
  by_cases h : 1 ≤ w ∧ w ≤ 8
  · rw [if_pos h]
    obtain ⟨m, rfl⟩ := Int.eq_ofNat_of_zero_le (show 0 ≤ w by omega)
    have hl := ref01_Put_loop n h0 hn m (by omega) m 0 (by omega) rfl
    refine Ev.congr (f := fun k => clavigerref01_Put.j0 k n (m : Int) false) (fun k => ?_) ?_
    · simp only [clavigerref01_Put.f]
      rw [if_neg (by omega), decide_eq_false (by omega)]
    · refine Ev.step (fun k => ?_) hl
      simp only [clavigerref01_Put.j0]
      rw [if_neg (by decide)]
      simp [lowB, nums_nil]
  · rw [if_neg h]
    refine Ev.congr (f := fun k => clavigerref01_Put.j0 k n w true) (fun k => ?_) ?_
    · simp only [clavigerref01_Put.f]
      by_cases h1 : w < 1
      · rw [if_pos h1]
      · rw [if_neg h1, decide_eq_true (by omega)]
    · refine Ev.step (f := fun _ => some _) (fun k => ?_) (Ev.now _)
      simp only [clavigerref01_Put.j0]
      simp only [if_true]
      rfl
theorem join_nil (xs : List (List UInt8)) : Lib.join xs [] = xs.flatten := by
  unfold Lib.join List.intercalate
  induction xs with
  | nil => rfl
  | cons x xs ih =>
    cases xs with
    | nil => rfl
    | cons y ys => simp only [List.intersperse_cons_cons, List.flatten_cons, List.nil_append]; rw [ih]; simp
theorem octets_Join_eq (L : List (List Int)) (hn : L.length ≤ 140737488355328) (hs : L.flatten.length ≤ 140737488355328) : octets_Join.f (L.map strOfNums) = some (strOfNums L.flatten) := by
  have e : Lib.join ((L.map strOfNums).map (·.data.toList)) (⟨#[]⟩ : ByteArray).data.toList = (strOfNums L.flatten).data.toList := by
    rw [show (⟨#[]⟩ : ByteArray).data.toList = [] from rfl, join_nil, strOfNums_data]
    simp only [List.map_map]
    rw [List.map_flatten, List.map_congr_left (fun x _ => rfl)]
    rfl
  unfold octets_Join.f strings_Join.f
  rw [if_pos (by rw [List.length_map]; exact hn), e, if_pos (by rw [strOfNums_data, List.length_map]; exact hs)]
  simp only [Option.bind_some]
theorem compare_less : ∀ (a b : List UInt8), decide (Lib.compareBytes a b < 0) = Op.bytesLess a b
  | [], [] => rfl
  | [], _ :: _ => rfl
  | _ :: _, [] => rfl
  | a :: x, b :: y => by
    rw [Lib.compareBytes, Op.bytesLess]
    by_cases h1 : a < b
    · rw [if_pos h1]
      simp [h1]
    · rw [if_neg h1]
      by_cases h2 : b < a
      · rw [if_pos h2]
        have h3 : (a == b) = false := beq_eq_false_iff_ne.2 (fun e => by subst e; exact h1 h2)
        simp [h1, h3]
      · rw [if_neg h2, compare_less x y]
        have h3 : a = b := UInt8.le_antisymm (UInt8.not_lt.1 h2) (UInt8.not_lt.1 h1)
        subst h3
        simp [h1]
theorem drop_all (p : UInt8 → Bool) : ∀ l : List UInt8, (∀ x ∈ l.dropWhile p, p x = true) → ∀ x ∈ l, p x = true
  | [], _, x, hx => by cases hx
  | a :: l, h, x, hx => by
    by_cases ha : p a = true
    · rw [List.dropWhile_cons, if_pos ha] at h
      rcases List.mem_cons.1 hx with rfl | hx
      · exact ha
      · exact drop_all p l h x hx
    · rw [List.dropWhile_cons, if_neg ha] at h
      exact absurd (h a (by simp)) ha
theorem trimB_nil (l : List UInt8) : Lib.trimB l 0 = [] ↔ ∀ b ∈ l, b = 0 := by
  unfold Lib.trimB Lib.trimLeftB Lib.trimRightB
  constructor
  · intro h b hb
    have h1 : ∀ x ∈ (l.reverse.dropWhile (· == 0)).reverse, (x == 0) = true := by
      have h2 := drop_all (· == 0) ((l.reverse.dropWhile (· == 0)).reverse) (by rw [h]; intro x hx; cases hx)
      exact h2
    have h3 := drop_all (· == 0) l.reverse (fun x hx => h1 x (List.mem_reverse.2 hx)) b (List.mem_reverse.2 hb)
    exact beq_iff_eq.1 h3
  · intro h
    have h1 : l.reverse.dropWhile (· == 0) = [] := by
      have : ∀ m : List UInt8, (∀ x ∈ m, x = 0) → m.dropWhile (· == 0) = [] := by
        intro m
        induction m with
        | nil => intro _; rfl
        | cons a m ih =>
          intro hm
          rw [List.dropWhile_cons, if_pos (beq_iff_eq.2 (hm a (by simp)))]
          exact ih (fun x hx => hm x (List.mem_cons_of_mem _ hx))
      exact this _ (fun x hx => h x (List.mem_reverse.1 hx))
    rw [h1]
    rfl
theorem bt_at22 (s : ByteArray) (i : Nat) (h : i < s.size) : bt s (i : Int) = ((s.data.toList.getD i 0).toNat : Int) := by
  have hl : i < s.data.toList.length := by rw [Array.length_toList]; exact h
  unfold bt
  rw [dif_pos (by simpa using h)]
  rw [List.getD_eq_getElem?_getD, List.getElem?_eq_getElem hl]
  rfl
/-- The orders. -/
def ordF (c : Int) : ByteArray := (curve_Order.f 200 c).getD ⟨#[]⟩
theorem order_allP : ((List.range 4).all fun i => (curve_Order.f 200 ((i : Int) + 1)).isSome) = true := by kernel_rfl
theorem order_isP {c : Int} (h1 : 1 ≤ c) (h4 : c ≤ 4) : Ev (fun k => curve_Order.f k c) (ordF c) := by
  have h := List.all_eq_true.1 order_allP (c - 1).toNat (List.mem_range.2 (by omega))
  rw [show (((c - 1).toNat : Nat) : Int) + 1 = c by omega] at h
  obtain ⟨o, ho⟩ := Option.isSome_iff_exists.1 h
  have e : ordF c = o := by unfold ordF; rw [ho]; rfl
  rw [e]
  exact Ev.of (curve_Order.mono c) (k := 200) ho
def scalarA (o s : ByteArray) : Bool := s.data.toList.any (fun b => !(b == 0)) && Op.bytesLess s.toList o.toList
def widths (c : Int) : Int := if c = 1 then 28 else if c = 2 then 32 else if c = 3 then 48 else if c = 4 then 66 else 0
theorem line_width (c : Int) : ∃ a b o, curve_line.f c = some (a, b, o, widths c) := by
  unfold curve_line.f widths
  repeat' split
  all_goals exact ⟨_, _, _, rfl⟩
theorem widths_pos {c : Int} (h0 : ¬ widths c = 0) : 1 ≤ c ∧ c ≤ 4 := by
  unfold widths at h0
  by_cases c1 : c = 1
  · omega
  by_cases c2 : c = 2
  · omega
  by_cases c3 : c = 3
  · omega
  by_cases c4 : c = 4
  · omega
  · rw [if_neg c1, if_neg c2, if_neg c3, if_neg c4] at h0
    exact absurd rfl h0
def scalarF (c : Int) (s : ByteArray) : Bool := if widths c = 0 then false else if (s.size : Int) = widths c then scalarA (ordF c) s else false
theorem any_all (l : List UInt8) : (l.any (fun b => !(b == 0))) = !decide (∀ b ∈ l, b = 0) := by
  by_cases hz : ∀ b ∈ l, b = 0
  · rw [decide_eq_true hz, List.any_eq_false.2 (fun x hx => by simp [hz x hx])]
    rfl
  · rw [decide_eq_false hz, List.any_eq_true.2]
    · rfl
    · exact Classical.byContradiction fun hn => hz fun b hb => Classical.byContradiction fun hne => hn ⟨b, hb, by simp [hne]⟩
theorem scalar_isP (c : Int) (s : ByteArray) (hs : s.size ≤ 1000000) : Ev (fun k => curve_Scalar.f k c s) (scalarF c s) := by
  unfold scalarF
  obtain ⟨n, a, o, hw⟩ := line_width c
  have hno1 : Ev (fun k => curve_Scalar.j0 k c s true) false := by
    refine Ev.step (fun k => by rw [curve_Scalar.j0]) ?_
    exact Ev.ifp rfl (Ev.now _)
  by_cases h0 : widths c = 0
  · rw [if_pos h0]
    exact Ev.congr (fun k => by rw [curve_Scalar.f]) (Ev.bindc hw (Ev.ifp h0 hno1))
  by_cases h1 : (s.size : Int) = widths c
  · have hb : ((s.size : Int) != widths c) = false := by rw [h1]; simp
    have hc := widths_pos h0
    have o1 := order_isP hc.1 hc.2
    rw [if_neg h0, if_pos h1]
    generalize ordF c = o at *
    refine Ev.congr (fun k => by rw [curve_Scalar.f]) (Ev.bindc hw (Ev.ifn h0 (Ev.bindc hw ?_)))
    simp only
    rw [hb]
    refine Ev.step (fun k => by rw [curve_Scalar.j0]) ?_
    refine Ev.ifn (by simp) ?_
    refine Ev.bindc (a := ⟨(Lib.trimB s.data.toList 0).toArray⟩) (by
      unfold strings_Trim.f
      rw [if_pos ⟨rfl, by omega⟩, if_pos (by decide)]
      rfl) ?_
    by_cases hz : ∀ b ∈ s.data.toList, b = 0
    · refine Ev.ifp ?_ ((Ev.now _).eq ?_)
      · rw [(trimB_nil _).2 hz, toList_data]
      · unfold scalarA
        rw [any_all, decide_eq_true hz]
        rfl
    · refine Ev.ifn ?_ ?_
      · rw [toList_data]
        intro e
        exact hz ((trimB_nil _).1 e)
      · refine Ev.bind o1 ?_
        refine Ev.bindc rfl ?_
        refine (Ev.now _).eq ?_
        unfold scalarA
        rw [any_all, decide_eq_false hz, compare_less, toList_data, toList_data]
        rfl
  · have hb : ((s.size : Int) != widths c) = true := bne_iff_ne.2 h1
    rw [if_neg h0, if_neg h1]
    refine Ev.congr (fun k => by rw [curve_Scalar.f]) (Ev.bindc hw (Ev.ifn h0 (Ev.bindc hw ?_)))
    simp only
    rw [hb]
    exact hno1
theorem order_all : ((List.range 4).all fun i => decide (curve_Order.f 200 ((i : Int) + 1) = clavigerref22_Order.f 200 ((i : Int) + 1))) = true := by kernel_rfl
theorem order_isR {c : Int} (h1 : 1 ≤ c) (h4 : c ≤ 4) : Ev (fun k => clavigerref22_Order.f k c) (ordF c) := by
  have hp := List.all_eq_true.1 order_allP (c - 1).toNat (List.mem_range.2 (by omega))
  have h := List.all_eq_true.1 order_all (c - 1).toNat (List.mem_range.2 (by omega))
  rw [show (((c - 1).toNat : Nat) : Int) + 1 = c by omega] at h hp
  obtain ⟨o, ho⟩ := Option.isSome_iff_exists.1 hp
  have e : ordF c = o := by unfold ordF; rw [ho]; rfl
  rw [e]
  exact Ev.of (clavigerref22_Order.mono c) (k := 200) ((of_decide_eq_true h) ▸ ho)
theorem ref_scalar_loop (c : Int) (s o : ByteArray) (hs : s.size ≤ 1000000) (ho : Ev (fun k => clavigerref22_Order.f k c) o) (d : Nat) : ∀ (i : Nat) (f : Bool), i ≤ s.size → s.size - i = d →
    Ev (fun k => clavigerref22_Scalar.l0 k c s f (i : Int)) ((f || (s.data.toList.drop i).any (fun b => !(b == 0))) && Op.bytesLess s.toList o.toList) := by
  have hl : s.data.toList.length = s.size := Array.length_toList
  induction d with
  | zero =>
    intro i f hi hd
    refine Ev.step (fun k => by rw [clavigerref22_Scalar.l0]) ?_
    refine Ev.ifn (by omega) ?_
    rw [List.drop_eq_nil_of_le (by omega)]
    cases f with
    | true => exact Ev.ifp rfl (Ev.bind ho ((Ev.now _).eq (by simp)))
    | false => exact Ev.ifn (by simp) ((Ev.now _).eq (by simp))
  | succ d ih =>
    intro i f hi hd
    have hlt : i < s.data.toList.length := by omega
    have hd2 : s.data.toList.drop i = s.data.toList.getD i 0 :: s.data.toList.drop (i + 1) := by
      rw [List.drop_eq_getElem_cons hlt, List.getD_eq_getElem?_getD, List.getElem?_eq_getElem hlt]
      rfl
    refine Ev.step (fun k => by rw [clavigerref22_Scalar.l0]) ?_
    refine Ev.ifp (by omega) ?_
    refine Ev.ifp (by omega) ?_
    rw [bt_at22 s i (by omega), w64 (by omega) (by omega), hd2, List.any_cons]
    by_cases h0 : ((s.data.toList.getD i 0).toNat : Int) = 0
    · refine Ev.ifp h0 ?_
      have e : s.data.toList.getD i 0 = 0 := UInt8.toNat_inj.1 (by simpa using h0)
      refine (ih (i + 1) f (by omega) (by omega)).eq ?_
      rw [e]; rfl
    · refine Ev.ifn h0 ?_
      have e : ¬ s.data.toList.getD i 0 = 0 := fun e => h0 (by rw [e]; rfl)
      refine (ih (i + 1) true (by omega) (by omega)).eq ?_
      have e2 : (s.data.toList.getD i 0 == 0) = false := beq_eq_false_iff_ne.2 e
      rw [e2]
      simp
theorem ref_width (c : Int) : clavigerref22_Width.f c = some (widths c) := by
  unfold clavigerref22_Width.f widths
  repeat' split
  all_goals rfl
theorem scalar_isR (c : Int) (s : ByteArray) (hs : s.size ≤ 1000000) : Ev (fun k => clavigerref22_Scalar.f k c s) (scalarF c s) := by
  unfold scalarF
  have hno2 : Ev (fun k => clavigerref22_Scalar.j0 k c s true) false := by
    refine Ev.step (fun k => by rw [clavigerref22_Scalar.j0]) ?_
    exact Ev.ifp rfl (Ev.now _)
  by_cases h0 : widths c = 0
  · rw [if_pos h0]
    exact Ev.congr (fun k => by rw [clavigerref22_Scalar.f]) (Ev.bindc (ref_width c) (Ev.ifp h0 hno2))
  by_cases h1 : (s.size : Int) = widths c
  · have hb : ((s.size : Int) != widths c) = false := by rw [h1]; simp
    have hc := widths_pos h0
    have o2 := order_isR hc.1 hc.2
    rw [if_neg h0, if_pos h1]
    refine Ev.congr (fun k => by rw [clavigerref22_Scalar.f]) (Ev.bindc (ref_width c) (Ev.ifn h0 (Ev.bindc (ref_width c) ?_)))
    rw [hb]
    refine Ev.step (fun k => by rw [clavigerref22_Scalar.j0]) ?_
    refine Ev.ifn (by simp) ?_
    refine (ref_scalar_loop c s _ hs o2 _ 0 false (by omega) rfl).eq ?_
    unfold scalarA
    simp
  · have hb : ((s.size : Int) != widths c) = true := bne_iff_ne.2 h1
    rw [if_neg h0, if_neg h1]
    refine Ev.congr (fun k => by rw [clavigerref22_Scalar.f]) (Ev.bindc (ref_width c) (Ev.ifn h0 (Ev.bindc (ref_width c) ?_)))
    rw [hb]
    exact hno2
def kszF (i : Int) : Int := match kind_of.f i with | some (_, s, _, _, _) => s | none => 0
def kcvF (i : Int) : Int := match kind_of.f i with | some (_, _, _, c, _) => c | none => 0
def ltrF (i : Int) : ByteArray := match kind_of.f i with | some (_, _, l, _, _) => l | none => ⟨#[]⟩
def checkF (a : Int) (s : ByteArray) : Int := if kszF a = 0 then 8 else if kszF a = (s.size : Int) then (if kcvF a > 0 then (if scalarF (kcvF a) s = true then 0 else 10) else 0) else 9
theorem of_allP : ((List.range 12).all fun i => (kind_of.f (i : Int)).isSome) = true := by kernel_rfl
theorem of_out {a : Int} (h : ¬ (0 ≤ a ∧ a < 12)) : kind_of.f a = kind_of.f 0 := by
  unfold kind_of.f
  by_cases h0 : a < 0
  · simp only [kind_table.f, Option.bind_some, if_pos h0]
    rfl
  · have h12 : a ≥ 12 := by omega
    simp only [kind_table.f, Option.bind_some, if_neg h0, List.length_cons, List.length_nil]
    rw [if_pos (by omega)]
    rfl
theorem of_isP (a : Int) : ∃ n t, kind_of.f a = some (n, kszF a, ltrF a, kcvF a, t) := by
  have key : ∃ v, kind_of.f a = some v := by
    by_cases h : 0 ≤ a ∧ a < 12
    · have h1 := List.all_eq_true.1 of_allP a.toNat (List.mem_range.2 (by omega))
      rw [Int.toNat_of_nonneg h.1] at h1
      exact Option.isSome_iff_exists.1 h1
    · rw [of_out h]
      exact Option.isSome_iff_exists.1 (List.all_eq_true.1 of_allP 0 (by decide))
  obtain ⟨⟨n, s, l, c, t⟩, hv⟩ := key
  refine ⟨n, t, ?_⟩
  unfold kszF ltrF kcvF
  rw [hv]
theorem check_isP (a : Int) (s : ByteArray) (hs : s.size ≤ 1000000) : Ev (fun k => kind_Check.f k a s) (checkF a s) := by
  obtain ⟨n, t, h1⟩ := of_isP a
  unfold checkF
  have e1 : ∀ k, kind_Check.f k a s = _ := fun k => by rw [kind_Check.f]
  by_cases hz : kszF a = 0
  · rw [if_pos hz]
    exact Ev.congr e1 (Ev.bindc h1 (Ev.ifp hz (Ev.now _)))
  rw [if_neg hz]
  by_cases hl : kszF a = (s.size : Int)
  · rw [if_pos hl]
    by_cases hc : kcvF a > 0
    · rw [if_pos hc]
      have r1 := scalar_isP (kcvF a) s hs
      refine Ev.congr e1 (Ev.bindc h1 (Ev.ifn hz (Ev.ifp hl (Ev.ifp hc (Ev.bind r1 ?_)))))
      exact Ev.ite (fun _ => Ev.now _) (fun _ => Ev.now _)
    · rw [if_neg hc]
      exact Ev.congr e1 (Ev.bindc h1 (Ev.ifn hz (Ev.ifp hl (Ev.ifn hc (Ev.now _)))))
  · rw [if_neg hl]
    exact Ev.congr e1 (Ev.bindc h1 (Ev.ifn hz (Ev.ifn hl (Ev.now _))))
theorem ref_of_all : ((List.range 12).all fun i => decide (clavigerref23_Size.f (i : Int) = some (kszF (i : Int))) && decide (clavigerref23_Curve.f (i : Int) = some (kcvF (i : Int)))) = true := by kernel_rfl
theorem of_isR (a : Int) : clavigerref23_Size.f a = some (kszF a) ∧ clavigerref23_Curve.f a = some (kcvF a) := by
  by_cases h : 0 ≤ a ∧ a < 12
  · have h1 := List.all_eq_true.1 ref_of_all a.toNat (List.mem_range.2 (by omega))
    rw [Int.toNat_of_nonneg h.1] at h1
    simp only [Bool.and_eq_true, decide_eq_true_eq] at h1
    exact h1
  · have hk := of_out h
    have z1 : kszF a = 0 := by unfold kszF; rw [hk]; kernel_rfl
    have z2 : kcvF a = 0 := by unfold kcvF; rw [hk]; kernel_rfl
    rw [z1, z2]
    refine ⟨?_, ?_⟩
    · unfold clavigerref23_Size.f
      rw [if_neg (by omega), if_neg (by omega), if_neg (by omega), if_neg (by omega), if_neg (by omega), if_neg (by omega), if_neg (by omega), if_neg (by omega), if_neg (by omega), if_neg (by omega), if_neg (by omega)]
    · unfold clavigerref23_Curve.f
      by_cases h8 : a ≥ 8
      · rw [if_pos h8, if_neg (by omega)]
      · rw [if_neg h8]
theorem check_isR (a : Int) (s : ByteArray) (hs : s.size ≤ 1000000) : Ev (fun k => clavigerref23_Check.f k a s) (checkF a s) := by
  obtain ⟨h2, h3⟩ := of_isR a
  unfold checkF
  have e2 : ∀ k, clavigerref23_Check.f k a s = _ := fun k => by rw [clavigerref23_Check.f]
  by_cases hz : kszF a = 0
  · rw [if_pos hz]
    exact Ev.congr e2 (Ev.bindc h2 (Ev.ifp hz (Ev.now _)))
  rw [if_neg hz]
  by_cases hl : kszF a = (s.size : Int)
  · rw [if_pos hl]
    by_cases hc : kcvF a > 0
    · rw [if_pos hc]
      have r2 := scalar_isR (kcvF a) s hs
      refine Ev.congr e2 (Ev.bindc h2 (Ev.ifn hz (Ev.bindc h2 (Ev.ifp hl.symm (Ev.bindc h3 (Ev.ifp hc (Ev.bindc h3 (Ev.bind r2 ?_))))))))
      exact Ev.ite (fun _ => Ev.now _) (fun _ => Ev.now _)
    · rw [if_neg hc]
      exact Ev.congr e2 (Ev.bindc h2 (Ev.ifn hz (Ev.bindc h2 (Ev.ifp hl.symm (Ev.bindc h3 (Ev.ifn hc (Ev.now _)))))))
  · rw [if_neg hl]
    exact Ev.congr e2 (Ev.bindc h2 (Ev.ifn hz (Ev.bindc h2 (Ev.ifn (fun e => hl e.symm) (Ev.now _)))))
def ltr (i : Int) : ByteArray := match kind_of.f i with | some (_, _, l, _, _) => l | none => ⟨#[]⟩
def ksz (i : Int) : Int := match kind_of.f i with | some (_, s, _, _, _) => s | none => 0
def ktab : List S41 := kind_table.f.getD []
theorem ktab_is : kind_table.f = some ktab := rfl
theorem ktab_len : ktab.length = 12 := by kernel_rfl
theorem rows_all : ((List.range 12).all fun i => decide ((rd_T41 ktab (i : Int)).f2 = ltr (i : Int)) && decide ((rd_T41 ktab (i : Int)).f1 = ksz (i : Int)) && decide (0 ≤ ksz (i : Int) ∧ ksz (i : Int) ≤ 66)) = true := by kernel_rfl
theorem row_is (i : Nat) (h : i < 12) : (rd_T41 ktab (i : Int)).f2 = ltr (i : Int) ∧ (rd_T41 ktab (i : Int)).f1 = ksz (i : Int) ∧ 0 ≤ ksz (i : Int) ∧ ksz (i : Int) ≤ 66 := by
  have h1 := List.all_eq_true.1 rows_all i (List.mem_range.2 h)
  simp only [Bool.and_eq_true, decide_eq_true_eq] at h1
  exact ⟨h1.1.1, h1.1.2, h1.2⟩
theorem ref_rows_all : ((List.range 12).all fun i => decide (clavigerref23_Letter.f 10 (i : Int) = some (ltr (i : Int))) && decide (clavigerref23_Size.f (i : Int) = some (ksz (i : Int)))) = true := by kernel_rfl
theorem ref_row (i : Nat) (h : i < 12) : Ev (fun k => clavigerref23_Letter.f k (i : Int)) (ltr (i : Int)) ∧ clavigerref23_Size.f (i : Int) = some (ksz (i : Int)) := by
  have h1 := List.all_eq_true.1 ref_rows_all i (List.mem_range.2 h)
  simp only [Bool.and_eq_true, decide_eq_true_eq] at h1
  exact ⟨Ev.of (clavigerref23_Letter.mono _) (k := 10) h1.1, h1.2⟩
/-- The greatest size of a letter, from a row on: so many rows are left. -/
def mostF (L : ByteArray) : Nat → Int → Int
  | 0, m => m
  | d + 1, m => mostF L d (if (ltr ((11 - d : Nat) : Int)).toList = L.toList then mx m (ksz ((11 - d : Nat) : Int)) else m)
theorem mostF_bd (L : ByteArray) : ∀ (d : Nat) (m : Int), d ≤ 12 → 0 ≤ m → m ≤ 66 → 0 ≤ mostF L d m ∧ mostF L d m ≤ 66
  | 0, m, _, h0, h1 => ⟨h0, h1⟩
  | d + 1, m, hd, h0, h1 => by
    rw [mostF]
    have hr := (row_is (11 - d) (by omega)).2.2
    split
    · unfold mx
      split
      · exact mostF_bd L d _ (by omega) hr.1 hr.2
      · exact mostF_bd L d _ (by omega) h0 h1
    · exact mostF_bd L d _ (by omega) h0 h1
theorem most_loop (L : ByteArray) : ∀ (d : Nat) (m : Int), d ≤ 12 → Ev (fun k => kind_Most.l0 k L m ktab 12 ((12 - d : Nat) : Int)) (mostF L d m)
  | 0, m, _ => by
    refine Ev.step (fun k => by rw [kind_Most.l0]) ?_
    exact Ev.ifn (by decide) (Ev.now _)
  | d + 1, m, hd => by
    obtain ⟨r1, r2, _⟩ := row_is (11 - d) (by omega)
    have ih := fun m => most_loop L d m (by omega)
    refine Ev.step (fun k => by rw [kind_Most.l0]) ?_
    rw [ktab_len, show 12 - (d + 1) = 11 - d by omega, r1, r2, w64 (by omega) (by omega), show (((11 - d : Nat) : Int) + 1) = ((12 - d : Nat) : Int) by omega]
    refine Ev.ifp (by omega) ?_
    refine Ev.ifp (by omega) ?_
    refine Ev.ifp (by omega) ?_
    rw [mostF]
    by_cases h : (ltr ((11 - d : Nat) : Int)).toList = L.toList
    · rw [if_pos h]
      exact Ev.ifp h (ih _)
    · rw [if_neg h]
      exact Ev.ifn h (ih _)
theorem most_is (L : ByteArray) : Ev (fun k => kind_Most.f k L) (mostF L 12 0) := by
  refine Ev.congr (fun k => by rw [kind_Most.f]) ?_
  refine Ev.bindc ktab_is ?_
  rw [ktab_len]
  exact most_loop L 12 0 (by decide)
theorem ref_most_loop (L : ByteArray) : ∀ (d : Nat) (m : Int), d ≤ 11 → Ev (fun k => clavigerref23_Most.l0 k L m ((12 - d : Nat) : Int)) (mostF L d m)
  | 0, m, _ => by
    refine Ev.step (fun k => by rw [clavigerref23_Most.l0]) ?_
    exact Ev.ifn (by decide) (Ev.now _)
  | d + 1, m, hd => by
    obtain ⟨r1, r2⟩ := ref_row (11 - d) (by omega)
    have ih := fun m => ref_most_loop L d m (by omega)
    refine Ev.step (fun k => by rw [clavigerref23_Most.l0]) ?_
    rw [show 12 - (d + 1) = 11 - d by omega, w64 (by omega) (by omega), show (((11 - d : Nat) : Int) + 1) = ((12 - d : Nat) : Int) by omega]
    refine Ev.ifp (by omega) ?_
    refine Ev.bind r1 ?_
    rw [mostF]
    by_cases h : (ltr ((11 - d : Nat) : Int)).toList = L.toList
    · rw [if_pos h]
      refine Ev.ifp h ?_
      refine Ev.bindc r2 ?_
      unfold mx
      by_cases hm : ksz ((11 - d : Nat) : Int) > m
      · rw [if_pos hm]
        exact Ev.ifp hm (Ev.bindc r2 (ih _))
      · rw [if_neg hm]
        exact Ev.ifn hm (ih _)
    · rw [if_neg h]
      exact Ev.ifn h (ih _)
theorem ref_most_is (L : ByteArray) : Ev (fun k => clavigerref23_Most.f k L) (mostF L 12 0) := by
  refine Ev.congr (fun k => by rw [clavigerref23_Most.f]) ?_
  refine (ref_most_loop L 11 0 (by decide)).eq ?_
  rw [show mostF L 12 0 = mostF L 11 (if (ltr 0).toList = L.toList then mx 0 (ksz 0) else 0) from rfl]
  have : (if (ltr 0).toList = L.toList then mx 0 (ksz 0) else 0) = 0 := by
    split
    · kernel_rfl
    · rfl
  rw [this]
/-- The first kind of a letter and a size. -/
def ofF (L : ByteArray) (s : Int) : Nat → Int × Bool
  | 0 => (0, false)
  | d + 1 => if (ltr ((11 - d : Nat) : Int)).toList = L.toList ∧ ksz ((11 - d : Nat) : Int) = s then (((11 - d : Nat) : Int), true) else ofF L s d
theorem ofF_true (L : ByteArray) (s : Int) : ∀ (d : Nat) (k : Int), d ≤ 11 → ofF L s d = (k, true) → 1 ≤ k ∧ k ≤ 11 ∧ (ltr k).toList = L.toList ∧ ksz k = s
  | 0, k, _, h => by simp [ofF] at h
  | d + 1, k, hd, h => by
    rw [ofF] at h
    split at h
    · rename_i hc
      simp only [Prod.mk.injEq, and_true] at h
      subst h
      exact ⟨by omega, by omega, hc⟩
    · exact ofF_true L s d k (by omega) h
theorem ofF_false (L : ByteArray) (s : Int) : ∀ (d : Nat), (ofF L s d).2 = false → ofF L s d = (0, false)
  | 0, _ => rfl
  | d + 1, h => by
    rw [ofF] at h ⊢
    split at h
    · simp at h
    · rename_i hc
      rw [if_neg hc]
      exact ofF_false L s d h
theorem of_loop (L : ByteArray) (s : Int) : ∀ (d f : Nat), d ≤ 11 → d < f → kind_first.l0 (fun x => (x.f2.toList == L.toList) && (x.f1 == s)) f ktab ((12 - d : Nat) : Int) = some (ofF L s d)
  | 0, f + 1, _, _ => by
    rw [kind_first.l0, ktab_len, if_neg (by decide)]
    rfl
  | d + 1, f + 1, hd, hf => by
    obtain ⟨r1, r2, _⟩ := row_is (11 - d) (by omega)
    rw [kind_first.l0, ktab_len, show 12 - (d + 1) = 11 - d by omega, r1, r2, w64 (by omega) (by omega), show (((11 - d : Nat) : Int) + 1) = ((12 - d : Nat) : Int) by omega, if_pos (by omega), if_pos (by omega), if_pos (by omega), of_loop L s d f (by omega) (by omega), ofF]
    by_cases h : (ltr ((11 - d : Nat) : Int)).toList = L.toList ∧ ksz ((11 - d : Nat) : Int) = s
    · rw [if_pos h, if_pos (by rw [h.1, h.2]; simp)]
    · rw [if_neg h, if_neg (by simp only [Bool.and_eq_true, beq_iff_eq]; exact h)]
theorem kof_is (L : ByteArray) (s : Int) : kind_Of.f L s = some (ofF L s 11) := by
  unfold kind_Of.f kind_first.f
  rw [ktab_is, Option.bind_some, kind_first.l0, ktab_len, if_pos (by decide), if_pos (by decide), if_neg (by decide), w64 (by decide) (by decide)]
  exact of_loop L s 11 19 (by decide) (by decide)
theorem ref_of_loop (L : ByteArray) (s : Int) : ∀ (d : Nat), d ≤ 11 → Ev (fun k => clavigerref23_Of.l0 k L s ((12 - d : Nat) : Int)) (ofF L s d)
  | 0, _ => by
    refine Ev.step (fun k => by rw [clavigerref23_Of.l0]) ?_
    exact Ev.ifn (by decide) (Ev.now _)
  | d + 1, hd => by
    obtain ⟨r1, r2⟩ := ref_row (11 - d) (by omega)
    have ih := ref_of_loop L s d (by omega)
    refine Ev.step (fun k => by rw [clavigerref23_Of.l0]) ?_
    rw [show 12 - (d + 1) = 11 - d by omega, w64 (by omega) (by omega), show (((11 - d : Nat) : Int) + 1) = ((12 - d : Nat) : Int) by omega]
    refine Ev.ifp (by omega) ?_
    refine Ev.bind r1 ?_
    rw [ofF]
    by_cases h : (ltr ((11 - d : Nat) : Int)).toList = L.toList
    · refine Ev.ifp h ?_
      refine Ev.bindc r2 ?_
      by_cases hs : ksz ((11 - d : Nat) : Int) = s
      · rw [if_pos ⟨h, hs⟩]
        exact Ev.ifp hs (Ev.now _)
      · rw [if_neg (fun hh => hs hh.2)]
        exact Ev.ifn hs ih
    · rw [if_neg (fun hh => h hh.1)]
      exact Ev.ifn h ih
theorem ref_of_is (L : ByteArray) (s : Int) : Ev (fun k => clavigerref23_Of.f k L s) (ofF L s 11) := by
  refine Ev.congr (fun k => by rw [clavigerref23_Of.f]) ?_
  exact ref_of_loop L s 11 (by decide)

/-- A letter's payloads' length. -/
def totF (L : ByteArray) : Int := if mostF L 12 0 = 0 then 0 else (mostF L 12 0 + 17) / 16 * 16
theorem tot_all : ((List.range 67).all fun m => decide (Go.bits .andNot .i64 (wrap64 ((wrap64 ((m : Int) + 2)) + 15)) 15 = ((m : Int) + 17) / 16 * 16)) = true := by kernel_rfl
theorem total_is (L : ByteArray) : Ev (fun k => load_Total.f k L) (totF L) := by
  have hb := mostF_bd L 12 0 (by decide) (by decide) (by decide)
  refine Ev.congr (fun k => by rw [load_Total.f]) ?_
  refine Ev.bind (most_is L) ?_
  unfold totF
  generalize mostF L 12 0 = m at *
  by_cases h : m = 0
  · refine Ev.eq ?_ (if_pos h).symm
    exact Ev.ifp h (Ev.now _)
  · refine Ev.eq ?_ (if_neg h).symm
    refine Ev.ifn h ((Ev.now _).eq ?_)
    have h1 := List.all_eq_true.1 tot_all m.toNat (List.mem_range.2 (by omega))
    rw [Int.toNat_of_nonneg hb.1] at h1
    exact of_decide_eq_true h1
theorem totF_bd (L : ByteArray) : 0 ≤ totF L ∧ totF L ≤ 80 ∧ (totF L = 0 ∨ 16 ≤ totF L) := by
  have hb := mostF_bd L 12 0 (by decide) (by decide) (by decide)
  unfold totF
  split <;> omega
theorem ref_tot_loop : ∀ (d : Nat) (n : Int), 0 ≤ n → n + d ≤ 1000 → d < 16 → (n + d) % 16 = 0 → (∀ e : Nat, e < d → (n + e) % 16 ≠ 0) → Ev (fun k => clavigerref36_Total.l0 k n) (n + d)
  | 0, n, h0, h1, _, hz, _ => by
    refine Ev.step (fun k => by rw [clavigerref36_Total.l0]) ?_
    refine Ev.ifp (by rw [Int.tmod_eq_emod_of_nonneg h0]; omega) ((Ev.now _).eq (by simp))
  | d + 1, n, h0, h1, hd, hz, hn => by
    refine Ev.step (fun k => by rw [clavigerref36_Total.l0]) ?_
    refine Ev.ifn (by rw [Int.tmod_eq_emod_of_nonneg h0]; have hh := hn 0 (Nat.succ_pos d); simpa using hh) ?_
    rw [w64 (by omega) (by omega)]
    refine (ref_tot_loop d (n + 1) (by omega) (by omega) (by omega) (by omega) (fun e he => by have h9 := hn (e + 1) (Nat.succ_lt_succ he); intro h10; apply h9; rw [← h10]; congr 1; omega)).eq (by omega)
theorem ref_total_is (L : ByteArray) : Ev (fun k => clavigerref36_Total.f k L) (totF L) := by
  have hb := mostF_bd L 12 0 (by decide) (by decide) (by decide)
  refine Ev.congr (fun k => by rw [clavigerref36_Total.f]) ?_
  refine Ev.bind (ref_most_is L) ?_
  unfold totF
  generalize mostF L 12 0 = m at *
  by_cases h : m = 0
  · refine Ev.eq ?_ (if_pos h).symm
    exact Ev.ifp h (Ev.now _)
  · refine Ev.eq ?_ (if_neg h).symm
    refine Ev.ifn h ?_
    rw [w64 (by omega) (by omega)]
    exact (ref_tot_loop ((m + 17) / 16 * 16 - (m + 2)).toNat (m + 2) (by omega) (by omega) (by omega) (by omega) (fun e he => by omega)).eq (by omega)
theorem ksz_bd (a : Int) : 0 ≤ kszF a ∧ kszF a ≤ 66 := by
  by_cases h : 0 ≤ a ∧ a < 12
  · have h1 := (row_is a.toNat (by omega)).2.2
    rw [Int.toNat_of_nonneg h.1] at h1
    exact h1
  · have : kszF a = kszF 0 := by unfold kszF; rw [of_out h]
    rw [this]
    exact (row_is 0 (by decide)).2.2
def padF (a : Int) : Int := if kszF a = 0 then 0 else totF (ltrF a) - kszF a - 2
theorem ksize_is (a : Int) : kind_Size.f a = some (kszF a) := by
  obtain ⟨n, t, h⟩ := of_isP a
  unfold kind_Size.f
  rw [h]
  rfl
theorem kletter_is (a : Int) : kind_Letter.f a = some (ltrF a) := by
  obtain ⟨n, t, h⟩ := of_isP a
  unfold kind_Letter.f
  rw [h]
  rfl
theorem pads_is (a : Int) : Ev (fun k => load_Pads.f k a) (padF a) := by
  have hb := ksz_bd a
  have ht := totF_bd (ltrF a)
  refine Ev.congr (fun k => by rw [load_Pads.f]) ?_
  refine Ev.bindc (ksize_is a) ?_
  unfold padF
  by_cases h : kszF a = 0
  · refine Ev.eq ?_ (if_pos h).symm
    exact Ev.ifp h (Ev.now _)
  · refine Ev.eq ?_ (if_neg h).symm
    refine Ev.ifn h ?_
    refine Ev.bindc (kletter_is a) ?_
    refine Ev.bind (total_is _) ?_
    rw [w64 (x := totF (ltrF a) - kszF a) (by omega) (by omega), w64 (by omega) (by omega)]
    exact Ev.now _
theorem ref_let_all : ((List.range 12).all fun i => decide (clavigerref23_Letter.f 10 (i : Int) = some (ltrF (i : Int)))) = true := by kernel_rfl
theorem ref_letter_is (a : Int) : Ev (fun k => clavigerref23_Letter.f k a) (ltrF a) := by
  by_cases h : 0 ≤ a ∧ a < 12
  · have h1 := List.all_eq_true.1 ref_let_all a.toNat (List.mem_range.2 (by omega))
    rw [Int.toNat_of_nonneg h.1] at h1
    exact Ev.of (clavigerref23_Letter.mono _) (k := 10) (of_decide_eq_true h1)
  · have e : ltrF a = ⟨#[]⟩ := by unfold ltrF; rw [of_out h]; kernel_rfl
    rw [e]
    have hj : Ev (fun k => clavigerref23_Letter.j0 k a false) ⟨#[]⟩ := by
      refine Ev.step (fun k => by rw [clavigerref23_Letter.j0]) ?_
      refine Ev.ifn (by simp) ?_
      refine Ev.ifn (by omega) ?_
      rw [show (a == 5) = false from beq_eq_false_iff_ne.2 (by omega)]
      refine Ev.step (fun k => by rw [clavigerref23_Letter.j1]) ?_
      refine Ev.ifn (by simp) ?_
      refine Ev.ifn (by omega) ?_
      rw [show (a == 7) = false from beq_eq_false_iff_ne.2 (by omega)]
      refine Ev.step (fun k => by rw [clavigerref23_Letter.j2]) ?_
      refine Ev.ifn (by simp) ?_
      by_cases h8 : a ≥ 8
      · exact Ev.ifp h8 (Ev.ifn (by omega) (Ev.now _))
      · exact Ev.ifn h8 (Ev.now _)
    refine Ev.congr (fun k => by rw [clavigerref23_Letter.f]) ?_
    by_cases h1 : a ≥ 1
    · refine Ev.ifp h1 ?_
      rw [decide_eq_false (by omega)]
      exact hj
    · exact Ev.ifn h1 hj
theorem ref_pads_is (a : Int) : Ev (fun k => clavigerref36_Pads.f k a) (padF a) := by
  have hb := ksz_bd a
  have ht := totF_bd (ltrF a)
  refine Ev.congr (fun k => by rw [clavigerref36_Pads.f]) ?_
  refine Ev.bindc (of_isR a).1 ?_
  unfold padF
  by_cases h : kszF a = 0
  · refine Ev.eq ?_ (if_pos h).symm
    exact Ev.ifp h (Ev.now _)
  · refine Ev.eq ?_ (if_neg h).symm
    refine Ev.ifn h ?_
    refine Ev.bind (ref_letter_is a) ?_
    refine Ev.bind (ref_total_is _) ?_
    refine Ev.bindc (of_isR a).1 ?_
    rw [w64 (x := totF (ltrF a) - 2) (by omega) (by omega), w64 (by omega) (by omega)]
    exact (Ev.now _).eq (by omega)
/-- What is made. -/
def makeF (a : Int) (l m : List Int) : ByteArray × Int := if checkF a (strOfNums l) = 0 then (if (m.length : Int) = padF a then (strOfNums (lowB (8 * (l.length : Int)) 2 ++ l ++ m), 0) else (⟨#[]⟩, 13)) else (⟨#[]⟩, checkF a (strOfNums l))
theorem make_is (a : Int) (l m : List Int) (hl : l.length ≤ 1000) (hm : m.length ≤ 1000) : Ev (fun k => load_Make.f k a (strOfNums l) (strOfNums m)) (makeF a l m) := by
  refine Ev.congr (fun k => by rw [load_Make.f]) ?_
  refine Ev.bind (check_isP a (strOfNums l) (by rw [nums_size]; omega)) ?_
  unfold makeF
  by_cases h : checkF a (strOfNums l) = 0
  · refine Ev.eq ?_ (if_pos h).symm
    refine Ev.ifp h ?_
    refine Ev.bind (pads_is a) ?_
    rw [nums_sizeI]
    by_cases hp : (m.length : Int) = padF a
    · refine Ev.eq ?_ (if_pos hp).symm
      refine Ev.ifp hp ?_
      rw [nums_sizeI, w64 (by omega) (by omega), wu64 (by omega) (by omega)]
      refine Ev.bindc (octets_Put_eq _ 2) ?_
      rw [if_pos (by decide)]
      have hj := octets_Join_eq [lowB ((l.length : Int) * 8) 2, l, m] (by simp) (by simp [lowB_length]; omega)
      refine Ev.bindc (a := strOfNums (lowB (8 * (l.length : Int)) 2 ++ l ++ m)) ?_ (Ev.now _)
      rw [show (8 * (l.length : Int)) = (l.length : Int) * 8 by omega]
      refine hj.trans ?_
      simp
    · refine Ev.eq ?_ (if_neg hp).symm
      exact Ev.ifn hp (Ev.now _)
  · refine Ev.eq ?_ (if_neg h).symm
    exact Ev.ifn h (Ev.now _)
theorem ref_make_is (a : Int) (l m : List Int) (hl : l.length ≤ 1000) (hm : m.length ≤ 1000) : Ev (fun k => clavigerref36_Make.f k a (strOfNums l) (strOfNums m)) (makeF a l m) := by
  refine Ev.congr (fun k => by rw [clavigerref36_Make.f]) ?_
  refine Ev.bind (check_isR a (strOfNums l) (by rw [nums_size]; omega)) ?_
  unfold makeF
  by_cases h : checkF a (strOfNums l) = 0
  · refine Ev.eq ?_ (if_pos h).symm
    refine Ev.ifp h ?_
    refine Ev.bind (ref_pads_is a) ?_
    rw [nums_sizeI]
    by_cases hp : (m.length : Int) = padF a
    · refine Ev.eq ?_ (if_pos hp).symm
      refine Ev.ifp hp ?_
      rw [nums_sizeI, w64 (by omega) (by omega), wu64 (by omega) (by omega)]
      refine Ev.bind (ref01_Put_eq (8 * (l.length : Int)) (by omega) (by omega) 2) ?_
      rw [show (if (1 : Int) ≤ 2 ∧ (2 : Int) ≤ 8 then lowB (8 * (l.length : Int)) (Int.toNat 2) else []) = lowB (8 * (l.length : Int)) 2 from rfl, str_append, str_append]
      have hlow := lowB_length (8 * (l.length : Int)) 2
      refine Ev.ifp (by rw [nums_size, nums_size]; omega) ?_
      refine Ev.ifp (by rw [nums_size, nums_size, List.length_append]; omega) ?_
      exact Ev.now _
    · refine Ev.eq ?_ (if_neg hp).symm
      exact Ev.ifn hp (Ev.now _)
  · refine Ev.eq ?_ (if_neg h).symm
    exact Ev.ifn h (Ev.now _)
theorem and7u {x : Int} (h0 : 0 ≤ x) (h1 : x < 65536) : Go.bits .and .u64 x 7 = x % 8 := by
  obtain ⟨n, rfl⟩ : ∃ n : Nat, x = (n : Int) := ⟨x.toNat, by omega⟩
  have e : Go.bits .and .u64 (n : Int) 7 = ((n &&& 7 : Nat) : Int) := (bits_nat .u64 64 (by decide) (fun m h0 h1 => wu64 h0 (by simpa using h1)) n 7 (by omega) (by decide)).1
  rw [e, show (7 : Nat) = 2 ^ 3 - 1 from rfl, Nat.and_two_pow_sub_one_eq_mod]
  omega
/-- A payload's parts, by its length in bits. -/
def bits2 (l : List Int) : Int := 256 * l.getD 0 0 + l.getD 1 0
def partF (L : ByteArray) (l : List Int) : List Int × List Int × Bool := if totF L = 0 ∨ ¬ ((l.length : Int) = totF L) then ([], [], false) else if bits2 l % 8 = 0 ∧ bits2 l / 8 ≤ (l.length : Int) - 2 then ((l.drop 2).take (bits2 l / 8).toNat, (l.drop 2).drop (bits2 l / 8).toNat, true) else ([], [], false)
theorem get2 (l : List Int) (hl : OkB l) (h2 : 2 ≤ l.length) : getN (l.take 2) = bits2 l ∧ 0 ≤ bits2 l ∧ bits2 l < 65536 := by
  match l, h2 with
  | a :: b :: r, _ =>
    have ha := hl a (by simp)
    have hb := hl b (by simp)
    refine ⟨?_, ?_, ?_⟩
    · simp [getN, bits2]; omega
    · simp [bits2]; omega
    · simp [bits2]; omega
theorem parted_is (L : ByteArray) (l : List Int) (hl : OkB l) (hs : l.length ≤ 1000) : Ev (fun k => load_parted.f k L (strOfNums l)) (strOfNums (partF L l).1, strOfNums (partF L l).2.1, (partF L l).2.2) := by
  have ht := totF_bd L
  have hno : Ev (fun k => load_parted.j0 k (strOfNums l) true) (⟨#[]⟩, ⟨#[]⟩, false) := by
    refine Ev.step (fun k => by rw [load_parted.j0]) ?_
    exact Ev.ifp rfl (Ev.now _)
  refine Ev.congr (fun k => by rw [load_parted.f]) ?_
  refine Ev.bind (total_is L) ?_
  by_cases h0 : totF L = 0
  · have e : partF L l = ([], [], false) := by unfold partF; rw [if_pos (Or.inl h0)]
    rw [e]
    exact Ev.ifp h0 hno
  refine Ev.ifn h0 ?_
  rw [nums_sizeI]
  by_cases h1 : (l.length : Int) = totF L
  · rw [show ((l.length : Int) != totF L) = false by rw [h1]; simp]
    have h2 : 2 ≤ l.length := by omega
    obtain ⟨g1, g2, g3⟩ := get2 l hl h2
    refine Ev.step (fun k => by rw [load_parted.j0]) ?_
    refine Ev.ifn (by simp) ?_
    refine Ev.ifp (by decide) ?_
    refine Ev.ifp (by rw [nums_sizeI]; omega) ?_
    have hx : (strOfNums l).extract 0 2 = strOfNums (l.take 2) := by rw [str_extract]; simp
    have hy : (strOfNums l).extract 2 (strOfNums l).size = strOfNums (l.drop 2) := by
      rw [str_extract, nums_size]
      rw [List.take_of_length_le (by simp)]
    rw [hx, hy]
    have hdl : (l.drop 2).length = l.length - 2 := List.length_drop
    refine Ev.bind (octets_Get_yes (l.take 2) (hl.take 2) (by simp; omega) (by simp; omega)) ?_
    rw [g1, and7u g2 g3, w64 (x := bits2 l / 8) (by omega) (by omega), nums_sizeI, nums_size, str_extract, str_extract]
    by_cases h8 : bits2 l % 8 = 0
    · refine Ev.ifp h8 ?_
      by_cases hb : bits2 l / 8 ≤ (l.length : Int) - 2
      · have e : partF L l = ((l.drop 2).take (bits2 l / 8).toNat, (l.drop 2).drop (bits2 l / 8).toNat, true) := by
          unfold partF
          rw [if_neg (by simp [h0, h1]), if_pos ⟨h8, hb⟩]
        rw [e]
        refine Ev.ifn (by omega) ?_
        refine Ev.ifp (by omega) ?_
        refine Ev.ifp (by omega) ?_
        refine (Ev.now _).eq ?_
        rw [Nat.sub_zero, List.drop_zero, List.take_of_length_le (l := List.drop (bits2 l / 8).toNat (List.drop 2 l)) (by rw [List.length_drop]; exact Nat.le_refl _)]
      · have e : partF L l = ([], [], false) := by
          unfold partF
          rw [if_neg (by simp [h0, h1]), if_neg (fun h => hb h.2)]
        rw [e]
        exact Ev.ifp (by omega) (Ev.now _)
    · have e : partF L l = ([], [], false) := by
        unfold partF
        rw [if_neg (by simp [h0, h1]), if_neg (fun h => h8 h.1)]
      rw [e]
      exact Ev.ifn h8 (Ev.now _)
  · have e : partF L l = ([], [], false) := by unfold partF; rw [if_pos (Or.inr h1)]
    rw [e, show ((l.length : Int) != totF L) = true from bne_iff_ne.2 h1]
    exact hno
def takeF (L : ByteArray) (l : List Int) : Int × ByteArray × ByteArray × Int :=
  if (partF L l).2.2 = true then (if (ofF L ((partF L l).1.length : Int) 11).2 = true then (if checkF (ofF L ((partF L l).1.length : Int) 11).1 (strOfNums (partF L l).1) = 0 then ((ofF L ((partF L l).1.length : Int) 11).1, strOfNums (partF L l).1, strOfNums (partF L l).2.1, 0) else (0, ⟨#[]⟩, ⟨#[]⟩, checkF (ofF L ((partF L l).1.length : Int) 11).1 (strOfNums (partF L l).1))) else (0, ⟨#[]⟩, ⟨#[]⟩, 8)) else (0, ⟨#[]⟩, ⟨#[]⟩, 5)
theorem part_len (L : ByteArray) (l : List Int) : (partF L l).1.length ≤ l.length := by
  unfold partF
  split
  · simp
  · split
    · simp; omega
    · simp
theorem take_is (L : ByteArray) (l : List Int) (hl : OkB l) (hs : l.length ≤ 1000) : Ev (fun k => load_Take.f k L (strOfNums l)) (takeF L l) := by
  have hlen := part_len L l
  refine Ev.congr (fun k => by rw [load_Take.f]) ?_
  refine Ev.bind (parted_is L l hl hs) ?_
  unfold takeF
  generalize partF L l = p at *
  obtain ⟨x, y, b⟩ := p
  simp only at hlen ⊢
  by_cases hb : b = true
  · refine Ev.eq ?_ (if_pos hb).symm
    refine Ev.ifp hb ?_
    refine Ev.bindc (kof_is L _) ?_
    rw [nums_sizeI]
    generalize ofF L (x.length : Int) 11 = q
    by_cases hq : q.2 = true
    · refine Ev.eq ?_ (if_pos hq).symm
      refine Ev.ifp hq ?_
      refine Ev.bind (check_isP q.1 (strOfNums x) (by rw [nums_size]; omega)) ?_
      exact Ev.ite (fun _ => Ev.now _) (fun _ => Ev.now _)
    · refine Ev.eq ?_ (if_neg hq).symm
      exact Ev.ifn hq (Ev.now _)
  · refine Ev.eq ?_ (if_neg hb).symm
    exact Ev.ifn hb (Ev.now _)
theorem ref_take_is (L : ByteArray) (l : List Int) (hl : OkB l) (hs : l.length ≤ 1000) : Ev (fun k => clavigerref36_Take.f k L (strOfNums l)) (takeF L l) := by
  have ht := totF_bd L
  have hno : Ev (fun k => clavigerref36_Take.j0 k L (strOfNums l) true) (0, ⟨#[]⟩, ⟨#[]⟩, 5) := by
    refine Ev.step (fun k => by rw [clavigerref36_Take.j0]) ?_
    exact Ev.ifp rfl (Ev.now _)
  have hno1 : ∀ b, Ev (fun k => clavigerref36_Take.j1 k L (strOfNums l) b true) (0, ⟨#[]⟩, ⟨#[]⟩, 5) := by
    intro b
    refine Ev.step (fun k => by rw [clavigerref36_Take.j1]) ?_
    exact Ev.ifp rfl (Ev.now _)
  refine Ev.congr (fun k => by rw [clavigerref36_Take.f]) ?_
  refine Ev.bind (ref_total_is L) ?_
  by_cases h0 : totF L = 0
  · have e : takeF L l = (0, ⟨#[]⟩, ⟨#[]⟩, 5) := by unfold takeF partF; rw [if_pos (Or.inl h0)]; rfl
    rw [e]
    exact Ev.ifp h0 hno
  refine Ev.ifn h0 ?_
  rw [nums_sizeI]
  by_cases h1 : (l.length : Int) = totF L
  · rw [show ((l.length : Int) != totF L) = false by rw [h1]; simp]
    have h2 : 2 ≤ l.length := by omega
    obtain ⟨g1, g2, g3⟩ := get2 l hl h2
    refine Ev.step (fun k => by rw [clavigerref36_Take.j0]) ?_
    refine Ev.ifn (by simp) ?_
    refine Ev.ifp (by rw [nums_sizeI]; omega) ?_
    refine Ev.ifp (by rw [nums_sizeI]; omega) ?_
    have b0 : bt (strOfNums l) 0 = l.getD 0 0 := by
      have := nums_bt hl 0 (by omega)
      rw [List.getD_eq_getElem?_getD, List.getElem?_eq_getElem (by omega)]
      exact this
    have b1 : bt (strOfNums l) 1 = l.getD 1 0 := by
      have := nums_bt hl 1 (by omega)
      rw [List.getD_eq_getElem?_getD, List.getElem?_eq_getElem (by omega)]
      exact this
    have o0 := hl.get 0 (by omega)
    have o1 := hl.get 1 (by omega)
    have c0 : 0 ≤ l.getD 0 0 ∧ l.getD 0 0 < 256 := by
      rw [List.getD_eq_getElem?_getD, List.getElem?_eq_getElem (by omega)]; exact o0
    have c1 : 0 ≤ l.getD 1 0 ∧ l.getD 1 0 < 256 := by
      rw [List.getD_eq_getElem?_getD, List.getElem?_eq_getElem (by omega)]; exact o1
    have hbb : wrap64 ((wrap64 (256 * (wrap64 (bt (strOfNums l) 0)))) + (wrap64 (bt (strOfNums l) 1))) = bits2 l := by
      rw [b0, b1, w64 (x := l.getD 0 0) (by omega) (by omega), w64 (x := l.getD 1 0) (by omega) (by omega), w64 (x := 256 * l.getD 0 0) (by omega) (by omega), w64 (by omega) (by omega)]
      rfl
    rw [hbb, nums_sizeI, Int.tmod_eq_emod_of_nonneg g2, Int.tdiv_eq_ediv_of_nonneg g2, w64 (x := bits2 l / 8) (by omega) (by omega), w64 (x := (l.length : Int) - 2) (by omega) (by omega)]
    have hdl : (l.drop 2).length = l.length - 2 := List.length_drop
    by_cases h8 : bits2 l % 8 = 0
    · refine Ev.ifp h8 ?_
      by_cases hb : bits2 l / 8 ≤ (l.length : Int) - 2
      · have e : partF L l = ((l.drop 2).take (bits2 l / 8).toNat, (l.drop 2).drop (bits2 l / 8).toNat, true) := by
          unfold partF
          rw [if_neg (by simp [h0, h1]), if_pos ⟨h8, hb⟩]
        have hxl : ((l.drop 2).take (bits2 l / 8).toNat).length = (bits2 l / 8).toNat := by rw [List.length_take]; omega
        rw [decide_eq_false (by omega)]
        refine Ev.step (fun k => by rw [clavigerref36_Take.j1]) ?_
        refine Ev.ifn (by simp) ?_
        unfold takeF
        rw [e]
        simp only [if_true]
        rw [hxl, Int.toNat_of_nonneg (by omega), Int.tdiv_eq_ediv_of_nonneg g2, w64 (x := bits2 l / 8) (by omega) (by omega), w64 (x := 2 + bits2 l / 8) (by omega) (by omega)]
        refine Ev.bind (ref_of_is L _) ?_
        generalize ofF L (bits2 l / 8) 11 = q
        have hx : (strOfNums l).extract 2 (2 + bits2 l / 8).toNat = strOfNums ((l.drop 2).take (bits2 l / 8).toNat) := by
          rw [str_extract, show (2 + bits2 l / 8).toNat - 2 = (bits2 l / 8).toNat by omega]
        have hy : (strOfNums l).extract (2 + bits2 l / 8).toNat (strOfNums l).size = strOfNums ((l.drop 2).drop (bits2 l / 8).toNat) := by
          rw [str_extract, nums_size, List.drop_drop, show (2 + bits2 l / 8).toNat = 2 + (bits2 l / 8).toNat by omega, List.take_of_length_le (by rw [List.length_drop]; exact Nat.le_refl _)]
        by_cases hq : q.2 = true
        · refine Ev.eq ?_ (if_pos hq).symm
          refine Ev.ifp hq ?_
          refine Ev.ifp (by omega) ?_
          refine Ev.ifp (by rw [nums_sizeI]; omega) ?_
          rw [hx, hy]
          refine Ev.bind (check_isR q.1 _ (by rw [nums_size]; omega)) ?_
          exact Ev.ite (fun _ => Ev.ifp (by omega) (Ev.now _)) (fun _ => Ev.now _)
        · refine Ev.eq ?_ (if_neg hq).symm
          exact Ev.ifn hq (Ev.now _)
      · have e0 : partF L l = ([], [], false) := by
          unfold partF
          rw [if_neg (by simp [h0, h1]), if_neg (fun h => hb h.2)]
        have e : takeF L l = (0, ⟨#[]⟩, ⟨#[]⟩, 5) := by
          unfold takeF
          rw [e0]
          rfl
        rw [e, decide_eq_true (by omega)]
        exact hno1 _
    · have e0 : partF L l = ([], [], false) := by
        unfold partF
        rw [if_neg (by simp [h0, h1]), if_neg (fun h => h8 h.1)]
      have e : takeF L l = (0, ⟨#[]⟩, ⟨#[]⟩, 5) := by
        unfold takeF
        rw [e0]
        rfl
      rw [e]
      exact Ev.ifn h8 (hno1 _)
  · have e : takeF L l = (0, ⟨#[]⟩, ⟨#[]⟩, 5) := by unfold takeF partF; rw [if_pos (Or.inr h1)]; rfl
    rw [e, show ((l.length : Int) != totF L) = true from bne_iff_ne.2 h1]
    exact hno
theorem awake36 : Ev (fun k => clavigerlaw36_awake.f k) true := Ev.of clavigerlaw36_awake.mono (k := 60) (by kernel_rfl)
theorem LoadTells : clavigerlaw36_LoadTells.Pure := by
  intro a0 a1 a2 a3 a4 _ _ _ _ _
  obtain ⟨l, hl, rfl⟩ := str_nums a1
  obtain ⟨m, hm, rfl⟩ := str_nums a2
  obtain ⟨p, hp, rfl⟩ := str_nums a4
  refine Ev.rounds (g := fun k => clavigerlaw36_LoadTells.f k a0 (strOfNums l) (strOfNums m) a3 (strOfNums p)) ?_
  have hbig : Ev (fun k => clavigerlaw36_LoadTells.j0 k a0 (strOfNums l) (strOfNums m) a3 (strOfNums p) true) true := by
    refine Ev.step (fun k => by rw [clavigerlaw36_LoadTells.j0]) ?_
    exact Ev.ifp rfl (Ev.bind awake36 (Ev.now _))
  refine Ev.congr (fun k => by rw [clavigerlaw36_LoadTells.f]) ?_
  rw [nums_sizeI, nums_sizeI, nums_sizeI]
  by_cases h1 : (l.length : Int) > 200
  · exact Ev.ifp h1 hbig
  refine Ev.ifn h1 ?_
  by_cases h2 : (m.length : Int) > 200
  · exact Ev.ifp h2 hbig
  refine Ev.ifn h2 ?_
  by_cases h3 : (a3.size : Int) > 20
  · exact Ev.ifp h3 hbig
  refine Ev.ifn h3 ?_
  by_cases h4 : (p.length : Int) > 200
  · rw [decide_eq_true h4]; exact hbig
  rw [decide_eq_false h4]
  refine Ev.step (fun k => by rw [clavigerlaw36_LoadTells.j0]) ?_
  refine Ev.ifn (by simp) ?_
  refine Ev.bind (make_is a0 l m (by omega) (by omega)) ?_
  refine Ev.bind (ref_make_is a0 l m (by omega) (by omega)) ?_
  refine Ev.bind (take_is a3 p hp (by omega)) ?_
  refine Ev.bind (ref_take_is a3 p hp (by omega)) ?_
  refine Ev.ifp rfl ?_
  refine Ev.ifp rfl ?_
  refine Ev.ifp rfl ?_
  refine Ev.ifp rfl ?_
  refine Ev.ifp rfl ?_
  refine Ev.ifp rfl ?_
  refine Ev.bind (total_is a3) ?_
  refine Ev.bind (ref_total_is a3) ?_
  refine Ev.ifp rfl ?_
  refine Ev.bind (pads_is a0) ?_
  refine Ev.bind (ref_pads_is a0) ?_
  refine Ev.ifp rfl ?_
  exact Ev.bind awake36 (Ev.now _)
end Go.Proofs.YtgkiikdfmjhnjaaDoor.Pure
