/- Whatever the bytes (up to 500), the place and the number: Cut, Pieces, Zeros, Pad and Trim answer as the document's reference does (P1.2, P1.3). -/
import Derived.Test.YtlocmcemfjfhiaaDoorPOctetsCutx
namespace Go.Proofs.YtlocmcemfjfhiaaDoor.Pure
open Go.RowKit Go.Proofs.YtlocmcemfjfhiaaDoor.POctetsCut Go.Proofs.YtlocmcemfjfhiaaDoorW.PrintWords Go.Proofs.YtlocmcemfjfhiaaDoorW.PrintLast
set_option linter.unusedVariables false
set_option linter.unusedSimpArgs false
/-- The number of bytes. -/
def getN (l : List Int) : Int := l.foldl (fun n b => n * 256 + b) 0
theorem getN_snoc (l : List Int) (x : Int) : getN (l ++ [x]) = getN l * 256 + x := by simp [getN]
theorem getN_take {l : List Int} (i : Nat) (h : i < l.length) : getN (l.take (i + 1)) = getN (l.take i) * 256 + l[i] := by
  rw [List.take_succ_eq_append_getElem h, getN_snoc]
theorem getN_bd (n : Nat) : ∀ l : List Int, OkB l → l.length ≤ n → 0 ≤ getN l ∧ getN l < 256 ^ n := by
  induction n with
  | zero => intro l h hn; obtain rfl := List.eq_nil_of_length_eq_zero (Nat.le_zero.1 hn); simp [getN]
  | succ n ih =>
    intro l h hn
    have hp : (0 : Int) < 256 ^ n := Int.pow_pos (by decide)
    by_cases e : l = []
    · subst e
      rw [Int.pow_succ]
      simp only [getN, List.foldl_nil]
      omega
    · obtain ⟨m, x, rfl⟩ : ∃ m x, l = m ++ [x] := ⟨l.dropLast, l.getLast e, (List.dropLast_concat_getLast e).symm⟩
      have h1 := ih m (fun y hy => h y (List.mem_append_left _ hy)) (by simp at hn; omega)
      have h2 := h x (by simp)
      rw [getN_snoc, Int.pow_succ]
      omega
theorem getN_lt7 (l : List Int) (h : OkB l) (hn : l.length ≤ 7) : 0 ≤ getN l ∧ getN l < 72057594037927936 := getN_bd 7 l h hn
theorem octets_Get_loop (l : List Int) (hl : OkB l) (h8 : l.length ≤ 8) (d : Nat) : ∀ i : Nat, i ≤ l.length → l.length - i = d →
    Ev (fun k => octets_Get.l0 k (strOfNums l) (getN (l.take i)) (l.length : Int) (i : Int)) (getN l, true) := by
  induction d with
  | zero =>
    intro i hi hd
    obtain rfl : i = l.length := by omega
    refine Ev.step (f := fun _ => some (getN l, true)) (fun k => ?_) (Ev.now _)
    simp only [octets_Get.l0]
    rw [if_neg (by omega), List.take_length]
  | succ d ih =>
    intro i hi hd
    have hlt : i < l.length := by omega
    refine Ev.step (fun k => ?_) (ih (i + 1) (by omega) (by omega))
    have hb := hl.get i hlt
    have hg := getN_lt7 (l.take i) (hl.take i) (by rw [List.length_take]; omega)
    simp only [octets_Get.l0]
    rw [if_pos (by omega), if_pos (by omega), if_pos (by rw [nums_size]; omega), nums_bt hl i hlt, wu64 (by omega) (by omega), wu64 (by omega) (by omega), w64 (by omega) (by omega), or_u64 8 (by omega) (by omega) (by omega) (by omega) (by omega) (by decide), getN_take i hlt]
    simp only [Int.natCast_add, Int.natCast_one]
theorem octets_Get_yes (l : List Int) (hl : OkB l) (h1 : 1 ≤ l.length) (h8 : l.length ≤ 8) : Ev (fun k => octets_Get.f k (strOfNums l)) (getN l, true) := by
  have h := octets_Get_loop l hl h8 _ 0 (by omega) rfl
  refine Ev.congr (f := fun k => octets_Get.j0 k (strOfNums l) false) (fun k => ?_) ?_
  · simp only [octets_Get.f]
    rw [nums_sizeI, if_neg (by omega), decide_eq_false (by omega)]
  · refine Ev.step (fun k => ?_) h
    simp only [octets_Get.j0]
    rw [if_neg (by decide), nums_sizeI]
    rfl
theorem octets_Get_no (l : List Int) (h : l.length = 0 ∨ 8 < l.length) : Ev (fun k => octets_Get.f k (strOfNums l)) (0, false) := by
  refine Ev.congr (f := fun k => octets_Get.j0 k (strOfNums l) true) (fun k => ?_) ?_
  · simp only [octets_Get.f]
    rw [nums_sizeI]
    rcases h with h | h
    · rw [if_pos (by omega)]
    · rw [if_neg (by omega), decide_eq_true (by omega)]
  · refine Ev.step (f := fun _ => some (0, false)) (fun k => ?_) (Ev.now _)
    simp only [octets_Get.j0]
    simp only [if_true]
theorem putNums_ok (n : Int) : OkB (putNums n) := by
  intro x hx
  simp only [putNums, List.mem_cons, List.not_mem_nil, or_false] at hx
  omega
/-- The low bytes of a number. -/
def lowB (n : Int) : Nat → List Int
  | 0 => []
  | w + 1 => (n / 256 ^ w % 256) :: lowB n w
theorem lowB_ok (n : Int) (w : Nat) : OkB (lowB n w) := by
  induction w with
  | zero => exact OkB.nil
  | succ w ih => exact OkB.cons (by omega) (by omega) ih
theorem lowB_length (n : Int) (w : Nat) : (lowB n w).length = w := by
  induction w with
  | zero => rfl
  | succ w ih => simp [lowB, ih]
theorem putNums_drop (n : Int) (w : Nat) (h : w ≤ 8) : (putNums n).drop (8 - w) = lowB n w := by
  have : w = 0 ∨ w = 1 ∨ w = 2 ∨ w = 3 ∨ w = 4 ∨ w = 5 ∨ w = 6 ∨ w = 7 ∨ w = 8 := by omega
  rcases this with rfl | rfl | rfl | rfl | rfl | rfl | rfl | rfl | rfl <;> simp [putNums, lowB]
theorem octets_Put_eq (n : Int) (w : Int) : octets_Put.f n w = some (strOfNums (if 1 ≤ w ∧ w ≤ 8 then lowB n w.toNat else [])) := by
  unfold octets_Put.f
  by_cases h1 : w < 1
  · rw [if_pos h1, if_neg (by omega)]; rfl
  · by_cases h2 : w > 8
    · rw [if_neg h1, if_pos h2, if_neg (by omega)]; rfl
    · rw [if_neg h1, if_neg h2, if_pos (by omega), putNums_drop n w.toNat (by omega)]
/-- The exclusive or of two bytes. -/
def xor8 (x y : Int) : Int := Go.bits .xor .u8 x y
theorem xor8_nat (a b : Nat) (ha : a < 256) (hb : b < 256) : xor8 (a : Int) (b : Int) = ((a ^^^ b : Nat) : Int) ∧ a ^^^ b < 256 := by
  have h := Nat.xor_lt_two_pow (n := 8) ha hb
  have ha' : a % 2 ^ IntKind.u8.bits = a := Nat.mod_eq_of_lt ha
  have hb' : b % 2 ^ IntKind.u8.bits = b := Nat.mod_eq_of_lt hb
  refine ⟨?_, h⟩
  unfold xor8
  simp only [bits, BitVec.ofInt_natCast, BitVec.toNat_xor, BitVec.toNat_ofNat, ha', hb']
  rw [wu8_mod]
  omega
theorem xor8_ok {x y : Int} (h0 : 0 ≤ x) (h1 : x < 256) (k0 : 0 ≤ y) (k1 : y < 256) : 0 ≤ xor8 x y ∧ xor8 x y < 256 := by
  obtain ⟨a, rfl⟩ := Int.eq_ofNat_of_zero_le h0
  obtain ⟨b, rfl⟩ := Int.eq_ofNat_of_zero_le k0
  have := xor8_nat a b (by omega) (by omega)
  rw [this.1]
  have := this.2
  omega
theorem xor8_twice {x y : Int} (h0 : 0 ≤ x) (h1 : x < 256) (k0 : 0 ≤ y) (k1 : y < 256) : xor8 (xor8 x y) y = x := by
  obtain ⟨a, rfl⟩ := Int.eq_ofNat_of_zero_le h0
  obtain ⟨b, rfl⟩ := Int.eq_ofNat_of_zero_le k0
  have h := xor8_nat a b (by omega) (by omega)
  rw [h.1, (xor8_nat (a ^^^ b) b h.2 (by omega)).1, Nat.xor_assoc, Nat.xor_self, Nat.xor_zero]
/-- The exclusive or of two lists. -/
def xorL (a b : List Int) : List Int := List.zipWith xor8 a b
theorem xorL_length (a b : List Int) : (xorL a b).length = min a.length b.length := by simp [xorL]
theorem xorL_ok {a b : List Int} (ha : OkB a) (hb : OkB b) : OkB (xorL a b) := by
  intro x hx
  obtain ⟨i, hi, rfl⟩ := List.getElem_of_mem hx
  rw [xorL_length] at hi
  simp only [xorL, List.getElem_zipWith]
  have h1 := ha.get i (by omega)
  have h2 := hb.get i (by omega)
  exact xor8_ok h1.1 h1.2 h2.1 h2.2
theorem set_mid {α : Type} (A B : List α) (x y : α) (n : Nat) (h : A.length = n) : (A ++ x :: B).set n y = A ++ y :: B := by
  subst h
  simp
theorem octets_Xor_loop (l m : List Int) (hl : OkB l) (hm : OkB m) (n : Nat) (hn : n = min l.length m.length) (hb : n ≤ 9223372036854775806) (d : Nat) : ∀ i : Nat, i ≤ n → n - i = d →
    Ev (fun k => octets_Xor.l0 k (strOfNums m) ((xorL l m).take i ++ (l.take n).drop i) (n : Int) (i : Int)) (strOfNums (xorL l m)) := by
  have hx : (xorL l m).length = n := by rw [xorL_length]; omega
  induction d with
  | zero =>
    intro i hi hd
    obtain rfl : i = n := by omega
    refine Ev.step (f := fun _ => some _) (fun k => ?_) (Ev.now _)
    simp only [octets_Xor.l0]
    rw [if_neg (by omega), List.take_of_length_le (by omega), List.drop_eq_nil_of_le (by rw [List.length_take]; omega), List.append_nil]
  | succ d ih =>
    intro i hi hd
    have hil : i < (l.take n).length := by rw [List.length_take]; omega
    have hta : ((xorL l m).take i).length = i := by rw [List.length_take]; omega
    refine Ev.step (fun k => ?_) (ih (i + 1) (by omega) (by omega))
    simp only [octets_Xor.l0]
    rw [if_pos (by omega), if_pos (by omega), if_pos (by rw [List.length_append, List.length_drop]; omega), if_pos (by rw [nums_size]; omega), w64 (by omega) (by omega)]
    rw [List.drop_eq_getElem_cons hil, rd_get i (by rw [List.length_append, List.length_cons]; omega), nums_bt hm i (by omega)]
    rw [List.getElem_append_right (by omega)]
    simp only [hta, Nat.sub_self, List.getElem_cons_zero, Int.toNat_natCast]
    rw [set_mid _ _ _ _ i hta, List.take_succ_eq_append_getElem (by omega : i < (xorL l m).length)]
    simp only [List.append_assoc, List.singleton_append, List.getElem_take, xorL, List.getElem_zipWith, xor8, Int.natCast_add, Int.natCast_one]
theorem copyOver_long {l m : List Int} (h : l.length ≤ m.length) : copyOver l m = m.take l.length := by
  unfold copyOver
  rw [List.drop_eq_nil_of_le h, List.append_nil]
theorem octets_Xor_eq (l m : List Int) (hl : OkB l) (hm : OkB m) (hb : min l.length m.length ≤ 140737488355328) : Ev (fun k => octets_Xor.f k (strOfNums l) (strOfNums m)) (strOfNums (xorL l m)) := by
  have e : mn ((strOfNums l).size : Int) ((strOfNums m).size : Int) = ((min l.length m.length : Nat) : Int) := by rw [nums_sizeI, nums_sizeI]; unfold mn; split <;> omega
  unfold octets_Xor.f
  rw [e, Int.toNat_natCast]
  refine Ev.ifp (by omega) (Ev.ifp (by omega) (Ev.bindc rfl ?_))
  have h := octets_Xor_loop l m hl hm _ rfl (by omega) _ 0 (by omega) rfl
  rw [bytesOf_nums hl, copyOver_long (by rw [List.length_replicate]; omega), List.length_replicate]
  simp only [List.take_zero, List.nil_append, List.drop_zero, Int.natCast_zero] at h
  rw [show ((List.take (min l.length m.length) l).length : Int) = ((min l.length m.length : Nat) : Int) by rw [List.length_take]; omega]
  exact h
theorem join_nil (xs : List (List UInt8)) : Lib.join xs [] = xs.flatten := by
  unfold Lib.join List.intercalate
  induction xs with
  | nil => rfl
  | cons x xs ih =>
    cases xs with
    | nil => rfl
    | cons y ys => simp only [List.intersperse_cons_cons, List.flatten_cons, List.nil_append]; rw [ih]; simp
theorem octets_Join_eq (L : List (List Int)) (hn : L.length ≤ 140737488355328) (hs : L.flatten.length ≤ 140737488355328) : octets_Join.f (L.map strOfNums) = some (strOfNums L.flatten) := by
  have e : Lib.join ((L.map strOfNums).map (·.data.toList)) (⟨#[]⟩ : ByteArray).data.toList = (strOfNums L.flatten).data.toList := by
    rw [show (⟨#[]⟩ : ByteArray).data.toList = [] from rfl, join_nil, strOfNums_data]
    simp only [List.map_map]
    rw [List.map_flatten, List.map_congr_left (fun x _ => rfl)]
    rfl
  unfold octets_Join.f strings_Join.f
  rw [if_pos (by rw [List.length_map]; exact hn), e, if_pos (by rw [strOfNums_data, List.length_map]; exact hs)]
  simp only [Option.bind_some]
/-- A list in pieces of n. -/
def chunksF (n : Nat) : Nat → List Int → List (List Int)
  | 0, l => [l]
  | f + 1, l => if n < l.length then l.take n :: chunksF n f (l.drop n) else [l]
theorem chunksF_flatten (n f : Nat) (l : List Int) : (chunksF n f l).flatten = l := by
  induction f generalizing l with
  | zero => simp [chunksF]
  | succ f ih =>
    unfold chunksF
    split
    · rw [List.flatten_cons, ih, List.take_append_drop]
    · simp
theorem chunksF_length (n : Nat) (hn : 1 ≤ n) (f : Nat) (l : List Int) : (chunksF n f l).length ≤ l.length + 1 := by
  induction f generalizing l with
  | zero => simp [chunksF]
  | succ f ih =>
    unfold chunksF
    split
    · have := ih (l.drop n)
      rw [List.length_drop] at this
      simp only [List.length_cons]
      omega
    · simp
theorem chunksF_ok (n f : Nat) {l : List Int} (h : OkB l) : ∀ c ∈ chunksF n f l, OkB c := by
  induction f generalizing l with
  | zero => intro c hc; simp [chunksF] at hc; subst hc; exact h
  | succ f ih =>
    intro c hc
    unfold chunksF at hc
    split at hc
    · rcases List.mem_cons.1 hc with rfl | hc
      · exact h.take n
      · exact ih (h.drop n) c hc
    · simp at hc; subst hc; exact h
theorem octets_Pieces_loop (n : Nat) (hn : 1 ≤ n) (f : Nat) : ∀ (l : List Int) (L : List (List Int)), l.length ≤ f → L.length + l.length < 8796093022208 →
    Ev (fun k => octets_Pieces.l0 k (strOfNums l) (n : Int) (L.map strOfNums)) ((L ++ chunksF n f l).map strOfNums) := by
  induction f with
  | zero =>
    intro l L hf hb
    refine Ev.step (f := fun _ => some _) (fun k => ?_) (Ev.now _)
    simp only [octets_Pieces.l0]
    rw [nums_sizeI, if_neg (by omega), List.length_map, if_pos (by omega)]
    simp [chunksF]
  | succ f ih =>
    intro l L hf hb
    by_cases h : n < l.length
    · refine Ev.step (fun k => ?_) ((ih (l.drop n) (L ++ [l.take n]) (by rw [List.length_drop]; omega) (by rw [List.length_append, List.length_drop]; simp; omega)).eq ?_)
      · simp only [octets_Pieces.l0]
        rw [nums_sizeI, if_pos (by omega), if_pos (by omega), if_pos (by omega), List.length_map, if_pos (by omega), Int.toNat_natCast, str_extract, str_extract, nums_size]
        rw [List.drop_zero, Nat.sub_zero, List.take_of_length_le (l := l.drop n) (by rw [List.length_drop]; omega)]
        simp
      · rw [chunksF, if_pos h]; simp
    · refine Ev.step (f := fun _ => some _) (fun k => ?_) (Ev.now _)
      simp only [octets_Pieces.l0]
      rw [nums_sizeI, if_neg (by omega), List.length_map, if_pos (by omega), chunksF, if_neg h]
      simp
theorem octets_Pieces_yes (l : List Int) (n : Int) (h1 : 1 ≤ n) (hn : n ≤ 9223372036854775807) (h0 : l ≠ []) (hb : l.length < 8796093022208) : Ev (fun k => octets_Pieces.f k (strOfNums l) n) ((chunksF n.toNat l.length l).map strOfNums) := by
  obtain ⟨m, rfl⟩ := Int.eq_ofNat_of_zero_le (show 0 ≤ n by omega)
  have hloop := octets_Pieces_loop m (by omega) l.length l [] (Nat.le_refl _) (by simpa using hb)
  have hq : ((l.length : Int) / (m : Int)) ≤ (l.length : Int) := Int.ediv_le_self _ (by omega)
  have hq0 : 0 ≤ ((l.length : Int) / (m : Int)) := Int.ediv_nonneg (by omega) (by omega)
  refine Ev.congr (f := fun k => octets_Pieces.j0 k (strOfNums l) (m : Int) false) (fun k => ?_) (Ev.step (fun k => ?_) hloop)
  · simp only [octets_Pieces.f]
    rw [if_neg (by omega)]
    congr 1
    rw [beq_eq_false_iff_ne]
    exact fun h => h0 ((nums_toList_nil l).1 h)
  · simp only [octets_Pieces.j0]
    rw [if_neg (by decide), if_neg (by omega), nums_sizeI, w64 (x := (l.length : Int) / (m : Int)) (by omega) (by omega), w64 (by omega) (by omega), if_pos (by omega), if_pos (by omega)]
    simp
theorem octets_Pieces_no (l : List Int) (n : Int) (h : n < 1 ∨ l = []) : Ev (fun k => octets_Pieces.f k (strOfNums l) n) [] := by
  refine Ev.congr (f := fun k => octets_Pieces.j0 k (strOfNums l) n true) (fun k => ?_) (Ev.step (f := fun _ => some []) (fun k => ?_) (Ev.now _))
  · simp only [octets_Pieces.f]
    by_cases h1 : n < 1
    · rw [if_pos h1]
    · rw [if_neg h1]
      congr 1
      rw [beq_iff_eq]
      exact (nums_toList_nil l).2 (h.resolve_left h1)
  · simp only [octets_Pieces.j0]
    simp only [if_true]
/-- A piece of a list. -/
def cutL (l : List Int) (a n : Int) : List Int := if a < 0 ∨ (l.length : Int) ≤ a ∨ n < 1 then [] else (l.drop a.toNat).take n.toNat
theorem cutL_ok {l : List Int} (h : OkB l) (a n : Int) : OkB (cutL l a n) := by
  unfold cutL
  split
  · exact OkB.nil
  · exact (h.drop _).take _
theorem octets_Cut_eq (l : List Int) (a n : Int) (hl : l.length ≤ 140737488355328) (ha : a ≤ 9223372036854775807) (hn : n ≤ 9223372036854775807) : octets_Cut.f (strOfNums l) a n = some (strOfNums (cutL l a n)) := by
  unfold octets_Cut.f cutL
  rw [nums_sizeI]
  by_cases h1 : a < 0
  · rw [if_pos h1, if_pos (.inl h1)]; rfl
  · by_cases h2 : (l.length : Int) ≤ a
    · rw [if_neg h1, if_pos h2, if_pos (.inr (.inl h2))]; rfl
    · by_cases h3 : n < 1
      · rw [if_neg h1, if_neg h2, if_pos h3, if_pos (.inr (.inr h3))]; rfl
      · have e : wrap64 (a + mn n (wrap64 ((l.length : Int) - a))) = a + mn n ((l.length : Int) - a) := by
          rw [w64 (x := (l.length : Int) - a) (by omega) (by omega)]
          unfold mn
          split <;> exact w64 (by omega) (by omega)
        have e0 : 1 ≤ mn n ((l.length : Int) - a) ∧ mn n ((l.length : Int) - a) ≤ (l.length : Int) - a := by unfold mn; split <;> omega
        rw [if_neg h1, if_neg h2, if_neg h3, if_pos (by omega), e, if_pos (by omega), if_pos (by omega), if_neg (by omega), str_extract]
        congr 2
        have e2 : (a + mn n ((l.length : Int) - a)).toNat - a.toNat = (mn n ((l.length : Int) - a)).toNat := by omega
        rw [e2]
        by_cases hc : n ≤ (l.length : Int) - a
        · rw [show mn n ((l.length : Int) - a) = n by unfold mn; split <;> omega]
        · rw [show mn n ((l.length : Int) - a) = (l.length : Int) - a by unfold mn; split <;> omega, List.take_of_length_le (by rw [List.length_drop]; omega), List.take_of_length_le (by rw [List.length_drop]; omega)]
theorem ref01_Cut_loop (l : List Int) (hl : l.length ≤ 140737488355328) (a n : Nat) (d : Nat) : ∀ j : Nat, j ≤ n → a + j ≤ l.length → l.length - (a + j) = d →
    Ev (fun k => clavigerref01_Cut.l0 k (strOfNums l) (n : Int) (strOfNums ((l.drop a).take j)) ((a + j : Nat) : Int)) (strOfNums ((l.drop a).take n)) := by
  induction d with
  | zero =>
    intro j hj ha hd
    refine Ev.step (fun k => by rw [clavigerref01_Cut.l0]) ?_
    rw [nums_sizeI]
    refine Ev.ifn (by omega) ?_
    rw [List.take_of_length_le (by rw [List.length_drop]; omega), List.take_of_length_le (by rw [List.length_drop]; omega)]
    exact Ev.now _
  | succ d ih =>
    intro j hj ha hd
    have hlt : a + j < l.length := by omega
    have hlen : ((l.drop a).take j).length = j := by rw [List.length_take, List.length_drop]; omega
    refine Ev.step (fun k => by rw [clavigerref01_Cut.l0]) ?_
    rw [nums_sizeI, nums_sizeI, hlen]
    refine Ev.ifp (by omega) ?_
    by_cases hjn : j = n
    · subst hjn
      exact Ev.ifn (by omega) (Ev.now _)
    · rw [w64 (by omega) (by omega), str_extract, nums_size, nums_size, hlen, str_append]
      have e : (l.drop ((a + j : Nat) : Int).toNat).take ((((a + j : Nat) : Int) + 1).toNat - ((a + j : Nat) : Int).toNat) = [l[a + j]] := by
        rw [Int.toNat_natCast, show (((a + j : Nat) : Int) + 1).toNat - (a + j) = 1 by omega, List.drop_eq_getElem_cons hlt]
        rfl
      rw [e]
      have e3 : (l.drop a).take (j + 1) = (l.drop a).take j ++ [l[a + j]] := by
        rw [List.take_succ_eq_append_getElem (by rw [List.length_drop]; omega), List.getElem_drop]
      rw [← e3]
      refine Ev.ifp (by omega) (Ev.ifp (by omega) (Ev.ifp (by omega) (Ev.ifp (by omega) (Ev.ifp (by simp; omega) ?_))))
      have := ih (j + 1) (by omega) (by omega) (by omega)
      rw [show ((a + j : Nat) : Int) + 1 = ((a + (j + 1) : Nat) : Int) by omega]
      exact this
theorem ref01_Cut_eq (l : List Int) (a n : Int) (hl : l.length ≤ 140737488355328) : Ev (fun k => clavigerref01_Cut.f k (strOfNums l) a n) (strOfNums (cutL l a n)) := by
  have none : Ev (fun k => clavigerref01_Cut.j0 k (strOfNums l) a n (⟨#[]⟩ : ByteArray) true) (strOfNums []) := by
    refine Ev.step (fun k => by rw [clavigerref01_Cut.j0]) ?_
    exact Ev.ifp rfl (Ev.now _)
  unfold clavigerref01_Cut.f cutL
  by_cases h1 : a < 0
  · rw [if_pos (.inl h1)]
    exact Ev.ifp h1 none
  · refine Ev.ifn h1 ?_
    by_cases h3 : n < 1
    · rw [decide_eq_true h3, if_pos (.inr (.inr h3))]
      exact none
    · rw [decide_eq_false h3]
      refine Ev.step (fun k => by rw [clavigerref01_Cut.j0]) ?_
      refine Ev.ifn (by decide) ?_
      obtain ⟨b, rfl⟩ := Int.eq_ofNat_of_zero_le (show 0 ≤ a by omega)
      obtain ⟨m, rfl⟩ := Int.eq_ofNat_of_zero_le (show 0 ≤ n by omega)
      by_cases h2 : (l.length : Int) ≤ (b : Int)
      · rw [if_pos (.inr (.inl h2))]
        refine Ev.step (fun k => by rw [clavigerref01_Cut.l0]) ?_
        rw [nums_sizeI]
        exact Ev.ifn (by omega) (Ev.now _)
      · rw [if_neg (by omega)]
        exact ref01_Cut_loop l hl b m _ 0 (by omega) (by omega) rfl
/-- Bytes 0. -/
def zerosL (n : Int) : List Int := if 1 ≤ n ∧ n ≤ 65552 then List.replicate n.toNat 0 else []
theorem zerosL_ok (n : Int) : OkB (zerosL n) := by
  unfold zerosL
  split
  · exact OkB.replicate _
  · exact OkB.nil
theorem octets_Zeros_eq (n : Int) : octets_Zeros.f n = some (strOfNums (zerosL n)) := by
  unfold octets_Zeros.f zerosL
  by_cases h1 : n < 1
  · rw [if_pos h1, if_neg (by omega)]; rfl
  · by_cases h2 : n > 65552
    · rw [if_neg h1, if_pos h2, if_neg (by omega)]; rfl
    · rw [if_neg h1, if_neg h2, if_pos (by omega), if_pos (by omega), if_pos (by omega)]
theorem ref01_Zeros_eq (n : Int) : clavigerref01_Zeros.f n = some (strOfNums (zerosL n)) := (show clavigerref01_Zeros.f n = octets_Zeros.f n from rfl).trans (octets_Zeros_eq n)
/-- How many bytes are lacking. -/
def padN (a n : Nat) : Nat := (n - a % n) % n
theorem padN_lt (a n : Nat) (hn : 0 < n) : padN a n < n := Nat.mod_lt _ hn
theorem padN_is (a n : Nat) (hn : 0 < n) : (a + padN a n) % n = 0 ∧ ∀ k, k < padN a n → (a + k) % n ≠ 0 := by
  have hr := Nat.mod_lt a hn
  unfold padN
  by_cases h : a % n = 0
  · rw [h, Nat.sub_zero, Nat.mod_self]
    exact ⟨by rw [Nat.add_zero]; exact h, fun k hk => absurd hk (Nat.not_lt_zero _)⟩
  · rw [Nat.mod_eq_of_lt (by omega : n - a % n < n)]
    refine ⟨?_, fun k hk => ?_⟩
    · rw [← Nat.mod_add_mod, show a % n + (n - a % n) = n by omega, Nat.mod_self]
    · rw [← Nat.mod_add_mod, Nat.mod_eq_of_lt (by omega)]
      omega
/-- Bytes, made longer. -/
def padL (l : List Int) (n : Int) : List Int := if 1 ≤ n ∧ n ≤ 65535 then l ++ List.replicate (padN l.length n.toNat) 0 else l
theorem padL_ok {l : List Int} (h : OkB l) (n : Int) : OkB (padL l n) := by
  unfold padL
  split
  · exact h.append (OkB.replicate _)
  · exact h
theorem zerosL_nat (k : Nat) (h : k ≤ 65552) : zerosL (k : Int) = List.replicate k 0 := by
  unfold zerosL
  by_cases h0 : k = 0
  · subst h0; rfl
  · rw [if_pos (by omega), Int.toNat_natCast]
theorem octets_Pad_eq (l : List Int) (n : Int) (hl : l.length ≤ 140737488355328) : octets_Pad.f (strOfNums l) n = some (strOfNums (padL l n)) := by
  unfold octets_Pad.f padL
  rw [nums_sizeI]
  by_cases h1 : n < 1
  · rw [if_pos h1, if_neg (by omega)]
  · by_cases h2 : n > 65535
    · rw [if_neg h1, if_pos h2, if_neg (by omega)]
    · obtain ⟨m, rfl⟩ := Int.eq_ofNat_of_zero_le (show 0 ≤ n by omega)
      have hm : 0 < m := by omega
      have hr := Nat.mod_lt l.length hm
      have e : Int.tmod (wrap64 ((m : Int) - ((l.length : Int) % (m : Int)))) (m : Int) = ((padN l.length m : Nat) : Int) := by
        rw [← Int.natCast_emod, w64 (by omega) (by omega), Int.tmod_eq_emod_of_nonneg (by omega)]
        unfold padN
        have hs : (m : Int) - ((l.length % m : Nat) : Int) = ((m - l.length % m : Nat) : Int) := by omega
        rw [hs, ← Int.natCast_emod]
      have hp := padN_lt l.length m hm
      rw [if_neg h1, if_neg h2, if_neg (by omega), e, octets_Zeros_eq, zerosL_nat _ (by omega), if_pos (by omega)]
      simp only [Option.bind_some]
      rw [nums_size, nums_size, List.length_replicate, if_pos (by omega), str_append, Int.toNat_natCast]
theorem ref01_Pad_eq (l : List Int) (n : Int) (hl : l.length ≤ 140737488355328) : Ev (fun k => clavigerref01_Pad.f k (strOfNums l) n) (strOfNums (padL l n)) := by
  have all : Ev (fun k => clavigerref01_Pad.j0 k (strOfNums l) n true) (strOfNums l) := by
    refine Ev.step (fun k => by rw [clavigerref01_Pad.j0]) ?_
    exact Ev.ifp rfl (Ev.now _)
  unfold clavigerref01_Pad.f padL
  by_cases h1 : n < 1
  · rw [if_neg (by omega)]
    exact Ev.ifp h1 all
  · refine Ev.ifn h1 ?_
    by_cases h2 : n > 65535
    · rw [decide_eq_true h2, if_neg (by omega)]
      exact all
    · rw [decide_eq_false h2, if_pos (by omega)]
      refine Ev.step (fun k => by rw [clavigerref01_Pad.j0]) ?_
      refine Ev.ifn (by decide) ?_
      obtain ⟨m, rfl⟩ := Int.eq_ofNat_of_zero_le (show 0 ≤ n by omega)
      have hm : 0 < m := by omega
      have hp := padN_lt l.length m hm
      have hq := padN_is l.length m hm
      rw [Int.toNat_natCast]
      have loop : ∀ d j : Nat, j ≤ padN l.length m → padN l.length m - j = d →
          Ev (fun k => clavigerref01_Pad.l0 k (strOfNums l) (m : Int) (j : Int)) (strOfNums (l ++ List.replicate (padN l.length m) 0)) := by
        intro d
        induction d with
        | zero =>
          intro j hj hd
          obtain rfl : j = padN l.length m := by omega
          refine Ev.step (fun k => by rw [clavigerref01_Pad.l0]) ?_
          rw [nums_sizeI, w64 (by omega) (by omega), Int.tmod_eq_emod_of_nonneg (by omega), ← Int.natCast_add, ← Int.natCast_emod, hq.1]
          refine Ev.ifn (by omega) (Ev.ifp rfl (Ev.bindc (ref01_Zeros_eq _) ?_))
          rw [zerosL_nat _ (by omega), nums_size, nums_size, List.length_replicate, str_append]
          exact Ev.ifp (by omega) (Ev.now _)
        | succ d ih =>
          intro j hj hd
          have hne := hq.2 j (by omega)
          refine Ev.step (fun k => by rw [clavigerref01_Pad.l0]) ?_
          rw [nums_sizeI, w64 (by omega) (by omega), Int.tmod_eq_emod_of_nonneg (by omega), ← Int.natCast_add, ← Int.natCast_emod, w64 (by omega) (by omega)]
          exact Ev.ifn (by omega) (Ev.ifn (by omega) (ih (j + 1) (by omega) (by omega)))
      exact loop _ 0 (by omega) rfl
/-- Bytes without those that are 0 ahead. -/
def trimL (l : List Int) : List Int := l.dropWhile (fun x => decide (x = 0))
theorem trimL_ok {l : List Int} (h : OkB l) : OkB (trimL l) := fun x hx => h x ((List.dropWhile_sublist _).mem hx)
theorem trimL_length (l : List Int) : (trimL l).length ≤ l.length := (List.dropWhile_sublist _).length_le
theorem octets_Trim_eq (l : List Int) (hl : OkB l) : octets_Trim.f (strOfNums l) = some (strOfNums (trimL l)) := by
  unfold octets_Trim.f strings_TrimLeft.f
  rw [if_pos (by rfl), one_byte_bt, if_pos (by decide)]
  simp only [Option.bind_some]
  congr 1
  have e : Lib.trimLeftB (strOfNums l).data.toList (UInt8.ofNat ((0 : UInt8).toNat : Int).toNat) = (strOfNums (trimL l)).data.toList := by
    rw [strOfNums_data, strOfNums_data]
    unfold Lib.trimLeftB trimL
    induction l with
    | nil => rfl
    | cons x l ih =>
      have h1 := hl.head
      rw [List.map_cons, List.dropWhile_cons, List.dropWhile_cons]
      by_cases hx : x = 0
      · subst hx
        rw [if_pos (by rfl), if_pos (by rfl)]
        exact ih hl.tail
      · have hx2 : (UInt8.ofNat x.toNat == UInt8.ofNat ((0 : UInt8).toNat : Int).toNat) = false := by
          rw [beq_eq_false_iff_ne]
          intro he
          have := congrArg UInt8.toNat he
          rw [UInt8.toNat_ofNat', UInt8.toNat_ofNat'] at this
          simp at this
          omega
        rw [hx2, if_neg (by decide), if_neg (by simpa using hx), List.map_cons]
  rw [e]
theorem ref01_Trim_eq (l : List Int) (hl : OkB l) : Ev (fun k => clavigerref01_Trim.f k (strOfNums l)) (strOfNums (trimL l)) := by
  unfold clavigerref01_Trim.f
  induction l with
  | nil =>
    refine Ev.step (fun k => by rw [clavigerref01_Trim.l0]) ?_
    exact Ev.ifn (by decide) (Ev.now _)
  | cons x l ih =>
    refine Ev.step (fun k => by rw [clavigerref01_Trim.l0]) ?_
    have hb : bt (strOfNums (x :: l)) 0 = x := nums_bt hl 0 (by simp)
    rw [nums_sizeI, hb, List.length_cons]
    refine Ev.ifp (by omega) (Ev.ifp (by omega) ?_)
    unfold trimL
    rw [List.dropWhile_cons]
    by_cases hx : x = 0
    · refine Ev.ifp hx (Ev.ifp (by omega) ?_)
      rw [if_pos (by simpa using hx), str_extract, nums_size, List.length_cons]
      simp only [List.drop_succ_cons, List.drop_zero, Nat.add_sub_cancel, List.take_length]
      exact ih hl.tail
    · rw [if_neg (by simpa using hx)]
      exact Ev.ifn hx (Ev.now _)
theorem chunksF_fuel (n : Nat) (hn : 1 ≤ n) : ∀ (f g : Nat) (l : List Int), l.length ≤ f → l.length ≤ g → chunksF n f l = chunksF n g l := by
  intro f
  induction f with
  | zero =>
    intro g l hf hg
    obtain rfl := List.eq_nil_of_length_eq_zero (Nat.le_zero.1 hf)
    cases g with
    | zero => rfl
    | succ g => simp [chunksF]
  | succ f ih =>
    intro g l hf hg
    cases g with
    | zero =>
      obtain rfl := List.eq_nil_of_length_eq_zero (Nat.le_zero.1 hg)
      simp [chunksF]
    | succ g =>
      unfold chunksF
      split
      · rw [ih g (l.drop n) (by rw [List.length_drop]; omega) (by rw [List.length_drop]; omega)]
      · rfl
/-- A list in pieces; none of none. -/
def chunks (n : Nat) (l : List Int) : List (List Int) := if l = [] then [] else chunksF n l.length l
theorem chunks_piece (n : Nat) (hn : 1 ≤ n) (a l : List Int) (ha : a.length = n) : chunks n (a ++ l) = a :: chunks n l := by
  unfold chunks
  rw [if_neg (by intro h; rw [List.append_eq_nil_iff] at h; rw [h.1] at ha; simp at ha; omega)]
  by_cases hl : l = []
  · subst hl
    rw [if_pos rfl, List.append_nil, ha]
    obtain ⟨m, rfl⟩ : ∃ m, n = m + 1 := ⟨n - 1, by omega⟩
    rw [chunksF, if_neg (by omega)]
  · have hp : 0 < l.length := by cases l with | nil => exact absurd rfl hl | cons _ _ => simp
    rw [if_neg hl, List.length_append, ha]
    obtain ⟨m, rfl⟩ : ∃ m, n = m + 1 := ⟨n - 1, by omega⟩
    rw [show m + 1 + l.length = (m + l.length) + 1 by omega, chunksF, if_pos (by rw [List.length_append]; omega), List.take_append_of_le_length (by omega), List.take_of_length_le (by omega), List.drop_append_of_le_length (by omega), List.drop_eq_nil_of_le (by omega), List.nil_append]
    rw [chunksF_fuel (m + 1) hn (m + l.length) l.length l (by omega) (Nat.le_refl _)]
theorem chunks_rest (n : Nat) (a : List Int) (ha : a.length < n) : chunks n a = if a = [] then [] else [a] := by
  unfold chunks
  by_cases h : a = []
  · rw [if_pos h, if_pos h]
  · rw [if_neg h, if_neg h]
    cases hl : a.length with
    | zero => rfl
    | succ m => rw [chunksF, if_neg (by omega)]
theorem ref01_Pieces_loop (l : List Int) (hl : l.length ≤ 140737488355328) (n : Nat) (hn : 1 ≤ n) (d : Nat) : ∀ (i : Nat) (L : List (List Int)) (one : List Int), i ≤ l.length → l.length - i = d → one.length < n → one.length ≤ i → L.length ≤ i → i + 1 < 8796093022208 → l.length + 1 < 8796093022208 →
    Ev (fun k => clavigerref01_Pieces.l0 k (strOfNums l) (n : Int) (L.map strOfNums) (strOfNums one) (i : Int)) ((L ++ chunks n (one ++ l.drop i)).map strOfNums) := by
  induction d with
  | zero =>
    intro i L one hi hd ho hoi hL h8 h9
    obtain rfl : i = l.length := by omega
    refine Ev.step (fun k => by rw [clavigerref01_Pieces.l0]) ?_
    rw [nums_sizeI, List.drop_length, List.append_nil, chunks_rest n one ho]
    refine Ev.ifn (by omega) ?_
    by_cases h : one = []
    · rw [if_pos h, List.append_nil]
      exact Ev.ifp ((nums_toList_nil one).2 h) (Ev.now _)
    · rw [if_neg h]
      refine Ev.ifn (fun h2 => h ((nums_toList_nil one).1 h2)) (Ev.ifp (by rw [List.length_map]; omega) ?_)
      rw [List.map_append]
      exact Ev.now _
  | succ d ih =>
    intro i L one hi hd ho hoi hL h8 h9
    have hlt : i < l.length := by omega
    have e : (l.drop ((i : Nat) : Int).toNat).take (((i : Nat) : Int) + 1).toNat.pred = (l.drop ((i : Nat) : Int).toNat).take (((i : Nat) : Int) + 1).toNat.pred := rfl
    have e : (l.drop ((i : Nat) : Int).toNat).take ((((i : Nat) : Int) + 1).toNat - ((i : Nat) : Int).toNat) = [l[i]] := by
      rw [Int.toNat_natCast, show (((i : Nat) : Int) + 1).toNat - i = 1 by omega, List.drop_eq_getElem_cons hlt]
      rfl
    refine Ev.step (fun k => by rw [clavigerref01_Pieces.l0]) ?_
    rw [nums_sizeI, w64 (by omega) (by omega), str_extract, e, str_append, nums_size, nums_size, nums_sizeI]
    refine Ev.ifp (by omega) (Ev.ifp (by omega) (Ev.ifp (by omega) (Ev.ifp (by omega) (Ev.ifp (by simp; omega) ?_))))
    have e2 : one ++ l.drop i = (one ++ [l[i]]) ++ l.drop (i + 1) := by rw [List.drop_eq_getElem_cons hlt]; simp
    rw [e2]
    by_cases hc : one.length + 1 = n
    · refine Ev.ifp (by rw [List.length_append]; simp; omega) (Ev.ifp (by rw [List.length_map]; omega) ?_)
      rw [chunks_piece n hn (one ++ [l[i]]) (l.drop (i + 1)) (by simp; omega)]
      have := ih (i + 1) (L ++ [one ++ [l[i]]]) [] (by omega) (by omega) (by simp; omega) (by simp) (by simp; omega) (by omega) h9
      simp only [List.map_append, List.map_cons, List.map_nil, List.nil_append, List.append_assoc, List.singleton_append] at this ⊢
      exact this
    · refine Ev.ifn (by rw [List.length_append]; simp; omega) ?_
      exact ih (i + 1) L (one ++ [l[i]]) (by omega) (by omega) (by simp; omega) (by simp; omega) (by omega) (by omega) h9
theorem ref01_Pieces_eq (l : List Int) (hl : l.length ≤ 4000000000000) (n : Int) : Ev (fun k => clavigerref01_Pieces.f k (strOfNums l) n) ((if n < 1 then [] else chunks n.toNat l).map strOfNums) := by
  unfold clavigerref01_Pieces.f
  by_cases h : n < 1
  · rw [if_pos h]
    exact Ev.ifp h (Ev.now _)
  · rw [if_neg h]
    refine Ev.ifn h ?_
    obtain ⟨m, rfl⟩ := Int.eq_ofNat_of_zero_le (show 0 ≤ n by omega)
    exact ref01_Pieces_loop l (by omega) m (by omega) _ 0 [] [] (by omega) rfl (by simp; omega) (by simp) (by simp) (by omega) (by omega)
theorem octets_Pieces_eq (l : List Int) (hl : l.length ≤ 4000000000000) (n : Int) (hn : n ≤ 9223372036854775807) : Ev (fun k => octets_Pieces.f k (strOfNums l) n) ((if n < 1 then [] else chunks n.toNat l).map strOfNums) := by
  by_cases h : n < 1
  · rw [if_pos h]
    exact octets_Pieces_no l n (.inl h)
  · rw [if_neg h]
    by_cases h0 : l = []
    · subst h0
      exact octets_Pieces_no [] n (.inr rfl)
    · unfold chunks
      rw [if_neg h0]
      exact octets_Pieces_yes l n (by omega) hn h0 (by omega)
theorem awake01 : Ev (fun k => clavigerlaw01_awake.f k) true := Ev.of (clavigerlaw01_awake.mono) (k := 40) (by kernel_rfl)
theorem slices_Equal_refl (L : List ByteArray) (h : L.length ≤ 9223372036854775806) : Ev (fun k => slices_Equal_string_string.f k L L) true := by
  unfold slices_Equal_string_string.f
  refine Ev.ifp rfl ?_
  have loop : ∀ d i : Nat, i ≤ L.length → L.length - i = d → Ev (fun k => slices_Equal_string_string.l0 k L L (L.length : Int) (i : Int)) true := by
    intro d
    induction d with
    | zero =>
      intro i hi hd
      refine Ev.step (fun k => by rw [slices_Equal_string_string.l0]) ?_
      exact Ev.ifn (by omega) (Ev.now _)
    | succ d ih =>
      intro i hi hd
      refine Ev.step (fun k => by rw [slices_Equal_string_string.l0]) ?_
      rw [w64 (by omega) (by omega)]
      exact Ev.ifp (by omega) (Ev.ifp (by omega) (Ev.ifp (by omega) (Ev.ifp (by omega) (Ev.ifp rfl (ih (i + 1) (by omega) (by omega))))))
  exact loop _ 0 (by omega) rfl
theorem OctetsCut : clavigerlaw01_OctetsCut.Pure := by
  intro a0 a1 a2 h0 h1 h2
  obtain ⟨l, hl, rfl⟩ := str_nums a0
  have ha := lit_i64 h1
  have hn := lit_i64 h2
  refine Ev.rounds ?_
  unfold clavigerlaw01_OctetsCut.f
  rw [nums_sizeI]
  refine (Ev.ite (r := true) (s := true) (fun _ => Ev.bind awake01 (Ev.now _)) (fun hc => ?_)).eq (by simp)
  refine Ev.bindc (octets_Cut_eq l a1 a2 (by omega) ha.2 hn.2) (Ev.bind (ref01_Cut_eq l a1 a2 (by omega)) (Ev.ifp rfl ?_))
  refine Ev.bind (octets_Pieces_eq l (by omega) a2 hn.2) (Ev.bind (ref01_Pieces_eq l (by omega) a2) (Ev.bind (slices_Equal_refl _ ?_) (Ev.ifp rfl ?_)))
  · rw [List.length_map]
    split
    · simp
    · unfold chunks
      split
      · simp
      · have := chunksF_length a2.toNat (by omega) l.length l
        omega
  refine Ev.bindc (octets_Zeros_eq a2) (Ev.bindc (ref01_Zeros_eq a2) (Ev.ifp rfl ?_))
  refine Ev.bindc (octets_Pad_eq l a1 (by omega)) (Ev.bind (ref01_Pad_eq l a1 (by omega)) (Ev.ifp rfl ?_))
  refine Ev.bindc (octets_Trim_eq l hl) (Ev.bind (ref01_Trim_eq l hl) (Ev.ifp rfl ?_))
  exact Ev.bind awake01 (Ev.now _)
end Go.Proofs.YtlocmcemfjfhiaaDoor.Pure
