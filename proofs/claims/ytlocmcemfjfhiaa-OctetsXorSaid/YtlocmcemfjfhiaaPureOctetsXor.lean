/- Whatever the two strings (up to 500 bytes each) and the parts (up to 40 of up to 100 bytes): Xor and Join answer as the document's reference does (P1.3). -/
import Derived.Test.YtlocmcemfjfhiaaPOctetsXorx
namespace Go.Proofs.Ytlocmcemfjfhiaa.Pure
open Go.RowKit Go.Proofs.Ytlocmcemfjfhiaa.POctetsXor Go.Proofs.YtlocmcemfjfhiaaW.PrintWords Go.Proofs.YtlocmcemfjfhiaaW.PrintLast
set_option linter.unusedVariables false
set_option linter.unusedSimpArgs false
/-- The number of bytes. -/
def getN (l : List Int) : Int := l.foldl (fun n b => n * 256 + b) 0
theorem getN_snoc (l : List Int) (x : Int) : getN (l ++ [x]) = getN l * 256 + x := by simp [getN]
theorem getN_take {l : List Int} (i : Nat) (h : i < l.length) : getN (l.take (i + 1)) = getN (l.take i) * 256 + l[i] := by
  rw [List.take_succ_eq_append_getElem h, getN_snoc]
theorem getN_bd (n : Nat) : ∀ l : List Int, OkB l → l.length ≤ n → 0 ≤ getN l ∧ getN l < 256 ^ n := by
  induction n with
  | zero => intro l h hn; obtain rfl := List.eq_nil_of_length_eq_zero (Nat.le_zero.1 hn); simp [getN]
  | succ n ih =>
    intro l h hn
    have hp : (0 : Int) < 256 ^ n := Int.pow_pos (by decide)
    by_cases e : l = []
    · subst e
      rw [Int.pow_succ]
      simp only [getN, List.foldl_nil]
      omega
    · obtain ⟨m, x, rfl⟩ : ∃ m x, l = m ++ [x] := ⟨l.dropLast, l.getLast e, (List.dropLast_concat_getLast e).symm⟩
      have h1 := ih m (fun y hy => h y (List.mem_append_left _ hy)) (by simp at hn; omega)
      have h2 := h x (by simp)
      rw [getN_snoc, Int.pow_succ]
      omega
theorem getN_lt7 (l : List Int) (h : OkB l) (hn : l.length ≤ 7) : 0 ≤ getN l ∧ getN l < 72057594037927936 := getN_bd 7 l h hn
theorem octets_Get_loop (l : List Int) (hl : OkB l) (h8 : l.length ≤ 8) (d : Nat) : ∀ i : Nat, i ≤ l.length → l.length - i = d →
    Ev (fun k => octets_Get.l0 k (strOfNums l) (getN (l.take i)) (l.length : Int) (i : Int)) (getN l, true) := by
  induction d with
  | zero =>
    intro i hi hd
    obtain rfl : i = l.length := by omega
    refine Ev.step (f := fun _ => some (getN l, true)) (fun k => ?_) (Ev.now _)
    simp only [octets_Get.l0]
    rw [if_neg (by omega), List.take_length]
  | succ d ih =>
    intro i hi hd
    have hlt : i < l.length := by omega
    refine Ev.step (fun k => ?_) (ih (i + 1) (by omega) (by omega))
    have hb := hl.get i hlt
    have hg := getN_lt7 (l.take i) (hl.take i) (by rw [List.length_take]; omega)
    simp only [octets_Get.l0]
    rw [if_pos (by omega), if_pos (by omega), if_pos (by rw [nums_size]; omega), nums_bt hl i hlt, wu64 (by omega) (by omega), wu64 (by omega) (by omega), w64 (by omega) (by omega), or_u64 8 (by omega) (by omega) (by omega) (by omega) (by omega) (by decide), getN_take i hlt]
    simp only [Int.natCast_add, Int.natCast_one]
theorem octets_Get_yes (l : List Int) (hl : OkB l) (h1 : 1 ≤ l.length) (h8 : l.length ≤ 8) : Ev (fun k => octets_Get.f k (strOfNums l)) (getN l, true) := by
  have h := octets_Get_loop l hl h8 _ 0 (by omega) rfl
  refine Ev.congr (f := fun k => octets_Get.j0 k (strOfNums l) false) (fun k => ?_) ?_
  · simp only [octets_Get.f]
    rw [nums_sizeI, if_neg (by omega), decide_eq_false (by omega)]
  · refine Ev.step (fun k => ?_) h
    simp only [octets_Get.j0]
    rw [if_neg (by decide), nums_sizeI]
    rfl
theorem octets_Get_no (l : List Int) (h : l.length = 0 ∨ 8 < l.length) : Ev (fun k => octets_Get.f k (strOfNums l)) (0, false) := by
  refine Ev.congr (f := fun k => octets_Get.j0 k (strOfNums l) true) (fun k => ?_) ?_
  · simp only [octets_Get.f]
    rw [nums_sizeI]
    rcases h with h | h
    · rw [if_pos (by omega)]
    · rw [if_neg (by omega), decide_eq_true (by omega)]
  · refine Ev.step (f := fun _ => some (0, false)) (fun k => ?_) (Ev.now _)
    simp only [octets_Get.j0]
    simp only [if_true]
theorem putNums_ok (n : Int) : OkB (putNums n) := by
  intro x hx
  simp only [putNums, List.mem_cons, List.not_mem_nil, or_false] at hx
  omega
/-- The low bytes of a number. -/
def lowB (n : Int) : Nat → List Int
  | 0 => []
  | w + 1 => (n / 256 ^ w % 256) :: lowB n w
theorem lowB_ok (n : Int) (w : Nat) : OkB (lowB n w) := by
  induction w with
  | zero => exact OkB.nil
  | succ w ih => exact OkB.cons (by omega) (by omega) ih
theorem lowB_length (n : Int) (w : Nat) : (lowB n w).length = w := by
  induction w with
  | zero => rfl
  | succ w ih => simp [lowB, ih]
theorem putNums_drop (n : Int) (w : Nat) (h : w ≤ 8) : (putNums n).drop (8 - w) = lowB n w := by
  have : w = 0 ∨ w = 1 ∨ w = 2 ∨ w = 3 ∨ w = 4 ∨ w = 5 ∨ w = 6 ∨ w = 7 ∨ w = 8 := by omega
  rcases this with rfl | rfl | rfl | rfl | rfl | rfl | rfl | rfl | rfl <;> simp [putNums, lowB]
theorem octets_Put_eq (n : Int) (w : Int) : octets_Put.f n w = some (strOfNums (if 1 ≤ w ∧ w ≤ 8 then lowB n w.toNat else [])) := by
  unfold octets_Put.f
  by_cases h1 : w < 1
  · rw [if_pos h1, if_neg (by omega)]; rfl
  · by_cases h2 : w > 8
    · rw [if_neg h1, if_pos h2, if_neg (by omega)]; rfl
    · rw [if_neg h1, if_neg h2, if_pos (by omega), putNums_drop n w.toNat (by omega)]
/-- The exclusive or of two bytes. -/
def xor8 (x y : Int) : Int := Go.bits .xor .u8 x y
theorem xor8_nat (a b : Nat) (ha : a < 256) (hb : b < 256) : xor8 (a : Int) (b : Int) = ((a ^^^ b : Nat) : Int) ∧ a ^^^ b < 256 := by
  have h := Nat.xor_lt_two_pow (n := 8) ha hb
  have ha' : a % 2 ^ IntKind.u8.bits = a := Nat.mod_eq_of_lt ha
  have hb' : b % 2 ^ IntKind.u8.bits = b := Nat.mod_eq_of_lt hb
  refine ⟨?_, h⟩
  unfold xor8
  simp only [bits, BitVec.ofInt_natCast, BitVec.toNat_xor, BitVec.toNat_ofNat, ha', hb']
  rw [wu8_mod]
  omega
theorem xor8_ok {x y : Int} (h0 : 0 ≤ x) (h1 : x < 256) (k0 : 0 ≤ y) (k1 : y < 256) : 0 ≤ xor8 x y ∧ xor8 x y < 256 := by
  obtain ⟨a, rfl⟩ := Int.eq_ofNat_of_zero_le h0
  obtain ⟨b, rfl⟩ := Int.eq_ofNat_of_zero_le k0
  have := xor8_nat a b (by omega) (by omega)
  rw [this.1]
  have := this.2
  omega
theorem xor8_twice {x y : Int} (h0 : 0 ≤ x) (h1 : x < 256) (k0 : 0 ≤ y) (k1 : y < 256) : xor8 (xor8 x y) y = x := by
  obtain ⟨a, rfl⟩ := Int.eq_ofNat_of_zero_le h0
  obtain ⟨b, rfl⟩ := Int.eq_ofNat_of_zero_le k0
  have h := xor8_nat a b (by omega) (by omega)
  rw [h.1, (xor8_nat (a ^^^ b) b h.2 (by omega)).1, Nat.xor_assoc, Nat.xor_self, Nat.xor_zero]
/-- The exclusive or of two lists. -/
def xorL (a b : List Int) : List Int := List.zipWith xor8 a b
theorem xorL_length (a b : List Int) : (xorL a b).length = min a.length b.length := by simp [xorL]
theorem xorL_ok {a b : List Int} (ha : OkB a) (hb : OkB b) : OkB (xorL a b) := by
  intro x hx
  obtain ⟨i, hi, rfl⟩ := List.getElem_of_mem hx
  rw [xorL_length] at hi
  simp only [xorL, List.getElem_zipWith]
  have h1 := ha.get i (by omega)
  have h2 := hb.get i (by omega)
  exact xor8_ok h1.1 h1.2 h2.1 h2.2
theorem set_mid {α : Type} (A B : List α) (x y : α) (n : Nat) (h : A.length = n) : (A ++ x :: B).set n y = A ++ y :: B := by
  subst h
  simp
theorem octets_Xor_loop (l m : List Int) (hl : OkB l) (hm : OkB m) (n : Nat) (hn : n = min l.length m.length) (hb : n ≤ 9223372036854775806) (d : Nat) : ∀ i : Nat, i ≤ n → n - i = d →
    Ev (fun k => octets_Xor.l0 k (strOfNums m) ((xorL l m).take i ++ (l.take n).drop i) (n : Int) (i : Int)) (strOfNums (xorL l m)) := by
  have hx : (xorL l m).length = n := by rw [xorL_length]; omega
  induction d with
  | zero =>
    intro i hi hd
    obtain rfl : i = n := by omega
    refine Ev.step (f := fun _ => some _) (fun k => ?_) (Ev.now _)
    simp only [octets_Xor.l0]
    rw [if_neg (by omega), List.take_of_length_le (by omega), List.drop_eq_nil_of_le (by rw [List.length_take]; omega), List.append_nil]
  | succ d ih =>
    intro i hi hd
    have hil : i < (l.take n).length := by rw [List.length_take]; omega
    have hta : ((xorL l m).take i).length = i := by rw [List.length_take]; omega
    refine Ev.step (fun k => ?_) (ih (i + 1) (by omega) (by omega))
    simp only [octets_Xor.l0]
    rw [if_pos (by omega), if_pos (by omega), if_pos (by rw [List.length_append, List.length_drop]; omega), if_pos (by rw [nums_size]; omega), w64 (by omega) (by omega)]
    rw [List.drop_eq_getElem_cons hil, rd_get i (by rw [List.length_append, List.length_cons]; omega), nums_bt hm i (by omega)]
    rw [List.getElem_append_right (by omega)]
    simp only [hta, Nat.sub_self, List.getElem_cons_zero, Int.toNat_natCast]
    rw [set_mid _ _ _ _ i hta, List.take_succ_eq_append_getElem (by omega : i < (xorL l m).length)]
    simp only [List.append_assoc, List.singleton_append, List.getElem_take, xorL, List.getElem_zipWith, xor8, Int.natCast_add, Int.natCast_one]
theorem copyOver_long {l m : List Int} (h : l.length ≤ m.length) : copyOver l m = m.take l.length := by
  unfold copyOver
  rw [List.drop_eq_nil_of_le h, List.append_nil]
theorem octets_Xor_eq (l m : List Int) (hl : OkB l) (hm : OkB m) (hb : min l.length m.length ≤ 140737488355328) : Ev (fun k => octets_Xor.f k (strOfNums l) (strOfNums m)) (strOfNums (xorL l m)) := by
  have e : mn ((strOfNums l).size : Int) ((strOfNums m).size : Int) = ((min l.length m.length : Nat) : Int) := by rw [nums_sizeI, nums_sizeI]; unfold mn; split <;> omega
  unfold octets_Xor.f
  rw [e, Int.toNat_natCast]
  refine Ev.ifp (by omega) (Ev.ifp (by omega) (Ev.bindc rfl ?_))
  have h := octets_Xor_loop l m hl hm _ rfl (by omega) _ 0 (by omega) rfl
  rw [bytesOf_nums hl, copyOver_long (by rw [List.length_replicate]; omega), List.length_replicate]
  simp only [List.take_zero, List.nil_append, List.drop_zero, Int.natCast_zero] at h
  rw [show ((List.take (min l.length m.length) l).length : Int) = ((min l.length m.length : Nat) : Int) by rw [List.length_take]; omega]
  exact h
/-- Are the last bits unlike? -/
def ub (a b : Nat) : Nat := if a % 2 = b % 2 then 0 else 1
theorem xor_step (a b : Nat) : a ^^^ b = 2 * ((a / 2) ^^^ (b / 2)) + ub a b := by
  have h1 := Nat.div_add_mod (a ^^^ b) 2
  rw [Nat.xor_div_two] at h1
  have h2 : (a ^^^ b) % 2 = ub a b := by
    unfold ub
    have h3 := @Nat.xor_mod_two_eq_one a b
    by_cases h4 : (a ^^^ b) % 2 = 1
    · have := h3.1 h4
      split <;> omega
    · have h5 : ¬ ¬ ((a % 2 = 1) ↔ (b % 2 = 1)) := fun h => h4 (h3.2 h)
      split <;> omega
  omega
/-- The bits from the one of weight 2 ^ (8 - d) on in which two bytes are unlike. -/
def xbits (a b : Nat) : Nat → Nat
  | 0 => 0
  | d + 1 => 2 ^ (7 - d) * ub (a / 2 ^ (7 - d)) (b / 2 ^ (7 - d)) + xbits a b d
theorem xbits_all (a b : Nat) (ha : a < 256) (hb : b < 256) : xbits a b 8 = a ^^^ b := by
  rw [xor_step a b, xor_step (a / 2) (b / 2), xor_step (a / 2 / 2) (b / 2 / 2), xor_step (a / 2 / 2 / 2) (b / 2 / 2 / 2), xor_step (a / 2 / 2 / 2 / 2) (b / 2 / 2 / 2 / 2), xor_step (a / 2 / 2 / 2 / 2 / 2) (b / 2 / 2 / 2 / 2 / 2), xor_step (a / 2 / 2 / 2 / 2 / 2 / 2) (b / 2 / 2 / 2 / 2 / 2 / 2), xor_step (a / 2 / 2 / 2 / 2 / 2 / 2 / 2) (b / 2 / 2 / 2 / 2 / 2 / 2 / 2)]
  simp only [Nat.div_div_eq_div_mul, Nat.reduceMul]
  rw [show a / 256 = 0 by omega, show b / 256 = 0 by omega, Nat.xor_self]
  simp only [xbits, Nat.reduceSub, Nat.reducePow, Nat.div_one]
  generalize ub a b = u0
  generalize ub (a / 2) (b / 2) = u1
  generalize ub (a / 4) (b / 4) = u2
  generalize ub (a / 8) (b / 8) = u3
  generalize ub (a / 16) (b / 16) = u4
  generalize ub (a / 32) (b / 32) = u5
  generalize ub (a / 64) (b / 64) = u6
  generalize ub (a / 128) (b / 128) = u7
  omega
theorem ref01_Xor_bits (x0 x1 x5 : ByteArray) (i : Nat) (hi : i < 9223372036854775807) (a b : Nat) (ha : a < 256) (hb : b < 256) (r : ByteArray) (hs : x5.size + 1 ≤ 9223372036854775807)
    (h : Ev (fun k => clavigerref01_Xor.l0 k x0 x1 (x5 ++ strOfNums [((a ^^^ b : Nat) : Int)]) ((i + 1 : Nat) : Int)) r) (d : Nat) :
    d ≤ 8 → ∀ acc : Nat, acc + xbits a b d = a ^^^ b → Ev (fun k => clavigerref01_Xor.l1 k x0 x1 x5 (i : Int) (a : Int) (b : Int) (acc : Int) ((2 ^ (8 - d) : Nat) : Int)) r := by
  have hx : a ^^^ b < 256 := Nat.xor_lt_two_pow (n := 8) ha hb
  induction d with
  | zero =>
    intro _ acc hacc
    simp only [xbits, Nat.add_zero] at hacc
    subst hacc
    refine Ev.step (fun k => by rw [clavigerref01_Xor.l1]) ?_
    refine Ev.ifn (by decide) (Ev.bindc rfl (Ev.ifp (by rw [nums_size]; exact hs) ?_))
    rw [Int.emod_eq_of_lt (by omega) (by omega), w64 (by omega) (by omega)]
    exact h
  | succ d ih =>
    intro hd acc hacc
    have hp : 2 ^ (8 - (d + 1)) = 2 ^ (7 - d) := by congr 1; omega
    have hp2 : 2 ^ (8 - d) = 2 * 2 ^ (7 - d) := by rw [show 8 - d = (7 - d) + 1 by omega, Nat.pow_succ, Nat.mul_comm]
    have hle : 2 ^ (7 - d) ≤ 128 := Nat.pow_le_pow_right (n := 2) (by decide) (by omega : 7 - d ≤ 7)
    have hpos : 0 < 2 ^ (7 - d) := Nat.two_pow_pos _
    rw [hp]
    generalize hq : 2 ^ (7 - d) = p at *
    have e : ∀ c : Nat, c < 256 → Int.tmod (wrap64 (Int.tdiv (c : Int) (p : Int))) 2 = ((c / p % 2 : Nat) : Int) := by
      intro c hc
      have h1 : c / p ≤ c := Nat.div_le_self _ _
      have h0 : 0 ≤ (c : Int) / (p : Int) := Int.ediv_nonneg (by omega) (by omega)
      rw [Int.tdiv_eq_ediv_of_nonneg (by omega), ← Int.natCast_ediv, w64 (by omega) (by omega), Int.tmod_eq_emod_of_nonneg (by omega)]
      omega
    refine Ev.step (fun k => by rw [clavigerref01_Xor.l1]) ?_
    refine Ev.ifp (by omega) (Ev.ifn (by omega) ?_)
    rw [e a ha, e b hb, w64 (x := (2 : Int) * (p : Int)) (by omega) (by omega), show (2 : Int) * (p : Int) = ((2 ^ (8 - d) : Nat) : Int) by rw [hp2]; omega]
    simp only [xbits, hq, ub] at hacc
    by_cases hc : a / p % 2 = b / p % 2
    · rw [if_pos hc] at hacc
      exact Ev.ifp (by omega) (ih (by omega) acc (by omega))
    · rw [if_neg hc] at hacc
      refine Ev.ifn (by omega) ?_
      rw [w64 (by omega) (by omega)]
      exact ih (by omega) (acc + p) (by omega)
theorem ref01_Xor_loop (l m : List Int) (hl : OkB l) (hm : OkB m) (n : Nat) (hn : n = min l.length m.length) (hb : n ≤ 9223372036854775806) (d : Nat) : ∀ i : Nat, i ≤ n → n - i = d →
    Ev (fun k => clavigerref01_Xor.l0 k (strOfNums l) (strOfNums m) (strOfNums ((xorL l m).take i)) (i : Int)) (strOfNums (xorL l m)) := by
  have hx : (xorL l m).length = n := by rw [xorL_length]; omega
  induction d with
  | zero =>
    intro i hi hd
    obtain rfl : i = n := by omega
    have fin : Ev (fun k => clavigerref01_Xor.j1 k (strOfNums l) (strOfNums m) (strOfNums ((xorL l m).take i)) (i : Int) false) (strOfNums (xorL l m)) := by
      refine Ev.step (fun k => by rw [clavigerref01_Xor.j1]) ?_
      refine Ev.ifn (by decide) ?_
      rw [List.take_of_length_le (by omega)]
      exact Ev.now _
    refine Ev.step (fun k => by rw [clavigerref01_Xor.l0]) ?_
    rw [nums_sizeI, nums_sizeI]
    by_cases hc : (i : Int) < (l.length : Int)
    · refine Ev.ifp hc ?_
      rw [decide_eq_false (by omega)]
      exact fin
    · exact Ev.ifn hc fin
  | succ d ih =>
    intro i hi hd
    have hil : i < l.length := by omega
    have him : i < m.length := by omega
    have h1 := hl.get i hil
    have h2 := hm.get i him
    obtain ⟨a, ha⟩ := Int.eq_ofNat_of_zero_le h1.1
    obtain ⟨b, hbb⟩ := Int.eq_ofNat_of_zero_le h2.1
    refine Ev.step (fun k => by rw [clavigerref01_Xor.l0]) ?_
    rw [nums_sizeI, nums_sizeI]
    refine Ev.ifp (by omega) ?_
    rw [decide_eq_true (by omega)]
    refine Ev.step (fun k => by rw [clavigerref01_Xor.j1]) ?_
    refine Ev.ifp rfl (Ev.ifp (by omega) ?_)
    rw [nums_sizeI, nums_sizeI, nums_bt hl i hil, nums_bt hm i him, w64 (by omega) (by omega), w64 (by omega) (by omega), ha, hbb]
    refine Ev.ifp (by omega) (Ev.ifp (by omega) ?_)
    have key := ref01_Xor_bits (strOfNums l) (strOfNums m) (strOfNums ((xorL l m).take i)) i (by omega) a b (by omega) (by omega) (strOfNums (xorL l m)) (by rw [nums_size, List.length_take]; omega) ?_ 8 (by decide) 0 (by rw [xbits_all a b (by omega) (by omega)]; omega)
    · exact key
    · rw [str_append]
      have e : (xorL l m).take (i + 1) = (xorL l m).take i ++ [((a ^^^ b : Nat) : Int)] := by
        rw [List.take_succ_eq_append_getElem (by omega : i < (xorL l m).length)]
        simp only [xorL, List.getElem_zipWith, ha, hbb]
        rw [(xor8_nat a b (by omega) (by omega)).1]
      rw [← e]
      exact ih (i + 1) (by omega) (by omega)
theorem ref01_Xor_eq (l m : List Int) (hl : OkB l) (hm : OkB m) (hb : min l.length m.length ≤ 9223372036854775806) : Ev (fun k => clavigerref01_Xor.f k (strOfNums l) (strOfNums m)) (strOfNums (xorL l m)) :=
  ref01_Xor_loop l m hl hm _ rfl hb _ 0 (by omega) rfl
theorem join_nil (xs : List (List UInt8)) : Lib.join xs [] = xs.flatten := by
  unfold Lib.join List.intercalate
  induction xs with
  | nil => rfl
  | cons x xs ih =>
    cases xs with
    | nil => rfl
    | cons y ys => simp only [List.intersperse_cons_cons, List.flatten_cons, List.nil_append]; rw [ih]; simp
theorem octets_Join_eq (L : List (List Int)) (hn : L.length ≤ 140737488355328) (hs : L.flatten.length ≤ 140737488355328) : octets_Join.f (L.map strOfNums) = some (strOfNums L.flatten) := by
  have e : Lib.join ((L.map strOfNums).map (·.data.toList)) (⟨#[]⟩ : ByteArray).data.toList = (strOfNums L.flatten).data.toList := by
    rw [show (⟨#[]⟩ : ByteArray).data.toList = [] from rfl, join_nil, strOfNums_data]
    simp only [List.map_map]
    rw [List.map_flatten, List.map_congr_left (fun x _ => rfl)]
    rfl
  unfold octets_Join.f strings_Join.f
  rw [if_pos (by rw [List.length_map]; exact hn), e, if_pos (by rw [strOfNums_data, List.length_map]; exact hs)]
  simp only [Option.bind_some]
theorem strs_nums (L : List ByteArray) : ∃ M : List (List Int), (∀ m ∈ M, OkB m) ∧ L = M.map strOfNums := by
  refine ⟨L.map bytesOf, fun m hm => ?_, ?_⟩
  · obtain ⟨s, _, rfl⟩ := List.mem_map.1 hm
    exact bytesOf_ok s
  · rw [List.map_map]
    conv => lhs; rw [← List.map_id L]
    exact List.map_congr_left (fun s _ => (strOfNums_bytesOf s).symm)
theorem ref01_Join_loop (L : List (List Int)) (hn : L.length ≤ 9223372036854775806) (hs : L.flatten.length ≤ 9223372036854775807) (d : Nat) : ∀ i : Nat, i ≤ L.length → L.length - i = d →
    Ev (fun k => clavigerref01_Join.l0 k (L.map strOfNums) (strOfNums (L.take i).flatten) (i : Int)) (strOfNums L.flatten) := by
  induction d with
  | zero =>
    intro i hi hd
    refine Ev.step (fun k => by rw [clavigerref01_Join.l0]) ?_
    rw [List.length_map]
    refine Ev.ifn (by omega) ?_
    rw [List.take_of_length_le (by omega)]
    exact Ev.now _
  | succ d ih =>
    intro i hi hd
    have hlt : i < L.length := by omega
    refine Ev.step (fun k => by rw [clavigerref01_Join.l0]) ?_
    rw [List.length_map, rdOf_get _ i (by rw [List.length_map]; exact hlt)]
    simp only [List.getElem_map]
    have e : (L.take (i + 1)).flatten = (L.take i).flatten ++ L[i] := by
      rw [List.take_succ_eq_append_getElem hlt, List.flatten_append, List.flatten_cons, List.flatten_nil, List.append_nil]
    have hb : (L.take i).flatten.length + L[i].length ≤ L.flatten.length := by
      have h1 : L.flatten = (L.take (i + 1)).flatten ++ (L.drop (i + 1)).flatten := by rw [← List.flatten_append, List.take_append_drop]
      rw [h1, e]
      simp only [List.length_append]
      omega
    rw [nums_size, nums_size, w64 (by omega) (by omega), str_append, ← e]
    exact Ev.ifp (by omega) (Ev.ifp (by omega) (Ev.ifp (by omega) (ih (i + 1) (by omega) (by omega))))
theorem ref01_Join_eq (L : List (List Int)) (hn : L.length ≤ 9223372036854775806) (hs : L.flatten.length ≤ 9223372036854775807) : Ev (fun k => clavigerref01_Join.f k (L.map strOfNums)) (strOfNums L.flatten) :=
  ref01_Join_loop L hn hs _ 0 (by omega) rfl
theorem flatten_bd (L : List (List Int)) (n : Nat) (h : ∀ m ∈ L, m.length ≤ n) : L.flatten.length ≤ L.length * n := by
  induction L with
  | nil => simp
  | cons x L ih =>
    have h1 := h x (by simp)
    have h2 := ih (fun m hm => h m (by simp [hm]))
    rw [List.flatten_cons, List.length_append, List.length_cons, Nat.succ_mul]
    omega
theorem awake01 : Ev (fun k => clavigerlaw01_awake.f k) true := Ev.of (clavigerlaw01_awake.mono) (k := 40) (by kernel_rfl)
theorem OctetsXor : clavigerlaw01_OctetsXor.Pure := by
  intro a0 a1 l2 h0 h1 h2 h3
  obtain ⟨l, hl, rfl⟩ := str_nums a0
  obtain ⟨m, hm, rfl⟩ := str_nums a1
  obtain ⟨L, hL, rfl⟩ := strs_nums l2
  refine Ev.rounds ?_
  by_cases hbig : 500 < l.length ∨ 500 < m.length ∨ 40 < L.length
  · refine Ev.congr (f := fun k => clavigerlaw01_OctetsXor.j0 k (strOfNums l) (strOfNums m) (L.map strOfNums) true) (fun k => ?_) ?_
    rotate_left
    · refine Ev.step (fun k => by rw [clavigerlaw01_OctetsXor.j0]) ?_
      exact Ev.ifp rfl (Ev.bind awake01 (Ev.now _))
    simp only [clavigerlaw01_OctetsXor.f]
    rw [nums_sizeI, nums_sizeI, List.length_map]
    by_cases h : 500 < l.length
    · rw [if_pos (by omega)]
    · by_cases h' : 500 < m.length
      · rw [if_neg (by omega), if_pos (by omega)]
      · rw [if_neg (by omega), if_neg (by omega), decide_eq_true (by omega)]
  refine Ev.congr (f := fun k => clavigerlaw01_OctetsXor.j0 k (strOfNums l) (strOfNums m) (L.map strOfNums) false) (fun k => ?_) ?_
  · simp only [clavigerlaw01_OctetsXor.f]
    rw [nums_sizeI, nums_sizeI, List.length_map, if_neg (by omega), if_neg (by omega), decide_eq_false (by omega)]
  refine Ev.step (fun k => by rw [clavigerlaw01_OctetsXor.j0]) ?_
  refine Ev.ifn (by decide) ?_
  have loop : ∀ (d i : Nat), i ≤ L.length → L.length - i = d → (∀ m ∈ L.take i, m.length ≤ 100) →
      Ev (fun k => clavigerlaw01_OctetsXor.l0 k (strOfNums l) (strOfNums m) (L.map strOfNums) (L.map strOfNums) (L.length : Int) (i : Int)) true := by
    intro d
    induction d with
    | zero =>
      intro i hi hd hall
      rw [List.take_of_length_le (by omega)] at hall
      have hf := flatten_bd L 100 hall
      refine Ev.step (fun k => by rw [clavigerlaw01_OctetsXor.l0]) ?_
      refine Ev.ifn (by omega) ?_
      refine Ev.bind (octets_Xor_eq l m hl hm (by omega)) (Ev.bind (ref01_Xor_eq l m hl hm (by omega)) (Ev.ifp rfl ?_))
      exact Ev.bindc (octets_Join_eq L (by omega) (by omega)) (Ev.bind (ref01_Join_eq L (by omega) (by omega)) (Ev.ifp rfl (Ev.bind awake01 (Ev.now _))))
    | succ d ih =>
      intro i hi hd hall
      have hlt : i < L.length := by omega
      refine Ev.step (fun k => by rw [clavigerlaw01_OctetsXor.l0]) ?_
      refine Ev.ifp (by omega) (Ev.ifp (by omega) ?_)
      rw [List.length_map, rdOf_get _ i (by rw [List.length_map]; exact hlt)]
      simp only [List.getElem_map]
      rw [nums_sizeI]
      refine Ev.ifp (by omega) ?_
      refine (Ev.ite (r := true) (s := true) (fun _ => Ev.bind awake01 (Ev.now _)) (fun hc => ?_)).eq (by simp)
      rw [w64 (by omega) (by omega)]
      refine ih (i + 1) (by omega) (by omega) (fun q hq => ?_)
      rw [List.take_succ_eq_append_getElem hlt] at hq
      rcases List.mem_append.1 hq with hq | hq
      · exact hall q hq
      · simp at hq
        subst hq
        omega
  rw [List.length_map]
  exact loop _ 0 (by omega) rfl (fun q hq => by simp at hq)
end Go.Proofs.Ytlocmcemfjfhiaa.Pure
