/- Whatever two numbers and two texts (up to 200 bytes each): what Encode writes Decode reads, unlike numbers have unlike contents, what Decode and Unbig read is written so again, and Big, Unbig and Wide give the bytes back (P16.3). -/
import Derived.Test.YtlocmcemfjfhiaaDoorPWholeBackx
namespace Go.Proofs.YtlocmcemfjfhiaaDoor.Pure
open Go.RowKit Go.Proofs.YtlocmcemfjfhiaaDoor.PWholeBack Go.Proofs.YtlocmcemfjfhiaaDoorW.PrintWords Go.Proofs.YtlocmcemfjfhiaaDoorW.PrintLast
set_option linter.unusedVariables false
set_option linter.unusedSimpArgs false
/-- The number of bytes. -/
def getN (l : List Int) : Int := l.foldl (fun n b => n * 256 + b) 0
theorem getN_snoc (l : List Int) (x : Int) : getN (l ++ [x]) = getN l * 256 + x := by simp [getN]
theorem getN_take {l : List Int} (i : Nat) (h : i < l.length) : getN (l.take (i + 1)) = getN (l.take i) * 256 + l[i] := by
  rw [List.take_succ_eq_append_getElem h, getN_snoc]
theorem getN_bd (n : Nat) : ∀ l : List Int, OkB l → l.length ≤ n → 0 ≤ getN l ∧ getN l < 256 ^ n := by
  induction n with
  | zero => intro l h hn; obtain rfl := List.eq_nil_of_length_eq_zero (Nat.le_zero.1 hn); simp [getN]
  | succ n ih =>
    intro l h hn
    have hp : (0 : Int) < 256 ^ n := Int.pow_pos (by decide)
    by_cases e : l = []
    · subst e
      rw [Int.pow_succ]
      simp only [getN, List.foldl_nil]
      omega
    · obtain ⟨m, x, rfl⟩ : ∃ m x, l = m ++ [x] := ⟨l.dropLast, l.getLast e, (List.dropLast_concat_getLast e).symm⟩
      have h1 := ih m (fun y hy => h y (List.mem_append_left _ hy)) (by simp at hn; omega)
      have h2 := h x (by simp)
      rw [getN_snoc, Int.pow_succ]
      omega
theorem getN_lt7 (l : List Int) (h : OkB l) (hn : l.length ≤ 7) : 0 ≤ getN l ∧ getN l < 72057594037927936 := getN_bd 7 l h hn
theorem putNums_ok (n : Int) : OkB (putNums n) := by
  intro x hx
  simp only [putNums, List.mem_cons, List.not_mem_nil, or_false] at hx
  omega
/-- The low bytes of a number. -/
def lowB (n : Int) : Nat → List Int
  | 0 => []
  | w + 1 => (n / 256 ^ w % 256) :: lowB n w
theorem lowB_ok (n : Int) (w : Nat) : OkB (lowB n w) := by
  induction w with
  | zero => exact OkB.nil
  | succ w ih => exact OkB.cons (by omega) (by omega) ih
theorem lowB_length (n : Int) (w : Nat) : (lowB n w).length = w := by
  induction w with
  | zero => rfl
  | succ w ih => simp [lowB, ih]
theorem putNums_drop (n : Int) (w : Nat) (h : w ≤ 8) : (putNums n).drop (8 - w) = lowB n w := by
  have : w = 0 ∨ w = 1 ∨ w = 2 ∨ w = 3 ∨ w = 4 ∨ w = 5 ∨ w = 6 ∨ w = 7 ∨ w = 8 := by omega
  rcases this with rfl | rfl | rfl | rfl | rfl | rfl | rfl | rfl | rfl <;> simp [putNums, lowB]
theorem octets_Put_eq (n : Int) (w : Int) : octets_Put.f n w = some (strOfNums (if 1 ≤ w ∧ w ≤ 8 then lowB n w.toNat else [])) := by
  unfold octets_Put.f
  by_cases h1 : w < 1
  · rw [if_pos h1, if_neg (by omega)]; rfl
  · by_cases h2 : w > 8
    · rw [if_neg h1, if_pos h2, if_neg (by omega)]; rfl
    · rw [if_neg h1, if_neg h2, if_pos (by omega), putNums_drop n w.toNat (by omega)]
theorem join_nil (xs : List (List UInt8)) : Lib.join xs [] = xs.flatten := by
  unfold Lib.join List.intercalate
  induction xs with
  | nil => rfl
  | cons x xs ih =>
    cases xs with
    | nil => rfl
    | cons y ys => simp only [List.intersperse_cons_cons, List.flatten_cons, List.nil_append]; rw [ih]; simp
theorem octets_Join_eq (L : List (List Int)) (hn : L.length ≤ 140737488355328) (hs : L.flatten.length ≤ 140737488355328) : octets_Join.f (L.map strOfNums) = some (strOfNums L.flatten) := by
  have e : Lib.join ((L.map strOfNums).map (·.data.toList)) (⟨#[]⟩ : ByteArray).data.toList = (strOfNums L.flatten).data.toList := by
    rw [show (⟨#[]⟩ : ByteArray).data.toList = [] from rfl, join_nil, strOfNums_data]
    simp only [List.map_map]
    rw [List.map_flatten, List.map_congr_left (fun x _ => rfl)]
    rfl
  unfold octets_Join.f strings_Join.f
  rw [if_pos (by rw [List.length_map]; exact hn), e, if_pos (by rw [strOfNums_data, List.length_map]; exact hs)]
  simp only [Option.bind_some]
/-- Bytes 0. -/
def zerosL (n : Int) : List Int := if 1 ≤ n ∧ n ≤ 65552 then List.replicate n.toNat 0 else []
theorem zerosL_ok (n : Int) : OkB (zerosL n) := by
  unfold zerosL
  split
  · exact OkB.replicate _
  · exact OkB.nil
theorem zerosL_nat (k : Nat) (h : k ≤ 65552) : zerosL (k : Int) = List.replicate k 0 := by
  unfold zerosL
  by_cases h0 : k = 0
  · subst h0; rfl
  · rw [if_pos (by omega), Int.toNat_natCast]
theorem octets_Zeros_eq (n : Int) : octets_Zeros.f n = some (strOfNums (zerosL n)) := by
  unfold octets_Zeros.f zerosL
  by_cases h1 : n < 1
  · rw [if_pos h1, if_neg (by omega)]; rfl
  · by_cases h2 : n > 65552
    · rw [if_neg h1, if_pos h2, if_neg (by omega)]; rfl
    · rw [if_neg h1, if_neg h2, if_pos (by omega), if_pos (by omega), if_pos (by omega)]
/-- Bytes without those that are 0 ahead. -/
def trimL (l : List Int) : List Int := l.dropWhile (fun x => decide (x = 0))
theorem trimL_ok {l : List Int} (h : OkB l) : OkB (trimL l) := fun x hx => h x ((List.dropWhile_sublist _).mem hx)
theorem trimL_length (l : List Int) : (trimL l).length ≤ l.length := (List.dropWhile_sublist _).length_le
theorem octets_Trim_eq (l : List Int) (hl : OkB l) : octets_Trim.f (strOfNums l) = some (strOfNums (trimL l)) := by
  unfold octets_Trim.f strings_TrimLeft.f
  rw [if_pos (by rfl), one_byte_bt, if_pos (by decide)]
  simp only [Option.bind_some]
  congr 1
  have e : Lib.trimLeftB (strOfNums l).data.toList (UInt8.ofNat ((0 : UInt8).toNat : Int).toNat) = (strOfNums (trimL l)).data.toList := by
    rw [strOfNums_data, strOfNums_data]
    unfold Lib.trimLeftB trimL
    induction l with
    | nil => rfl
    | cons x l ih =>
      have h1 := hl.head
      rw [List.map_cons, List.dropWhile_cons, List.dropWhile_cons]
      by_cases hx : x = 0
      · subst hx
        rw [if_pos (by rfl), if_pos (by rfl)]
        exact ih hl.tail
      · have hx2 : (UInt8.ofNat x.toNat == UInt8.ofNat ((0 : UInt8).toNat : Int).toNat) = false := by
          rw [beq_eq_false_iff_ne]
          intro he
          have := congrArg UInt8.toNat he
          rw [UInt8.toNat_ofNat', UInt8.toNat_ofNat'] at this
          simp at this
          omega
        rw [hx2, if_neg (by decide), if_neg (by simpa using hx), List.map_cons]
  rw [e]
/-- Are these the shortest contents? -/
def rightL : List Int → Bool
  | [] => false
  | [_] => true
  | x :: y :: _ => !(decide (x = 0) && decide (y < 128)) && !(decide (x = 255) && decide (128 ≤ y))
theorem rightL_cons2 (x y : Int) (r : List Int) : rightL (x :: y :: r) = (!(decide (x = 0) && decide (y < 128)) && !(decide (x = 255) && decide (128 ≤ y))) := rfl
theorem or_i64_nat (i : Nat) {x y : Int} (hx0 : 0 ≤ x) (hx : x % 2 ^ i = 0) (hx1 : x < 9223372036854775808) (hy0 : 0 ≤ y) (hy : y < 2 ^ i) (hi : i ≤ 63) : Go.bits .or .i64 x y = x + y := by
  refine bits_join .i64 63 (by decide) (fun n h0 h1 => by rw [IntKind.wrap_i64]; omega) i x y hx0 hx (by simpa using hx1) hy0 hy ?_
  have : (2 : Int) ^ i ≤ 2 ^ 63 := by exact_mod_cast Nat.pow_le_pow_right (by decide) hi
  omega
theorem whole_Right_eq (l : List Int) (hl : OkB l) : whole_Right.f (strOfNums l) = some (rightL l) := by
  unfold whole_Right.f
  rw [nums_sizeI]
  match l, hl with
  | [], _ => rw [if_pos ((nums_toList_nil []).2 rfl)]; rfl
  | [x], _ => rw [if_neg (by rw [nums_toList_nil]; simp), if_pos (by simp)]; rfl
  | x :: y :: r, hl =>
    have h0 := hl.head
    have h1 := hl.tail.head
    have e0 : bt (strOfNums (x :: y :: r)) 0 = x := nums_bt hl 0 (by simp)
    have e1 : bt (strOfNums (x :: y :: r)) 1 = y := nums_bt hl 1 (by simp)
    rw [e0, e1, if_neg (by rw [nums_toList_nil]; simp), if_neg (by simp; omega), if_pos (by simp; omega), if_pos (by simp; omega), w64 (x := x) (by omega) (by omega), w64 (by omega) (by omega), w64 (by omega) (by omega), or_i64_nat 1 (by omega) (by omega) (by omega) (by omega) (by omega) (by decide)]
    rw [rightL_cons2]
    by_cases c : x * 2 + y / 128 = 0
    · rw [if_pos c, decide_eq_true (by omega : x = 0), decide_eq_true (by omega : y < 128)]; rfl
    · rw [if_neg c]
      congr 1
      have h3 : (decide (x = 0) && decide (y < 128)) = false := by
        rw [← Bool.not_eq_true, Bool.and_eq_true, decide_eq_true_iff, decide_eq_true_iff]; omega
      rw [h3]
      by_cases d : x * 2 + y / 128 = 511
      · rw [d, decide_eq_true (by omega : x = 255), decide_eq_true (by omega : 128 ≤ y)]; rfl
      · have h4 : (decide (x = 255) && decide (128 ≤ y)) = false := by
          rw [← Bool.not_eq_true, Bool.and_eq_true, decide_eq_true_iff, decide_eq_true_iff]; omega
        rw [h4]
        simpa using d
/-- A byte with its sign. -/
def sg (x : Int) : Int := (x + 128) % 256 - 128
theorem sg_bd {x : Int} (h0 : 0 ≤ x) (h1 : x < 256) : -128 ≤ sg x ∧ sg x < 128 := by unfold sg; omega
/-- The number of contents. -/
def valS (l : List Int) : Int := l.tail.foldl (fun n b => n * 256 + b) (sg (l.headD 0))
theorem valS_snoc (l : List Int) (x : Int) (h : l ≠ []) : valS (l ++ [x]) = valS l * 256 + x := by
  cases l with
  | nil => exact absurd rfl h
  | cons a r => simp [valS]
theorem take_ne {l : List Int} (i : Nat) (h1 : 1 ≤ i) (h : i ≤ l.length) : l.take i ≠ [] := by
  intro e
  have := congrArg List.length e
  rw [List.length_take, List.length_nil] at this
  omega
theorem valS_take {l : List Int} (i : Nat) (h1 : 1 ≤ i) (h : i < l.length) : valS (l.take (i + 1)) = valS (l.take i) * 256 + l[i] := by
  rw [List.take_succ_eq_append_getElem h, valS_snoc _ _ (take_ne i h1 (by omega))]
theorem valS_bd (n : Nat) : ∀ l : List Int, OkB l → l ≠ [] → l.length ≤ n + 1 → -(128 * 256 ^ n) ≤ valS l ∧ valS l < 128 * 256 ^ n := by
  induction n with
  | zero =>
    intro l hl h0 hn
    match l, hl, h0, hn with
    | [x], hl, _, _ =>
      have h1 := hl.head
      have h2 := sg_bd h1.1 h1.2
      rw [show valS [x] = sg x from rfl, Int.pow_zero]
      omega
    | _ :: _ :: _, _, _, hn => simp at hn
  | succ n ih =>
    intro l hl h0 hn
    have hp : (0 : Int) < 256 ^ n := Int.pow_pos (by decide)
    obtain ⟨m, x, rfl⟩ : ∃ m x, l = m ++ [x] := ⟨l.dropLast, l.getLast h0, (List.dropLast_concat_getLast h0).symm⟩
    have h2 := hl x (by simp)
    rw [Int.pow_succ]
    by_cases hm : m = []
    · subst hm
      have h3 := sg_bd h2.1 h2.2
      rw [List.nil_append, show valS [x] = sg x from rfl]
      omega
    · have h1 := ih m (fun y hy => hl y (List.mem_append_left _ hy)) hm (by simp at hn; omega)
      rw [valS_snoc _ _ hm]
      omega
theorem or_i64 {x y : Int} (hx : x % 256 = 0) (hx0 : -9223372036854775808 ≤ x) (hx1 : x ≤ 9223372036854775807) (hy0 : 0 ≤ y) (hy : y < 256) : Go.bits .or .i64 x y = x + y := by
  obtain ⟨b, rfl⟩ := Int.eq_ofNat_of_zero_le hy0
  obtain ⟨a, ha⟩ := Int.eq_ofNat_of_zero_le (show 0 ≤ x % 18446744073709551616 by omega)
  have e1 : (BitVec.ofInt IntKind.i64.bits x).toNat = a := by
    rw [BitVec.toNat_ofInt]
    show (x % ((2 ^ 64 : Nat) : Int)).toNat = a
    rw [show ((2 ^ 64 : Nat) : Int) = 18446744073709551616 by rfl, ha, Int.toNat_natCast]
  have e2 : (BitVec.ofInt IntKind.i64.bits (b : Int)).toNat = b := by
    rw [BitVec.ofInt_natCast, BitVec.toNat_ofNat]
    exact Nat.mod_eq_of_lt (by show b < 2 ^ 64; omega)
  have e3 : a ||| b = a + b := by
    have hd : a % 256 = 0 := by omega
    have hq : a = 2 ^ 8 * (a / 2 ^ 8) := by
      have := Nat.div_add_mod a 256
      omega
    rw [hq, ← Nat.two_pow_add_eq_or_of_lt (show b < 2 ^ 8 by omega) (a / 2 ^ 8)]
  unfold bits
  simp only [BitVec.toNat_or, e1, e2, e3]
  rw [IntKind.wrap_i64]
  omega
theorem i8_sg {x : Int} (h0 : 0 ≤ x) (h1 : x < 256) : IntKind.i8.wrap x = sg x := by
  unfold sg
  simp [IntKind.wrap, IntKind.bits, IntKind.signed]
  split <;> omega
theorem valS_one {l : List Int} (h : 0 < l.length) : valS (l.take 1) = sg l[0] := by
  cases l with
  | nil => simp at h
  | cons x r => rfl
theorem whole_Decode_loop (l : List Int) (hl : OkB l) (h8 : l.length ≤ 8) (d : Nat) : ∀ i : Nat, 1 ≤ i → i ≤ l.length → l.length - i = d →
    Ev (fun k => whole_Decode.l0 k (strOfNums l) (valS (l.take i)) (i : Int)) (valS l, true) := by
  induction d with
  | zero =>
    intro i h1 hi hd
    obtain rfl : i = l.length := by omega
    refine Ev.step (fun k => by rw [whole_Decode.l0]) ?_
    rw [nums_sizeI, List.take_length]
    exact Ev.ifn (by omega) (Ev.now _)
  | succ d ih =>
    intro i h1 hi hd
    have hlt : i < l.length := by omega
    have hb := hl.get i hlt
    have hg := valS_bd 6 (l.take i) (hl.take i) (take_ne i h1 (by omega)) (by rw [List.length_take]; omega)
    refine Ev.step (fun k => by rw [whole_Decode.l0]) ?_
    rw [nums_sizeI, nums_bt hl i hlt, w64 (x := l[i]) (by omega) (by omega), w64 (x := valS (l.take i) * 256) (by omega) (by omega), w64 (by omega) (by omega), or_i64 (by omega) (by omega) (by omega) (by omega) (by omega), ← valS_take i h1 hlt]
    exact Ev.ifp (by omega) (Ev.ifp (by omega) (ih (i + 1) (by omega) (by omega) (by omega)))
/-- What Decode answers. -/
def decS (l : List Int) : Int × Bool := if l.length ≤ 8 ∧ rightL l = true then (valS l, true) else (0, false)
theorem rightL_pos {l : List Int} (h : rightL l = true) : 0 < l.length := by
  cases l with
  | nil => simp [rightL] at h
  | cons _ _ => simp
theorem whole_Decode_eq (l : List Int) (hl : OkB l) : Ev (fun k => whole_Decode.f k (strOfNums l)) (decS l) := by
  have no : Ev (fun k => whole_Decode.j0 k (strOfNums l) true) (0, false) := by
    refine Ev.step (fun k => by rw [whole_Decode.j0]) ?_
    exact Ev.ifp rfl (Ev.now _)
  unfold whole_Decode.f decS
  rw [nums_sizeI]
  by_cases h8 : l.length ≤ 8
  · refine Ev.ifn (by omega) (Ev.bindc (whole_Right_eq l hl) ?_)
    by_cases hr : rightL l = true
    · rw [if_pos ⟨h8, hr⟩, hr]
      have hp := rightL_pos hr
      refine Ev.step (fun k => by rw [whole_Decode.j0]) ?_
      rw [nums_sizeI]
      refine Ev.ifn (by decide) (Ev.ifp (by omega) ?_)
      have h0 := hl.get 0 hp
      have hs := sg_bd h0.1 h0.2
      have e0 : bt (strOfNums l) 0 = l[0] := nums_bt hl 0 hp
      rw [e0, i8_sg h0.1 h0.2, w64 (by omega) (by omega), ← valS_one hp]
      exact whole_Decode_loop l hl h8 _ 1 (by omega) (by omega) rfl
    · rw [if_neg (fun h => hr h.2)]
      rw [Bool.not_eq_true] at hr
      rw [hr]
      exact no
  · rw [if_neg (fun h => h8 h.1)]
    exact Ev.ifp (by omega) no
/-- Does a number fit in w bytes? -/
def fits (n : Int) (w : Nat) : Prop := -(128 * 256 ^ (w - 1)) ≤ n ∧ n < 128 * 256 ^ (w - 1)
instance (n : Int) (w : Nat) : Decidable (fits n w) := by unfold fits; infer_instance
/-- In how many bytes it fits. -/
def wid (n : Int) : Nat := if fits n 1 then 1 else if fits n 2 then 2 else if fits n 3 then 3 else if fits n 4 then 4 else if fits n 5 then 5 else if fits n 6 then 6 else if fits n 7 then 7 else 8
theorem lowB_wrap (n : Int) (w : Nat) (hw : w ≤ 8) : lowB (n % 18446744073709551616) w = lowB n w := by
  have : w = 0 ∨ w = 1 ∨ w = 2 ∨ w = 3 ∨ w = 4 ∨ w = 5 ∨ w = 6 ∨ w = 7 ∨ w = 8 := by omega
  rcases this with rfl | rfl | rfl | rfl | rfl | rfl | rfl | rfl | rfl <;> simp only [lowB, List.cons.injEq, and_true, Int.reducePow] <;> omega
theorem pow256_le {a b : Nat} (h : a ≤ b) : (256 : Int) ^ a ≤ 256 ^ b := by
  have h2 := Nat.pow_le_pow_right (n := 256) (by decide) h
  have h3 : ((256 ^ a : Nat) : Int) ≤ ((256 ^ b : Nat) : Int) := Int.ofNat_le.2 h2
  rw [Int.natCast_pow, Int.natCast_pow] at h3
  exact h3
theorem fits_up (n : Int) (w v : Nat) (hw : w ≤ v) (h : fits n w) : fits n v := by
  unfold fits at h ⊢
  have := pow256_le (show w - 1 ≤ v - 1 by omega)
  omega
theorem wid_is (n : Int) (w : Nat) (h1 : 1 ≤ w) (h8 : w ≤ 8) (hf : fits n w ∨ w = 8) (hn : w = 1 ∨ ¬ fits n (w - 1)) : wid n = w := by
  have no : ∀ v, v < w → 1 ≤ v → ¬ fits n v := by
    intro v hv hv1 hfv
    rcases hn with rfl | hn
    · omega
    · exact hn (fits_up n v (w - 1) (by omega) hfv)
  have : w = 1 ∨ w = 2 ∨ w = 3 ∨ w = 4 ∨ w = 5 ∨ w = 6 ∨ w = 7 ∨ w = 8 := by omega
  unfold wid
  rcases this with rfl | rfl | rfl | rfl | rfl | rfl | rfl | rfl
  · rw [if_pos (hf.resolve_right (by decide))]
  · rw [if_neg (no 1 (by decide) (by decide)), if_pos (hf.resolve_right (by decide))]
  · rw [if_neg (no 1 (by decide) (by decide)), if_neg (no 2 (by decide) (by decide)), if_pos (hf.resolve_right (by decide))]
  · rw [if_neg (no 1 (by decide) (by decide)), if_neg (no 2 (by decide) (by decide)), if_neg (no 3 (by decide) (by decide)), if_pos (hf.resolve_right (by decide))]
  · rw [if_neg (no 1 (by decide) (by decide)), if_neg (no 2 (by decide) (by decide)), if_neg (no 3 (by decide) (by decide)), if_neg (no 4 (by decide) (by decide)), if_pos (hf.resolve_right (by decide))]
  · rw [if_neg (no 1 (by decide) (by decide)), if_neg (no 2 (by decide) (by decide)), if_neg (no 3 (by decide) (by decide)), if_neg (no 4 (by decide) (by decide)), if_neg (no 5 (by decide) (by decide)), if_pos (hf.resolve_right (by decide))]
  · rw [if_neg (no 1 (by decide) (by decide)), if_neg (no 2 (by decide) (by decide)), if_neg (no 3 (by decide) (by decide)), if_neg (no 4 (by decide) (by decide)), if_neg (no 5 (by decide) (by decide)), if_neg (no 6 (by decide) (by decide)), if_pos (hf.resolve_right (by decide))]
  · rw [if_neg (no 1 (by decide) (by decide)), if_neg (no 2 (by decide) (by decide)), if_neg (no 3 (by decide) (by decide)), if_neg (no 4 (by decide) (by decide)), if_neg (no 5 (by decide) (by decide)), if_neg (no 6 (by decide) (by decide)), if_neg (no 7 (by decide) (by decide))]
theorem fits_right (n : Int) (w : Nat) (h1 : 2 ≤ w) (h8 : w ≤ 8) (hf : fits n w) : rightL (lowB n w) = !decide (fits n (w - 1)) := by
  have key : ∀ (x y : Int) (r : List Int) (p : Prop) [Decidable p], ((x = 0 ∧ y < 128 ∨ x = 255 ∧ 128 ≤ y) ↔ p) → rightL (x :: y :: r) = !decide p := by
    intro x y r p _ h
    rw [rightL_cons2]
    by_cases hp : p
    · rw [decide_eq_true hp]
      rcases h.2 hp with ⟨h1, h2⟩ | ⟨h1, h2⟩
      · rw [decide_eq_true h1, decide_eq_true h2]; rfl
      · rw [decide_eq_true h1, decide_eq_true h2]; simp
    · rw [decide_eq_false hp]
      have h2 : ¬ (x = 0 ∧ y < 128) := fun q => hp (h.1 (.inl q))
      have h3 : ¬ (x = 255 ∧ 128 ≤ y) := fun q => hp (h.1 (.inr q))
      have e2 : (decide (x = 0) && decide (y < 128)) = false := by rw [← Bool.not_eq_true, Bool.and_eq_true, decide_eq_true_iff, decide_eq_true_iff]; exact h2
      have e3 : (decide (x = 255) && decide (128 ≤ y)) = false := by rw [← Bool.not_eq_true, Bool.and_eq_true, decide_eq_true_iff, decide_eq_true_iff]; exact h3
      rw [e2, e3]; rfl
  have : w = 2 ∨ w = 3 ∨ w = 4 ∨ w = 5 ∨ w = 6 ∨ w = 7 ∨ w = 8 := by omega
  rcases this with rfl | rfl | rfl | rfl | rfl | rfl | rfl <;> simp only [lowB] <;> refine key _ _ _ _ ?_ <;> simp only [fits, Nat.reduceSub, Int.reducePow, Int.reduceMul, Int.reduceNeg] at hf ⊢ <;> omega
theorem whole_Encode_loop (n : Int) (w : Nat) : 1 ≤ w → w ≤ 8 → fits n w → Ev (fun k => whole_Encode.l0 k (strOfNums (lowB n w))) (strOfNums (lowB n (wid n))) := by
  induction w with
  | zero => intro h; omega
  | succ w ih =>
    intro h1 h8 hf
    refine Ev.step (fun k => by rw [whole_Encode.l0]) ?_
    rw [nums_sizeI, nums_size, lowB_length]
    by_cases hw : w = 0
    · subst hw
      rw [wid_is n 1 (by omega) (by omega) (.inl hf) (.inl rfl)]
      exact Ev.ifn (by omega) (Ev.now _)
    · refine Ev.ifp (by omega) (Ev.bindc (whole_Right_eq _ (lowB_ok n _)) ?_)
      rw [fits_right n (w + 1) (by omega) h8 hf]
      by_cases hg : fits n (w + 1 - 1)
      · rw [decide_eq_true hg]
        refine Ev.ifn (by decide) (Ev.ifp (by omega) ?_)
        rw [str_extract]
        simp only [lowB, List.drop_succ_cons, List.drop_zero, Nat.add_sub_cancel]
        rw [List.take_of_length_le (by rw [lowB_length]; omega)]
        exact ih (by omega) (by omega) hg
      · rw [decide_eq_false hg, wid_is n (w + 1) (by omega) h8 (.inl hf) (.inr hg)]
        exact Ev.ifp rfl (Ev.now _)
theorem fits8 {n : Int} (h0 : -9223372036854775808 ≤ n) (h1 : n ≤ 9223372036854775807) : fits n 8 := by
  unfold fits
  simp only [Nat.reduceSub, Int.reducePow, Int.reduceMul, Int.reduceNeg]
  omega
theorem whole_Encode_eq (n : Int) (h0 : -9223372036854775808 ≤ n) (h1 : n ≤ 9223372036854775807) : Ev (fun k => whole_Encode.f k n) (strOfNums (lowB n (wid n))) := by
  unfold whole_Encode.f
  refine Ev.bindc (octets_Put_eq _ 8) ?_
  rw [if_pos (by decide), wu64_mod, show (8 : Int).toNat = 8 by rfl, lowB_wrap n 8 (by decide)]
  exact whole_Encode_loop n 8 (by decide) (by decide) (fits8 h0 h1)
theorem wid_bd (n : Int) : 1 ≤ wid n ∧ wid n ≤ 8 := by
  unfold wid
  repeat' split
  all_goals decide
theorem foldl_key (l : List Int) (a : Int) : l.foldl (fun n b => n * 256 + b) a = a * 256 ^ l.length + getN l := by
  induction l generalizing a with
  | nil => simp [getN]
  | cons x l ih =>
    have h1 := ih (a * 256 + x)
    have h2 := ih (0 * 256 + x)
    unfold getN
    rw [List.foldl_cons, List.foldl_cons, h1, h2, List.length_cons, Int.pow_succ, Int.add_mul, Int.zero_mul, Int.zero_add, Int.mul_assoc, Int.mul_comm 256 (256 ^ l.length)]
    omega
theorem getN_cons (x : Int) (l : List Int) : getN (x :: l) = x * 256 ^ l.length + getN l := by
  have := foldl_key l (0 * 256 + x)
  unfold getN at this ⊢
  rw [List.foldl_cons, this]
  simp
theorem valS_cons (x : Int) (l : List Int) : valS (x :: l) = sg x * 256 ^ l.length + getN l := foldl_key l (sg x)
theorem getN_low (n : Int) (w : Nat) (h8 : w ≤ 7) : getN (lowB n w) = n % 256 ^ w := by
  have h0 : getN (lowB n 0) = n % 256 ^ 0 := by simp only [lowB, getN, List.foldl_nil, Int.pow_zero]; omega
  have up : ∀ w : Nat, w ≤ 6 → getN (lowB n w) = n % 256 ^ w → getN (lowB n (w + 1)) = n % 256 ^ (w + 1) := by
    intro w hw h
    rw [lowB, getN_cons, h, lowB_length]
    have : w = 0 ∨ w = 1 ∨ w = 2 ∨ w = 3 ∨ w = 4 ∨ w = 5 ∨ w = 6 := by omega
    rcases this with rfl | rfl | rfl | rfl | rfl | rfl | rfl <;> simp only [Nat.reduceAdd, Int.reducePow] <;> omega
  have all : ∀ w : Nat, w ≤ 7 → getN (lowB n w) = n % 256 ^ w := by
    intro w
    induction w with
    | zero => intro _; exact h0
    | succ w ih => intro hw; exact up w (by omega) (ih (by omega))
  exact all w h8
theorem valS_low (n : Int) (w : Nat) (h1 : 1 ≤ w) (h8 : w ≤ 8) : valS (lowB n w) = n ↔ fits n w := by
  obtain ⟨v, rfl⟩ : ∃ v, w = v + 1 := ⟨w - 1, by omega⟩
  rw [lowB, valS_cons, getN_low n v (by omega), lowB_length]
  unfold fits
  have : v = 0 ∨ v = 1 ∨ v = 2 ∨ v = 3 ∨ v = 4 ∨ v = 5 ∨ v = 6 ∨ v = 7 := by omega
  rcases this with rfl | rfl | rfl | rfl | rfl | rfl | rfl | rfl <;> simp only [Nat.add_sub_cancel, Nat.zero_add, Nat.sub_self, Int.reducePow, Int.reduceMul, Int.reduceNeg, Int.pow_zero, Nat.reduceAdd, Nat.reduceSub, sg] <;> omega
theorem valS_low1 (n : Int) (w : Nat) (h1 : 1 ≤ w) (h8 : w ≤ 8) (hf : fits n w) : valS (lowB n w) = n := (valS_low n w h1 h8).2 hf
theorem and128_nat : ∀ a : Nat, a < 256 → (a &&& 128 = 0 ↔ a < 128) := by decide +kernel
theorem and128 {x : Int} (h0 : 0 ≤ x) (h1 : x < 256) : Go.bits .and .u8 x 128 = 0 ↔ x < 128 := by
  obtain ⟨a, rfl⟩ := Int.eq_ofNat_of_zero_le h0
  have h := (bits_nat .u8 8 (by decide) (fun n h0 h1 => by rw [wu8_mod]; omega) a 128 (by omega) (by decide)).1
  have e : ((128 : Nat) : Int) = 128 := rfl
  rw [e] at h
  rw [h]
  have h2 := and128_nat a (by omega)
  omega
/-- The contents of bytes. -/
def bigL (l : List Int) : List Int := if trimL l = [] ∨ 128 ≤ (trimL l).headD 0 then 0 :: trimL l else trimL l
theorem bigL_ok {l : List Int} (h : OkB l) : OkB (bigL l) := by
  unfold bigL
  split
  · exact OkB.cons (by decide) (by decide) (trimL_ok h)
  · exact trimL_ok h
theorem zeros1 : octets_Zeros.f 1 = some (strOfNums [0]) := octets_Zeros_eq 1
theorem bt_head {l : List Int} (h : OkB l) (h0 : l ≠ []) : bt (strOfNums l) 0 = l.headD 0 := by
  cases l with
  | nil => exact absurd rfl h0
  | cons x r => exact nums_bt h 0 (by simp)
theorem ne_pos {α : Type} {l : List α} (h : l ≠ []) : 0 < l.length := by
  cases l with
  | nil => exact absurd rfl h
  | cons _ _ => simp
theorem headD_ok {l : List Int} (h : OkB l) : 0 ≤ l.headD 0 ∧ l.headD 0 < 256 := by
  cases l with
  | nil => simp
  | cons x r => exact h.head
theorem bigL_zero {l : List Int} (h : trimL l = [] ∨ 128 ≤ (trimL l).headD 0) : bigL l = 0 :: trimL l := if_pos h
theorem bigL_same {l : List Int} (h : ¬ (trimL l = [] ∨ 128 ≤ (trimL l).headD 0)) : bigL l = trimL l := if_neg h
theorem whole_Big_eq (l : List Int) (hl : OkB l) (hb : l.length ≤ 140737488355328) : whole_Big.f (strOfNums l) = some (strOfNums (bigL l)) := by
  have ht := trimL_ok hl
  have hn := trimL_length l
  have hd := headD_ok ht
  unfold whole_Big.f
  rw [octets_Trim_eq l hl]
  simp only [Option.bind_some]
  rw [zeros1]
  simp only [Option.bind_some]
  rw [nums_size, nums_size, str_append]
  have hs : [(0 : Int)].length + (trimL l).length ≤ 9223372036854775807 := by rw [List.length_singleton]; omega
  by_cases h : trimL l = []
  · rw [if_pos ((nums_toList_nil _).2 h), if_pos hs, bigL_zero (Or.inl h)]; rfl
  · have hp := ne_pos h
    rw [if_neg (fun q => h ((nums_toList_nil _).1 q)), if_pos (by omega), bt_head ht h]
    by_cases c : (trimL l).headD 0 < 128
    · rw [if_pos ((and128 hd.1 hd.2).2 c), bigL_same (by rintro (q | q); exact h q; omega)]
    · rw [if_neg (fun q => c ((and128 hd.1 hd.2).1 q)), if_pos hs, bigL_zero (Or.inr (by omega))]; rfl
/-- The bytes of contents. -/
def unbigL (l : List Int) : List Int × Bool := if rightL l = true ∧ l.headD 0 < 128 then (trimL l, true) else ([], false)
theorem right_ne {l : List Int} (h : rightL l = true) : l ≠ [] := by
  rintro rfl
  cases h
theorem i8_neg {x : Int} (h0 : 0 ≤ x) (h1 : x < 256) : IntKind.i8.wrap x < 0 ↔ ¬ x < 128 := by
  have : IntKind.i8.wrap x = (x + 128) % 256 - 128 := by
    simp [IntKind.wrap, IntKind.bits, IntKind.signed]
    split <;> omega
  rw [this]
  omega
theorem whole_Unbig_eq (l : List Int) (hl : OkB l) : whole_Unbig.f (strOfNums l) = some (strOfNums (unbigL l).1, (unbigL l).2) := by
  have hd := headD_ok hl
  unfold whole_Unbig.f unbigL
  rw [whole_Right_eq l hl]
  simp only [Option.bind_some]
  rw [nums_sizeI]
  by_cases hr : rightL l = true
  · have h0 := right_ne hr
    have hp := ne_pos h0
    rw [if_pos hr, if_pos (by omega), bt_head hl h0]
    by_cases c : l.headD 0 < 128
    · rw [if_neg (fun q => (i8_neg hd.1 hd.2).1 q c), if_pos ⟨hr, c⟩, octets_Trim_eq l hl]; rfl
    · rw [if_pos ((i8_neg hd.1 hd.2).2 c), if_neg (fun q => c q.2)]; rfl
  · rw [if_neg hr, if_neg (fun q => hr q.1)]; rfl
/-- Bytes, as many as are asked for. -/
def wideL (l : List Int) (n : Int) : List Int × Bool := if n < ((trimL l).length : Int) ∨ n > 65535 then ([], false) else (List.replicate (n.toNat - (trimL l).length) 0 ++ trimL l, true)
theorem wideL_ok {l : List Int} (h : OkB l) (n : Int) : OkB (wideL l n).1 := by
  unfold wideL
  split
  · exact OkB.nil
  · exact (OkB.replicate _).append (trimL_ok h)
theorem whole_Wide_eq (l : List Int) (hl : OkB l) (n : Int) (hb : l.length ≤ 140737488355328) (hn : -9223372036854775808 ≤ n ∧ n ≤ 9223372036854775807) : Ev (fun k => whole_Wide.f k (strOfNums l) n) (strOfNums (wideL l n).1, (wideL l n).2) := by
  have ht := trimL_length l
  have no : Ev (fun k => whole_Wide.j0 k (strOfNums (trimL l)) n true) ((⟨#[]⟩ : ByteArray), false) := by
    refine Ev.step (fun k => by rw [whole_Wide.j0]) ?_
    exact Ev.ifp rfl (Ev.now _)
  unfold whole_Wide.f
  refine Ev.bindc (octets_Trim_eq l hl) ?_
  rw [nums_sizeI]
  by_cases h1 : n < ((trimL l).length : Int)
  · rw [show wideL l n = ([], false) from if_pos (Or.inl h1)]
    exact Ev.ifp h1 no
  · refine Ev.ifn h1 ?_
    by_cases h2 : n > 65535
    · rw [show wideL l n = ([], false) from if_pos (Or.inr h2), decide_eq_true h2]
      exact no
    · rw [show wideL l n = (List.replicate (n.toNat - (trimL l).length) 0 ++ trimL l, true) from if_neg (by omega), decide_eq_false h2]
      refine Ev.step (fun k => by rw [whole_Wide.j0]) ?_
      rw [nums_sizeI, w64 (by omega) (by omega)]
      refine Ev.ifn (by decide) (Ev.bindc (octets_Zeros_eq _) ?_)
      have e : n - ((trimL l).length : Int) = ((n.toNat - (trimL l).length : Nat) : Int) := by omega
      rw [e, zerosL_nat _ (by omega)]
      have hj := octets_Join_eq [List.replicate (n.toNat - (trimL l).length) 0, trimL l] (by simp) (by simp; omega)
      simp only [List.map_cons, List.map_nil, List.flatten_cons, List.flatten_nil, List.append_nil] at hj
      exact Ev.bindc hj (Ev.now _)
theorem awake16 : Ev (fun k => clavigerlaw16_awake.f k) true := Ev.of (clavigerlaw16_awake.mono) (k := 40) (by kernel_rfl)
theorem lowB_snoc (v x : Int) (h0 : 0 ≤ x) (h1 : x < 256) (w : Nat) : lowB (v * 256 + x) (w + 1) = lowB v w ++ [x] := by
  induction w with
  | zero => simp only [lowB, Int.pow_zero, Int.ediv_one, List.nil_append, List.cons.injEq, and_true]; omega
  | succ w ih =>
    have e : (v * 256 + x) / 256 ^ (w + 1) = v / 256 ^ w := by
      rw [Int.pow_succ, Int.mul_comm (256 ^ w) 256, ← Int.ediv_ediv_of_nonneg (by decide)]
      congr 1
      omega
    rw [lowB, ih, e, lowB, List.cons_append]
theorem lowB_valS (n : Nat) : ∀ l : List Int, OkB l → l ≠ [] → l.length = n + 1 → lowB (valS l) (n + 1) = l := by
  induction n with
  | zero =>
    intro l hl h0 hn
    match l, hl, h0, hn with
    | [x], hl, _, _ =>
      have h1 := hl.head
      rw [show valS [x] = sg x from rfl]
      simp only [lowB, Int.pow_zero, Int.ediv_one, List.cons.injEq, and_true, sg]
      omega
    | _ :: _ :: _, _, _, hn => simp at hn
  | succ n ih =>
    intro l hl h0 hn
    obtain ⟨m, x, rfl⟩ : ∃ m x, l = m ++ [x] := ⟨l.dropLast, l.getLast h0, (List.dropLast_concat_getLast h0).symm⟩
    have h2 := hl x (by simp)
    have hm : m ≠ [] := by rintro rfl; simp at hn
    rw [valS_snoc _ _ hm, lowB_snoc _ _ h2.1 h2.2, ih m (fun y hy => hl y (List.mem_append_left _ hy)) hm (by simp at hn; omega)]
theorem right_low (n : Int) (w : Nat) (h1 : 1 ≤ w) (h8 : w ≤ 8) (hf : fits n w) (hn : w = 1 ∨ ¬ fits n (w - 1)) : rightL (lowB n w) = true := by
  by_cases hw : w = 1
  · subst hw; rfl
  · rw [fits_right n w (by omega) h8 hf, decide_eq_false (hn.resolve_left hw)]; rfl
theorem wid_spec (n : Int) (h : fits n 8) : ∃ w, wid n = w ∧ 1 ≤ w ∧ w ≤ 8 ∧ fits n w ∧ (w = 1 ∨ ¬ fits n (w - 1)) := by
  have key : ∀ d w : Nat, 1 ≤ w → w ≤ 8 → fits n w → w = d + 1 → ∃ v, 1 ≤ v ∧ v ≤ 8 ∧ fits n v ∧ (v = 1 ∨ ¬ fits n (v - 1)) := by
    intro d
    induction d with
    | zero => intro w h1 h8 hf hd; exact ⟨w, h1, h8, hf, .inl (by omega)⟩
    | succ d ih =>
      intro w h1 h8 hf hd
      by_cases hg : fits n (w - 1)
      · exact ih (w - 1) (by omega) (by omega) hg (by omega)
      · exact ⟨w, h1, h8, hf, .inr hg⟩
  obtain ⟨v, h1, h8, hf, hn⟩ := key 7 8 (by decide) (by decide) h rfl
  exact ⟨v, wid_is n v h1 h8 (.inl hf) hn, h1, h8, hf, hn⟩
theorem decS_enc (n : Int) (h0 : -9223372036854775808 ≤ n) (h1 : n ≤ 9223372036854775807) : decS (lowB n (wid n)) = (n, true) := by
  obtain ⟨w, e, hw1, hw8, hf, hn⟩ := wid_spec n (fits8 h0 h1)
  rw [e]
  unfold decS
  rw [if_pos ⟨by rw [lowB_length]; exact hw8, right_low n w hw1 hw8 hf hn⟩, valS_low1 n w hw1 hw8 hf]
theorem enc_dec (l : List Int) (hl : OkB l) (h8 : l.length ≤ 8) (hr : rightL l = true) : lowB (valS l) (wid (valS l)) = l ∧ -9223372036854775808 ≤ valS l ∧ valS l ≤ 9223372036854775807 := by
  have h0 := right_ne hr
  have hp := ne_pos h0
  obtain ⟨n, hn⟩ : ∃ n, l.length = n + 1 := ⟨l.length - 1, by omega⟩
  have hlow := lowB_valS n l hl h0 hn
  have hbd := valS_bd n l hl h0 (by omega)
  have hf : fits (valS l) (n + 1) := hbd
  have hfull := fits_up _ _ 8 (by omega) hf
  unfold fits at hfull
  simp only [Nat.reduceSub, Int.reducePow, Int.reduceMul, Int.reduceNeg] at hfull
  refine ⟨?_, by omega, by omega⟩
  have hw : n + 1 = 1 ∨ ¬ fits (valS l) (n + 1 - 1) := by
    by_cases hn0 : n = 0
    · exact .inl (by omega)
    · refine .inr (fun hg => ?_)
      have := fits_right (valS l) (n + 1) (by omega) (by omega) hf
      rw [hlow, hr, decide_eq_true hg] at this
      cases this
  rw [wid_is (valS l) (n + 1) (by omega) (by omega) (.inl hf) hw]
  exact hlow
theorem trimL_twice (l : List Int) : trimL (trimL l) = trimL l := by
  unfold trimL
  induction l with
  | nil => rfl
  | cons x l ih =>
    rw [List.dropWhile_cons]
    split
    · exact ih
    · rename_i h
      rw [List.dropWhile_cons, if_neg h]
theorem trimL_cons_ne {x : Int} (r : List Int) (h : x ≠ 0) : trimL (x :: r) = x :: r := by
  unfold trimL
  rw [List.dropWhile_cons, if_neg (by simpa using h)]
theorem trimL_cons_0 (r : List Int) : trimL (0 :: r) = trimL r := by
  unfold trimL
  rw [List.dropWhile_cons, if_pos (by simp)]
theorem big_unbig (l : List Int) (hl : OkB l) (hr : rightL l = true) (hd : l.headD 0 < 128) : bigL (trimL l) = l := by
  match l, hl, hr, hd with
  | [], _, hr, _ => cases hr
  | [x], hl, _, hd =>
    by_cases hx : x = 0
    · subst hx; rfl
    · have e := trimL_cons_ne [] hx
      rw [e, bigL_same (by rw [e]; rintro (q | q); · cases q
                           · simp at q hd; omega), e]
  | x :: y :: r, hl, hr, hd =>
    have h1 := hl.tail.head
    simp only [List.headD_cons] at hd
    by_cases hx : x = 0
    · subst hx
      rw [rightL_cons2] at hr
      have hy : 128 ≤ y := by
        by_cases c : y < 128
        · rw [decide_eq_true c, decide_eq_true (rfl : (0 : Int) = 0)] at hr; cases hr
        · omega
      have e := trimL_cons_ne r (show y ≠ 0 by omega)
      rw [trimL_cons_0, e, bigL_zero (by rw [e]; exact Or.inr (by simpa using hy)), e]
    · have e := trimL_cons_ne (y :: r) hx
      rw [e, bigL_same (by rw [e]; rintro (q | q); · cases q
                           · simp at q; omega), e]
theorem trimL_head (l : List Int) (h : trimL l ≠ []) : (trimL l).headD 0 ≠ 0 := by
  unfold trimL at h ⊢
  induction l with
  | nil => exact absurd rfl h
  | cons x l ih =>
    rw [List.dropWhile_cons] at h ⊢
    split at h
    · rename_i c; rw [if_pos c]; exact ih h
    · rename_i c; rw [if_neg c]; simpa using c
theorem big_right (l : List Int) (hl : OkB l) : rightL (bigL l) = true ∧ (bigL l).headD 0 < 128 ∧ trimL (bigL l) = trimL l := by
  have ht := headD_ok (trimL_ok hl)
  by_cases h : trimL l = [] ∨ 128 ≤ (trimL l).headD 0
  · rw [bigL_zero h, trimL_cons_0, trimL_twice]
    refine ⟨?_, by simp, rfl⟩
    cases e : trimL l with
    | nil => rfl
    | cons y r =>
      rw [e] at h
      have hy : 128 ≤ y := by
        rcases h with h | h
        · cases h
        · simpa using h
      rw [rightL_cons2, decide_eq_false (show ¬ y < 128 by omega)]; simp
  · rw [bigL_same h, trimL_twice]
    have h1 : trimL l ≠ [] := fun q => h (Or.inl q)
    have h2 : (trimL l).headD 0 < 128 := by
      by_cases c : (trimL l).headD 0 < 128
      · exact c
      · exact absurd (Or.inr (by omega)) h
    have h3 := trimL_head l h1
    refine ⟨?_, h2, rfl⟩
    match e : trimL l, h1 with
    | [x], _ => rfl
    | x :: y :: r, _ =>
      rw [e] at h2 h3
      simp only [List.headD_cons] at h2 h3
      rw [rightL_cons2, decide_eq_false h3, decide_eq_false (show ¬ x = 255 by omega)]; rfl
theorem trimL_zeros (l : List Int) : List.replicate (l.length - (trimL l).length) 0 ++ trimL l = l := by
  induction l with
  | nil => rfl
  | cons x l ih =>
    by_cases hx : x = 0
    · subst hx
      have := trimL_length l
      rw [trimL_cons_0, List.length_cons, show l.length + 1 - (trimL l).length = (l.length - (trimL l).length) + 1 by omega, List.replicate_succ, List.cons_append, ih]
    · rw [trimL_cons_ne l hx, Nat.sub_self]; rfl
theorem WholeBack : clavigerlaw16_WholeBack.Pure := by
  intro a0 a1 a2 a3 h0 h1 h2 h3
  obtain ⟨c, hc, rfl⟩ := str_nums a2
  obtain ⟨s, hs, rfl⟩ := str_nums a3
  have hn := lit_i64 h0
  have hm := lit_i64 h1
  refine Ev.rounds ?_
  by_cases hbig : 200 < c.length ∨ 200 < s.length
  · have all : Ev (fun k => clavigerlaw16_WholeBack.j0 k a0 a1 (strOfNums c) (strOfNums s) true) true := by
      refine Ev.step (fun k => by rw [clavigerlaw16_WholeBack.j0]) ?_
      exact Ev.ifp rfl (Ev.bind awake16 (Ev.now _))
    unfold clavigerlaw16_WholeBack.f
    rw [nums_sizeI, nums_sizeI]
    by_cases h : 200 < c.length
    · exact Ev.ifp (by omega) all
    · rw [decide_eq_true (by omega : (s.length : Int) > 200)]
      exact Ev.ifn (by omega) all
  have j3 : Ev (fun k => clavigerlaw16_WholeBack.j3 k (strOfNums s) false) true := by
    have hb := big_right s hs
    have hbl : (bigL s).length ≤ s.length + 1 := by
      have := trimL_length s
      unfold bigL
      split
      · rw [List.length_cons]; omega
      · omega
    refine Ev.step (fun k => by rw [clavigerlaw16_WholeBack.j3]) ?_
    refine Ev.ifn (by decide) (Ev.bindc (whole_Big_eq s hs (by omega)) (Ev.bindc (whole_Unbig_eq (bigL s) (bigL_ok hs)) ?_))
    have e : unbigL (bigL s) = (trimL s, true) := by unfold unbigL; rw [if_pos ⟨hb.1, hb.2.1⟩, hb.2.2]
    rw [e, nums_sizeI]
    have hl := trimL_length s
    refine Ev.bind (whole_Wide_eq (trimL s) (trimL_ok hs) (s.length : Int) (by omega) (by omega)) ?_
    have e2 : wideL (trimL s) (s.length : Int) = (s, true) := by
      unfold wideL
      rw [trimL_twice, if_neg (by omega), Int.toNat_natCast, trimL_zeros]
    rw [e2]
    refine Ev.ifp rfl (Ev.ifp rfl (Ev.ifp rfl (Ev.bindc (whole_Big_eq s hs (by omega)) (Ev.bindc (whole_Right_eq (bigL s) (bigL_ok hs)) ?_))))
    rw [hb.1]
    exact Ev.ifp rfl (Ev.bind awake16 (Ev.now _))
  have j2 : Ev (fun k => clavigerlaw16_WholeBack.j2 k (strOfNums c) (strOfNums s) false) true := by
    refine Ev.step (fun k => by rw [clavigerlaw16_WholeBack.j2]) ?_
    refine Ev.ifn (by decide) (Ev.bindc (whole_Unbig_eq c hc) ?_)
    by_cases h : rightL c = true ∧ c.headD 0 < 128
    · rw [show unbigL c = (trimL c, true) from if_pos h]
      have hl := trimL_length c
      refine Ev.ifp rfl (Ev.bindc (whole_Big_eq (trimL c) (trimL_ok hc) (by omega)) ?_)
      rw [big_unbig c hc h.1 h.2, bne_self_eq_false]
      exact j3
    · rw [show unbigL c = ([], false) from if_neg h]
      exact Ev.ifn (by decide) j3
  have j1 : Ev (fun k => clavigerlaw16_WholeBack.j1 k (strOfNums c) (strOfNums s) false) true := by
    refine Ev.step (fun k => by rw [clavigerlaw16_WholeBack.j1]) ?_
    refine Ev.ifn (by decide) (Ev.bind (whole_Decode_eq c hc) ?_)
    by_cases h : c.length ≤ 8 ∧ rightL c = true
    · rw [show decS c = (valS c, true) from if_pos h]
      have he := enc_dec c hc h.1 h.2
      refine Ev.ifp rfl (Ev.bind (whole_Encode_eq (valS c) he.2.1 he.2.2) ?_)
      rw [he.1, bne_self_eq_false]
      exact j2
    · rw [show decS c = (0, false) from if_neg h]
      exact Ev.ifn (by decide) j2
  unfold clavigerlaw16_WholeBack.f
  rw [nums_sizeI, nums_sizeI, decide_eq_false (by omega : ¬ (s.length : Int) > 200)]
  refine Ev.ifn (by omega) ?_
  refine Ev.step (fun k => by rw [clavigerlaw16_WholeBack.j0]) ?_
  refine Ev.ifn (by decide) (Ev.bind (whole_Encode_eq a0 hn.1 hn.2) (Ev.bind (whole_Decode_eq _ (lowB_ok _ _)) ?_))
  rw [decS_enc a0 hn.1 hn.2]
  refine Ev.ifp rfl (Ev.ifp rfl (Ev.bind (whole_Encode_eq a0 hn.1 hn.2) (Ev.bind (whole_Encode_eq a1 hm.1 hm.2) ?_)))
  have e : ((strOfNums (lowB a0 (wid a0))).toList == (strOfNums (lowB a1 (wid a1))).toList) = (a0 == a1) := by
    rw [nums_beq (lowB_ok _ _) (lowB_ok _ _)]
    by_cases h : a0 = a1
    · subst h; simp
    · have h2 : ¬ lowB a0 (wid a0) = lowB a1 (wid a1) := by
        intro q
        have q2 := decS_enc a0 hn.1 hn.2
        rw [q, decS_enc a1 hm.1 hm.2] at q2
        exact h (Prod.mk.inj q2).1.symm
      rw [decide_eq_false h2]
      symm
      rw [beq_eq_false_iff_ne]
      exact h
  rw [e, bne_self_eq_false]
  exact j1
end Go.Proofs.YtlocmcemfjfhiaaDoor.Pure
