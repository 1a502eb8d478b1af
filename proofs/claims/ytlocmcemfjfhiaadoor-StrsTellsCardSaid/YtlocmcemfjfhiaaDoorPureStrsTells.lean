/- truths, bits and texts are written and read as the document says. -/
import Derived.Test.YtlocmcemfjfhiaaDoorPStrsTellsx
namespace Go.Proofs.YtlocmcemfjfhiaaDoor.Pure
open Go.RowKit Go.Proofs.YtlocmcemfjfhiaaDoor.PStrsTells Go.Proofs.YtlocmcemfjfhiaaDoorW.PrintWords Go.Proofs.YtlocmcemfjfhiaaDoorW.PrintLast
set_option linter.unusedVariables false
set_option linter.unusedSimpArgs false
/-- The number of bytes. -/
def getN (l : List Int) : Int := l.foldl (fun n b => n * 256 + b) 0
theorem getN_snoc (l : List Int) (x : Int) : getN (l ++ [x]) = getN l * 256 + x := by simp [getN]
theorem getN_take {l : List Int} (i : Nat) (h : i < l.length) : getN (l.take (i + 1)) = getN (l.take i) * 256 + l[i] := by
  rw [List.take_succ_eq_append_getElem h, getN_snoc]
theorem getN_bd (n : Nat) : ∀ l : List Int, OkB l → l.length ≤ n → 0 ≤ getN l ∧ getN l < 256 ^ n := by
  induction n with
  | zero => intro l h hn; obtain rfl := List.eq_nil_of_length_eq_zero (Nat.le_zero.1 hn); simp [getN]
  | succ n ih =>
    intro l h hn
    have hp : (0 : Int) < 256 ^ n := Int.pow_pos (by decide)
    by_cases e : l = []
    · subst e
      rw [Int.pow_succ]
      simp only [getN, List.foldl_nil]
      omega
    · obtain ⟨m, x, rfl⟩ : ∃ m x, l = m ++ [x] := ⟨l.dropLast, l.getLast e, (List.dropLast_concat_getLast e).symm⟩
      have h1 := ih m (fun y hy => h y (List.mem_append_left _ hy)) (by simp at hn; omega)
      have h2 := h x (by simp)
      rw [getN_snoc, Int.pow_succ]
      omega
theorem getN_lt7 (l : List Int) (h : OkB l) (hn : l.length ≤ 7) : 0 ≤ getN l ∧ getN l < 72057594037927936 := getN_bd 7 l h hn
theorem putNums_ok (n : Int) : OkB (putNums n) := by
  intro x hx
  simp only [putNums, List.mem_cons, List.not_mem_nil, or_false] at hx
  omega
/-- The low bytes of a number. -/
def lowB (n : Int) : Nat → List Int
  | 0 => []
  | w + 1 => (n / 256 ^ w % 256) :: lowB n w
theorem lowB_ok (n : Int) (w : Nat) : OkB (lowB n w) := by
  induction w with
  | zero => exact OkB.nil
  | succ w ih => exact OkB.cons (by omega) (by omega) ih
theorem lowB_length (n : Int) (w : Nat) : (lowB n w).length = w := by
  induction w with
  | zero => rfl
  | succ w ih => simp [lowB, ih]
theorem putNums_drop (n : Int) (w : Nat) (h : w ≤ 8) : (putNums n).drop (8 - w) = lowB n w := by
  have : w = 0 ∨ w = 1 ∨ w = 2 ∨ w = 3 ∨ w = 4 ∨ w = 5 ∨ w = 6 ∨ w = 7 ∨ w = 8 := by omega
  rcases this with rfl | rfl | rfl | rfl | rfl | rfl | rfl | rfl | rfl <;> simp [putNums, lowB]
theorem octets_Put_eq (n : Int) (w : Int) : octets_Put.f n w = some (strOfNums (if 1 ≤ w ∧ w ≤ 8 then lowB n w.toNat else [])) := by
  unfold octets_Put.f
  by_cases h1 : w < 1
  · rw [if_pos h1, if_neg (by omega)]; rfl
  · by_cases h2 : w > 8
    · rw [if_neg h1, if_pos h2, if_neg (by omega)]; rfl
    · rw [if_neg h1, if_neg h2, if_pos (by omega), putNums_drop n w.toNat (by omega)]
theorem ref01_Put_loop (n : Int) (h0 : 0 ≤ n) (hn : n < 18446744073709551616) (w : Nat) (hw : w ≤ 8) (d : Nat) : ∀ i : Nat, i ≤ w → w - i = d →
    Ev (fun k => clavigerref01_Put.l0 k (n / 256 ^ i) (w : Int) (strOfNums (lowB n i)) (i : Int)) (strOfNums (lowB n w)) := by
  induction d with
  | zero =>
    intro i hi hd
    obtain rfl : i = w := by omega
    refine Ev.step (f := fun _ => some _) (fun k => ?_) (Ev.now _)
    simp only [clavigerref01_Put.l0]
    rw [if_neg (by omega)]
  | succ d ih =>
    intro i hi hd
    refine Ev.step (fun k => ?_) (ih (i + 1) (by omega) (by omega))
    have hq0 : 0 ≤ n / 256 ^ i := Int.ediv_nonneg h0 (Int.le_of_lt (Int.pow_pos (by decide)))
    have hq1 : n / 256 ^ i ≤ n := Int.ediv_le_self _ h0
    have hs : n / 256 ^ (i + 1) = n / 256 ^ i / 256 := by rw [Int.pow_succ, Int.ediv_ediv_of_nonneg (Int.le_of_lt (Int.pow_pos (by decide)))]
    simp only [clavigerref01_Put.l0]
    rw [if_pos (by omega)]
    simp only [Option.bind_some]
    rw [nums_size, nums_size, lowB_length, if_pos (by simp; omega), Int.tmod_eq_emod_of_nonneg hq0, Int.tdiv_eq_ediv_of_nonneg hq0, wu64 (by omega) (by omega), w64 (by omega) (by omega), str_append, hs]
    simp only [lowB, Int.natCast_add, Int.natCast_one, List.singleton_append, Int.emod_emod_of_dvd _ (Int.dvd_refl 256)]
theorem ref01_Put_eq (n : Int) (h0 : 0 ≤ n) (hn : n < 18446744073709551616) (w : Int) : Ev (fun k => clavigerref01_Put.f k n w) (strOfNums (if 1 ≤ w ∧ w ≤ 8 then lowB n w.toNat else [])) := by
  by_cases h : 1 ≤ w ∧ w ≤ 8
  · rw [if_pos h]
    obtain ⟨m, rfl⟩ := Int.eq_ofNat_of_zero_le (show 0 ≤ w by omega)
    have hl := ref01_Put_loop n h0 hn m (by omega) m 0 (by omega) rfl
    refine Ev.congr (f := fun k => clavigerref01_Put.j0 k n (m : Int) false) (fun k => ?_) ?_
    · simp only [clavigerref01_Put.f]
      rw [if_neg (by omega), decide_eq_false (by omega)]
    · refine Ev.step (fun k => ?_) hl
      simp only [clavigerref01_Put.j0]
      rw [if_neg (by decide)]
      simp [lowB, nums_nil]
  · rw [if_neg h]
    refine Ev.congr (f := fun k => clavigerref01_Put.j0 k n w true) (fun k => ?_) ?_
    · simp only [clavigerref01_Put.f]
      by_cases h1 : w < 1
      · rw [if_pos h1]
      · rw [if_neg h1, decide_eq_true (by omega)]
    · refine Ev.step (f := fun _ => some _) (fun k => ?_) (Ev.now _)
      simp only [clavigerref01_Put.j0]
      simp only [if_true]
      rfl
/-- Are these the shortest contents? -/
def rightL : List Int → Bool
  | [] => false
  | [_] => true
  | x :: y :: _ => !(decide (x = 0) && decide (y < 128)) && !(decide (x = 255) && decide (128 ≤ y))
theorem rightL_cons2 (x y : Int) (r : List Int) : rightL (x :: y :: r) = (!(decide (x = 0) && decide (y < 128)) && !(decide (x = 255) && decide (128 ≤ y))) := rfl
theorem or_i64_nat (i : Nat) {x y : Int} (hx0 : 0 ≤ x) (hx : x % 2 ^ i = 0) (hx1 : x < 9223372036854775808) (hy0 : 0 ≤ y) (hy : y < 2 ^ i) (hi : i ≤ 63) : Go.bits .or .i64 x y = x + y := by
  refine bits_join .i64 63 (by decide) (fun n h0 h1 => by rw [IntKind.wrap_i64]; omega) i x y hx0 hx (by simpa using hx1) hy0 hy ?_
  have : (2 : Int) ^ i ≤ 2 ^ 63 := by exact_mod_cast Nat.pow_le_pow_right (by decide) hi
  omega
theorem whole_Right_eq (l : List Int) (hl : OkB l) : whole_Right.f (strOfNums l) = some (rightL l) := by
  unfold whole_Right.f
  rw [nums_sizeI]
  match l, hl with
  | [], _ => rw [if_pos ((nums_toList_nil []).2 rfl)]; rfl
  | [x], _ => rw [if_neg (by rw [nums_toList_nil]; simp), if_pos (by simp)]; rfl
  | x :: y :: r, hl =>
    have h0 := hl.head
    have h1 := hl.tail.head
    have e0 : bt (strOfNums (x :: y :: r)) 0 = x := nums_bt hl 0 (by simp)
    have e1 : bt (strOfNums (x :: y :: r)) 1 = y := nums_bt hl 1 (by simp)
    rw [e0, e1, if_neg (by rw [nums_toList_nil]; simp), if_neg (by simp; omega), if_pos (by simp; omega), if_pos (by simp; omega), w64 (x := x) (by omega) (by omega), w64 (by omega) (by omega), w64 (by omega) (by omega), or_i64_nat 1 (by omega) (by omega) (by omega) (by omega) (by omega) (by decide)]
    rw [rightL_cons2]
    by_cases c : x * 2 + y / 128 = 0
    · rw [if_pos c, decide_eq_true (by omega : x = 0), decide_eq_true (by omega : y < 128)]; rfl
    · rw [if_neg c]
      congr 1
      have h3 : (decide (x = 0) && decide (y < 128)) = false := by
        rw [← Bool.not_eq_true, Bool.and_eq_true, decide_eq_true_iff, decide_eq_true_iff]; omega
      rw [h3]
      by_cases d : x * 2 + y / 128 = 511
      · rw [d, decide_eq_true (by omega : x = 255), decide_eq_true (by omega : 128 ≤ y)]; rfl
      · have h4 : (decide (x = 255) && decide (128 ≤ y)) = false := by
          rw [← Bool.not_eq_true, Bool.and_eq_true, decide_eq_true_iff, decide_eq_true_iff]; omega
        rw [h4]
        simpa using d
def okBits (b : Int) (m : List Int) : Bool := decide (0 ≤ b ∧ b ≤ 7 ∧ (m = [] → b = 0) ∧ m.getLastD 0 % 2 ^ b.toNat = 0)
def unb : List Int → ByteArray × Int × Bool
  | [] => (⟨#[]⟩, 0, false)
  | b :: m => if okBits b m = true then (strOfNums m, b, true) else (⟨#[]⟩, 0, false)
theorem mask_all : ((List.range 8).all fun b => (List.range 256).all fun x => decide (Go.bits .and .u8 (x : Int) (((shl .u8 1 (b : Int)) - 1) % 256) = 0) == decide ((x : Int) % 2 ^ b = 0)) = true := by kernel_rfl
theorem mask_is {b x : Int} (hb0 : 0 ≤ b) (hb : b ≤ 7) (hx0 : 0 ≤ x) (hx : x < 256) : Go.bits .and .u8 x (((shl .u8 1 b) - 1) % 256) = 0 ↔ x % 2 ^ b.toNat = 0 := by
  have h := List.all_eq_true.1 (List.all_eq_true.1 mask_all b.toNat (List.mem_range.2 (by omega))) x.toNat (List.mem_range.2 (by omega))
  rw [Int.toNat_of_nonneg hb0, Int.toNat_of_nonneg hx0] at h
  exact decide_eq_decide.1 (eq_of_beq h)
theorem unb_j0_no (a : ByteArray) : Ev (fun k => strs_Unbits.j0 k a true) (⟨#[]⟩, 0, false) := by
  refine Ev.step (fun k => by rw [strs_Unbits.j0]) ?_
  exact Ev.ifp rfl (Ev.now _)
theorem unb_j0 (b : Int) (m : List Int) (hl : OkB (b :: m)) (hs : m.length ≤ 140737488355328) (hb : b ≤ 7) (hm : m = [] → b = 0) : Ev (fun k => strs_Unbits.j0 k (strOfNums (b :: m)) false) (unb (b :: m)) := by
  have hbd := hl.head
  refine Ev.step (fun k => by rw [strs_Unbits.j0]) ?_
  refine Ev.ifn (by simp) ?_
  rw [show wrap64 (((strOfNums (b :: m)).size : Int) - 1) = (m.length : Int) from by rw [nums_size, w64 (by simp) (by simp <;> omega)]; simp]
  rw [show bt (strOfNums (b :: m)) 0 = b from nums_bt hl 0 (by simp), nums_sizeI]
  refine Ev.ifp (by omega) ?_
  refine Ev.ifp (by simp <;> omega) ?_
  refine Ev.ifp (by simp <;> omega) ?_
  refine Ev.ifp hbd.1 ?_
  have hx : (strOfNums (b :: m)).extract 1 (strOfNums (b :: m)).size = strOfNums m := by
    rw [str_extract, nums_size]
    simp
  rw [hx, w64 (x := b) (by omega) (by omega)]
  by_cases h : m = []
  · subst h
    obtain rfl := hm rfl
    rw [show bt (strOfNums [0]) (([] : List Int).length : Int) = 0 from nums_bt hl 0 (by simp)]
    refine Ev.ifp ((mask_is (by decide) (by decide) (by decide) (by decide)).2 (by decide)) ?_
    refine Ev.ifp (by simp) ?_
    exact (Ev.now _).eq (by simp [unb, okBits])
  · obtain ⟨i, x, rfl⟩ : ∃ i x, m = i ++ [x] := ⟨m.dropLast, m.getLast h, (List.dropLast_concat_getLast h).symm⟩
    have hxo := hl x (by simp)
    have hg : bt (strOfNums (b :: (i ++ [x]))) ((i ++ [x]).length : Int) = x := by
      rw [nums_bt hl (i ++ [x]).length (by simp)]
      simp
    rw [hg]
    by_cases hz : x % 2 ^ b.toNat = 0
    · refine Ev.ifp ((mask_is hbd.1 hb hxo.1 hxo.2).2 hz) ?_
      refine Ev.ifp (by simp <;> omega) ?_
      refine (Ev.now _).eq ?_
      rw [unb, if_pos]
      simp [okBits, hbd.1, hb, hz]
    · refine Ev.ifn (fun e => hz ((mask_is hbd.1 hb hxo.1 hxo.2).1 e)) ?_
      refine Ev.ifp (by simp <;> omega) ?_
      refine (Ev.now _).eq ?_
      rw [unb, if_neg]
      simp [okBits, hz]
theorem unbits_is (l : List Int) (hl : OkB l) (hs : l.length ≤ 140737488355328) : Ev (fun k => strs_Unbits.f k (strOfNums l)) (unb l) := by
  refine Ev.congr (fun k => by rw [strs_Unbits.f]) ?_
  cases l with
  | nil => exact Ev.ifp ((nums_toList_nil _).2 rfl) (unb_j0_no _)
  | cons b m =>
    have hbd := hl.head
    refine Ev.ifn (fun e => by have := (nums_toList_nil _).1 e; cases this) ?_
    refine Ev.ifp (by rw [nums_sizeI]; simp <;> omega) ?_
    rw [show bt (strOfNums (b :: m)) 0 = b from nums_bt hl 0 (by simp)]
    simp only [List.length_cons] at hs
    by_cases h7 : b > 7
    · refine Ev.ifp h7 ?_
      refine (unb_j0_no _).eq ?_
      rw [unb, if_neg]
      simp only [okBits, decide_eq_true_eq]
      omega
    refine Ev.ifn h7 ?_
    by_cases h0 : b > 0
    · refine Ev.ifp h0 ?_
      by_cases hm : m = []
      · subst hm
        rw [show (((strOfNums [b]).size : Int) == 1) = true from by rw [nums_sizeI]; rfl]
        refine (unb_j0_no _).eq ?_
        rw [unb, if_neg]
        intro hh
        have hh := of_decide_eq_true hh
        have := hh.2.2.1 rfl
        omega
      · rw [show (((strOfNums (b :: m)).size : Int) == 1) = false from by
          rw [nums_sizeI]
          have : m.length ≠ 0 := fun e => hm (List.eq_nil_of_length_eq_zero e)
          exact beq_eq_false_iff_ne.2 (by simp <;> omega)]
        exact unb_j0 b m hl (by omega) (by omega) (fun e => absurd e hm)
    · refine Ev.ifn h0 ?_
      exact unb_j0 b m hl (by omega) (by omega) (fun _ => by omega)
def bitsN (m : List Int) (a : Int) : ByteArray × Bool := if okBits a m = true then (strOfNums (a :: m), true) else (⟨#[]⟩, false)
theorem bits_is (m : List Int) (hm : OkB m) (hs : m.length < 140737488355328) (a : Int) (ha : -9223372036854775808 ≤ a ∧ a ≤ 9223372036854775807) : Ev (fun k => strs_Bits.f k (strOfNums m) a) (bitsN m a) := by
  refine Ev.congr (fun k => by rw [strs_Bits.f]) ?_
  have hp : octets_Put.f (IntKind.u64.wrap a) 1 = some (strOfNums [a % 256]) := by
    rw [octets_Put_eq, wu64_mod]
    rw [if_pos (by decide)]
    congr 2
    simp only [lowB, show (1 : Int).toNat = 1 from rfl]
    simp <;> omega
  refine Ev.bindc hp ?_
  rw [str_append, List.singleton_append]
  have hok : OkB (a % 256 :: m) := OkB.cons (by omega) (by omega) hm
  refine Ev.ifp (by rw [nums_size, nums_size]; simp <;> omega) ?_
  refine Ev.bind (unbits_is _ hok (by simp <;> omega)) ?_
  by_cases h : okBits (a % 256) m = true
  · rw [unb, if_pos h]
    refine Ev.ifp rfl ?_
    by_cases e : a % 256 = a
    · refine Ev.ifp e ?_
      rw [e]
      rw [e] at h
      exact (Ev.now _).eq (by rw [bitsN, if_pos h])
    · refine Ev.ifn e ?_
      refine (Ev.now _).eq ?_
      rw [bitsN, if_neg]
      simp only [okBits, decide_eq_true_eq]
      omega
  · rw [unb, if_neg h]
    refine Ev.ifn (by simp) ?_
    refine (Ev.now _).eq ?_
    rw [bitsN, if_neg]
    intro h2
    apply h
    have : a % 256 = a := by
      simp only [okBits, decide_eq_true_eq] at h2
      omega
    rw [this]
    exact h2
/-- The first character's bytes; 0: it is none. -/
def ptN (n b0 b1 b2 b3 : Nat) : Nat :=
  if b0 < 128 then 1
  else if 192 ≤ b0 ∧ b0 < 224 then (if 2 ≤ n ∧ 128 ≤ b1 ∧ b1 ≤ 191 ∧ 128 ≤ (b0 - 192) * 64 + (b1 - 128) then 2 else 0)
  else if 224 ≤ b0 ∧ b0 < 240 then (if 3 ≤ n ∧ 128 ≤ b1 ∧ b1 ≤ 191 ∧ 128 ≤ b2 ∧ b2 ≤ 191 ∧ 2048 ≤ ((b0 - 224) * 64 + (b1 - 128)) * 64 + (b2 - 128) ∧ ¬ (55295 < ((b0 - 224) * 64 + (b1 - 128)) * 64 + (b2 - 128) ∧ ((b0 - 224) * 64 + (b1 - 128)) * 64 + (b2 - 128) < 57344) then 3 else 0)
  else if 240 ≤ b0 ∧ b0 < 248 then (if 4 ≤ n ∧ 128 ≤ b1 ∧ b1 ≤ 191 ∧ 128 ≤ b2 ∧ b2 ≤ 191 ∧ 128 ≤ b3 ∧ b3 ≤ 191 ∧ 65536 ≤ (((b0 - 240) * 64 + (b1 - 128)) * 64 + (b2 - 128)) * 64 + (b3 - 128) ∧ (((b0 - 240) * 64 + (b1 - 128)) * 64 + (b2 - 128)) * 64 + (b3 - 128) ≤ 1114111 then 4 else 0)
  else 0
theorem decode_pt (n b0 b1 b2 b3 : Nat) (h0 : b0 < 256) (h1 : b1 < 256) (h2 : b2 < 256) (h3 : b3 < 256) :
    if ptN n b0 b1 b2 b3 = 0 then Lib.decodeN n b0 b1 b2 b3 = (65533, 1) else ((Lib.decodeN n b0 b1 b2 b3).2 = ptN n b0 b1 b2 b3 ∧ ¬ ((Lib.decodeN n b0 b1 b2 b3).1 = 65533 ∧ (Lib.decodeN n b0 b1 b2 b3).2 = 1)) := by
  unfold Lib.decodeN ptN
  by_cases c0 : b0 < 128
  · simp [c0]
    omega
  by_cases c1 : b0 < 192
  · have e1 : ¬ (b0 / 32 = 6) := by omega
    have e2 : ¬ (b0 / 16 = 14) := by omega
    have e3 : ¬ (b0 / 8 = 30) := by omega
    have f1 : ¬ (192 ≤ b0 ∧ b0 < 224) := by omega
    have f2 : ¬ (224 ≤ b0 ∧ b0 < 240) := by omega
    have f3 : ¬ (240 ≤ b0 ∧ b0 < 248) := by omega
    simp [c0, e1, e2, e3, f1, f2, f3]
  by_cases c2 : b0 < 224
  · have e1 : b0 / 32 = 6 := by omega
    have e2 : ¬ (b0 / 16 = 14) := by omega
    have e3 : ¬ (b0 / 8 = 30) := by omega
    have f1 : 192 ≤ b0 ∧ b0 < 224 := by omega
    simp only [c0, e1, e2, e3, f1, if_false, true_and, false_and, if_true, and_self]
    repeat' split
    all_goals first | omega | (simp <;> omega) | simp
  by_cases c3 : b0 < 240
  · have e1 : ¬ (b0 / 32 = 6) := by omega
    have e2 : b0 / 16 = 14 := by omega
    have e3 : ¬ (b0 / 8 = 30) := by omega
    have f1 : ¬ (192 ≤ b0 ∧ b0 < 224) := by omega
    have f2 : 224 ≤ b0 ∧ b0 < 240 := by omega
    simp only [c0, e1, e2, e3, f1, f2, if_false, true_and, false_and, if_true, and_self]
    repeat' split
    all_goals first | omega | (simp <;> omega) | simp
  by_cases c4 : b0 < 248
  · have e1 : ¬ (b0 / 32 = 6) := by omega
    have e2 : ¬ (b0 / 16 = 14) := by omega
    have e3 : b0 / 8 = 30 := by omega
    have f1 : ¬ (192 ≤ b0 ∧ b0 < 224) := by omega
    have f2 : ¬ (224 ≤ b0 ∧ b0 < 240) := by omega
    have f3 : 240 ≤ b0 ∧ b0 < 248 := by omega
    simp only [c0, e1, e2, e3, f1, f2, f3, if_false, true_and, false_and, if_true, and_self]
    repeat' split
    all_goals first | omega | (simp <;> omega) | simp
  · have e1 : ¬ (b0 / 32 = 6) := by omega
    have e2 : ¬ (b0 / 16 = 14) := by omega
    have e3 : ¬ (b0 / 8 = 30) := by omega
    have f1 : ¬ (192 ≤ b0 ∧ b0 < 224) := by omega
    have f2 : ¬ (224 ≤ b0 ∧ b0 < 240) := by omega
    have f3 : ¬ (240 ≤ b0 ∧ b0 < 248) := by omega
    simp [c0, e1, e2, e3, f1, f2, f3]
def ptL (l : List UInt8) : Nat := ptN l.length (l.getD 0 0).toNat (l.getD 1 0).toNat (l.getD 2 0).toNat (l.getD 3 0).toNat
theorem u8_lt (x : UInt8) : x.toNat < 256 := x.toNat_lt
theorem decode_ptL (l : List UInt8) : if ptL l = 0 then Lib.decodeL l = (65533, 1) else ((Lib.decodeL l).2 = ptL l ∧ ¬ ((Lib.decodeL l).1 = 65533 ∧ (Lib.decodeL l).2 = 1)) := by
  rw [Lib.decodeL_N]
  exact decode_pt _ _ _ _ _ (u8_lt _) (u8_lt _) (u8_lt _) (u8_lt _)
theorem ptL_le (l : List UInt8) (h : l ≠ []) : ptL l ≤ l.length := by
  have h0 : 1 ≤ l.length := by cases l with | nil => exact absurd rfl h | cons => simp
  unfold ptL ptN
  repeat' split
  all_goals omega
theorem valid_step (n : Nat) (l : List UInt8) : Lib.validGoD (n + 1) l = if l = [] then true else if ptL l = 0 then false else Lib.validGoD n (l.drop (ptL l)) := by
  have h := decode_ptL l
  rw [Lib.validGoD]
  by_cases hn : l = []
  · rw [if_pos hn, if_pos hn]
  · rw [if_neg hn, if_neg hn]
    by_cases hp : ptL l = 0
    · rw [if_pos hp] at h
      rw [if_pos hp, h]
      rfl
    · rw [if_neg hp] at h
      rw [if_neg hp, if_neg h.2, h.1]
theorem valid_fuel : ∀ (n m : Nat) (l : List UInt8), l.length ≤ n → l.length ≤ m → Lib.validGoD n l = Lib.validGoD m l := by
  intro n
  induction n with
  | zero =>
    intro m l h _
    obtain rfl := List.eq_nil_of_length_eq_zero (Nat.le_zero.1 h)
    cases m with
    | zero => rfl
    | succ m => rw [valid_step, if_pos rfl]; rfl
  | succ n ih =>
    intro m l h hm
    by_cases hn : l = []
    · subst hn
      rw [valid_step, if_pos rfl]
      cases m with
      | zero => rfl
      | succ m => rw [valid_step, if_pos rfl]
    · have h0 : 1 ≤ l.length := by cases l with | nil => exact absurd rfl hn | cons => simp
      obtain ⟨m, rfl⟩ : ∃ q, m = q + 1 := ⟨m - 1, by omega⟩
      rw [valid_step, valid_step, if_neg hn, if_neg hn]
      by_cases hp : ptL l = 0
      · rw [if_pos hp, if_pos hp]
      · rw [if_neg hp, if_neg hp]
        exact ih m _ (by rw [List.length_drop]; omega) (by rw [List.length_drop]; omega)
theorem getD_app (l t : List UInt8) (i : Nat) (h : i < l.length) : (l ++ t).getD i 0 = l.getD i 0 := by
  simp [List.getD, List.getElem?_append_left h]
theorem ptN_more (n n' b0 b1 b2 b3 c1 c2 c3 : Nat) (hn : n ≤ n') (h1 : 1 < n → c1 = b1) (h2 : 2 < n → c2 = b2) (h3 : 3 < n → c3 = b3) (hp : ptN n b0 b1 b2 b3 ≠ 0) : ptN n' b0 c1 c2 c3 = ptN n b0 b1 b2 b3 := by
  unfold ptN at hp ⊢
  by_cases k0 : b0 < 128
  · simp only [if_pos k0]
  rw [if_neg k0] at hp ⊢
  rw [if_neg k0]
  by_cases k1 : 192 ≤ b0 ∧ b0 < 224
  · rw [if_pos k1] at hp ⊢
    rw [if_pos k1]
    split at hp
    · rename_i h
      rw [if_pos h, h1 (by omega), if_pos (by omega)]
    · exact absurd rfl hp
  rw [if_neg k1] at hp ⊢
  rw [if_neg k1]
  by_cases k2 : 224 ≤ b0 ∧ b0 < 240
  · rw [if_pos k2] at hp ⊢
    rw [if_pos k2]
    split at hp
    · rename_i h
      rw [if_pos h, h1 (by omega), h2 (by omega), if_pos (by omega)]
    · exact absurd rfl hp
  rw [if_neg k2] at hp ⊢
  rw [if_neg k2]
  by_cases k3 : 240 ≤ b0 ∧ b0 < 248
  · rw [if_pos k3] at hp ⊢
    rw [if_pos k3]
    split at hp
    · rename_i h
      rw [if_pos h, h1 (by omega), h2 (by omega), h3 (by omega), if_pos (by omega)]
    · exact absurd rfl hp
  · rw [if_neg k3] at hp
    exact absurd rfl hp
theorem ptL_app (l t : List UInt8) (hn : l ≠ []) (hp : ptL l ≠ 0) : ptL (l ++ t) = ptL l := by
  have h0 : 0 < l.length := by cases l with | nil => exact absurd rfl hn | cons => simp
  unfold ptL
  rw [getD_app l t 0 h0]
  exact ptN_more _ _ _ _ _ _ _ _ _ (by simp) (fun h => by rw [getD_app l t 1 h]) (fun h => by rw [getD_app l t 2 h]) (fun h => by rw [getD_app l t 3 h]) hp
theorem valid_app : ∀ (n : Nat) (l t : List UInt8), l.length ≤ n → Lib.validGoD n l = true → Lib.validGoD (n + t.length) (l ++ t) = Lib.validGoD t.length t := by
  intro n
  induction n with
  | zero =>
    intro l t h _
    obtain rfl := List.eq_nil_of_length_eq_zero (Nat.le_zero.1 h)
    rw [Nat.zero_add, List.nil_append]
  | succ n ih =>
    intro l t h hv
    by_cases hn : l = []
    · subst hn
      exact valid_fuel _ _ _ (by simp) (by simp)
    · have h0 : 0 < l.length := by cases l with | nil => exact absurd rfl hn | cons => simp
      rw [valid_step, if_neg hn] at hv
      by_cases hp : ptL l = 0
      · rw [if_pos hp] at hv; cases hv
      · rw [if_neg hp] at hv
        rw [show n + 1 + t.length = (n + t.length) + 1 by omega, valid_step, if_neg (by simp [hn]), ptL_app l t hn hp, if_neg hp, List.drop_append_of_le_length (ptL_le l hn)]
        exact ih _ t (by rw [List.length_drop]; omega) hv
theorem validD_app (l t : List UInt8) (h : Lib.validD l = true) : Lib.validD (l ++ t) = Lib.validD t := by
  unfold Lib.validD at *
  rw [List.length_append]
  exact valid_app _ l t (Nat.le_refl _) h
/-- A byte that may be. -/
def prB (b : UInt8) : Bool := decide (b.toNat < 128) && !noneR b.toNat
theorem noneR_far (x : Nat) (h : 128 ≤ x) : noneR x = true := by
  have hi : strings_IndexRune.f (⟨#[32, 39, 40, 41, 43, 44, 45, 46, 47, 58, 61, 63]⟩ : ByteArray) (x : Int) = some (-1) := by
    unfold strings_IndexRune.f
    rw [if_neg (by omega), if_pos ⟨rfl, by omega⟩]
  have hc : strings_ContainsRune.f (⟨#[32, 39, 40, 41, 43, 44, 45, 46, 47, 58, 61, 63]⟩ : ByteArray) (x : Int) = some false := by
    unfold strings_ContainsRune.f
    rw [hi]
    rfl
  unfold noneR
  have h1 : (decide ((x : Int) ≤ 90)) = false := decide_eq_false (by omega)
  have h2 : (decide ((x : Int) ≤ 122)) = false := decide_eq_false (by omega)
  have h3 : (x : Int) ≥ 65 := by omega
  have h4 : (x : Int) ≥ 97 := by omega
  have h5 : (x : Int) ≥ 48 := by omega
  have h6 : ¬ (x : Int) ≤ 57 := by omega
  simp only [strs_Printable_1.f, strs_Printable_1.j0, strs_Printable_1.j1, hc, h1, h2, h3, h4, h5, h6, if_true, if_false, Bool.false_eq_true, Option.bind_some]
  rfl
theorem decodeN_high (n b0 b1 b2 b3 : Nat) (h : 128 ≤ b0) : 128 ≤ (Lib.decodeN n b0 b1 b2 b3).1 := by
  unfold Lib.decodeN
  repeat' split
  all_goals first | omega | (simp <;> omega)
theorem prB_no {b : UInt8} (h : noneR b.toNat = true) : prB b = false := by simp [prB, h]
theorem prB_far {b : UInt8} (h : ¬ b.toNat < 128) : prB b = false := by simp [prB, h]
theorem prB_yes {b : UInt8} (h1 : b.toNat < 128) (h : ¬ noneR b.toNat = true) : prB b = true := by simp [prB, h, h1]
theorem idx_from (s : ByteArray) : ∀ (f pos : Nat), s.size - pos ≤ f → (decide (0 ≤ Lib.idxFuncFrom noneR true s f pos)) = !(s.data.toList.drop pos).all prB := by
  intro f
  have hlen : s.data.toList.length = s.size := Array.length_toList
  induction f with
  | zero =>
    intro pos h
    rw [List.drop_eq_nil_of_le (by omega)]
    rfl
  | succ f ih =>
    intro pos h
    rw [Lib.idxFuncFrom]
    by_cases hp : pos < s.size
    · rw [if_pos hp]
      have hlt : pos < s.data.toList.length := by omega
      have hd : s.data.toList.drop pos = s.data.toList[pos] :: s.data.toList.drop (pos + 1) := List.drop_eq_getElem_cons hlt
      rw [hd, List.all_cons, ← Lib.decodeL_drop, hd, Lib.decodeL_N]
      simp only [List.getD_cons_zero]
      by_cases h128 : (s.data.toList[pos]).toNat < 128
      · rw [Lib.decodeN_ascii _ _ _ _ _ h128]
        simp only
        by_cases hn : noneR (s.data.toList[pos]).toNat = true
        · rw [if_pos hn]
          have : prB s.data.toList[pos] = false := prB_no hn
          rw [this]
          simp
        · rw [if_neg hn, ih (pos + 1) (by omega)]
          have : prB s.data.toList[pos] = true := prB_yes h128 hn
          rw [this, Bool.true_and]
      · have hh := decodeN_high (List.length (s.data.toList[pos] :: s.data.toList.drop (pos + 1))) (s.data.toList[pos]).toNat
        rw [if_pos (noneR_far _ (hh _ _ _ (by omega)))]
        have : prB s.data.toList[pos] = false := prB_far h128
        rw [this]
        simp
    · rw [if_neg hp, List.drop_eq_nil_of_le (by omega)]
      rfl
theorem printable_is (a : ByteArray) : strs_Printable.f a = some (a.data.toList.all prB) := by
  unfold strs_Printable.f Lib.idxFunc
  rw [idx_from a a.size 0 (by omega)]
  simp
theorem utf_is (a : ByteArray) (h : a.size ≤ 9223372036854775807) : strs_Utf.f a = some (Lib.validD a.data.toList) := by
  unfold strs_Utf.f utf8_ValidString.f
  rw [if_pos h]
  rfl
theorem awake18 : Ev (fun k => clavigerlaw18_awake.f k) true := Ev.of clavigerlaw18_awake.mono (k := 40) (by kernel_rfl)
theorem ref_put1 (a : Int) (h0 : 0 ≤ a) (h7 : a ≤ 7) : Ev (fun k => clavigerref01_Put.f k (IntKind.u64.wrap a) 1) (strOfNums [a]) := by
  rw [wu64 h0 (by omega)]
  refine (ref01_Put_eq a h0 (by omega) 1).eq ?_
  rw [if_pos (by decide)]
  congr 1
  simp only [lowB, show (1 : Int).toNat = 1 from rfl]
  simp <;> omega
theorem ref_bits_loop (m : List Int) (hm : OkB m) (hs : m.length < 140737488355328) (a : Nat) (h7 : a ≤ 7) (h0 : m = [] → a = 0) (d : Nat) : ∀ i : Nat, i ≤ a → a - i = d →
    Ev (fun k => clavigerref18_Bits.l0 k (strOfNums m) (a : Int) (2 ^ i) (i : Int)) (bitsN m a) := by
  have hpow : ∀ i : Nat, i ≤ 7 → (0 : Int) < 2 ^ i ∧ (2 : Int) ^ i ≤ 128 := by
    intro i hi
    rcases (by omega : i = 0 ∨ i = 1 ∨ i = 2 ∨ i = 3 ∨ i = 4 ∨ i = 5 ∨ i = 6 ∨ i = 7) with rfl | rfl | rfl | rfl | rfl | rfl | rfl | rfl <;> decide
  have hput := ref_put1 (a : Int) (by omega) (by omega)
  induction d with
  | zero =>
    intro i hi hd
    obtain rfl : i = a := by omega
    refine Ev.step (fun k => by rw [clavigerref18_Bits.l0]) ?_
    refine Ev.ifn (by omega) ?_
    by_cases hn : m = []
    · obtain rfl := h0 hn
      subst hn
      refine Ev.ifp ((nums_toList_nil _).2 rfl) ?_
      refine Ev.bind hput ?_
      rw [str_append, nums_size, nums_size]
      refine Ev.ifp (by simp) ?_
      exact (Ev.now _).eq (by simp [bitsN, okBits])
    · obtain ⟨q, x, rfl⟩ : ∃ i x, m = i ++ [x] := ⟨m.dropLast, m.getLast hn, (List.dropLast_concat_getLast hn).symm⟩
      have hx := hm x (by simp)
      have hp := hpow i h7
      have hs2 : q.length < 140737488355328 := by simp at hs; omega
      rw [show wrap64 (((strOfNums (q ++ [x])).size : Int) - 1) = (q.length : Int) from by rw [nums_size, w64 (by simp <;> omega) (by simp <;> omega)]; simp <;> omega]
      rw [show bt (strOfNums (q ++ [x])) (q.length : Int) = x from by rw [nums_bt hm q.length (by simp)]; simp]
      rw [w64 (x := x) (by omega) (by omega), nums_sizeI]
      refine Ev.ifn (fun e => hn ((nums_toList_nil _).1 e)) ?_
      refine Ev.ifp (by omega) ?_
      refine Ev.ifp (by simp <;> omega) ?_
      refine Ev.ifn (by omega) ?_
      have ht : Int.tmod x (2 ^ i) = x % 2 ^ i := Int.tmod_eq_emod_of_nonneg hx.1
      rw [ht]
      by_cases hz : x % 2 ^ i = 0
      · refine Ev.ifp hz ?_
        refine Ev.bind hput ?_
        rw [str_append, nums_size, nums_size]
        refine Ev.ifp (by simp at hs ⊢ <;> omega) ?_
        refine (Ev.now _).eq ?_
        rw [bitsN, if_pos]
        · rfl
        · simp [okBits, hz]; omega
      · refine Ev.ifn hz ?_
        refine (Ev.now _).eq ?_
        rw [bitsN, if_neg]
        simp [okBits, hz]
  | succ d ih =>
    intro i hi hd
    refine Ev.step (fun k => by rw [clavigerref18_Bits.l0]) ?_
    refine Ev.ifp (by omega) ?_
    have hp := hpow i (by omega)
    rw [w64 (x := 2 * 2 ^ i) (by omega) (by omega), w64 (by omega) (by omega), show (2 : Int) * 2 ^ i = 2 ^ (i + 1) by rw [Int.pow_succ]; omega]
    exact ih (i + 1) (by omega) (by omega)
theorem ref_bits_is (m : List Int) (hm : OkB m) (hs : m.length < 140737488355328) (a : Int) : Ev (fun k => clavigerref18_Bits.f k (strOfNums m) a) (bitsN m a) := by
  have hno : okBits a m = false → Ev (fun k => clavigerref18_Bits.j0 k (strOfNums m) a true) (bitsN m a) := by
    intro h
    refine Ev.step (fun k => by rw [clavigerref18_Bits.j0]) ?_
    refine Ev.ifp rfl ?_
    exact (Ev.now _).eq (by rw [bitsN, if_neg (by simp [h])])
  refine Ev.congr (fun k => by rw [clavigerref18_Bits.f]) ?_
  by_cases h0 : a < 0
  · exact Ev.ifp h0 (hno (decide_eq_false (by omega)))
  refine Ev.ifn h0 ?_
  by_cases h7 : a > 7
  · exact Ev.ifp h7 (hno (decide_eq_false (by omega)))
  refine Ev.ifn h7 ?_
  obtain ⟨n, rfl⟩ : ∃ n : Nat, a = (n : Int) := ⟨a.toNat, by omega⟩
  have hgo : (m = [] → n = 0) → Ev (fun k => clavigerref18_Bits.j0 k (strOfNums m) (n : Int) false) (bitsN m n) := by
    intro h
    refine Ev.step (fun k => by rw [clavigerref18_Bits.j0]) ?_
    refine Ev.ifn (by simp) ?_
    exact ref_bits_loop m hm hs n (by omega) h _ 0 (by omega) rfl
  by_cases hn : m = []
  · refine Ev.ifp ((nums_toList_nil _).2 hn) ?_
    by_cases hz : n = 0
    · rw [show ((n : Int) != 0) = false by subst hz; rfl]
      exact hgo (fun _ => hz)
    · rw [show ((n : Int) != 0) = true from bne_iff_ne.2 (by omega)]
      refine hno (decide_eq_false ?_)
      rintro ⟨_, _, h, _⟩
      have := h hn
      omega
  · refine Ev.ifn (fun e => hn ((nums_toList_nil _).1 e)) ?_
    exact hgo (fun e => absurd e hn)
theorem ref_unbits_is (l : List Int) (hl : OkB l) (hs : l.length < 140737488355328) : Ev (fun k => clavigerref18_Unbits.f k (strOfNums l)) (unb l) := by
  refine Ev.congr (fun k => by rw [clavigerref18_Unbits.f]) ?_
  cases l with
  | nil => exact Ev.ifp ((nums_toList_nil _).2 rfl) (Ev.now _)
  | cons b m =>
    have hbd := hl.head
    simp only [List.length_cons] at hs
    refine Ev.ifn (fun e => by have := (nums_toList_nil _).1 e; cases this) ?_
    rw [show bt (strOfNums (b :: m)) 0 = b from nums_bt hl 0 (by simp), w64 (x := b) (by omega) (by omega)]
    have hx : (strOfNums (b :: m)).extract 1 (strOfNums (b :: m)).size = strOfNums m := by
      rw [str_extract, nums_size]
      simp
    rw [hx, nums_sizeI]
    refine Ev.ifp (by simp <;> omega) ?_
    refine Ev.ifp (by simp <;> omega) ?_
    refine Ev.bind (ref_bits_is m hl.tail (by omega) b) ?_
    by_cases hk : okBits b m = true
    · rw [bitsN, if_pos hk, unb, if_pos hk]
      exact Ev.ifp rfl (Ev.now _)
    · rw [bitsN, if_neg hk, unb, if_neg hk]
      exact Ev.ifn (by simp) (Ev.now _)
theorem bt_at (s : ByteArray) (i : Nat) (h : i < s.size) : bt s (i : Int) = ((s.data.toList.getD i 0).toNat : Int) := by
  have hl : i < s.data.toList.length := by rw [Array.length_toList]; exact h
  unfold bt
  rw [dif_pos (by simpa using h)]
  rw [List.getD_eq_getElem?_getD, List.getElem?_eq_getElem hl]
  rfl
theorem point_end (s : ByteArray) (n more least i : Int) (h : ¬ i ≤ more) (hm : 0 ≤ more ∧ more ≤ 3) : Ev (fun k => clavigerref18_point.l0 k s n more least i) (if n < least ∨ n > 1114111 ∨ (n > 55295 ∧ n < 57344) then 0 else more + 1) := by
  refine Ev.step (fun k => by rw [clavigerref18_point.l0]) ?_
  refine Ev.ifn h ?_
  rw [w64 (x := more + 1) (by omega) (by omega)]
  by_cases c1 : n < least
  · exact Ev.ifp c1 ((Ev.now _).eq (by rw [if_pos (Or.inl c1)]))
  refine Ev.ifn c1 ?_
  by_cases c2 : n > 1114111
  · exact Ev.ifp c2 ((Ev.now _).eq (by rw [if_pos (Or.inr (Or.inl c2))]))
  refine Ev.ifn c2 ?_
  by_cases c3 : n > 55295
  · refine Ev.ifp c3 ?_
    by_cases c4 : n < 57344
    · exact Ev.ifp c4 ((Ev.now _).eq (by rw [if_pos (Or.inr (Or.inr ⟨c3, c4⟩))]))
    · exact Ev.ifn c4 ((Ev.now _).eq (by rw [if_neg (by omega)]))
  · exact Ev.ifn c3 ((Ev.now _).eq (by rw [if_neg (by omega)]))
theorem point_bad (s : ByteArray) (n more least : Int) (i : Nat) (h : (i : Int) ≤ more) (hs : i < s.size) (hb : ¬ (128 ≤ (s.data.toList.getD i 0).toNat ∧ (s.data.toList.getD i 0).toNat ≤ 191)) :
    Ev (fun k => clavigerref18_point.l0 k s n more least (i : Int)) 0 := by
  refine Ev.step (fun k => by rw [clavigerref18_point.l0]) ?_
  refine Ev.ifp h ?_
  refine Ev.ifp (by omega) ?_
  refine Ev.ifp (by omega) ?_
  rw [bt_at s i hs]
  by_cases c : ((s.data.toList.getD i 0).toNat : Int) < 128
  · exact Ev.ifp c (Ev.now _)
  · exact Ev.ifn c (Ev.ifp (by omega) (Ev.now _))
theorem point_next (s : ByteArray) (n more least : Int) (i : Nat) (r : Int) (h : (i : Int) ≤ more) (hm : more ≤ 3) (hs : i < s.size) (hb : 128 ≤ (s.data.toList.getD i 0).toNat ∧ (s.data.toList.getD i 0).toNat ≤ 191) (hn : 0 ≤ n ∧ n ≤ 2000000)
    (k : Ev (fun k => clavigerref18_point.l0 k s (64 * n + ((s.data.toList.getD i 0).toNat : Int) - 128) more least ((i + 1 : Nat) : Int)) r) :
    Ev (fun k => clavigerref18_point.l0 k s n more least (i : Int)) r := by
  refine Ev.step (fun k => by rw [clavigerref18_point.l0]) ?_
  refine Ev.ifp h ?_
  refine Ev.ifp (by omega) ?_
  refine Ev.ifp (by omega) ?_
  rw [bt_at s i hs]
  refine Ev.ifn (by omega) ?_
  refine Ev.ifn (by omega) ?_
  rw [w64 (x := 64 * n) (by omega) (by omega), w64 (x := ((s.data.toList.getD i 0).toNat : Int)) (by omega) (by omega), w64 (x := 64 * n + _) (by omega) (by omega), w64 (x := 64 * n + _ - 128) (by omega) (by omega), w64 (x := (i : Int) + 1) (by omega) (by omega)]
  exact k
theorem point_j5 (s : ByteArray) (n more least : Int) (r : Int) (hs : s.size ≤ 140737488355328) (h1 : 1 ≤ more) (hr : (s.size : Int) ≤ more → r = 0) (k : more < (s.size : Int) → Ev (fun k => clavigerref18_point.l0 k s n more least 1) r) :
    Ev (fun k => clavigerref18_point.j5 k s n more least) r := by
  refine Ev.step (fun k => by rw [clavigerref18_point.j5]) ?_
  refine Ev.ifn (by omega) ?_
  refine Ev.step (fun k => by rw [clavigerref18_point.j6]) ?_
  by_cases c : (s.size : Int) ≤ more
  · refine Ev.ifp (decide_eq_true c) ?_
    rw [hr c]
    exact Ev.now _
  · refine Ev.ifn (by simp [c]) ?_
    exact k (by omega)
theorem point_none (s : ByteArray) : Ev (fun k => clavigerref18_point.j5 k s 0 0 0) 0 := by
  refine Ev.step (fun k => by rw [clavigerref18_point.j5]) ?_
  refine Ev.ifp rfl ?_
  refine Ev.step (fun k => by rw [clavigerref18_point.j6]) ?_
  exact Ev.ifp rfl (Ev.now _)
theorem point_is (s : ByteArray) (h0 : 0 < s.size) (hs : s.size ≤ 140737488355328) : Ev (fun k => clavigerref18_point.f k s) ((ptL s.data.toList : Nat) : Int) := by
  have hl : s.data.toList.length = s.size := Array.length_toList
  unfold ptL
  rw [hl]
  have g1 := bt_at s 0 h0
  have u0 := u8_lt (s.data.toList.getD 0 0)
  have u1 := u8_lt (s.data.toList.getD 1 0)
  have u2 := u8_lt (s.data.toList.getD 2 0)
  have u3 := u8_lt (s.data.toList.getD 3 0)
  have n1 := fun n more least r => point_next s n more least 1 r
  have n2 := fun n more least r => point_next s n more least 2 r
  have n3 := fun n more least r => point_next s n more least 3 r
  have d1 := fun n more least => point_bad s n more least 1
  have d2 := fun n more least => point_bad s n more least 2
  have d3 := fun n more least => point_bad s n more least 3
  generalize (s.data.toList.getD 0 0).toNat = b0 at *
  generalize (s.data.toList.getD 1 0).toNat = b1 at *
  generalize (s.data.toList.getD 2 0).toNat = b2 at *
  generalize (s.data.toList.getD 3 0).toNat = b3 at *
  refine Ev.congr (fun k => by rw [clavigerref18_point.f]) ?_
  refine Ev.ifp (by omega) ?_
  rw [show bt s 0 = (b0 : Int) from g1, w64 (x := (b0 : Int)) (by omega) (by omega)]
  by_cases c0 : b0 < 128
  · refine Ev.ifp (by omega) ?_
    exact (Ev.now _).eq (by simp [ptN, c0])
  refine Ev.ifn (by omega) ?_
  have tail4 : ∀ n more least r, Ev (fun k => clavigerref18_point.j5 k s n more least) r → ¬ (240 ≤ b0 ∧ b0 < 248) → Ev (fun k => clavigerref18_point.j3 k s (b0 : Int) n more least) r := by
    intro n more least r k hk
    refine Ev.step (fun k => by rw [clavigerref18_point.j3]) ?_
    by_cases c : (b0 : Int) ≥ 240
    · refine Ev.ifp c ?_
      rw [decide_eq_false (by omega)]
      refine Ev.step (fun k => by rw [clavigerref18_point.j4]) ?_
      exact Ev.ifn (by simp) k
    · refine Ev.ifn c ?_
      refine Ev.step (fun k => by rw [clavigerref18_point.j4]) ?_
      exact Ev.ifn (by simp) k
  have tail3 : ∀ n more least r, Ev (fun k => clavigerref18_point.j3 k s (b0 : Int) n more least) r → ¬ (224 ≤ b0 ∧ b0 < 240) → Ev (fun k => clavigerref18_point.j1 k s (b0 : Int) n more least) r := by
    intro n more least r k hk
    refine Ev.step (fun k => by rw [clavigerref18_point.j1]) ?_
    by_cases c : (b0 : Int) ≥ 224
    · refine Ev.ifp c ?_
      rw [decide_eq_false (by omega)]
      refine Ev.step (fun k => by rw [clavigerref18_point.j2]) ?_
      exact Ev.ifn (by simp) k
    · refine Ev.ifn c ?_
      refine Ev.step (fun k => by rw [clavigerref18_point.j2]) ?_
      exact Ev.ifn (by simp) k
  have tail2 : ∀ r, Ev (fun k => clavigerref18_point.j1 k s (b0 : Int) 0 0 0) r → ¬ (192 ≤ b0 ∧ b0 < 224) → Ev (fun k => if (b0 : Int) ≥ 192 then (clavigerref18_point.j0 k s (b0 : Int) 0 0 0 (decide ((b0 : Int) < 224))) else (clavigerref18_point.j0 k s (b0 : Int) 0 0 0 false)) r := by
    intro r k hk
    by_cases c : (b0 : Int) ≥ 192
    · refine Ev.ifp c ?_
      rw [decide_eq_false (by omega)]
      refine Ev.step (fun k => by rw [clavigerref18_point.j0]) ?_
      exact Ev.ifn (by simp) k
    · refine Ev.ifn c ?_
      refine Ev.step (fun k => by rw [clavigerref18_point.j0]) ?_
      exact Ev.ifn (by simp) k
  by_cases c1 : 192 ≤ b0 ∧ b0 < 224
  · refine Ev.ifp (by omega) ?_
    rw [decide_eq_true (by omega)]
    refine Ev.step (fun k => by rw [clavigerref18_point.j0]) ?_
    refine Ev.ifp rfl ?_
    rw [w64 (by omega) (by omega)]
    refine tail3 _ _ _ _ (tail4 _ _ _ _ ?_ (by omega)) (by omega)
    refine point_j5 s _ _ _ _ hs (by decide) (fun h => ?_) (fun h => ?_)
    · unfold ptN; rw [if_neg c0, if_pos c1, if_neg (by omega)]; rfl
    · by_cases k1 : 128 ≤ b1 ∧ b1 ≤ 191
      · refine n1 _ _ _ _ (by decide) (by decide) (by omega) k1 (by omega) ?_
        refine (point_end s _ _ _ _ (by decide) (by decide)).eq ?_
        unfold ptN
        rw [if_neg c0, if_pos c1]
        by_cases q : 2 ≤ s.size ∧ 128 ≤ b1 ∧ b1 ≤ 191 ∧ 128 ≤ (b0 - 192) * 64 + (b1 - 128)
        · rw [if_pos q, if_neg (by omega)]; rfl
        · rw [if_neg q, if_pos (by omega)]; rfl
      · refine (d1 _ _ _ (by decide) (by omega) k1).eq ?_
        unfold ptN; rw [if_neg c0, if_pos c1, if_neg (by omega)]; rfl
  by_cases c2 : 224 ≤ b0 ∧ b0 < 240
  · refine tail2 _ ?_ (by omega)
    refine Ev.step (fun k => by rw [clavigerref18_point.j1]) ?_
    refine Ev.ifp (by omega) ?_
    rw [decide_eq_true (by omega)]
    refine Ev.step (fun k => by rw [clavigerref18_point.j2]) ?_
    refine Ev.ifp rfl ?_
    rw [w64 (by omega) (by omega)]
    refine tail4 _ _ _ _ ?_ (by omega)
    refine point_j5 s _ _ _ _ hs (by decide) (fun h => ?_) (fun h => ?_)
    · unfold ptN; rw [if_neg c0, if_neg c1, if_pos c2, if_neg (by omega)]; rfl
    · by_cases k1 : 128 ≤ b1 ∧ b1 ≤ 191
      · refine n1 _ _ _ _ (by decide) (by decide) (by omega) k1 (by omega) ?_
        by_cases k2 : 128 ≤ b2 ∧ b2 ≤ 191
        · refine n2 _ _ _ _ (by decide) (by decide) (by omega) k2 (by omega) ?_
          refine (point_end s _ _ _ _ (by decide) (by decide)).eq ?_
          unfold ptN
          rw [if_neg c0, if_neg c1, if_pos c2]
          split
          · rw [if_neg (by omega)]; rfl
          · rw [if_pos (by omega)]; rfl
        · refine (d2 _ _ _ (by decide) (by omega) k2).eq ?_
          unfold ptN; rw [if_neg c0, if_neg c1, if_pos c2, if_neg (by omega)]; rfl
      · refine (d1 _ _ _ (by decide) (by omega) k1).eq ?_
        unfold ptN; rw [if_neg c0, if_neg c1, if_pos c2, if_neg (by omega)]; rfl
  by_cases c3 : 240 ≤ b0 ∧ b0 < 248
  · refine tail2 _ ?_ (by omega)
    refine tail3 _ _ _ _ ?_ (by omega)
    refine Ev.step (fun k => by rw [clavigerref18_point.j3]) ?_
    refine Ev.ifp (by omega) ?_
    rw [decide_eq_true (by omega)]
    refine Ev.step (fun k => by rw [clavigerref18_point.j4]) ?_
    refine Ev.ifp rfl ?_
    rw [w64 (by omega) (by omega)]
    refine point_j5 s _ _ _ _ hs (by decide) (fun h => ?_) (fun h => ?_)
    · unfold ptN; rw [if_neg c0, if_neg c1, if_neg c2, if_pos c3, if_neg (by omega)]; rfl
    · by_cases k1 : 128 ≤ b1 ∧ b1 ≤ 191
      · refine n1 _ _ _ _ (by decide) (by decide) (by omega) k1 (by omega) ?_
        by_cases k2 : 128 ≤ b2 ∧ b2 ≤ 191
        · refine n2 _ _ _ _ (by decide) (by decide) (by omega) k2 (by omega) ?_
          by_cases k3 : 128 ≤ b3 ∧ b3 ≤ 191
          · refine n3 _ _ _ _ (by decide) (by decide) (by omega) k3 (by omega) ?_
            refine (point_end s _ _ _ _ (by decide) (by decide)).eq ?_
            unfold ptN
            rw [if_neg c0, if_neg c1, if_neg c2, if_pos c3]
            split
            · rw [if_neg (by omega)]; rfl
            · rw [if_pos (by omega)]; rfl
          · refine (d3 _ _ _ (by decide) (by omega) k3).eq ?_
            unfold ptN; rw [if_neg c0, if_neg c1, if_neg c2, if_pos c3, if_neg (by omega)]; rfl
        · refine (d2 _ _ _ (by decide) (by omega) k2).eq ?_
          unfold ptN; rw [if_neg c0, if_neg c1, if_neg c2, if_pos c3, if_neg (by omega)]; rfl
      · refine (d1 _ _ _ (by decide) (by omega) k1).eq ?_
        unfold ptN; rw [if_neg c0, if_neg c1, if_neg c2, if_pos c3, if_neg (by omega)]; rfl
  · refine tail2 _ ?_ (by omega)
    refine tail3 _ _ _ _ ?_ (by omega)
    refine tail4 _ _ _ _ ?_ (by omega)
    refine (point_none s).eq ?_
    unfold ptN; rw [if_neg c0, if_neg c1, if_neg c2, if_neg c3]; rfl
theorem extract_drop (s : ByteArray) (i : Nat) : (s.extract i s.size).data.toList = s.data.toList.drop i := by
  rw [ByteArray.data_extract, Array.toList_extract]
  rw [List.extract_eq_take_drop]
  refine List.take_of_length_le ?_
  rw [List.length_drop, Array.length_toList]
  exact Nat.le_refl _
theorem ref_utf_loop : ∀ (n : Nat) (s : ByteArray), s.size ≤ n → s.size ≤ 140737488355328 → Ev (fun k => clavigerref18_Utf.l0 k s) (Lib.validGoD n s.data.toList) := by
  intro n
  induction n with
  | zero =>
    intro s h _
    refine Ev.step (fun k => by rw [clavigerref18_Utf.l0]) ?_
    exact Ev.ifn (by omega) ((Ev.now _).eq rfl)
  | succ n ih =>
    intro s h hs
    have hl : s.data.toList.length = s.size := Array.length_toList
    refine Ev.step (fun k => by rw [clavigerref18_Utf.l0]) ?_
    rw [valid_step]
    by_cases h0 : s.size = 0
    · refine Ev.ifn (by omega) ?_
      rw [if_pos (List.eq_nil_of_length_eq_zero (by omega))]
      exact Ev.now _
    · refine Ev.ifp (by omega) ?_
      have hne : s.data.toList ≠ [] := fun e => by rw [e] at hl; exact h0 hl.symm
      rw [if_neg hne]
      refine Ev.bind (point_is s (by omega) hs) ?_
      by_cases hp : ptL s.data.toList = 0
      · rw [if_pos hp]
        exact Ev.ifp (by omega) (Ev.now _)
      · have hle := ptL_le _ hne
        rw [if_neg hp]
        refine Ev.ifn (by omega) ?_
        refine Ev.ifp (by omega) ?_
        refine Ev.ifp (by omega) ?_
        rw [← extract_drop]
        simp only [Int.toNat_natCast]
        have hz : (s.extract (ptL s.data.toList) s.size).size ≤ s.size - ptL s.data.toList := by simp
        exact ih _ (by omega) (by omega)
theorem ref_utf_is (s : ByteArray) (h : s.size ≤ 140737488355328) : Ev (fun k => clavigerref18_Utf.f k s) (Lib.validD s.data.toList) := by
  refine Ev.congr (fun k => by rw [clavigerref18_Utf.f]) ?_
  refine (ref_utf_loop s.size s (Nat.le_refl _) h).eq ?_
  unfold Lib.validD
  rw [Array.length_toList]
  rfl
def allP : List UInt8 := [65, 66, 67, 68, 69, 70, 71, 72, 73, 74, 75, 76, 77, 78, 79, 80, 81, 82, 83, 84, 85, 86, 87, 88, 89, 90, 97, 98, 99, 100, 101, 102, 103, 104, 105, 106, 107, 108, 109, 110, 111, 112, 113, 114, 115, 116, 117, 118, 119, 120, 121, 122, 48, 49, 50, 51, 52, 53, 54, 55, 56, 57, 32, 39, 40, 41, 43, 44, 45, 46, 47, 58, 61, 63]
theorem prB_all : ((List.range 256).all fun x => prB (UInt8.ofNat x) == allP.contains (UInt8.ofNat x)) = true := by kernel_rfl
theorem prB_is (b : UInt8) : prB b = allP.contains b := by
  have h := List.all_eq_true.1 prB_all b.toNat (List.mem_range.2 (u8_lt b))
  rw [UInt8.ofNat_toNat] at h
  exact eq_of_beq h
theorem ref_pr_in (s : ByteArray) (j : Nat) (hj : j < s.size) (R : Bool) (k : Ev (fun k => clavigerref18_Printable.l0 k s (wrap64 ((j : Int) + 1))) R) (d : Nat) : ∀ (i : Nat) (f : Bool), i ≤ 74 → 74 - i = d →
    Ev (fun k => clavigerref18_Printable.l1 k s (j : Int) f (i : Int)) ((f || (allP.drop i).contains (s.data.toList.getD j 0)) && R) := by
  induction d with
  | zero =>
    intro i f hi hd
    obtain rfl : i = 74 := by omega
    refine Ev.step (fun k => by rw [clavigerref18_Printable.l1]) ?_
    refine Ev.ifn (by decide) ?_
    rw [show allP.drop 74 = [] from rfl]
    cases f with
    | true => exact Ev.ifp rfl (k.eq (by simp))
    | false => exact Ev.ifn (by simp) ((Ev.now _).eq (by simp))
  | succ d ih =>
    intro i f hi hd
    have hlt : i < allP.length := by have : allP.length = 74 := rfl; omega
    refine Ev.step (fun k => by rw [clavigerref18_Printable.l1]) ?_
    refine Ev.ifp (by omega) ?_
    refine Ev.ifp (by omega) ?_
    refine Ev.ifp (by omega) ?_
    refine Ev.ifp (by omega) ?_
    rw [bt_at s j hj, bt_at (⟨#[65, 66, 67, 68, 69, 70, 71, 72, 73, 74, 75, 76, 77, 78, 79, 80, 81, 82, 83, 84, 85, 86, 87, 88, 89, 90, 97, 98, 99, 100, 101, 102, 103, 104, 105, 106, 107, 108, 109, 110, 111, 112, 113, 114, 115, 116, 117, 118, 119, 120, 121, 122, 48, 49, 50, 51, 52, 53, 54, 55, 56, 57, 32, 39, 40, 41, 43, 44, 45, 46, 47, 58, 61, 63]⟩ : ByteArray) i (show i < 74 by omega), w64 (x := (i : Int) + 1) (by omega) (by omega)]
    have hd2 : allP.drop i = allP.getD i 0 :: allP.drop (i + 1) := by
      rw [List.drop_eq_getElem_cons hlt, List.getD_eq_getElem?_getD, List.getElem?_eq_getElem hlt]
      rfl
    rw [hd2, List.contains_cons]
    change Ev (fun k => if ((allP.getD i 0).toNat : Int) = ((s.data.toList.getD j 0).toNat : Int) then _ else _) _
    by_cases e : ((allP.getD i 0).toNat : Int) = ((s.data.toList.getD j 0).toNat : Int)
    · refine Ev.ifp e ?_
      have e2 : (s.data.toList.getD j 0 == allP.getD i 0) = true := beq_iff_eq.2 (UInt8.toNat_inj.1 (by omega))
      refine (ih (i + 1) true (by omega) (by omega)).eq ?_
      rw [e2]
      simp
    · refine Ev.ifn e ?_
      have e2 : (s.data.toList.getD j 0 == allP.getD i 0) = false := beq_eq_false_iff_ne.2 (fun h => e (by rw [h]))
      refine (ih (i + 1) f (by omega) (by omega)).eq ?_
      rw [e2]
      simp
theorem ref_pr_loop (s : ByteArray) (hs : s.size ≤ 140737488355328) (d : Nat) : ∀ j : Nat, j ≤ s.size → s.size - j = d → Ev (fun k => clavigerref18_Printable.l0 k s (j : Int)) ((s.data.toList.drop j).all prB) := by
  have hl : s.data.toList.length = s.size := Array.length_toList
  induction d with
  | zero =>
    intro j hj hd
    refine Ev.step (fun k => by rw [clavigerref18_Printable.l0]) ?_
    refine Ev.ifn (by omega) ?_
    rw [List.drop_eq_nil_of_le (by omega)]
    exact Ev.now _
  | succ d ih =>
    intro j hj hd
    refine Ev.step (fun k => by rw [clavigerref18_Printable.l0]) ?_
    refine Ev.ifp (by omega) ?_
    have hlt : j < s.data.toList.length := by omega
    have hd2 : s.data.toList.drop j = s.data.toList.getD j 0 :: s.data.toList.drop (j + 1) := by
      rw [List.drop_eq_getElem_cons hlt, List.getD_eq_getElem?_getD, List.getElem?_eq_getElem hlt]
      rfl
    have hn := ih (j + 1) (by omega) (by omega)
    refine (ref_pr_in s j (by omega) _ (by rw [w64 (by omega) (by omega)]; exact hn) _ 0 false (by omega) rfl).eq ?_
    rw [hd2, List.all_cons, prB_is]
    simp
theorem ref_pr_is (s : ByteArray) (hs : s.size ≤ 140737488355328) : Ev (fun k => clavigerref18_Printable.f k s) (s.data.toList.all prB) := by
  refine Ev.congr (fun k => by rw [clavigerref18_Printable.f]) ?_
  exact ref_pr_loop s hs _ 0 (by omega) rfl
theorem StrsTells : clavigerlaw18_StrsTells.Pure := by
  intro a0 a1 a2 _ h2
  obtain ⟨l, hl, rfl⟩ := str_nums a0
  have hn := lit_i64 h2
  refine Ev.rounds (g := fun k => clavigerlaw18_StrsTells.f k (strOfNums l) a1 a2) ?_
  refine Ev.congr (fun k => by rw [clavigerlaw18_StrsTells.f]) ?_
  by_cases ha : ((strOfNums l).size : Int) > 200
  · exact Ev.ifp ha (Ev.bind awake18 (Ev.now _))
  refine Ev.ifn ha ?_
  have hsz : (strOfNums l).size ≤ 200 := by omega
  rw [nums_sizeI] at ha
  refine Ev.bind (bits_is l hl (by omega) a1 hn) ?_
  refine Ev.bind (ref_bits_is l hl (by omega) a1) ?_
  refine Ev.bind (unbits_is l hl (by omega)) ?_
  refine Ev.bind (ref_unbits_is l hl (by omega)) ?_
  have hu : strs_Unbool.f (strOfNums l) = some ((strOfNums l).toList == ([255] : List UInt8), ((strOfNums l).toList == ([255] : List UInt8)) || ((strOfNums l).toList == ([0] : List UInt8))) := by
    unfold strs_Unbool.f
    by_cases e : (strOfNums l).toList = ([255] : List UInt8)
    · rw [if_pos e, e]; rfl
    · rw [if_neg e]
      have : ((strOfNums l).toList == ([255] : List UInt8)) = false := beq_eq_false_iff_ne.2 e
      rw [this, Bool.false_or]
  have hv : clavigerref18_Unbool.f (strOfNums l) = some ((strOfNums l).toList == ([255] : List UInt8), ((strOfNums l).toList == ([255] : List UInt8)) || ((strOfNums l).toList == ([0] : List UInt8))) := by
    unfold clavigerref18_Unbool.f
    by_cases e : (strOfNums l).toList = ([255] : List UInt8)
    · rw [if_pos e, e]; rfl
    · rw [if_neg e]
      have : ((strOfNums l).toList == ([255] : List UInt8)) = false := beq_eq_false_iff_ne.2 e
      rw [this, Bool.false_or]
  refine Ev.bindc hu ?_
  refine Ev.bindc hv ?_
  refine Ev.ifp rfl ?_
  refine Ev.ifp (by simp) ?_
  refine Ev.ifp rfl ?_
  refine Ev.ifp rfl ?_
  refine Ev.ifp (by simp) ?_
  refine Ev.ifp (by simp) ?_
  refine Ev.ifp (by simp) ?_
  refine Ev.bindc (a := if a2 = true then (⟨#[255]⟩ : ByteArray) else ⟨#[0]⟩) (by cases a2 <;> rfl) ?_
  refine Ev.bindc (a := if a2 = true then (⟨#[255]⟩ : ByteArray) else ⟨#[0]⟩) (by cases a2 <;> rfl) ?_
  refine Ev.ifp rfl ?_
  refine Ev.bindc (utf_is _ (by omega)) ?_
  refine Ev.bind (ref_utf_is _ (by omega)) ?_
  refine Ev.ifp (by simp) ?_
  refine Ev.bindc (printable_is _) ?_
  refine Ev.bind (ref_pr_is _ (by omega)) ?_
  refine Ev.ifp (by simp) ?_
  exact Ev.bind awake18 (Ev.now _)
end Go.Proofs.YtlocmcemfjfhiaaDoor.Pure
