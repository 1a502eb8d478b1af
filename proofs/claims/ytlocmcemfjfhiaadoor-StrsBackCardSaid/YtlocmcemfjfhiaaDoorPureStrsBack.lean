/- what was written is read, what is read is written so again; texts one behind the other are texts. -/
import Derived.Test.YtlocmcemfjfhiaaDoorPStrsBackx
namespace Go.Proofs.YtlocmcemfjfhiaaDoor.Pure
open Go.RowKit Go.Proofs.YtlocmcemfjfhiaaDoor.PStrsBack Go.Proofs.YtlocmcemfjfhiaaDoorW.PrintWords Go.Proofs.YtlocmcemfjfhiaaDoorW.PrintLast
set_option linter.unusedVariables false
set_option linter.unusedSimpArgs false
/-- The number of bytes. -/
def getN (l : List Int) : Int := l.foldl (fun n b => n * 256 + b) 0
theorem getN_snoc (l : List Int) (x : Int) : getN (l ++ [x]) = getN l * 256 + x := by simp [getN]
theorem getN_take {l : List Int} (i : Nat) (h : i < l.length) : getN (l.take (i + 1)) = getN (l.take i) * 256 + l[i] := by
  rw [List.take_succ_eq_append_getElem h, getN_snoc]
theorem getN_bd (n : Nat) : ∀ l : List Int, OkB l → l.length ≤ n → 0 ≤ getN l ∧ getN l < 256 ^ n := by
  induction n with
  | zero => intro l h hn; obtain rfl := List.eq_nil_of_length_eq_zero (Nat.le_zero.1 hn); simp [getN]
  | succ n ih =>
    intro l h hn
    have hp : (0 : Int) < 256 ^ n := Int.pow_pos (by decide)
    by_cases e : l = []
    · subst e
      rw [Int.pow_succ]
      simp only [getN, List.foldl_nil]
      omega
    · obtain ⟨m, x, rfl⟩ : ∃ m x, l = m ++ [x] := ⟨l.dropLast, l.getLast e, (List.dropLast_concat_getLast e).symm⟩
      have h1 := ih m (fun y hy => h y (List.mem_append_left _ hy)) (by simp at hn; omega)
      have h2 := h x (by simp)
      rw [getN_snoc, Int.pow_succ]
      omega
theorem getN_lt7 (l : List Int) (h : OkB l) (hn : l.length ≤ 7) : 0 ≤ getN l ∧ getN l < 72057594037927936 := getN_bd 7 l h hn
theorem putNums_ok (n : Int) : OkB (putNums n) := by
  intro x hx
  simp only [putNums, List.mem_cons, List.not_mem_nil, or_false] at hx
  omega
/-- The low bytes of a number. -/
def lowB (n : Int) : Nat → List Int
  | 0 => []
  | w + 1 => (n / 256 ^ w % 256) :: lowB n w
theorem lowB_ok (n : Int) (w : Nat) : OkB (lowB n w) := by
  induction w with
  | zero => exact OkB.nil
  | succ w ih => exact OkB.cons (by omega) (by omega) ih
theorem lowB_length (n : Int) (w : Nat) : (lowB n w).length = w := by
  induction w with
  | zero => rfl
  | succ w ih => simp [lowB, ih]
theorem putNums_drop (n : Int) (w : Nat) (h : w ≤ 8) : (putNums n).drop (8 - w) = lowB n w := by
  have : w = 0 ∨ w = 1 ∨ w = 2 ∨ w = 3 ∨ w = 4 ∨ w = 5 ∨ w = 6 ∨ w = 7 ∨ w = 8 := by omega
  rcases this with rfl | rfl | rfl | rfl | rfl | rfl | rfl | rfl | rfl <;> simp [putNums, lowB]
theorem octets_Put_eq (n : Int) (w : Int) : octets_Put.f n w = some (strOfNums (if 1 ≤ w ∧ w ≤ 8 then lowB n w.toNat else [])) := by
  unfold octets_Put.f
  by_cases h1 : w < 1
  · rw [if_pos h1, if_neg (by omega)]; rfl
  · by_cases h2 : w > 8
    · rw [if_neg h1, if_pos h2, if_neg (by omega)]; rfl
    · rw [if_neg h1, if_neg h2, if_pos (by omega), putNums_drop n w.toNat (by omega)]
/-- Are these the shortest contents? -/
def rightL : List Int → Bool
  | [] => false
  | [_] => true
  | x :: y :: _ => !(decide (x = 0) && decide (y < 128)) && !(decide (x = 255) && decide (128 ≤ y))
theorem rightL_cons2 (x y : Int) (r : List Int) : rightL (x :: y :: r) = (!(decide (x = 0) && decide (y < 128)) && !(decide (x = 255) && decide (128 ≤ y))) := rfl
theorem or_i64_nat (i : Nat) {x y : Int} (hx0 : 0 ≤ x) (hx : x % 2 ^ i = 0) (hx1 : x < 9223372036854775808) (hy0 : 0 ≤ y) (hy : y < 2 ^ i) (hi : i ≤ 63) : Go.bits .or .i64 x y = x + y := by
  refine bits_join .i64 63 (by decide) (fun n h0 h1 => by rw [IntKind.wrap_i64]; omega) i x y hx0 hx (by simpa using hx1) hy0 hy ?_
  have : (2 : Int) ^ i ≤ 2 ^ 63 := by exact_mod_cast Nat.pow_le_pow_right (by decide) hi
  omega
theorem whole_Right_eq (l : List Int) (hl : OkB l) : whole_Right.f (strOfNums l) = some (rightL l) := by
  unfold whole_Right.f
  rw [nums_sizeI]
  match l, hl with
  | [], _ => rw [if_pos ((nums_toList_nil []).2 rfl)]; rfl
  | [x], _ => rw [if_neg (by rw [nums_toList_nil]; simp), if_pos (by simp)]; rfl
  | x :: y :: r, hl =>
    have h0 := hl.head
    have h1 := hl.tail.head
    have e0 : bt (strOfNums (x :: y :: r)) 0 = x := nums_bt hl 0 (by simp)
    have e1 : bt (strOfNums (x :: y :: r)) 1 = y := nums_bt hl 1 (by simp)
    rw [e0, e1, if_neg (by rw [nums_toList_nil]; simp), if_neg (by simp; omega), if_pos (by simp; omega), if_pos (by simp; omega), w64 (x := x) (by omega) (by omega), w64 (by omega) (by omega), w64 (by omega) (by omega), or_i64_nat 1 (by omega) (by omega) (by omega) (by omega) (by omega) (by decide)]
    rw [rightL_cons2]
    by_cases c : x * 2 + y / 128 = 0
    · rw [if_pos c, decide_eq_true (by omega : x = 0), decide_eq_true (by omega : y < 128)]; rfl
    · rw [if_neg c]
      congr 1
      have h3 : (decide (x = 0) && decide (y < 128)) = false := by
        rw [← Bool.not_eq_true, Bool.and_eq_true, decide_eq_true_iff, decide_eq_true_iff]; omega
      rw [h3]
      by_cases d : x * 2 + y / 128 = 511
      · rw [d, decide_eq_true (by omega : x = 255), decide_eq_true (by omega : 128 ≤ y)]; rfl
      · have h4 : (decide (x = 255) && decide (128 ≤ y)) = false := by
          rw [← Bool.not_eq_true, Bool.and_eq_true, decide_eq_true_iff, decide_eq_true_iff]; omega
        rw [h4]
        simpa using d
def okBits (b : Int) (m : List Int) : Bool := decide (0 ≤ b ∧ b ≤ 7 ∧ (m = [] → b = 0) ∧ m.getLastD 0 % 2 ^ b.toNat = 0)
def unb : List Int → ByteArray × Int × Bool
  | [] => (⟨#[]⟩, 0, false)
  | b :: m => if okBits b m = true then (strOfNums m, b, true) else (⟨#[]⟩, 0, false)
theorem mask_all : ((List.range 8).all fun b => (List.range 256).all fun x => decide (Go.bits .and .u8 (x : Int) (((shl .u8 1 (b : Int)) - 1) % 256) = 0) == decide ((x : Int) % 2 ^ b = 0)) = true := by kernel_rfl
theorem mask_is {b x : Int} (hb0 : 0 ≤ b) (hb : b ≤ 7) (hx0 : 0 ≤ x) (hx : x < 256) : Go.bits .and .u8 x (((shl .u8 1 b) - 1) % 256) = 0 ↔ x % 2 ^ b.toNat = 0 := by
  have h := List.all_eq_true.1 (List.all_eq_true.1 mask_all b.toNat (List.mem_range.2 (by omega))) x.toNat (List.mem_range.2 (by omega))
  rw [Int.toNat_of_nonneg hb0, Int.toNat_of_nonneg hx0] at h
  exact decide_eq_decide.1 (eq_of_beq h)
theorem unb_j0_no (a : ByteArray) : Ev (fun k => strs_Unbits.j0 k a true) (⟨#[]⟩, 0, false) := by
  refine Ev.step (fun k => by rw [strs_Unbits.j0]) ?_
  exact Ev.ifp rfl (Ev.now _)
theorem unb_j0 (b : Int) (m : List Int) (hl : OkB (b :: m)) (hs : m.length ≤ 140737488355328) (hb : b ≤ 7) (hm : m = [] → b = 0) : Ev (fun k => strs_Unbits.j0 k (strOfNums (b :: m)) false) (unb (b :: m)) := by
  have hbd := hl.head
  refine Ev.step (fun k => by rw [strs_Unbits.j0]) ?_
  refine Ev.ifn (by simp) ?_
  rw [show wrap64 (((strOfNums (b :: m)).size : Int) - 1) = (m.length : Int) from by rw [nums_size, w64 (by simp) (by simp <;> omega)]; simp]
  rw [show bt (strOfNums (b :: m)) 0 = b from nums_bt hl 0 (by simp), nums_sizeI]
  refine Ev.ifp (by omega) ?_
  refine Ev.ifp (by simp <;> omega) ?_
  refine Ev.ifp (by simp <;> omega) ?_
  refine Ev.ifp hbd.1 ?_
  have hx : (strOfNums (b :: m)).extract 1 (strOfNums (b :: m)).size = strOfNums m := by
    rw [str_extract, nums_size]
    simp
  rw [hx, w64 (x := b) (by omega) (by omega)]
  by_cases h : m = []
  · subst h
    obtain rfl := hm rfl
    rw [show bt (strOfNums [0]) (([] : List Int).length : Int) = 0 from nums_bt hl 0 (by simp)]
    refine Ev.ifp ((mask_is (by decide) (by decide) (by decide) (by decide)).2 (by decide)) ?_
    refine Ev.ifp (by simp) ?_
    exact (Ev.now _).eq (by simp [unb, okBits])
  · obtain ⟨i, x, rfl⟩ : ∃ i x, m = i ++ [x] := ⟨m.dropLast, m.getLast h, (List.dropLast_concat_getLast h).symm⟩
    have hxo := hl x (by simp)
    have hg : bt (strOfNums (b :: (i ++ [x]))) ((i ++ [x]).length : Int) = x := by
      rw [nums_bt hl (i ++ [x]).length (by simp)]
      simp
    rw [hg]
    by_cases hz : x % 2 ^ b.toNat = 0
    · refine Ev.ifp ((mask_is hbd.1 hb hxo.1 hxo.2).2 hz) ?_
      refine Ev.ifp (by simp <;> omega) ?_
      refine (Ev.now _).eq ?_
      rw [unb, if_pos]
      simp [okBits, hbd.1, hb, hz]
    · refine Ev.ifn (fun e => hz ((mask_is hbd.1 hb hxo.1 hxo.2).1 e)) ?_
      refine Ev.ifp (by simp <;> omega) ?_
      refine (Ev.now _).eq ?_
      rw [unb, if_neg]
      simp [okBits, hz]
theorem unbits_is (l : List Int) (hl : OkB l) (hs : l.length ≤ 140737488355328) : Ev (fun k => strs_Unbits.f k (strOfNums l)) (unb l) := by
  refine Ev.congr (fun k => by rw [strs_Unbits.f]) ?_
  cases l with
  | nil => exact Ev.ifp ((nums_toList_nil _).2 rfl) (unb_j0_no _)
  | cons b m =>
    have hbd := hl.head
    refine Ev.ifn (fun e => by have := (nums_toList_nil _).1 e; cases this) ?_
    refine Ev.ifp (by rw [nums_sizeI]; simp <;> omega) ?_
    rw [show bt (strOfNums (b :: m)) 0 = b from nums_bt hl 0 (by simp)]
    simp only [List.length_cons] at hs
    by_cases h7 : b > 7
    · refine Ev.ifp h7 ?_
      refine (unb_j0_no _).eq ?_
      rw [unb, if_neg]
      simp only [okBits, decide_eq_true_eq]
      omega
    refine Ev.ifn h7 ?_
    by_cases h0 : b > 0
    · refine Ev.ifp h0 ?_
      by_cases hm : m = []
      · subst hm
        rw [show (((strOfNums [b]).size : Int) == 1) = true from by rw [nums_sizeI]; rfl]
        refine (unb_j0_no _).eq ?_
        rw [unb, if_neg]
        intro hh
        have hh := of_decide_eq_true hh
        have := hh.2.2.1 rfl
        omega
      · rw [show (((strOfNums (b :: m)).size : Int) == 1) = false from by
          rw [nums_sizeI]
          have : m.length ≠ 0 := fun e => hm (List.eq_nil_of_length_eq_zero e)
          exact beq_eq_false_iff_ne.2 (by simp <;> omega)]
        exact unb_j0 b m hl (by omega) (by omega) (fun e => absurd e hm)
    · refine Ev.ifn h0 ?_
      exact unb_j0 b m hl (by omega) (by omega) (fun _ => by omega)
def bitsN (m : List Int) (a : Int) : ByteArray × Bool := if okBits a m = true then (strOfNums (a :: m), true) else (⟨#[]⟩, false)
theorem bits_is (m : List Int) (hm : OkB m) (hs : m.length < 140737488355328) (a : Int) (ha : -9223372036854775808 ≤ a ∧ a ≤ 9223372036854775807) : Ev (fun k => strs_Bits.f k (strOfNums m) a) (bitsN m a) := by
  refine Ev.congr (fun k => by rw [strs_Bits.f]) ?_
  have hp : octets_Put.f (IntKind.u64.wrap a) 1 = some (strOfNums [a % 256]) := by
    rw [octets_Put_eq, wu64_mod]
    rw [if_pos (by decide)]
    congr 2
    simp only [lowB, show (1 : Int).toNat = 1 from rfl]
    simp <;> omega
  refine Ev.bindc hp ?_
  rw [str_append, List.singleton_append]
  have hok : OkB (a % 256 :: m) := OkB.cons (by omega) (by omega) hm
  refine Ev.ifp (by rw [nums_size, nums_size]; simp <;> omega) ?_
  refine Ev.bind (unbits_is _ hok (by simp <;> omega)) ?_
  by_cases h : okBits (a % 256) m = true
  · rw [unb, if_pos h]
    refine Ev.ifp rfl ?_
    by_cases e : a % 256 = a
    · refine Ev.ifp e ?_
      rw [e]
      rw [e] at h
      exact (Ev.now _).eq (by rw [bitsN, if_pos h])
    · refine Ev.ifn e ?_
      refine (Ev.now _).eq ?_
      rw [bitsN, if_neg]
      simp only [okBits, decide_eq_true_eq]
      omega
  · rw [unb, if_neg h]
    refine Ev.ifn (by simp) ?_
    refine (Ev.now _).eq ?_
    rw [bitsN, if_neg]
    intro h2
    apply h
    have : a % 256 = a := by
      simp only [okBits, decide_eq_true_eq] at h2
      omega
    rw [this]
    exact h2
/-- The first character's bytes; 0: it is none. -/
def ptN (n b0 b1 b2 b3 : Nat) : Nat :=
  if b0 < 128 then 1
  else if 192 ≤ b0 ∧ b0 < 224 then (if 2 ≤ n ∧ 128 ≤ b1 ∧ b1 ≤ 191 ∧ 128 ≤ (b0 - 192) * 64 + (b1 - 128) then 2 else 0)
  else if 224 ≤ b0 ∧ b0 < 240 then (if 3 ≤ n ∧ 128 ≤ b1 ∧ b1 ≤ 191 ∧ 128 ≤ b2 ∧ b2 ≤ 191 ∧ 2048 ≤ ((b0 - 224) * 64 + (b1 - 128)) * 64 + (b2 - 128) ∧ ¬ (55295 < ((b0 - 224) * 64 + (b1 - 128)) * 64 + (b2 - 128) ∧ ((b0 - 224) * 64 + (b1 - 128)) * 64 + (b2 - 128) < 57344) then 3 else 0)
  else if 240 ≤ b0 ∧ b0 < 248 then (if 4 ≤ n ∧ 128 ≤ b1 ∧ b1 ≤ 191 ∧ 128 ≤ b2 ∧ b2 ≤ 191 ∧ 128 ≤ b3 ∧ b3 ≤ 191 ∧ 65536 ≤ (((b0 - 240) * 64 + (b1 - 128)) * 64 + (b2 - 128)) * 64 + (b3 - 128) ∧ (((b0 - 240) * 64 + (b1 - 128)) * 64 + (b2 - 128)) * 64 + (b3 - 128) ≤ 1114111 then 4 else 0)
  else 0
theorem decode_pt (n b0 b1 b2 b3 : Nat) (h0 : b0 < 256) (h1 : b1 < 256) (h2 : b2 < 256) (h3 : b3 < 256) :
    if ptN n b0 b1 b2 b3 = 0 then Lib.decodeN n b0 b1 b2 b3 = (65533, 1) else ((Lib.decodeN n b0 b1 b2 b3).2 = ptN n b0 b1 b2 b3 ∧ ¬ ((Lib.decodeN n b0 b1 b2 b3).1 = 65533 ∧ (Lib.decodeN n b0 b1 b2 b3).2 = 1)) := by
  unfold Lib.decodeN ptN
  by_cases c0 : b0 < 128
  · simp [c0]
    omega
  by_cases c1 : b0 < 192
  · have e1 : ¬ (b0 / 32 = 6) := by omega
    have e2 : ¬ (b0 / 16 = 14) := by omega
    have e3 : ¬ (b0 / 8 = 30) := by omega
    have f1 : ¬ (192 ≤ b0 ∧ b0 < 224) := by omega
    have f2 : ¬ (224 ≤ b0 ∧ b0 < 240) := by omega
    have f3 : ¬ (240 ≤ b0 ∧ b0 < 248) := by omega
    simp [c0, e1, e2, e3, f1, f2, f3]
  by_cases c2 : b0 < 224
  · have e1 : b0 / 32 = 6 := by omega
    have e2 : ¬ (b0 / 16 = 14) := by omega
    have e3 : ¬ (b0 / 8 = 30) := by omega
    have f1 : 192 ≤ b0 ∧ b0 < 224 := by omega
    simp only [c0, e1, e2, e3, f1, if_false, true_and, false_and, if_true, and_self]
    repeat' split
    all_goals first | omega | (simp <;> omega) | simp
  by_cases c3 : b0 < 240
  · have e1 : ¬ (b0 / 32 = 6) := by omega
    have e2 : b0 / 16 = 14 := by omega
    have e3 : ¬ (b0 / 8 = 30) := by omega
    have f1 : ¬ (192 ≤ b0 ∧ b0 < 224) := by omega
    have f2 : 224 ≤ b0 ∧ b0 < 240 := by omega
    simp only [c0, e1, e2, e3, f1, f2, if_false, true_and, false_and, if_true, and_self]
    repeat' split
    all_goals first | omega | (simp <;> omega) | simp
  by_cases c4 : b0 < 248
  · have e1 : ¬ (b0 / 32 = 6) := by omega
    have e2 : ¬ (b0 / 16 = 14) := by omega
    have e3 : b0 / 8 = 30 := by omega
    have f1 : ¬ (192 ≤ b0 ∧ b0 < 224) := by omega
    have f2 : ¬ (224 ≤ b0 ∧ b0 < 240) := by omega
    have f3 : 240 ≤ b0 ∧ b0 < 248 := by omega
    simp only [c0, e1, e2, e3, f1, f2, f3, if_false, true_and, false_and, if_true, and_self]
    repeat' split
    all_goals first | omega | (simp <;> omega) | simp
  · have e1 : ¬ (b0 / 32 = 6) := by omega
    have e2 : ¬ (b0 / 16 = 14) := by omega
    have e3 : ¬ (b0 / 8 = 30) := by omega
    have f1 : ¬ (192 ≤ b0 ∧ b0 < 224) := by omega
    have f2 : ¬ (224 ≤ b0 ∧ b0 < 240) := by omega
    have f3 : ¬ (240 ≤ b0 ∧ b0 < 248) := by omega
    simp [c0, e1, e2, e3, f1, f2, f3]
def ptL (l : List UInt8) : Nat := ptN l.length (l.getD 0 0).toNat (l.getD 1 0).toNat (l.getD 2 0).toNat (l.getD 3 0).toNat
theorem u8_lt (x : UInt8) : x.toNat < 256 := x.toNat_lt
theorem decode_ptL (l : List UInt8) : if ptL l = 0 then Lib.decodeL l = (65533, 1) else ((Lib.decodeL l).2 = ptL l ∧ ¬ ((Lib.decodeL l).1 = 65533 ∧ (Lib.decodeL l).2 = 1)) := by
  rw [Lib.decodeL_N]
  exact decode_pt _ _ _ _ _ (u8_lt _) (u8_lt _) (u8_lt _) (u8_lt _)
theorem ptL_le (l : List UInt8) (h : l ≠ []) : ptL l ≤ l.length := by
  have h0 : 1 ≤ l.length := by cases l with | nil => exact absurd rfl h | cons => simp
  unfold ptL ptN
  repeat' split
  all_goals omega
theorem valid_step (n : Nat) (l : List UInt8) : Lib.validGoD (n + 1) l = if l = [] then true else if ptL l = 0 then false else Lib.validGoD n (l.drop (ptL l)) := by
  have h := decode_ptL l
  rw [Lib.validGoD]
  by_cases hn : l = []
  · rw [if_pos hn, if_pos hn]
  · rw [if_neg hn, if_neg hn]
    by_cases hp : ptL l = 0
    · rw [if_pos hp] at h
      rw [if_pos hp, h]
      rfl
    · rw [if_neg hp] at h
      rw [if_neg hp, if_neg h.2, h.1]
theorem valid_fuel : ∀ (n m : Nat) (l : List UInt8), l.length ≤ n → l.length ≤ m → Lib.validGoD n l = Lib.validGoD m l := by
  intro n
  induction n with
  | zero =>
    intro m l h _
    obtain rfl := List.eq_nil_of_length_eq_zero (Nat.le_zero.1 h)
    cases m with
    | zero => rfl
    | succ m => rw [valid_step, if_pos rfl]; rfl
  | succ n ih =>
    intro m l h hm
    by_cases hn : l = []
    · subst hn
      rw [valid_step, if_pos rfl]
      cases m with
      | zero => rfl
      | succ m => rw [valid_step, if_pos rfl]
    · have h0 : 1 ≤ l.length := by cases l with | nil => exact absurd rfl hn | cons => simp
      obtain ⟨m, rfl⟩ : ∃ q, m = q + 1 := ⟨m - 1, by omega⟩
      rw [valid_step, valid_step, if_neg hn, if_neg hn]
      by_cases hp : ptL l = 0
      · rw [if_pos hp, if_pos hp]
      · rw [if_neg hp, if_neg hp]
        exact ih m _ (by rw [List.length_drop]; omega) (by rw [List.length_drop]; omega)
theorem getD_app (l t : List UInt8) (i : Nat) (h : i < l.length) : (l ++ t).getD i 0 = l.getD i 0 := by
  simp [List.getD, List.getElem?_append_left h]
theorem ptN_more (n n' b0 b1 b2 b3 c1 c2 c3 : Nat) (hn : n ≤ n') (h1 : 1 < n → c1 = b1) (h2 : 2 < n → c2 = b2) (h3 : 3 < n → c3 = b3) (hp : ptN n b0 b1 b2 b3 ≠ 0) : ptN n' b0 c1 c2 c3 = ptN n b0 b1 b2 b3 := by
  unfold ptN at hp ⊢
  by_cases k0 : b0 < 128
  · simp only [if_pos k0]
  rw [if_neg k0] at hp ⊢
  rw [if_neg k0]
  by_cases k1 : 192 ≤ b0 ∧ b0 < 224
  · rw [if_pos k1] at hp ⊢
    rw [if_pos k1]
    split at hp
    · rename_i h
      rw [if_pos h, h1 (by omega), if_pos (by omega)]
    · exact absurd rfl hp
  rw [if_neg k1] at hp ⊢
  rw [if_neg k1]
  by_cases k2 : 224 ≤ b0 ∧ b0 < 240
  · rw [if_pos k2] at hp ⊢
    rw [if_pos k2]
    split at hp
    · rename_i h
      rw [if_pos h, h1 (by omega), h2 (by omega), if_pos (by omega)]
    · exact absurd rfl hp
  rw [if_neg k2] at hp ⊢
  rw [if_neg k2]
  by_cases k3 : 240 ≤ b0 ∧ b0 < 248
  · rw [if_pos k3] at hp ⊢
    rw [if_pos k3]
    split at hp
    · rename_i h
      rw [if_pos h, h1 (by omega), h2 (by omega), h3 (by omega), if_pos (by omega)]
    · exact absurd rfl hp
  · rw [if_neg k3] at hp
    exact absurd rfl hp
theorem ptL_app (l t : List UInt8) (hn : l ≠ []) (hp : ptL l ≠ 0) : ptL (l ++ t) = ptL l := by
  have h0 : 0 < l.length := by cases l with | nil => exact absurd rfl hn | cons => simp
  unfold ptL
  rw [getD_app l t 0 h0]
  exact ptN_more _ _ _ _ _ _ _ _ _ (by simp) (fun h => by rw [getD_app l t 1 h]) (fun h => by rw [getD_app l t 2 h]) (fun h => by rw [getD_app l t 3 h]) hp
theorem valid_app : ∀ (n : Nat) (l t : List UInt8), l.length ≤ n → Lib.validGoD n l = true → Lib.validGoD (n + t.length) (l ++ t) = Lib.validGoD t.length t := by
  intro n
  induction n with
  | zero =>
    intro l t h _
    obtain rfl := List.eq_nil_of_length_eq_zero (Nat.le_zero.1 h)
    rw [Nat.zero_add, List.nil_append]
  | succ n ih =>
    intro l t h hv
    by_cases hn : l = []
    · subst hn
      exact valid_fuel _ _ _ (by simp) (by simp)
    · have h0 : 0 < l.length := by cases l with | nil => exact absurd rfl hn | cons => simp
      rw [valid_step, if_neg hn] at hv
      by_cases hp : ptL l = 0
      · rw [if_pos hp] at hv; cases hv
      · rw [if_neg hp] at hv
        rw [show n + 1 + t.length = (n + t.length) + 1 by omega, valid_step, if_neg (by simp [hn]), ptL_app l t hn hp, if_neg hp, List.drop_append_of_le_length (ptL_le l hn)]
        exact ih _ t (by rw [List.length_drop]; omega) hv
theorem validD_app (l t : List UInt8) (h : Lib.validD l = true) : Lib.validD (l ++ t) = Lib.validD t := by
  unfold Lib.validD at *
  rw [List.length_append]
  exact valid_app _ l t (Nat.le_refl _) h
/-- A byte that may be. -/
def prB (b : UInt8) : Bool := decide (b.toNat < 128) && !noneR b.toNat
theorem noneR_far (x : Nat) (h : 128 ≤ x) : noneR x = true := by
  have hi : strings_IndexRune.f (⟨#[32, 39, 40, 41, 43, 44, 45, 46, 47, 58, 61, 63]⟩ : ByteArray) (x : Int) = some (-1) := by
    unfold strings_IndexRune.f
    rw [if_neg (by omega), if_pos ⟨rfl, by omega⟩]
  have hc : strings_ContainsRune.f (⟨#[32, 39, 40, 41, 43, 44, 45, 46, 47, 58, 61, 63]⟩ : ByteArray) (x : Int) = some false := by
    unfold strings_ContainsRune.f
    rw [hi]
    rfl
  unfold noneR
  have h1 : (decide ((x : Int) ≤ 90)) = false := decide_eq_false (by omega)
  have h2 : (decide ((x : Int) ≤ 122)) = false := decide_eq_false (by omega)
  have h3 : (x : Int) ≥ 65 := by omega
  have h4 : (x : Int) ≥ 97 := by omega
  have h5 : (x : Int) ≥ 48 := by omega
  have h6 : ¬ (x : Int) ≤ 57 := by omega
  simp only [strs_Printable_1.f, strs_Printable_1.j0, strs_Printable_1.j1, hc, h1, h2, h3, h4, h5, h6, if_true, if_false, Bool.false_eq_true, Option.bind_some]
  rfl
theorem decodeN_high (n b0 b1 b2 b3 : Nat) (h : 128 ≤ b0) : 128 ≤ (Lib.decodeN n b0 b1 b2 b3).1 := by
  unfold Lib.decodeN
  repeat' split
  all_goals first | omega | (simp <;> omega)
theorem prB_no {b : UInt8} (h : noneR b.toNat = true) : prB b = false := by simp [prB, h]
theorem prB_far {b : UInt8} (h : ¬ b.toNat < 128) : prB b = false := by simp [prB, h]
theorem prB_yes {b : UInt8} (h1 : b.toNat < 128) (h : ¬ noneR b.toNat = true) : prB b = true := by simp [prB, h, h1]
theorem idx_from (s : ByteArray) : ∀ (f pos : Nat), s.size - pos ≤ f → (decide (0 ≤ Lib.idxFuncFrom noneR true s f pos)) = !(s.data.toList.drop pos).all prB := by
  intro f
  have hlen : s.data.toList.length = s.size := Array.length_toList
  induction f with
  | zero =>
    intro pos h
    rw [List.drop_eq_nil_of_le (by omega)]
    rfl
  | succ f ih =>
    intro pos h
    rw [Lib.idxFuncFrom]
    by_cases hp : pos < s.size
    · rw [if_pos hp]
      have hlt : pos < s.data.toList.length := by omega
      have hd : s.data.toList.drop pos = s.data.toList[pos] :: s.data.toList.drop (pos + 1) := List.drop_eq_getElem_cons hlt
      rw [hd, List.all_cons, ← Lib.decodeL_drop, hd, Lib.decodeL_N]
      simp only [List.getD_cons_zero]
      by_cases h128 : (s.data.toList[pos]).toNat < 128
      · rw [Lib.decodeN_ascii _ _ _ _ _ h128]
        simp only
        by_cases hn : noneR (s.data.toList[pos]).toNat = true
        · rw [if_pos hn]
          have : prB s.data.toList[pos] = false := prB_no hn
          rw [this]
          simp
        · rw [if_neg hn, ih (pos + 1) (by omega)]
          have : prB s.data.toList[pos] = true := prB_yes h128 hn
          rw [this, Bool.true_and]
      · have hh := decodeN_high (List.length (s.data.toList[pos] :: s.data.toList.drop (pos + 1))) (s.data.toList[pos]).toNat
        rw [if_pos (noneR_far _ (hh _ _ _ (by omega)))]
        have : prB s.data.toList[pos] = false := prB_far h128
        rw [this]
        simp
    · rw [if_neg hp, List.drop_eq_nil_of_le (by omega)]
      rfl
theorem printable_is (a : ByteArray) : strs_Printable.f a = some (a.data.toList.all prB) := by
  unfold strs_Printable.f Lib.idxFunc
  rw [idx_from a a.size 0 (by omega)]
  simp
theorem awake18 : Ev (fun k => clavigerlaw18_awake.f k) true := Ev.of clavigerlaw18_awake.mono (k := 40) (by kernel_rfl)
theorem utf_is (a : ByteArray) (h : a.size ≤ 9223372036854775807) : strs_Utf.f a = some (Lib.validD a.data.toList) := by
  unfold strs_Utf.f utf8_ValidString.f
  rw [if_pos h]
  rfl
theorem back_j3 (a b : ByteArray) (ha : a.size ≤ 200) (hb : b.size ≤ 200) : Ev (fun k => clavigerlaw18_StrsBack.j3 k a b) true := by
  have hab : (a ++ b).size = a.size + b.size := by simp
  refine Ev.step (fun k => by rw [clavigerlaw18_StrsBack.j3]) ?_
  refine Ev.bindc (utf_is a (by omega)) ?_
  by_cases hv : Lib.validD a.data.toList = true
  · refine Ev.ifp hv ?_
    refine Ev.ifp (by omega) ?_
    refine Ev.bindc (utf_is _ (by omega)) ?_
    refine Ev.bindc (utf_is b (by omega)) ?_
    rw [str_data_append, validD_app _ _ hv]
    refine Ev.ifp (by simp) ?_
    refine Ev.bindc (printable_is _) ?_
    refine Ev.bindc (printable_is a) ?_
    rw [str_data_append, List.all_append]
    by_cases hp : a.data.toList.all prB = true
    · refine Ev.ifp hp ?_
      refine Ev.bindc (printable_is b) ?_
      rw [hp, Bool.true_and]
      refine Ev.ifp (by simp) ?_
      exact Ev.bind awake18 (Ev.now _)
    · refine Ev.ifn hp ?_
      rw [Bool.not_eq_true] at hp
      rw [hp, Bool.false_and]
      refine Ev.ifp (by decide) ?_
      exact Ev.bind awake18 (Ev.now _)
  · refine Ev.ifn hv ?_
    refine Ev.ifp (by omega) ?_
    refine Ev.bindc (printable_is _) ?_
    refine Ev.bindc (printable_is a) ?_
    rw [str_data_append, List.all_append]
    by_cases hp : a.data.toList.all prB = true
    · refine Ev.ifp hp ?_
      refine Ev.bindc (printable_is b) ?_
      rw [hp, Bool.true_and]
      refine Ev.ifp (by simp) ?_
      exact Ev.bind awake18 (Ev.now _)
    · refine Ev.ifn hp ?_
      rw [Bool.not_eq_true] at hp
      rw [hp, Bool.false_and]
      refine Ev.ifp (by decide) ?_
      exact Ev.bind awake18 (Ev.now _)
theorem back_j2 (l : List Int) (hl : OkB l) (b : ByteArray) (ha : l.length ≤ 200) (hb : b.size ≤ 200) : Ev (fun k => clavigerlaw18_StrsBack.j2 k (strOfNums l) b) true := by
  have h3 := back_j3 (strOfNums l) b (by rw [nums_size]; exact ha) hb
  refine Ev.step (fun k => by rw [clavigerlaw18_StrsBack.j2]) ?_
  refine Ev.bind (unbits_is l hl (by omega)) ?_
  cases l with
  | nil => exact Ev.ifn (by simp [unb]) h3
  | cons x m =>
    simp only [List.length_cons] at ha
    by_cases hk : okBits x m = true
    · rw [unb, if_pos hk]
      refine Ev.ifp rfl ?_
      refine Ev.bind (bits_is m hl.tail (by omega) x (by have := hl.head; omega)) ?_
      rw [bitsN, if_pos hk]
      refine Ev.ifp rfl ?_
      exact Ev.ifp rfl h3
    · rw [unb, if_neg hk]
      exact Ev.ifn (by simp) h3
theorem back_j1 (l : List Int) (hl : OkB l) (b : ByteArray) (n : Int) (hn : -9223372036854775808 ≤ n ∧ n ≤ 9223372036854775807) (ha : l.length ≤ 200) (hb : b.size ≤ 200) : Ev (fun k => clavigerlaw18_StrsBack.j1 k (strOfNums l) b n false) true := by
  have h2 := back_j2 l hl b ha hb
  refine Ev.step (fun k => by rw [clavigerlaw18_StrsBack.j1]) ?_
  refine Ev.ifn (by simp) ?_
  refine Ev.bind (bits_is l hl (by omega) n hn) ?_
  by_cases hk : okBits n l = true
  · rw [bitsN, if_pos hk]
    refine Ev.ifp rfl ?_
    have ho : OkB (n :: l) := by
      have := of_decide_eq_true hk
      exact OkB.cons this.1 (by omega) hl
    refine Ev.bind (unbits_is (n :: l) ho (by simp <;> omega)) ?_
    rw [unb, if_pos hk]
    refine Ev.ifp rfl ?_
    refine Ev.ifp rfl ?_
    exact Ev.ifp rfl h2
  · rw [bitsN, if_neg hk]
    exact Ev.ifn (by simp) h2
theorem StrsBack : clavigerlaw18_StrsBack.Pure := by
  intro a0 a1 a2 a3 _ _ h2
  obtain ⟨l, hl, rfl⟩ := str_nums a0
  have hn := lit_i64 h2
  refine Ev.rounds (g := fun k => clavigerlaw18_StrsBack.f k (strOfNums l) a1 a2 a3) ?_
  have hbig : Ev (fun k => clavigerlaw18_StrsBack.j0 k (strOfNums l) a1 a2 a3 true) true := by
    refine Ev.step (fun k => by rw [clavigerlaw18_StrsBack.j0]) ?_
    exact Ev.ifp rfl (Ev.bind awake18 (Ev.now _))
  refine Ev.congr (fun k => by rw [clavigerlaw18_StrsBack.f]) ?_
  by_cases ha : ((strOfNums l).size : Int) > 200
  · exact Ev.ifp ha hbig
  refine Ev.ifn ha ?_
  by_cases hb : (a1.size : Int) > 200
  · rw [decide_eq_true hb]; exact hbig
  rw [decide_eq_false hb]
  rw [nums_sizeI] at ha
  refine Ev.step (fun k => by rw [clavigerlaw18_StrsBack.j0]) ?_
  refine Ev.ifn (by simp) ?_
  refine Ev.bindc (a := if a3 = true then (⟨#[255]⟩ : ByteArray) else ⟨#[0]⟩) (by cases a3 <;> rfl) ?_
  refine Ev.bindc (a := (a3, true)) (by cases a3 <;> kernel_rfl) ?_
  refine Ev.ifn (by simp) ?_
  exact back_j1 l hl a1 a2 hn (by omega) (by omega)
end Go.Proofs.YtlocmcemfjfhiaaDoor.Pure
