import Derived.Test.YtcbcojbhbhaimaaDoorPTreeTellsx
namespace Go.Proofs.YtcbcojbhbhaimaaDoor.Pure
open Go.RowKit Go.Proofs.YtcbcojbhbhaimaaDoor.PTreeTells Go.Proofs.YtcbcojbhbhaimaaDoorW.PrintWords Go.Proofs.YtcbcojbhbhaimaaDoorW.PrintLast
set_option linter.unusedVariables false
set_option linter.unusedSimpArgs false
def VI (d : Ieee.Datum) (n : Nat) : Prop := ∃ k : Nat, k ≤ 1074 ∧ d = .number false (n * 2 ^ k) (-(k : Int))
theorem log2_lt {n k : Nat} (h0 : 0 < n) (h : n < 2 ^ k) : n.log2 < k := (Nat.log2_lt (by omega)).2 h
theorem log2_shift {n : Nat} (h0 : 0 < n) (k : Nat) : (n * 2 ^ k).log2 = n.log2 + k := by
 induction k with
 | zero => simp
 | succ k ih =>
  have hp : 0 < n * 2 ^ k := Nat.mul_pos h0 (Nat.two_pow_pos k)
  rw [Nat.pow_succ, ← Nat.mul_assoc, Nat.mul_comm _ 2, Nat.log2_two_mul (by omega), ih]
  omega
theorem cut_exact (way : Ieee.Toward) (m d q : Nat) (h : m = q * 2 ^ d) (hd : m = 0 ∨ d ≤ m.log2 + 2) : way.cut false m d = q := by
 have hr : ∀ g : Nat, 0 < g → m % g = 0 → way.cut false m d = m / (1 <<< min d (m.log2 + 2)) → m / g = q → (1 <<< min d (m.log2 + 2)) = g → way.cut false m d = q := fun g _ _ h1 h2 h3 => by rw [h1, h3, h2]
 have key : m / (1 <<< min d (m.log2 + 2)) = q ∧ m % (1 <<< min d (m.log2 + 2)) = 0 := by
  rw [Nat.one_shiftLeft]
  rcases hd with rfl | hd
  ·have : q = 0 := by
    rcases Nat.mul_eq_zero.1 h.symm with h | h
    ·exact h
    ·have := Nat.two_pow_pos d; omega
   subst this
   simp
  ·rw [Nat.min_eq_left hd, h]
   exact ⟨Nat.mul_div_cancel _ (Nat.two_pow_pos d), Nat.mul_mod_left _ _⟩
 have hg : 0 < 1 <<< min d (m.log2 + 2) := by rw [Nat.one_shiftLeft]; exact Nat.two_pow_pos _
 unfold Ieee.Toward.cut
 simp only [key.1, key.2]
 cases way
 ·have h1 : decide (1 <<< min d (m.log2 + 2) < 2 * 0) = false := decide_eq_false (by omega)
  have h2 : ((1 <<< min d (m.log2 + 2)) == 2 * 0) = false := beq_eq_false_iff_ne.2 (by omega)
  simp [h2]
 all_goals simp
theorem nearest_is (n k : Nat) (h0 : 0 < n) (h : n < 2 ^ 53) : Ieee.double.nearest false (n * 2 ^ k) (-(k : Int)) = (n.log2 + 1022) * 2 ^ 52 + n * 2 ^ (52 - n.log2) := by
 have he := log2_lt h0 h
 have hl := log2_shift h0 k
 have hm : ¬ n * 2 ^ k = 0 := by have := Nat.mul_pos h0 (Nat.two_pow_pos k); omega
 have hlast : max (-(k : Int) + ((n * 2 ^ k).log2 : Int) - (Ieee.double.fractionBits : Int)) Ieee.double.leastPlace = (n.log2 : Int) - 52 := by
  rw [hl, show Ieee.double.leastPlace = -1074 from rfl, show ((Ieee.double.fractionBits : Nat) : Int) = 52 from rfl]
  omega
 have hkept : Ieee.Toward.even.cut false ((n * 2 ^ k) <<< (-(k : Int) - ((n.log2 : Int) - 52)).toNat) (((n.log2 : Int) - 52) - -(k : Int)).toNat = n * 2 ^ (52 - n.log2) := by
  rw [Nat.shiftLeft_eq]
  by_cases hk : k ≤ 52 - n.log2
  ·rw [show (-(k : Int) - ((n.log2 : Int) - 52)).toNat = 52 - n.log2 - k by omega, show (((n.log2 : Int) - 52) - -(k : Int)).toNat = 0 by omega]
   refine cut_exact _ _ _ _ ?_ (Or.inr (by omega))
   rw [Nat.mul_assoc, ← Nat.pow_add, Nat.pow_zero, Nat.mul_one]
   congr 2
   omega
  ·rw [show (-(k : Int) - ((n.log2 : Int) - 52)).toNat = 0 by omega, show (((n.log2 : Int) - 52) - -(k : Int)).toNat = k - (52 - n.log2) by omega, Nat.pow_zero, Nat.mul_one]
   refine cut_exact _ _ _ _ ?_ (Or.inr (by omega))
   rw [Nat.mul_assoc, ← Nat.pow_add]
   congr 2
   omega
 unfold Ieee.Format.nearest
 rw [if_neg hm]
 dsimp only
 rw [hlast, hkept]
 have hb : Ieee.double.binade = 2 ^ 52 := rfl
 have hi : Ieee.double.infRung = 2047 * 2 ^ 52 := rfl
 have hlt : n * 2 ^ (52 - n.log2) < 2 ^ 53 := by
  have h1 : n < 2 ^ (n.log2 + 1) := Nat.lt_log2_self
  have h2 := Nat.mul_lt_mul_of_pos_right h1 (Nat.two_pow_pos (52 - n.log2))
  rwa [← Nat.pow_add, show n.log2 + 1 + (52 - n.log2) = 53 by omega] at h2
 rw [show (((n.log2 : Int) - 52) - Ieee.double.leastPlace).toNat = n.log2 + 1022 by rw [show Ieee.double.leastPlace = -1074 from rfl]; omega, hb, hi]
 unfold Ieee.Format.word
 rw [if_neg (by decide), Nat.min_eq_left (by omega)]
theorem read_is (n : Nat) (h0 : 0 < n) (h : n < 2 ^ 53) : Ieee.double.read ((n.log2 + 1022) * 2 ^ 52 + n * 2 ^ (52 - n.log2)) = .number false (n * 2 ^ (52 - n.log2)) (-((52 - n.log2 : Nat) : Int)) := by
 have he := log2_lt h0 h
 have hlt : n * 2 ^ (52 - n.log2) < 2 ^ 53 := by
  have h1 : n < 2 ^ (n.log2 + 1) := Nat.lt_log2_self
  have h2 := Nat.mul_lt_mul_of_pos_right h1 (Nat.two_pow_pos (52 - n.log2))
  rwa [← Nat.pow_add, show n.log2 + 1 + (52 - n.log2) = 53 by omega] at h2
 have hge : 2 ^ 52 ≤ n * 2 ^ (52 - n.log2) := by
  have h1 : 2 ^ n.log2 ≤ n := Nat.log2_self_le (by omega)
  have h2 := Nat.mul_le_mul_right (2 ^ (52 - n.log2)) h1
  rwa [← Nat.pow_add, show n.log2 + (52 - n.log2) = 52 by omega] at h2
 generalize hx : n * 2 ^ (52 - n.log2) = x at hlt hge
 have hw : Ieee.double.signWeight = 2 ^ 63 := rfl
 have hb : Ieee.double.binade = 2 ^ 52 := rfl
 have hi : Ieee.double.infRung = 2047 * 2 ^ 52 := rfl
 unfold Ieee.Format.read
 rw [hw, hb, hi]
 have e1 : ((n.log2 + 1022) * 2 ^ 52 + x) / 2 ^ 63 = 0 := Nat.div_eq_of_lt (by omega)
 have e2 : ((n.log2 + 1022) * 2 ^ 52 + x) % 2 ^ 63 = (n.log2 + 1022) * 2 ^ 52 + x := Nat.mod_eq_of_lt (by omega)
 rw [e1, e2]
 dsimp only
 rw [if_neg (by omega), if_pos (by omega)]
 have e3 : ((n.log2 + 1022) * 2 ^ 52 + x) % 2 ^ 52 = x - 2 ^ 52 := by omega
 have e4 : ((n.log2 + 1022) * 2 ^ 52 + x) / 2 ^ 52 = n.log2 + 1023 := by omega
 rw [e3, e4, show Ieee.double.leastPlace = -1074 from rfl]
 rw [show (0 % 2 == 1) = false from rfl, show 2 ^ 52 + (x - 2 ^ 52) = x by omega]
 exact congrArg (Ieee.Datum.number false x) (by omega)
theorem fol_nat (n : Nat) : floatOfInt .f64 (n : Int) = Ieee.double.nearest false n 0 := by
 show Ieee.double.nearest (decide ((n : Int) < 0)) (n : Int).natAbs 0 = _
 rw [decide_eq_false (by omega), Int.natAbs_natCast]
theorem fol_pos (n : Nat) (h0 : 0 < n) (h : n < 2 ^ 53) : floatOfInt .f64 (n : Int) = (n.log2 + 1022) * 2 ^ 52 + n * 2 ^ (52 - n.log2) := by
 have := nearest_is n 0 h0 h
 rw [Nat.pow_zero, Nat.mul_one] at this
 rw [fol_nat, ← this]
 rfl
theorem vi_of (n : Nat) (h : n < 2 ^ 53) : VI (FloatKind.f64.format.read (floatOfInt .f64 (n : Int))) n := by
 show VI (Ieee.double.read _) n
 by_cases h0 : n = 0
 ·subst h0
  exact ⟨1074, Nat.le_refl _, by kernel_rfl⟩
 ·rw [fol_pos n (by omega) h, read_is n (by omega) h]
  exact ⟨52 - n.log2, by omega, rfl⟩
theorem signed_is (m up : Nat) : Ieee.signed false m up = ((m * 2 ^ up : Nat) : Int) := by
 unfold Ieee.signed
 rw [if_neg (by decide), Nat.shiftLeft_eq]
theorem fadd_some (a b : Nat) (h : a + b < 2 ^ 53) : floatBits .add .f64 (floatOfInt .f64 (a : Int)) (floatOfInt .f64 (b : Int)) = some (floatOfInt .f64 ((a + b : Nat) : Int)) := by
 obtain ⟨k, hk, ha⟩ := vi_of a (by omega)
 obtain ⟨j, hj, hb⟩ := vi_of b (by omega)
 show ((FloatKind.f64.format.read _).sum (FloatKind.f64.format.read _)).map FloatKind.f64.format.write = _
 rw [ha, hb]
 unfold Ieee.Datum.sum
 dsimp only
 rw [signed_is, signed_is]
 have hmin : min (-(k : Int)) (-(j : Int)) = -((max k j : Nat) : Int) := by omega
 rw [hmin]
 have e1 : a * 2 ^ k * 2 ^ (-(k : Int) - -((max k j : Nat) : Int)).toNat = a * 2 ^ max k j := by
  rw [Nat.mul_assoc, ← Nat.pow_add]
  congr 2
  omega
 have e2 : b * 2 ^ j * 2 ^ (-(j : Int) - -((max k j : Nat) : Int)).toNat = b * 2 ^ max k j := by
  rw [Nat.mul_assoc, ← Nat.pow_add]
  congr 2
  omega
 rw [e1, e2, ← Int.natCast_add, ← Nat.add_mul, Int.natAbs_natCast, Option.map_some]
 have hs : (if (((a + b) * 2 ^ max k j : Nat) : Int) = 0 then (false && false) else decide ((((a + b) * 2 ^ max k j : Nat) : Int) < 0)) = false := by
  split
  ·rfl
  ·exact decide_eq_false (by omega)
 rw [hs]
 show some (Ieee.double.nearest false _ _) = _
 congr 1
 by_cases h0 : a + b = 0
 ·rw [h0, Nat.zero_mul]
  unfold Ieee.Format.nearest
  rw [if_pos rfl]
  kernel_rfl
 ·rw [nearest_is (a + b) _ (by omega) h, fol_pos (a + b) (by omega) h]
theorem toint_vi (n : Nat) (h : n < 2 ^ 53) : floatToIntVal .f64 (floatOfInt .f64 (n : Int)) .i64 = some (n : Int) := by
 obtain ⟨k, hk, hd⟩ := vi_of n h
 unfold floatToIntVal
 rw [show FloatKind.f64.decode (floatOfInt .f64 (n : Int)) = FloatKind.f64.format.read (floatOfInt .f64 (n : Int)) from rfl, hd]
 unfold Ieee.Datum.toInt Ieee.Datum.integral
 dsimp only
 rw [show (-(k : Int)).toNat = 0 by omega, show (- -(k : Int)).toNat = k by omega, Nat.shiftLeft_zero]
 have hc : Ieee.Toward.zero.cut false (n * 2 ^ k) k = n := by
  refine cut_exact _ _ _ _ rfl ?_
  by_cases h0 : n = 0
  ·exact Or.inl (by rw [h0, Nat.zero_mul])
  ·exact Or.inr (by rw [log2_shift (by omega)]; omega)
 rw [hc, signed_is, Nat.pow_zero, Nat.mul_one]
 have h1 : IntKind.i64.min = -9223372036854775808 := rfl
 have h2 : IntKind.i64.max = 9223372036854775807 := rfl
 rw [if_pos ⟨by omega, by omega⟩]
def fl (n : Nat) : Nat := floatOfInt .f64 (n : Int)
theorem fl_of {x : Int} (h : 0 ≤ x) : floatOfInt .f64 x = fl x.toNat := by
 unfold fl
 rw [Int.toNat_of_nonneg h]
theorem fok_fl {a b : Nat} (h : a + b < 2 ^ 53) : fok (fl a) (fl b) = true := by unfold fok fl; rw [fadd_some a b h]; rfl
theorem fadd_fl {a b : Nat} (h : a + b < 2 ^ 53) : fadd (fl a) (fl b) = fl (a + b) := by unfold fadd fl; rw [fadd_some a b h]; rfl
theorem fiok_fl {a : Nat} (h : a < 2 ^ 53) : fiok (fl a) = true := by unfold fiok fl; rw [toint_vi a h]; rfl
theorem fint_fl {a : Nat} (h : a < 2 ^ 53) : fint (fl a) = (a : Int) := by unfold fint fl; rw [toint_vi a h]; rfl
def lowB (n : Int) : Nat → List Int
 | 0 => []
 | w + 1 => (n / 256 ^ w % 256) :: lowB n w
theorem lowB_length (n : Int) (w : Nat) : (lowB n w).length = w := by
 induction w with
 | zero => rfl
 | succ w ih => simp [lowB, ih]
theorem ref01_Put_loop (n : Int) (h0 : 0 ≤ n) (hn : n < 18446744073709551616) (w : Nat) (hw : w ≤ 8) (d : Nat) : ∀ i : Nat, i ≤ w → w - i = d →
 Ev (fun k => cr01_Put.l0 k (n / 256 ^ i) (w : Int) (strOfNums (lowB n i)) (i : Int)) (strOfNums (lowB n w)) := by
 induction d with
 | zero =>
  intro i hi hd
  obtain rfl : i = w := by omega
  refine Ev.step (f := fun _ => some _) (fun k => ?_) (Ev.now _)
  simp only [cr01_Put.l0]
  rw [if_neg (by omega)]
 | succ d ih =>
  intro i hi hd
  refine Ev.step (fun k => ?_) (ih (i + 1) (by omega) (by omega))
  have hq0 : 0 ≤ n / 256 ^ i := Int.ediv_nonneg h0 (Int.le_of_lt (Int.pow_pos (by decide)))
  have hq1 : n / 256 ^ i ≤ n := Int.ediv_le_self _ h0
  have hs : n / 256 ^ (i + 1) = n / 256 ^ i / 256 := by rw [Int.pow_succ, Int.ediv_ediv_of_nonneg (Int.le_of_lt (Int.pow_pos (by decide)))]
  simp only [cr01_Put.l0]
  rw [if_pos (by omega)]
  simp only [Option.bind_some]
  rw [nums_size, nums_size, lowB_length, if_pos (by simp; omega), Int.tmod_eq_emod_of_nonneg hq0, Int.tdiv_eq_ediv_of_nonneg hq0, wu64 (by omega) (by omega), w64 (by omega) (by omega), str_append, hs]
  simp only [lowB, Int.natCast_add, Int.natCast_one, List.singleton_append, Int.emod_emod_of_dvd _ (Int.dvd_refl 256)]
theorem ref01_Put_eq (n : Int) (h0 : 0 ≤ n) (hn : n < 18446744073709551616) (w : Int) : Ev (fun k => cr01_Put.f k n w) (strOfNums (if 1 ≤ w ∧ w ≤ 8 then lowB n w.toNat else [])) := by
 by_cases h : 1 ≤ w ∧ w ≤ 8
 ·rw [if_pos h]
  obtain ⟨m, rfl⟩ := Int.eq_ofNat_of_zero_le (show 0 ≤ w by omega)
  have hl := ref01_Put_loop n h0 hn m (by omega) m 0 (by omega) rfl
  refine Ev.congr (f := fun k => cr01_Put.j0 k n (m : Int) false) (fun k => ?_) ?_
  ·simp only [cr01_Put.f]
   rw [if_neg (by omega), decide_eq_false (by omega)]
  ·refine Ev.step (fun k => ?_) hl
   simp only [cr01_Put.j0]
   rw [if_neg (by decide)]
   simp [lowB, nums_nil]
 ·rw [if_neg h]
  refine Ev.congr (f := fun k => cr01_Put.j0 k n w true) (fun k => ?_) ?_
  ·simp only [cr01_Put.f]
   by_cases h1 : w < 1
   ·rw [if_pos h1]
   ·rw [if_neg h1, decide_eq_true (by omega)]
  ·refine Ev.step (f := fun _ => some _) (fun k => ?_) (Ev.now _)
   simp only [cr01_Put.j0]
   simp only [if_true]
   rfl
def tagD (b : Int) : List Int := if b < 128 then [b] else if b < 16384 then [128 + b / 128, b % 128] else [128 + b / 16384, 128 + b / 128 % 128, b % 128]
def idB (a b : Int) (c : Bool) : List Int := if b < 31 then [64 * a + (if c then 32 else 0) + b] else (64 * a + (if c then 32 else 0) + 31) :: tagD b
def lenB (n : Int) : List Int := if n < 128 then [n] else if n < 256 then [129, n] else [130, n / 256, n % 256]
theorem or_id_all : ((List.range 8).all fun k => (List.range 32).all fun b => decide (Go.bits .or .u8 (32 * (k : Int)) (b : Int) = 32 * (k : Int) + (b : Int))) = true := by kernel_rfl
theorem or_id {k b : Int} (h0 : 0 ≤ k) (h1 : k < 8) (h2 : 0 ≤ b) (h3 : b < 32) : Go.bits .or .u8 (32 * k) b = 32 * k + b := by
 have h := List.all_eq_true.1 (List.all_eq_true.1 or_id_all k.toNat (List.mem_range.2 (by omega))) b.toNat (List.mem_range.2 (by omega))
 rw [Int.toNat_of_nonneg h0, Int.toNat_of_nonneg h2] at h
 exact of_decide_eq_true h
theorem or_cons_all : ((List.range 4).all fun a => decide (Go.bits .or .u8 ((wrap64 ((a : Int) * 64)) % 256) 32 = 64 * (a : Int) + 32)) = true := by kernel_rfl
theorem or_cons {a : Int} (h0 : 0 ≤ a) (h1 : a < 4) : Go.bits .or .u8 ((wrap64 (a * 64)) % 256) 32 = 64 * a + 32 := by
 have h := List.all_eq_true.1 or_cons_all a.toNat (List.mem_range.2 (by omega))
 rw [Int.toNat_of_nonneg h0] at h
 exact of_decide_eq_true h
theorem hi_dig_all : ((List.range 128).all fun x => decide ((Go.bits .or .i64 (x : Int) 128) % 256 = 128 + (x : Int))) = true := by kernel_rfl
theorem hi_dig {x : Int} (h0 : 0 ≤ x) (h1 : x < 128) : (Go.bits .or .i64 x 128) % 256 = 128 + x := by
 have h := List.all_eq_true.1 hi_dig_all x.toNat (List.mem_range.2 (by omega))
 rw [Int.toNat_of_nonneg h0] at h
 exact of_decide_eq_true h
theorem and7 {n : Int} (h0 : 0 ≤ n) (h1 : n < 9223372036854775808) : Go.bits .and .i64 n 127 = n % 128 :=
 bits_mask .i64 63 (by decide) (fun n h0 h1 => by rw [IntKind.wrap_i64]; omega) 7 (by decide) n h0 (by simpa using h1)
theorem lo7_all : ((List.range 128).all fun x => decide (Go.bits .and .u8 (128 + (x : Int)) 127 = (x : Int))) = true := by kernel_rfl
theorem lo7 {x : Int} (h0 : 0 ≤ x) (h1 : x < 128) : Go.bits .and .u8 (128 + x) 127 = x := by
 have h := List.all_eq_true.1 lo7_all x.toNat (List.mem_range.2 (by omega))
 rw [Int.toNat_of_nonneg h0] at h
 exact of_decide_eq_true h
theorem shr14 (b : Int) : shr .i64 b 14 = b / 16384 := rfl
theorem shr7 (b : Int) : shr .i64 b 7 = b / 128 := rfl
theorem shr0 (b : Int) : shr .i64 b 0 = b := by show b / 1 = b; omega
theorem lenB1 {n : Int} (g : n < 128) : lenB n = [n] := if_pos g
theorem lenB2 {n : Int} (g : ¬ n < 128) (g2 : n < 256) : lenB n = [129, n] := by rw [lenB, if_neg g, if_pos g2]
theorem lenB3 {n : Int} (g : ¬ n < 128) (g2 : ¬ n < 256) : lenB n = [130, n / 256, n % 256] := by rw [lenB, if_neg g, if_neg g2]
theorem head_len (x4 : List Int) (a b : Int) (c : Bool) (n : Int) (hx : x4.length ≤ 100) (h0 : 0 ≤ n) (h1 : n ≤ 65535) : Ev (fun k => head_Encode.j2 k x4 a b c n) (strOfNums (x4 ++ lenB n), 0) := by
 refine Ev.step (fun k => by rw [head_Encode.j2]) ?_
 by_cases g : n < 128
 ·rw [lenB1 g]
  refine Ev.ifp g (Ev.ifp (by omega) ((Ev.now _).eq ?_))
  rw [show n % 256 = n by omega]
 refine Ev.ifn g ?_
 by_cases g2 : n < 256
 ·rw [lenB2 g g2]
  refine Ev.ifp g2 (Ev.bindc rfl (Ev.ifp (by simp; omega) ((Ev.now _).eq ?_)))
  rw [show n % 256 = n by omega]
 rw [lenB3 g g2]
 refine Ev.ifn g2 (Ev.bindc rfl (Ev.ifp (by simp; omega) ((Ev.now _).eq ?_)))
 rw [show n / 256 % 256 = n / 256 by omega]
theorem set_end (s : List Int) (x y : Int) : (s ++ [x]).set (s.length : Int).toNat y = s ++ [y] := by
 rw [Int.toNat_natCast]
 simp
theorem rd_end (s : List Int) (x : Int) : rd (s ++ [x]) (s.length : Int) = x := by
 rw [rd_get s.length (by simp)]
 simp
theorem head_last (s : List Int) (x a b : Int) (c : Bool) (n : Int) (hs : s.length ≤ 50) (x0 : 0 ≤ x) (x1 : x < 128) (h0 : 0 ≤ n) (h1 : n ≤ 65535) : Ev (fun k => head_Encode.l0 k (s ++ [128 + x]) (-7) a b c n) (strOfNums (s ++ [x] ++ lenB n), 0) := by
 refine Ev.step (fun k => by rw [head_Encode.l0]) ?_
 have hl : ((s ++ [128 + x]).length : Int) = (s.length : Int) + 1 := by simp
 rw [hl, w64 (x := (s.length : Int) + 1 - 1) (by omega) (by omega), show (s.length : Int) + 1 - 1 = (s.length : Int) by omega, rd_end, set_end, lo7 x0 x1]
 exact Ev.ifn (by omega) (Ev.ifp (by omega) (Ev.ifp (by omega) (head_len _ a b c n (by simp; omega) h0 h1)))
theorem head_dig (s : List Int) (t a b : Int) (c : Bool) (n v : Int) (hs : s.length ≤ 50) (t0 : 0 ≤ t) (t1 : t ≤ 14) (hv : shr .i64 b t = v) (v0 : 0 < v) (v1 : v < 9223372036854775808) {r : ByteArray × Int}
 (h : Ev (fun k => head_Encode.l0 k (s ++ [128 + v % 128]) (t - 7) a b c n) r) : Ev (fun k => head_Encode.l0 k s t a b c n) r := by
 refine Ev.step (fun k => by rw [head_Encode.l0]) ?_
 rw [hv, w64 (x := t - 7) (by omega) (by omega), and7 (by omega) v1, hi_dig (by omega) (by omega)]
 exact Ev.ifp (by omega) (Ev.ifp (by omega) (Ev.ifn (by omega) (Ev.ifp (by omega) h)))
theorem head_skip (s : List Int) (t a b : Int) (c : Bool) (n : Int) (t0 : 0 ≤ t) (t1 : t ≤ 14) (hv : shr .i64 b t = 0) {r : ByteArray × Int}
 (h : Ev (fun k => head_Encode.l0 k s (t - 7) a b c n) r) : Ev (fun k => head_Encode.l0 k s t a b c n) r := by
 refine Ev.step (fun k => by rw [head_Encode.l0]) ?_
 rw [hv, w64 (x := t - 7) (by omega) (by omega)]
 exact Ev.ifp (by omega) (Ev.ifp (by omega) (Ev.ifp rfl h))
theorem head_tag (s : List Int) (a b : Int) (c : Bool) (n : Int) (hs : s.length ≤ 10) (b0 : 31 ≤ b) (b1 : b ≤ 2097151) (h0 : 0 ≤ n) (h1 : n ≤ 65535) : Ev (fun k => head_Encode.l0 k s 14 a b c n) (strOfNums (s ++ tagD b ++ lenB n), 0) := by
 unfold tagD
 by_cases g : b < 128
 ·rw [if_pos g]
  refine head_skip s 14 a b c n (by omega) (by omega) (by rw [shr14]; omega) (head_skip s _ a b c n (by omega) (by omega) (by show shr .i64 b 7 = 0; rw [shr7]; omega) (head_dig s _ a b c n b (by omega) (by omega) (by omega) (shr0 b) (by omega) (by omega) ?_))
  rw [show b % 128 = b by omega]
  exact head_last s b a b c n (by omega) (by omega) (by omega) h0 h1
 rw [if_neg g]
 by_cases g2 : b < 16384
 ·rw [if_pos g2]
  refine head_skip s 14 a b c n (by omega) (by omega) (by rw [shr14]; omega) (head_dig s _ a b c n (b / 128) (by omega) (by omega) (by omega) (shr7 b) (by omega) (by omega) (head_dig _ _ a b c n b (by simp; omega) (by omega) (by omega) (shr0 b) (by omega) (by omega) ?_))
  have := head_last (s ++ [128 + b / 128 % 128]) (b % 128) a b c n (by simp; omega) (by omega) (by omega) h0 h1
  rw [show b / 128 % 128 = b / 128 by omega] at this ⊢
  simpa using this
 rw [if_neg g2]
 refine head_dig s 14 a b c n (b / 16384) (by omega) (by omega) (by omega) (shr14 b) (by omega) (by omega) (head_dig _ _ a b c n (b / 128) (by simp; omega) (by omega) (by omega) (shr7 b) (by omega) (by omega) (head_dig _ _ a b c n b (by simp; omega) (by omega) (by omega) (shr0 b) (by omega) (by omega) ?_))
 have := head_last (s ++ [128 + b / 16384 % 128] ++ [128 + b / 128 % 128]) (b % 128) a b c n (by simp; omega) (by omega) (by omega) h0 h1
 rw [show b / 16384 % 128 = b / 16384 by omega] at this ⊢
 simpa using this
theorem head_is (a b : Int) (c : Bool) (n : Int) (a0 : 0 ≤ a) (a1 : a ≤ 3) (b0 : 0 ≤ b) (b1 : b ≤ 2097151) (h0 : 0 ≤ n) : Ev (fun k => head_Encode.f k a b c n) (if n ≤ 65535 then (strOfNums (idB a b c ++ lenB n), 0) else (⟨#[]⟩, 1)) := by
 have hm : head_Head_may.f a b c n = some (decide (n ≤ 65535)) := by
  rw [head_Head_may.f, if_pos (by unfold mn; split <;> split <;> omega), if_pos a1, if_pos b1]
 refine Ev.congr (fun k => by rw [head_Encode.f]) ?_
 refine Ev.bindc hm ?_
 by_cases h1 : n ≤ 65535
 case neg =>
  rw [decide_eq_false h1, if_neg h1]
  exact Ev.ifn (by simp) (Ev.now _)
 rw [decide_eq_true h1, if_pos h1]
 refine Ev.ifp rfl (Ev.bindc rfl ?_)
 have key : ∀ kk : Int, (∃ q : Int, 0 ≤ q ∧ q < 8 ∧ kk = 32 * q) → Ev (fun k => head_Encode.j0 k (List.replicate 0 0 : List Int) kk a b c n) (strOfNums ((if b < 31 then [kk + b] else (kk + 31) :: tagD b) ++ lenB n), 0) := by
  rintro kk ⟨q, q0, q1, rfl⟩
  refine Ev.step (fun k => by rw [head_Encode.j0]) ?_
  by_cases g : b < 31
  ·rw [show (if b < 31 then [32 * q + b] else (32 * q + 31) :: tagD b) = [32 * q + b] from if_pos g, show b % 256 = b by omega, or_id (b := b) q0 q1 b0 (by omega)]
   exact Ev.ifp g (Ev.ifp (by decide) (head_len [32 * q + b] a b c n (by simp) h0 h1))
  ·rw [show (if b < 31 then [32 * q + b] else (32 * q + 31) :: tagD b) = (32 * q + 31) :: tagD b from if_neg g, or_id (b := 31) q0 q1 (by omega) (by omega)]
   exact Ev.ifn g (Ev.ifp (by decide) (head_tag [32 * q + 31] a b c n (by simp) (by omega) b1 h0 h1))
 unfold idB
 cases c with
 | true =>
  refine Ev.ifp rfl ?_
  rw [or_cons a0 (by omega)]
  exact key _ ⟨2 * a + 1, by omega, by omega, by omega⟩
 | false =>
  refine Ev.ifn (by simp) ?_
  rw [show wrap64 (a * 64) % 256 = 64 * a + 0 by rw [w64 (by omega) (by omega)]; omega]
  exact key _ ⟨2 * a, by omega, by omega, by omega⟩
theorem ref_tag (b : Int) (b0 : 31 ≤ b) (b1 : b ≤ 2097151) : Ev (fun k => cr15_digits.f k b) (strOfNums (tagD b)) := by
 have hend : ∀ (l : List Int), Ev (fun k => cr15_digits.l0 k 0 (strOfNums l)) (strOfNums l) := by
  intro l
  refine Ev.step (fun k => by rw [cr15_digits.l0]) ?_
  exact Ev.ifn (by omega) (Ev.now _)
 have hone : ∀ (x : Int) (l : List Int) (r : ByteArray), 0 < x → x ≤ 2097151 → l.length ≤ 10 → Ev (fun k => cr15_digits.l0 k (x / 128) (strOfNums ((128 + x % 128) :: l))) r → Ev (fun k => cr15_digits.l0 k x (strOfNums l)) r := by
  intro x l r x0 x1 hl h
  refine Ev.step (fun k => by rw [cr15_digits.l0]) ?_
  rw [Int.tmod_eq_emod_of_nonneg (by omega), Int.tdiv_eq_ediv_of_nonneg (by omega), w64 (x := x / 128) (by omega) (by omega), w64 (x := 128 + x % 128) (by omega) (by omega), show (128 + x % 128) % 256 = 128 + x % 128 by omega]
  refine Ev.ifp (by omega) (Ev.bindc rfl (Ev.ifp (by rw [nums_size, nums_size]; simp; omega) ?_))
  rw [str_append, List.singleton_append]
  exact h
 refine Ev.congr (fun k => by rw [cr15_digits.f]) ?_
 rw [Int.tmod_eq_emod_of_nonneg (by omega), Int.tdiv_eq_ediv_of_nonneg (by omega), w64 (x := b / 128) (by omega) (by omega), show b % 128 % 256 = b % 128 by omega]
 unfold tagD
 by_cases g : b < 128
 ·rw [if_pos g, show b / 128 = 0 by omega, show b % 128 = b by omega]
  exact hend _
 rw [if_neg g]
 by_cases g2 : b < 16384
 ·rw [if_pos g2]
  refine hone (b / 128) _ _ (by omega) (by omega) (by simp) ?_
  rw [show b / 128 / 128 = 0 by omega, show b / 128 % 128 = b / 128 by omega]
  exact hend _
 rw [if_neg g2]
 refine hone (b / 128) _ _ (by omega) (by omega) (by simp) (hone _ _ _ (by omega) (by omega) (by simp) ?_)
 rw [show b / 128 / 128 / 128 = 0 by omega, show b / 128 / 128 % 128 = b / 16384 by omega]
 exact hend _
theorem ref_len (x5 : List Int) (a b : Int) (c : Bool) (n : Int) (hx : x5.length ≤ 100) (h0 : 0 ≤ n) (h1 : n ≤ 65535) : Ev (fun k => cr15_Encode.j1 k (strOfNums x5) a b c n) (strOfNums (x5 ++ lenB n), 0) := by
 refine Ev.step (fun k => by rw [cr15_Encode.j1]) ?_
 by_cases g : n < 128
 ·rw [lenB1 g]
  refine Ev.ifp g (Ev.bindc rfl (Ev.ifp (by rw [nums_size, nums_size]; simp; omega) ((Ev.now _).eq ?_)))
  rw [str_append, show n % 256 = n by omega]
 refine Ev.ifn g ?_
 have e : ∀ (z : Int) (zs : ByteArray), zs = strOfNums [z] → strOfNums x5 ++ zs = strOfNums (x5 ++ [z]) := by
  intro z zs h
  rw [h, str_append]
 by_cases g2 : n < 256
 ·rw [lenB2 g g2]
  have hp : Ev (fun k => cr01_Put.f k (IntKind.u64.wrap n) 1) (strOfNums [n]) := by
   rw [wu64 (by omega) (by omega)]
   refine (ref01_Put_eq n (by omega) (by omega) 1).eq ?_
   rw [if_pos (by omega)]
   show strOfNums [n / 256 ^ 0 % 256] = _
   rw [show (256 : Int) ^ 0 = 1 from rfl, show n / 1 % 256 = n by omega]
  refine Ev.ifp g2 (Ev.ifp (by rw [nums_size]; omega) (Ev.bind hp ?_))
  rw [e 129 (⟨#[129]⟩ : ByteArray) rfl]
  refine Ev.ifp (by rw [nums_size, nums_size]; simp; omega) ((Ev.now _).eq ?_)
  rw [str_append, List.append_assoc, List.singleton_append]
 rw [lenB3 g g2]
 have hp : Ev (fun k => cr01_Put.f k (IntKind.u64.wrap n) 2) (strOfNums [n / 256, n % 256]) := by
  rw [wu64 (by omega) (by omega)]
  refine (ref01_Put_eq n (by omega) (by omega) 2).eq ?_
  rw [if_pos (by omega)]
  show strOfNums [n / 256 ^ 1 % 256, n / 256 ^ 0 % 256] = _
  rw [show (256 : Int) ^ 0 = 1 from rfl, show (256 : Int) ^ 1 = 256 from rfl, show n / 256 % 256 = n / 256 by omega, show n / 1 % 256 = n % 256 by omega]
 refine Ev.ifn g2 (Ev.ifp (by rw [nums_size]; omega) (Ev.bind hp ?_))
 rw [e 130 (⟨#[130]⟩ : ByteArray) rfl]
 refine Ev.ifp (by rw [nums_size, nums_size]; simp; omega) ((Ev.now _).eq ?_)
 rw [str_append, List.append_assoc, List.singleton_append]
theorem ref_head_is (a b : Int) (c : Bool) (n : Int) (a0 : 0 ≤ a) (a1 : a ≤ 3) (b0 : 0 ≤ b) (b1 : b ≤ 2097151) (h0 : 0 ≤ n) : Ev (fun k => cr15_Encode.f k a b c n) (if n ≤ 65535 then (strOfNums (idB a b c ++ lenB n), 0) else (⟨#[]⟩, 1)) := by
 have hm : cr15_may.f a b c n = some (decide (n ≤ 65535)) := by
  rw [cr15_may.f, if_pos a0, if_pos (by omega), if_pos b0, if_pos b1, if_pos h0]
 refine Ev.congr (fun k => by rw [cr15_Encode.f]) ?_
 refine Ev.bindc hm ?_
 by_cases h1 : n ≤ 65535
 case neg =>
  rw [decide_eq_false h1, if_neg h1]
  exact Ev.ifn (by simp) (Ev.now _)
 rw [decide_eq_true h1, if_pos h1]
 refine Ev.ifp rfl ?_
 have key : ∀ kk : Int, 0 ≤ kk → kk < 256 - 31 → Ev (fun k => cr15_Encode.j0 k kk a b c n) (strOfNums ((if b < 31 then [kk + b] else (kk + 31) :: tagD b) ++ lenB n), 0) := by
  intro kk k0 k1
  refine Ev.step (fun k => by rw [cr15_Encode.j0]) ?_
  by_cases g : b < 31
  ·rw [show (if b < 31 then [kk + b] else (kk + 31) :: tagD b) = [kk + b] from if_pos g, w64 (x := kk + b) (by omega) (by omega), show (kk + b) % 256 = kk + b by omega]
   exact Ev.ifp g (ref_len [kk + b] a b c n (by simp) h0 h1)
  ·rw [show (if b < 31 then [kk + b] else (kk + 31) :: tagD b) = (kk + 31) :: tagD b from if_neg g, w64 (x := kk + 31) (by omega) (by omega), show (kk + 31) % 256 = kk + 31 by omega]
   have hl : (tagD b).length ≤ 3 := by unfold tagD; split; simp; split <;> simp
   refine Ev.ifn g (Ev.bindc rfl (Ev.bind (ref_tag b (by omega) b1) (Ev.ifp (by rw [nums_size, nums_size]; simp; omega) ?_)))
   rw [str_append, List.singleton_append]
   exact ref_len _ a b c n (by simp; omega) h0 h1
 unfold idB
 cases c with
 | true =>
  refine Ev.ifp rfl ?_
  rw [w64 (x := 64 * a) (by omega) (by omega), w64 (x := 64 * a + 32) (by omega) (by omega)]
  exact key _ (by omega) (by omega)
 | false =>
  refine Ev.ifn (by simp) ?_
  rw [w64 (x := 64 * a) (by omega) (by omega)]
  refine (key (64 * a) (by omega) (by omega)).eq ?_
  rw [show (if (false = true) then (32 : Int) else 0) = 0 from rfl, Int.add_zero]
def rightL : List Int → Bool
 | [] => false
 | [_] => true
 | x :: y :: _ => !(decide (x = 0) && decide (y < 128)) && !(decide (x = 255) && decide (128 ≤ y))
theorem rightL_cons2 (x y : Int) (r : List Int) : rightL (x :: y :: r) = (!(decide (x = 0) && decide (y < 128)) && !(decide (x = 255) && decide (128 ≤ y))) := rfl
theorem or_i64_nat (i : Nat) {x y : Int} (hx0 : 0 ≤ x) (hx : x % 2 ^ i = 0) (hx1 : x < 9223372036854775808) (hy0 : 0 ≤ y) (hy : y < 2 ^ i) (hi : i ≤ 63) : Go.bits .or .i64 x y = x + y := by
 refine bits_join .i64 63 (by decide) (fun n h0 h1 => by rw [IntKind.wrap_i64]; omega) i x y hx0 hx (by simpa using hx1) hy0 hy ?_
 have : (2 : Int) ^ i ≤ 2 ^ 63 := by exact_mod_cast Nat.pow_le_pow_right (by decide) hi
 omega
theorem whole_Right_eq (l : List Int) (hl : OkB l) : whole_Right.f (strOfNums l) = some (rightL l) := by
 unfold whole_Right.f
 rw [nums_sizeI]
 match l, hl with
 | [], _ => rw [if_pos ((nums_toList_nil []).2 rfl)]; rfl
 | [x], _ => rw [if_neg (by rw [nums_toList_nil]; simp), if_pos (by simp)]; rfl
 | x :: y :: r, hl =>
  have h0 := hl.head
  have h1 := hl.tail.head
  have e0 : bt (strOfNums (x :: y :: r)) 0 = x := nums_bt hl 0 (by simp)
  have e1 : bt (strOfNums (x :: y :: r)) 1 = y := nums_bt hl 1 (by simp)
  rw [e0, e1, if_neg (by rw [nums_toList_nil]; simp), if_neg (by simp; omega), if_pos (by simp; omega), if_pos (by simp; omega), w64 (x := x) (by omega) (by omega), w64 (by omega) (by omega), w64 (by omega) (by omega), or_i64_nat 1 (by omega) (by omega) (by omega) (by omega) (by omega) (by decide)]
  rw [rightL_cons2]
  by_cases c : x * 2 + y / 128 = 0
  ·rw [if_pos c, decide_eq_true (by omega : x = 0), decide_eq_true (by omega : y < 128)]; rfl
  ·rw [if_neg c]
   congr 1
   have h3 : (decide (x = 0) && decide (y < 128)) = false := by
    rw [← Bool.not_eq_true, Bool.and_eq_true, decide_eq_true_iff, decide_eq_true_iff]; omega
   rw [h3]
   by_cases d : x * 2 + y / 128 = 511
   ·rw [d, decide_eq_true (by omega : x = 255), decide_eq_true (by omega : 128 ≤ y)]; rfl
   ·have h4 : (decide (x = 255) && decide (128 ≤ y)) = false := by
     rw [← Bool.not_eq_true, Bool.and_eq_true, decide_eq_true_iff, decide_eq_true_iff]; omega
    rw [h4]
    simpa using d
theorem ref16_Right_eq (l : List Int) (hl : OkB l) : cr16_Right.f (strOfNums l) = some (rightL l) := by
 unfold cr16_Right.f
 rw [nums_sizeI]
 match l, hl with
 | [], _ => rw [if_pos ((nums_toList_nil []).2 rfl)]; rfl
 | [x], _ => rw [if_neg (by rw [nums_toList_nil]; simp), if_pos (by simp)]; rfl
 | x :: y :: r, hl =>
  have h0 := hl.head
  have h1 := hl.tail.head
  have e0 : bt (strOfNums (x :: y :: r)) 0 = x := nums_bt hl 0 (by simp)
  have e1 : bt (strOfNums (x :: y :: r)) 1 = y := nums_bt hl 1 (by simp)
  rw [e0, e1, if_neg (by rw [nums_toList_nil]; simp), if_neg (by simp; omega), if_pos (by simp; omega)]
  rw [rightL_cons2]
  by_cases hx : x = 0
  ·rw [if_pos hx, if_pos (by simp; omega), decide_eq_true hx, decide_eq_false (by omega : ¬ x = 255)]
   by_cases hy : y < 128
   ·rw [if_pos hy, decide_eq_true hy]; rfl
   ·rw [if_neg hy, if_neg (by omega), decide_eq_false hy]; rfl
  ·rw [if_neg hx, decide_eq_false hx]
   by_cases hx2 : x = 255
   ·rw [if_pos hx2, if_pos (by simp; omega), decide_eq_true hx2]
    by_cases hy : y < 128
    ·rw [decide_eq_true hy, decide_eq_false (by omega : ¬ 128 ≤ y)]; rfl
    ·rw [decide_eq_false hy, decide_eq_true (by omega : 128 ≤ y)]; rfl
   ·rw [if_neg hx2, decide_eq_false hx2]; rfl
def okArc (x : Int) : Bool := decide (0 ≤ x ∧ x ≤ 2147483647)
def rightA : List Int → Bool
 | a :: b :: r => decide (r.length ≤ 18) && (decide (0 ≤ a ∧ a ≤ 2) && (decide (0 ≤ b ∧ b ≤ if a < 2 then 39 else 2147483567) && r.all okArc))
 | _ => false
theorem oid_right_loop (l : List Int) (h2 : 2 ≤ l.length) (hs : l.length ≤ 1000) (d : Nat) : ∀ i : Nat, 2 ≤ i → i ≤ l.length → l.length - i = d →
 Ev (fun k => oid_Right.l0 k l l (l.length : Int) (i : Int)) ((l.drop i).all okArc) := by
 induction d with
 | zero =>
  intro i _ hi hd
  refine Ev.step (fun k => by rw [oid_Right.l0]) ?_
  refine Ev.ifn (by omega) ?_
  rw [List.drop_eq_nil_of_le (by omega)]
  exact Ev.now _
 | succ d ih =>
  intro i hi2 hi hd
  have hlt : i < l.length := by omega
  refine Ev.step (fun k => by rw [oid_Right.l0]) ?_
  refine Ev.ifp (by omega) ?_
  refine Ev.ifp (by omega) ?_
  refine Ev.ifp (by omega) ?_
  rw [rd_get i hlt, List.drop_eq_getElem_cons hlt, List.all_cons]
  by_cases h0 : l[i] < 0
  ·refine Ev.ifp h0 ((Ev.now _).eq ?_)
   have : okArc l[i] = false := decide_eq_false (by omega)
   rw [this, Bool.false_and]
  refine Ev.ifn h0 ?_
  refine Ev.bindc (a := 2147483647) (by unfold oid_most.f; rw [if_neg (by omega), if_pos (by omega)]) ?_
  by_cases h1 : l[i] > 2147483647
  ·refine Ev.ifp h1 ((Ev.now _).eq ?_)
   have : okArc l[i] = false := decide_eq_false (by omega)
   rw [this, Bool.false_and]
  ·refine Ev.ifn h1 ?_
   have : okArc l[i] = true := decide_eq_true (by omega)
   rw [this, Bool.true_and, w64 (by omega) (by omega)]
   exact ih (i + 1) (by omega) (by omega) (by omega)
theorem oid_right_is (l : List Int) (hs : l.length ≤ 1000000) : Ev (fun k => oid_Right.f k l) (rightA l) := by
 have hno : Ev (fun k => oid_Right.j0 k l true) false := by
  refine Ev.step (fun k => by rw [oid_Right.j0]) ?_
  exact Ev.ifp rfl (Ev.now _)
 refine Ev.congr (fun k => by rw [oid_Right.f]) ?_
 match l, hno with
 | [], hno => exact Ev.ifp (by decide) hno
 | [a], hno => exact Ev.ifp (by simp) hno
 | a :: b :: r, hno =>
  refine Ev.ifn (by simp <;> omega) ?_
  by_cases h20 : r.length ≤ 18
  ·rw [decide_eq_false (by simp <;> omega)]
   refine Ev.step (fun k => by rw [oid_Right.j0]) ?_
   refine Ev.ifn (by simp) ?_
   have hlen : (a :: b :: r).length = r.length + 2 := rfl
   rw [rightA, decide_eq_true h20, Bool.true_and]
   have hl := oid_right_loop (a :: b :: r) (by omega) (by omega) _ 2 (by omega) (by omega) rfl
   refine Ev.step (fun k => by rw [oid_Right.l0]) ?_
   refine Ev.ifp (by omega) ?_
   refine Ev.ifp (by omega) ?_
   refine Ev.ifp (by omega) ?_
   rw [show rd (a :: b :: r) 0 = a from rfl]
   by_cases ha : a < 0
   ·refine Ev.ifp ha ((Ev.now _).eq ?_)
    rw [decide_eq_false (show ¬ (0 ≤ a ∧ a ≤ 2) by omega), Bool.false_and]
   refine Ev.ifn ha ?_
   refine Ev.bindc (a := 2) (by unfold oid_most.f; rw [if_pos rfl]) ?_
   by_cases ha2 : a > 2
   ·refine Ev.ifp ha2 ((Ev.now _).eq ?_)
    rw [decide_eq_false (show ¬ (0 ≤ a ∧ a ≤ 2) by omega), Bool.false_and]
   refine Ev.ifn ha2 ?_
   rw [decide_eq_true (show 0 ≤ a ∧ a ≤ 2 by omega), Bool.true_and, show wrap64 (0 + 1) = 1 from w64 (by decide) (by decide)]
   refine Ev.step (fun k => by rw [oid_Right.l0]) ?_
   refine Ev.ifp (by omega) ?_
   refine Ev.ifp (by omega) ?_
   refine Ev.ifp (by omega) ?_
   rw [show rd (a :: b :: r) 1 = b from rfl]
   by_cases hb : b < 0
   ·refine Ev.ifp hb ((Ev.now _).eq ?_)
    rw [decide_eq_false (show ¬ (0 ≤ b ∧ b ≤ if a < 2 then 39 else 2147483567) by omega), Bool.false_and]
   refine Ev.ifn hb ?_
   refine Ev.bindc (a := if a < 2 then 39 else 2147483567) (by
    unfold oid_most.f
    rw [if_neg (by decide), if_neg (by decide), if_pos (by omega), show rd (a :: b :: r) 0 = a from rfl]
    split <;> rfl) ?_
   by_cases hb2 : b > if a < 2 then 39 else 2147483567
   ·refine Ev.ifp hb2 ((Ev.now _).eq ?_)
    rw [decide_eq_false (show ¬ (0 ≤ b ∧ b ≤ if a < 2 then 39 else 2147483567) by omega), Bool.false_and]
   refine Ev.ifn hb2 ?_
   rw [decide_eq_true (show 0 ≤ b ∧ b ≤ if a < 2 then 39 else 2147483567 by omega), Bool.true_and, show wrap64 (1 + 1) = 2 from w64 (by decide) (by decide)]
   exact hl
  ·rw [decide_eq_true (by simp <;> omega)]
   refine hno.eq ?_
   rw [rightA, decide_eq_false h20, Bool.false_and]
theorem right_parts {arcs : List Int} (h : rightA arcs = true) : ∃ a b r, arcs = a :: b :: r ∧ r.length ≤ 18 ∧ 0 ≤ a ∧ a ≤ 2 ∧ 0 ≤ b ∧ (a < 2 → b ≤ 39) ∧ b ≤ 2147483567 ∧ ∀ x ∈ r, 0 ≤ x ∧ x ≤ 2147483647 := by
 match arcs, h with
 | [], h => simp [rightA] at h
 | [a], h => simp [rightA] at h
 | a :: b :: r, h =>
  rw [rightA] at h
  simp only [Bool.and_eq_true, decide_eq_true_eq, List.all_eq_true] at h
  obtain ⟨h1, h2, h3, h4⟩ := h
  refine ⟨a, b, r, rfl, h1, h2.1, h2.2, h3.1, fun h => by have := h3.2; rw [if_pos h] at this; exact this, by have := h3.2; split at this <;> omega, fun x hx => of_decide_eq_true (h4 x hx)⟩
theorem ref17_right_loop (l : List Int) (h2 : 2 ≤ l.length) (hs : l.length ≤ 1000) (d : Nat) : ∀ i : Nat, 2 ≤ i → i ≤ l.length → l.length - i = d →
 Ev (fun k => cr17_Right.l0 k l (i : Int)) ((l.drop i).all okArc) := by
 induction d with
 | zero =>
  intro i _ hi hd
  refine Ev.step (fun k => by rw [cr17_Right.l0]) ?_
  refine Ev.ifn (by omega) ?_
  rw [List.drop_eq_nil_of_le (by omega)]
  exact Ev.now _
 | succ d ih =>
  intro i hi2 hi hd
  have hlt : i < l.length := by omega
  refine Ev.step (fun k => by rw [cr17_Right.l0]) ?_
  refine Ev.ifp (by omega) ?_
  refine Ev.ifn (by omega) ?_
  refine Ev.ifp (by omega) ?_
  rw [rd_get i hlt, List.drop_eq_getElem_cons hlt, List.all_cons]
  by_cases h0 : l[i] < 0
  ·refine Ev.ifp h0 ((Ev.now _).eq ?_)
   have : okArc l[i] = false := decide_eq_false (by omega)
   rw [this, Bool.false_and]
  refine Ev.ifn h0 ?_
  by_cases h1 : l[i] > 2147483647
  ·refine Ev.ifp h1 ((Ev.now _).eq ?_)
   have : okArc l[i] = false := decide_eq_false (by omega)
   rw [this, Bool.false_and]
  ·refine Ev.ifn h1 ?_
   have : okArc l[i] = true := decide_eq_true (by omega)
   rw [this, Bool.true_and, w64 (by omega) (by omega)]
   exact ih (i + 1) (by omega) (by omega) (by omega)
theorem ref17_right_is (l : List Int) (hs : l.length ≤ 1000000) : Ev (fun k => cr17_Right.f k l) (rightA l) := by
 have hno : Ev (fun k => cr17_Right.j0 k l true) false := by
  refine Ev.step (fun k => by rw [cr17_Right.j0]) ?_
  exact Ev.ifp rfl (Ev.now _)
 refine Ev.congr (fun k => by rw [cr17_Right.f]) ?_
 match l, hno with
 | [], hno => exact Ev.ifp (by decide) hno
 | [a], hno => exact Ev.ifp (by simp) hno
 | a :: b :: r, hno =>
  refine Ev.ifn (by simp <;> omega) ?_
  by_cases h20 : r.length ≤ 18
  ·refine Ev.ifn (by simp <;> omega) ?_
   have hlen : (a :: b :: r).length = r.length + 2 := rfl
   rw [rightA, decide_eq_true h20, Bool.true_and]
   have hl := ref17_right_loop (a :: b :: r) (by omega) (by omega) _ 2 (by omega) (by omega) rfl
   refine Ev.ifp (by omega) ?_
   rw [show rd (a :: b :: r) 0 = a from rfl]
   by_cases ha : a < 0
   ·refine Ev.ifp ha (hno.eq ?_)
    rw [decide_eq_false (show ¬ (0 ≤ a ∧ a ≤ 2) by omega), Bool.false_and]
   refine Ev.ifn ha ?_
   by_cases ha2 : a > 2
   ·rw [decide_eq_true ha2]
    refine hno.eq ?_
    rw [decide_eq_false (show ¬ (0 ≤ a ∧ a ≤ 2) by omega), Bool.false_and]
   rw [decide_eq_false ha2, decide_eq_true (show 0 ≤ a ∧ a ≤ 2 by omega), Bool.true_and]
   refine Ev.step (fun k => by rw [cr17_Right.j0]) ?_
   refine Ev.ifn (by simp) ?_
   refine Ev.step (fun k => by rw [cr17_Right.l0]) ?_
   refine Ev.ifp (by omega) ?_
   refine Ev.ifp rfl ?_
   refine Ev.ifp (by omega) ?_
   rw [show rd (a :: b :: r) 1 = b from rfl, show rd (a :: b :: r) 0 = a from rfl]
   by_cases h2 : a < 2
   ·refine Ev.ifp h2 ?_
    refine Ev.ifp (by decide) ?_
    rw [if_pos h2]
    by_cases hb : b < 0
    ·refine Ev.ifp hb ((Ev.now _).eq ?_)
     rw [decide_eq_false (show ¬ (0 ≤ b ∧ b ≤ 39) by omega), Bool.false_and]
    refine Ev.ifn hb ?_
    by_cases hb2 : b > 39
    ·refine Ev.ifp hb2 ((Ev.now _).eq ?_)
     rw [decide_eq_false (show ¬ (0 ≤ b ∧ b ≤ 39) by omega), Bool.false_and]
    refine Ev.ifn hb2 ?_
    rw [decide_eq_true (show 0 ≤ b ∧ b ≤ 39 by omega), Bool.true_and, show wrap64 (1 + 1) = 2 from w64 (by decide) (by decide)]
    exact hl
   ·refine Ev.ifn h2 ?_
    refine Ev.ifp (by decide) ?_
    rw [if_neg h2]
    by_cases hb : b < 0
    ·refine Ev.ifp hb ((Ev.now _).eq ?_)
     rw [decide_eq_false (show ¬ (0 ≤ b ∧ b ≤ 2147483567) by omega), Bool.false_and]
    refine Ev.ifn hb ?_
    by_cases hb2 : b > 2147483567
    ·refine Ev.ifp hb2 ((Ev.now _).eq ?_)
     rw [decide_eq_false (show ¬ (0 ≤ b ∧ b ≤ 2147483567) by omega), Bool.false_and]
    refine Ev.ifn hb2 ?_
    rw [decide_eq_true (show 0 ≤ b ∧ b ≤ 2147483567 by omega), Bool.true_and, show wrap64 (1 + 1) = 2 from w64 (by decide) (by decide)]
    exact hl
  ·refine Ev.ifp (by simp <;> omega) ?_
   refine hno.eq ?_
   rw [rightA, decide_eq_false h20, Bool.false_and]
def hi (m : Nat) : List Int := if h : m = 0 then [] else hi (m / 128) ++ [128 + ((m % 128 : Nat) : Int)]
termination_by m
decreasing_by omega
def dig (m : Nat) : List Int := hi (m / 128) ++ [((m % 128 : Nat) : Int)]
theorem hi_zero : hi 0 = [] := by rw [hi]; simp
theorem hi_pos {m : Nat} (h : m ≠ 0) : hi m = hi (m / 128) ++ [128 + ((m % 128 : Nat) : Int)] := by rw [hi]; simp [h]
theorem hi_snoc (n : Nat) (b : Nat) (hb : 128 ≤ b) (hb2 : b < 256) (h : n * 128 + b % 128 ≠ 0) : hi (n * 128 + b % 128) = hi n ++ [(b : Int)] := by
 rw [hi_pos h, show (n * 128 + b % 128) / 128 = n by omega, show (n * 128 + b % 128) % 128 = b % 128 by omega]
 congr 2
 omega
theorem dig_snoc (n : Nat) (b : Nat) (hb : b < 128) : dig (n * 128 + b % 128) = hi n ++ [(b : Int)] := by
 rw [dig, show (n * 128 + b % 128) / 128 = n by omega, show (n * 128 + b % 128) % 128 = b by omega]
def numsP : List Int → List Int → Int → Bool → List Int × Bool
 | [], out, _, begun => (out, !begun && decide (0 < out.length ∧ out.length < 20))
 | b :: l, out, n, begun => if (begun = false ∧ b = 128) ∨ n > 2147483647 then ([], false) else if b ≥ 128 then numsP l out (n * 128 + b % 128) true else numsP l (out ++ [n * 128 + b % 128]) 0 false
theorem and127_all : ((List.range 256).all fun x => decide (Go.bits .and .u8 (x : Int) 127 = (x : Int) % 128)) = true := by kernel_rfl
theorem and127 {x : Int} (h0 : 0 ≤ x) (h1 : x < 256) : Go.bits .and .u8 x 127 = x % 128 := by
 have h := List.all_eq_true.1 and127_all x.toNat (List.mem_range.2 (by omega))
 rw [Int.toNat_of_nonneg h0] at h
 exact of_decide_eq_true h
theorem or_i64_low (i : Nat) {x y : Int} (hx0 : 0 ≤ x) (hx : x % 2 ^ i = 0) (hx1 : x < 9223372036854775808) (hy0 : 0 ≤ y) (hy : y < 2 ^ i) (hi : i ≤ 63) : Go.bits .or .i64 x y = x + y := by
 refine bits_join .i64 63 (by decide) (fun n h0 h1 => by rw [IntKind.wrap_i64]; omega) i x y hx0 hx (by simpa using hx1) hy0 hy ?_
 have : (2 : Int) ^ i ≤ 2 ^ 63 := by exact_mod_cast Nat.pow_le_pow_right (by decide) hi
 omega
theorem nums_loop (l : List Int) (hl : OkB l) (hs : l.length ≤ 1000000) (d : Nat) : ∀ (i : Nat) (out : List Int) (n : Int) (begun : Bool), i ≤ l.length → l.length - i = d → out.length ≤ i → 0 ≤ n → n ≤ 274877907071 →
 Ev (fun k => oid_numbers.l0 k (strOfNums l) out n begun (l.length : Int) (i : Int)) (numsP (l.drop i) out n begun) := by
 induction d with
 | zero =>
  intro i out n begun hi hd ho _ _
  refine Ev.step (fun k => by rw [oid_numbers.l0]) ?_
  refine Ev.ifn (by omega) ?_
  rw [List.drop_eq_nil_of_le (by omega), numsP]
  cases begun with
  | true => exact Ev.ifp rfl (Ev.now _)
  | false =>
   refine Ev.ifn (by simp) ?_
   by_cases h0 : (out.length : Int) > 0
   ·refine Ev.ifp h0 ((Ev.now _).eq ?_)
    have : (decide ((out.length : Int) < 20)) = decide (0 < out.length ∧ out.length < 20) := decide_eq_decide.2 (by omega)
    rw [this]; rfl
   ·refine Ev.ifn h0 ((Ev.now _).eq ?_)
    have : decide (0 < out.length ∧ out.length < 20) = false := decide_eq_false (by omega)
    rw [this]; rfl
 | succ d ih =>
  intro i out n begun hi hd ho hn0 hn
  have hlt : i < l.length := by omega
  have hb := hl.get i hlt
  have hbt := nums_bt hl i hlt
  rw [List.drop_eq_getElem_cons hlt, numsP]
  have hno : Ev (fun k => oid_numbers.j1 k (strOfNums l) out n (i : Int) (l.length : Int) (i : Int) true) ([], false) := by
   refine Ev.step (fun k => by rw [oid_numbers.j1]) ?_
   exact Ev.ifp rfl (Ev.now _)
  have hyes : ¬ n > 2147483647 → Ev (fun k => oid_numbers.j1 k (strOfNums l) out n (i : Int) (l.length : Int) (i : Int) false) (if l[i] ≥ 128 then numsP (l.drop (i + 1)) out (n * 128 + l[i] % 128) true else numsP (l.drop (i + 1)) (out ++ [n * 128 + l[i] % 128]) 0 false) := by
   intro hm
   refine Ev.step (fun k => by rw [oid_numbers.j1]) ?_
   refine Ev.ifn (by simp) ?_
   rw [nums_sizeI, hbt, and127 hb.1 hb.2, w64 (x := n * 128) (by omega) (by omega), w64 (x := l[i] % 128) (by omega) (by omega), w64 (x := (i : Int) + 1) (by omega) (by omega),
    or_i64_low 7 (by omega) (by omega) (by omega) (by omega) (by omega) (by decide)]
   refine Ev.ifp (by omega) ?_
   refine Ev.ifp (by omega) ?_
   by_cases h : l[i] ≥ 128
   ·refine Ev.ifp h ?_
    rw [if_pos h, decide_eq_true h]
    exact ih (i + 1) out _ true (by omega) (by omega) (by omega) (by omega) (by omega)
   ·refine Ev.ifn h ?_
    refine Ev.ifp (by omega) ?_
    rw [if_neg h, decide_eq_false h]
    exact ih (i + 1) _ 0 false (by omega) (by omega) (by simp; omega) (by omega) (by omega)
  refine Ev.step (fun k => by rw [oid_numbers.l0]) ?_
  refine Ev.ifp (by omega) ?_
  cases begun with
  | true =>
   refine Ev.ifp rfl ?_
   by_cases hm : n > 2147483647
   ·rw [decide_eq_true hm, if_pos (Or.inr hm)]
    exact hno
   ·rw [decide_eq_false hm, if_neg (by simp; omega)]
    exact hyes hm
  | false =>
   refine Ev.ifn (by simp) ?_
   rw [nums_sizeI, hbt]
   refine Ev.ifp (by omega) ?_
   refine Ev.ifp (by omega) ?_
   by_cases h128 : l[i] = 128
   ·refine Ev.ifp h128 ?_
    rw [if_pos (Or.inl ⟨rfl, h128⟩)]
    exact hno
   ·refine Ev.ifn h128 ?_
    by_cases hm : n > 2147483647
    ·rw [decide_eq_true hm, if_pos (Or.inr hm)]
     exact hno
    ·rw [decide_eq_false hm, if_neg (by simp [h128]; omega)]
     exact hyes hm
theorem nums_is (l : List Int) (hl : OkB l) (hs : l.length ≤ 1000000) : Ev (fun k => oid_numbers.f k (strOfNums l)) (numsP l [] 0 false) := by
 refine Ev.congr (fun k => by rw [oid_numbers.f, nums_sizeI]) ?_
 exact nums_loop l hl hs _ 0 [] 0 false (by omega) rfl (by simp) (by decide) (by decide)
def digs : List Int → List Int
 | [] => []
 | m :: r => dig m.toNat ++ digs r
theorem nums_sound : ∀ (l : List Int) (out : List Int) (n : Nat) (begun : Bool) (res : List Int), OkB l → begun = decide (n ≠ 0) → numsP l out n begun = (res, true) →
 ∃ ms : List Int, res = out ++ ms ∧ hi n ++ l = digs ms ∧ ∀ m ∈ ms, 0 ≤ m := by
 intro l
 induction l with
 | nil =>
  intro out n begun res _ hb h
  rw [numsP] at h
  simp only [Prod.mk.injEq, Bool.and_eq_true, Bool.not_eq_true'] at h
  obtain ⟨rfl, h1, _⟩ := h
  rw [h1] at hb
  have hn : n = 0 := by
   have := of_decide_eq_false hb.symm
   omega
  subst hn
  exact ⟨[], by simp, by rw [hi_zero]; rfl, by simp⟩
 | cons b l ih =>
  intro out n begun res hl hb h
  have hbd := hl.head
  obtain ⟨c, rfl⟩ : ∃ c : Nat, b = (c : Int) := ⟨b.toNat, by omega⟩
  rw [numsP] at h
  split at h
  ·simp at h
  ·rename_i hno
   have e : (n : Int) * 128 + (c : Int) % 128 = ((n * 128 + c % 128 : Nat) : Int) := by omega
   rw [e] at h
   split at h
   ·rename_i h128
    have hz : n * 128 + c % 128 ≠ 0 := by
     intro hz
     apply hno
     left
     have hn : n = 0 := by omega
     rw [hb, hn]
     exact ⟨rfl, by omega⟩
    obtain ⟨ms, e1, e2, e3⟩ := ih out (n * 128 + c % 128) true res hl.tail (decide_eq_true hz).symm h
    refine ⟨ms, e1, ?_, e3⟩
    rw [← e2, hi_snoc n c (by omega) (by omega) hz]
    simp
   ·rename_i h128
    obtain ⟨ms, e1, e2, e3⟩ := ih (out ++ [((n * 128 + c % 128 : Nat) : Int)]) 0 false res hl.tail (by simp) h
    refine ⟨((n * 128 + c % 128 : Nat) : Int) :: ms, by rw [e1]; simp, ?_, ?_⟩
    ·rw [digs, ← e2, hi_zero, Int.toNat_natCast, dig_snoc n c (by omega)]
     simp
    ·intro m hm
     rcases List.mem_cons.1 hm with rfl | hm
     ·omega
     ·exact e3 m hm
theorem hi_head (m : Nat) (r out : List Int) (hm : m ≤ 2147483647) : numsP (hi m ++ r) out 0 false = numsP r out (m : Int) (decide (m ≠ 0)) := by
 induction m using Nat.strongRecOn generalizing r with
 | _ m ih =>
  by_cases h : m = 0
  ·subst h
   rw [hi_zero]
   rfl
  ·rw [hi_pos h, List.append_assoc, ih (m / 128) (by omega) _ (by omega), List.singleton_append, numsP, if_neg, if_pos (by omega)]
   ·rw [show (((m / 128 : Nat) : Int) * 128 + (128 + ((m % 128 : Nat) : Int)) % 128) = (m : Int) by omega]
    simp [h]
   ·simp only [decide_eq_false_iff_not, not_or]
    omega
theorem nums_dig (m : Nat) (r out : List Int) (hm : m ≤ 2147483647) : numsP (dig m ++ r) out 0 false = numsP r (out ++ [(m : Int)]) 0 false := by
 rw [dig, List.append_assoc, hi_head _ _ _ (by omega), List.singleton_append, numsP, if_neg, if_neg (by omega)]
 ·rw [show (((m / 128 : Nat) : Int) * 128 + ((m % 128 : Nat) : Int) % 128) = (m : Int) by omega]
 ·simp only [decide_eq_false_iff_not, not_or]
  omega
theorem nums_digs : ∀ (ms : List Int) (out : List Int), (∀ m ∈ ms, 0 ≤ m ∧ m ≤ 2147483647) → numsP (digs ms) out 0 false = (out ++ ms, decide (0 < (out ++ ms).length ∧ (out ++ ms).length < 20))
 | [], out, _ => by rw [digs, numsP]; simp
 | m :: ms, out, h => by
  have h1 := h m (by simp)
  rw [digs, nums_dig _ _ _ (by omega), nums_digs ms _ (fun x hx => h x (List.mem_cons_of_mem _ hx)), Int.toNat_of_nonneg h1.1]
  simp
def numsOf : List Int → List Int
 | a :: b :: r => (40 * a + b) :: r
 | _ => []
def goodA (l arcs : List Int) : Prop := rightA arcs = true ∧ l = digs (numsOf arcs)
theorem arcs_of {a b : Int} (ha0 : 0 ≤ a) (ha : a ≤ 2) (hb0 : 0 ≤ b) (hb : a < 2 → b ≤ 39) : mn 2 ((40 * a + b) / 40) = a := by
 unfold mn
 split <;> omega
def arcsOf : List Int → List Int
 | m :: r => mn 2 (m / 40) :: (m - 40 * mn 2 (m / 40)) :: r
 | [] => []
def decA (l : List Int) : List Int × Bool := if (numsP l [] 0 false).2 = true then (if rightA (arcsOf (numsP l [] 0 false).1) = true then (arcsOf (numsP l [] 0 false).1, true) else ([], false)) else ([], false)
theorem mn_bd {m : Int} (h0 : 0 ≤ m) : 0 ≤ mn 2 (m / 40) ∧ mn 2 (m / 40) ≤ 2 ∧ 40 * mn 2 (m / 40) ≤ m := by
 unfold mn
 split <;> omega
theorem nums_bd : ∀ (l : List Int) (out : List Int) (n : Int) (begun : Bool), OkB l → 0 ≤ n → n ≤ 274877907071 → (∀ m ∈ out, 0 ≤ m ∧ m ≤ 274877907071) → ∀ m ∈ (numsP l out n begun).1, 0 ≤ m ∧ m ≤ 274877907071
 | [], out, n, begun, _, _, _, h => by rw [numsP]; exact h
 | b :: l, out, n, begun, hl, h0, h1, h => by
  have hb := hl.head
  rw [numsP]
  split
  ·intro m hm; cases hm
  ·split
   ·exact nums_bd l out _ true hl.tail (by omega) (by omega) h
   ·refine nums_bd l _ 0 false hl.tail (by decide) (by decide) ?_
    intro m hm
    rcases List.mem_append.1 hm with hm | hm
    ·exact h m hm
    ·obtain rfl := List.mem_singleton.1 hm
     omega
theorem nums_len : ∀ (l : List Int) (out : List Int) (n : Int) (begun : Bool) (res : List Int), numsP l out n begun = (res, true) → 0 < res.length ∧ res.length < 20
 | [], out, n, begun, res, h => by
  rw [numsP] at h
  simp only [Prod.mk.injEq, Bool.and_eq_true, decide_eq_true_eq] at h
  obtain ⟨rfl, _, h⟩ := h
  exact h
 | b :: l, out, n, begun, res, h => by
  rw [numsP] at h
  split at h
  ·simp at h
  ·split at h
   ·exact nums_len l _ _ _ res h
   ·exact nums_len l _ _ _ res h
theorem oid_decode_is (l : List Int) (hl : OkB l) (hs : l.length ≤ 1000000) : Ev (fun k => oid_Decode.f k (strOfNums l)) (decA l) := by
 refine Ev.congr (fun k => by rw [oid_Decode.f]) ?_
 refine Ev.bind (nums_is l hl (by omega)) ?_
 unfold decA
 by_cases h : (numsP l [] 0 false).2 = true
 ·refine Ev.ifp h ?_
  rw [if_pos h]
  have hbd := nums_bd l [] 0 false hl (by decide) (by decide) (by simp)
  have hlen : 0 < (numsP l [] 0 false).1.length ∧ (numsP l [] 0 false).1.length < 20 := by
   exact nums_len l [] 0 false _ (by rw [Prod.ext_iff]; exact ⟨rfl, h⟩)
  generalize (numsP l [] 0 false).1 = ms at *
  match ms, hlen with
  | m :: r, hlen =>
   have hm := hbd m (by simp)
   have hq := mn_bd hm.1
   have ht : Int.tdiv m 40 = m / 40 := Int.tdiv_eq_ediv_of_nonneg hm.1
   refine Ev.ifp (by simp <;> omega) ?_
   rw [show rd (m :: r) 0 = m from rfl, ht, w64 (x := m / 40) (by omega) (by omega), w64 (x := 40 * mn 2 (m / 40)) (by omega) (by omega), w64 (x := m - 40 * mn 2 (m / 40)) (by omega) (by omega)]
   refine Ev.bindc rfl ?_
   refine Ev.ifp (by simp <;> omega) ?_
   refine Ev.bindc rfl ?_
   refine Ev.ifp (by simp at hlen ⊢; omega) ?_
   refine Ev.bindc rfl ?_
   refine Ev.bind (oid_right_is _ (by simp at hlen ⊢; omega)) ?_
   rw [show ([mn 2 (m / 40), m - 40 * mn 2 (m / 40)] : List Int) ++ (m :: r).drop 1 = arcsOf (m :: r) from rfl]
   by_cases hr : rightA (arcsOf (m :: r)) = true
   ·exact Ev.ifp hr ((Ev.now _).eq (if_pos hr).symm)
   ·exact Ev.ifn hr ((Ev.now _).eq (if_neg hr).symm)
 ·refine Ev.ifn h ?_
  rw [if_neg h]
  exact Ev.now _
theorem decA_sound {l arcs : List Int} (hl : OkB l) (h : decA l = (arcs, true)) : goodA l arcs := by
 unfold decA at h
 split at h
 ·rename_i h1
  split at h
  ·rename_i h2
   simp only [Prod.mk.injEq, and_true] at h
   subst h
   refine ⟨h2, ?_⟩
   obtain ⟨ms, e1, e2, e3⟩ := nums_sound l [] 0 false (numsP l [] 0 false).1 hl rfl (by rw [Prod.ext_iff]; exact ⟨rfl, h1⟩)
   rw [hi_zero, List.nil_append] at e2
   rw [List.nil_append] at e1
   rw [e1] at h2 ⊢
   rw [e2]
   match ms, h2 with
   | m :: r, h2 =>
    rw [arcsOf, numsOf]
    congr 2
    omega
   | [], h2 => rfl
  ·simp at h
 ·simp at h
theorem decA_complete {l arcs : List Int} (h : goodA l arcs) : decA l = (arcs, true) := by
 obtain ⟨hr, rfl⟩ := h
 obtain ⟨a, b, r, rfl, h18, ha0, ha, hb0, hb39, hb, hx⟩ := right_parts hr
 have hn : numsP (digs (numsOf (a :: b :: r))) [] 0 false = (numsOf (a :: b :: r), true) := by
  rw [numsOf, nums_digs]
  ·rw [List.nil_append]
   congr 1
   exact decide_eq_true (by simp; omega)
  ·intro m hm
   rcases List.mem_cons.1 hm with rfl | hm
   ·omega
   ·exact hx m hm
 have he : arcsOf (numsOf (a :: b :: r)) = a :: b :: r := by
  rw [numsOf, arcsOf, arcs_of ha0 ha hb0 hb39]
  congr 2
  omega
 unfold decA
 rw [hn]
 simp only [if_true]
 rw [he, if_pos hr]
theorem digs_ok : ∀ (ms : List Int), OkB (digs ms)
 | [] => OkB.nil
 | m :: r => by
  rw [digs]
  have hh : ∀ n : Nat, OkB (hi n) := by
   intro n
   induction n using Nat.strongRecOn with
   | _ n ih =>
    by_cases h : n = 0
    ·subst h; rw [hi_zero]; exact OkB.nil
    ·rw [hi_pos h]
     exact (ih _ (by omega)).append (OkB.one (by omega) (by omega))
  exact ((hh _).append (OkB.one (by omega) (by omega))).append (digs_ok r)
theorem digits_loop (n : Nat) (hn : n ≤ 4294967296) : ∀ (m : Nat) (s : List Int), m ≤ n → s.length + m ≤ 9223372036854775000 → Ev (fun k => cr17_digits.l0 k (m : Int) (strOfNums s)) (strOfNums (hi m ++ s)) := by
 intro m
 induction m using Nat.strongRecOn with
 | _ m ih =>
  intro s hm hs
  refine Ev.step (fun k => by rw [cr17_digits.l0]) ?_
  by_cases h : m = 0
  ·subst h
   refine Ev.ifn (by decide) ?_
   rw [hi_zero]
   exact Ev.now _
  ·refine Ev.ifp (by omega) ?_
   have ht : Int.tmod (m : Int) 128 = ((m % 128 : Nat) : Int) := by
    rw [Int.tmod_eq_emod_of_nonneg (by omega)]; omega
   have hd : Int.tdiv (m : Int) 128 = ((m / 128 : Nat) : Int) := by
    rw [Int.tdiv_eq_ediv_of_nonneg (by omega)]; omega
   rw [ht, hd, w64 (by omega) (by omega), w64 (by omega) (by omega), show (128 + ((m % 128 : Nat) : Int)) % 256 = 128 + ((m % 128 : Nat) : Int) by omega]
   refine Ev.bindc rfl ?_
   rw [str_append, nums_size, nums_size]
   refine Ev.ifp (by simp; omega) ?_
   refine (ih (m / 128) (by omega) _ (by omega) (by simp; omega)).eq ?_
   rw [hi_pos h, List.append_assoc]
theorem digits_is (m : Nat) (h : m ≤ 4294967296) : Ev (fun k => cr17_digits.f k (m : Int)) (strOfNums (dig m)) := by
 refine Ev.congr (fun k => by rw [cr17_digits.f]) ?_
 have ht : Int.tmod (m : Int) 128 = ((m % 128 : Nat) : Int) := by
  rw [Int.tmod_eq_emod_of_nonneg (by omega)]; omega
 have hd : Int.tdiv (m : Int) 128 = ((m / 128 : Nat) : Int) := by
  rw [Int.tdiv_eq_ediv_of_nonneg (by omega)]; omega
 rw [ht, hd, w64 (by omega) (by omega), show ((m % 128 : Nat) : Int) % 256 = ((m % 128 : Nat) : Int) by omega]
 exact digits_loop (m / 128) (by omega) (m / 128) _ (by omega) (by simp; omega)
theorem hi_length (m : Nat) : (hi m).length ≤ m := by
 induction m using Nat.strongRecOn with
 | _ m ih =>
  by_cases h : m = 0
  ·subst h; rw [hi_zero]; simp
  ·rw [hi_pos h]
   have := ih (m / 128) (by omega)
   simp
   omega
theorem dig_length (m : Nat) : (dig m).length ≤ m + 1 := by
 have := hi_length (m / 128)
 rw [dig]
 simp
 omega
theorem enc_loop (arcs : List Int) (h : ∀ x ∈ arcs, 0 ≤ x ∧ x ≤ 2147483647) (hs : arcs.length ≤ 1000) (d : Nat) : ∀ (i : Nat) (s : List Int), i ≤ arcs.length → arcs.length - i = d → s.length ≤ 4294967297 * (i + 1) →
 Ev (fun k => cr17_Encode.l0 k arcs (strOfNums s) (i : Int)) (strOfNums (s ++ digs (arcs.drop i)), true) := by
 induction d with
 | zero =>
  intro i s hi hd _
  refine Ev.step (fun k => by rw [cr17_Encode.l0]) ?_
  refine Ev.ifn (by omega) ?_
  rw [List.drop_eq_nil_of_le (by omega), digs, List.append_nil]
  exact Ev.now _
 | succ d ih =>
  intro i s hi hd hsz
  have hlt : i < arcs.length := by omega
  have hx := h _ (List.getElem_mem hlt)
  refine Ev.step (fun k => by rw [cr17_Encode.l0]) ?_
  refine Ev.ifp (by omega) ?_
  refine Ev.ifp (by omega) ?_
  rw [rd_get i hlt]
  have hdg := digits_is arcs[i].toNat (by omega)
  rw [Int.toNat_of_nonneg hx.1] at hdg
  refine Ev.bind hdg ?_
  have hdl := dig_length arcs[i].toNat
  rw [nums_size, nums_size, str_append]
  refine Ev.ifp (by omega) ?_
  rw [w64 (by omega) (by omega)]
  refine (ih (i + 1) _ (by omega) (by omega) (by simp; omega)).eq ?_
  rw [List.drop_eq_getElem_cons hlt, digs, List.append_assoc]
theorem ref17_encode_is (arcs : List Int) (hs : arcs.length ≤ 1000) : Ev (fun k => cr17_Encode.f k arcs) (if rightA arcs = true then (strOfNums (digs (numsOf arcs)), true) else (⟨#[]⟩, false)) := by
 refine Ev.congr (fun k => by rw [cr17_Encode.f]) ?_
 refine Ev.bind (ref17_right_is arcs (by omega)) ?_
 by_cases hr : rightA arcs = true
 ·refine Ev.ifp hr ?_
  rw [if_pos hr]
  obtain ⟨a, b, r, rfl, h18, ha0, ha, hb0, hb39, hb, hx⟩ := right_parts hr
  refine Ev.ifp (by simp <;> omega) ?_
  refine Ev.ifp (by simp <;> omega) ?_
  rw [show rd (a :: b :: r) 0 = a from rfl, show rd (a :: b :: r) 1 = b from rfl, w64 (x := 40 * a) (by omega) (by omega), w64 (x := 40 * a + b) (by omega) (by omega)]
  have hdg := digits_is (40 * a + b).toNat (by omega)
  rw [Int.toNat_of_nonneg (by omega)] at hdg
  refine Ev.bind hdg ?_
  have hdl := dig_length (40 * a + b).toNat
  refine (enc_loop (a :: b :: r) ?_ (by simp; omega) _ 2 _ (by simp) rfl (by omega)).eq ?_
  ·intro x hm
   rcases List.mem_cons.1 hm with rfl | hm
   ·omega
   rcases List.mem_cons.1 hm with rfl | hm
   ·omega
   ·exact hx x hm
  ·rw [numsOf, digs]
   rfl
 ·refine Ev.ifn hr ?_
  rw [if_neg hr]
  exact Ev.now _
def decR : List Int → List Int → Int → Option (List Int)
 | [], out, _ => some out
 | b :: l, out, n => if out.length < 21 then (if 128 * n + b % 128 > 4294967296 then none else if b > 127 then decR l out (128 * n + b % 128) else decR l (if out = [] then [mn 2 ((128 * n + b % 128) / 40), (128 * n + b % 128) - 40 * mn 2 ((128 * n + b % 128) / 40)] else out ++ [128 * n + b % 128]) 0) else some out
theorem ref17_dec_end (l out : List Int) (hl : OkB l) (ho : out.length ≤ 22) (n i : Int) : Ev (fun k => cr17_Decode.j1 k (strOfNums l) out n i false) (if rightA out = true ∧ digs (numsOf out) = l then (out, true) else ([], false)) := by
 refine Ev.step (fun k => by rw [cr17_Decode.j1]) ?_
 refine Ev.ifn (by simp) ?_
 refine Ev.bind (ref17_encode_is out (by omega)) ?_
 by_cases hr : rightA out = true
 ·rw [if_pos hr]
  refine Ev.ifp rfl ?_
  by_cases he : digs (numsOf out) = l
  ·refine Ev.ifp ((nums_toList (digs_ok _) hl).2 he) ((Ev.now _).eq ?_)
   rw [if_pos ⟨hr, he⟩]
  ·refine Ev.ifn (fun e => he ((nums_toList (digs_ok _) hl).1 e)) ((Ev.now _).eq ?_)
   rw [if_neg (fun h => he h.2)]
 ·rw [if_neg hr]
  refine Ev.ifn (by simp) ((Ev.now _).eq ?_)
  rw [if_neg (fun h => hr h.1)]
def decE (l : List Int) : Option (List Int) → List Int × Bool
 | none => ([], false)
 | some out => if rightA out = true ∧ digs (numsOf out) = l then (out, true) else ([], false)
theorem ref17_dec_loop (l : List Int) (hl : OkB l) (hs : l.length ≤ 1000000) (d : Nat) : ∀ (i : Nat) (out : List Int) (n : Int), i ≤ l.length → l.length - i = d → out.length ≤ 22 → 0 ≤ n → n ≤ 4294967296 →
 Ev (fun k => cr17_Decode.l0 k (strOfNums l) out n (i : Int)) (decE l (decR (l.drop i) out n)) := by
 induction d with
 | zero =>
  intro i out n hi hd ho _ _
  refine Ev.step (fun k => by rw [cr17_Decode.l0, nums_sizeI]) ?_
  refine Ev.ifn (by omega) ?_
  rw [List.drop_eq_nil_of_le (by omega), decR]
  exact ref17_dec_end l out hl ho n i
 | succ d ih =>
  intro i out n hi hd ho hn0 hn
  have hlt : i < l.length := by omega
  have hb := hl.get i hlt
  have hbt := nums_bt hl i hlt
  rw [List.drop_eq_getElem_cons hlt, decR]
  refine Ev.step (fun k => by rw [cr17_Decode.l0, nums_sizeI]) ?_
  refine Ev.ifp (by omega) ?_
  by_cases h21 : out.length < 21
  ·rw [if_pos h21, decide_eq_true (by omega)]
   have ht : Int.tmod l[i] 128 = l[i] % 128 := Int.tmod_eq_emod_of_nonneg hb.1
   refine Ev.step (fun k => by rw [cr17_Decode.j1, nums_sizeI, hbt]) ?_
   refine Ev.ifp rfl ?_
   refine Ev.ifp (by omega) ?_
   refine Ev.ifp (by omega) ?_
   rw [w64 (x := l[i]) (by omega) (by omega), ht, w64 (x := 128 * n) (by omega) (by omega), w64 (x := 128 * n + l[i] % 128) (by omega) (by omega), w64 (x := (i : Int) + 1) (by omega) (by omega)]
   by_cases hbig : 128 * n + l[i] % 128 > 4294967296
   ·refine Ev.ifp hbig ?_
    rw [if_pos hbig]
    exact Ev.now _
   refine Ev.ifn hbig ?_
   rw [if_neg hbig]
   obtain ⟨v, hv⟩ : ∃ v, 128 * n + l[i] % 128 = v := ⟨_, rfl⟩
   rw [hv] at hbig ⊢
   have hv0 : 0 ≤ v := by omega
   by_cases h127 : l[i] > 127
   ·refine Ev.ifp h127 ?_
    rw [if_pos h127]
    exact ih (i + 1) out v (by omega) (by omega) ho hv0 (by omega)
   refine Ev.ifn h127 ?_
   rw [if_neg h127]
   have hq : Int.tdiv v 40 = v / 40 := Int.tdiv_eq_ediv_of_nonneg hv0
   rw [hq, w64 (x := v / 40) (by omega) (by omega)]
   by_cases he : out = []
   ·subst he
    refine Ev.ifp rfl ?_
    rw [if_pos rfl]
    by_cases h2 : v / 40 > 2
    ·refine Ev.ifp h2 ?_
     refine Ev.ifp (by decide) ?_
     refine Ev.bindc rfl ?_
     refine Ev.ifp (by simp) ?_
     rw [w64 (x := v - 80) (by omega) (by omega)]
     refine (ih (i + 1) _ 0 (by omega) (by omega) (by simp) (by decide) (by decide)).eq ?_
     have : mn 2 (v / 40) = 2 := by unfold mn; split <;> omega
     rw [this]
     rfl
    ·refine Ev.ifn h2 ?_
     refine Ev.ifp (by decide) ?_
     refine Ev.bindc rfl ?_
     refine Ev.ifp (by simp) ?_
     rw [w64 (x := 40 * (v / 40)) (by omega) (by omega), w64 (x := v - 40 * (v / 40)) (by omega) (by omega)]
     refine (ih (i + 1) _ 0 (by omega) (by omega) (by simp) (by decide) (by decide)).eq ?_
     have : mn 2 (v / 40) = v / 40 := by unfold mn; split <;> omega
     rw [this]
     rfl
   ·refine Ev.ifn (fun e => he (List.eq_nil_of_length_eq_zero (by omega))) ?_
    rw [if_neg he]
    refine Ev.ifp (by omega) ?_
    exact ih (i + 1) _ 0 (by omega) (by omega) (by simp; omega) (by decide) (by decide)
  ·rw [if_neg h21, decide_eq_false (by omega)]
   exact ref17_dec_end l out hl ho n i
theorem ref17_decode_is (l : List Int) (hl : OkB l) (hs : l.length ≤ 1000000) : Ev (fun k => cr17_Decode.f k (strOfNums l)) (decE l (decR l [] 0)) := by
 refine Ev.congr (fun k => by rw [cr17_Decode.f]) ?_
 exact ref17_dec_loop l hl hs _ 0 [] 0 (by omega) rfl (by simp) (by decide) (by decide)
theorem decR_hi (m : Nat) (r out : List Int) (ho : out.length < 21) (hm : m ≤ 4294967296) : decR (hi m ++ r) out 0 = decR r out (m : Int) := by
 induction m using Nat.strongRecOn generalizing r with
 | _ m ih =>
  by_cases h : m = 0
  ·subst h
   rw [hi_zero]
   rfl
  ·rw [hi_pos h, List.append_assoc, ih (m / 128) (by omega) _ (by omega), List.singleton_append, decR, if_pos ho, if_neg (by omega), if_pos (by omega)]
   rw [show (128 * ((m / 128 : Nat) : Int) + (128 + ((m % 128 : Nat) : Int)) % 128) = (m : Int) by omega]
theorem decR_dig (m : Nat) (r out : List Int) (ho : out.length < 21) (hm : m ≤ 4294967296) : decR (dig m ++ r) out 0 = decR r (if out = [] then [mn 2 ((m : Int) / 40), (m : Int) - 40 * mn 2 ((m : Int) / 40)] else out ++ [(m : Int)]) 0 := by
 rw [dig, List.append_assoc, decR_hi _ _ _ ho (by omega), List.singleton_append, decR, if_pos ho, if_neg (by omega), if_neg (by omega)]
 rw [show (128 * ((m / 128 : Nat) : Int) + ((m % 128 : Nat) : Int) % 128) = (m : Int) by omega]
theorem decR_digs : ∀ (ms out : List Int), out ≠ [] → out.length + ms.length ≤ 20 → (∀ x ∈ ms, 0 ≤ x ∧ x ≤ 4294967296) → decR (digs ms) out 0 = some (out ++ ms)
 | [], out, _, _, _ => by rw [digs, decR, List.append_nil]
 | m :: ms, out, hn, hs, h => by
  have h1 := h m (by simp)
  simp only [List.length_cons] at hs
  rw [digs, decR_dig _ _ _ (by omega) (by omega), if_neg hn, decR_digs ms _ (by simp) (by simp; omega) (fun x hx => h x (List.mem_cons_of_mem _ hx)), Int.toNat_of_nonneg h1.1]
  simp
theorem decE_sound {l arcs : List Int} (h : decE l (decR l [] 0) = (arcs, true)) : goodA l arcs := by
 revert h
 cases decR l [] 0 with
 | none => intro h; simp [decE] at h
 | some out =>
  intro h
  rw [decE] at h
  split at h
  ·rename_i hh
   simp only [Prod.mk.injEq, and_true] at h
   subst h
   exact ⟨hh.1, hh.2.symm⟩
  ·simp at h
theorem decE_complete {l arcs : List Int} (h : goodA l arcs) : decE l (decR l [] 0) = (arcs, true) := by
 obtain ⟨hr, rfl⟩ := h
 obtain ⟨a, b, r, rfl, h18, ha0, ha, hb0, hb39, hb, hx⟩ := right_parts hr
 have e : decR (digs (numsOf (a :: b :: r))) [] 0 = some (a :: b :: r) := by
  rw [numsOf, digs, decR_dig _ _ _ (by decide) (by omega), if_pos rfl, Int.toNat_of_nonneg (by omega), arcs_of ha0 ha hb0 hb39, decR_digs _ _ (by simp) (by simp; omega) (fun x hm => by have := hx x hm; omega)]
  simp
  omega
 rw [e, decE, if_pos ⟨hr, rfl⟩]
theorem decE_is (l : List Int) (hl : OkB l) : decE l (decR l [] 0) = decA l := by
 have two : ∀ p : List Int × Bool, (p.2 = false → p.1 = []) → p.2 = false → p = ([], false) := fun p h h2 => by rw [← h h2, ← h2]
 have ha : (decA l).2 = false → (decA l).1 = [] := by
  unfold decA
  split
  ·split
   ·intro h; simp at h
   ·intro _; rfl
  ·intro _; rfl
 have he : (decE l (decR l [] 0)).2 = false → (decE l (decR l [] 0)).1 = [] := by
  cases decR l [] 0 with
  | none => intro _; rfl
  | some out =>
   rw [decE]
   split
   ·intro h; simp at h
   ·intro _; rfl
 cases h1 : (decA l).2 with
 | true => rw [decE_complete (decA_sound hl (show decA l = ((decA l).1, true) from by rw [← h1]))]; rw [← h1]
 | false =>
  cases h2 : (decE l (decR l [] 0)).2 with
  | true =>
   have h3 := decA_complete (decE_sound (l := l) (show decE l (decR l [] 0) = ((decE l (decR l [] 0)).1, true) from by rw [← h2]))
   rw [h3] at h1
   cases h1
  | false => rw [two _ ha h1, two _ he h2]
def okBits (b : Int) (m : List Int) : Bool := decide (0 ≤ b ∧ b ≤ 7 ∧ (m = [] → b = 0) ∧ m.getLastD 0 % 2 ^ b.toNat = 0)
def unb : List Int → ByteArray × Int × Bool
 | [] => (⟨#[]⟩, 0, false)
 | b :: m => if okBits b m = true then (strOfNums m, b, true) else (⟨#[]⟩, 0, false)
theorem mask_all : ((List.range 8).all fun b => (List.range 256).all fun x => decide (Go.bits .and .u8 (x : Int) (((shl .u8 1 (b : Int)) - 1) % 256) = 0) == decide ((x : Int) % 2 ^ b = 0)) = true := by kernel_rfl
theorem mask_is {b x : Int} (hb0 : 0 ≤ b) (hb : b ≤ 7) (hx0 : 0 ≤ x) (hx : x < 256) : Go.bits .and .u8 x (((shl .u8 1 b) - 1) % 256) = 0 ↔ x % 2 ^ b.toNat = 0 := by
 have h := List.all_eq_true.1 (List.all_eq_true.1 mask_all b.toNat (List.mem_range.2 (by omega))) x.toNat (List.mem_range.2 (by omega))
 rw [Int.toNat_of_nonneg hb0, Int.toNat_of_nonneg hx0] at h
 exact decide_eq_decide.1 (eq_of_beq h)
theorem unb_j0_no (a : ByteArray) : Ev (fun k => strs_Unbits.j0 k a true) (⟨#[]⟩, 0, false) := by
 refine Ev.step (fun k => by rw [strs_Unbits.j0]) ?_
 exact Ev.ifp rfl (Ev.now _)
theorem unb_j0 (b : Int) (m : List Int) (hl : OkB (b :: m)) (hs : m.length ≤ 140737488355328) (hb : b ≤ 7) (hm : m = [] → b = 0) : Ev (fun k => strs_Unbits.j0 k (strOfNums (b :: m)) false) (unb (b :: m)) := by
 have hbd := hl.head
 refine Ev.step (fun k => by rw [strs_Unbits.j0]) ?_
 refine Ev.ifn (by simp) ?_
 rw [show wrap64 (((strOfNums (b :: m)).size : Int) - 1) = (m.length : Int) from by rw [nums_size, w64 (by simp) (by simp <;> omega)]; simp]
 rw [show bt (strOfNums (b :: m)) 0 = b from nums_bt hl 0 (by simp), nums_sizeI]
 refine Ev.ifp (by omega) ?_
 refine Ev.ifp (by simp <;> omega) ?_
 refine Ev.ifp (by simp <;> omega) ?_
 refine Ev.ifp hbd.1 ?_
 have hx : (strOfNums (b :: m)).extract 1 (strOfNums (b :: m)).size = strOfNums m := by
  rw [str_extract, nums_size]
  simp
 rw [hx, w64 (x := b) (by omega) (by omega)]
 by_cases h : m = []
 ·subst h
  obtain rfl := hm rfl
  rw [show bt (strOfNums [0]) (([] : List Int).length : Int) = 0 from nums_bt hl 0 (by simp)]
  refine Ev.ifp ((mask_is (by decide) (by decide) (by decide) (by decide)).2 (by decide)) ?_
  refine Ev.ifp (by simp) ?_
  exact (Ev.now _).eq (by simp [unb, okBits])
 ·obtain ⟨i, x, rfl⟩ : ∃ i x, m = i ++ [x] := ⟨m.dropLast, m.getLast h, (List.dropLast_concat_getLast h).symm⟩
  have hxo := hl x (by simp)
  have hg : bt (strOfNums (b :: (i ++ [x]))) ((i ++ [x]).length : Int) = x := by
   rw [nums_bt hl (i ++ [x]).length (by simp)]
   simp
  rw [hg]
  by_cases hz : x % 2 ^ b.toNat = 0
  ·refine Ev.ifp ((mask_is hbd.1 hb hxo.1 hxo.2).2 hz) ?_
   refine Ev.ifp (by simp <;> omega) ?_
   refine (Ev.now _).eq ?_
   rw [unb, if_pos]
   simp [okBits, hbd.1, hb, hz]
  ·refine Ev.ifn (fun e => hz ((mask_is hbd.1 hb hxo.1 hxo.2).1 e)) ?_
   refine Ev.ifp (by simp <;> omega) ?_
   refine (Ev.now _).eq ?_
   rw [unb, if_neg]
   simp [okBits, hz]
theorem unbits_is (l : List Int) (hl : OkB l) (hs : l.length ≤ 140737488355328) : Ev (fun k => strs_Unbits.f k (strOfNums l)) (unb l) := by
 refine Ev.congr (fun k => by rw [strs_Unbits.f]) ?_
 cases l with
 | nil => exact Ev.ifp ((nums_toList_nil _).2 rfl) (unb_j0_no _)
 | cons b m =>
  have hbd := hl.head
  refine Ev.ifn (fun e => by have := (nums_toList_nil _).1 e; cases this) ?_
  refine Ev.ifp (by rw [nums_sizeI]; simp <;> omega) ?_
  rw [show bt (strOfNums (b :: m)) 0 = b from nums_bt hl 0 (by simp)]
  simp only [List.length_cons] at hs
  by_cases h7 : b > 7
  ·refine Ev.ifp h7 ?_
   refine (unb_j0_no _).eq ?_
   rw [unb, if_neg]
   simp only [okBits, decide_eq_true_eq]
   omega
  refine Ev.ifn h7 ?_
  by_cases h0 : b > 0
  ·refine Ev.ifp h0 ?_
   by_cases hm : m = []
   ·subst hm
    rw [show (((strOfNums [b]).size : Int) == 1) = true from by rw [nums_sizeI]; rfl]
    refine (unb_j0_no _).eq ?_
    rw [unb, if_neg]
    intro hh
    have hh := of_decide_eq_true hh
    have := hh.2.2.1 rfl
    omega
   ·rw [show (((strOfNums (b :: m)).size : Int) == 1) = false from by
     rw [nums_sizeI]
     have : m.length ≠ 0 := fun e => hm (List.eq_nil_of_length_eq_zero e)
     exact beq_eq_false_iff_ne.2 (by simp <;> omega)]
    exact unb_j0 b m hl (by omega) (by omega) (fun e => absurd e hm)
  ·refine Ev.ifn h0 ?_
   exact unb_j0 b m hl (by omega) (by omega) (fun _ => by omega)
def bitsN (m : List Int) (a : Int) : ByteArray × Bool := if okBits a m = true then (strOfNums (a :: m), true) else (⟨#[]⟩, false)
def ptN (n b0 b1 b2 b3 : Nat) : Nat :=
 if b0 < 128 then 1
 else if 192 ≤ b0 ∧ b0 < 224 then (if 2 ≤ n ∧ 128 ≤ b1 ∧ b1 ≤ 191 ∧ 128 ≤ (b0 - 192) * 64 + (b1 - 128) then 2 else 0)
 else if 224 ≤ b0 ∧ b0 < 240 then (if 3 ≤ n ∧ 128 ≤ b1 ∧ b1 ≤ 191 ∧ 128 ≤ b2 ∧ b2 ≤ 191 ∧ 2048 ≤ ((b0 - 224) * 64 + (b1 - 128)) * 64 + (b2 - 128) ∧ ¬ (55295 < ((b0 - 224) * 64 + (b1 - 128)) * 64 + (b2 - 128) ∧ ((b0 - 224) * 64 + (b1 - 128)) * 64 + (b2 - 128) < 57344) then 3 else 0)
 else if 240 ≤ b0 ∧ b0 < 248 then (if 4 ≤ n ∧ 128 ≤ b1 ∧ b1 ≤ 191 ∧ 128 ≤ b2 ∧ b2 ≤ 191 ∧ 128 ≤ b3 ∧ b3 ≤ 191 ∧ 65536 ≤ (((b0 - 240) * 64 + (b1 - 128)) * 64 + (b2 - 128)) * 64 + (b3 - 128) ∧ (((b0 - 240) * 64 + (b1 - 128)) * 64 + (b2 - 128)) * 64 + (b3 - 128) ≤ 1114111 then 4 else 0)
 else 0
theorem decode_pt (n b0 b1 b2 b3 : Nat) (h0 : b0 < 256) (h1 : b1 < 256) (h2 : b2 < 256) (h3 : b3 < 256) :
 if ptN n b0 b1 b2 b3 = 0 then Lib.decodeN n b0 b1 b2 b3 = (65533, 1) else ((Lib.decodeN n b0 b1 b2 b3).2 = ptN n b0 b1 b2 b3 ∧ ¬ ((Lib.decodeN n b0 b1 b2 b3).1 = 65533 ∧ (Lib.decodeN n b0 b1 b2 b3).2 = 1)) := by
 unfold Lib.decodeN ptN
 by_cases c0 : b0 < 128
 ·simp [c0]
  omega
 by_cases c1 : b0 < 192
 ·have e1 : ¬ (b0 / 32 = 6) := by omega
  have e2 : ¬ (b0 / 16 = 14) := by omega
  have e3 : ¬ (b0 / 8 = 30) := by omega
  have f1 : ¬ (192 ≤ b0 ∧ b0 < 224) := by omega
  have f2 : ¬ (224 ≤ b0 ∧ b0 < 240) := by omega
  have f3 : ¬ (240 ≤ b0 ∧ b0 < 248) := by omega
  simp [c0, e1, e2, e3, f1, f2, f3]
 by_cases c2 : b0 < 224
 ·have e1 : b0 / 32 = 6 := by omega
  have e2 : ¬ (b0 / 16 = 14) := by omega
  have e3 : ¬ (b0 / 8 = 30) := by omega
  have f1 : 192 ≤ b0 ∧ b0 < 224 := by omega
  simp only [c0, e1, e2, e3, f1, if_false, true_and, false_and, if_true, and_self]
  repeat' split
  all_goals first | omega | (simp <;> omega) | simp
 by_cases c3 : b0 < 240
 ·have e1 : ¬ (b0 / 32 = 6) := by omega
  have e2 : b0 / 16 = 14 := by omega
  have e3 : ¬ (b0 / 8 = 30) := by omega
  have f1 : ¬ (192 ≤ b0 ∧ b0 < 224) := by omega
  have f2 : 224 ≤ b0 ∧ b0 < 240 := by omega
  simp only [c0, e1, e2, e3, f1, f2, if_false, true_and, false_and, if_true, and_self]
  repeat' split
  all_goals first | omega | (simp <;> omega) | simp
 by_cases c4 : b0 < 248
 ·have e1 : ¬ (b0 / 32 = 6) := by omega
  have e2 : ¬ (b0 / 16 = 14) := by omega
  have e3 : b0 / 8 = 30 := by omega
  have f1 : ¬ (192 ≤ b0 ∧ b0 < 224) := by omega
  have f2 : ¬ (224 ≤ b0 ∧ b0 < 240) := by omega
  have f3 : 240 ≤ b0 ∧ b0 < 248 := by omega
  simp only [c0, e1, e2, e3, f1, f2, f3, if_false, true_and, false_and, if_true, and_self]
  repeat' split
  all_goals first | omega | (simp <;> omega) | simp
 ·have e1 : ¬ (b0 / 32 = 6) := by omega
  have e2 : ¬ (b0 / 16 = 14) := by omega
  have e3 : ¬ (b0 / 8 = 30) := by omega
  have f1 : ¬ (192 ≤ b0 ∧ b0 < 224) := by omega
  have f2 : ¬ (224 ≤ b0 ∧ b0 < 240) := by omega
  have f3 : ¬ (240 ≤ b0 ∧ b0 < 248) := by omega
  simp [c0, e1, e2, e3, f1, f2, f3]
def ptL (l : List UInt8) : Nat := ptN l.length (l.getD 0 0).toNat (l.getD 1 0).toNat (l.getD 2 0).toNat (l.getD 3 0).toNat
theorem u8_lt (x : UInt8) : x.toNat < 256 := x.toNat_lt
theorem decode_ptL (l : List UInt8) : if ptL l = 0 then Lib.decodeL l = (65533, 1) else ((Lib.decodeL l).2 = ptL l ∧ ¬ ((Lib.decodeL l).1 = 65533 ∧ (Lib.decodeL l).2 = 1)) := by
 rw [Lib.decodeL_N]
 exact decode_pt _ _ _ _ _ (u8_lt _) (u8_lt _) (u8_lt _) (u8_lt _)
theorem ptL_le (l : List UInt8) (h : l ≠ []) : ptL l ≤ l.length := by
 have h0 : 1 ≤ l.length := by cases l with | nil => exact absurd rfl h | cons => simp
 unfold ptL ptN
 repeat' split
 all_goals omega
theorem valid_step (n : Nat) (l : List UInt8) : Lib.validGoD (n + 1) l = if l = [] then true else if ptL l = 0 then false else Lib.validGoD n (l.drop (ptL l)) := by
 have h := decode_ptL l
 rw [Lib.validGoD]
 by_cases hn : l = []
 ·rw [if_pos hn, if_pos hn]
 ·rw [if_neg hn, if_neg hn]
  by_cases hp : ptL l = 0
  ·rw [if_pos hp] at h
   rw [if_pos hp, h]
   rfl
  ·rw [if_neg hp] at h
   rw [if_neg hp, if_neg h.2, h.1]
def prB (b : UInt8) : Bool := decide (b.toNat < 128) && !noneR b.toNat
theorem noneR_far (x : Nat) (h : 128 ≤ x) : noneR x = true := by
 have hi : strings_IndexRune.f (⟨#[32, 39, 40, 41, 43, 44, 45, 46, 47, 58, 61, 63]⟩ : ByteArray) (x : Int) = some (-1) := by
  unfold strings_IndexRune.f
  rw [if_neg (by omega), if_pos ⟨rfl, by omega⟩]
 have hc : strings_ContainsRune.f (⟨#[32, 39, 40, 41, 43, 44, 45, 46, 47, 58, 61, 63]⟩ : ByteArray) (x : Int) = some false := by
  unfold strings_ContainsRune.f
  rw [hi]
  rfl
 unfold noneR
 have h1 : (decide ((x : Int) ≤ 90)) = false := decide_eq_false (by omega)
 have h2 : (decide ((x : Int) ≤ 122)) = false := decide_eq_false (by omega)
 have h3 : (x : Int) ≥ 65 := by omega
 have h4 : (x : Int) ≥ 97 := by omega
 have h5 : (x : Int) ≥ 48 := by omega
 have h6 : ¬ (x : Int) ≤ 57 := by omega
 simp only [strs_Printable_1.f, strs_Printable_1.j0, strs_Printable_1.j1, hc, h1, h2, h3, h4, h5, h6, if_true, if_false, Bool.false_eq_true, Option.bind_some]
 rfl
theorem decodeN_high (n b0 b1 b2 b3 : Nat) (h : 128 ≤ b0) : 128 ≤ (Lib.decodeN n b0 b1 b2 b3).1 := by
 unfold Lib.decodeN
 repeat' split
 all_goals first | omega | (simp <;> omega)
theorem prB_no {b : UInt8} (h : noneR b.toNat = true) : prB b = false := by simp [prB, h]
theorem prB_far {b : UInt8} (h : ¬ b.toNat < 128) : prB b = false := by simp [prB, h]
theorem prB_yes {b : UInt8} (h1 : b.toNat < 128) (h : ¬ noneR b.toNat = true) : prB b = true := by simp [prB, h, h1]
theorem idx_from (s : ByteArray) : ∀ (f pos : Nat), s.size - pos ≤ f → (decide (0 ≤ Lib.idxFuncFrom noneR true s f pos)) = !(s.data.toList.drop pos).all prB := by
 intro f
 have hlen : s.data.toList.length = s.size := Array.length_toList
 induction f with
 | zero =>
  intro pos h
  rw [List.drop_eq_nil_of_le (by omega)]
  rfl
 | succ f ih =>
  intro pos h
  rw [Lib.idxFuncFrom]
  by_cases hp : pos < s.size
  ·rw [if_pos hp]
   have hlt : pos < s.data.toList.length := by omega
   have hd : s.data.toList.drop pos = s.data.toList[pos] :: s.data.toList.drop (pos + 1) := List.drop_eq_getElem_cons hlt
   rw [hd, List.all_cons, ← Lib.decodeL_drop, hd, Lib.decodeL_N]
   simp only [List.getD_cons_zero]
   by_cases h128 : (s.data.toList[pos]).toNat < 128
   ·rw [Lib.decodeN_ascii _ _ _ _ _ h128]
    simp only
    by_cases hn : noneR (s.data.toList[pos]).toNat = true
    ·rw [if_pos hn]
     have : prB s.data.toList[pos] = false := prB_no hn
     rw [this]
     simp
    ·rw [if_neg hn, ih (pos + 1) (by omega)]
     have : prB s.data.toList[pos] = true := prB_yes h128 hn
     rw [this, Bool.true_and]
   ·have hh := decodeN_high (List.length (s.data.toList[pos] :: s.data.toList.drop (pos + 1))) (s.data.toList[pos]).toNat
    rw [if_pos (noneR_far _ (hh _ _ _ (by omega)))]
    have : prB s.data.toList[pos] = false := prB_far h128
    rw [this]
    simp
  ·rw [if_neg hp, List.drop_eq_nil_of_le (by omega)]
   rfl
theorem printable_is (a : ByteArray) : strs_Printable.f a = some (a.data.toList.all prB) := by
 unfold strs_Printable.f Lib.idxFunc
 rw [idx_from a a.size 0 (by omega)]
 simp
theorem utf_is (a : ByteArray) (h : a.size ≤ 9223372036854775807) : strs_Utf.f a = some (Lib.validD a.data.toList) := by
 unfold strs_Utf.f utf8_ValidString.f
 rw [if_pos h]
 rfl
theorem ref_put1 (a : Int) (h0 : 0 ≤ a) (h7 : a ≤ 7) : Ev (fun k => cr01_Put.f k (IntKind.u64.wrap a) 1) (strOfNums [a]) := by
 rw [wu64 h0 (by omega)]
 refine (ref01_Put_eq a h0 (by omega) 1).eq ?_
 rw [if_pos (by decide)]
 congr 1
 simp only [lowB, show (1 : Int).toNat = 1 from rfl]
 simp <;> omega
theorem ref_bits_loop (m : List Int) (hm : OkB m) (hs : m.length < 140737488355328) (a : Nat) (h7 : a ≤ 7) (h0 : m = [] → a = 0) (d : Nat) : ∀ i : Nat, i ≤ a → a - i = d →
 Ev (fun k => cr18_Bits.l0 k (strOfNums m) (a : Int) (2 ^ i) (i : Int)) (bitsN m a) := by
 have hpow : ∀ i : Nat, i ≤ 7 → (0 : Int) < 2 ^ i ∧ (2 : Int) ^ i ≤ 128 := by
  intro i hi
  rcases (by omega : i = 0 ∨ i = 1 ∨ i = 2 ∨ i = 3 ∨ i = 4 ∨ i = 5 ∨ i = 6 ∨ i = 7) with rfl | rfl | rfl | rfl | rfl | rfl | rfl | rfl <;> decide
 have hput := ref_put1 (a : Int) (by omega) (by omega)
 induction d with
 | zero =>
  intro i hi hd
  obtain rfl : i = a := by omega
  refine Ev.step (fun k => by rw [cr18_Bits.l0]) ?_
  refine Ev.ifn (by omega) ?_
  by_cases hn : m = []
  ·obtain rfl := h0 hn
   subst hn
   refine Ev.ifp ((nums_toList_nil _).2 rfl) ?_
   refine Ev.bind hput ?_
   rw [str_append, nums_size, nums_size]
   refine Ev.ifp (by simp) ?_
   exact (Ev.now _).eq (by simp [bitsN, okBits])
  ·obtain ⟨q, x, rfl⟩ : ∃ i x, m = i ++ [x] := ⟨m.dropLast, m.getLast hn, (List.dropLast_concat_getLast hn).symm⟩
   have hx := hm x (by simp)
   have hp := hpow i h7
   have hs2 : q.length < 140737488355328 := by simp at hs; omega
   rw [show wrap64 (((strOfNums (q ++ [x])).size : Int) - 1) = (q.length : Int) from by rw [nums_size, w64 (by simp <;> omega) (by simp <;> omega)]; simp <;> omega]
   rw [show bt (strOfNums (q ++ [x])) (q.length : Int) = x from by rw [nums_bt hm q.length (by simp)]; simp]
   rw [w64 (x := x) (by omega) (by omega), nums_sizeI]
   refine Ev.ifn (fun e => hn ((nums_toList_nil _).1 e)) ?_
   refine Ev.ifp (by omega) ?_
   refine Ev.ifp (by simp <;> omega) ?_
   refine Ev.ifn (by omega) ?_
   have ht : Int.tmod x (2 ^ i) = x % 2 ^ i := Int.tmod_eq_emod_of_nonneg hx.1
   rw [ht]
   by_cases hz : x % 2 ^ i = 0
   ·refine Ev.ifp hz ?_
    refine Ev.bind hput ?_
    rw [str_append, nums_size, nums_size]
    refine Ev.ifp (by simp at hs ⊢ <;> omega) ?_
    refine (Ev.now _).eq ?_
    rw [bitsN, if_pos]
    ·rfl
    ·simp [okBits, hz]; omega
   ·refine Ev.ifn hz ?_
    refine (Ev.now _).eq ?_
    rw [bitsN, if_neg]
    simp [okBits, hz]
 | succ d ih =>
  intro i hi hd
  refine Ev.step (fun k => by rw [cr18_Bits.l0]) ?_
  refine Ev.ifp (by omega) ?_
  have hp := hpow i (by omega)
  rw [w64 (x := 2 * 2 ^ i) (by omega) (by omega), w64 (by omega) (by omega), show (2 : Int) * 2 ^ i = 2 ^ (i + 1) by rw [Int.pow_succ]; omega]
  exact ih (i + 1) (by omega) (by omega)
theorem ref_bits_is (m : List Int) (hm : OkB m) (hs : m.length < 140737488355328) (a : Int) : Ev (fun k => cr18_Bits.f k (strOfNums m) a) (bitsN m a) := by
 have hno : okBits a m = false → Ev (fun k => cr18_Bits.j0 k (strOfNums m) a true) (bitsN m a) := by
  intro h
  refine Ev.step (fun k => by rw [cr18_Bits.j0]) ?_
  refine Ev.ifp rfl ?_
  exact (Ev.now _).eq (by rw [bitsN, if_neg (by simp [h])])
 refine Ev.congr (fun k => by rw [cr18_Bits.f]) ?_
 by_cases h0 : a < 0
 ·exact Ev.ifp h0 (hno (decide_eq_false (by omega)))
 refine Ev.ifn h0 ?_
 by_cases h7 : a > 7
 ·exact Ev.ifp h7 (hno (decide_eq_false (by omega)))
 refine Ev.ifn h7 ?_
 obtain ⟨n, rfl⟩ : ∃ n : Nat, a = (n : Int) := ⟨a.toNat, by omega⟩
 have hgo : (m = [] → n = 0) → Ev (fun k => cr18_Bits.j0 k (strOfNums m) (n : Int) false) (bitsN m n) := by
  intro h
  refine Ev.step (fun k => by rw [cr18_Bits.j0]) ?_
  refine Ev.ifn (by simp) ?_
  exact ref_bits_loop m hm hs n (by omega) h _ 0 (by omega) rfl
 by_cases hn : m = []
 ·refine Ev.ifp ((nums_toList_nil _).2 hn) ?_
  by_cases hz : n = 0
  ·rw [show ((n : Int) != 0) = false by subst hz; rfl]
   exact hgo (fun _ => hz)
  ·rw [show ((n : Int) != 0) = true from bne_iff_ne.2 (by omega)]
   refine hno (decide_eq_false ?_)
   rintro ⟨_, _, h, _⟩
   have := h hn
   omega
 ·refine Ev.ifn (fun e => hn ((nums_toList_nil _).1 e)) ?_
  exact hgo (fun e => absurd e hn)
theorem ref_unbits_is (l : List Int) (hl : OkB l) (hs : l.length < 140737488355328) : Ev (fun k => cr18_Unbits.f k (strOfNums l)) (unb l) := by
 refine Ev.congr (fun k => by rw [cr18_Unbits.f]) ?_
 cases l with
 | nil => exact Ev.ifp ((nums_toList_nil _).2 rfl) (Ev.now _)
 | cons b m =>
  have hbd := hl.head
  simp only [List.length_cons] at hs
  refine Ev.ifn (fun e => by have := (nums_toList_nil _).1 e; cases this) ?_
  rw [show bt (strOfNums (b :: m)) 0 = b from nums_bt hl 0 (by simp), w64 (x := b) (by omega) (by omega)]
  have hx : (strOfNums (b :: m)).extract 1 (strOfNums (b :: m)).size = strOfNums m := by
   rw [str_extract, nums_size]
   simp
  rw [hx, nums_sizeI]
  refine Ev.ifp (by simp <;> omega) ?_
  refine Ev.ifp (by simp <;> omega) ?_
  refine Ev.bind (ref_bits_is m hl.tail (by omega) b) ?_
  by_cases hk : okBits b m = true
  ·rw [bitsN, if_pos hk, unb, if_pos hk]
   exact Ev.ifp rfl (Ev.now _)
  ·rw [bitsN, if_neg hk, unb, if_neg hk]
   exact Ev.ifn (by simp) (Ev.now _)
theorem bt_at (s : ByteArray) (i : Nat) (h : i < s.size) : bt s (i : Int) = ((s.data.toList.getD i 0).toNat : Int) := by
 have hl : i < s.data.toList.length := by rw [Array.length_toList]; exact h
 unfold bt
 rw [dif_pos (by simpa using h)]
 rw [List.getD_eq_getElem?_getD, List.getElem?_eq_getElem hl]
 rfl
theorem point_end (s : ByteArray) (n more least i : Int) (h : ¬ i ≤ more) (hm : 0 ≤ more ∧ more ≤ 3) : Ev (fun k => cr18_point.l0 k s n more least i) (if n < least ∨ n > 1114111 ∨ (n > 55295 ∧ n < 57344) then 0 else more + 1) := by
 refine Ev.step (fun k => by rw [cr18_point.l0]) ?_
 refine Ev.ifn h ?_
 rw [w64 (x := more + 1) (by omega) (by omega)]
 by_cases c1 : n < least
 ·exact Ev.ifp c1 ((Ev.now _).eq (by rw [if_pos (Or.inl c1)]))
 refine Ev.ifn c1 ?_
 by_cases c2 : n > 1114111
 ·exact Ev.ifp c2 ((Ev.now _).eq (by rw [if_pos (Or.inr (Or.inl c2))]))
 refine Ev.ifn c2 ?_
 by_cases c3 : n > 55295
 ·refine Ev.ifp c3 ?_
  by_cases c4 : n < 57344
  ·exact Ev.ifp c4 ((Ev.now _).eq (by rw [if_pos (Or.inr (Or.inr ⟨c3, c4⟩))]))
  ·exact Ev.ifn c4 ((Ev.now _).eq (by rw [if_neg (by omega)]))
 ·exact Ev.ifn c3 ((Ev.now _).eq (by rw [if_neg (by omega)]))
theorem point_bad (s : ByteArray) (n more least : Int) (i : Nat) (h : (i : Int) ≤ more) (hs : i < s.size) (hb : ¬ (128 ≤ (s.data.toList.getD i 0).toNat ∧ (s.data.toList.getD i 0).toNat ≤ 191)) :
 Ev (fun k => cr18_point.l0 k s n more least (i : Int)) 0 := by
 refine Ev.step (fun k => by rw [cr18_point.l0]) ?_
 refine Ev.ifp h ?_
 refine Ev.ifp (by omega) ?_
 refine Ev.ifp (by omega) ?_
 rw [bt_at s i hs]
 by_cases c : ((s.data.toList.getD i 0).toNat : Int) < 128
 ·exact Ev.ifp c (Ev.now _)
 ·exact Ev.ifn c (Ev.ifp (by omega) (Ev.now _))
theorem point_next (s : ByteArray) (n more least : Int) (i : Nat) (r : Int) (h : (i : Int) ≤ more) (hm : more ≤ 3) (hs : i < s.size) (hb : 128 ≤ (s.data.toList.getD i 0).toNat ∧ (s.data.toList.getD i 0).toNat ≤ 191) (hn : 0 ≤ n ∧ n ≤ 2000000)
 (k : Ev (fun k => cr18_point.l0 k s (64 * n + ((s.data.toList.getD i 0).toNat : Int) - 128) more least ((i + 1 : Nat) : Int)) r) :
 Ev (fun k => cr18_point.l0 k s n more least (i : Int)) r := by
 refine Ev.step (fun k => by rw [cr18_point.l0]) ?_
 refine Ev.ifp h ?_
 refine Ev.ifp (by omega) ?_
 refine Ev.ifp (by omega) ?_
 rw [bt_at s i hs]
 refine Ev.ifn (by omega) ?_
 refine Ev.ifn (by omega) ?_
 rw [w64 (x := 64 * n) (by omega) (by omega), w64 (x := ((s.data.toList.getD i 0).toNat : Int)) (by omega) (by omega), w64 (x := 64 * n + _) (by omega) (by omega), w64 (x := 64 * n + _ - 128) (by omega) (by omega), w64 (x := (i : Int) + 1) (by omega) (by omega)]
 exact k
theorem point_j5 (s : ByteArray) (n more least : Int) (r : Int) (hs : s.size ≤ 140737488355328) (h1 : 1 ≤ more) (hr : (s.size : Int) ≤ more → r = 0) (k : more < (s.size : Int) → Ev (fun k => cr18_point.l0 k s n more least 1) r) :
 Ev (fun k => cr18_point.j5 k s n more least) r := by
 refine Ev.step (fun k => by rw [cr18_point.j5]) ?_
 refine Ev.ifn (by omega) ?_
 refine Ev.step (fun k => by rw [cr18_point.j6]) ?_
 by_cases c : (s.size : Int) ≤ more
 ·refine Ev.ifp (decide_eq_true c) ?_
  rw [hr c]
  exact Ev.now _
 ·refine Ev.ifn (by simp [c]) ?_
  exact k (by omega)
theorem point_none (s : ByteArray) : Ev (fun k => cr18_point.j5 k s 0 0 0) 0 := by
 refine Ev.step (fun k => by rw [cr18_point.j5]) ?_
 refine Ev.ifp rfl ?_
 refine Ev.step (fun k => by rw [cr18_point.j6]) ?_
 exact Ev.ifp rfl (Ev.now _)
theorem point_is (s : ByteArray) (h0 : 0 < s.size) (hs : s.size ≤ 140737488355328) : Ev (fun k => cr18_point.f k s) ((ptL s.data.toList : Nat) : Int) := by
 have hl : s.data.toList.length = s.size := Array.length_toList
 unfold ptL
 rw [hl]
 have g1 := bt_at s 0 h0
 have u0 := u8_lt (s.data.toList.getD 0 0)
 have u1 := u8_lt (s.data.toList.getD 1 0)
 have u2 := u8_lt (s.data.toList.getD 2 0)
 have u3 := u8_lt (s.data.toList.getD 3 0)
 have n1 := fun n more least r => point_next s n more least 1 r
 have n2 := fun n more least r => point_next s n more least 2 r
 have n3 := fun n more least r => point_next s n more least 3 r
 have d1 := fun n more least => point_bad s n more least 1
 have d2 := fun n more least => point_bad s n more least 2
 have d3 := fun n more least => point_bad s n more least 3
 generalize (s.data.toList.getD 0 0).toNat = b0 at *
 generalize (s.data.toList.getD 1 0).toNat = b1 at *
 generalize (s.data.toList.getD 2 0).toNat = b2 at *
 generalize (s.data.toList.getD 3 0).toNat = b3 at *
 refine Ev.congr (fun k => by rw [cr18_point.f]) ?_
 refine Ev.ifp (by omega) ?_
 rw [show bt s 0 = (b0 : Int) from g1, w64 (x := (b0 : Int)) (by omega) (by omega)]
 by_cases c0 : b0 < 128
 ·refine Ev.ifp (by omega) ?_
  exact (Ev.now _).eq (by simp [ptN, c0])
 refine Ev.ifn (by omega) ?_
 have tail4 : ∀ n more least r, Ev (fun k => cr18_point.j5 k s n more least) r → ¬ (240 ≤ b0 ∧ b0 < 248) → Ev (fun k => cr18_point.j3 k s (b0 : Int) n more least) r := by
  intro n more least r k hk
  refine Ev.step (fun k => by rw [cr18_point.j3]) ?_
  by_cases c : (b0 : Int) ≥ 240
  ·refine Ev.ifp c ?_
   rw [decide_eq_false (by omega)]
   refine Ev.step (fun k => by rw [cr18_point.j4]) ?_
   exact Ev.ifn (by simp) k
  ·refine Ev.ifn c ?_
   refine Ev.step (fun k => by rw [cr18_point.j4]) ?_
   exact Ev.ifn (by simp) k
 have tail3 : ∀ n more least r, Ev (fun k => cr18_point.j3 k s (b0 : Int) n more least) r → ¬ (224 ≤ b0 ∧ b0 < 240) → Ev (fun k => cr18_point.j1 k s (b0 : Int) n more least) r := by
  intro n more least r k hk
  refine Ev.step (fun k => by rw [cr18_point.j1]) ?_
  by_cases c : (b0 : Int) ≥ 224
  ·refine Ev.ifp c ?_
   rw [decide_eq_false (by omega)]
   refine Ev.step (fun k => by rw [cr18_point.j2]) ?_
   exact Ev.ifn (by simp) k
  ·refine Ev.ifn c ?_
   refine Ev.step (fun k => by rw [cr18_point.j2]) ?_
   exact Ev.ifn (by simp) k
 have tail2 : ∀ r, Ev (fun k => cr18_point.j1 k s (b0 : Int) 0 0 0) r → ¬ (192 ≤ b0 ∧ b0 < 224) → Ev (fun k => if (b0 : Int) ≥ 192 then (cr18_point.j0 k s (b0 : Int) 0 0 0 (decide ((b0 : Int) < 224))) else (cr18_point.j0 k s (b0 : Int) 0 0 0 false)) r := by
  intro r k hk
  by_cases c : (b0 : Int) ≥ 192
  ·refine Ev.ifp c ?_
   rw [decide_eq_false (by omega)]
   refine Ev.step (fun k => by rw [cr18_point.j0]) ?_
   exact Ev.ifn (by simp) k
  ·refine Ev.ifn c ?_
   refine Ev.step (fun k => by rw [cr18_point.j0]) ?_
   exact Ev.ifn (by simp) k
 by_cases c1 : 192 ≤ b0 ∧ b0 < 224
 ·refine Ev.ifp (by omega) ?_
  rw [decide_eq_true (by omega)]
  refine Ev.step (fun k => by rw [cr18_point.j0]) ?_
  refine Ev.ifp rfl ?_
  rw [w64 (by omega) (by omega)]
  refine tail3 _ _ _ _ (tail4 _ _ _ _ ?_ (by omega)) (by omega)
  refine point_j5 s _ _ _ _ hs (by decide) (fun h => ?_) (fun h => ?_)
  ·unfold ptN; rw [if_neg c0, if_pos c1, if_neg (by omega)]; rfl
  ·by_cases k1 : 128 ≤ b1 ∧ b1 ≤ 191
   ·refine n1 _ _ _ _ (by decide) (by decide) (by omega) k1 (by omega) ?_
    refine (point_end s _ _ _ _ (by decide) (by decide)).eq ?_
    unfold ptN
    rw [if_neg c0, if_pos c1]
    by_cases q : 2 ≤ s.size ∧ 128 ≤ b1 ∧ b1 ≤ 191 ∧ 128 ≤ (b0 - 192) * 64 + (b1 - 128)
    ·rw [if_pos q, if_neg (by omega)]; rfl
    ·rw [if_neg q, if_pos (by omega)]; rfl
   ·refine (d1 _ _ _ (by decide) (by omega) k1).eq ?_
    unfold ptN; rw [if_neg c0, if_pos c1, if_neg (by omega)]; rfl
 by_cases c2 : 224 ≤ b0 ∧ b0 < 240
 ·refine tail2 _ ?_ (by omega)
  refine Ev.step (fun k => by rw [cr18_point.j1]) ?_
  refine Ev.ifp (by omega) ?_
  rw [decide_eq_true (by omega)]
  refine Ev.step (fun k => by rw [cr18_point.j2]) ?_
  refine Ev.ifp rfl ?_
  rw [w64 (by omega) (by omega)]
  refine tail4 _ _ _ _ ?_ (by omega)
  refine point_j5 s _ _ _ _ hs (by decide) (fun h => ?_) (fun h => ?_)
  ·unfold ptN; rw [if_neg c0, if_neg c1, if_pos c2, if_neg (by omega)]; rfl
  ·by_cases k1 : 128 ≤ b1 ∧ b1 ≤ 191
   ·refine n1 _ _ _ _ (by decide) (by decide) (by omega) k1 (by omega) ?_
    by_cases k2 : 128 ≤ b2 ∧ b2 ≤ 191
    ·refine n2 _ _ _ _ (by decide) (by decide) (by omega) k2 (by omega) ?_
     refine (point_end s _ _ _ _ (by decide) (by decide)).eq ?_
     unfold ptN
     rw [if_neg c0, if_neg c1, if_pos c2]
     split
     ·rw [if_neg (by omega)]; rfl
     ·rw [if_pos (by omega)]; rfl
    ·refine (d2 _ _ _ (by decide) (by omega) k2).eq ?_
     unfold ptN; rw [if_neg c0, if_neg c1, if_pos c2, if_neg (by omega)]; rfl
   ·refine (d1 _ _ _ (by decide) (by omega) k1).eq ?_
    unfold ptN; rw [if_neg c0, if_neg c1, if_pos c2, if_neg (by omega)]; rfl
 by_cases c3 : 240 ≤ b0 ∧ b0 < 248
 ·refine tail2 _ ?_ (by omega)
  refine tail3 _ _ _ _ ?_ (by omega)
  refine Ev.step (fun k => by rw [cr18_point.j3]) ?_
  refine Ev.ifp (by omega) ?_
  rw [decide_eq_true (by omega)]
  refine Ev.step (fun k => by rw [cr18_point.j4]) ?_
  refine Ev.ifp rfl ?_
  rw [w64 (by omega) (by omega)]
  refine point_j5 s _ _ _ _ hs (by decide) (fun h => ?_) (fun h => ?_)
  ·unfold ptN; rw [if_neg c0, if_neg c1, if_neg c2, if_pos c3, if_neg (by omega)]; rfl
  ·by_cases k1 : 128 ≤ b1 ∧ b1 ≤ 191
   ·refine n1 _ _ _ _ (by decide) (by decide) (by omega) k1 (by omega) ?_
    by_cases k2 : 128 ≤ b2 ∧ b2 ≤ 191
    ·refine n2 _ _ _ _ (by decide) (by decide) (by omega) k2 (by omega) ?_
     by_cases k3 : 128 ≤ b3 ∧ b3 ≤ 191
     ·refine n3 _ _ _ _ (by decide) (by decide) (by omega) k3 (by omega) ?_
      refine (point_end s _ _ _ _ (by decide) (by decide)).eq ?_
      unfold ptN
      rw [if_neg c0, if_neg c1, if_neg c2, if_pos c3]
      split
      ·rw [if_neg (by omega)]; rfl
      ·rw [if_pos (by omega)]; rfl
     ·refine (d3 _ _ _ (by decide) (by omega) k3).eq ?_
      unfold ptN; rw [if_neg c0, if_neg c1, if_neg c2, if_pos c3, if_neg (by omega)]; rfl
    ·refine (d2 _ _ _ (by decide) (by omega) k2).eq ?_
     unfold ptN; rw [if_neg c0, if_neg c1, if_neg c2, if_pos c3, if_neg (by omega)]; rfl
   ·refine (d1 _ _ _ (by decide) (by omega) k1).eq ?_
    unfold ptN; rw [if_neg c0, if_neg c1, if_neg c2, if_pos c3, if_neg (by omega)]; rfl
 ·refine tail2 _ ?_ (by omega)
  refine tail3 _ _ _ _ ?_ (by omega)
  refine tail4 _ _ _ _ ?_ (by omega)
  refine (point_none s).eq ?_
  unfold ptN; rw [if_neg c0, if_neg c1, if_neg c2, if_neg c3]; rfl
theorem extract_drop (s : ByteArray) (i : Nat) : (s.extract i s.size).data.toList = s.data.toList.drop i := by
 rw [ByteArray.data_extract, Array.toList_extract]
 rw [List.extract_eq_take_drop]
 refine List.take_of_length_le ?_
 rw [List.length_drop, Array.length_toList]
 exact Nat.le_refl _
theorem ref_utf_loop : ∀ (n : Nat) (s : ByteArray), s.size ≤ n → s.size ≤ 140737488355328 → Ev (fun k => cr18_Utf.l0 k s) (Lib.validGoD n s.data.toList) := by
 intro n
 induction n with
 | zero =>
  intro s h _
  refine Ev.step (fun k => by rw [cr18_Utf.l0]) ?_
  exact Ev.ifn (by omega) ((Ev.now _).eq rfl)
 | succ n ih =>
  intro s h hs
  have hl : s.data.toList.length = s.size := Array.length_toList
  refine Ev.step (fun k => by rw [cr18_Utf.l0]) ?_
  rw [valid_step]
  by_cases h0 : s.size = 0
  ·refine Ev.ifn (by omega) ?_
   rw [if_pos (List.eq_nil_of_length_eq_zero (by omega))]
   exact Ev.now _
  ·refine Ev.ifp (by omega) ?_
   have hne : s.data.toList ≠ [] := fun e => by rw [e] at hl; exact h0 hl.symm
   rw [if_neg hne]
   refine Ev.bind (point_is s (by omega) hs) ?_
   by_cases hp : ptL s.data.toList = 0
   ·rw [if_pos hp]
    exact Ev.ifp (by omega) (Ev.now _)
   ·have hle := ptL_le _ hne
    rw [if_neg hp]
    refine Ev.ifn (by omega) ?_
    refine Ev.ifp (by omega) ?_
    refine Ev.ifp (by omega) ?_
    rw [← extract_drop]
    simp only [Int.toNat_natCast]
    have hz : (s.extract (ptL s.data.toList) s.size).size ≤ s.size - ptL s.data.toList := by simp
    exact ih _ (by omega) (by omega)
theorem ref_utf_is (s : ByteArray) (h : s.size ≤ 140737488355328) : Ev (fun k => cr18_Utf.f k s) (Lib.validD s.data.toList) := by
 refine Ev.congr (fun k => by rw [cr18_Utf.f]) ?_
 refine (ref_utf_loop s.size s (Nat.le_refl _) h).eq ?_
 unfold Lib.validD
 rw [Array.length_toList]
 rfl
def allP : List UInt8 := [65, 66, 67, 68, 69, 70, 71, 72, 73, 74, 75, 76, 77, 78, 79, 80, 81, 82, 83, 84, 85, 86, 87, 88, 89, 90, 97, 98, 99, 100, 101, 102, 103, 104, 105, 106, 107, 108, 109, 110, 111, 112, 113, 114, 115, 116, 117, 118, 119, 120, 121, 122, 48, 49, 50, 51, 52, 53, 54, 55, 56, 57, 32, 39, 40, 41, 43, 44, 45, 46, 47, 58, 61, 63]
theorem prB_all : ((List.range 256).all fun x => prB (UInt8.ofNat x) == allP.contains (UInt8.ofNat x)) = true := by kernel_rfl
theorem prB_is (b : UInt8) : prB b = allP.contains b := by
 have h := List.all_eq_true.1 prB_all b.toNat (List.mem_range.2 (u8_lt b))
 rw [UInt8.ofNat_toNat] at h
 exact eq_of_beq h
theorem ref_pr_in (s : ByteArray) (j : Nat) (hj : j < s.size) (R : Bool) (k : Ev (fun k => cr18_Printable.l0 k s (wrap64 ((j : Int) + 1))) R) (d : Nat) : ∀ (i : Nat) (f : Bool), i ≤ 74 → 74 - i = d →
 Ev (fun k => cr18_Printable.l1 k s (j : Int) f (i : Int)) ((f || (allP.drop i).contains (s.data.toList.getD j 0)) && R) := by
 induction d with
 | zero =>
  intro i f hi hd
  obtain rfl : i = 74 := by omega
  refine Ev.step (fun k => by rw [cr18_Printable.l1]) ?_
  refine Ev.ifn (by decide) ?_
  rw [show allP.drop 74 = [] from rfl]
  cases f with
  | true => exact Ev.ifp rfl (k.eq (by simp))
  | false => exact Ev.ifn (by simp) ((Ev.now _).eq (by simp))
 | succ d ih =>
  intro i f hi hd
  have hlt : i < allP.length := by have : allP.length = 74 := rfl; omega
  refine Ev.step (fun k => by rw [cr18_Printable.l1]) ?_
  refine Ev.ifp (by omega) ?_
  refine Ev.ifp (by omega) ?_
  refine Ev.ifp (by omega) ?_
  refine Ev.ifp (by omega) ?_
  rw [bt_at s j hj, bt_at (⟨#[65, 66, 67, 68, 69, 70, 71, 72, 73, 74, 75, 76, 77, 78, 79, 80, 81, 82, 83, 84, 85, 86, 87, 88, 89, 90, 97, 98, 99, 100, 101, 102, 103, 104, 105, 106, 107, 108, 109, 110, 111, 112, 113, 114, 115, 116, 117, 118, 119, 120, 121, 122, 48, 49, 50, 51, 52, 53, 54, 55, 56, 57, 32, 39, 40, 41, 43, 44, 45, 46, 47, 58, 61, 63]⟩ : ByteArray) i (show i < 74 by omega), w64 (x := (i : Int) + 1) (by omega) (by omega)]
  have hd2 : allP.drop i = allP.getD i 0 :: allP.drop (i + 1) := by
   rw [List.drop_eq_getElem_cons hlt, List.getD_eq_getElem?_getD, List.getElem?_eq_getElem hlt]
   rfl
  rw [hd2, List.contains_cons]
  change Ev (fun k => if ((allP.getD i 0).toNat : Int) = ((s.data.toList.getD j 0).toNat : Int) then _ else _) _
  by_cases e : ((allP.getD i 0).toNat : Int) = ((s.data.toList.getD j 0).toNat : Int)
  ·refine Ev.ifp e ?_
   have e2 : (s.data.toList.getD j 0 == allP.getD i 0) = true := beq_iff_eq.2 (UInt8.toNat_inj.1 (by omega))
   refine (ih (i + 1) true (by omega) (by omega)).eq ?_
   rw [e2]
   simp
  ·refine Ev.ifn e ?_
   have e2 : (s.data.toList.getD j 0 == allP.getD i 0) = false := beq_eq_false_iff_ne.2 (fun h => e (by rw [h]))
   refine (ih (i + 1) f (by omega) (by omega)).eq ?_
   rw [e2]
   simp
theorem ref_pr_loop (s : ByteArray) (hs : s.size ≤ 140737488355328) (d : Nat) : ∀ j : Nat, j ≤ s.size → s.size - j = d → Ev (fun k => cr18_Printable.l0 k s (j : Int)) ((s.data.toList.drop j).all prB) := by
 have hl : s.data.toList.length = s.size := Array.length_toList
 induction d with
 | zero =>
  intro j hj hd
  refine Ev.step (fun k => by rw [cr18_Printable.l0]) ?_
  refine Ev.ifn (by omega) ?_
  rw [List.drop_eq_nil_of_le (by omega)]
  exact Ev.now _
 | succ d ih =>
  intro j hj hd
  refine Ev.step (fun k => by rw [cr18_Printable.l0]) ?_
  refine Ev.ifp (by omega) ?_
  have hlt : j < s.data.toList.length := by omega
  have hd2 : s.data.toList.drop j = s.data.toList.getD j 0 :: s.data.toList.drop (j + 1) := by
   rw [List.drop_eq_getElem_cons hlt, List.getD_eq_getElem?_getD, List.getElem?_eq_getElem hlt]
   rfl
  have hn := ih (j + 1) (by omega) (by omega)
  refine (ref_pr_in s j (by omega) _ (by rw [w64 (by omega) (by omega)]; exact hn) _ 0 false (by omega) rfl).eq ?_
  rw [hd2, List.all_cons, prB_is]
  simp
theorem ref_pr_is (s : ByteArray) (hs : s.size ≤ 140737488355328) : Ev (fun k => cr18_Printable.f k s) (s.data.toList.all prB) := by
 refine Ev.congr (fun k => by rw [cr18_Printable.f]) ?_
 exact ref_pr_loop s hs _ 0 (by omega) rfl
theorem strs_right_key (a0 : Int) (l : List Int) (hl : OkB l) (ha : l.length ≤ 2000) : ∃ t, Ev (fun k => strs_Right.f k a0 (strOfNums l)) t ∧ Ev (fun k => cr18_Right.f k a0 (strOfNums l)) t := by
 have hsz : (strOfNums l).size ≤ 2000 := by rw [strOfNums_size]; exact ha
 have hu : ∃ t, (strs_Unbool.f (strOfNums l)).bind (fun p => some p.2) = some t ∧ (cr18_Unbool.f (strOfNums l)).bind (fun p => some p.2) = some t := by
  unfold strs_Unbool.f cr18_Unbool.f
  by_cases e : (strOfNums l).toList = ([255] : List UInt8)
  ·rw [if_pos e, if_pos e]; exact ⟨_, rfl, rfl⟩
  ·rw [if_neg e, if_neg e]; exact ⟨_, rfl, rfl⟩
 have e1 : ∀ k, strs_Right.f k a0 (strOfNums l) = _ := fun k => by rw [strs_Right.f]
 have e2 : ∀ k, cr18_Right.f k a0 (strOfNums l) = _ := fun k => by rw [cr18_Right.f]
 by_cases h1 : a0 = 1
 ·obtain ⟨t, t1, t2⟩ := hu
  exact ⟨t, Ev.congr e1 (Ev.ifp h1 (Ev.const t1)), Ev.congr e2 (Ev.ifp h1 (Ev.const t2))⟩
 by_cases h2 : a0 = 2
 ·exact ⟨_, Ev.congr e1 (Ev.ifn h1 (Ev.ifp h2 (Ev.bindc (whole_Right_eq l hl) (Ev.now _)))), Ev.congr e2 (Ev.ifn h1 (Ev.ifp h2 (Ev.bindc (ref16_Right_eq l hl) (Ev.now _))))⟩
 by_cases h3 : a0 = 3
 ·exact ⟨_, Ev.congr e1 (Ev.ifn h1 (Ev.ifn h2 (Ev.ifp h3 (Ev.bind (unbits_is l hl (by omega)) (Ev.now _))))), Ev.congr e2 (Ev.ifn h1 (Ev.ifn h2 (Ev.ifp h3 (Ev.bind (ref_unbits_is l hl (by omega)) (Ev.now _)))))⟩
 by_cases h4 : a0 = 4
 ·exact ⟨_, Ev.congr e1 (Ev.ifn h1 (Ev.ifn h2 (Ev.ifn h3 (Ev.ifp h4 (Ev.now _))))), Ev.congr e2 (Ev.ifn h1 (Ev.ifn h2 (Ev.ifn h3 (Ev.ifp h4 (Ev.now _)))))⟩
 by_cases h5 : a0 = 5
 ·exact ⟨_, Ev.congr e1 (Ev.ifn h1 (Ev.ifn h2 (Ev.ifn h3 (Ev.ifn h4 (Ev.ifp h5 (Ev.now _)))))), Ev.congr e2 (Ev.ifn h1 (Ev.ifn h2 (Ev.ifn h3 (Ev.ifn h4 (Ev.ifp h5 (Ev.now _))))))⟩
 by_cases h6 : a0 = 6
 ·exact ⟨_, Ev.congr e1 (Ev.ifn h1 (Ev.ifn h2 (Ev.ifn h3 (Ev.ifn h4 (Ev.ifn h5 (Ev.ifp h6 (Ev.bind (oid_decode_is l hl (by omega)) (Ev.now _)))))))), Ev.congr e2 (Ev.ifn h1 (Ev.ifn h2 (Ev.ifn h3 (Ev.ifn h4 (Ev.ifn h5 (Ev.ifp h6 (Ev.bind ((ref17_decode_is l hl (by omega)).eq (decE_is l hl)) (Ev.now _))))))))⟩
 by_cases h7 : a0 = 12
 ·exact ⟨_, Ev.congr e1 (Ev.ifn h1 (Ev.ifn h2 (Ev.ifn h3 (Ev.ifn h4 (Ev.ifn h5 (Ev.ifn h6 (Ev.ifp h7 (Ev.bindc (utf_is _ (by omega)) (Ev.now _))))))))), Ev.congr e2 (Ev.ifn h1 (Ev.ifn h2 (Ev.ifn h3 (Ev.ifn h4 (Ev.ifn h5 (Ev.ifn h6 (Ev.ifp h7 (Ev.bind (ref_utf_is _ (by omega)) (Ev.now _)))))))))⟩
 by_cases h8 : a0 = 19
 ·exact ⟨_, Ev.congr e1 (Ev.ifn h1 (Ev.ifn h2 (Ev.ifn h3 (Ev.ifn h4 (Ev.ifn h5 (Ev.ifn h6 (Ev.ifn h7 (Ev.ifp h8 (Ev.bindc (printable_is _) (Ev.now _)))))))))), Ev.congr e2 (Ev.ifn h1 (Ev.ifn h2 (Ev.ifn h3 (Ev.ifn h4 (Ev.ifn h5 (Ev.ifn h6 (Ev.ifn h7 (Ev.ifp h8 (Ev.bind (ref_pr_is _ (by omega)) (Ev.now _))))))))))⟩
 ·exact ⟨_, Ev.congr e1 (Ev.ifn h1 (Ev.ifn h2 (Ev.ifn h3 (Ev.ifn h4 (Ev.ifn h5 (Ev.ifn h6 (Ev.ifn h7 (Ev.ifn h8 (Ev.now _))))))))), Ev.congr e2 (Ev.ifn h1 (Ev.ifn h2 (Ev.ifn h3 (Ev.ifn h4 (Ev.ifn h5 (Ev.ifn h6 (Ev.ifn h7 (Ev.ifn h8 (Ev.now _)))))))))⟩
theorem ints_is (a b : List Int) (h : a.length ≤ 1000) : Ev (fun k => cp_Ints.f k a b) (decide (a = b)) := by
 refine Ev.congr (fun k => by rw [cp_Ints.f]) ?_
 by_cases hl : a.length = b.length
 case neg =>
  refine Ev.ifn (by omega) ((Ev.now _).eq ?_)
  rw [decide_eq_false (fun e => hl (by rw [e]))]
 refine Ev.ifp (by omega) ?_
 have loop : ∀ d i : Nat, i ≤ a.length → a.length - i = d → Ev (fun k => cp_Ints.l0 k a b (i : Int)) (decide (a.drop i = b.drop i)) := by
  intro d
  induction d with
  | zero =>
   intro i hi hd
   refine Ev.step (fun k => by rw [cp_Ints.l0]) ?_
   refine Ev.ifn (by omega) ((Ev.now _).eq ?_)
   rw [List.drop_eq_nil_of_le (by omega), List.drop_eq_nil_of_le (by omega), decide_eq_true rfl]
  | succ d ih =>
   intro i hi hd
   refine Ev.step (fun k => by rw [cp_Ints.l0]) ?_
   rw [w64 (by omega) (by omega)]
   refine Ev.ifp (by omega) (Ev.ifp (by omega) (Ev.ifp (by omega) ?_))
   have ha : i < a.length := by omega
   have hb : i < b.length := by omega
   rw [rd_get i ha, rd_get i hb, List.drop_eq_getElem_cons ha, List.drop_eq_getElem_cons hb]
   by_cases he : a[i] = b[i]
   ·refine Ev.ifp he ((ih (i + 1) (by omega) (by omega)).eq ?_)
    rw [he]
    simp only [List.cons.injEq, true_and]
   ·refine Ev.ifn he ((Ev.now _).eq ?_)
    exact (decide_eq_false (fun e => he (List.cons.inj e).1)).symm
 have := loop _ 0 (by omega) rfl
 simpa using this
theorem mn_lt0 {a b : Int} : mn a b < 0 ↔ a < 0 ∨ b < 0 := by unfold mn; split <;> omega
theorem one_key (x : S41) (hs : x.f3.size ≤ 2000) : ∃ b, Ev (fun k => tree_one.f k x.f0 x.f1 x.f2 x.f3 x.f4) b ∧ Ev (fun k => cr20_one.f k x.f0 x.f1 x.f2 x.f3 x.f4) b ∧ (b = true → (0 ≤ x.f0 ∧ x.f0 ≤ 3 ∧ 0 ≤ x.f1 ∧ x.f1 ≤ 2097151) ∧ (x.f2 = true → x.f3.toList = []) ∧ (x.f2 = false → x.f4 = [])) := by
 obtain ⟨a, b, c, d, e⟩ := x
 obtain ⟨l, hl, rfl⟩ := str_nums d
 rw [show (⟨a, b, c, strOfNums l, e⟩ : S41).f3.size = l.length from strOfNums_size l] at hs
 dsimp only
 obtain ⟨t, t1, t2⟩ := strs_right_key b l hl hs
 have hno1 : Ev (fun k => tree_one.j0 k true a b c (strOfNums l) e) false := by
  refine Ev.step (fun k => by rw [tree_one.j0]) ?_
  exact Ev.ifp rfl (Ev.now _)
 have hno2 : Ev (fun k => cr20_one.j0 k true a b c (strOfNums l) e) false := by
  refine Ev.step (fun k => by rw [cr20_one.j0]) ?_
  exact Ev.ifp rfl (Ev.now _)
 by_cases hb : 0 ≤ a ∧ a ≤ 3 ∧ 0 ≤ b ∧ b ≤ 2097151
 case neg =>
  refine ⟨false, ?_, ?_, fun h => by cases h⟩
  ·refine Ev.congr (fun k => by rw [tree_one.f]) ?_
   by_cases h1 : mn a b < 0
   ·exact Ev.ifp h1 hno1
   refine Ev.ifn h1 ?_
   rw [mn_lt0] at h1
   by_cases h2 : a > 3
   ·exact Ev.ifp h2 hno1
   refine Ev.ifn h2 ?_
   rw [decide_eq_true (by omega)]
   exact hno1
  ·refine Ev.congr (fun k => by rw [cr20_one.f]) ?_
   by_cases h1 : a < 0
   ·exact Ev.ifp h1 hno2
   refine Ev.ifn h1 ?_
   by_cases h2 : a > 3
   ·exact Ev.ifp h2 hno2
   refine Ev.ifn h2 ?_
   by_cases h3 : b < 0
   ·exact Ev.ifp h3 hno2
   refine Ev.ifn h3 ?_
   rw [decide_eq_true (by omega)]
   exact hno2
 have s1 : ∀ {r}, Ev (fun k => tree_one.j0 k false a b c (strOfNums l) e) r → Ev (fun k => tree_one.f k a b c (strOfNums l) e) r := by
  intro r h
  refine Ev.congr (fun k => by rw [tree_one.f]) ?_
  refine Ev.ifn (by rw [mn_lt0]; omega) (Ev.ifn (by omega) ?_)
  rw [decide_eq_false (by omega)]
  exact h
 have s2 : ∀ {r}, Ev (fun k => cr20_one.j0 k false a b c (strOfNums l) e) r → Ev (fun k => cr20_one.f k a b c (strOfNums l) e) r := by
  intro r h
  refine Ev.congr (fun k => by rw [cr20_one.f]) ?_
  refine Ev.ifn (by omega) (Ev.ifn (by omega) (Ev.ifn (by omega) ?_))
  rw [decide_eq_false (by omega)]
  exact h
 have e1 : ∀ k, tree_one.j0 (k + 1) false a b c (strOfNums l) e = _ := fun k => by rw [tree_one.j0]
 have e2 : ∀ k, cr20_one.j0 (k + 1) false a b c (strOfNums l) e = _ := fun k => by rw [cr20_one.j0]
 cases c with
 | true =>
  by_cases hd : (strOfNums l).toList = []
  case neg => exact ⟨false, s1 (Ev.step e1 (Ev.ifn (by simp) (Ev.ifp rfl (Ev.ifn hd (Ev.now _))))), s2 (Ev.step e2 (Ev.ifn (by simp) (Ev.ifp rfl (Ev.ifn hd (Ev.now _))))), fun h => by cases h⟩
  by_cases h0 : a = 0
  case neg => exact ⟨true, s1 (Ev.step e1 (Ev.ifn (by simp) (Ev.ifp rfl (Ev.ifp hd (Ev.ifn h0 (Ev.now _)))))), s2 (Ev.step e2 (Ev.ifn (by simp) (Ev.ifp rfl (Ev.ifp hd (Ev.ifn h0 (Ev.now _)))))), fun _ => ⟨hb, fun _ => hd, fun h => by cases h⟩⟩
  by_cases h16 : b = 16
  ·exact ⟨true, s1 (Ev.step e1 (Ev.ifn (by simp) (Ev.ifp rfl (Ev.ifp hd (Ev.ifp h0 (Ev.ifp h16 (Ev.now _))))))), s2 (Ev.step e2 (Ev.ifn (by simp) (Ev.ifp rfl (Ev.ifp hd (Ev.ifp h0 (Ev.ifp h16 (Ev.now _))))))), fun _ => ⟨hb, fun _ => hd, fun h => by cases h⟩⟩
  ·exact ⟨b == 17, s1 (Ev.step e1 (Ev.ifn (by simp) (Ev.ifp rfl (Ev.ifp hd (Ev.ifp h0 (Ev.ifn h16 (Ev.now _))))))), s2 (Ev.step e2 (Ev.ifn (by simp) (Ev.ifp rfl (Ev.ifp hd (Ev.ifp h0 (Ev.ifn h16 (Ev.now _))))))), fun _ => ⟨hb, fun _ => hd, fun h => by cases h⟩⟩
 | false =>
  by_cases he : (e.length : Int) = 0
  case neg => exact ⟨false, s1 (Ev.step e1 (Ev.ifn (by simp) (Ev.ifn (by simp) (Ev.ifn he (Ev.now _))))), s2 (Ev.step e2 (Ev.ifn (by simp) (Ev.ifn (by simp) (Ev.ifn he (Ev.now _))))), fun h => by cases h⟩
  have hee : e = [] := List.eq_nil_of_length_eq_zero (by omega)
  by_cases h0 : a = 0
  ·exact ⟨t, s1 (Ev.step e1 (Ev.ifn (by simp) (Ev.ifn (by simp) (Ev.ifp he (Ev.ifp h0 (Ev.bind t1 (Ev.now _))))))), s2 (Ev.step e2 (Ev.ifn (by simp) (Ev.ifn (by simp) (Ev.ifp he (Ev.ifp h0 (Ev.bind t2 (Ev.now _))))))), fun _ => ⟨hb, (fun h => by cases h), fun _ => hee⟩⟩
  ·exact ⟨true, s1 (Ev.step e1 (Ev.ifn (by simp) (Ev.ifn (by simp) (Ev.ifp he (Ev.ifn h0 (Ev.now _)))))), s2 (Ev.step e2 (Ev.ifn (by simp) (Ev.ifn (by simp) (Ev.ifp he (Ev.ifn h0 (Ev.now _)))))), fun _ => ⟨hb, (fun h => by cases h), fun _ => hee⟩⟩
def kidsOf (t : List S41) (n : Nat) : List Int := (rd_T41 t (n : Int)).f4
inductive Ch (ob : S41 → Bool) (t : List S41) : List Int → Nat → Nat → Nat → Prop where
 | nil (n : Nat) : Ch ob t [] n n 0
 | cons {k : Int} {ks : List Int} {n m j h1 h2 : Nat} (hk : k = (n : Int)) (hn : n < t.length) (ho : ob (rd_T41 t (n : Int)) = true) (h : Ch ob t (kidsOf t n) (n + 1) m h1) (hs : Ch ob t ks m j h2) : Ch ob t (k :: ks) n j (max (h1 + 1) h2)
theorem Ch.le {ob : S41 → Bool} {t : List S41} {ks : List Int} {n j h : Nat} (c : Ch ob t ks n j h) : n ≤ j ∧ (n ≤ t.length → j ≤ t.length) := by
 induction c with
 | nil n => exact ⟨Nat.le_refl _, id⟩
 | cons hk hn ho h hs ih1 ih2 => exact ⟨by omega, fun _ => ih2.2 (ih1.2 (by omega))⟩
theorem Ch.det {ob : S41 → Bool} {t : List S41} {ks : List Int} {n j h : Nat} (c : Ch ob t ks n j h) : ∀ {j' h' : Nat}, Ch ob t ks n j' h' → j = j' ∧ h = h' := by
 induction c with
 | nil n => intro j' h' c'; cases c'; exact ⟨rfl, rfl⟩
 | cons hk hn ho h hs ih1 ih2 =>
  intro j' h' c'
  cases c' with
  | cons _ _ _ g gs =>
   obtain ⟨rfl, rfl⟩ := ih1 g
   obtain ⟨rfl, rfl⟩ := ih2 gs
   exact ⟨rfl, rfl⟩
def RT (ob : S41 → Bool) (t : List S41) (h : Nat) : Prop := 0 < t.length ∧ t.length ≤ 1000 ∧ ob (rd_T41 t 0) = true ∧ Ch ob t (kidsOf t 0) 1 t.length h ∧ h + 1 ≤ 16
theorem rd_last {α : Type} (s : List α) (x d : α) : (s ++ [x]).getD s.length d = x := by simp [List.getD_eq_getElem?_getD]
theorem behind_is (ob : S41 → Bool) (t : List S41) (hN : t.length ≤ 1000) (hk : ∀ n, n < t.length → (kidsOf t n).length ≤ 100000)
 (hob : ∀ n, n < t.length → Ev (fun k => cr20_one.f k (rd_T41 t (n : Int)).f0 (rd_T41 t (n : Int)).f1 (rd_T41 t (n : Int)).f2 (rd_T41 t (n : Int)).f3 (rd_T41 t (n : Int)).f4) (ob (rd_T41 t (n : Int)))) :
 ∀ (d deep i : Nat), 17 - deep ≤ d → deep ≤ 17 → i ≤ t.length → ∃ r : Int, Ev (fun k => cr20_behind.f k t (i : Int) (deep : Int)) r ∧
  ((r = -1 ∧ ¬ ∃ j h, i < t.length ∧ ob (rd_T41 t (i : Int)) = true ∧ Ch ob t (kidsOf t i) (i + 1) j h ∧ deep + h ≤ 16) ∨ ∃ j h : Nat, r = (j : Int) ∧ i < t.length ∧ ob (rd_T41 t (i : Int)) = true ∧ Ch ob t (kidsOf t i) (i + 1) j h ∧ deep + h ≤ 16) := by
 intro d
 induction d with
 | zero =>
  intro deep i hd h17 hi
  have hno : Ev (fun k => cr20_behind.j0 k t (i : Int) (deep : Int) true) (-1) := by
   refine Ev.step (fun k => by rw [cr20_behind.j0]) ?_
   exact Ev.ifp rfl (Ev.now _)
  refine ⟨-1, ?_, Or.inl ⟨rfl, fun ⟨j, h, _, _, _, hh⟩ => by omega⟩⟩
  refine Ev.step (fun k => by rw [cr20_behind.f]) ?_
  by_cases g : (i : Int) ≥ (t.length : Int)
  ·exact Ev.ifp g hno
  ·exact Ev.ifn g (Ev.ifp (by omega) hno)
 | succ d ih =>
  intro deep i hd h17 hi
  have hno : Ev (fun k => cr20_behind.j0 k t (i : Int) (deep : Int) true) (-1) := by
   refine Ev.step (fun k => by rw [cr20_behind.j0]) ?_
   exact Ev.ifp rfl (Ev.now _)
  by_cases g : (i : Int) ≥ (t.length : Int)
  ·refine ⟨-1, ?_, Or.inl ⟨rfl, fun ⟨j, h, hh, _⟩ => by omega⟩⟩
   refine Ev.step (fun k => by rw [cr20_behind.f]) ?_
   exact Ev.ifp g hno
  by_cases g2 : (deep : Int) > 16
  ·refine ⟨-1, ?_, Or.inl ⟨rfl, fun ⟨j, h, _, _, _, hh⟩ => by omega⟩⟩
   refine Ev.step (fun k => by rw [cr20_behind.f]) ?_
   exact Ev.ifn g (Ev.ifp g2 hno)
  have hiN : i < t.length := by omega
  cases hb : ob (rd_T41 t (i : Int)) with
  | false =>
   refine ⟨-1, ?_, Or.inl ⟨rfl, fun ⟨j, h, _, hh, _⟩ => by cases hh⟩⟩
   refine Ev.step (fun k => by rw [cr20_behind.f]) ?_
   refine Ev.ifn g (Ev.ifn g2 (Ev.ifp (by omega) (Ev.ifp (by omega) (Ev.bind (hob i hiN) ?_))))
   rw [hb]
   exact hno
  | true =>
   have loop : ∀ (ks : List Int) (p n : Nat), (kidsOf t i).drop p = ks → p ≤ (kidsOf t i).length → n ≤ t.length → ∃ r : Int, Ev (fun k => cr20_behind.l0 k t (i : Int) (deep : Int) (n : Int) (p : Int)) r ∧
    ((r = -1 ∧ ¬ ∃ j h, Ch ob t ks n j h ∧ deep + h ≤ 16) ∨ ∃ j h : Nat, r = (j : Int) ∧ Ch ob t ks n j h ∧ deep + h ≤ 16) := by
    intro ks
    induction ks with
    | nil =>
     intro p n hp hpl hn
     have hpe : p = (kidsOf t i).length := by
      have := congrArg List.length hp
      simp at this
      omega
     refine ⟨(n : Int), ?_, Or.inr ⟨n, 0, rfl, Ch.nil n, by omega⟩⟩
     refine Ev.step (fun k => by rw [cr20_behind.l0]) ?_
     refine Ev.ifp (by omega) (Ev.ifp (by omega) (Ev.ifn ?_ (Ev.now _)))
     show ¬ (p : Int) < ((kidsOf t i).length : Int)
     omega
    | cons k0 ks' ihk =>
     intro p n hp hpl hn
     have hpl2 : p < (kidsOf t i).length := by
      have := congrArg List.length hp
      simp at this
      omega
     have hdrop := List.drop_eq_getElem_cons hpl2
     rw [hp] at hdrop
     obtain ⟨hk0, hks⟩ := List.cons.inj hdrop
     have hkl := hk i hiN
     have hrd : rd (rd_T41 t (i : Int)).f4 (p : Int) = k0 := by rw [hk0]; exact rd_get p hpl2
     have step : ∀ {r}, Ev (fun k => if rd (rd_T41 t (i : Int)).f4 (p : Int) = (n : Int) then ((cr20_behind.f k t (n : Int) (wrap64 ((deep : Int) + 1))).bind fun t380 => (if t380 < 0 then (some (-1)) else (cr20_behind.l0 k t (i : Int) (deep : Int) t380 (wrap64 ((p : Int) + 1))))) else some (-1)) r → Ev (fun k => cr20_behind.l0 k t (i : Int) (deep : Int) (n : Int) (p : Int)) r := by
      intro r h
      refine Ev.step (fun k => by rw [cr20_behind.l0]) ?_
      refine Ev.ifp (by omega) (Ev.ifp (by omega) (Ev.ifp ?_ (Ev.ifp (by omega) h)))
      show (p : Int) < ((kidsOf t i).length : Int)
      omega
     rw [hrd, w64 (x := (deep : Int) + 1) (by omega) (by omega), w64 (x := (p : Int) + 1) (by omega) (by omega)] at step
     by_cases hkn : k0 = (n : Int)
     case neg => exact ⟨-1, step (Ev.ifn hkn (Ev.now _)), Or.inl ⟨rfl, fun ⟨j, h, c, _⟩ => by cases c; contradiction⟩⟩
     obtain ⟨r1, hr1, hc1⟩ := ih (deep + 1) n (by omega) (by omega) hn
     rw [show ((deep + 1 : Nat) : Int) = (deep : Int) + 1 by omega] at hr1
     rcases hc1 with ⟨rfl, hnot⟩ | ⟨j1, h1, rfl, hnN, hob1, c1, hd1⟩
     ·refine ⟨-1, step (Ev.ifp hkn (Ev.bind hr1 (Ev.ifp (by decide) (Ev.now _)))), Or.inl ⟨rfl, fun ⟨j, h, c, hh⟩ => hnot ?_⟩⟩
      cases c with
      | cons _ hn' ho' g gs => exact ⟨_, _, hn', ho', g, by omega⟩
     ·have hle := c1.le
      obtain ⟨r2, hr2, hc2⟩ := ihk (p + 1) j1 hks.symm (by omega) (hle.2 (by omega))
      rw [show ((p + 1 : Nat) : Int) = (p : Int) + 1 by omega] at hr2
      refine ⟨r2, step (Ev.ifp hkn (Ev.bind hr1 (Ev.ifn (by omega) hr2))), ?_⟩
      rcases hc2 with ⟨rfl, hnot⟩ | ⟨j, h, rfl, c, hh⟩
      ·refine Or.inl ⟨rfl, fun ⟨j, h, c, hh⟩ => hnot ?_⟩
       cases c with
       | cons _ hn' ho' g gs =>
        obtain ⟨rfl, rfl⟩ := c1.det g
        exact ⟨_, _, gs, by omega⟩
      ·exact Or.inr ⟨j, _, rfl, Ch.cons hkn hnN hob1 c1 c, by omega⟩
   obtain ⟨r, hr, hc⟩ := loop _ 0 (i + 1) rfl (by omega) (by omega)
   refine ⟨r, ?_, ?_⟩
   ·refine Ev.step (fun k => by rw [cr20_behind.f]) ?_
    refine Ev.ifn g (Ev.ifn g2 (Ev.ifp (by omega) (Ev.ifp (by omega) (Ev.bind (hob i hiN) ?_))))
    rw [hb]
    refine Ev.step (fun k => by rw [cr20_behind.j0]) ?_
    rw [w64 (by omega) (by omega)]
    exact Ev.ifn (by simp) hr
   ·rw [List.drop_zero] at hc
    rcases hc with ⟨rfl, hnot⟩ | ⟨j, h, rfl, c, hh⟩
    ·exact Or.inl ⟨rfl, fun ⟨j, h, _, _, c, hh⟩ => hnot ⟨j, h, c, hh⟩⟩
    ·exact Or.inr ⟨j, h, rfl, hiN, rfl, c, hh⟩
theorem ref_right_is (ob : S41 → Bool) (t : List S41) (hk : ∀ n, n < t.length → (kidsOf t n).length ≤ 100000)
 (hob : ∀ n, n < t.length → Ev (fun k => cr20_one.f k (rd_T41 t (n : Int)).f0 (rd_T41 t (n : Int)).f1 (rd_T41 t (n : Int)).f2 (rd_T41 t (n : Int)).f3 (rd_T41 t (n : Int)).f4) (ob (rd_T41 t (n : Int)))) :
 ∃ b, Ev (fun k => cr20_Right.f k t) b ∧ (b = true ↔ ∃ h, RT ob t h) := by
 by_cases h0 : (t.length : Int) > 0
 case neg =>
  refine ⟨false, ?_, by simp; intro h hh; have := hh.1; omega⟩
  refine Ev.congr (fun k => by rw [cr20_Right.f]) ?_
  exact Ev.ifn h0 (Ev.now _)
 by_cases h1 : (t.length : Int) ≤ 1000
 case neg =>
  refine ⟨false, ?_, by simp; intro h hh; have := hh.2.1; omega⟩
  refine Ev.congr (fun k => by rw [cr20_Right.f]) ?_
  exact Ev.ifp h0 (Ev.ifn h1 (Ev.now _))
 obtain ⟨r, hr, hc⟩ := behind_is ob t (by omega) hk hob 16 1 0 (by omega) (by omega) (by omega)
 refine ⟨r == (t.length : Int), ?_, ?_⟩
 ·refine Ev.congr (fun k => by rw [cr20_Right.f]) ?_
  exact Ev.ifp h0 (Ev.ifp h1 (Ev.bind hr (Ev.now _)))
 ·rw [beq_iff_eq]
  rcases hc with ⟨rfl, hnot⟩ | ⟨j, h, rfl, hi, ho, c, hh⟩
  ·exact ⟨fun h => by omega, fun ⟨h, a1, a2, a3, a4, a5⟩ => absurd ⟨_, h, a1, a3, a4, by omega⟩ hnot⟩
  ·constructor
   ·intro e
    obtain rfl : j = t.length := by omega
    exact ⟨h, hi, by omega, ho, c, by omega⟩
   ·rintro ⟨h', a1, a2, a3, a4, a5⟩
    rw [(c.det a4).1]
theorem fr_last (s : List S74) (x : S74) (i : Int) (h : i = (s.length : Int)) : rd_T74 (s ++ [x]) i = x := by
 subst h
 unfold rd_T74
 rw [Int.toNat_natCast]
 exact rd_last _ _ _
def Done (t : List S41) (l : List S74) : Prop := ∀ f ∈ l, ∃ p : Nat, p < t.length ∧ f = ⟨(p : Int), ((kidsOf t p).length : Int)⟩
theorem pops (t : List S41) (hN : t.length ≤ 1000) (s : List S74) (hs : s.length ≤ 100000) (most i : Int) (r : Int) : ∀ (n : Nat) (l : List S74), l.length = n → l.length ≤ 100000 → Done t l →
 Ev (fun k => tree_depth.l1 k t s most i t (t.length : Int) i) r → Ev (fun k => tree_depth.l1 k t (s ++ l) most i t (t.length : Int) i) r := by
 intro n
 induction n with
 | zero =>
  intro l hl _ _ h
  obtain rfl := List.eq_nil_of_length_eq_zero hl
  rw [List.append_nil]
  exact h
 | succ n ih =>
  intro l hl h5 hd h
  obtain ⟨q, x, rfl⟩ : ∃ q x, l = q ++ [x] := ⟨l.dropLast, l.getLast (by intro e; subst e; simp at hl), (List.dropLast_concat_getLast _).symm⟩
  simp at hl h5
  have h2 := ih q hl (by omega) (fun f hf => hd f (by simp [hf])) h
  obtain ⟨p, hp, rfl⟩ := hd x (by simp)
  have hlen : ((s ++ (q ++ [(⟨(p : Int), ((kidsOf t p).length : Int)⟩ : S74)])).length : Int) = (s ++ q).length + 1 := by simp; omega
  refine Ev.step (fun k => by rw [tree_depth.l1]) ?_
  have hsq : (s ++ q).length ≤ 200000 := by simp; omega
  rw [hlen, w64 (by omega) (by omega), show ((s ++ q).length : Int) + 1 - 1 = ((s ++ q).length : Int) by omega, ← List.append_assoc, fr_last (s ++ q) _ _ rfl]
  refine Ev.ifp (by omega) (Ev.ifp (by omega) (Ev.ifp (by omega) (Ev.ifp (by simp) (Ev.ifp (by simp; omega) (Ev.ifp rfl (Ev.ifp (by omega) ?_))))))
  rw [Int.toNat_natCast, List.take_left]
  exact h2
theorem l2_all (t : List S41) (most : Int) (x : List S74) (hx : x.length ≤ 100000) (hd : Done t x) (d : Nat) : ∀ i : Nat, i ≤ x.length → x.length - i = d →
 Ev (fun k => tree_depth.l2 k t most x (x.length : Int) (i : Int)) (if most > 16 then 0 else most) := by
 induction d with
 | zero =>
  intro i hi hdd
  refine Ev.step (fun k => by rw [tree_depth.l2]) ?_
  refine Ev.ifn (by omega) ?_
  exact Ev.ite (fun _ => Ev.now _) (fun _ => Ev.now _)
 | succ d ih =>
  intro i hi hdd
  have hlt : i < x.length := by omega
  obtain ⟨p, hp, hf⟩ := hd x[i] (List.getElem_mem hlt)
  have hr : rd_T74 x (i : Int) = x[i] := by unfold rd_T74; simp [List.getD_eq_getElem?_getD, hlt]
  refine Ev.step (fun k => by rw [tree_depth.l2]) ?_
  rw [hr, hf, w64 (by omega) (by omega), show (i : Int) + 1 = ((i + 1 : Nat) : Int) by omega]
  exact Ev.ifp (by omega) (Ev.ifp (by omega) (Ev.ifp (by omega) (Ev.ifp (by simp) (Ev.ifp (by simp; omega) (Ev.ifp rfl (ih (i + 1) (by omega) (by omega)))))))
theorem l2_not (t : List S41) (most : Int) (x : List S74) (hx : x.length ≤ 100000) (hw : ∀ f ∈ x, 0 ≤ f.f0 ∧ f.f0 < (t.length : Int)) (j : Nat) (hj : j < x.length) (hn : x[j].f1 ≠ ((rd_T41 t x[j].f0).f4.length : Int)) (d : Nat) : ∀ i : Nat, i ≤ j → j - i = d →
 Ev (fun k => tree_depth.l2 k t most x (x.length : Int) (i : Int)) 0 := by
 induction d with
 | zero =>
  intro i hi hdd
  obtain rfl : i = j := by omega
  have hr : rd_T74 x (i : Int) = x[i] := by unfold rd_T74; simp [List.getD_eq_getElem?_getD, hj]
  have hwf := hw x[i] (List.getElem_mem hj)
  refine Ev.step (fun k => by rw [tree_depth.l2]) ?_
  rw [hr]
  exact Ev.ifp (by omega) (Ev.ifp (by omega) (Ev.ifp (by omega) (Ev.ifp hwf.1 (Ev.ifp hwf.2 (Ev.ifn hn (Ev.now _))))))
 | succ d ih =>
  intro i hi hdd
  have hlt : i < x.length := by omega
  have hr : rd_T74 x (i : Int) = x[i] := by unfold rd_T74; simp [List.getD_eq_getElem?_getD, hlt]
  have hwf := hw x[i] (List.getElem_mem hlt)
  refine Ev.step (fun k => by rw [tree_depth.l2]) ?_
  rw [hr, w64 (by omega) (by omega), show (i : Int) + 1 = ((i + 1 : Nat) : Int) by omega]
  refine Ev.ifp (by omega) (Ev.ifp (by omega) (Ev.ifp (by omega) (Ev.ifp hwf.1 (Ev.ifp hwf.2 ?_))))
  by_cases hc : x[i].f1 = ((rd_T41 t x[i].f0).f4.length : Int)
  ·exact Ev.ifp hc (ih (i + 1) (by omega) (by omega))
  ·exact Ev.ifn hc (Ev.now _)
def ObT (ob : S41 → Bool) (t : List S41) : Prop := ∀ n, n < t.length → Ev (fun k => tree_one.f k (rd_T41 t (n : Int)).f0 (rd_T41 t (n : Int)).f1 (rd_T41 t (n : Int)).f2 (rd_T41 t (n : Int)).f3 (rd_T41 t (n : Int)).f4) (ob (rd_T41 t (n : Int)))
theorem dp_step (ob : S41 → Bool) (t : List S41) (hob : ObT ob t) (x : List S74) (most : Int) (n : Nat) (hn : n < t.length) (ho : ob (rd_T41 t (n : Int)) = true) {r : Int}
 (h : Ev (fun k => tree_depth.l1 k t x most (n : Int) t (t.length : Int) (n : Int)) r) : Ev (fun k => tree_depth.l0 k t x most t (t.length : Int) (n : Int)) r := by
 refine Ev.step (fun k => by rw [tree_depth.l0]) ?_
 refine Ev.ifp (by omega) (Ev.ifp (by omega) (Ev.ifp (by omega) (Ev.bind (hob n hn) ?_)))
 rw [ho]
 exact Ev.ifp rfl h
theorem set_last {α : Type} (s : List α) (x y : α) (i : Int) (h : i = (s.length : Int)) : (s ++ [x]).set i.toNat y = s ++ [y] := by
 subst h
 rw [Int.toNat_natCast]
 simp
theorem dp_top (t : List S41) (hN : t.length ≤ 1000) (s : List S74) (hs : s.length ≤ 2000) (p q n : Nat) (hp : p < t.length) (hq : q < (kidsOf t p).length) (hk : (kidsOf t p).length ≤ 100000) (hn0 : 0 < n) (hn : n < t.length) (most : Int) {r : Int}
 (h : Ev (fun k => if rd (kidsOf t p) (q : Int) = (n : Int) then tree_depth.l0 k t (s ++ [⟨(p : Int), ((q + 1 : Nat) : Int)⟩] ++ [⟨(n : Int), 0⟩]) (mx most ((s.length + 2 : Nat) : Int)) t (t.length : Int) ((n + 1 : Nat) : Int) else some 0) r) :
 Ev (fun k => tree_depth.l1 k t (s ++ [⟨(p : Int), (q : Int)⟩]) most (n : Int) t (t.length : Int) (n : Int)) r := by
 have hlen : ((s ++ [(⟨(p : Int), (q : Int)⟩ : S74)]).length : Int) = (s.length : Int) + 1 := by simp
 have hlen2 : ∀ y : S74, ((s ++ [y]).length : Int) = (s.length : Int) + 1 := by intro y; simp
 refine Ev.step (fun k => by rw [tree_depth.l1]) ?_
 rw [hlen, w64 (by omega) (by omega), show (s.length : Int) + 1 - 1 = (s.length : Int) by omega, fr_last s _ _ rfl]
 refine Ev.ifp (by omega) (Ev.ifp (by omega) (Ev.ifp (by omega) (Ev.ifp (by simp) (Ev.ifp (by simp; omega) (Ev.ifn ?_ ?_)))))
 ·show ¬ (q : Int) = ((kidsOf t p).length : Int)
  omega
 refine Ev.step (fun k => by rw [tree_depth.j3]) ?_
 rw [hlen, w64 (by omega) (by omega), show (s.length : Int) + 1 - 1 = (s.length : Int) by omega, fr_last s _ _ rfl, set_last s _ _ _ rfl]
 refine Ev.ifp (by omega) (Ev.ifn (by omega) (Ev.ifp (by omega) (Ev.ifp (by omega) (Ev.ifp (by simp) (Ev.ifp (by simp; omega) (Ev.ifp (by simp) (Ev.ifp ?_ ?_)))))))
 ·show (q : Int) < ((kidsOf t p).length : Int)
  omega
 refine (Ev.congr (fun k => ?_) h)
 show (if rd (kidsOf t p) (q : Int) = (n : Int) then _ else _) = _
 by_cases hv : rd (kidsOf t p) (q : Int) = (n : Int)
 ·rw [if_pos hv, if_pos hv, Option.bind_some, if_pos (by simp; omega), Option.bind_some]
  dsimp only
  rw [w64 (x := (q : Int) + 1) (by omega) (by omega), w64 (x := (n : Int) + 1) (by omega) (by omega)]
  rw [show ((s ++ [(⟨(p : Int), (q : Int) + 1⟩ : S74)] ++ [(⟨(n : Int), 0⟩ : S74)]).length : Int) = ((s.length + 2 : Nat) : Int) by simp]
  rfl
 ·rw [if_neg hv, if_neg hv]
theorem mx_nat (a b : Nat) : mx (a : Int) (b : Int) = ((max a b : Nat) : Int) := by unfold mx; split <;> omega
theorem depth_fwd (ob : S41 → Bool) (t : List S41) (hN : t.length ≤ 1000) (hk : ∀ n, n < t.length → (kidsOf t n).length ≤ 100000) (hob : ObT ob t) {ks : List Int} {n j h : Nat} (c : Ch ob t ks n j h) :
 ∀ (s : List S74) (p q : Nat) (dn : List S74) (most : Nat), p < t.length → (kidsOf t p).drop q = ks → q ≤ (kidsOf t p).length → Done t dn → s.length + 1 + dn.length ≤ n → n ≤ t.length → s.length + 1 ≤ most →
 ∃ dn', Done t dn' ∧ s.length + 1 + dn'.length ≤ j ∧ ∀ r, Ev (fun k => tree_depth.l0 k t (s ++ ([⟨(p : Int), ((q + ks.length : Nat) : Int)⟩] ++ dn')) ((max most (s.length + 1 + h) : Nat) : Int) t (t.length : Int) (j : Int)) r →
  Ev (fun k => tree_depth.l0 k t (s ++ ([⟨(p : Int), (q : Int)⟩] ++ dn)) (most : Int) t (t.length : Int) (n : Int)) r := by
 induction c with
 | nil n =>
  intro s p q dn most hp hks hq hd hl hn hm
  refine ⟨dn, hd, hl, fun r hr => ?_⟩
  rw [show max most (s.length + 1 + 0) = most by omega] at hr
  exact hr
 | @cons k ks n m j h1 h2 hkn hnN ho c1 c2 ih1 ih2 =>
  intro s p q dn most hp hks hq hd hl hn hm
  have hq2 : q < (kidsOf t p).length := by
   have := congrArg List.length hks
   simp at this
   omega
  have hdrop := List.drop_eq_getElem_cons hq2
  rw [hks] at hdrop
  obtain ⟨hk0, hks'⟩ := List.cons.inj hdrop
  have hv : rd (kidsOf t p) (q : Int) = (n : Int) := by rw [rd_get q hq2, ← hk0, hkn]
  have le1 := c1.le
  obtain ⟨dn1, hd1, hl1, g1⟩ := ih1 (s ++ [⟨(p : Int), ((q + 1 : Nat) : Int)⟩]) n 0 [] (max most (s.length + 2)) hnN rfl (by omega) (by intro f hf; cases hf) (by simp; omega) (by omega) (by simp; omega)
  simp only [List.length_append, List.length_cons, List.length_nil] at hl1 g1
  obtain ⟨dn2, hd2, hl2, g2⟩ := ih2 s p (q + 1) ([⟨(n : Int), ((kidsOf t n).length : Int)⟩] ++ dn1) (max (max most (s.length + 2)) (s.length + (0 + 1) + 1 + h1)) hp hks'.symm (by omega)
   (by
    intro f hf
    rcases List.mem_append.1 hf with hf | hf
    ·exact ⟨n, hnN, by simpa using hf⟩
    ·exact hd1 f hf) (by simp; omega) (le1.2 (by omega)) (by omega)
  refine ⟨dn2, hd2, hl2, fun r hr => ?_⟩
  refine dp_step ob t hob _ _ n hnN ho ?_
  rw [← List.append_assoc]
  refine pops t hN _ (by simp; omega) _ _ _ _ dn rfl (by omega) hd ?_
  refine dp_top t hN s (by omega) p q n hp hq2 (hk p hp) (by omega) hnN _ ?_
  refine Ev.ifp hv ?_
  rw [mx_nat]
  have g3 := g1 r
  rw [List.append_nil] at g3
  refine g3 ?_
  rw [List.append_assoc, show 0 + (kidsOf t n).length = (kidsOf t n).length by omega]
  refine g2 r ?_
  rw [show q + 1 + ks.length = q + (k :: ks).length by simp; omega, show max (max (max most (s.length + 2)) (s.length + (0 + 1) + 1 + h1)) (s.length + 1 + h2) = max most (s.length + 1 + max (h1 + 1) h2) by omega]
  exact hr
def Shut (ob : S41 → Bool) (t : List S41) : List S74 → Nat → Prop
 | [], n => n = t.length
 | f :: rest, n => ∃ m h, Ch ob t ((kidsOf t f.f0.toNat).drop f.f1.toNat) n m h ∧ Shut ob t rest m
def FrOk (t : List S41) (x : List S74) : Prop := ∀ f ∈ x, ∃ p q : Nat, p < t.length ∧ q ≤ (kidsOf t p).length ∧ f = ⟨(p : Int), (q : Int)⟩
theorem shut_done (ob : S41 → Bool) (t : List S41) (y : List S74) (n : Nat) (h : Shut ob t y n) : ∀ l : List S74, Done t l → Shut ob t (l ++ y) n
 | [], _ => h
 | f :: l, hd => by
  obtain ⟨p, hp, hf⟩ := hd f (by simp)
  refine ⟨n, 0, ?_, shut_done ob t y n h l (fun g hg => hd g (by simp [hg]))⟩
  rw [hf]
  dsimp only
  rw [Int.toNat_natCast, Int.toNat_natCast, List.drop_length]
  exact Ch.nil n
theorem split_done (t : List S41) : ∀ (m : Nat) (x : List S74), x.length = m → FrOk t x → ∃ y dn, x = y ++ dn ∧ Done t dn ∧ (y = [] ∨ ∃ s, ∃ p q : Nat, p < t.length ∧ q < (kidsOf t p).length ∧ y = s ++ [⟨(p : Int), (q : Int)⟩]) := by
 intro m
 induction m with
 | zero =>
  intro x hx _
  obtain rfl := List.eq_nil_of_length_eq_zero hx
  exact ⟨[], [], rfl, (fun f hf => by cases hf), Or.inl rfl⟩
 | succ m ih =>
  intro x hx hw
  obtain ⟨z, f, rfl⟩ : ∃ z f, x = z ++ [f] := ⟨x.dropLast, x.getLast (by intro e; subst e; simp at hx), (List.dropLast_concat_getLast _).symm⟩
  simp at hx
  obtain ⟨p, q, hp, hq, rfl⟩ := hw f (by simp)
  by_cases hqe : q = (kidsOf t p).length
  ·obtain ⟨y, dn, hy, hd, hc⟩ := ih z hx (fun g hg => hw g (by simp [hg]))
   refine ⟨y, dn ++ [⟨(p : Int), (q : Int)⟩], by rw [hy, List.append_assoc], ?_, hc⟩
   intro g hg
   rcases List.mem_append.1 hg with hg | hg
   ·exact hd g hg
   ·exact ⟨p, hp, by rw [← hqe]; simpa using hg⟩
  ·exact ⟨z ++ [⟨(p : Int), (q : Int)⟩], [], by simp, (fun f hf => by cases hf), Or.inr ⟨z, p, q, hp, by omega, rfl⟩⟩
theorem depth_neg (ob : S41 → Bool) (t : List S41) (hN : t.length ≤ 1000) (hk : ∀ n, n < t.length → (kidsOf t n).length ≤ 100000) (hob : ObT ob t) :
 ∀ (d n : Nat), t.length - n = d → 0 < n → n ≤ t.length → ∀ (x : List S74) (most : Int), FrOk t x → x.length ≤ n → ∃ r, Ev (fun k => tree_depth.l0 k t x most t (t.length : Int) (n : Int)) r ∧ (r = 0 ∨ Shut ob t x.reverse n) := by
 intro d
 induction d with
 | zero =>
  intro n hd h0 hn x most hw hx
  obtain rfl : n = t.length := by omega
  have h1 : ∀ {r}, Ev (fun k => tree_depth.l2 k t most x (x.length : Int) ((0 : Nat) : Int)) r → Ev (fun k => tree_depth.l0 k t x most t (t.length : Int) (t.length : Int)) r := by
   intro r h
   refine Ev.step (fun k => by rw [tree_depth.l0]) ?_
   exact Ev.ifn (by omega) h
  by_cases hdn : Done t x
  ·refine ⟨_, h1 (l2_all t most x (by omega) hdn x.length 0 (by omega) (by omega)), Or.inr ?_⟩
   have := shut_done ob t [] t.length rfl x.reverse (fun f hf => hdn f (by simpa using hf))
   rwa [List.append_nil] at this
  ·have : ∃ f, f ∈ x ∧ ¬ ∃ p : Nat, p < t.length ∧ f = ⟨(p : Int), ((kidsOf t p).length : Int)⟩ := by
    apply Classical.byContradiction
    intro hc
    exact hdn (fun f hf => Classical.byContradiction (fun h => hc ⟨f, hf, h⟩))
   obtain ⟨f, hf, hne⟩ := this
   obtain ⟨j, hj, rfl⟩ := List.mem_iff_getElem.1 hf
   refine ⟨0, h1 (l2_not t most x (by omega) ?_ j hj ?_ j 0 (by omega) (by omega)), Or.inl rfl⟩
   ·intro f hf
    obtain ⟨p, q, hp, _, rfl⟩ := hw f hf
    dsimp only
    omega
   ·obtain ⟨p, q, hp, hq, hfe⟩ := hw _ hf
    rw [hfe] at hne ⊢
    intro e
    exact hne ⟨p, hp, by rw [show ((q : Nat) : Int) = ((kidsOf t p).length : Int) from e]⟩
 | succ d ih =>
  intro n hd h0 hn x most hw hx
  have hnN : n < t.length := by omega
  cases hb : ob (rd_T41 t (n : Int)) with
  | false =>
   refine ⟨0, ?_, Or.inl rfl⟩
   refine Ev.step (fun k => by rw [tree_depth.l0]) ?_
   refine Ev.ifp (by omega) (Ev.ifp (by omega) (Ev.ifp (by omega) (Ev.bind (hob n hnN) ?_)))
   rw [hb]
   exact Ev.ifn (by simp) (Ev.now _)
  | true =>
   obtain ⟨y, dn, rfl, hdn, hc⟩ := split_done t x.length x rfl hw
   rw [List.length_append] at hx
   rcases hc with rfl | ⟨s, p, q, hp, hq, rfl⟩
   ·refine ⟨0, dp_step ob t hob _ _ n hnN hb (pops t hN _ (by simp) _ _ _ _ dn rfl (by omega) hdn ?_), Or.inl rfl⟩
    refine Ev.step (fun k => by rw [tree_depth.l1]) ?_
    refine Ev.ifn (by simp) ?_
    refine Ev.step (fun k => by rw [tree_depth.j3]) ?_
    exact Ev.ifp (by omega) (Ev.ifp (by simp) (Ev.now _))
   ·simp at hx
    by_cases hv : rd (kidsOf t p) (q : Int) = (n : Int)
    ·have hw2 : FrOk t (s ++ [⟨(p : Int), ((q + 1 : Nat) : Int)⟩] ++ [⟨(n : Int), 0⟩]) := by
      intro f hf
      simp at hf
      rcases hf with hf | rfl | rfl
      ·exact hw f (by simp [hf])
      ·exact ⟨p, q + 1, hp, by omega, by simp⟩
      ·exact ⟨n, 0, hnN, by omega, rfl⟩
     obtain ⟨r, hr, hcr⟩ := ih (n + 1) (by omega) (by omega) (by omega) _ (mx most ((s.length + 2 : Nat) : Int)) hw2 (by simp; omega)
     refine ⟨r, dp_step ob t hob _ _ n hnN hb (pops t hN _ (by simp; omega) _ _ _ _ dn rfl (by omega) hdn (dp_top t hN s (by omega) p q n hp hq (hk p hp) h0 hnN _ (Ev.ifp hv hr))), ?_⟩
     rcases hcr with rfl | hsh
     ·exact Or.inl rfl
     refine Or.inr ?_
     simp only [List.reverse_append, List.reverse_cons, List.reverse_nil, List.nil_append, List.singleton_append, List.cons_append] at hsh ⊢
     obtain ⟨m, h1, c1, m2, h2, c2, hsr⟩ := hsh
     refine shut_done ob t _ n ?_ dn.reverse (fun f hf => hdn f (by simpa using hf))
     refine ⟨m2, max (h1 + 1) h2, ?_, hsr⟩
     dsimp only at c1 c2 ⊢
     rw [Int.toNat_natCast, Int.toNat_natCast] at c2 ⊢
     rw [Int.toNat_natCast] at c1
     rw [List.drop_eq_getElem_cons hq]
     refine Ch.cons ?_ hnN hb c1 c2
     rw [← rd_get q hq]
     exact hv
    ·exact ⟨0, dp_step ob t hob _ _ n hnN hb (pops t hN _ (by simp; omega) _ _ _ _ dn rfl (by omega) hdn (dp_top t hN s (by omega) p q n hp hq (hk p hp) h0 hnN _ (Ev.ifn hv (Ev.now _)))), Or.inl rfl⟩
theorem tree_depth_is (ob : S41 → Bool) (t : List S41) (hk : ∀ n, n < t.length → (kidsOf t n).length ≤ 100000) (hob : ObT ob t) :
 ∃ r : Int, Ev (fun k => tree_depth.f k t) r ∧ ((∃ h : Nat, r = (h : Int) + 1 ∧ RT ob t h) ∨ r = 0 ∧ ¬ ∃ h, RT ob t h) := by
 have hno : Ev (fun k => tree_depth.j0 k t true) 0 := by
  refine Ev.step (fun k => by rw [tree_depth.j0]) ?_
  exact Ev.ifp rfl (Ev.now _)
 by_cases h0 : (t.length : Int) = 0
 ·refine ⟨0, ?_, Or.inr ⟨rfl, fun ⟨h, a, _⟩ => by omega⟩⟩
  refine Ev.congr (fun k => by rw [tree_depth.f]) ?_
  exact Ev.ifp h0 hno
 by_cases h1 : t.length ≤ 1000
 case neg =>
  refine ⟨0, ?_, Or.inr ⟨rfl, fun ⟨h, _, a, _⟩ => by omega⟩⟩
  refine Ev.congr (fun k => by rw [tree_depth.f]) ?_
  refine Ev.ifn h0 ?_
  rw [decide_eq_true (by omega)]
  exact hno
 have hin : ∀ {r}, Ev (fun k => tree_depth.l0 k t ([] : List S74) 0 t (t.length : Int) ((0 : Nat) : Int)) r → Ev (fun k => tree_depth.f k t) r := by
  intro r h
  refine Ev.congr (fun k => by rw [tree_depth.f]) ?_
  refine Ev.ifn h0 ?_
  rw [decide_eq_false (by omega)]
  refine Ev.step (fun k => by rw [tree_depth.j0]) ?_
  exact Ev.ifn (by simp) h
 have hN : 0 < t.length := by omega
 cases hb : ob (rd_T41 t ((0 : Nat) : Int)) with
 | false =>
  refine ⟨0, hin ?_, Or.inr ⟨rfl, fun ⟨h, _, _, a, _⟩ => by rw [show (0 : Int) = ((0 : Nat) : Int) from rfl, hb] at a; cases a⟩⟩
  refine Ev.step (fun k => by rw [tree_depth.l0]) ?_
  refine Ev.ifp (by omega) (Ev.ifp (by omega) (Ev.ifp (by omega) (Ev.bind (hob 0 hN) ?_)))
  rw [hb]
  exact Ev.ifn (by simp) (Ev.now _)
 | true =>
  have hone : ∀ {r}, Ev (fun k => tree_depth.l0 k t [⟨((0 : Nat) : Int), ((0 : Nat) : Int)⟩] ((1 : Nat) : Int) t (t.length : Int) ((1 : Nat) : Int)) r → Ev (fun k => tree_depth.f k t) r := by
   intro r h
   refine hin (dp_step ob t hob _ _ 0 hN hb ?_)
   refine Ev.step (fun k => by rw [tree_depth.l1]) ?_
   refine Ev.ifn (by simp) ?_
   refine Ev.step (fun k => by rw [tree_depth.j3]) ?_
   refine Ev.ifn (by omega) (Ev.ifp (by simp) (Ev.bindc rfl ?_))
   rw [w64 (by omega) (by omega)]
   exact h
  have hw : FrOk t [⟨((0 : Nat) : Int), ((0 : Nat) : Int)⟩] := by
   intro f hf
   exact ⟨0, 0, hN, by omega, by simpa using hf⟩
  by_cases hc : ∃ h, Ch ob t (kidsOf t 0) 1 t.length h
  ·obtain ⟨h, c⟩ := hc
   obtain ⟨dn, hdn, hl, g⟩ := depth_fwd ob t h1 hk hob c [] 0 0 [] 1 hN rfl (by omega) (by intro f hf; cases hf) (by simp) (by omega) (by simp)
   have hdd : Done t ([⟨((0 : Nat) : Int), ((0 + (kidsOf t 0).length : Nat) : Int)⟩] ++ dn) := by
    intro f hf
    rcases List.mem_append.1 hf with hf | hf
    ·exact ⟨0, hN, by rw [Nat.zero_add] at hf; simpa using hf⟩
    ·exact hdn f hf
   have g2 := l2_all t ((max 1 (([] : List S74).length + 1 + h) : Nat) : Int) _ (by simp at hl ⊢; omega) hdd _ 0 (by omega) rfl
   obtain ⟨R, hR⟩ : ∃ R : Int, R = if ((max 1 (([] : List S74).length + 1 + h) : Nat) : Int) > 16 then 0 else ((max 1 (([] : List S74).length + 1 + h) : Nat) : Int) := ⟨_, rfl⟩
   rw [← hR] at g2
   have g3 := g R (by
    refine Ev.step (fun k => by rw [tree_depth.l0]) ?_
    exact Ev.ifn (by omega) g2)
   refine ⟨R, hone g3, ?_⟩
   rw [hR]
   by_cases h16 : h + 1 ≤ 16
   ·refine Or.inl ⟨h, ?_, hN, h1, hb, c, h16⟩
    rw [if_neg (by simp; omega)]
    simp
    omega
   ·refine Or.inr ⟨if_pos (by simp; omega), fun ⟨h', _, _, _, c', hh⟩ => ?_⟩
    have := (c.det c').2
    omega
  ·obtain ⟨r, hr, hcr⟩ := depth_neg ob t h1 hk hob _ 1 rfl (by omega) (by omega) _ ((1 : Nat) : Int) hw (by simp)
   refine ⟨r, hone hr, Or.inr ⟨?_, fun ⟨h', _, _, _, c', _⟩ => hc ⟨_, c'⟩⟩⟩
   rcases hcr with rfl | ⟨m, h, c, hm⟩
   ·rfl
   ·exact absurd ⟨h, by rw [show m = t.length from hm] at c; exact c⟩ hc
def OneOk (x : S41) (b : Bool) : Prop := x.f3.size ≤ 2000 → Ev (fun k => tree_one.f k x.f0 x.f1 x.f2 x.f3 x.f4) b ∧ Ev (fun k => cr20_one.f k x.f0 x.f1 x.f2 x.f3 x.f4) b ∧ (b = true → (0 ≤ x.f0 ∧ x.f0 ≤ 3 ∧ 0 ≤ x.f1 ∧ x.f1 ≤ 2097151) ∧ (x.f2 = true → x.f3.toList = []) ∧ (x.f2 = false → x.f4 = []))
theorem one_all : ∃ ob : S41 → Bool, ∀ x, OneOk x (ob x) := by
 have h : ∀ x : S41, ∃ b, OneOk x b := by
  intro x
  by_cases h : x.f3.size ≤ 2000
  ·obtain ⟨b, h1, h2, h3⟩ := one_key x h
   exact ⟨b, fun _ => ⟨h1, h2, h3⟩⟩
  ·exact ⟨false, fun h' => absurd h' h⟩
 exact Classical.axiomOfChoice h
def shN (by_ : Int) (x : S41) : S41 := ⟨x.f0, x.f1, x.f2, x.f3, x.f4.map (fun y => wrap64 (y + by_))⟩
theorem moved_is (by_ : Int) (a b : Int) (c : Bool) (d : ByteArray) (l : List Int) (hl : l.length ≤ 100000) :
 Ev (fun k => tree_moved.f k a b c d l by_) (a, b, c, d, l.map (fun y => wrap64 (y + by_))) := by
 have loop : ∀ (suf pre : List Int), pre.length + suf.length ≤ 100000 → Ev (fun k => tree_moved.l0 k by_ ((pre.length + suf.length : Nat) : Int) (pre.length : Int) a b c d (pre ++ suf)) (a, b, c, d, pre ++ suf.map (fun y => wrap64 (y + by_))) := by
  intro suf
  induction suf with
  | nil =>
   intro pre hp
   refine Ev.step (fun k => by rw [tree_moved.l0]) ?_
   exact Ev.ifn (by simp) (Ev.now _)
  | cons x suf ih =>
   intro pre hp
   simp at hp
   refine Ev.step (fun k => by rw [tree_moved.l0]) ?_
   have hlt : pre.length < (pre ++ x :: suf).length := by simp
   rw [rd_get pre.length hlt, w64 (x := (pre.length : Int) + 1) (by omega) (by omega)]
   refine Ev.ifp (by simp; omega) (Ev.ifp (by omega) (Ev.ifp (by simp; omega) ?_))
   have := ih (pre ++ [wrap64 (x + by_)]) (by simp; omega)
   simp only [List.length_append, List.length_cons, List.length_nil, List.append_assoc, List.singleton_append] at this
   rw [show pre.length + (x :: suf).length = pre.length + (0 + 1) + suf.length by simp; omega, List.map_cons]
   rw [show (pre ++ x :: suf).set (pre.length : Int).toNat (wrap64 ((pre ++ x :: suf)[pre.length] + by_)) = pre ++ wrap64 (x + by_) :: suf by rw [Int.toNat_natCast]; simp, show (pre.length : Int) + 1 = ((pre.length + (0 + 1) : Nat) : Int) by omega]
   exact this
 refine Ev.congr (fun k => by rw [tree_moved.f]) ?_
 refine Ev.bindc (a := l) (by rw [slices_Clone_int_int.f, if_pos (by omega)]) ?_
 have := loop l [] (by simp; omega)
 simp only [List.length_nil, Nat.zero_add, List.nil_append] at this
 exact this
theorem Ch.last {ob : S41 → Bool} {t : List S41} {ks : List Int} {n j h : Nat} (c : Ch ob t ks n j h) (hne : 0 < ks.length) : ∃ l h' : Nat, rd ks ((ks.length : Int) - 1) = (l : Int) ∧ l < t.length ∧ Ch ob t (kidsOf t l) (l + 1) j h' ∧ h' < h := by
 induction c with
 | nil n => simp at hne
 | @cons k ks n m j h1 h2 hkn hnN ho c1 c2 ih1 ih2 =>
  cases ks with
  | nil =>
   cases c2
   exact ⟨n, h1, by simp [← hkn, rd], hnN, c1, by omega⟩
  | cons a ks =>
   obtain ⟨l, h', e, hl, c', hh⟩ := ih2 (by simp)
   refine ⟨l, h', ?_, hl, c', by omega⟩
   rw [← e, show (((k :: a :: ks).length : Nat) : Int) - 1 = ((ks.length + 1 : Nat) : Int) by simp, show (((a :: ks).length : Nat) : Int) - 1 = ((ks.length : Nat) : Int) by simp, rd_get _ (by simp), rd_get _ (by simp)]
   rfl
theorem tree_end_is (ob : S41 → Bool) (t : List S41) (hN : t.length ≤ 1000) (hk : ∀ n, n < t.length → (kidsOf t n).length ≤ 100000) : ∀ (h i j : Nat), i < t.length → Ch ob t (kidsOf t i) (i + 1) j h → Ev (fun k => tree_end.f k t (i : Int)) (j : Int) := by
 intro h
 induction h using Nat.strongRecOn with
 | ind h ih =>
  intro i j hi c
  refine Ev.congr (fun k => by rw [tree_end.f]) ?_
  refine Ev.step (fun k => by rw [tree_end.l0]) ?_
  refine Ev.ifp (by omega) (Ev.ifp (by omega) ?_)
  by_cases h0 : 0 < (kidsOf t i).length
  ·obtain ⟨l, h', e, hl, c', hh⟩ := c.last h0
   have := hk i hi
   refine Ev.ifp (show ((kidsOf t i).length : Int) > 0 by omega) ?_
   rw [show ((rd_T41 t (i : Int)).f4.length : Int) = ((kidsOf t i).length : Int) from rfl, w64 (x := ((kidsOf t i).length : Int) - 1) (by omega) (by omega)]
   refine Ev.ifp (by omega) (Ev.ifp (show ((kidsOf t i).length : Int) - 1 < ((kidsOf t i).length : Int) by omega) ?_)
   rw [show rd (rd_T41 t (i : Int)).f4 (((kidsOf t i).length : Int) - 1) = (l : Int) from e]
   have := ih h' hh l j hl c'
   refine Ev.congr (fun k => ?_) this
   rw [tree_end.f]
  ·have e : kidsOf t i = [] := List.eq_nil_of_length_eq_zero (by omega)
   rw [e] at c
   cases c
   refine Ev.ifn (show ¬ ((kidsOf t i).length : Int) > 0 by omega) ?_
   rw [w64 (by omega) (by omega)]
   exact Ev.now _
theorem rdN_get (t : List S41) (n : Nat) (h : n < t.length) : rd_T41 t (n : Int) = t[n] := by unfold rd_T41; simp [List.getD_eq_getElem?_getD, h]
def win (t : List S41) (i m : Nat) : List S41 := ((t.take m).drop i).map (shN (wrap64 (-(i : Int))))
theorem win_len (t : List S41) (i m : Nat) (hm : m ≤ t.length) : (win t i m).length = m - i := by unfold win; simp; omega
theorem win_rd (t : List S41) (i m n : Nat) (hm : m ≤ t.length) (hi : i ≤ n) (hn : n < m) : rd_T41 (win t i m) ((n - i : Nat) : Int) = shN (wrap64 (-(i : Int))) (rd_T41 t (n : Int)) := by
 rw [rdN_get _ _ (by rw [win_len t i m hm]; omega), rdN_get _ _ (by omega)]
 unfold win
 simp only [List.getElem_map, List.getElem_drop, List.getElem_take]
 congr 2
 omega
theorem right_depth (ob : S41 → Bool) (t : List S41) (hk : ∀ n, n < t.length → (kidsOf t n).length ≤ 100000) (hob : ObT ob t) (h : Nat) (hR : RT ob t h) :
 Ev (fun k => tree_Right.f k t) true ∧ Ev (fun k => tree_Depth.f k t) ((h : Int) + 1) := by
 obtain ⟨r, hr, hc⟩ := tree_depth_is ob t hk hob
 have hr' : r = (h : Int) + 1 := by
  rcases hc with ⟨h', rfl, hR'⟩ | ⟨_, hn⟩
  ·rw [(hR'.2.2.2.1.det hR.2.2.2.1).2]
  ·exact absurd ⟨h, hR⟩ hn
 subst hr'
 constructor
 ·refine Ev.congr (fun k => by rw [tree_Right.f]) ?_
  refine Ev.bind hr ?_
  rw [decide_eq_true (by omega)]
  exact Ev.now _
 ·refine Ev.congr (fun k => by rw [tree_Depth.f]) ?_
  exact Ev.bind hr (Ev.now _)
theorem right_no (ob : S41 → Bool) (t : List S41) (hk : ∀ n, n < t.length → (kidsOf t n).length ≤ 100000) (hob : ObT ob t) (hR : ¬ ∃ h, RT ob t h) :
 Ev (fun k => tree_Right.f k t) false := by
 obtain ⟨r, hr, hc⟩ := tree_depth_is ob t hk hob
 rcases hc with ⟨h', _, hR'⟩ | ⟨rfl, _⟩
 ·exact absurd ⟨_, hR'⟩ hR
 refine Ev.congr (fun k => by rw [tree_Right.f]) ?_
 exact Ev.bind hr (Ev.now _)
theorem sub_is (ob : S41 → Bool) (t : List S41) (hk : ∀ n, n < t.length → (kidsOf t n).length ≤ 100000) (hob : ObT ob t) (H : Nat) (hR : RT ob t H) (i j h : Nat) (hi : i < t.length) (c : Ch ob t (kidsOf t i) (i + 1) j h) (hj : j ≤ t.length) :
 Ev (fun k => tree_Sub.f k t (i : Int)) (win t i j) := by
 have hN := hR.2.1
 have hle := c.le
 refine Ev.congr (fun k => by rw [tree_Sub.f]) ?_
 refine Ev.ifn (by omega) (Ev.ifn (by omega) (Ev.bind (right_depth ob t hk hob H hR).1 ?_))
 refine Ev.step (fun k => by rw [tree_Sub.j0]) ?_
 refine Ev.ifn (by simp) (Ev.bind (tree_end_is ob t hN hk h i j hi c) (Ev.ifp (by omega) (Ev.ifp (by omega) (Ev.ifp (by omega) (Ev.bindc rfl ?_)))))
 rw [Int.toNat_natCast, Int.toNat_natCast]
 have hy : ∀ x ∈ (t.take j).drop i, x.f4.length ≤ 100000 := by
  intro x hx
  obtain ⟨n, hn, rfl⟩ := List.mem_iff_getElem.1 (List.mem_of_mem_take (List.mem_of_mem_drop hx))
  have := hk n hn
  unfold kidsOf at this
  rwa [rdN_get t n hn] at this
 have hyl : ((t.take j).drop i).length ≤ 1000 := by simp; omega
 unfold win
 obtain ⟨y, hyd⟩ : ∃ y, y = (t.take j).drop i := ⟨_, rfl⟩
 rw [← hyd] at hy hyl ⊢
 have loop : ∀ (d p : Nat) (acc : List S41), y.length - p = d → p ≤ y.length → acc.length = p →
  Ev (fun k => tree_Sub.l0 k (i : Int) acc y (y.length : Int) (p : Int)) (acc ++ (y.drop p).map (shN (wrap64 (-(i : Int))))) := by
  intro d
  induction d with
  | zero =>
   intro p acc hd hp ha
   refine Ev.step (fun k => by rw [tree_Sub.l0]) ?_
   rw [List.drop_eq_nil_of_le (by omega), List.map_nil, List.append_nil]
   exact Ev.ifn (by omega) (Ev.now _)
  | succ d ih =>
   intro p acc hd hp ha
   have hlt : p < y.length := by omega
   refine Ev.step (fun k => by rw [tree_Sub.l0]) ?_
   rw [rdN_get _ p hlt, w64 (x := (p : Int) + 1) (by omega) (by omega), List.drop_eq_getElem_cons hlt, List.map_cons]
   refine Ev.ifp (by omega) (Ev.ifp (by omega) (Ev.ifp (by omega) (Ev.bind (moved_is _ _ _ _ _ _ (hy _ (List.getElem_mem hlt))) (Ev.ifp (by omega) ?_))))
   have := ih (p + 1) (acc ++ [shN (wrap64 (-(i : Int))) y[p]]) (by omega) (by omega) (by simp; omega)
   rw [List.append_assoc, List.singleton_append] at this
   exact this
 have := loop _ 0 [] rfl (by omega) rfl
 rw [List.drop_zero, List.nil_append] at this
 exact this
theorem same_is (t : List S41) (hN : t.length ≤ 1000) (hk : ∀ n, n < t.length → (kidsOf t n).length ≤ 1000) : Ev (fun k => cp_Same.f k t t) true := by
 have loop : ∀ (d p : Nat), t.length - p = d → p ≤ t.length → Ev (fun k => cp_Same.l0 k t t (p : Int)) true := by
  intro d
  induction d with
  | zero =>
   intro p hd hp
   refine Ev.step (fun k => by rw [cp_Same.l0]) ?_
   exact Ev.ifn (by omega) (Ev.now _)
  | succ d ih =>
   intro p hd hp
   have hlt : p < t.length := by omega
   refine Ev.step (fun k => by rw [cp_Same.l0]) ?_
   rw [w64 (x := (p : Int) + 1) (by omega) (by omega)]
   refine Ev.ifp (by omega) (Ev.ifp (by omega) (Ev.ifp (by omega) (Ev.ifp rfl (Ev.ifp rfl (Ev.ifn (by simp) (Ev.ifp rfl (Ev.bind (ints_is _ _ (hk p hlt)) ?_)))))))
   rw [decide_eq_true rfl]
   exact Ev.ifp rfl (ih (p + 1) (by omega) (by omega))
 refine Ev.congr (fun k => by rw [cp_Same.f]) ?_
 exact Ev.ifp rfl (loop _ 0 rfl (by omega))
theorem ptree_is (t : List S41) (c : Nat) (hc : c ≤ 1000) : ∃ b, Ev (fun k => cp_Tree.f k t (c : Int)) b ∧ (b = true → t.length ≤ c ∧ ∀ n, n < t.length → (rd_T41 t (n : Int)).f3.size ≤ 200 ∧ (kidsOf t n).length ≤ 100) := by
 by_cases h0 : (t.length : Int) > (c : Int)
 ·refine ⟨false, ?_, fun h => by cases h⟩
  refine Ev.congr (fun k => by rw [cp_Tree.f]) ?_
  exact Ev.ifp h0 (Ev.now _)
 have loop : ∀ (d p : Nat), t.length - p = d → p ≤ t.length → (∀ n, n < p → (rd_T41 t (n : Int)).f3.size ≤ 200 ∧ (kidsOf t n).length ≤ 100) → ∃ b, Ev (fun k => cp_Tree.l0 k t (p : Int)) b ∧ (b = true → ∀ n, n < t.length → (rd_T41 t (n : Int)).f3.size ≤ 200 ∧ (kidsOf t n).length ≤ 100) := by
  intro d
  induction d with
  | zero =>
   intro p hd hp hg
   refine ⟨true, ?_, fun _ n hn => hg n (by omega)⟩
   refine Ev.step (fun k => by rw [cp_Tree.l0]) ?_
   exact Ev.ifn (by omega) (Ev.now _)
  | succ d ih =>
   intro p hd hp hg
   have hlt : p < t.length := by omega
   have hs : ∀ {b}, Ev (fun k => if ((rd_T41 t (p : Int)).f3.size : Int) > 200 then some false else if ((rd_T41 t (p : Int)).f4.length : Int) > 100 then some false else cp_Tree.l0 k t (((p + 1 : Nat)) : Int)) b → Ev (fun k => cp_Tree.l0 k t (p : Int)) b := by
    intro b h
    refine Ev.step (fun k => by rw [cp_Tree.l0]) ?_
    rw [w64 (x := (p : Int) + 1) (by omega) (by omega)]
    exact Ev.ifp (by omega) (Ev.ifp (by omega) h)
   by_cases h1 : ((rd_T41 t (p : Int)).f3.size : Int) > 200
   ·exact ⟨false, hs (Ev.ifp h1 (Ev.now _)), fun h => by cases h⟩
   by_cases h2 : ((rd_T41 t (p : Int)).f4.length : Int) > 100
   ·exact ⟨false, hs (Ev.ifn h1 (Ev.ifp h2 (Ev.now _))), fun h => by cases h⟩
   obtain ⟨b, hb, hbt⟩ := ih (p + 1) (by omega) (by omega) (by
    intro n hn
    rcases Nat.lt_or_ge n p with h | h
    ·exact hg n h
    ·obtain rfl : n = p := by omega
     exact ⟨by omega, show (rd_T41 t (n : Int)).f4.length ≤ 100 by omega⟩)
   exact ⟨b, hs (Ev.ifn h1 (Ev.ifn h2 hb)), hbt⟩
 obtain ⟨b, hb, hbt⟩ := loop _ 0 rfl (by omega) (by intro n hn; omega)
 refine ⟨b, ?_, fun h => ⟨by omega, hbt h⟩⟩
 refine Ev.congr (fun k => by rw [cp_Tree.f]) ?_
 exact Ev.ifn h0 hb
theorem awake20 : Ev (fun k => clavigerlaw20_awake.f k) true := Ev.of clavigerlaw20_awake.mono (k := 60) (by decide +kernel)
theorem ref_moved_is (by_ : Int) (l : List Int) (hl : l.length ≤ 100000) : Ev (fun k => cr20_moved.f k l by_) (l.map (fun y => wrap64 (y + by_))) := by
 have loop : ∀ (d p : Nat) (acc : List Int), l.length - p = d → p ≤ l.length → acc.length = p → Ev (fun k => cr20_moved.l0 k l by_ acc (p : Int)) (acc ++ (l.drop p).map (fun y => wrap64 (y + by_))) := by
  intro d
  induction d with
  | zero =>
   intro p acc hd hp ha
   refine Ev.step (fun k => by rw [cr20_moved.l0]) ?_
   rw [List.drop_eq_nil_of_le (by omega), List.map_nil, List.append_nil]
   exact Ev.ifn (by omega) (Ev.now _)
  | succ d ih =>
   intro p acc hd hp ha
   have hlt : p < l.length := by omega
   refine Ev.step (fun k => by rw [cr20_moved.l0]) ?_
   rw [rd_get p hlt, w64 (x := (p : Int) + 1) (by omega) (by omega), List.drop_eq_getElem_cons hlt, List.map_cons]
   refine Ev.ifp (by omega) (Ev.ifp (by omega) (Ev.ifp (by omega) ?_))
   have := ih (p + 1) (acc ++ [wrap64 (l[p] + by_)]) (by omega) (by omega) (by simp; omega)
   rw [List.append_assoc, List.singleton_append] at this
   exact this
 refine Ev.congr (fun k => by rw [cr20_moved.f]) ?_
 have := loop _ 0 [] rfl (by omega) rfl
 rw [List.drop_zero, List.nil_append] at this
 exact this
def blN (t : List S41) (n : Nat) : List Int := bytesOf (rd_T41 t (n : Int)).f3
def nodeL (t : List S41) (n : Nat) (cs : List Int) : List Int := idB (rd_T41 t (n : Int)).f0 (rd_T41 t (n : Int)).f1 (rd_T41 t (n : Int)).f2 ++ lenB (cs.length : Int) ++ cs
inductive En (t : List S41) : List Int → Nat → Nat → List Int → Prop where
 | nil (n : Nat) : En t [] n n []
 | cons {k : Int} {ks : List Int} {n m j : Nat} {cs rs : List Int} (hk : k = (n : Int)) (hn : n < t.length) (c : En t (kidsOf t n) (n + 1) m cs) (hf : (nodeL t n (blN t n ++ cs)).length ≤ 65535) (r : En t ks m j rs) : En t (k :: ks) n j (nodeL t n (blN t n ++ cs) ++ rs)
theorem En.det {t : List S41} {ks : List Int} {n j : Nat} {bs : List Int} (c : En t ks n j bs) : ∀ {j' : Nat} {bs' : List Int}, En t ks n j' bs' → j = j' ∧ bs = bs' := by
 induction c with
 | nil n => intro j' bs' c'; cases c'; exact ⟨rfl, rfl⟩
 | cons hk hn c hf r ih1 ih2 =>
  intro j' bs' c'
  cases c' with
  | cons _ _ g _ gs =>
   obtain ⟨rfl, rfl⟩ := ih1 g
   obtain ⟨rfl, rfl⟩ := ih2 gs
   exact ⟨rfl, rfl⟩
theorem En.pos {ob : S41 → Bool} {t : List S41} {ks : List Int} {n j h : Nat} (c : Ch ob t ks n j h) : ∀ {j' : Nat} {bs : List Int}, En t ks n j' bs → j' = j := by
 induction c with
 | nil n => intro j' bs c'; cases c'; rfl
 | cons hk hn ho c1 c2 ih1 ih2 =>
  intro j' bs c'
  cases c' with
  | cons _ _ g _ gs =>
   obtain rfl := ih1 g
   exact ih2 gs
theorem tagD_len (b : Int) : 0 < (tagD b).length ∧ (tagD b).length ≤ 3 := by unfold tagD; split; simp; split <;> simp
theorem idB_len (a b : Int) (c : Bool) : 0 < (idB a b c).length ∧ (idB a b c).length ≤ 4 := by
 have := tagD_len b
 unfold idB
 split
 ·simp
 ·simp
  omega
theorem lenB_len (n : Int) : (lenB n).length ≤ 3 := by unfold lenB; split; simp; split <;> simp
theorem nodeL_len (t : List S41) (n : Nat) (cs : List Int) : cs.length < (nodeL t n cs).length ∧ (nodeL t n cs).length ≤ cs.length + 7 := by
 have h1 := idB_len (rd_T41 t (n : Int)).f0 (rd_T41 t (n : Int)).f1 (rd_T41 t (n : Int)).f2
 have h2 := lenB_len (cs.length : Int)
 unfold nodeL
 simp
 omega
def InR (ob : S41 → Bool) : Prop := ∀ x : S41, x.f3.size ≤ 2000 → ob x = true → (0 ≤ x.f0 ∧ x.f0 ≤ 3 ∧ 0 ≤ x.f1 ∧ x.f1 ≤ 2097151)
theorem ref_bytes_is (ob : S41 → Bool) (hin : InR ob) (t : List S41) (hN : t.length ≤ 1000) (hsz : ∀ n, n < t.length → (rd_T41 t (n : Int)).f3.size ≤ 2000) (hk : ∀ n, n < t.length → (kidsOf t n).length ≤ 100000) {ks : List Int} {n j h : Nat} (c : Ch ob t ks n j h) :
 ∀ (i q : Nat) (acc : List Int), i < t.length → ob (rd_T41 t (i : Int)) = true → (kidsOf t i).drop q = ks → q ≤ (kidsOf t i).length → acc.length ≤ 65535 →
 ∃ v ok, Ev (fun k => cr20_bytes.l0 k t (i : Int) (strOfNums acc) (q : Int)) (v, ok) ∧ v.size ≤ 140000 ∧ (ok = true → ∃ bs, En t ks n j bs ∧ (nodeL t i (acc ++ bs)).length ≤ 65535 ∧ v = strOfNums (nodeL t i (acc ++ bs))) ∧ ((∃ j' bs, En t ks n j' bs ∧ (nodeL t i (acc ++ bs)).length ≤ 65535) → ok = true) := by
 induction c with
 | nil n =>
  intro i q acc hi ho hq hql ha
  have hqe : (kidsOf t i).length ≤ q := by
   have := congrArg List.length hq
   simp at this
   omega
  obtain ⟨r1, r2, r3, r4⟩ := hin _ (hsz i hi) ho
  have hh := ref_head_is _ _ (rd_T41 t (i : Int)).f2 (acc.length : Int) r1 r2 r3 r4 (by omega)
  rw [if_pos (by omega)] at hh
  have h1 := idB_len (rd_T41 t (i : Int)).f0 (rd_T41 t (i : Int)).f1 (rd_T41 t (i : Int)).f2
  have h2 := lenB_len (acc.length : Int)
  have hln : (nodeL t i acc).length = (idB (rd_T41 t (i : Int)).f0 (rd_T41 t (i : Int)).f1 (rd_T41 t (i : Int)).f2 ++ lenB (acc.length : Int)).length + acc.length := by unfold nodeL; rw [List.length_append]
  have hln2 := nodeL_len t i acc
  refine ⟨strOfNums (nodeL t i acc), decide ((nodeL t i acc).length ≤ 65535), ?_, by rw [nums_size]; omega, ?_, ?_⟩
  ·refine Ev.step (fun k => by rw [cr20_bytes.l0]) ?_
   rw [nums_sizeI, nums_size]
   refine Ev.ifp (by omega) (Ev.ifp (by omega) (Ev.ifn (show ¬ (q : Int) < ((kidsOf t i).length : Int) by omega) (Ev.bind hh (Ev.ifp (by rw [nums_size]; simp; omega) (Ev.ifp rfl ((Ev.now _).eq ?_))))))
   rw [str_append, nums_sizeI, w64 (by omega) (by omega)]
   show (strOfNums (nodeL t i acc), _) = _
   rw [hln]
   refine congrArg _ (decide_eq_decide.2 ?_)
   omega
  ·intro hok
   exact ⟨[], En.nil n, by rw [List.append_nil]; exact of_decide_eq_true hok, by rw [List.append_nil]⟩
  ·rintro ⟨j', bs, e, hf⟩
   cases e
   rw [List.append_nil] at hf
   exact decide_eq_true hf
 | @cons k ks n m j h1 h2 hkn hnN hob c1 c2 ih1 ih2 =>
  intro i q acc hi ho hq hql ha
  have hq2 : q < (kidsOf t i).length := by
   have := congrArg List.length hq
   simp at this
   omega
  have hdrop := List.drop_eq_getElem_cons hq2
  rw [hq] at hdrop
  obtain ⟨hk0, hks'⟩ := List.cons.inj hdrop
  have hv : rd (kidsOf t i) (q : Int) = (n : Int) := by rw [rd_get q hq2, ← hk0, hkn]
  have hki := hk i hi
  have hbl : (blN t n).length ≤ 2000 := by
   have := hsz n hnN
   rw [← strOfNums_bytesOf (rd_T41 t (n : Int)).f3, nums_size] at this
   exact this
  obtain ⟨v, ok, he, hvs, hA, hB⟩ := ih1 n 0 (blN t n) hnN hob rfl (by omega) (by omega)
  have hef : Ev (fun k => cr20_bytes.f k t (n : Int)) (v, ok) := by
   refine Ev.step (fun k => by rw [cr20_bytes.f]) ?_
   refine Ev.ifp (by omega) (Ev.ifp (by omega) ?_)
   unfold blN at he
   rw [strOfNums_bytesOf] at he
   exact he
  have step : ∀ {r : ByteArray × Bool}, Ev (fun k => if ok = true then (if ((strOfNums acc ++ v).size : Int) > 65535 then some ((⟨#[]⟩ : ByteArray), false) else cr20_bytes.l0 k t (i : Int) (strOfNums acc ++ v) ((q + 1 : Nat) : Int)) else some ((⟨#[]⟩ : ByteArray), false)) r → Ev (fun k => cr20_bytes.l0 k t (i : Int) (strOfNums acc) (q : Int)) r := by
   intro r h
   refine Ev.step (fun k => by rw [cr20_bytes.l0]) ?_
   rw [show rd (rd_T41 t (i : Int)).f4 (q : Int) = (n : Int) from hv, w64 (x := (q : Int) + 1) (by omega) (by omega)]
   refine Ev.ifp (by omega) (Ev.ifp (by omega) (Ev.ifp (show (q : Int) < ((kidsOf t i).length : Int) by omega) (Ev.ifp (by omega) (Ev.bind hef (Ev.ifp (by rw [nums_size]; show acc.length + v.size ≤ _; omega) h)))))
  cases ok with
  | false =>
   refine ⟨_, _, step (Ev.ifn (by simp) (Ev.now _)), by decide, (fun h => by cases h), ?_⟩
   rintro ⟨j', bs, e, hf⟩
   cases e with
   | cons _ _ g gf gs => have := hB ⟨_, _, g, gf⟩; cases this
  | true =>
   obtain ⟨cs, g, gf, rfl⟩ := hA rfl
   rw [str_append, nums_sizeI] at step
   by_cases hbig : (acc ++ nodeL t n (blN t n ++ cs)).length ≤ 65535
   ·obtain ⟨v2, ok2, he2, hvs2, hA2, hB2⟩ := ih2 i (q + 1) (acc ++ nodeL t n (blN t n ++ cs)) hi ho hks'.symm (by omega) hbig
    refine ⟨v2, ok2, step (Ev.ifp rfl (Ev.ifn (by omega) he2)), hvs2, ?_, ?_⟩
    ·intro hok
     obtain ⟨rs, e, f, w⟩ := hA2 hok
     rw [List.append_assoc] at f w
     exact ⟨_, En.cons hkn hnN g gf e, f, w⟩
    ·rintro ⟨j', bs, e, hf⟩
     cases e with
     | cons _ _ g' gf' gs =>
      obtain ⟨rfl, rfl⟩ := g.det g'
      exact hB2 ⟨_, _, gs, by rw [List.append_assoc]; exact hf⟩
   ·refine ⟨_, _, step (Ev.ifp rfl (Ev.ifp (by omega) (Ev.now _))), by decide, (fun h => by cases h), ?_⟩
    rintro ⟨j', bs, e, hf⟩
    cases e with
    | cons _ _ g' gf' gs =>
     obtain ⟨rfl, rfl⟩ := g.det g'
     rw [← List.append_assoc] at hf
     have h3 := Nat.le_trans (Nat.le_of_lt (nodeL_len t i _).1) hf
     rw [List.length_append] at h3
     omega
theorem En.le {t : List S41} {ks : List Int} {n j : Nat} {bs : List Int} (e : En t ks n j bs) : n ≤ j ∧ (n ≤ t.length → j ≤ t.length) := by
 induction e with
 | nil n => exact ⟨Nat.le_refl _, id⟩
 | cons hk hn c hf r ih1 ih2 => exact ⟨by omega, fun _ => ih2.2 (ih1.2 (by omega))⟩
theorem En.bd {t : List S41} {ks : List Int} {n j : Nat} {bs : List Int} (e : En t ks n j bs) : bs.length + 65535 * n ≤ 65535 * j ∧ bs.length ≤ 65535 * ks.length := by
 induction e with
 | nil n => simp
 | cons hk hn c hf r ih1 ih2 =>
  have := c.le
  rw [List.length_append, List.length_cons]
  omega
def Fit1 (t : List S41) (i : Nat) : Prop := ∃ m cs, En t (kidsOf t i) (i + 1) m cs ∧ (nodeL t i (blN t i ++ cs)).length ≤ 65535
theorem Ch.cover {ob : S41 → Bool} {t : List S41} {ks : List Int} {n j h : Nat} (c : Ch ob t ks n j h) : ∀ i, n ≤ i → i < j → ob (rd_T41 t (i : Int)) = true ∧ ∃ m h', Ch ob t (kidsOf t i) (i + 1) m h' ∧ m ≤ j ∧ h' < h := by
 induction c with
 | nil n => intro i h1 h2; omega
 | @cons k ks n m j h1 h2 hk hn ho c1 c2 ih1 ih2 =>
  intro i hi hj
  have l2 := c2.le
  by_cases e : i = n
  ·subst e
   exact ⟨ho, m, h1, c1, by omega, by omega⟩
  by_cases e2 : i < m
  ·obtain ⟨a, m', h', c', hm, hh⟩ := ih1 i (by omega) e2
   exact ⟨a, m', h', c', by omega, by omega⟩
  ·obtain ⟨a, m', h', c', hm, hh⟩ := ih2 i (by omega) hj
   exact ⟨a, m', h', c', by omega, by omega⟩
theorem En.cover {t : List S41} {ks : List Int} {n j : Nat} {bs : List Int} (e : En t ks n j bs) : ∀ i, n ≤ i → i < j → Fit1 t i := by
 induction e with
 | nil n => intro i h1 h2; omega
 | @cons k ks n m j cs rs hk hn c hf r ih1 ih2 =>
  intro i hi hj
  by_cases e : i = n
  ·subst e
   exact ⟨_, _, c, hf⟩
  by_cases e2 : i < m
  ·exact ih1 i (by omega) e2
  ·exact ih2 i (by omega) hj
theorem Ch.en {ob : S41 → Bool} {t : List S41} {ks : List Int} {n j h : Nat} (c : Ch ob t ks n j h) : (∀ i, n ≤ i → i < t.length → Fit1 t i) → ∃ bs, En t ks n j bs := by
 induction c with
 | nil n => intro _; exact ⟨[], En.nil n⟩
 | @cons k ks n m j h1 h2 hk hn ho c1 c2 ih1 ih2 =>
  intro hf
  have l1 := c1.le
  obtain ⟨m', cs, e, hfit⟩ := hf n (Nat.le_refl _) hn
  obtain rfl := En.pos c1 e
  obtain ⟨rs, er⟩ := ih2 (fun i hi hN => hf i (by omega) hN)
  exact ⟨_, En.cons hk hn e hfit er⟩
def hdL (t : List S41) (n : Nat) (c : Nat) : Nat := (idB (rd_T41 t (n : Int)).f0 (rd_T41 t (n : Int)).f1 (rd_T41 t (n : Int)).f2 ++ lenB (c : Int)).length
theorem nodeL_hd (t : List S41) (n : Nat) (cs : List Int) : (nodeL t n cs).length = hdL t n cs.length + cs.length := by unfold nodeL hdL; rw [List.length_append]
def Good (t : List S41) (x : List (Nat × Nat)) (d : Nat) : Prop := x.length = t.length ∧ ∀ p, d ≤ p → p < t.length → ∃ m cs, En t (kidsOf t p) (p + 1) m cs ∧ (nodeL t p (blN t p ++ cs)).length ≤ 65535 ∧ rdOf ((0, 0) : Nat × Nat) x (p : Int) = (fl (hdL t p (blN t p ++ cs).length), fl (blN t p ++ cs).length)
theorem sizes_in (t : List S41) (hN : t.length ≤ 1000) (x : List (Nat × Nat)) {ks : List Int} {n j : Nat} {bs : List Int} (e : En t ks n j bs) : ∀ (i q s : Nat), Good t x n → (kidsOf t i).length ≤ 100000 → (kidsOf t i).drop q = ks → q ≤ (kidsOf t i).length → s ≤ 65535 * q + 65535 →
 ∀ r, Ev (fun k => tree_sizes.l1 k t x (i : Int) ((s + bs.length : Nat) : Int) (kidsOf t i) ((kidsOf t i).length : Int) ((kidsOf t i).length : Int)) r → Ev (fun k => tree_sizes.l1 k t x (i : Int) (s : Int) (kidsOf t i) ((kidsOf t i).length : Int) (q : Int)) r := by
 induction e with
 | nil n =>
  intro i q s hg hki hq hql hs r h
  have hqe : (kidsOf t i).length = q := by
   have := congrArg List.length hq
   simp at this
   omega
  rw [← hqe]
  exact h
 | @cons k ks n m j cs rs hkn hnN c hf er ih1 ih2 =>
  intro i q s hg hki hq hql hs r h
  have hq2 : q < (kidsOf t i).length := by
   have := congrArg List.length hq
   simp at this
   omega
  have hdrop := List.drop_eq_getElem_cons hq2
  rw [hq] at hdrop
  obtain ⟨hk0, hks'⟩ := List.cons.inj hdrop
  have hv : rd (kidsOf t i) (q : Int) = (n : Int) := by rw [rd_get q hq2, ← hk0, hkn]
  have lc := c.le
  obtain ⟨m', cs', e', hf', hx⟩ := hg.2 n (Nat.le_refl _) hnN
  obtain ⟨rfl, rfl⟩ := c.det e'
  have hnl := nodeL_hd t n (blN t n ++ cs)
  have hxl := hg.1
  refine Ev.step (fun k => by rw [tree_sizes.l1]) ?_
  rw [hv, hx]
  dsimp only
  rw [fadd_fl (by omega), fint_fl (by omega), fok_fl (by omega), fiok_fl (by omega), w64 (x := (q : Int) + 1) (by omega) (by omega), w64 (by omega) (by omega)]
  refine Ev.ifp (by omega) (Ev.ifp (by omega) (Ev.ifp (by omega) (Ev.ifp (by omega) (Ev.ifp (by omega) (Ev.ifp rfl (Ev.ifp rfl ?_))))))
  have := ih2 i (q + 1) (s + (hdL t n (blN t n ++ cs).length + (blN t n ++ cs).length)) ⟨hg.1, fun p hp => hg.2 p (by omega)⟩ hki hks'.symm (by omega) (by omega) r (by
   rw [List.length_append, hnl] at h
   rw [Nat.add_assoc]
   exact h)
  exact this
theorem sizes_is (ob : S41 → Bool) (hin : InR ob) (t : List S41) (hN : t.length ≤ 1000) (hsz : ∀ n, n < t.length → (rd_T41 t (n : Int)).f3.size ≤ 2000) (hk : ∀ n, n < t.length → (kidsOf t n).length ≤ 100000)
 (hcov : ∀ i, i < t.length → ob (rd_T41 t (i : Int)) = true ∧ ∃ m h', Ch ob t (kidsOf t i) (i + 1) m h') : ∀ (d : Nat) (x : List (Nat × Nat)), d ≤ t.length → Good t x d →
 ∃ y b, Ev (fun k => tree_sizes.l0 k t x ((d : Int) - 1)) (y, b) ∧ ((b = true ∧ Good t y 0) ∨ (b = false ∧ ∃ i, i < t.length ∧ ¬ Fit1 t i)) := by
 intro d
 induction d with
 | zero =>
  intro x hd hg
  refine ⟨x, true, ?_, Or.inl ⟨rfl, hg⟩⟩
  refine Ev.step (fun k => by rw [tree_sizes.l0]) ?_
  exact Ev.ifn (by omega) (Ev.now _)
 | succ d ih =>
  intro x hd hg
  have hdN : d < t.length := by omega
  obtain ⟨ho, m, h', c⟩ := hcov d hdN
  obtain ⟨bs, e⟩ := c.en (fun i hi hiN => by
   obtain ⟨m, cs, e, hf, _⟩ := hg.2 i hi hiN
   exact ⟨m, cs, e, hf⟩)
  obtain ⟨r1, r2, r3, r4⟩ := hin _ (hsz d hdN) ho
  have hbl : (rd_T41 t (d : Int)).f3.size = (blN t d).length := by
   unfold blN
   conv => lhs; rw [← strOfNums_bytesOf (rd_T41 t (d : Int)).f3, nums_size]
  have hbd := e.bd
  have hkd := hk d hdN
  have hszd := hsz d hdN
  have hxl := hg.1
  have hsum : (blN t d).length + bs.length = (blN t d ++ bs).length := by rw [List.length_append]
  have go : ∀ {r : List (Nat × Nat) × Bool}, Ev (fun k => tree_sizes.l1 k t x (d : Int) (((blN t d ++ bs).length : Nat) : Int) (kidsOf t d) ((kidsOf t d).length : Int) ((kidsOf t d).length : Int)) r → Ev (fun k => tree_sizes.l0 k t x (((d + 1 : Nat) : Int) - 1)) r := by
   intro r h
   refine Ev.step (fun k => by rw [tree_sizes.l0]) ?_
   rw [show ((d + 1 : Nat) : Int) - 1 = (d : Int) by omega, hbl]
   refine Ev.ifp (by omega) (Ev.ifp (by omega) (Ev.ifp (by omega) ?_))
   refine sizes_in t hN x e d 0 (blN t d).length hg hkd rfl (by omega) (by omega) r ?_
   rw [hsum]
   exact h
  have hh := head_is _ _ (rd_T41 t (d : Int)).f2 ((blN t d ++ bs).length : Int) r1 r2 r3 r4 (by omega)
  have hsize : Ev (fun k => head_Size.f k (rd_T41 t (d : Int)).f0 (rd_T41 t (d : Int)).f1 (rd_T41 t (d : Int)).f2 ((blN t d ++ bs).length : Int)) (if ((blN t d ++ bs).length : Int) ≤ 65535 then (hdL t d (blN t d ++ bs).length : Int) else 0) := by
   refine Ev.congr (fun k => by rw [head_Size.f]) ?_
   refine Ev.bind hh ((Ev.now _).eq ?_)
   split
   ·rw [nums_sizeI]
    rfl
   ·rfl
  have hnl := nodeL_hd t d (blN t d ++ bs)
  have hno : ¬ (nodeL t d (blN t d ++ bs)).length ≤ 65535 → ∃ i, i < t.length ∧ ¬ Fit1 t i := by
   intro hb
   refine ⟨d, hdN, ?_⟩
   rintro ⟨m', cs, e', hf⟩
   obtain ⟨rfl, rfl⟩ := e.det e'
   exact hb hf
  have h1 := idB_len (rd_T41 t (d : Int)).f0 (rd_T41 t (d : Int)).f1 (rd_T41 t (d : Int)).f2
  have h2 := lenB_len ((blN t d ++ bs).length : Int)
  have hhd : 0 < hdL t d (blN t d ++ bs).length ∧ hdL t d (blN t d ++ bs).length ≤ 7 := by unfold hdL; rw [List.length_append]; omega
  by_cases g : ((blN t d ++ bs).length : Int) ≤ 65535
  case neg =>
   rw [if_neg g] at hsize
   refine ⟨[], false, go ?_, Or.inr ⟨rfl, hno (by omega)⟩⟩
   refine Ev.step (fun k => by rw [tree_sizes.l1]) ?_
   exact Ev.ifn (by omega) (Ev.ifp (by omega) (Ev.ifp (by omega) (Ev.bind hsize (Ev.ifp rfl (Ev.now _)))))
  rw [if_pos g] at hsize
  by_cases g2 : (nodeL t d (blN t d ++ bs)).length ≤ 65535
  case neg =>
   refine ⟨[], false, go ?_, Or.inr ⟨rfl, hno g2⟩⟩
   refine Ev.step (fun k => by rw [tree_sizes.l1]) ?_
   refine Ev.ifn (by omega) (Ev.ifp (by omega) (Ev.ifp (by omega) (Ev.bind hsize (Ev.ifn (by omega) ?_))))
   rw [w64 (by omega) (by omega)]
   exact Ev.ifp (by omega) (Ev.now _)
  obtain ⟨y, b, hy, hc⟩ := ih (x.set d (fl (hdL t d (blN t d ++ bs).length), fl (blN t d ++ bs).length)) (by omega) (by
   refine ⟨by rw [List.length_set]; exact hxl, fun p hp hpN => ?_⟩
   by_cases e0 : p = d
   ·subst e0
    refine ⟨m, bs, e, g2, ?_⟩
    rw [rdOf_get _ p (by rw [List.length_set]; omega), List.getElem_set_self]
   ·obtain ⟨m', cs, e', hf, hx⟩ := hg.2 p (by omega) hpN
    refine ⟨m', cs, e', hf, ?_⟩
    rw [← hx, rdOf_get _ p (by rw [List.length_set]; omega), rdOf_get _ p (by omega), List.getElem_set_ne (by omega)])
  refine ⟨y, b, go ?_, hc⟩
  refine Ev.step (fun k => by rw [tree_sizes.l1]) ?_
  refine Ev.ifn (by omega) (Ev.ifp (by omega) (Ev.ifp (by omega) (Ev.bind hsize (Ev.ifn (by omega) ?_))))
  rw [w64 (x := (hdL t d (blN t d ++ bs).length : Int) + _) (by omega) (by omega), w64 (x := (d : Int) - 1) (by omega) (by omega), fl_of (by omega), fl_of (by omega), Int.toNat_natCast, Int.toNat_natCast, Int.toNat_natCast]
  exact Ev.ifn (by omega) (Ev.ifp (by omega) hy)
theorem tagD_ok {b : Int} (b0 : 0 ≤ b) (b1 : b ≤ 2097151) : OkB (tagD b) := by
 unfold tagD
 split
 ·exact OkB.one b0 (by omega)
 ·split
  ·exact OkB.cons (by omega) (by omega) (OkB.one (by omega) (by omega))
  ·exact OkB.cons (by omega) (by omega) (OkB.cons (by omega) (by omega) (OkB.one (by omega) (by omega)))
theorem idB_ok {a b : Int} {c : Bool} (a0 : 0 ≤ a) (a1 : a ≤ 3) (b0 : 0 ≤ b) (b1 : b ≤ 2097151) : OkB (idB a b c) := by
 have h : 0 ≤ (if c then (32 : Int) else 0) ∧ (if c then (32 : Int) else 0) ≤ 32 := by split <;> omega
 unfold idB
 split
 ·exact OkB.one (by omega) (by omega)
 ·exact OkB.cons (by omega) (by omega) (tagD_ok b0 b1)
theorem lenB_ok {n : Int} (h0 : 0 ≤ n) (h1 : n ≤ 65535) : OkB (lenB n) := by
 unfold lenB
 split
 ·exact OkB.one h0 (by omega)
 ·split
  ·exact OkB.cons (by omega) (by omega) (OkB.one h0 (by omega))
  ·exact OkB.cons (by omega) (by omega) (OkB.cons (by omega) (by omega) (OkB.one (by omega) (by omega)))
theorem enc_loop20 (ob : S41 → Bool) (hin : InR ob) (t : List S41) (hN : t.length ≤ 1000) (hsz : ∀ n, n < t.length → (rd_T41 t (n : Int)).f3.size ≤ 2000) (hall : ∀ i, i < t.length → ob (rd_T41 t (i : Int)) = true) (x : List (Nat × Nat)) (hg : Good t x 0) {ks : List Int} {n j : Nat} {bs : List Int} (e : En t ks n j bs) :
 ∀ (acc : List Int), acc.length ≤ 65535 * n → n ≤ t.length → ∀ r, Ev (fun k => tree_Encode.l0 k x (acc ++ bs) t (t.length : Int) (j : Int)) r → Ev (fun k => tree_Encode.l0 k x acc t (t.length : Int) (n : Int)) r := by
 induction e with
 | nil n => intro acc _ _ r h; rw [List.append_nil] at h; exact h
 | @cons k ks n m j cs rs hkn hnN c hf er ih1 ih2 =>
  intro acc ha hn r h
  obtain ⟨m', cs', e', hf', hx⟩ := hg.2 n (Nat.zero_le _) hnN
  obtain ⟨rfl, rfl⟩ := c.det e'
  obtain ⟨r1, r2, r3, r4⟩ := hin _ (hsz n hnN) (hall n hnN)
  have hnl := nodeL_hd t n (blN t n ++ cs)
  have hxl := hg.1
  have hbd := c.bd
  have lc := c.le
  have hh := head_is _ _ (rd_T41 t (n : Int)).f2 ((blN t n ++ cs).length : Int) r1 r2 r3 r4 (by omega)
  rw [if_pos (by omega)] at hh
  have hbl : (rd_T41 t (n : Int)).f3.size = (blN t n).length := by
   unfold blN
   conv => lhs; rw [← strOfNums_bytesOf (rd_T41 t (n : Int)).f3, nums_size]
  have hok := bytesOf_nums (OkB.append (idB_ok (c := (rd_T41 t (n : Int)).f2) r1 r2 r3 r4) (lenB_ok (n := ((blN t n ++ cs).length : Int)) (by omega) (by omega)))
  have hls : (blN t n ++ cs).length = (blN t n).length + cs.length := List.length_append
  have hdd : (idB (rd_T41 t (n : Int)).f0 (rd_T41 t (n : Int)).f1 (rd_T41 t (n : Int)).f2 ++ lenB ((blN t n ++ cs).length : Int)).length = hdL t n (blN t n ++ cs).length := rfl
  refine Ev.step (fun k => by rw [tree_Encode.l0]) ?_
  rw [hx]
  dsimp only
  rw [fiok_fl (by omega), fint_fl (by omega), w64 (x := (n : Int) + 1) (by omega) (by omega)]
  refine Ev.ifp (by omega) (Ev.ifp (by omega) (Ev.ifp (by omega) (Ev.ifp (by omega) (Ev.ifp rfl (Ev.bind hh (Ev.ifp (by rw [nums_size, hdd]; omega) (Ev.bindc rfl ?_)))))))
  rw [hok]
  refine Ev.ifp (by rw [List.length_append, hdd, hbl]; omega) ?_
  refine ih1 (acc ++ (idB (rd_T41 t (n : Int)).f0 (rd_T41 t (n : Int)).f1 (rd_T41 t (n : Int)).f2 ++ lenB ((blN t n ++ cs).length : Int)) ++ blN t n) (by rw [List.length_append, List.length_append, hdd]; omega) (by omega) r ?_
  refine ih2 _ (by rw [List.length_append, List.length_append, List.length_append, hdd]; omega) (lc.2 (by omega)) r ?_
  unfold nodeL at h
  simp only [List.append_assoc] at h ⊢
  exact h
theorem enc_both (ob : S41 → Bool) (hin : InR ob) (t : List S41) (hsz : ∀ n, n < t.length → (rd_T41 t (n : Int)).f3.size ≤ 2000) (hk : ∀ n, n < t.length → (kidsOf t n).length ≤ 100000) (hcov : ∀ i, i < t.length → ob (rd_T41 t (i : Int)) = true ∧ ∃ m h', Ch ob t (kidsOf t i) (i + 1) m h')
 (H : Nat) (hR : RT ob t H) (hr1 : Ev (fun k => tree_Right.f k t) true) (hr2 : Ev (fun k => cr20_Right.f k t) true) : ∃ e : ByteArray × Int, Ev (fun k => tree_Encode.f k t) e ∧ Ev (fun k => cr20_Encode.f k t) e := by
 have hN := hR.2.1
 have h0 := hR.1
 have hbl : (blN t 0).length ≤ 65535 := by
  have := hsz 0 h0
  rw [← strOfNums_bytesOf (rd_T41 t ((0 : Nat) : Int)).f3, nums_size] at this
  show (bytesOf (rd_T41 t ((0 : Nat) : Int)).f3).length ≤ 65535
  omega
 obtain ⟨v, ok, hv, _, hA, hB⟩ := ref_bytes_is ob hin t hN hsz hk hR.2.2.2.1 0 0 (blN t 0) h0 hR.2.2.1 rfl (by omega) hbl
 have hvf : Ev (fun k => cr20_bytes.f k t 0) (v, ok) := by
  refine Ev.step (fun k => by rw [cr20_bytes.f]) ?_
  refine Ev.ifp (by omega) (Ev.ifp (by omega) ?_)
  unfold blN at hv
  rw [strOfNums_bytesOf] at hv
  exact hv
 obtain ⟨y, b, hy, hc⟩ := sizes_is ob hin t hN hsz hk hcov t.length (List.replicate t.length ((0, 0) : Nat × Nat)) (Nat.le_refl _) ⟨by simp, fun p h1 h2 => by omega⟩
 have hs : Ev (fun k => tree_sizes.f k t) (y, b) := by
  refine Ev.congr (fun k => by rw [tree_sizes.f]) ?_
  rw [w64 (by omega) (by omega), Int.toNat_natCast]
  exact Ev.ifp (by omega) (Ev.ifp (by omega) hy)
 have root : ∀ bs, En t (kidsOf t 0) 1 t.length bs → (nodeL t 0 (blN t 0 ++ bs)).length ≤ 65535 → En t [(0 : Int)] 0 t.length (nodeL t 0 (blN t 0 ++ bs) ++ []) := fun bs e f => En.cons rfl h0 e f (En.nil _)
 rcases hc with ⟨rfl, hg⟩ | ⟨rfl, i, hi, hnf⟩
 ·obtain ⟨m, cs, e, hf, _⟩ := hg.2 0 (Nat.le_refl _) h0
  obtain rfl := En.pos hR.2.2.2.1 e
  obtain rfl := hB ⟨_, cs, e, hf⟩
  obtain ⟨cs', e', _, rfl⟩ := hA rfl
  obtain ⟨_, rfl⟩ := e.det e'
  refine ⟨(strOfNums (nodeL t 0 (blN t 0 ++ cs)), 0), ?_, ?_⟩
  ·refine Ev.congr (fun k => by rw [tree_Encode.f]) ?_
   refine Ev.bind hr1 (Ev.ifp rfl (Ev.bind hs (Ev.ifp rfl ?_)))
   refine enc_loop20 ob hin t hN hsz (fun i hi => (hcov i hi).1) y hg (root cs e hf) [] (by simp) (by omega) _ ?_
   refine Ev.step (fun k => by rw [tree_Encode.l0]) ?_
   rw [List.nil_append, List.append_nil]
   exact Ev.ifn (by omega) (Ev.now _)
  ·refine Ev.congr (fun k => by rw [cr20_Encode.f]) ?_
   exact Ev.bind hr2 (Ev.ifp rfl (Ev.bind hvf (Ev.ifp rfl (Ev.now _))))
 ·have hok : ok = false := by
   cases ok with
   | false => rfl
   | true =>
    obtain ⟨bs, e, f, _⟩ := hA rfl
    exact absurd ((root bs e f).cover i (Nat.zero_le _) hi) hnf
  subst hok
  refine ⟨(⟨#[]⟩, 4), ?_, ?_⟩
  ·refine Ev.congr (fun k => by rw [tree_Encode.f]) ?_
   exact Ev.bind hr1 (Ev.ifp rfl (Ev.bind hs (Ev.ifn (by simp) (Ev.now _))))
  ·refine Ev.congr (fun k => by rw [cr20_Encode.f]) ?_
   exact Ev.bind hr2 (Ev.ifp rfl (Ev.bind hvf (Ev.ifn (by simp) (Ev.now _))))
theorem Ch.hle {ob : S41 → Bool} {t : List S41} {ks : List Int} {n j h : Nat} (c : Ch ob t ks n j h) : h + n ≤ j := by
 induction c with
 | nil n => omega
 | cons hk hn ho c1 c2 ih1 ih2 => omega
theorem ref_depth_is (ob : S41 → Bool) (t : List S41) (hN : t.length ≤ 1000) (hk : ∀ n, n < t.length → (kidsOf t n).length ≤ 100000) {ks : List Int} {n j h : Nat} (c : Ch ob t ks n j h) :
 ∀ (i q mx0 : Nat), i < t.length → j ≤ t.length → (kidsOf t i).drop q = ks → q ≤ (kidsOf t i).length → mx0 ≤ 1000 → Ev (fun k => cr20_depth.l0 k t (i : Int) (mx0 : Int) (q : Int)) ((max mx0 h + 1 : Nat) : Int) := by
 induction c with
 | nil n =>
  intro i q mx0 hi hj hq hql hm
  have hqe : (kidsOf t i).length ≤ q := by
   have := congrArg List.length hq
   simp at this
   omega
  refine Ev.step (fun k => by rw [cr20_depth.l0]) ?_
  refine Ev.ifp (by omega) (Ev.ifp (by omega) (Ev.ifn (show ¬ (q : Int) < ((kidsOf t i).length : Int) by omega) ((Ev.now _).eq ?_)))
  rw [w64 (by omega) (by omega)]
  omega
 | @cons k ks n m j h1 h2 hkn hnN ho c1 c2 ih1 ih2 =>
  intro i q mx0 hi hj hq hql hm
  have hq2 : q < (kidsOf t i).length := by
   have := congrArg List.length hq
   simp at this
   omega
  have hdrop := List.drop_eq_getElem_cons hq2
  rw [hq] at hdrop
  obtain ⟨hk0, hks'⟩ := List.cons.inj hdrop
  have hv : rd (kidsOf t i) (q : Int) = (n : Int) := by rw [rd_get q hq2, ← hk0, hkn]
  have l2 := c2.le
  have hh := c1.hle
  have hki := hk i hi
  have hd : Ev (fun k => cr20_depth.f k t (n : Int)) ((h1 + 1 : Nat) : Int) := by
   refine Ev.step (fun k => by rw [cr20_depth.f]) ?_
   have := ih1 n 0 0 hnN (by omega) rfl (by omega) (by omega)
   rwa [Nat.zero_max] at this
  refine Ev.step (fun k => by rw [cr20_depth.l0]) ?_
  rw [show rd (rd_T41 t (i : Int)).f4 (q : Int) = (n : Int) from hv, w64 (x := (q : Int) + 1) (by omega) (by omega)]
  refine Ev.ifp (by omega) (Ev.ifp (by omega) (Ev.ifp (show (q : Int) < ((kidsOf t i).length : Int) by omega) (Ev.ifp (by omega) (Ev.bind hd ?_))))
  by_cases g : ((h1 + 1 : Nat) : Int) > (mx0 : Int)
  ·have := ih2 i (q + 1) (h1 + 1) hi hj hks'.symm (by omega) (by omega)
   rw [show max mx0 (max (h1 + 1) h2) = max (h1 + 1) h2 by omega]
   exact Ev.ifp g this
  ·have := ih2 i (q + 1) mx0 hi hj hks'.symm (by omega) hm
   rw [show max mx0 (max (h1 + 1) h2) = max mx0 h2 by omega]
   exact Ev.ifn g this
theorem ref_sub_loop (t : List S41) (hN : t.length ≤ 1000) (hk : ∀ n, n < t.length → (kidsOf t n).length ≤ 100000) (i j : Nat) (hj : j ≤ t.length) : ∀ (d n : Nat) (acc : List S41), j - n = d → i ≤ n → n ≤ j → acc.length ≤ n → Ev (fun k => cr20_Sub.l0 k t (i : Int) acc (j : Int) (n : Int)) (acc ++ ((t.take j).drop n).map (shN (wrap64 (-(i : Int))))) := by
 intro d
 induction d with
 | zero =>
  intro n acc hd hi hn ha
  refine Ev.step (fun k => by rw [cr20_Sub.l0]) ?_
  rw [List.drop_eq_nil_of_le (by simp; omega), List.map_nil, List.append_nil]
  exact Ev.ifn (by omega) (Ev.now _)
 | succ d ih =>
  intro n acc hd hi hn ha
  have hnN : n < t.length := by omega
  have hlt : n < (t.take j).length := by simp; omega
  have hkn := hk n hnN
  have hm := ref_moved_is (wrap64 (-(i : Int))) (rd_T41 t (n : Int)).f4 hkn
  refine Ev.step (fun k => by rw [cr20_Sub.l0]) ?_
  rw [w64 (x := (n : Int) + 1) (by omega) (by omega)]
  refine Ev.ifp (by omega) (Ev.ifp (by omega) (Ev.ifp (by omega) (Ev.bind hm (Ev.ifp (by omega) ?_))))
  have := ih (n + 1) (acc ++ [shN (wrap64 (-(i : Int))) (rd_T41 t (n : Int))]) (by omega) (by omega) (by omega) (by simp; omega)
  rw [List.append_assoc, List.singleton_append] at this
  rw [List.drop_eq_getElem_cons hlt, List.map_cons, List.getElem_take, ← rdN_get t n hnN]
  exact this
theorem TreeTells : clavigerlaw20_TreeTells.Pure := by
 intro t a1 hl hokk ha1
 refine Ev.rounds (g := fun k => clavigerlaw20_TreeTells.f k t a1) ?_
 refine Ev.congr (fun k => by rw [clavigerlaw20_TreeTells.f]) ?_
 obtain ⟨b, hb, hbt⟩ := ptree_is t 60 (by omega)
 refine Ev.bind hb ?_
 cases b with
 | false => exact Ev.ifn (by simp) (Ev.bind awake20 (Ev.now _))
 | true =>
  obtain ⟨hN, hg⟩ := hbt rfl
  obtain ⟨ob, hone⟩ := one_all
  have hsz : ∀ n, n < t.length → (rd_T41 t (n : Int)).f3.size ≤ 2000 := fun n hn => by have := (hg n hn).1; omega
  have hk : ∀ n, n < t.length → (kidsOf t n).length ≤ 100000 := fun n hn => by have := (hg n hn).2; omega
  have hob : ObT ob t := fun n hn => (hone _ (hsz n hn)).1
  have hin : InR ob := fun x hx ho => ((hone x hx).2.2 ho).1
  have hsame : ∀ i m, m ≤ t.length → Ev (fun k => cp_Same.f k (win t i m) (win t i m)) true := by
   intro i m hm
   refine same_is _ (by rw [win_len t i m hm]; omega) (fun n hn => ?_)
   rw [win_len t i m hm] at hn
   have hr := win_rd t i m (n + i) hm (by omega) (by omega)
   rw [Nat.add_sub_cancel] at hr
   unfold kidsOf
   rw [hr]
   have := (hg (n + i) (by omega)).2
   unfold kidsOf at this
   show ((rd_T41 t ((n + i : Nat) : Int)).f4.map _).length ≤ 1000
   rw [List.length_map]
   omega
  have hsame0 : Ev (fun k => cp_Same.f k ([] : List S41) []) true := same_is [] (by simp) (fun n hn => by simp at hn)
  obtain ⟨b2, hb2, hb2t⟩ := ref_right_is ob t hk (fun n hn => (hone _ (hsz n hn)).2.1)
  have hjt : Ev (fun k => tree_Sub.j0 k t a1 true) [] := by
   refine Ev.step (fun k => by rw [tree_Sub.j0]) ?_
   exact Ev.ifp rfl (Ev.now _)
  have hjr : Ev (fun k => cr20_Sub.j0 k t a1 ([] : List S41) true) [] := by
   refine Ev.step (fun k => by rw [cr20_Sub.j0]) ?_
   exact Ev.ifp rfl (Ev.now _)
  -- all the answers, as the document has them
  have fin : ∀ (e : ByteArray × Int) (dp : Int) (w : List S41), Ev (fun k => tree_Encode.f k t) e → Ev (fun k => cr20_Encode.f k t) e → Ev (fun k => tree_Right.f k t) b2 → Ev (fun k => tree_Depth.f k t) dp → Ev (fun k => cr20_Depth.f k t) dp → Ev (fun k => tree_Sub.f k t a1) w → Ev (fun k => cr20_Sub.f k t a1) w → Ev (fun k => cp_Same.f k w w) true →
   Ev (fun k => if true = true then ((tree_Encode.f k t).bind fun bt446 => ((cr20_Encode.f k t).bind fun bt448 => ((tree_Right.f k t).bind fun t450 => ((cr20_Right.f k t).bind fun t451 => (if (t450 == t451) = true then (if bt446.1.toList = bt448.1.toList then (if bt446.2 = bt448.2 then ((tree_Size.f k t).bind fun t452 => (if t452 = (bt448.1.size : Int) then ((tree_Depth.f k t).bind fun t453 => ((cr20_Depth.f k t).bind fun t454 => (if t453 = t454 then ((tree_Sub.f k t a1).bind fun t455 => ((cr20_Sub.f k t a1).bind fun t458 => ((cp_Same.f k t455 t458).bind fun t461 => (if t461 = true then ((clavigerlaw20_awake.f k).bind fun t462 => (some t462)) else (some false))))) else (some false)))) else (some false))) else (some false)) else (some false)) else (some false)))))) else ((clavigerlaw20_awake.f k).bind fun t445 => (some t445))) true := by
   intro e dp w h1 h2 h3 h4 h5 h6 h7 h8
   have hs : Ev (fun k => tree_Size.f k t) (e.1.size : Int) := by
    refine Ev.congr (fun k => by rw [tree_Size.f]) ?_
    exact Ev.bind h1 (Ev.now _)
   exact Ev.ifp rfl (Ev.bind h1 (Ev.bind h2 (Ev.bind h3 (Ev.bind hb2 (Ev.ifp (by simp) (Ev.ifp rfl (Ev.ifp rfl (Ev.bind hs (Ev.ifp rfl (Ev.bind h4 (Ev.bind h5 (Ev.ifp rfl (Ev.bind h6 (Ev.bind h7 (Ev.bind h8 (Ev.ifp rfl (Ev.bind awake20 (Ev.now _))))))))))))))))))
  cases b2 with
  | false =>
   have hR : ¬ ∃ h, RT ob t h := fun h => by have := hb2t.2 h; cases this
   have hr1 := right_no ob t hk hob hR
   obtain ⟨r, hr, hc⟩ := tree_depth_is ob t hk hob
   have hr0 : r = 0 := by
    rcases hc with ⟨h', _, hR'⟩ | ⟨h, _⟩
    ·exact absurd ⟨_, hR'⟩ hR
    ·exact h
   subst hr0
   refine fin (⟨#[]⟩, 1) 0 [] ?_ ?_ hr1 ?_ ?_ ?_ ?_ hsame0
   ·refine Ev.congr (fun k => by rw [tree_Encode.f]) ?_
    exact Ev.bind hr1 (Ev.ifn (by simp) (Ev.now _))
   ·refine Ev.congr (fun k => by rw [cr20_Encode.f]) ?_
    exact Ev.bind hb2 (Ev.ifn (by simp) (Ev.now _))
   ·refine Ev.congr (fun k => by rw [tree_Depth.f]) ?_
    exact Ev.bind hr (Ev.now _)
   ·refine Ev.congr (fun k => by rw [cr20_Depth.f]) ?_
    exact Ev.bind hb2 (Ev.ifn (by simp) (Ev.now _))
   ·refine Ev.congr (fun k => by rw [tree_Sub.f]) ?_
    by_cases g : a1 < 0
    ·exact Ev.ifp g hjt
    refine Ev.ifn g ?_
    by_cases g2 : a1 ≥ (t.length : Int)
    ·exact Ev.ifp g2 hjt
    exact Ev.ifn g2 (Ev.bind hr1 hjt)
   ·refine Ev.congr (fun k => by rw [cr20_Sub.f]) ?_
    exact Ev.bind hb2 (Ev.ifn (by simp) hjr)
  | true =>
   obtain ⟨H, hR⟩ := hb2t.1 rfl
   have hrd := right_depth ob t hk hob H hR
   have hcov : ∀ i, i < t.length → ob (rd_T41 t (i : Int)) = true ∧ ∃ m h', Ch ob t (kidsOf t i) (i + 1) m h' ∧ m ≤ t.length ∧ h' ≤ H := by
    intro i hi
    by_cases e : i = 0
    ·subst e
     exact ⟨hR.2.2.1, _, _, hR.2.2.2.1, Nat.le_refl _, Nat.le_refl _⟩
    ·obtain ⟨a, m, h', c, hm, hh⟩ := hR.2.2.2.1.cover i (by omega) hi
     exact ⟨a, m, h', c, hm, by omega⟩
   obtain ⟨e, he1, he2⟩ := enc_both ob hin t hsz hk (fun i hi => by
    obtain ⟨a, m, h', c, _⟩ := hcov i hi
    exact ⟨a, m, h', c⟩) H hR hrd.1 hb2
   have hdp : Ev (fun k => cr20_Depth.f k t) ((H : Int) + 1) := by
    refine Ev.congr (fun k => by rw [cr20_Depth.f]) ?_
    have h1 := ref_depth_is ob t (by omega) hk hR.2.2.2.1 0 0 0 hR.1 (Nat.le_refl _) rfl (by omega) (by omega)
    rw [Nat.zero_max] at h1
    have h2 : Ev (fun k => cr20_depth.f k t 0) ((H : Int) + 1) := by
     refine Ev.step (fun k => by rw [cr20_depth.f]) ?_
     exact h1
    exact Ev.bind hb2 (Ev.ifp rfl (Ev.bind h2 (Ev.now _)))
   by_cases g : a1 < 0
   ·refine fin e _ [] he1 he2 hrd.1 hrd.2 hdp ?_ ?_ hsame0
    ·refine Ev.congr (fun k => by rw [tree_Sub.f]) ?_
     exact Ev.ifp g hjt
    ·refine Ev.congr (fun k => by rw [cr20_Sub.f]) ?_
     exact Ev.bind hb2 (Ev.ifp rfl (Ev.ifp g hjr))
   by_cases g2 : a1 ≥ (t.length : Int)
   ·refine fin e _ [] he1 he2 hrd.1 hrd.2 hdp ?_ ?_ hsame0
    ·refine Ev.congr (fun k => by rw [tree_Sub.f]) ?_
     exact Ev.ifn g (Ev.ifp g2 hjt)
    ·refine Ev.congr (fun k => by rw [cr20_Sub.f]) ?_
     refine Ev.bind hb2 (Ev.ifp rfl (Ev.ifn g ?_))
     rw [decide_eq_true g2]
     exact hjr
   obtain ⟨i, rfl⟩ : ∃ i : Nat, a1 = (i : Int) := ⟨a1.toNat, by omega⟩
   have hi : i < t.length := by omega
   obtain ⟨ho, m, h', c, hm, hh⟩ := hcov i hi
   have hle := c.le
   have h16 := hR.2.2.2.2
   refine fin e _ (win t i m) he1 he2 hrd.1 hrd.2 hdp (sub_is ob t hk hob H hR i m h' hi c hm) ?_ (hsame i m hm)
   refine Ev.congr (fun k => by rw [cr20_Sub.f]) ?_
   refine Ev.bind hb2 (Ev.ifp rfl (Ev.ifn g ?_))
   rw [decide_eq_false g2]
   refine Ev.step (fun k => by rw [cr20_Sub.j0]) ?_
   obtain ⟨r, hr, hcr⟩ := behind_is ob t (by omega) hk (fun n hn => (hone _ (hsz n hn)).2.1) 16 1 i (by omega) (by omega) (by omega)
   have hrm : r = (m : Int) := by
    rcases hcr with ⟨_, hnot⟩ | ⟨j, h'', rfl, _, _, c'', _⟩
    ·exact absurd ⟨m, h', hi, ho, c, by omega⟩ hnot
    ·rw [(c.det c'').1]
   subst hrm
   have hloop := ref_sub_loop t (by omega) hk i m hm _ i [] rfl (Nat.le_refl _) (by omega) (by simp)
   rw [List.nil_append] at hloop
   exact Ev.ifn (by simp) (Ev.bind hr hloop)
end Go.Proofs.YtcbcojbhbhaimaaDoor.Pure
