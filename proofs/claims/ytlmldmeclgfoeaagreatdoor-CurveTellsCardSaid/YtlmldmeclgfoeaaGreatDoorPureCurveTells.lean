/- Whatever the number, the arcs (up to 60), the width and the bytes (up to 200): the number's curve, the arcs', the width's, and whether the bytes are a scalar, are as the document says (P22.1, P22.2). -/
import Derived.Test.YtlmldmeclgfoeaaGreatDoorPCurveTellsx
namespace Go.Proofs.YtlmldmeclgfoeaaGreatDoor.Pure
open Go.RowKit Go.Proofs.YtlmldmeclgfoeaaGreatDoor.PCurveTells Go.Proofs.YtlmldmeclgfoeaaGreatDoorW.PrintWords Go.Proofs.YtlmldmeclgfoeaaGreatDoorW.PrintLast
set_option linter.unusedVariables false
set_option linter.unusedSimpArgs false
/-- The number of bytes. -/
def getN (l : List Int) : Int := l.foldl (fun n b => n * 256 + b) 0
theorem getN_snoc (l : List Int) (x : Int) : getN (l ++ [x]) = getN l * 256 + x := by simp [getN]
theorem getN_take {l : List Int} (i : Nat) (h : i < l.length) : getN (l.take (i + 1)) = getN (l.take i) * 256 + l[i] := by
  rw [List.take_succ_eq_append_getElem h, getN_snoc]
theorem getN_bd (n : Nat) : ∀ l : List Int, OkB l → l.length ≤ n → 0 ≤ getN l ∧ getN l < 256 ^ n := by
  induction n with
  | zero => intro l h hn; obtain rfl := List.eq_nil_of_length_eq_zero (Nat.le_zero.1 hn); simp [getN]
  | succ n ih =>
    intro l h hn
    have hp : (0 : Int) < 256 ^ n := Int.pow_pos (by decide)
    by_cases e : l = []
    · subst e
      rw [Int.pow_succ]
      simp only [getN, List.foldl_nil]
      omega
    · obtain ⟨m, x, rfl⟩ : ∃ m x, l = m ++ [x] := ⟨l.dropLast, l.getLast e, (List.dropLast_concat_getLast e).symm⟩
      have h1 := ih m (fun y hy => h y (List.mem_append_left _ hy)) (by simp at hn; omega)
      have h2 := h x (by simp)
      rw [getN_snoc, Int.pow_succ]
      omega
theorem getN_lt7 (l : List Int) (h : OkB l) (hn : l.length ≤ 7) : 0 ≤ getN l ∧ getN l < 72057594037927936 := getN_bd 7 l h hn
theorem join_nil (xs : List (List UInt8)) : Lib.join xs [] = xs.flatten := by
  unfold Lib.join List.intercalate
  induction xs with
  | nil => rfl
  | cons x xs ih =>
    cases xs with
    | nil => rfl
    | cons y ys => simp only [List.intersperse_cons_cons, List.flatten_cons, List.nil_append]; rw [ih]; simp
def okArc (x : Int) : Bool := decide (0 ≤ x ∧ x ≤ 2147483647)
def rightA : List Int → Bool
  | a :: b :: r => decide (r.length ≤ 18) && (decide (0 ≤ a ∧ a ≤ 2) && (decide (0 ≤ b ∧ b ≤ if a < 2 then 39 else 2147483567) && r.all okArc))
  | _ => false
theorem oid_right_loop (l : List Int) (h2 : 2 ≤ l.length) (hs : l.length ≤ 1000) (d : Nat) : ∀ i : Nat, 2 ≤ i → i ≤ l.length → l.length - i = d →
    Ev (fun k => oid_Right.l0 k l l (l.length : Int) (i : Int)) ((l.drop i).all okArc) := by
  induction d with
  | zero =>
    intro i _ hi hd
    refine Ev.step (fun k => by rw [oid_Right.l0]) ?_
    refine Ev.ifn (by omega) ?_
    rw [List.drop_eq_nil_of_le (by omega)]
    exact Ev.now _
  | succ d ih =>
    intro i hi2 hi hd
    have hlt : i < l.length := by omega
    refine Ev.step (fun k => by rw [oid_Right.l0]) ?_
    refine Ev.ifp (by omega) ?_
    refine Ev.ifp (by omega) ?_
    refine Ev.ifp (by omega) ?_
    rw [rd_get i hlt, List.drop_eq_getElem_cons hlt, List.all_cons]
    by_cases h0 : l[i] < 0
    · refine Ev.ifp h0 ((Ev.now _).eq ?_)
      have : okArc l[i] = false := decide_eq_false (by omega)
      rw [this, Bool.false_and]
    refine Ev.ifn h0 ?_
    refine Ev.bindc (a := 2147483647) (by unfold oid_most.f; rw [if_neg (by omega), if_pos (by omega)]) ?_
    by_cases h1 : l[i] > 2147483647
    · refine Ev.ifp h1 ((Ev.now _).eq ?_)
      have : okArc l[i] = false := decide_eq_false (by omega)
      rw [this, Bool.false_and]
    · refine Ev.ifn h1 ?_
      have : okArc l[i] = true := decide_eq_true (by omega)
      rw [this, Bool.true_and, w64 (by omega) (by omega)]
      exact ih (i + 1) (by omega) (by omega) (by omega)
theorem oid_right_is (l : List Int) (hs : l.length ≤ 1000000) : Ev (fun k => oid_Right.f k l) (rightA l) := by
  have hno : Ev (fun k => oid_Right.j0 k l true) false := by
    refine Ev.step (fun k => by rw [oid_Right.j0]) ?_
    exact Ev.ifp rfl (Ev.now _)
  refine Ev.congr (fun k => by rw [oid_Right.f]) ?_
  match l, hno with
  | [], hno => exact Ev.ifp (by decide) hno
  | [a], hno => exact Ev.ifp (by simp) hno
  | a :: b :: r, hno =>
    refine Ev.ifn (by simp <;> omega) ?_
    by_cases h20 : r.length ≤ 18
    · rw [decide_eq_false (by simp <;> omega)]
      refine Ev.step (fun k => by rw [oid_Right.j0]) ?_
      refine Ev.ifn (by simp) ?_
      have hlen : (a :: b :: r).length = r.length + 2 := rfl
      rw [rightA, decide_eq_true h20, Bool.true_and]
      have hl := oid_right_loop (a :: b :: r) (by omega) (by omega) _ 2 (by omega) (by omega) rfl
      refine Ev.step (fun k => by rw [oid_Right.l0]) ?_
      refine Ev.ifp (by omega) ?_
      refine Ev.ifp (by omega) ?_
      refine Ev.ifp (by omega) ?_
      rw [show rd (a :: b :: r) 0 = a from rfl]
      by_cases ha : a < 0
      · refine Ev.ifp ha ((Ev.now _).eq ?_)
        rw [decide_eq_false (show ¬ (0 ≤ a ∧ a ≤ 2) by omega), Bool.false_and]
      refine Ev.ifn ha ?_
      refine Ev.bindc (a := 2) (by unfold oid_most.f; rw [if_pos rfl]) ?_
      by_cases ha2 : a > 2
      · refine Ev.ifp ha2 ((Ev.now _).eq ?_)
        rw [decide_eq_false (show ¬ (0 ≤ a ∧ a ≤ 2) by omega), Bool.false_and]
      refine Ev.ifn ha2 ?_
      rw [decide_eq_true (show 0 ≤ a ∧ a ≤ 2 by omega), Bool.true_and, show wrap64 (0 + 1) = 1 from w64 (by decide) (by decide)]
      refine Ev.step (fun k => by rw [oid_Right.l0]) ?_
      refine Ev.ifp (by omega) ?_
      refine Ev.ifp (by omega) ?_
      refine Ev.ifp (by omega) ?_
      rw [show rd (a :: b :: r) 1 = b from rfl]
      by_cases hb : b < 0
      · refine Ev.ifp hb ((Ev.now _).eq ?_)
        rw [decide_eq_false (show ¬ (0 ≤ b ∧ b ≤ if a < 2 then 39 else 2147483567) by omega), Bool.false_and]
      refine Ev.ifn hb ?_
      refine Ev.bindc (a := if a < 2 then 39 else 2147483567) (by
        unfold oid_most.f
        rw [if_neg (by decide), if_neg (by decide), if_pos (by omega), show rd (a :: b :: r) 0 = a from rfl]
        split <;> rfl) ?_
      by_cases hb2 : b > if a < 2 then 39 else 2147483567
      · refine Ev.ifp hb2 ((Ev.now _).eq ?_)
        rw [decide_eq_false (show ¬ (0 ≤ b ∧ b ≤ if a < 2 then 39 else 2147483567) by omega), Bool.false_and]
      refine Ev.ifn hb2 ?_
      rw [decide_eq_true (show 0 ≤ b ∧ b ≤ if a < 2 then 39 else 2147483567 by omega), Bool.true_and, show wrap64 (1 + 1) = 2 from w64 (by decide) (by decide)]
      exact hl
    · rw [decide_eq_true (by simp <;> omega)]
      refine hno.eq ?_
      rw [rightA, decide_eq_false h20, Bool.false_and]
theorem right_parts {arcs : List Int} (h : rightA arcs = true) : ∃ a b r, arcs = a :: b :: r ∧ r.length ≤ 18 ∧ 0 ≤ a ∧ a ≤ 2 ∧ 0 ≤ b ∧ (a < 2 → b ≤ 39) ∧ b ≤ 2147483567 ∧ ∀ x ∈ r, 0 ≤ x ∧ x ≤ 2147483647 := by
  match arcs, h with
  | [], h => simp [rightA] at h
  | [a], h => simp [rightA] at h
  | a :: b :: r, h =>
    rw [rightA] at h
    simp only [Bool.and_eq_true, decide_eq_true_eq, List.all_eq_true] at h
    obtain ⟨h1, h2, h3, h4⟩ := h
    refine ⟨a, b, r, rfl, h1, h2.1, h2.2, h3.1, fun h => by have := h3.2; rw [if_pos h] at this; exact this, by have := h3.2; split at this <;> omega, fun x hx => of_decide_eq_true (h4 x hx)⟩
/-- A number's text, as numbers. -/
def num (v : Int) : List Int := (Lib.itoa v).map fun b => (b.toNat : Int)
def dec (u : Nat) : List Int := (Lib.decDigits u).map fun b => (b.toNat : Int)
theorem str_of_bytes (l : List UInt8) : (⟨l.toArray⟩ : ByteArray) = strOfNums (l.map fun b => (b.toNat : Int)) := by
  have := strOfNums_bytesOf ⟨l.toArray⟩
  unfold bytesOf at this
  exact this.symm
theorem num_str (v : Int) : (⟨(Lib.itoa v).toArray⟩ : ByteArray) = strOfNums (num v) := str_of_bytes _
theorem dec_lt {u : Nat} (h : u < 10) : dec u = [48 + (u : Int)] := by
  unfold dec
  rw [Lib.decDigits, dif_pos h]
  simp [UInt8.toNat_ofNat']
  omega
theorem dec_ge {u : Nat} (h : ¬ u < 10) : dec u = dec (u / 10) ++ [48 + ((u % 10 : Nat) : Int)] := by
  unfold dec
  rw [Lib.decDigits, dif_neg h, List.map_append]
  simp [UInt8.toNat_ofNat']
  omega
theorem num_pos {v : Int} (h : 0 ≤ v) : num v = dec v.toNat := by unfold num dec Lib.itoa; rw [if_neg (by omega)]
theorem num_neg {v : Int} (h : v < 0) : num v = 45 :: dec v.natAbs := by unfold num dec Lib.itoa; rw [if_pos h]; rfl
theorem dec_digit : ∀ (u : Nat), ∀ x ∈ dec u, 48 ≤ x ∧ x ≤ 57 := by
  intro u
  induction u using Nat.strongRecOn with
  | ind u ih =>
    by_cases h : u < 10
    · rw [dec_lt h]
      intro x hx
      rw [List.mem_singleton] at hx
      omega
    · rw [dec_ge h]
      intro x hx
      rcases List.mem_append.1 hx with h1 | h1
      · exact ih (u / 10) (by omega) x h1
      · rw [List.mem_singleton] at h1
        omega
theorem dec_ok (u : Nat) : OkB (dec u) := fun x hx => by have := dec_digit u x hx; omega
theorem dec_ne (u : Nat) : dec u ≠ [] := by
  by_cases h : u < 10
  · rw [dec_lt h]; simp
  · rw [dec_ge h]; simp
theorem dec_len : ∀ (k u : Nat), 1 ≤ k → u < 10 ^ k → (dec u).length ≤ k
  | 0, _, h, _ => by omega
  | k + 1, u, _, h => by
    by_cases h0 : u < 10
    · rw [dec_lt h0]; simp
    · rw [dec_ge h0, List.length_append]
      rw [Nat.pow_succ] at h
      have hk : 1 ≤ k := by
        rcases Nat.eq_zero_or_pos k with rfl | hk
        · simp at h; omega
        · exact hk
      have := dec_len k (u / 10) hk (by omega)
      simp
      omega
theorem num_ok (v : Int) : OkB (num v) := by
  by_cases h : 0 ≤ v
  · rw [num_pos h]; exact dec_ok _
  · rw [num_neg (by omega)]; exact OkB.cons (by omega) (by omega) (dec_ok _)
theorem num_len (v : Int) (h0 : -9223372036854775808 ≤ v) (h1 : v ≤ 9223372036854775807) : (num v).length ≤ 20 ∧ 1 ≤ (num v).length := by
  have hne := dec_ne
  by_cases h : 0 ≤ v
  · rw [num_pos h]
    have := dec_len 19 v.toNat (by omega) (by omega)
    have := List.length_pos_iff.2 (hne v.toNat)
    omega
  · rw [num_neg (by omega), List.length_cons]
    have := dec_len 19 v.natAbs (by omega) (by omega)
    omega
theorem num_no46 (v : Int) : ∀ x ∈ num v, x ≠ 46 := by
  intro x hx
  by_cases h : 0 ≤ v
  · rw [num_pos h] at hx
    have := dec_digit _ x hx
    omega
  · rw [num_neg (by omega)] at hx
    rcases List.mem_cons.1 hx with rfl | hx
    · decide
    · have := dec_digit _ x hx
      omega
theorem parse_append : ∀ (a b : List UInt8) (acc : Nat), Lib.parseUint10 acc (a ++ b) = match Lib.parseUint10 acc a with
    | .ok m => Lib.parseUint10 m b
    | .syntax => .syntax
    | .range => .range
  | [], b, acc => rfl
  | c :: a, b, acc => by
    rw [List.cons_append, Lib.parseUint10, Lib.parseUint10]
    split
    · split
      · rfl
      · split
        · rfl
        · exact parse_append a b _
    · rfl
theorem parse_dec (u : Nat) (h : u < 18446744073709551616) : Lib.parseUint10 0 (Lib.decDigits u) = .ok u := by
  induction u using Nat.strongRecOn with
  | ind u ih =>
    have step : ∀ (m d : Nat), d < 10 → m * 10 + d < 18446744073709551616 → Lib.parseUint10 m [UInt8.ofNat (48 + d)] = .ok (m * 10 + d) := fun m d hd hm => by
      rw [Lib.parseUint10, show (UInt8.ofNat (48 + d)).toNat = 48 + d by simp [UInt8.toNat_ofNat']; omega, if_pos (by omega), if_neg (by omega), if_neg (by omega), Lib.parseUint10]
      congr 1
      omega
    rw [Lib.decDigits]
    by_cases h10 : u < 10
    · rw [dif_pos h10, step 0 u h10 (by omega)]
      congr 1
      omega
    · rw [dif_neg h10, parse_append, ih (u / 10) (by omega) (by omega)]
      simp only
      rw [step (u / 10) (u % 10) (by omega) (by omega)]
      congr 1
      omega
theorem decDigits_head (u : Nat) : ∃ c r, Lib.decDigits u = c :: r ∧ 48 ≤ c.toNat ∧ c.toNat ≤ 57 := by
  cases hd : Lib.decDigits u with
  | nil => have := Lib.decDigits_length u; rw [hd] at this; have := Lib.nDigits_pos u; simp at *; omega
  | cons c r =>
    have := dec_digit u (c.toNat : Int) (by unfold dec; rw [hd]; simp)
    exact ⟨c, r, rfl, by omega, by omega⟩
theorem atoi_itoa {v : Int} (h0 : -9223372036854775808 ≤ v) (h1 : v ≤ 9223372036854775807) : Lib.atoiAll (Lib.itoa v) = .ok v := by
  unfold Lib.itoa
  by_cases hv : v < 0
  · rw [if_pos hv, Lib.atoiAll_minus, Lib.parseMag]
    obtain ⟨c, r, e, _, _⟩ := decDigits_head v.natAbs
    rw [if_neg (by rw [e]; simp), parse_dec _ (by omega), Lib.signed, if_neg (by omega)]
    congr 1
    omega
  · rw [if_neg hv]
    obtain ⟨c, r, e, h2, h3⟩ := decDigits_head v.toNat
    rw [e, Lib.atoiAll_plain c r (by omega) (by omega), ← e, Lib.parseMag, if_neg (by rw [e]; simp), parse_dec _ (by omega), Lib.signless, if_neg (by omega)]
    congr 1
    omega
theorem unnum_num {v : Int} (h0 : -9223372036854775808 ≤ v) (h1 : v ≤ 9223372036854775807) : digits_Unnum.of (strOfNums (num v)) = (v, true) := by
  rw [← num_str]
  unfold digits_Unnum.of
  rw [show (⟨(Lib.itoa v).toArray⟩ : ByteArray).data.toList = Lib.itoa v from rfl, atoi_itoa h0 h1]
  simp
theorem unnum_sound {t : List Int} (ht : OkB t) {v : Int} (h : digits_Unnum.of (strOfNums t) = (v, true)) : t = num v ∧ -9223372036854775808 ≤ v ∧ v ≤ 9223372036854775807 := by
  unfold digits_Unnum.of at h
  cases ha : Lib.atoiAll (strOfNums t).data.toList with
  | ok u =>
    rw [ha] at h
    dsimp only at h
    by_cases he : (⟨(Lib.itoa u).toArray⟩ : ByteArray).toList = (strOfNums t).toList
    · rw [if_pos he] at h
      cases h
      rw [num_str] at he
      exact ⟨((nums_toList (num_ok _) ht).1 he).symm, Lib.atoiAll_bounds ha⟩
    · rw [if_neg he] at h; cases h
  | «syntax» => rw [ha] at h; cases h
  | range => rw [ha] at h; cases h
theorem unnum_no {t : ByteArray} (h : (digits_Unnum.of t).2 = false) : digits_Unnum.of t = (0, false) := by
  unfold digits_Unnum.of at h ⊢
  cases ha : Lib.atoiAll t.data.toList with
  | ok u =>
    rw [ha] at h
    dsimp only at h ⊢
    by_cases he : (⟨(Lib.itoa u).toArray⟩ : ByteArray).toList = t.toList
    · rw [if_pos he] at h; cases h
    · rw [if_neg he]
  | «syntax» => rfl
  | range => rfl
def joinI : List (List Int) → List Int
  | [] => []
  | [x] => x
  | x :: y :: r => x ++ 46 :: joinI (y :: r)
theorem joinI_cons (x : List Int) {r : List (List Int)} (h : r ≠ []) : joinI (x :: r) = x ++ 46 :: joinI r := by
  cases r with
  | nil => exact absurd rfl h
  | cons y r => rw [joinI]
theorem joinI_snoc : ∀ (xs : List (List Int)) (y : List Int), xs ≠ [] → joinI (xs ++ [y]) = joinI xs ++ 46 :: y
  | [], y, h => absurd rfl h
  | [x], y, _ => rfl
  | x :: z :: r, y, _ => by
    have := joinI_snoc (z :: r) y (by simp)
    rw [List.cons_append, joinI_cons x (by simp), this, joinI_cons x (by simp)]
    simp
theorem joinI_len (m : Nat) : ∀ (xs : List (List Int)), (∀ x ∈ xs, x.length ≤ m) → (joinI xs).length ≤ (m + 1) * xs.length
  | [], _ => by simp [joinI]
  | [x], h => by have := h x (by simp); simp [joinI]; omega
  | x :: y :: r, h => by
    have h1 := h x (by simp)
    have h2 := joinI_len m (y :: r) (fun z hz => h z (List.mem_cons_of_mem _ hz))
    rw [joinI, List.length_append, List.length_cons, List.length_cons (a := x), Nat.mul_succ]
    omega
theorem lib_join : ∀ (xs : List (List Int)), (⟨(Lib.join (xs.map fun x => (strOfNums x).data.toList) [46]).toArray⟩ : ByteArray) = strOfNums (joinI xs)
  | [] => rfl
  | [x] => by
    rw [List.map_cons, List.map_nil, Lib.join_one, joinI]
  | x :: y :: r => by
    have ih := lib_join (y :: r)
    have e : Lib.join ((x :: y :: r).map fun x => (strOfNums x).data.toList) [46] = (strOfNums x).data.toList ++ [46] ++ Lib.join ((y :: r).map fun x => (strOfNums x).data.toList) [46] := by
      unfold Lib.join List.intercalate
      simp only [List.map_cons, List.intersperse_cons_cons, List.flatten_cons, List.append_assoc]
    rw [e, joinI, show x ++ 46 :: joinI (y :: r) = (x ++ [46]) ++ joinI (y :: r) by simp, ← str_append, ← str_append, ← ih]
    apply ByteArray.ext
    apply Array.toList_inj.1
    rw [str_data_append, str_data_append]
    rfl
theorem oid_text_loop (arcs : List Int) (hb : ∀ x ∈ arcs, 0 ≤ x ∧ x ≤ 2147483647) (hs : arcs.length ≤ 20) (d : Nat) : ∀ i : Nat, i ≤ arcs.length → arcs.length - i = d →
    Ev (fun k => oid_Text.l0 k ((arcs.take i).map (fun x => strOfNums (num x)) ++ List.replicate (arcs.length - i) (⟨#[]⟩ : ByteArray)) arcs (arcs.length : Int) (i : Int)) (strOfNums (joinI (arcs.map num))) := by
  induction d with
  | zero =>
    intro i hi hd
    refine Ev.step (fun k => by rw [oid_Text.l0]) ?_
    refine Ev.ifn (by omega) ?_
    rw [List.take_of_length_le (by omega), hd, List.replicate_zero, List.append_nil]
    have hl := joinI_len 20 (arcs.map num) (fun x hx => by
      obtain ⟨v, hv, rfl⟩ := List.mem_map.1 hx
      have := hb v hv
      exact (num_len v (by omega) (by omega)).1)
    rw [List.length_map] at hl
    have hj := lib_join (arcs.map num)
    rw [List.map_map] at hj
    have hsz := congrArg ByteArray.size hj
    rw [strOfNums_size] at hsz
    have e : strings_Join.f (arcs.map fun x => strOfNums (num x)) (⟨#[46]⟩ : ByteArray) = some (strOfNums (joinI (arcs.map num))) := by
      unfold strings_Join.f
      rw [List.map_map, if_pos (by simp; omega), if_pos, ← hj]
      · rfl
      · have h2 : (⟨(Lib.join (arcs.map ((fun x => (strOfNums x).data.toList) ∘ num)) [46]).toArray⟩ : ByteArray).size = (Lib.join (arcs.map ((fun x => (strOfNums x).data.toList) ∘ num)) [46]).length := by
          show (Lib.join (arcs.map ((fun x => (strOfNums x).data.toList) ∘ num)) [46]).toArray.size = _
          simp
        rw [h2] at hsz
        show (Lib.join (arcs.map ((fun x => (strOfNums x).data.toList) ∘ num)) [46]).length ≤ _
        omega
    exact Ev.bindc e (Ev.now _)
  | succ d ih =>
    intro i hi hd
    have hlt : i < arcs.length := by omega
    have hv := hb arcs[i] (List.getElem_mem hlt)
    refine Ev.step (fun k => by rw [oid_Text.l0]) ?_
    rw [rd_get i hlt, w64 (x := (i : Int) + 1) (by omega) (by omega)]
    have e : digits_Num.f arcs[i] = some (strOfNums (num arcs[i])) := by
      unfold digits_Num.f strconv_Itoa.f
      rw [if_pos ⟨by omega, by omega⟩, Option.bind_some, num_str]
    refine Ev.ifp (by omega) (Ev.ifp (by omega) (Ev.ifp (by omega) (Ev.bindc e (Ev.ifp (by simp; omega) ?_))))
    have := ih (i + 1) (by omega) (by omega)
    refine Ev.congr (fun k => ?_) this
    congr 1
    rw [Int.toNat_natCast, List.set_append_right _ _ (by simp; omega), List.length_map, List.length_take, Nat.min_eq_left (by omega), Nat.sub_self]
    obtain ⟨m, hm⟩ : ∃ m, arcs.length - i = m + 1 := ⟨arcs.length - i - 1, by omega⟩
    rw [hm, List.replicate_succ, List.set_cons_zero, show arcs.length - (i + 1) = m by omega, List.take_succ_eq_append_getElem hlt, List.map_append, List.map_cons, List.map_nil, List.append_assoc]
    rfl
theorem right_bd {arcs : List Int} (h : rightA arcs = true) : arcs.length ≤ 20 ∧ 2 ≤ arcs.length ∧ ∀ x ∈ arcs, 0 ≤ x ∧ x ≤ 2147483647 := by
  obtain ⟨a, b, r, rfl, h18, ha0, ha2, hb0, hb1, hb2, hall⟩ := right_parts h
  refine ⟨by simp; omega, by simp, fun x hx => ?_⟩
  rcases List.mem_cons.1 hx with rfl | hx
  · omega
  · rcases List.mem_cons.1 hx with rfl | hx
    · omega
    · exact hall x hx
theorem oid_text_is (arcs : List Int) (hs : arcs.length ≤ 1000000) : Ev (fun k => oid_Text.f k arcs) (if rightA arcs = true then strOfNums (joinI (arcs.map num)) else ⟨#[]⟩) := by
  refine Ev.congr (fun k => by rw [oid_Text.f]) ?_
  refine Ev.bind (oid_right_is arcs hs) ?_
  by_cases hr : rightA arcs = true
  · rw [if_pos hr]
    have hb := right_bd hr
    refine Ev.ifp hr (Ev.ifp (by omega) (Ev.ifp (by rw [Int.toNat_natCast]; omega) ?_))
    have := oid_text_loop arcs hb.2.2 hb.1 _ 0 (by omega) rfl
    simpa using this
  · rw [if_neg hr]
    exact Ev.ifn hr (Ev.now _)
def unn (p : List Int) : Int × Bool := digits_Unnum.of (strOfNums p)
def dotsI : List Int → List (List Int)
  | [] => [[]]
  | b :: r => if b = 46 then [] :: dotsI r else match dotsI r with
    | [] => [[b]]
    | p :: ps => (b :: p) :: ps
theorem dotsI_ne : ∀ l, dotsI l ≠ []
  | [] => by simp [dotsI]
  | b :: r => by
    rw [dotsI]
    split
    · simp
    · split <;> simp
theorem tb_cons (c : Int) (r : List Int) : (strOfNums (c :: r)).data.toList = UInt8.ofNat c.toNat :: (strOfNums r).data.toList := rfl
theorem dots_tb : ∀ (l : List Int), OkB l → dots (strOfNums l).data.toList = (dotsI l).map fun p => (strOfNums p).data.toList
  | [], _ => rfl
  | c :: r, h => by
    have hc := h.head
    rw [tb_cons, dots, dotsI]
    by_cases h46 : c = 46
    · subst h46
      rw [if_pos (by decide), if_pos rfl, dots_tb r h.tail]
      rfl
    · rw [if_neg, if_neg h46, dots_tb r h.tail]
      · cases hd : dotsI r with
        | nil => exact absurd hd (dotsI_ne r)
        | cons p ps => rfl
      · intro e
        have := congrArg UInt8.toNat e
        simp at this
        omega
def ownP (ps : List (List Int)) : List Int × Bool := if (ps.all fun p => (unn p).2) = true then (if rightA (ps.map fun p => (unn p).1) = true then (ps.map fun p => (unn p).1, true) else ([], false)) else ([], false)
theorem dotsI_len : ∀ l : List Int, (dotsI l).length ≤ l.length + 1
  | [] => by simp [dotsI]
  | b :: r => by
    have := dotsI_len r
    rw [dotsI]
    split
    · simp; omega
    · split
      · simp
      · rename_i h
        rw [h] at this
        simp at this ⊢
        omega
theorem oid_parse_is (l : List Int) (hl : OkB l) (hs : l.length ≤ 900000) : Ev (fun k => oid_Parse.f k (strOfNums l)) (ownP (dotsI l)) := by
  refine Ev.congr (fun k => by rw [oid_Parse.f]) ?_
  refine Ev.ifp (by rw [strOfNums_size]; omega) ?_
  rw [dots_tb l hl]
  have e1 : ∀ p : List Int, (⟨((strOfNums p).data.toList).toArray⟩ : ByteArray) = strOfNums p := fun p => rfl
  unfold parseP ownP
  rw [List.all_map, List.map_map]
  have e2 : ((fun x : List UInt8 => (digits_Unnum.of ⟨x.toArray⟩).2) ∘ fun p => (strOfNums p).data.toList) = fun p => (unn p).2 := by funext p; rfl
  have e3 : ((fun x : List UInt8 => (digits_Unnum.of ⟨x.toArray⟩).1) ∘ fun p => (strOfNums p).data.toList) = fun p => (unn p).1 := by funext p; rfl
  rw [e2, e3]
  by_cases ha : ((dotsI l).all fun p => (unn p).2) = true
  · rw [if_pos ha, if_pos ha]
    refine Ev.bind (oid_right_is _ (by rw [List.length_map]; have := dotsI_len l; omega)) ?_
    by_cases hr : rightA ((dotsI l).map fun p => (unn p).1) = true
    · exact Ev.ifp hr ((Ev.now _).eq (if_pos hr).symm)
    · exact Ev.ifn hr ((Ev.now _).eq (if_neg hr).symm)
  · rw [if_neg ha, if_neg ha]
    exact Ev.now _
theorem ownP_len (t : List Int) : (ownP (dotsI t)).1.length ≤ 20 := by
  unfold ownP
  split
  · split
    · rename_i h
      exact (right_bd h).1
    · simp
  · simp
theorem joinI_dotsI : ∀ t : List Int, joinI (dotsI t) = t
  | [] => rfl
  | b :: r => by
    rw [dotsI]
    by_cases h : b = 46
    · rw [if_pos h, joinI_cons [] (dotsI_ne r), joinI_dotsI r, h]
      rfl
    · rw [if_neg h]
      have ih := joinI_dotsI r
      cases hd : dotsI r with
      | nil => exact absurd hd (dotsI_ne r)
      | cons p ps =>
        rw [hd] at ih
        dsimp only
        cases ps with
        | nil => rw [joinI] at ih ⊢; rw [ih]
        | cons q qs => rw [joinI_cons _ (by simp)] at ih ⊢; rw [← ih]; rfl
theorem dotsI_glue : ∀ (p r : List Int), (∀ x ∈ p, x ≠ 46) → dotsI (p ++ 46 :: r) = p :: dotsI r
  | [], r, _ => by rw [List.nil_append, dotsI, if_pos rfl]
  | b :: p, r, h => by rw [List.cons_append, dotsI, if_neg (h b (by simp)), dotsI_glue p r (fun x hx => h x (List.mem_cons_of_mem _ hx))]
theorem dotsI_one : ∀ (p : List Int), (∀ x ∈ p, x ≠ 46) → dotsI p = [p]
  | [], _ => rfl
  | b :: p, h => by rw [dotsI, if_neg (h b (by simp)), dotsI_one p (fun x hx => h x (List.mem_cons_of_mem _ hx))]
theorem dotsI_joinI : ∀ (ps : List (List Int)), ps ≠ [] → (∀ p ∈ ps, ∀ x ∈ p, x ≠ 46) → dotsI (joinI ps) = ps
  | [], h, _ => absurd rfl h
  | [p], _, h => dotsI_one p (h p (by simp))
  | p :: q :: r, _, h => by
    rw [joinI_cons p (by simp), dotsI_glue p _ (h p (by simp)), dotsI_joinI (q :: r) (by simp) (fun z hz => h z (List.mem_cons_of_mem _ hz))]
theorem dotsI_ok : ∀ (t : List Int), OkB t → ∀ p ∈ dotsI t, OkB p
  | [], _, p, hp => by
    rw [dotsI, List.mem_singleton] at hp
    subst hp
    exact OkB.nil
  | b :: r, h, p, hp => by
    have ih := dotsI_ok r h.tail
    rw [dotsI] at hp
    by_cases h46 : b = 46
    · rw [if_pos h46] at hp
      rcases List.mem_cons.1 hp with rfl | hp
      · exact OkB.nil
      · exact ih p hp
    · rw [if_neg h46] at hp
      cases hd : dotsI r with
      | nil => exact absurd hd (dotsI_ne r)
      | cons q qs =>
        rw [hd] at hp ih
        dsimp only at hp
        rcases List.mem_cons.1 hp with rfl | hp
        · have := h.head
          exact OkB.cons this.1 this.2 (ih q (by simp))
        · exact ih p (List.mem_cons_of_mem _ hp)
theorem ownP_text {a : List Int} (h : rightA a = true) : ownP (dotsI (joinI (a.map num))) = (a, true) := by
  have hb := right_bd h
  rw [dotsI_joinI _ (by intro e; rw [List.map_eq_nil_iff] at e; subst e; simp at hb) (fun p hp => by obtain ⟨v, _, rfl⟩ := List.mem_map.1 hp; exact num_no46 v)]
  have e : ∀ x ∈ a, unn (num x) = (x, true) := fun x hx => by
    have := hb.2.2 x hx
    exact unnum_num (by omega) (by omega)
  have e1 : (a.map num).map (fun p => (unn p).1) = a := by
    rw [List.map_map]
    conv => rhs; rw [← List.map_id a]
    exact List.map_congr_left (fun x hx => by simp [e x hx])
  unfold ownP
  rw [if_pos, e1, if_pos h]
  rw [List.all_map, List.all_eq_true]
  intro x hx
  simp [e x hx]
theorem ownP_sound {t l : List Int} (ht : OkB t) (h : ownP (dotsI t) = (l, true)) : rightA l = true ∧ joinI (l.map num) = t := by
  unfold ownP at h
  by_cases ha : ((dotsI t).all fun p => (unn p).2) = true
  case neg => rw [if_neg ha] at h; cases h
  rw [if_pos ha] at h
  by_cases hr : rightA ((dotsI t).map fun p => (unn p).1) = true
  case neg => rw [if_neg hr] at h; cases h
  rw [if_pos hr] at h
  cases h
  refine ⟨hr, ?_⟩
  rw [List.map_map]
  have e : (dotsI t).map (num ∘ fun p => (unn p).1) = dotsI t := by
    conv => rhs; rw [← List.map_id (dotsI t)]
    refine List.map_congr_left (fun p hp => ?_)
    have h2 := List.all_eq_true.1 ha p hp
    have := unnum_sound (t := p) (v := (unn p).1) (dotsI_ok t ht p hp) (by
      show unn p = _
      exact Prod.ext rfl h2)
    exact this.1.symm
  rw [e, joinI_dotsI]
theorem ownP_cases (t : List Int) : (∃ l, ownP (dotsI t) = (l, true)) ∨ ownP (dotsI t) = ([], false) := by
  unfold ownP
  split
  · split
    · exact .inl ⟨_, rfl⟩
    · exact .inr rfl
  · exact .inr rfl
theorem joinN_ok (a : List Int) : OkB (joinI (a.map num)) := by
  induction a with
  | nil => exact OkB.nil
  | cons v r ih =>
    cases r with
    | nil => exact num_ok v
    | cons w r => rw [List.map_cons, joinI_cons _ (by simp)]; exact (num_ok v).append (OkB.cons (by decide) (by decide) ih)
theorem joinN_len {a : List Int} (h : rightA a = true) : (joinI (a.map num)).length ≤ 420 := by
  have hb := right_bd h
  have := joinI_len 20 (a.map num) (fun x hx => by
    obtain ⟨v, hv, rfl⟩ := List.mem_map.1 hx
    have := hb.2.2 v hv
    exact (num_len v (by omega) (by omega)).1)
  rw [List.length_map] at this
  omega
theorem compare_less : ∀ (a b : List UInt8), decide (Lib.compareBytes a b < 0) = Op.bytesLess a b
  | [], [] => rfl
  | [], _ :: _ => rfl
  | _ :: _, [] => rfl
  | a :: x, b :: y => by
    rw [Lib.compareBytes, Op.bytesLess]
    by_cases h1 : a < b
    · rw [if_pos h1]
      simp [h1]
    · rw [if_neg h1]
      by_cases h2 : b < a
      · rw [if_pos h2]
        have h3 : (a == b) = false := beq_eq_false_iff_ne.2 (fun e => by subst e; exact h1 h2)
        simp [h1, h3]
      · rw [if_neg h2, compare_less x y]
        have h3 : a = b := UInt8.le_antisymm (UInt8.not_lt.1 h2) (UInt8.not_lt.1 h1)
        subst h3
        simp [h1]
theorem drop_all (p : UInt8 → Bool) : ∀ l : List UInt8, (∀ x ∈ l.dropWhile p, p x = true) → ∀ x ∈ l, p x = true
  | [], _, x, hx => by cases hx
  | a :: l, h, x, hx => by
    by_cases ha : p a = true
    · rw [List.dropWhile_cons, if_pos ha] at h
      rcases List.mem_cons.1 hx with rfl | hx
      · exact ha
      · exact drop_all p l h x hx
    · rw [List.dropWhile_cons, if_neg ha] at h
      exact absurd (h a (by simp)) ha
theorem trimB_nil (l : List UInt8) : Lib.trimB l 0 = [] ↔ ∀ b ∈ l, b = 0 := by
  unfold Lib.trimB Lib.trimLeftB Lib.trimRightB
  constructor
  · intro h b hb
    have h1 : ∀ x ∈ (l.reverse.dropWhile (· == 0)).reverse, (x == 0) = true := by
      have h2 := drop_all (· == 0) ((l.reverse.dropWhile (· == 0)).reverse) (by rw [h]; intro x hx; cases hx)
      exact h2
    have h3 := drop_all (· == 0) l.reverse (fun x hx => h1 x (List.mem_reverse.2 hx)) b (List.mem_reverse.2 hb)
    exact beq_iff_eq.1 h3
  · intro h
    have h1 : l.reverse.dropWhile (· == 0) = [] := by
      have : ∀ m : List UInt8, (∀ x ∈ m, x = 0) → m.dropWhile (· == 0) = [] := by
        intro m
        induction m with
        | nil => intro _; rfl
        | cons a m ih =>
          intro hm
          rw [List.dropWhile_cons, if_pos (beq_iff_eq.2 (hm a (by simp)))]
          exact ih (fun x hx => hm x (List.mem_cons_of_mem _ hx))
      exact this _ (fun x hx => h x (List.mem_reverse.1 hx))
    rw [h1]
    rfl
theorem bt_at22 (s : ByteArray) (i : Nat) (h : i < s.size) : bt s (i : Int) = ((s.data.toList.getD i 0).toNat : Int) := by
  have hl : i < s.data.toList.length := by rw [Array.length_toList]; exact h
  unfold bt
  rw [dif_pos (by simpa using h)]
  rw [List.getD_eq_getElem?_getD, List.getElem?_eq_getElem hl]
  rfl
/-- The orders. -/
def ordF (c : Int) : ByteArray := (curve_Order.f 200 c).getD ⟨#[]⟩
theorem order_allP : ((List.range 4).all fun i => (curve_Order.f 200 ((i : Int) + 1)).isSome) = true := by kernel_rfl
theorem order_isP {c : Int} (h1 : 1 ≤ c) (h4 : c ≤ 4) : Ev (fun k => curve_Order.f k c) (ordF c) := by
  have h := List.all_eq_true.1 order_allP (c - 1).toNat (List.mem_range.2 (by omega))
  rw [show (((c - 1).toNat : Nat) : Int) + 1 = c by omega] at h
  obtain ⟨o, ho⟩ := Option.isSome_iff_exists.1 h
  have e : ordF c = o := by unfold ordF; rw [ho]; rfl
  rw [e]
  exact Ev.of (curve_Order.mono c) (k := 200) ho
def scalarA (o s : ByteArray) : Bool := s.data.toList.any (fun b => !(b == 0)) && Op.bytesLess s.toList o.toList
def widths (c : Int) : Int := if c = 1 then 28 else if c = 2 then 32 else if c = 3 then 48 else if c = 4 then 66 else 0
theorem line_width (c : Int) : ∃ a b o, curve_line.f c = some (a, b, o, widths c) := by
  unfold curve_line.f widths
  repeat' split
  all_goals exact ⟨_, _, _, rfl⟩
theorem widths_pos {c : Int} (h0 : ¬ widths c = 0) : 1 ≤ c ∧ c ≤ 4 := by
  unfold widths at h0
  by_cases c1 : c = 1
  · omega
  by_cases c2 : c = 2
  · omega
  by_cases c3 : c = 3
  · omega
  by_cases c4 : c = 4
  · omega
  · rw [if_neg c1, if_neg c2, if_neg c3, if_neg c4] at h0
    exact absurd rfl h0
def scalarF (c : Int) (s : ByteArray) : Bool := if widths c = 0 then false else if (s.size : Int) = widths c then scalarA (ordF c) s else false
theorem any_all (l : List UInt8) : (l.any (fun b => !(b == 0))) = !decide (∀ b ∈ l, b = 0) := by
  by_cases hz : ∀ b ∈ l, b = 0
  · rw [decide_eq_true hz, List.any_eq_false.2 (fun x hx => by simp [hz x hx])]
    rfl
  · rw [decide_eq_false hz, List.any_eq_true.2]
    · rfl
    · exact Classical.byContradiction fun hn => hz fun b hb => Classical.byContradiction fun hne => hn ⟨b, hb, by simp [hne]⟩
theorem scalar_isP (c : Int) (s : ByteArray) (hs : s.size ≤ 1000000) : Ev (fun k => curve_Scalar.f k c s) (scalarF c s) := by
  unfold scalarF
  obtain ⟨n, a, o, hw⟩ := line_width c
  have hno1 : Ev (fun k => curve_Scalar.j0 k c s true) false := by
    refine Ev.step (fun k => by rw [curve_Scalar.j0]) ?_
    exact Ev.ifp rfl (Ev.now _)
  by_cases h0 : widths c = 0
  · rw [if_pos h0]
    exact Ev.congr (fun k => by rw [curve_Scalar.f]) (Ev.bindc hw (Ev.ifp h0 hno1))
  by_cases h1 : (s.size : Int) = widths c
  · have hb : ((s.size : Int) != widths c) = false := by rw [h1]; simp
    have hc := widths_pos h0
    have o1 := order_isP hc.1 hc.2
    rw [if_neg h0, if_pos h1]
    generalize ordF c = o at *
    refine Ev.congr (fun k => by rw [curve_Scalar.f]) (Ev.bindc hw (Ev.ifn h0 (Ev.bindc hw ?_)))
    simp only
    rw [hb]
    refine Ev.step (fun k => by rw [curve_Scalar.j0]) ?_
    refine Ev.ifn (by simp) ?_
    refine Ev.bindc (a := ⟨(Lib.trimB s.data.toList 0).toArray⟩) (by
      unfold strings_Trim.f
      rw [if_pos ⟨rfl, by omega⟩, if_pos (by decide)]
      rfl) ?_
    by_cases hz : ∀ b ∈ s.data.toList, b = 0
    · refine Ev.ifp ?_ ((Ev.now _).eq ?_)
      · rw [(trimB_nil _).2 hz, toList_data]
      · unfold scalarA
        rw [any_all, decide_eq_true hz]
        rfl
    · refine Ev.ifn ?_ ?_
      · rw [toList_data]
        intro e
        exact hz ((trimB_nil _).1 e)
      · refine Ev.bind o1 ?_
        refine Ev.bindc rfl ?_
        refine (Ev.now _).eq ?_
        unfold scalarA
        rw [any_all, decide_eq_false hz, compare_less, toList_data, toList_data]
        rfl
  · have hb : ((s.size : Int) != widths c) = true := bne_iff_ne.2 h1
    rw [if_neg h0, if_neg h1]
    refine Ev.congr (fun k => by rw [curve_Scalar.f]) (Ev.bindc hw (Ev.ifn h0 (Ev.bindc hw ?_)))
    simp only
    rw [hb]
    exact hno1
theorem order_all : ((List.range 4).all fun i => decide (curve_Order.f 200 ((i : Int) + 1) = clavigerref22_Order.f 200 ((i : Int) + 1))) = true := by kernel_rfl
theorem order_isR {c : Int} (h1 : 1 ≤ c) (h4 : c ≤ 4) : Ev (fun k => clavigerref22_Order.f k c) (ordF c) := by
  have hp := List.all_eq_true.1 order_allP (c - 1).toNat (List.mem_range.2 (by omega))
  have h := List.all_eq_true.1 order_all (c - 1).toNat (List.mem_range.2 (by omega))
  rw [show (((c - 1).toNat : Nat) : Int) + 1 = c by omega] at h hp
  obtain ⟨o, ho⟩ := Option.isSome_iff_exists.1 hp
  have e : ordF c = o := by unfold ordF; rw [ho]; rfl
  rw [e]
  exact Ev.of (clavigerref22_Order.mono c) (k := 200) ((of_decide_eq_true h) ▸ ho)
theorem ref_scalar_loop (c : Int) (s o : ByteArray) (hs : s.size ≤ 1000000) (ho : Ev (fun k => clavigerref22_Order.f k c) o) (d : Nat) : ∀ (i : Nat) (f : Bool), i ≤ s.size → s.size - i = d →
    Ev (fun k => clavigerref22_Scalar.l0 k c s f (i : Int)) ((f || (s.data.toList.drop i).any (fun b => !(b == 0))) && Op.bytesLess s.toList o.toList) := by
  have hl : s.data.toList.length = s.size := Array.length_toList
  induction d with
  | zero =>
    intro i f hi hd
    refine Ev.step (fun k => by rw [clavigerref22_Scalar.l0]) ?_
    refine Ev.ifn (by omega) ?_
    rw [List.drop_eq_nil_of_le (by omega)]
    cases f with
    | true => exact Ev.ifp rfl (Ev.bind ho ((Ev.now _).eq (by simp)))
    | false => exact Ev.ifn (by simp) ((Ev.now _).eq (by simp))
  | succ d ih =>
    intro i f hi hd
    have hlt : i < s.data.toList.length := by omega
    have hd2 : s.data.toList.drop i = s.data.toList.getD i 0 :: s.data.toList.drop (i + 1) := by
      rw [List.drop_eq_getElem_cons hlt, List.getD_eq_getElem?_getD, List.getElem?_eq_getElem hlt]
      rfl
    refine Ev.step (fun k => by rw [clavigerref22_Scalar.l0]) ?_
    refine Ev.ifp (by omega) ?_
    refine Ev.ifp (by omega) ?_
    rw [bt_at22 s i (by omega), w64 (by omega) (by omega), hd2, List.any_cons]
    by_cases h0 : ((s.data.toList.getD i 0).toNat : Int) = 0
    · refine Ev.ifp h0 ?_
      have e : s.data.toList.getD i 0 = 0 := UInt8.toNat_inj.1 (by simpa using h0)
      refine (ih (i + 1) f (by omega) (by omega)).eq ?_
      rw [e]; rfl
    · refine Ev.ifn h0 ?_
      have e : ¬ s.data.toList.getD i 0 = 0 := fun e => h0 (by rw [e]; rfl)
      refine (ih (i + 1) true (by omega) (by omega)).eq ?_
      have e2 : (s.data.toList.getD i 0 == 0) = false := beq_eq_false_iff_ne.2 e
      rw [e2]
      simp
theorem ref_width (c : Int) : clavigerref22_Width.f c = some (widths c) := by
  unfold clavigerref22_Width.f widths
  repeat' split
  all_goals rfl
theorem scalar_isR (c : Int) (s : ByteArray) (hs : s.size ≤ 1000000) : Ev (fun k => clavigerref22_Scalar.f k c s) (scalarF c s) := by
  unfold scalarF
  have hno2 : Ev (fun k => clavigerref22_Scalar.j0 k c s true) false := by
    refine Ev.step (fun k => by rw [clavigerref22_Scalar.j0]) ?_
    exact Ev.ifp rfl (Ev.now _)
  by_cases h0 : widths c = 0
  · rw [if_pos h0]
    exact Ev.congr (fun k => by rw [clavigerref22_Scalar.f]) (Ev.bindc (ref_width c) (Ev.ifp h0 hno2))
  by_cases h1 : (s.size : Int) = widths c
  · have hb : ((s.size : Int) != widths c) = false := by rw [h1]; simp
    have hc := widths_pos h0
    have o2 := order_isR hc.1 hc.2
    rw [if_neg h0, if_pos h1]
    refine Ev.congr (fun k => by rw [clavigerref22_Scalar.f]) (Ev.bindc (ref_width c) (Ev.ifn h0 (Ev.bindc (ref_width c) ?_)))
    rw [hb]
    refine Ev.step (fun k => by rw [clavigerref22_Scalar.j0]) ?_
    refine Ev.ifn (by simp) ?_
    refine (ref_scalar_loop c s _ hs o2 _ 0 false (by omega) rfl).eq ?_
    unfold scalarA
    simp
  · have hb : ((s.size : Int) != widths c) = true := bne_iff_ne.2 h1
    rw [if_neg h0, if_neg h1]
    refine Ev.congr (fun k => by rw [clavigerref22_Scalar.f]) (Ev.bindc (ref_width c) (Ev.ifn h0 (Ev.bindc (ref_width c) ?_)))
    rw [hb]
    exact hno2
/-- The first of four that is so. -/
def ofC (q : Nat → Bool) : Int × Bool := if q 0 = true then (1, true) else if q 1 = true then (2, true) else if q 2 = true then (3, true) else if q 3 = true then (4, true) else (0, false)
theorem curveRows_is : curveRows = [rd_T36 curveRows 0, rd_T36 curveRows 1, rd_T36 curveRows 2, rd_T36 curveRows 3] := rfl
theorem idx_four (p : S36 → Bool) : (curve_idx p curveRows + 1, decide (0 ≤ curve_idx p curveRows)) = ofC (fun i => p (rd_T36 curveRows (i : Int))) := by
  unfold curve_idx ofC
  rw [curveRows_is]
  generalize rd_T36 curveRows 0 = a at *
  generalize rd_T36 curveRows 1 = b at *
  generalize rd_T36 curveRows 2 = c at *
  generalize rd_T36 curveRows 3 = d at *
  show _ = if p a = true then ((1 : Int), true) else if p b = true then (2, true) else if p c = true then (3, true) else if p d = true then (4, true) else (0, false)
  cases ha : p a <;> cases hb : p b <;> cases hc : p c <;> cases hd : p d <;> simp [List.findIdx_cons, ha, hb, hc, hd]
def cA (i : Nat) : List Int := (clavigerref22_Arcs.f ((i : Int) + 1)).getD []
theorem rows4_all : ((List.range 4).all fun i => decide ((rd_T36 curveRows (i : Int)).f1 = strOfNums (joinI ((cA i).map num))) && decide ((rd_T36 curveRows (i : Int)).f3 = widths ((i : Int) + 1)) && decide (rightA (cA i) = true) && decide (clavigerref22_Arcs.f ((i : Int) + 1) = some (cA i))) = true := by decide +kernel
theorem row4 (i : Nat) (h : i < 4) : (rd_T36 curveRows (i : Int)).f1 = strOfNums (joinI ((cA i).map num)) ∧ (rd_T36 curveRows (i : Int)).f3 = widths ((i : Int) + 1) ∧ rightA (cA i) = true ∧ clavigerref22_Arcs.f ((i : Int) + 1) = some (cA i) := by
  have h1 := List.all_eq_true.1 rows4_all i (List.mem_range.2 h)
  simp only [Bool.and_eq_true, decide_eq_true_eq] at h1
  exact ⟨h1.1.1.1, h1.1.1.2, h1.1.2, h1.2⟩
theorem ofC_congr {q q' : Nat → Bool} (h : ∀ i, i < 4 → q i = q' i) : ofC q = ofC q' := by
  unfold ofC
  rw [h 0 (by decide), h 1 (by decide), h 2 (by decide), h 3 (by decide)]
theorem row4_text (i : Nat) (h : i < 4) (l : List Int) : ((rd_T36 curveRows (i : Int)).f1.toList == (if rightA l = true then strOfNums (joinI (l.map num)) else ⟨#[]⟩).toList) = decide (cA i = l) := by
  obtain ⟨r1, _, r3, _⟩ := row4 i h
  rw [r1]
  by_cases hl : rightA l = true
  · rw [if_pos hl]
    by_cases he : cA i = l
    · rw [he]; simp
    · rw [decide_eq_false he]
      refine beq_eq_false_iff_ne.2 (fun e => he ?_)
      have e2 := (nums_toList (joinN_ok _) (joinN_ok _)).1 e
      have h1 := ownP_text r3
      rw [e2, ownP_text hl] at h1
      exact ((Prod.mk.inj h1).1).symm
  · rw [if_neg hl, decide_eq_false (fun e => hl (by rw [← e]; exact r3))]
    refine beq_eq_false_iff_ne.2 (fun e => ?_)
    have e2 := (nums_toList (l := joinI ((cA i).map num)) (m := []) (joinN_ok _) OkB.nil).1 e
    have h1 := ownP_text r3
    rw [e2] at h1
    have h2 : ownP (dotsI []) = ([], false) := by decide +kernel
    rw [h2] at h1
    exact absurd (Prod.mk.inj h1).2 (by decide)
theorem curve_by_is (l : List Int) (hs : l.length ≤ 1000) : Ev (fun k => curve_By.f k l) (ofC fun i => decide (cA i = l)) := by
  refine Ev.congr (fun k => by rw [curve_By.f]) ?_
  refine Ev.bind (oid_text_is l (by omega)) ?_
  unfold curveBy
  rw [idx_four]
  refine (Ev.now _).eq (ofC_congr fun i hi => ?_)
  exact row4_text i hi l
theorem same22_is (a b : List Int) (h : a.length ≤ 1000) : Ev (fun k => clavigerref22_same.f k a b) (decide (a = b)) := by
  refine Ev.congr (fun k => by rw [clavigerref22_same.f]) ?_
  by_cases hl : a.length = b.length
  case neg =>
    refine Ev.ifn (by omega) ((Ev.now _).eq ?_)
    rw [decide_eq_false (fun e => hl (by rw [e]))]
  refine Ev.ifp (by omega) ?_
  have loop : ∀ d i : Nat, i ≤ a.length → a.length - i = d → Ev (fun k => clavigerref22_same.l0 k a b (i : Int)) (decide (a.drop i = b.drop i)) := by
    intro d
    induction d with
    | zero =>
      intro i hi hd
      refine Ev.step (fun k => by rw [clavigerref22_same.l0]) ?_
      refine Ev.ifn (by omega) ((Ev.now _).eq ?_)
      rw [List.drop_eq_nil_of_le (by omega), List.drop_eq_nil_of_le (by omega), decide_eq_true rfl]
    | succ d ih =>
      intro i hi hd
      refine Ev.step (fun k => by rw [clavigerref22_same.l0]) ?_
      rw [w64 (by omega) (by omega)]
      refine Ev.ifp (by omega) (Ev.ifp (by omega) (Ev.ifp (by omega) ?_))
      have ha : i < a.length := by omega
      have hb : i < b.length := by omega
      rw [rd_get i ha, rd_get i hb, List.drop_eq_getElem_cons ha, List.drop_eq_getElem_cons hb]
      by_cases he : a[i] = b[i]
      · refine Ev.ifp he ((ih (i + 1) (by omega) (by omega)).eq ?_)
        rw [he]
        simp only [List.cons.injEq, true_and]
      · refine Ev.ifn he ((Ev.now _).eq ?_)
        exact (decide_eq_false (fun e => he (List.cons.inj e).1)).symm
  have := loop _ 0 (by omega) rfl
  simpa using this
theorem ints_is (a b : List Int) (h : a.length ≤ 1000) : Ev (fun k => clavigerplain_Ints.f k a b) (decide (a = b)) := by
  refine Ev.congr (fun k => by rw [clavigerplain_Ints.f]) ?_
  by_cases hl : a.length = b.length
  case neg =>
    refine Ev.ifn (by omega) ((Ev.now _).eq ?_)
    rw [decide_eq_false (fun e => hl (by rw [e]))]
  refine Ev.ifp (by omega) ?_
  have loop : ∀ d i : Nat, i ≤ a.length → a.length - i = d → Ev (fun k => clavigerplain_Ints.l0 k a b (i : Int)) (decide (a.drop i = b.drop i)) := by
    intro d
    induction d with
    | zero =>
      intro i hi hd
      refine Ev.step (fun k => by rw [clavigerplain_Ints.l0]) ?_
      refine Ev.ifn (by omega) ((Ev.now _).eq ?_)
      rw [List.drop_eq_nil_of_le (by omega), List.drop_eq_nil_of_le (by omega), decide_eq_true rfl]
    | succ d ih =>
      intro i hi hd
      refine Ev.step (fun k => by rw [clavigerplain_Ints.l0]) ?_
      rw [w64 (by omega) (by omega)]
      refine Ev.ifp (by omega) (Ev.ifp (by omega) (Ev.ifp (by omega) ?_))
      have ha : i < a.length := by omega
      have hb : i < b.length := by omega
      rw [rd_get i ha, rd_get i hb, List.drop_eq_getElem_cons ha, List.drop_eq_getElem_cons hb]
      by_cases he : a[i] = b[i]
      · refine Ev.ifp he ((ih (i + 1) (by omega) (by omega)).eq ?_)
        rw [he]
        simp only [List.cons.injEq, true_and]
      · refine Ev.ifn he ((Ev.now _).eq ?_)
        exact (decide_eq_false (fun e => he (List.cons.inj e).1)).symm
  have := loop _ 0 (by omega) rfl
  simpa using this
theorem cA_len : ∀ i, i < 4 → (cA i).length ≤ 1000 := by
  intro i h
  have : i = 0 ∨ i = 1 ∨ i = 2 ∨ i = 3 := by omega
  rcases this with rfl | rfl | rfl | rfl <;> decide
theorem ref22_by_is (l : List Int) : Ev (fun k => clavigerref22_By.f k l) (ofC fun i => decide (cA i = l)) := by
  have step : ∀ (i : Nat) (r : Int × Bool), i < 4 → Ev (fun k => clavigerref22_By.l0 k l ((i : Int) + 2)) r → Ev (fun k => clavigerref22_By.l0 k l ((i : Int) + 1)) (if decide (cA i = l) = true then ((i : Int) + 1, true) else r) := by
    intro i r hi h
    refine Ev.step (fun k => by rw [clavigerref22_By.l0]) ?_
    rw [w64 (by omega) (by omega), show (i : Int) + 1 + 1 = (i : Int) + 2 by omega]
    refine Ev.ifp (by omega) (Ev.bindc (row4 i hi).2.2.2 (Ev.bind (same22_is (cA i) l (cA_len i hi)) ?_))
    by_cases he : decide (cA i = l) = true
    · rw [if_pos he]; exact Ev.ifp he (Ev.now _)
    · rw [if_neg he]; exact Ev.ifn he h
  have last : Ev (fun k => clavigerref22_By.l0 k l (((3 : Nat) : Int) + 2)) (0, false) := by
    refine Ev.step (fun k => by rw [clavigerref22_By.l0]) ?_
    exact Ev.ifn (by decide) (Ev.now _)
  have h := step 0 _ (by decide) (step 1 _ (by decide) (step 2 _ (by decide) (step 3 _ (by decide) last)))
  refine Ev.congr (fun k => by rw [clavigerref22_By.f]) ?_
  exact h
theorem curve_of_is (n : Int) : curve_Of.f n = some (ofC fun i => decide (widths ((i : Int) + 1) = n)) := by
  unfold curve_Of.f
  rw [idx_four]
  refine congrArg some (ofC_congr fun i hi => ?_)
  rw [(row4 i hi).2.1]
  rfl
theorem ref22_of_is (n : Int) : Ev (fun k => clavigerref22_Of.f k n) (ofC fun i => decide (widths ((i : Int) + 1) = n)) := by
  have step : ∀ (i : Nat) (r : Int × Bool), i < 4 → Ev (fun k => clavigerref22_Of.l0 k n ((i : Int) + 2)) r → Ev (fun k => clavigerref22_Of.l0 k n ((i : Int) + 1)) (if decide (widths ((i : Int) + 1) = n) = true then ((i : Int) + 1, true) else r) := by
    intro i r hi h
    refine Ev.step (fun k => by rw [clavigerref22_Of.l0]) ?_
    rw [w64 (by omega) (by omega), show (i : Int) + 1 + 1 = (i : Int) + 2 by omega]
    refine Ev.ifp (by omega) (Ev.bindc (ref_width _) ?_)
    by_cases he : decide (widths ((i : Int) + 1) = n) = true
    · rw [if_pos he]; exact Ev.ifp (of_decide_eq_true he) (Ev.now _)
    · rw [if_neg he]; exact Ev.ifn (fun e => he (decide_eq_true e)) h
  have last : Ev (fun k => clavigerref22_Of.l0 k n (((3 : Nat) : Int) + 2)) (0, false) := by
    refine Ev.step (fun k => by rw [clavigerref22_Of.l0]) ?_
    exact Ev.ifn (by decide) (Ev.now _)
  have h := step 0 _ (by decide) (step 1 _ (by decide) (step 2 _ (by decide) (step 3 _ (by decide) last)))
  refine Ev.congr (fun k => by rw [clavigerref22_Of.f]) ?_
  exact h
theorem line_out {c : Int} (h : ¬ (1 ≤ c ∧ c ≤ 4)) : curve_line.f c = some ((⟨#[]⟩ : ByteArray), (⟨#[]⟩ : ByteArray), (⟨#[]⟩ : ByteArray), 0) := by
  unfold curve_line.f
  rw [if_neg (by omega), if_neg (by omega), if_neg (by omega), if_neg (by omega)]
theorem four {c : Int} (h : 1 ≤ c ∧ c ≤ 4) : c = 1 ∨ c = 2 ∨ c = 3 ∨ c = 4 := by omega
theorem c_name (c : Int) : ∃ v, curve_Name.f c = some v ∧ clavigerref22_Name.f c = some v := by
  by_cases h : 1 ≤ c ∧ c ≤ 4
  · rcases four h with rfl | rfl | rfl | rfl <;> exact ⟨_, rfl, rfl⟩
  · refine ⟨⟨#[]⟩, by unfold curve_Name.f; rw [line_out h]; rfl, ?_⟩
    unfold clavigerref22_Name.f
    rw [if_neg (by omega), if_neg (by omega), if_neg (by omega), if_neg (by omega)]
theorem c_width (c : Int) : curve_Width.f c = some (widths c) := by
  obtain ⟨a, b, o, h⟩ := line_width c
  unfold curve_Width.f
  rw [h]
  rfl
theorem c_arcs (c : Int) : ∃ l : List Int, l.length ≤ 1000 ∧ Ev (fun k => curve_Arcs.f k c) l ∧ clavigerref22_Arcs.f c = some l := by
  by_cases h : 1 ≤ c ∧ c ≤ 4
  · rcases four h with rfl | rfl | rfl | rfl
    · exact ⟨cA 0, by decide, Ev.of (curve_Arcs.mono 1) (k := 60) (by decide +kernel), rfl⟩
    · exact ⟨cA 1, by decide, Ev.of (curve_Arcs.mono 2) (k := 60) (by decide +kernel), rfl⟩
    · exact ⟨cA 2, by decide, Ev.of (curve_Arcs.mono 3) (k := 60) (by decide +kernel), rfl⟩
    · exact ⟨cA 3, by decide, Ev.of (curve_Arcs.mono 4) (k := 60) (by decide +kernel), rfl⟩
  · refine ⟨[], by decide, ?_, ?_⟩
    · refine Ev.congr (fun k => by rw [curve_Arcs.f]) ?_
      refine Ev.bindc (line_out h) ?_
      refine Ev.bind (a := (([] : List Int), false)) (Ev.of (oid_Parse.mono _) (k := 20) (by kernel_rfl)) ?_
      exact Ev.now _
    · unfold clavigerref22_Arcs.f
      rw [if_neg (by omega), if_neg (by omega), if_neg (by omega), if_neg (by omega)]
theorem c_order (c : Int) : ∃ v, Ev (fun k => curve_Order.f k c) v ∧ Ev (fun k => clavigerref22_Order.f k c) v := by
  by_cases h : 1 ≤ c ∧ c ≤ 4
  · exact ⟨ordF c, order_isP h.1 h.2, order_isR h.1 h.2⟩
  · refine ⟨⟨#[]⟩, ?_, ?_⟩
    · refine Ev.congr (fun k => by rw [curve_Order.f]) ?_
      refine Ev.bindc (line_out h) ?_
      refine Ev.bind (a := ((⟨#[]⟩ : ByteArray), true)) (Ev.of (digits_Unhex.mono _) (k := 20) (by kernel_rfl)) ?_
      exact Ev.now _
    · refine Ev.congr (fun k => by rw [clavigerref22_Order.f]) ?_
      refine Ev.ifn (by omega) (Ev.ifn (by omega) (Ev.ifn (by omega) (Ev.ifn (by omega) ?_)))
      refine Ev.bind (a := ((⟨#[]⟩ : ByteArray), true)) (Ev.of (clavigerref02_Unhex.mono _) (k := 20) (by kernel_rfl)) ?_
      exact Ev.now _
theorem awake22 : Ev (fun k => clavigerlaw22_awake.f k) true := Ev.of clavigerlaw22_awake.mono (k := 200) (by decide +kernel)
theorem CurveTells : clavigerlaw22_CurveTells.Pure := by
  intro a0 l1 a2 a3 _ h1 _ hw1 _ h3
  apply Ev.rounds
  have hbig : Ev (fun k => clavigerlaw22_CurveTells.j0 k a0 l1 a2 a3 true) true := by
    refine Ev.step (fun k => by rw [clavigerlaw22_CurveTells.j0]) ?_
    exact Ev.ifp rfl (Ev.bind awake22 (Ev.now _))
  refine Ev.congr (fun k => by rw [clavigerlaw22_CurveTells.f]) ?_
  by_cases g1 : (l1.length : Int) > 60
  · exact Ev.ifp g1 hbig
  refine Ev.ifn g1 ?_
  by_cases g3 : (a3.size : Int) > 200
  · rw [decide_eq_true g3]; exact hbig
  rw [decide_eq_false g3]
  obtain ⟨nm, n1, n2⟩ := c_name a0
  obtain ⟨la, hla, a1, a2'⟩ := c_arcs a0
  obtain ⟨o, o1, o2⟩ := c_order a0
  refine Ev.step (fun k => by rw [clavigerlaw22_CurveTells.j0]) ?_
  refine Ev.ifn (by simp) (Ev.bind (curve_by_is l1 (by omega)) (Ev.bind (ref22_by_is l1) (Ev.bindc (curve_of_is a2) (Ev.bind (ref22_of_is a2) ?_))))
  refine Ev.bindc n1 (Ev.bindc n2 (Ev.ifp rfl (Ev.bindc (c_width a0) (Ev.bindc (ref_width a0) (Ev.ifp rfl ?_)))))
  refine Ev.bind a1 (Ev.bindc a2' (Ev.bind (ints_is la la hla) (Ev.ifp (by simp) (Ev.bind o1 (Ev.bind o2 (Ev.ifp rfl ?_))))))
  refine Ev.ifp rfl (Ev.ifp (by simp) (Ev.ifp rfl (Ev.ifp (by simp) ?_)))
  refine Ev.bind (scalar_isP a0 a3 (by omega)) (Ev.bind (scalar_isR a0 a3 (by omega)) (Ev.ifp (by simp) ?_))
  exact Ev.bind awake22 (Ev.now _)
end Go.Proofs.YtlmldmeclgfoeaaGreatDoor.Pure
