/- Whatever the number, the arcs (up to 60), the curve, the size and the letter (up to 100 bytes): what there is to say of any kind is as the document says (P23.1). -/
import Derived.Test.YtleimmhpcomapaaGreatDoorPKindTellsx
namespace Go.Proofs.YtleimmhpcomapaaGreatDoor.Pure
open Go.RowKit Go.Proofs.YtleimmhpcomapaaGreatDoor.PKindTells Go.Proofs.YtleimmhpcomapaaGreatDoorW.PrintWords Go.Proofs.YtleimmhpcomapaaGreatDoorW.PrintLast
set_option linter.unusedVariables false
set_option linter.unusedSimpArgs false
/-- The number of bytes. -/
def getN (l : List Int) : Int := l.foldl (fun n b => n * 256 + b) 0
theorem getN_snoc (l : List Int) (x : Int) : getN (l ++ [x]) = getN l * 256 + x := by simp [getN]
theorem getN_take {l : List Int} (i : Nat) (h : i < l.length) : getN (l.take (i + 1)) = getN (l.take i) * 256 + l[i] := by
  rw [List.take_succ_eq_append_getElem h, getN_snoc]
theorem getN_bd (n : Nat) : ∀ l : List Int, OkB l → l.length ≤ n → 0 ≤ getN l ∧ getN l < 256 ^ n := by
  induction n with
  | zero => intro l h hn; obtain rfl := List.eq_nil_of_length_eq_zero (Nat.le_zero.1 hn); simp [getN]
  | succ n ih =>
    intro l h hn
    have hp : (0 : Int) < 256 ^ n := Int.pow_pos (by decide)
    by_cases e : l = []
    · subst e
      rw [Int.pow_succ]
      simp only [getN, List.foldl_nil]
      omega
    · obtain ⟨m, x, rfl⟩ : ∃ m x, l = m ++ [x] := ⟨l.dropLast, l.getLast e, (List.dropLast_concat_getLast e).symm⟩
      have h1 := ih m (fun y hy => h y (List.mem_append_left _ hy)) (by simp at hn; omega)
      have h2 := h x (by simp)
      rw [getN_snoc, Int.pow_succ]
      omega
theorem getN_lt7 (l : List Int) (h : OkB l) (hn : l.length ≤ 7) : 0 ≤ getN l ∧ getN l < 72057594037927936 := getN_bd 7 l h hn
theorem join_nil (xs : List (List UInt8)) : Lib.join xs [] = xs.flatten := by
  unfold Lib.join List.intercalate
  induction xs with
  | nil => rfl
  | cons x xs ih =>
    cases xs with
    | nil => rfl
    | cons y ys => simp only [List.intersperse_cons_cons, List.flatten_cons, List.nil_append]; rw [ih]; simp
def okArc (x : Int) : Bool := decide (0 ≤ x ∧ x ≤ 2147483647)
def rightA : List Int → Bool
  | a :: b :: r => decide (r.length ≤ 18) && (decide (0 ≤ a ∧ a ≤ 2) && (decide (0 ≤ b ∧ b ≤ if a < 2 then 39 else 2147483567) && r.all okArc))
  | _ => false
theorem oid_right_loop (l : List Int) (h2 : 2 ≤ l.length) (hs : l.length ≤ 1000) (d : Nat) : ∀ i : Nat, 2 ≤ i → i ≤ l.length → l.length - i = d →
    Ev (fun k => oid_Right.l0 k l l (l.length : Int) (i : Int)) ((l.drop i).all okArc) := by
  induction d with
  | zero =>
    intro i _ hi hd
    refine Ev.step (fun k => by rw [oid_Right.l0]) ?_
    refine Ev.ifn (by omega) ?_
    rw [List.drop_eq_nil_of_le (by omega)]
    exact Ev.now _
  | succ d ih =>
    intro i hi2 hi hd
    have hlt : i < l.length := by omega
    refine Ev.step (fun k => by rw [oid_Right.l0]) ?_
    refine Ev.ifp (by omega) ?_
    refine Ev.ifp (by omega) ?_
    refine Ev.ifp (by omega) ?_
    rw [rd_get i hlt, List.drop_eq_getElem_cons hlt, List.all_cons]
    by_cases h0 : l[i] < 0
    · refine Ev.ifp h0 ((Ev.now _).eq ?_)
      have : okArc l[i] = false := decide_eq_false (by omega)
      rw [this, Bool.false_and]
    refine Ev.ifn h0 ?_
    refine Ev.bindc (a := 2147483647) (by unfold oid_most.f; rw [if_neg (by omega), if_pos (by omega)]) ?_
    by_cases h1 : l[i] > 2147483647
    · refine Ev.ifp h1 ((Ev.now _).eq ?_)
      have : okArc l[i] = false := decide_eq_false (by omega)
      rw [this, Bool.false_and]
    · refine Ev.ifn h1 ?_
      have : okArc l[i] = true := decide_eq_true (by omega)
      rw [this, Bool.true_and, w64 (by omega) (by omega)]
      exact ih (i + 1) (by omega) (by omega) (by omega)
theorem oid_right_is (l : List Int) (hs : l.length ≤ 1000000) : Ev (fun k => oid_Right.f k l) (rightA l) := by
  have hno : Ev (fun k => oid_Right.j0 k l true) false := by
    refine Ev.step (fun k => by rw [oid_Right.j0]) ?_
    exact Ev.ifp rfl (Ev.now _)
  refine Ev.congr (fun k => by rw [oid_Right.f]) ?_
  match l, hno with
  | [], hno => exact Ev.ifp (by decide) hno
  | [a], hno => exact Ev.ifp (by simp) hno
  | a :: b :: r, hno =>
    refine Ev.ifn (by simp <;> omega) ?_
    by_cases h20 : r.length ≤ 18
    · rw [decide_eq_false (by simp <;> omega)]
      refine Ev.step (fun k => by rw [oid_Right.j0]) ?_
      refine Ev.ifn (by simp) ?_
      have hlen : (a :: b :: r).length = r.length + 2 := rfl
      rw [rightA, decide_eq_true h20, Bool.true_and]
      have hl := oid_right_loop (a :: b :: r) (by omega) (by omega) _ 2 (by omega) (by omega) rfl
      refine Ev.step (fun k => by rw [oid_Right.l0]) ?_
      refine Ev.ifp (by omega) ?_
      refine Ev.ifp (by omega) ?_
      refine Ev.ifp (by omega) ?_
      rw [show rd (a :: b :: r) 0 = a from rfl]
      by_cases ha : a < 0
      · refine Ev.ifp ha ((Ev.now _).eq ?_)
        rw [decide_eq_false (show ¬ (0 ≤ a ∧ a ≤ 2) by omega), Bool.false_and]
      refine Ev.ifn ha ?_
      refine Ev.bindc (a := 2) (by unfold oid_most.f; rw [if_pos rfl]) ?_
      by_cases ha2 : a > 2
      · refine Ev.ifp ha2 ((Ev.now _).eq ?_)
        rw [decide_eq_false (show ¬ (0 ≤ a ∧ a ≤ 2) by omega), Bool.false_and]
      refine Ev.ifn ha2 ?_
      rw [decide_eq_true (show 0 ≤ a ∧ a ≤ 2 by omega), Bool.true_and, show wrap64 (0 + 1) = 1 from w64 (by decide) (by decide)]
      refine Ev.step (fun k => by rw [oid_Right.l0]) ?_
      refine Ev.ifp (by omega) ?_
      refine Ev.ifp (by omega) ?_
      refine Ev.ifp (by omega) ?_
      rw [show rd (a :: b :: r) 1 = b from rfl]
      by_cases hb : b < 0
      · refine Ev.ifp hb ((Ev.now _).eq ?_)
        rw [decide_eq_false (show ¬ (0 ≤ b ∧ b ≤ if a < 2 then 39 else 2147483567) by omega), Bool.false_and]
      refine Ev.ifn hb ?_
      refine Ev.bindc (a := if a < 2 then 39 else 2147483567) (by
        unfold oid_most.f
        rw [if_neg (by decide), if_neg (by decide), if_pos (by omega), show rd (a :: b :: r) 0 = a from rfl]
        split <;> rfl) ?_
      by_cases hb2 : b > if a < 2 then 39 else 2147483567
      · refine Ev.ifp hb2 ((Ev.now _).eq ?_)
        rw [decide_eq_false (show ¬ (0 ≤ b ∧ b ≤ if a < 2 then 39 else 2147483567) by omega), Bool.false_and]
      refine Ev.ifn hb2 ?_
      rw [decide_eq_true (show 0 ≤ b ∧ b ≤ if a < 2 then 39 else 2147483567 by omega), Bool.true_and, show wrap64 (1 + 1) = 2 from w64 (by decide) (by decide)]
      exact hl
    · rw [decide_eq_true (by simp <;> omega)]
      refine hno.eq ?_
      rw [rightA, decide_eq_false h20, Bool.false_and]
theorem right_parts {arcs : List Int} (h : rightA arcs = true) : ∃ a b r, arcs = a :: b :: r ∧ r.length ≤ 18 ∧ 0 ≤ a ∧ a ≤ 2 ∧ 0 ≤ b ∧ (a < 2 → b ≤ 39) ∧ b ≤ 2147483567 ∧ ∀ x ∈ r, 0 ≤ x ∧ x ≤ 2147483647 := by
  match arcs, h with
  | [], h => simp [rightA] at h
  | [a], h => simp [rightA] at h
  | a :: b :: r, h =>
    rw [rightA] at h
    simp only [Bool.and_eq_true, decide_eq_true_eq, List.all_eq_true] at h
    obtain ⟨h1, h2, h3, h4⟩ := h
    refine ⟨a, b, r, rfl, h1, h2.1, h2.2, h3.1, fun h => by have := h3.2; rw [if_pos h] at this; exact this, by have := h3.2; split at this <;> omega, fun x hx => of_decide_eq_true (h4 x hx)⟩
theorem ref17_right_loop (l : List Int) (h2 : 2 ≤ l.length) (hs : l.length ≤ 1000) (d : Nat) : ∀ i : Nat, 2 ≤ i → i ≤ l.length → l.length - i = d →
    Ev (fun k => clavigerref17_Right.l0 k l (i : Int)) ((l.drop i).all okArc) := by
  induction d with
  | zero =>
    intro i _ hi hd
    refine Ev.step (fun k => by rw [clavigerref17_Right.l0]) ?_
    refine Ev.ifn (by omega) ?_
    rw [List.drop_eq_nil_of_le (by omega)]
    exact Ev.now _
  | succ d ih =>
    intro i hi2 hi hd
    have hlt : i < l.length := by omega
    refine Ev.step (fun k => by rw [clavigerref17_Right.l0]) ?_
    refine Ev.ifp (by omega) ?_
    refine Ev.ifn (by omega) ?_
    refine Ev.ifp (by omega) ?_
    rw [rd_get i hlt, List.drop_eq_getElem_cons hlt, List.all_cons]
    by_cases h0 : l[i] < 0
    · refine Ev.ifp h0 ((Ev.now _).eq ?_)
      have : okArc l[i] = false := decide_eq_false (by omega)
      rw [this, Bool.false_and]
    refine Ev.ifn h0 ?_
    by_cases h1 : l[i] > 2147483647
    · refine Ev.ifp h1 ((Ev.now _).eq ?_)
      have : okArc l[i] = false := decide_eq_false (by omega)
      rw [this, Bool.false_and]
    · refine Ev.ifn h1 ?_
      have : okArc l[i] = true := decide_eq_true (by omega)
      rw [this, Bool.true_and, w64 (by omega) (by omega)]
      exact ih (i + 1) (by omega) (by omega) (by omega)
theorem ref17_right_is (l : List Int) (hs : l.length ≤ 1000000) : Ev (fun k => clavigerref17_Right.f k l) (rightA l) := by
  have hno : Ev (fun k => clavigerref17_Right.j0 k l true) false := by
    refine Ev.step (fun k => by rw [clavigerref17_Right.j0]) ?_
    exact Ev.ifp rfl (Ev.now _)
  refine Ev.congr (fun k => by rw [clavigerref17_Right.f]) ?_
  match l, hno with
  | [], hno => exact Ev.ifp (by decide) hno
  | [a], hno => exact Ev.ifp (by simp) hno
  | a :: b :: r, hno =>
    refine Ev.ifn (by simp <;> omega) ?_
    by_cases h20 : r.length ≤ 18
    · refine Ev.ifn (by simp <;> omega) ?_
      have hlen : (a :: b :: r).length = r.length + 2 := rfl
      rw [rightA, decide_eq_true h20, Bool.true_and]
      have hl := ref17_right_loop (a :: b :: r) (by omega) (by omega) _ 2 (by omega) (by omega) rfl
      refine Ev.ifp (by omega) ?_
      rw [show rd (a :: b :: r) 0 = a from rfl]
      by_cases ha : a < 0
      · refine Ev.ifp ha (hno.eq ?_)
        rw [decide_eq_false (show ¬ (0 ≤ a ∧ a ≤ 2) by omega), Bool.false_and]
      refine Ev.ifn ha ?_
      by_cases ha2 : a > 2
      · rw [decide_eq_true ha2]
        refine hno.eq ?_
        rw [decide_eq_false (show ¬ (0 ≤ a ∧ a ≤ 2) by omega), Bool.false_and]
      rw [decide_eq_false ha2, decide_eq_true (show 0 ≤ a ∧ a ≤ 2 by omega), Bool.true_and]
      refine Ev.step (fun k => by rw [clavigerref17_Right.j0]) ?_
      refine Ev.ifn (by simp) ?_
      refine Ev.step (fun k => by rw [clavigerref17_Right.l0]) ?_
      refine Ev.ifp (by omega) ?_
      refine Ev.ifp rfl ?_
      refine Ev.ifp (by omega) ?_
      rw [show rd (a :: b :: r) 1 = b from rfl, show rd (a :: b :: r) 0 = a from rfl]
      by_cases h2 : a < 2
      · refine Ev.ifp h2 ?_
        refine Ev.ifp (by decide) ?_
        rw [if_pos h2]
        by_cases hb : b < 0
        · refine Ev.ifp hb ((Ev.now _).eq ?_)
          rw [decide_eq_false (show ¬ (0 ≤ b ∧ b ≤ 39) by omega), Bool.false_and]
        refine Ev.ifn hb ?_
        by_cases hb2 : b > 39
        · refine Ev.ifp hb2 ((Ev.now _).eq ?_)
          rw [decide_eq_false (show ¬ (0 ≤ b ∧ b ≤ 39) by omega), Bool.false_and]
        refine Ev.ifn hb2 ?_
        rw [decide_eq_true (show 0 ≤ b ∧ b ≤ 39 by omega), Bool.true_and, show wrap64 (1 + 1) = 2 from w64 (by decide) (by decide)]
        exact hl
      · refine Ev.ifn h2 ?_
        refine Ev.ifp (by decide) ?_
        rw [if_neg h2]
        by_cases hb : b < 0
        · refine Ev.ifp hb ((Ev.now _).eq ?_)
          rw [decide_eq_false (show ¬ (0 ≤ b ∧ b ≤ 2147483567) by omega), Bool.false_and]
        refine Ev.ifn hb ?_
        by_cases hb2 : b > 2147483567
        · refine Ev.ifp hb2 ((Ev.now _).eq ?_)
          rw [decide_eq_false (show ¬ (0 ≤ b ∧ b ≤ 2147483567) by omega), Bool.false_and]
        refine Ev.ifn hb2 ?_
        rw [decide_eq_true (show 0 ≤ b ∧ b ≤ 2147483567 by omega), Bool.true_and, show wrap64 (1 + 1) = 2 from w64 (by decide) (by decide)]
        exact hl
    · refine Ev.ifp (by simp <;> omega) ?_
      refine hno.eq ?_
      rw [rightA, decide_eq_false h20, Bool.false_and]
/-- A number's text, as numbers. -/
def num (v : Int) : List Int := (Lib.itoa v).map fun b => (b.toNat : Int)
def dec (u : Nat) : List Int := (Lib.decDigits u).map fun b => (b.toNat : Int)
theorem str_of_bytes (l : List UInt8) : (⟨l.toArray⟩ : ByteArray) = strOfNums (l.map fun b => (b.toNat : Int)) := by
  have := strOfNums_bytesOf ⟨l.toArray⟩
  unfold bytesOf at this
  exact this.symm
theorem num_str (v : Int) : (⟨(Lib.itoa v).toArray⟩ : ByteArray) = strOfNums (num v) := str_of_bytes _
theorem dec_lt {u : Nat} (h : u < 10) : dec u = [48 + (u : Int)] := by
  unfold dec
  rw [Lib.decDigits, dif_pos h]
  simp [UInt8.toNat_ofNat']
  omega
theorem dec_ge {u : Nat} (h : ¬ u < 10) : dec u = dec (u / 10) ++ [48 + ((u % 10 : Nat) : Int)] := by
  unfold dec
  rw [Lib.decDigits, dif_neg h, List.map_append]
  simp [UInt8.toNat_ofNat']
  omega
theorem num_pos {v : Int} (h : 0 ≤ v) : num v = dec v.toNat := by unfold num dec Lib.itoa; rw [if_neg (by omega)]
theorem num_neg {v : Int} (h : v < 0) : num v = 45 :: dec v.natAbs := by unfold num dec Lib.itoa; rw [if_pos h]; rfl
theorem dec_digit : ∀ (u : Nat), ∀ x ∈ dec u, 48 ≤ x ∧ x ≤ 57 := by
  intro u
  induction u using Nat.strongRecOn with
  | ind u ih =>
    by_cases h : u < 10
    · rw [dec_lt h]
      intro x hx
      rw [List.mem_singleton] at hx
      omega
    · rw [dec_ge h]
      intro x hx
      rcases List.mem_append.1 hx with h1 | h1
      · exact ih (u / 10) (by omega) x h1
      · rw [List.mem_singleton] at h1
        omega
theorem dec_ok (u : Nat) : OkB (dec u) := fun x hx => by have := dec_digit u x hx; omega
theorem dec_ne (u : Nat) : dec u ≠ [] := by
  by_cases h : u < 10
  · rw [dec_lt h]; simp
  · rw [dec_ge h]; simp
theorem dec_len : ∀ (k u : Nat), 1 ≤ k → u < 10 ^ k → (dec u).length ≤ k
  | 0, _, h, _ => by omega
  | k + 1, u, _, h => by
    by_cases h0 : u < 10
    · rw [dec_lt h0]; simp
    · rw [dec_ge h0, List.length_append]
      rw [Nat.pow_succ] at h
      have hk : 1 ≤ k := by
        rcases Nat.eq_zero_or_pos k with rfl | hk
        · simp at h; omega
        · exact hk
      have := dec_len k (u / 10) hk (by omega)
      simp
      omega
theorem num_ok (v : Int) : OkB (num v) := by
  by_cases h : 0 ≤ v
  · rw [num_pos h]; exact dec_ok _
  · rw [num_neg (by omega)]; exact OkB.cons (by omega) (by omega) (dec_ok _)
theorem num_len (v : Int) (h0 : -9223372036854775808 ≤ v) (h1 : v ≤ 9223372036854775807) : (num v).length ≤ 20 ∧ 1 ≤ (num v).length := by
  have hne := dec_ne
  by_cases h : 0 ≤ v
  · rw [num_pos h]
    have := dec_len 19 v.toNat (by omega) (by omega)
    have := List.length_pos_iff.2 (hne v.toNat)
    omega
  · rw [num_neg (by omega), List.length_cons]
    have := dec_len 19 v.natAbs (by omega) (by omega)
    omega
theorem num_no46 (v : Int) : ∀ x ∈ num v, x ≠ 46 := by
  intro x hx
  by_cases h : 0 ≤ v
  · rw [num_pos h] at hx
    have := dec_digit _ x hx
    omega
  · rw [num_neg (by omega)] at hx
    rcases List.mem_cons.1 hx with rfl | hx
    · decide
    · have := dec_digit _ x hx
      omega
theorem signs_at (d : Nat) (h : d < 10) : (⟨#[48, 49, 50, 51, 52, 53, 54, 55, 56, 57, 65, 66, 67, 68, 69, 70]⟩ : ByteArray).extract d (d + 1) = strOfNums [48 + (d : Int)] := by
  have : ((List.range 10).all fun d => decide (((⟨#[48, 49, 50, 51, 52, 53, 54, 55, 56, 57, 65, 66, 67, 68, 69, 70]⟩ : ByteArray).extract d (d + 1)).data = (strOfNums [48 + (d : Int)]).data)) = true := by decide +kernel
  have := List.all_eq_true.1 this d (List.mem_range.2 h)
  have := of_decide_eq_true this
  exact ByteArray.ext this
theorem plain_loop (u : Nat) (hu : u ≤ 9223372036854775807) : ∀ (s : List Int), s.length + (dec u).length ≤ 1000 → (0 < u ∨ s = []) → Ev (fun k => clavigerref02_plain.l0 k (u : Int) (strOfNums s)) (strOfNums (dec u ++ s)) := by
  induction u using Nat.strongRecOn with
  | ind u ih =>
    intro s hs hor
    have hend : ∀ (s : List Int), s ≠ [] → Ev (fun k => clavigerref02_plain.l0 k (0 : Int) (strOfNums s)) (strOfNums s) := fun s hne => by
      refine Ev.step (fun k => by rw [clavigerref02_plain.l0]) ?_
      refine Ev.ifn (by omega) ?_
      exact Ev.ifn (fun e => hne ((nums_toList_nil s).1 e)) (Ev.now _)
    have hm : Int.tmod (u : Int) 10 = ((u % 10 : Nat) : Int) := by rw [Int.tmod_eq_emod_of_nonneg (by omega)]; omega
    have hd : Int.tdiv (u : Int) 10 = ((u / 10 : Nat) : Int) := by rw [Int.tdiv_eq_ediv_of_nonneg (by omega)]; omega
    have hw1 : wrap64 (((u % 10 : Nat) : Int) + 1) = ((u % 10 + 1 : Nat) : Int) := by rw [w64 (by omega) (by omega)]; omega
    have hstep : Ev (fun k => clavigerref02_plain.l0 k ((u / 10 : Nat) : Int) (strOfNums ((48 + ((u % 10 : Nat) : Int)) :: s))) (strOfNums (dec u ++ s)) := by
      by_cases h10 : u < 10
      · rw [show u / 10 = 0 by omega, dec_lt h10, show u % 10 = u by omega]
        exact hend _ (by simp)
      · have := ih (u / 10) (by omega) (by omega) ((48 + ((u % 10 : Nat) : Int)) :: s) (by have e := congrArg List.length (dec_ge h10); rw [List.length_append] at e; simp at e ⊢; omega) (Or.inl (by omega))
        rw [dec_ge h10, List.append_assoc]
        exact this
    refine Ev.step (fun k => by rw [clavigerref02_plain.l0]) ?_
    rw [hm, hd, hw1, w64 (x := ((u / 10 : Nat) : Int)) (by omega) (by omega), Int.toNat_natCast, Int.toNat_natCast, signs_at _ (Nat.mod_lt _ (by decide)), str_append]
    by_cases h0 : 0 < u
    · refine Ev.ifp (by omega) (Ev.ifp (by omega) (Ev.ifp (by omega) (Ev.ifp (by omega) (Ev.ifp (by rw [strOfNums_size, strOfNums_size]; simp; omega) ?_))))
      exact hstep
    · obtain rfl : s = [] := hor.resolve_left h0
      refine Ev.ifn (by omega) (Ev.ifp ((nums_toList_nil []).2 rfl) (Ev.ifp (by omega) (Ev.ifp (by omega) (Ev.ifp (by omega) (Ev.ifp (by rw [strOfNums_size, strOfNums_size]; simp) ?_)))))
      exact hstep
theorem plain_is (u : Nat) (hu : u ≤ 9223372036854775807) : Ev (fun k => clavigerref02_plain.f k (u : Int)) (strOfNums (dec u)) := by
  refine Ev.congr (fun k => by rw [clavigerref02_plain.f]) ?_
  have := plain_loop u hu [] (by have := dec_len 19 u (by omega) (by omega); simp; omega) (Or.inr rfl)
  rw [List.append_nil] at this
  exact this
theorem ref02_num_is (v : Int) (h0 : -9223372036854775808 ≤ v) (h1 : v ≤ 9223372036854775807) : Ev (fun k => clavigerref02_Num.f k v) (strOfNums (num v)) := by
  refine Ev.congr (fun k => by rw [clavigerref02_Num.f]) ?_
  by_cases hv : 0 ≤ v
  · refine Ev.ifp hv ?_
    have := plain_is v.toNat (by omega)
    rw [Int.toNat_of_nonneg hv] at this
    refine Ev.bind this ((Ev.now _).eq ?_)
    rw [num_pos hv]
  refine Ev.ifn hv ?_
  have hm : Int.tmod v 10 = -((v.natAbs % 10 : Nat) : Int) := by
    obtain ⟨u, rfl⟩ : ∃ u : Nat, v = -(u : Int) := ⟨v.natAbs, by omega⟩
    rw [Int.neg_tmod, Int.tmod_eq_emod_of_nonneg (by omega)]
    omega
  have hd : Int.tdiv v 10 = -((v.natAbs / 10 : Nat) : Int) := by
    obtain ⟨u, rfl⟩ : ∃ u : Nat, v = -(u : Int) := ⟨v.natAbs, by omega⟩
    rw [Int.neg_tdiv, Int.tdiv_eq_ediv_of_nonneg (by omega)]
    omega
  rw [hm, hd, w64 (x := -((v.natAbs / 10 : Nat) : Int)) (by omega) (by omega), Int.neg_neg, Int.neg_neg, w64 (by omega) (by omega), w64 (by omega) (by omega)]
  have hl := plain_is (v.natAbs % 10) (by omega)
  have hlen := dec_len 19 (v.natAbs % 10) (by omega) (by omega)
  rw [num_neg (by omega), show (⟨#[45]⟩ : ByteArray) = strOfNums [45] from rfl]
  by_cases hz : v.natAbs / 10 = 0
  · refine Ev.ifp (by omega) (Ev.bind hl (Ev.ifp (by rw [strOfNums_size]; omega) ((Ev.now _).eq ?_)))
    rw [str_append, show v.natAbs % 10 = v.natAbs by omega]
    rfl
  · refine Ev.ifn (by omega) ?_
    have hr := plain_is (v.natAbs / 10) (by omega)
    have hlen2 := dec_len 19 (v.natAbs / 10) (by omega) (by omega)
    refine Ev.bind hr (Ev.ifp (by rw [strOfNums_size]; omega) (Ev.bind hl (Ev.ifp (by rw [str_append, strOfNums_size, strOfNums_size, List.length_append]; simp; omega) ((Ev.now _).eq ?_))))
    rw [str_append, str_append, dec_ge (show ¬ v.natAbs < 10 by omega), dec_lt (show v.natAbs % 10 < 10 by omega)]
    rfl
theorem parse_append : ∀ (a b : List UInt8) (acc : Nat), Lib.parseUint10 acc (a ++ b) = match Lib.parseUint10 acc a with
    | .ok m => Lib.parseUint10 m b
    | .syntax => .syntax
    | .range => .range
  | [], b, acc => rfl
  | c :: a, b, acc => by
    rw [List.cons_append, Lib.parseUint10, Lib.parseUint10]
    split
    · split
      · rfl
      · split
        · rfl
        · exact parse_append a b _
    · rfl
theorem parse_dec (u : Nat) (h : u < 18446744073709551616) : Lib.parseUint10 0 (Lib.decDigits u) = .ok u := by
  induction u using Nat.strongRecOn with
  | ind u ih =>
    have step : ∀ (m d : Nat), d < 10 → m * 10 + d < 18446744073709551616 → Lib.parseUint10 m [UInt8.ofNat (48 + d)] = .ok (m * 10 + d) := fun m d hd hm => by
      rw [Lib.parseUint10, show (UInt8.ofNat (48 + d)).toNat = 48 + d by simp [UInt8.toNat_ofNat']; omega, if_pos (by omega), if_neg (by omega), if_neg (by omega), Lib.parseUint10]
      congr 1
      omega
    rw [Lib.decDigits]
    by_cases h10 : u < 10
    · rw [dif_pos h10, step 0 u h10 (by omega)]
      congr 1
      omega
    · rw [dif_neg h10, parse_append, ih (u / 10) (by omega) (by omega)]
      simp only
      rw [step (u / 10) (u % 10) (by omega) (by omega)]
      congr 1
      omega
theorem decDigits_head (u : Nat) : ∃ c r, Lib.decDigits u = c :: r ∧ 48 ≤ c.toNat ∧ c.toNat ≤ 57 := by
  cases hd : Lib.decDigits u with
  | nil => have := Lib.decDigits_length u; rw [hd] at this; have := Lib.nDigits_pos u; simp at *; omega
  | cons c r =>
    have := dec_digit u (c.toNat : Int) (by unfold dec; rw [hd]; simp)
    exact ⟨c, r, rfl, by omega, by omega⟩
theorem atoi_itoa {v : Int} (h0 : -9223372036854775808 ≤ v) (h1 : v ≤ 9223372036854775807) : Lib.atoiAll (Lib.itoa v) = .ok v := by
  unfold Lib.itoa
  by_cases hv : v < 0
  · rw [if_pos hv, Lib.atoiAll_minus, Lib.parseMag]
    obtain ⟨c, r, e, _, _⟩ := decDigits_head v.natAbs
    rw [if_neg (by rw [e]; simp), parse_dec _ (by omega), Lib.signed, if_neg (by omega)]
    congr 1
    omega
  · rw [if_neg hv]
    obtain ⟨c, r, e, h2, h3⟩ := decDigits_head v.toNat
    rw [e, Lib.atoiAll_plain c r (by omega) (by omega), ← e, Lib.parseMag, if_neg (by rw [e]; simp), parse_dec _ (by omega), Lib.signless, if_neg (by omega)]
    congr 1
    omega
theorem unnum_num {v : Int} (h0 : -9223372036854775808 ≤ v) (h1 : v ≤ 9223372036854775807) : digits_Unnum.of (strOfNums (num v)) = (v, true) := by
  rw [← num_str]
  unfold digits_Unnum.of
  rw [show (⟨(Lib.itoa v).toArray⟩ : ByteArray).data.toList = Lib.itoa v from rfl, atoi_itoa h0 h1]
  simp
theorem unnum_sound {t : List Int} (ht : OkB t) {v : Int} (h : digits_Unnum.of (strOfNums t) = (v, true)) : t = num v ∧ -9223372036854775808 ≤ v ∧ v ≤ 9223372036854775807 := by
  unfold digits_Unnum.of at h
  cases ha : Lib.atoiAll (strOfNums t).data.toList with
  | ok u =>
    rw [ha] at h
    dsimp only at h
    by_cases he : (⟨(Lib.itoa u).toArray⟩ : ByteArray).toList = (strOfNums t).toList
    · rw [if_pos he] at h
      cases h
      rw [num_str] at he
      exact ⟨((nums_toList (num_ok _) ht).1 he).symm, Lib.atoiAll_bounds ha⟩
    · rw [if_neg he] at h; cases h
  | «syntax» => rw [ha] at h; cases h
  | range => rw [ha] at h; cases h
theorem unnum_no {t : ByteArray} (h : (digits_Unnum.of t).2 = false) : digits_Unnum.of t = (0, false) := by
  unfold digits_Unnum.of at h ⊢
  cases ha : Lib.atoiAll t.data.toList with
  | ok u =>
    rw [ha] at h
    dsimp only at h ⊢
    by_cases he : (⟨(Lib.itoa u).toArray⟩ : ByteArray).toList = t.toList
    · rw [if_pos he] at h; cases h
    · rw [if_neg he]
  | «syntax» => rfl
  | range => rfl
def valI (c : Int) : Int := if 48 ≤ c ∧ c ≤ 57 then c - 48 else if 65 ≤ c ∧ c ≤ 70 then c - 55 else -1
theorem ref02_value_is {c : Int} (h0 : 0 ≤ c) (h1 : c < 256) : Ev (fun k => clavigerref02_Value.f k c) (valI c) := by
  have h : ((List.range 256).all fun c => decide (clavigerref02_Value.f 20 (c : Int) = some (valI (c : Int)))) = true := by decide +kernel
  have := List.all_eq_true.1 h c.toNat (List.mem_range.2 (by omega))
  have := of_decide_eq_true this
  rw [Int.toNat_of_nonneg h0] at this
  exact Ev.of (fun k => clavigerref02_Value.mono c k) this
def runU (below : Bool) : Int → List Int → Option Int
  | n, [] => some n
  | n, c :: r => if 48 ≤ c ∧ c ≤ 57 then (if below = true then (if n < -((9223372036854775808 - (c - 48)) / 10) then none else runU below (10 * n - (c - 48)) r) else (if n > (9223372036854775807 - (c - 48)) / 10 then none else runU below (10 * n + (c - 48)) r)) else none
def finU (t : List Int) : Option Int → Int × Bool
  | none => (0, false)
  | some n => if num n = t then (n, true) else (0, false)
theorem ref02_unnum_loop (t : List Int) (ht : OkB t) (hs : t.length ≤ 1000) (below : Bool) (d : Nat) : ∀ (i : Nat) (n : Int), i ≤ t.length → t.length - i = d → (if below = true then -9223372036854775808 ≤ n ∧ n ≤ 0 else 0 ≤ n ∧ n ≤ 9223372036854775807) →
    Ev (fun k => clavigerref02_Unnum.l0 k (strOfNums t) below n (i : Int)) (finU t (runU below n (t.drop i))) := by
  induction d with
  | zero =>
    intro i n hi hd hn
    refine Ev.step (fun k => by rw [clavigerref02_Unnum.l0]) ?_
    rw [strOfNums_size]
    refine Ev.ifn (by omega) ?_
    have hb : -9223372036854775808 ≤ n ∧ n ≤ 9223372036854775807 := by split at hn <;> omega
    refine Ev.bind (ref02_num_is n hb.1 hb.2) ?_
    rw [List.drop_eq_nil_of_le (by omega), runU, finU]
    by_cases he : num n = t
    · rw [if_pos he, he]
      exact Ev.ifp rfl (Ev.now _)
    · rw [if_neg he]
      exact Ev.ifn (fun e => he ((nums_toList (num_ok _) ht).1 e)) (Ev.now _)
  | succ d ih =>
    intro i n hi hd hn
    have hlt : i < t.length := by omega
    have hc := ht.get i hlt
    refine Ev.step (fun k => by rw [clavigerref02_Unnum.l0]) ?_
    rw [strOfNums_size, nums_bt ht i hlt]
    refine Ev.ifp (by omega) (Ev.ifp (by omega) (Ev.bind (ref02_value_is hc.1 hc.2) ?_))
    rw [List.drop_eq_getElem_cons hlt, runU]
    have hj : Ev (fun k => clavigerref02_Unnum.j3 k (strOfNums t) below n (i : Int) (valI t[i]) true) (0, false) := by
      refine Ev.step (fun k => by rw [clavigerref02_Unnum.j3]) ?_
      exact Ev.ifp rfl (Ev.now _)
    by_cases hdig : 48 ≤ t[i] ∧ t[i] ≤ 57
    · have hv : valI t[i] = t[i] - 48 := by unfold valI; rw [if_pos hdig]
      rw [if_pos hdig]
      refine Ev.ifn (by omega) ?_
      rw [decide_eq_false (by omega)]
      refine Ev.step (fun k => by rw [clavigerref02_Unnum.j3]) ?_
      refine Ev.ifn (by decide) ?_
      rw [hv, w64 (x := ((i : Int) + 1)) (by omega) (by omega)]
      cases below with
      | true =>
        rw [if_pos rfl] at hn ⊢
        refine Ev.ifp rfl ?_
        have e : Int.tdiv (wrap64 (-9223372036854775808 + (t[i] - 48))) 10 = -((9223372036854775808 - (t[i] - 48)) / 10) := by
          rw [w64 (by omega) (by omega), show (-9223372036854775808 + (t[i] - 48)) = -(9223372036854775808 - (t[i] - 48)) by omega, Int.neg_tdiv, Int.tdiv_eq_ediv_of_nonneg (by omega)]
        rw [e, w64 (x := -((9223372036854775808 - (t[i] - 48)) / 10)) (by omega) (by omega)]
        by_cases ho : n < -((9223372036854775808 - (t[i] - 48)) / 10)
        · rw [if_pos ho]
          exact Ev.ifp ho (Ev.now _)
        · rw [if_neg ho]
          refine Ev.ifn ho ?_
          rw [w64 (x := 10 * n) (by omega) (by omega), w64 (x := 10 * n - (t[i] - 48)) (by omega) (by omega)]
          exact ih (i + 1) _ (by omega) (by omega) (by rw [if_pos rfl]; omega)
      | false =>
        rw [if_neg (by decide)] at hn ⊢
        refine Ev.ifn (by decide) ?_
        have e : Int.tdiv (wrap64 (9223372036854775807 - (t[i] - 48))) 10 = (9223372036854775807 - (t[i] - 48)) / 10 := by
          rw [w64 (by omega) (by omega), Int.tdiv_eq_ediv_of_nonneg (by omega)]
        rw [e, w64 (x := (9223372036854775807 - (t[i] - 48)) / 10) (by omega) (by omega)]
        by_cases ho : n > (9223372036854775807 - (t[i] - 48)) / 10
        · rw [if_pos ho]
          exact Ev.ifp ho (Ev.now _)
        · rw [if_neg ho]
          refine Ev.ifn ho ?_
          rw [w64 (x := 10 * n) (by omega) (by omega), w64 (x := 10 * n + (t[i] - 48)) (by omega) (by omega)]
          exact ih (i + 1) _ (by omega) (by omega) (by rw [if_neg (by decide)]; omega)
    · rw [if_neg hdig]
      have hv : valI t[i] < 0 ∨ valI t[i] > 9 := by unfold valI; rw [if_neg hdig]; split <;> omega
      by_cases hneg : valI t[i] < 0
      · exact Ev.ifp hneg hj
      · refine Ev.ifn hneg ?_
        rw [decide_eq_true (show valI t[i] > 9 by omega)]
        exact hj
theorem runU_append (below : Bool) : ∀ (a b : List Int) (n : Int), runU below n (a ++ b) = (runU below n a).bind fun m => runU below m b
  | [], b, n => rfl
  | c :: a, b, n => by
    rw [List.cons_append, runU, runU]
    split
    · split
      · split
        · rfl
        · exact runU_append below a b _
      · split
        · rfl
        · exact runU_append below a b _
    · rfl
theorem runU_pos (u : Nat) (h : u ≤ 9223372036854775807) : runU false 0 (dec u) = some (u : Int) := by
  induction u using Nat.strongRecOn with
  | ind u ih =>
    by_cases h10 : u < 10
    · rw [dec_lt h10, runU, if_pos (by omega), if_neg (by decide), if_neg (by omega), runU]
      congr 1
      omega
    · rw [dec_ge h10, runU_append, ih (u / 10) (by omega) (by omega), Option.bind_some, runU, if_pos (by omega), if_neg (by decide), if_neg (by omega), runU]
      congr 1
      omega
theorem runU_neg (u : Nat) (h : u ≤ 9223372036854775808) : runU true 0 (dec u) = some (-(u : Int)) := by
  induction u using Nat.strongRecOn with
  | ind u ih =>
    by_cases h10 : u < 10
    · rw [dec_lt h10, runU, if_pos (by omega), if_pos rfl, if_neg (by omega), runU]
      congr 1
      omega
    · rw [dec_ge h10, runU_append, ih (u / 10) (by omega) (by omega), Option.bind_some, runU, if_pos (by omega), if_pos rfl, if_neg (by omega), runU]
      congr 1
      omega
theorem runU_range (below : Bool) : ∀ (l : List Int) (n m : Int), (if below = true then -9223372036854775808 ≤ n ∧ n ≤ 0 else 0 ≤ n ∧ n ≤ 9223372036854775807) → runU below n l = some m → -9223372036854775808 ≤ m ∧ m ≤ 9223372036854775807
  | [], n, m, hn, h => by
    cases h
    split at hn <;> omega
  | c :: r, n, m, hn, h => by
    rw [runU] at h
    by_cases hc : 48 ≤ c ∧ c ≤ 57
    · rw [if_pos hc] at h
      cases below with
      | true =>
        rw [if_pos rfl] at h hn
        by_cases ho : n < -((9223372036854775808 - (c - 48)) / 10)
        · rw [if_pos ho] at h; cases h
        · rw [if_neg ho] at h
          exact runU_range true r _ m (by rw [if_pos rfl]; omega) h
      | false =>
        rw [if_neg (by decide)] at h hn
        by_cases ho : n > (9223372036854775807 - (c - 48)) / 10
        · rw [if_pos ho] at h; cases h
        · rw [if_neg ho] at h
          exact runU_range false r _ m (by rw [if_neg (by decide)]; omega) h
    · rw [if_neg hc] at h; cases h
theorem ref02_unnum_is (t : List Int) (ht : OkB t) (hs : t.length ≤ 1000) : Ev (fun k => clavigerref02_Unnum.f k (strOfNums t)) (digits_Unnum.of (strOfNums t)) := by
  have hno : Ev (fun k => clavigerref02_Unnum.j0 k (strOfNums t) true) (0, false) := by
    refine Ev.step (fun k => by rw [clavigerref02_Unnum.j0]) ?_
    exact Ev.ifp rfl (Ev.now _)
  have hout : (∀ v : Int, -9223372036854775808 ≤ v → v ≤ 9223372036854775807 → t ≠ num v) → digits_Unnum.of (strOfNums t) = (0, false) := fun h => by
    refine unnum_no ?_
    cases hb : (digits_Unnum.of (strOfNums t)).2 with
    | false => rfl
    | true =>
      have := unnum_sound ht (v := (digits_Unnum.of (strOfNums t)).1) (by rw [← hb])
      exact absurd this.1 (h _ this.2.1 this.2.2)
  refine Ev.congr (fun k => by rw [clavigerref02_Unnum.f]) ?_
  rw [strOfNums_size]
  by_cases h1 : t.length < 1
  · refine Ev.ifp (by omega) (hno.eq (hout (fun v h0 h2 e => ?_)).symm)
    have := num_len v h0 h2
    rw [← e] at this
    omega
  refine Ev.ifn (by omega) ?_
  by_cases h20 : t.length > 20
  · rw [decide_eq_true (show (t.length : Int) > 20 by omega)]
    refine hno.eq (hout (fun v h0 h2 e => ?_)).symm
    have := num_len v h0 h2
    rw [← e] at this
    omega
  rw [decide_eq_false (show ¬ (t.length : Int) > 20 by omega)]
  refine Ev.step (fun k => by rw [clavigerref02_Unnum.j0]) ?_
  rw [strOfNums_size]
  refine Ev.ifn (by decide) (Ev.ifp (by omega) ?_)
  obtain ⟨c, r, rfl⟩ : ∃ c r, t = c :: r := by
    cases t with
    | nil => simp at h1
    | cons c r => exact ⟨c, r, rfl⟩
  have hbt : bt (strOfNums (c :: r)) 0 = c := by
    have := nums_bt ht 0 (by simp)
    simpa using this
  rw [hbt]
  have hfin : ∀ (below : Bool) (l : List Int), (∀ v : Int, -9223372036854775808 ≤ v → v ≤ 9223372036854775807 → c :: r = num v → runU below 0 l = some v) → finU (c :: r) (runU below 0 l) = digits_Unnum.of (strOfNums (c :: r)) := fun below l hall => by
    cases hr : runU below 0 l with
    | none =>
      refine (hout (fun v h0 h2 e => ?_)).symm
      rw [hall v h0 h2 e] at hr
      cases hr
    | some m =>
      have hm := runU_range below l 0 m (by split <;> omega) hr
      rw [finU]
      by_cases he : num m = c :: r
      · rw [if_pos he, ← he, unnum_num hm.1 hm.2]
      · rw [if_neg he]
        refine (hout (fun v h0 h2 e => ?_)).symm
        have := hall v h0 h2 e
        rw [hr] at this
        cases this
        exact he e.symm
  by_cases h45 : c = 45
  · refine Ev.ifp h45 ?_
    refine Ev.step (fun k => by rw [clavigerref02_Unnum.j1]) ?_
    rw [beq_iff_eq.2 h45]
    have := ref02_unnum_loop (c :: r) ht hs true _ 1 0 (by simp) rfl (by simp)
    refine this.eq (hfin true _ (fun v h0 h2 e => ?_))
    by_cases hv : 0 ≤ v
    · rw [num_pos hv] at e
      have := dec_digit v.toNat c (by rw [← e]; simp)
      omega
    · rw [num_neg (by omega)] at e
      have e2 := (List.cons.inj e).2
      rw [show (c :: r).drop 1 = r from rfl, e2, runU_neg _ (by omega)]
      congr 1
      omega
  · refine Ev.ifn h45 ?_
    refine Ev.step (fun k => by rw [clavigerref02_Unnum.j1]) ?_
    rw [beq_eq_false_iff_ne.2 h45]
    have := ref02_unnum_loop (c :: r) ht hs false _ 0 0 (by simp) rfl (by simp)
    refine this.eq (hfin false _ (fun v h0 h2 e => ?_))
    by_cases hv : 0 ≤ v
    · rw [List.drop_zero, e, num_pos hv, runU_pos _ (by omega)]
      congr 1
      omega
    · rw [num_neg (by omega)] at e
      exact absurd (List.cons.inj e).1 h45
def joinI : List (List Int) → List Int
  | [] => []
  | [x] => x
  | x :: y :: r => x ++ 46 :: joinI (y :: r)
theorem joinI_cons (x : List Int) {r : List (List Int)} (h : r ≠ []) : joinI (x :: r) = x ++ 46 :: joinI r := by
  cases r with
  | nil => exact absurd rfl h
  | cons y r => rw [joinI]
theorem joinI_snoc : ∀ (xs : List (List Int)) (y : List Int), xs ≠ [] → joinI (xs ++ [y]) = joinI xs ++ 46 :: y
  | [], y, h => absurd rfl h
  | [x], y, _ => rfl
  | x :: z :: r, y, _ => by
    have := joinI_snoc (z :: r) y (by simp)
    rw [List.cons_append, joinI_cons x (by simp), this, joinI_cons x (by simp)]
    simp
theorem joinI_len (m : Nat) : ∀ (xs : List (List Int)), (∀ x ∈ xs, x.length ≤ m) → (joinI xs).length ≤ (m + 1) * xs.length
  | [], _ => by simp [joinI]
  | [x], h => by have := h x (by simp); simp [joinI]; omega
  | x :: y :: r, h => by
    have h1 := h x (by simp)
    have h2 := joinI_len m (y :: r) (fun z hz => h z (List.mem_cons_of_mem _ hz))
    rw [joinI, List.length_append, List.length_cons, List.length_cons (a := x), Nat.mul_succ]
    omega
theorem lib_join : ∀ (xs : List (List Int)), (⟨(Lib.join (xs.map fun x => (strOfNums x).data.toList) [46]).toArray⟩ : ByteArray) = strOfNums (joinI xs)
  | [] => rfl
  | [x] => by
    rw [List.map_cons, List.map_nil, Lib.join_one, joinI]
  | x :: y :: r => by
    have ih := lib_join (y :: r)
    have e : Lib.join ((x :: y :: r).map fun x => (strOfNums x).data.toList) [46] = (strOfNums x).data.toList ++ [46] ++ Lib.join ((y :: r).map fun x => (strOfNums x).data.toList) [46] := by
      unfold Lib.join List.intercalate
      simp only [List.map_cons, List.intersperse_cons_cons, List.flatten_cons, List.append_assoc]
    rw [e, joinI, show x ++ 46 :: joinI (y :: r) = (x ++ [46]) ++ joinI (y :: r) by simp, ← str_append, ← str_append, ← ih]
    apply ByteArray.ext
    apply Array.toList_inj.1
    rw [str_data_append, str_data_append]
    rfl
theorem oid_text_loop (arcs : List Int) (hb : ∀ x ∈ arcs, 0 ≤ x ∧ x ≤ 2147483647) (hs : arcs.length ≤ 20) (d : Nat) : ∀ i : Nat, i ≤ arcs.length → arcs.length - i = d →
    Ev (fun k => oid_Text.l0 k ((arcs.take i).map (fun x => strOfNums (num x)) ++ List.replicate (arcs.length - i) (⟨#[]⟩ : ByteArray)) arcs (arcs.length : Int) (i : Int)) (strOfNums (joinI (arcs.map num))) := by
  induction d with
  | zero =>
    intro i hi hd
    refine Ev.step (fun k => by rw [oid_Text.l0]) ?_
    refine Ev.ifn (by omega) ?_
    rw [List.take_of_length_le (by omega), hd, List.replicate_zero, List.append_nil]
    have hl := joinI_len 20 (arcs.map num) (fun x hx => by
      obtain ⟨v, hv, rfl⟩ := List.mem_map.1 hx
      have := hb v hv
      exact (num_len v (by omega) (by omega)).1)
    rw [List.length_map] at hl
    have hj := lib_join (arcs.map num)
    rw [List.map_map] at hj
    have hsz := congrArg ByteArray.size hj
    rw [strOfNums_size] at hsz
    have e : strings_Join.f (arcs.map fun x => strOfNums (num x)) (⟨#[46]⟩ : ByteArray) = some (strOfNums (joinI (arcs.map num))) := by
      unfold strings_Join.f
      rw [List.map_map, if_pos (by simp; omega), if_pos, ← hj]
      · rfl
      · have h2 : (⟨(Lib.join (arcs.map ((fun x => (strOfNums x).data.toList) ∘ num)) [46]).toArray⟩ : ByteArray).size = (Lib.join (arcs.map ((fun x => (strOfNums x).data.toList) ∘ num)) [46]).length := by
          show (Lib.join (arcs.map ((fun x => (strOfNums x).data.toList) ∘ num)) [46]).toArray.size = _
          simp
        rw [h2] at hsz
        show (Lib.join (arcs.map ((fun x => (strOfNums x).data.toList) ∘ num)) [46]).length ≤ _
        omega
    exact Ev.bindc e (Ev.now _)
  | succ d ih =>
    intro i hi hd
    have hlt : i < arcs.length := by omega
    have hv := hb arcs[i] (List.getElem_mem hlt)
    refine Ev.step (fun k => by rw [oid_Text.l0]) ?_
    rw [rd_get i hlt, w64 (x := (i : Int) + 1) (by omega) (by omega)]
    have e : digits_Num.f arcs[i] = some (strOfNums (num arcs[i])) := by
      unfold digits_Num.f strconv_Itoa.f
      rw [if_pos ⟨by omega, by omega⟩, Option.bind_some, num_str]
    refine Ev.ifp (by omega) (Ev.ifp (by omega) (Ev.ifp (by omega) (Ev.bindc e (Ev.ifp (by simp; omega) ?_))))
    have := ih (i + 1) (by omega) (by omega)
    refine Ev.congr (fun k => ?_) this
    congr 1
    rw [Int.toNat_natCast, List.set_append_right _ _ (by simp; omega), List.length_map, List.length_take, Nat.min_eq_left (by omega), Nat.sub_self]
    obtain ⟨m, hm⟩ : ∃ m, arcs.length - i = m + 1 := ⟨arcs.length - i - 1, by omega⟩
    rw [hm, List.replicate_succ, List.set_cons_zero, show arcs.length - (i + 1) = m by omega, List.take_succ_eq_append_getElem hlt, List.map_append, List.map_cons, List.map_nil, List.append_assoc]
    rfl
theorem right_bd {arcs : List Int} (h : rightA arcs = true) : arcs.length ≤ 20 ∧ 2 ≤ arcs.length ∧ ∀ x ∈ arcs, 0 ≤ x ∧ x ≤ 2147483647 := by
  obtain ⟨a, b, r, rfl, h18, ha0, ha2, hb0, hb1, hb2, hall⟩ := right_parts h
  refine ⟨by simp; omega, by simp, fun x hx => ?_⟩
  rcases List.mem_cons.1 hx with rfl | hx
  · omega
  · rcases List.mem_cons.1 hx with rfl | hx
    · omega
    · exact hall x hx
theorem oid_text_is (arcs : List Int) (hs : arcs.length ≤ 1000000) : Ev (fun k => oid_Text.f k arcs) (if rightA arcs = true then strOfNums (joinI (arcs.map num)) else ⟨#[]⟩) := by
  refine Ev.congr (fun k => by rw [oid_Text.f]) ?_
  refine Ev.bind (oid_right_is arcs hs) ?_
  by_cases hr : rightA arcs = true
  · rw [if_pos hr]
    have hb := right_bd hr
    refine Ev.ifp hr (Ev.ifp (by omega) (Ev.ifp (by rw [Int.toNat_natCast]; omega) ?_))
    have := oid_text_loop arcs hb.2.2 hb.1 _ 0 (by omega) rfl
    simpa using this
  · rw [if_neg hr]
    exact Ev.ifn hr (Ev.now _)
theorem ref17_text_loop (arcs : List Int) (hb : ∀ x ∈ arcs, 0 ≤ x ∧ x ≤ 2147483647) (hs : arcs.length ≤ 20) (d : Nat) : ∀ i : Nat, 1 ≤ i → i ≤ arcs.length → arcs.length - i = d →
    Ev (fun k => clavigerref17_Text.l0 k arcs (strOfNums (joinI ((arcs.take i).map num))) (i : Int)) (strOfNums (joinI (arcs.map num))) := by
  induction d with
  | zero =>
    intro i h1 hi hd
    refine Ev.step (fun k => by rw [clavigerref17_Text.l0]) ?_
    rw [List.take_of_length_le (by omega)]
    exact Ev.ifn (by omega) (Ev.now _)
  | succ d ih =>
    intro i h1 hi hd
    have hlt : i < arcs.length := by omega
    have hv := hb arcs[i] (List.getElem_mem hlt)
    have hl := joinI_len 20 ((arcs.take i).map num) (fun x hx => by
      obtain ⟨v, hv, rfl⟩ := List.mem_map.1 hx
      have := hb v (List.mem_of_mem_take hv)
      exact (num_len v (by omega) (by omega)).1)
    rw [List.length_map, List.length_take] at hl
    have hn := (num_len arcs[i] (by omega) (by omega)).1
    refine Ev.step (fun k => by rw [clavigerref17_Text.l0]) ?_
    rw [rd_get i hlt, w64 (x := (i : Int) + 1) (by omega) (by omega), show (⟨#[46]⟩ : ByteArray) = strOfNums [46] from rfl, str_append, strOfNums_size]
    refine Ev.ifp (by omega) (Ev.ifp (by omega) (Ev.ifp (by omega) (Ev.bind (ref02_num_is _ (by omega) (by omega)) (Ev.ifp (by rw [strOfNums_size, strOfNums_size, List.length_append]; simp only [List.length_cons, List.length_nil]; omega) ?_))))
    have := ih (i + 1) (by omega) (by omega) (by omega)
    rw [List.take_succ_eq_append_getElem hlt, List.map_append, List.map_cons, List.map_nil, joinI_snoc _ _ (by
      intro e
      have := congrArg List.length e
      rw [List.length_map, List.length_take, List.length_nil] at this
      omega)] at this
    rw [str_append, List.append_assoc]
    exact this
theorem ref17_text_is (arcs : List Int) (hs : arcs.length ≤ 1000000) : Ev (fun k => clavigerref17_Text.f k arcs) (if rightA arcs = true then strOfNums (joinI (arcs.map num)) else ⟨#[]⟩) := by
  refine Ev.congr (fun k => by rw [clavigerref17_Text.f]) ?_
  refine Ev.bind (ref17_right_is arcs hs) ?_
  by_cases hr : rightA arcs = true
  · rw [if_pos hr]
    have hb := right_bd hr
    have hlt : 0 < arcs.length := by omega
    have h0 := hb.2.2 arcs[0] (List.getElem_mem hlt)
    refine Ev.ifp hr (Ev.ifp (by omega) ?_)
    rw [show rd arcs 0 = arcs[0] from rd_get 0 hlt]
    refine Ev.bind (ref02_num_is _ (by omega) (by omega)) ?_
    have := ref17_text_loop arcs hb.2.2 hb.1 _ 1 (by omega) (by omega) rfl
    rw [List.take_succ_eq_append_getElem hlt] at this
    exact this
  · rw [if_neg hr]
    exact Ev.ifn hr (Ev.now _)
def unn (p : List Int) : Int × Bool := digits_Unnum.of (strOfNums p)
def dotsI : List Int → List (List Int)
  | [] => [[]]
  | b :: r => if b = 46 then [] :: dotsI r else match dotsI r with
    | [] => [[b]]
    | p :: ps => (b :: p) :: ps
theorem dotsI_ne : ∀ l, dotsI l ≠ []
  | [] => by simp [dotsI]
  | b :: r => by
    rw [dotsI]
    split
    · simp
    · split <;> simp
theorem tb_cons (c : Int) (r : List Int) : (strOfNums (c :: r)).data.toList = UInt8.ofNat c.toNat :: (strOfNums r).data.toList := rfl
theorem dots_tb : ∀ (l : List Int), OkB l → dots (strOfNums l).data.toList = (dotsI l).map fun p => (strOfNums p).data.toList
  | [], _ => rfl
  | c :: r, h => by
    have hc := h.head
    rw [tb_cons, dots, dotsI]
    by_cases h46 : c = 46
    · subst h46
      rw [if_pos (by decide), if_pos rfl, dots_tb r h.tail]
      rfl
    · rw [if_neg, if_neg h46, dots_tb r h.tail]
      · cases hd : dotsI r with
        | nil => exact absurd hd (dotsI_ne r)
        | cons p ps => rfl
      · intro e
        have := congrArg UInt8.toNat e
        simp at this
        omega
def ownP (ps : List (List Int)) : List Int × Bool := if (ps.all fun p => (unn p).2) = true then (if rightA (ps.map fun p => (unn p).1) = true then (ps.map fun p => (unn p).1, true) else ([], false)) else ([], false)
theorem dotsI_len : ∀ l : List Int, (dotsI l).length ≤ l.length + 1
  | [] => by simp [dotsI]
  | b :: r => by
    have := dotsI_len r
    rw [dotsI]
    split
    · simp; omega
    · split
      · simp
      · rename_i h
        rw [h] at this
        simp at this ⊢
        omega
theorem oid_parse_is (l : List Int) (hl : OkB l) (hs : l.length ≤ 900000) : Ev (fun k => oid_Parse.f k (strOfNums l)) (ownP (dotsI l)) := by
  refine Ev.congr (fun k => by rw [oid_Parse.f]) ?_
  refine Ev.ifp (by rw [strOfNums_size]; omega) ?_
  rw [dots_tb l hl]
  have e1 : ∀ p : List Int, (⟨((strOfNums p).data.toList).toArray⟩ : ByteArray) = strOfNums p := fun p => rfl
  unfold parseP ownP
  rw [List.all_map, List.map_map]
  have e2 : ((fun x : List UInt8 => (digits_Unnum.of ⟨x.toArray⟩).2) ∘ fun p => (strOfNums p).data.toList) = fun p => (unn p).2 := by funext p; rfl
  have e3 : ((fun x : List UInt8 => (digits_Unnum.of ⟨x.toArray⟩).1) ∘ fun p => (strOfNums p).data.toList) = fun p => (unn p).1 := by funext p; rfl
  rw [e2, e3]
  by_cases ha : ((dotsI l).all fun p => (unn p).2) = true
  · rw [if_pos ha, if_pos ha]
    refine Ev.bind (oid_right_is _ (by rw [List.length_map]; have := dotsI_len l; omega)) ?_
    by_cases hr : rightA ((dotsI l).map fun p => (unn p).1) = true
    · exact Ev.ifp hr ((Ev.now _).eq (if_pos hr).symm)
    · exact Ev.ifn hr ((Ev.now _).eq (if_neg hr).symm)
  · rw [if_neg ha, if_neg ha]
    exact Ev.now _
def seqP (out : List Int) : List (List Int) → List Int × Bool
  | [] => if rightA out = true then (out, true) else ([], false)
  | p :: ps => if (unn p).2 = true then (if out.length = 20 then ([], false) else seqP (out ++ [(unn p).1]) ps) else ([], false)
def glue (one : List Int) : List (List Int) → List (List Int)
  | [] => [one]
  | p :: ps => (one ++ p) :: ps
theorem glue_nil {ps : List (List Int)} (h : ps ≠ []) : glue [] ps = ps := by
  cases ps with
  | nil => exact absurd rfl h
  | cons p ps => rfl
theorem ref17_parse_loop (l : List Int) (hl : OkB l) (hs : l.length ≤ 900) (d : Nat) : ∀ (i : Nat) (out one : List Int), i ≤ l.length + 1 → l.length + 1 - i = d → out.length ≤ 20 → OkB one → one.length ≤ i →
    Ev (fun k => clavigerref17_Parse.l0 k (strOfNums l) out (strOfNums one) (i : Int)) (seqP out (if i ≤ l.length then glue one (dotsI (l.drop i)) else [])) := by
  induction d with
  | zero =>
    intro i out one hi hd ho hone h1
    refine Ev.step (fun k => by rw [clavigerref17_Parse.l0]) ?_
    rw [strOfNums_size, if_neg (by omega), seqP]
    refine Ev.ifn (by omega) (Ev.bind (ref17_right_is out (by omega)) ?_)
    by_cases hr : rightA out = true
    · exact Ev.ifp hr ((Ev.now _).eq (if_pos hr).symm)
    · exact Ev.ifn hr ((Ev.now _).eq (if_neg hr).symm)
  | succ d ih =>
    intro i out one hi hd ho hone h1
    refine Ev.step (fun k => by rw [clavigerref17_Parse.l0]) ?_
    rw [strOfNums_size, if_pos (by omega)]
    refine Ev.ifp (by omega) ?_
    -- a part ends
    have hend : ∀ rest : List (List Int), (∀ out2 : List Int, out2.length ≤ 20 → Ev (fun k => clavigerref17_Parse.l0 k (strOfNums l) out2 (⟨#[]⟩ : ByteArray) (((i + 1 : Nat)) : Int)) (seqP out2 rest)) →
        Ev (fun k => clavigerref17_Parse.j1 k (strOfNums l) out (strOfNums one) (i : Int) false) (seqP out (one :: rest)) := fun rest hgo => by
      refine Ev.step (fun k => by rw [clavigerref17_Parse.j1]) ?_
      rw [w64 (x := (i : Int) + 1) (by omega) (by omega), seqP]
      refine Ev.ifn (by decide) (Ev.bind (ref02_unnum_is one hone (by omega)) ?_)
      by_cases hu : (unn one).2 = true
      · rw [if_pos hu]
        refine Ev.ifp hu ?_
        by_cases h20 : out.length = 20
        · rw [if_pos h20]
          exact Ev.ifp (by omega) (Ev.now _)
        · rw [if_neg h20]
          exact Ev.ifn (by omega) (Ev.ifp (by omega) (hgo _ (by rw [List.length_append]; simp only [List.length_cons, List.length_nil]; omega)))
      · rw [if_neg hu]
        exact Ev.ifn hu (Ev.now _)
    by_cases hlt : i < l.length
    · have hc := hl.get i hlt
      refine Ev.ifp (by omega) (Ev.ifp (by omega) ?_)
      rw [nums_bt hl i hlt, List.drop_eq_getElem_cons hlt, dotsI]
      by_cases h46 : l[i] = 46
      · rw [show (l[i] != 46) = false by rw [h46]; rfl, if_pos h46, glue, List.append_nil]
        refine hend _ (fun out2 ho2 => ?_)
        have := ih (i + 1) out2 [] (by omega) (by omega) ho2 OkB.nil (by simp)
        rw [if_pos (by omega), glue_nil (dotsI_ne _)] at this
        exact this
      · rw [show (l[i] != 46) = true by rw [bne_iff_ne]; exact h46, if_neg h46]
        refine Ev.step (fun k => by rw [clavigerref17_Parse.j1]) ?_
        rw [w64 (x := (i : Int) + 1) (by omega) (by omega), strOfNums_size]
        have ex : (strOfNums l).extract ((i : Int)).toNat (((i : Int) + 1)).toNat = strOfNums [l[i]] := by
          rw [Int.toNat_natCast, show ((i : Int) + 1).toNat = i + 1 by omega, str_extract, show i + 1 - i = 1 by omega, List.drop_eq_getElem_cons hlt]
          rfl
        rw [ex, str_append]
        refine Ev.ifp rfl (Ev.ifp (by omega) (Ev.ifp (by omega) (Ev.ifp (by omega) (Ev.ifp (by rw [strOfNums_size, strOfNums_size]; simp only [List.length_cons, List.length_nil]; omega) ?_))))
        have := ih (i + 1) out (one ++ [l[i]]) (by omega) (by omega) ho (hone.append (OkB.one hc.1 hc.2)) (by rw [List.length_append]; simp only [List.length_cons, List.length_nil]; omega)
        rw [if_pos (by omega)] at this
        refine this.eq ?_
        cases hd2 : dotsI (l.drop (i + 1)) with
        | nil => exact absurd hd2 (dotsI_ne _)
        | cons p ps => simp [glue]
    · refine Ev.ifn (by omega) ?_
      rw [List.drop_eq_nil_of_le (by omega), dotsI, glue, List.append_nil]
      refine hend _ (fun out2 ho2 => ?_)
      have := ih (i + 1) out2 [] (by omega) (by omega) ho2 OkB.nil (by simp)
      rw [if_neg (by omega)] at this
      exact this
theorem seqP_is : ∀ (ps : List (List Int)) (out : List Int), out.length ≤ 20 → seqP out ps = if (ps.all fun p => (unn p).2) = true then (if rightA (out ++ ps.map fun p => (unn p).1) = true then (out ++ ps.map fun p => (unn p).1, true) else ([], false)) else ([], false)
  | [], out, _ => by simp [seqP]
  | p :: ps, out, h => by
    rw [seqP, List.all_cons]
    by_cases hu : (unn p).2 = true
    · rw [if_pos hu, hu, Bool.true_and]
      by_cases h20 : out.length = 20
      · rw [if_pos h20]
        have hno : ¬ rightA (out ++ (p :: ps).map fun p => (unn p).1) = true := fun e => by
          have := (right_bd e).1
          rw [List.length_append, List.map_cons, List.length_cons] at this
          omega
        rw [if_neg hno]
        split <;> rfl
      · rw [if_neg h20, seqP_is ps (out ++ [(unn p).1]) (by rw [List.length_append]; simp only [List.length_cons, List.length_nil]; omega), List.append_assoc]
        rfl
    · rw [if_neg hu, Bool.eq_false_iff.2 hu, Bool.false_and]
      rfl
theorem ref17_parse_is (l : List Int) (hl : OkB l) (hs : l.length ≤ 900) : Ev (fun k => clavigerref17_Parse.f k (strOfNums l)) (ownP (dotsI l)) := by
  refine Ev.congr (fun k => by rw [clavigerref17_Parse.f]) ?_
  have := ref17_parse_loop l hl hs _ 0 [] [] (by omega) rfl (by simp) OkB.nil (by simp)
  rw [if_pos (by omega), List.drop_zero, glue_nil (dotsI_ne _), seqP_is _ _ (by simp)] at this
  exact this
theorem ownP_len (t : List Int) : (ownP (dotsI t)).1.length ≤ 20 := by
  unfold ownP
  split
  · split
    · rename_i h
      exact (right_bd h).1
    · simp
  · simp
theorem joinI_dotsI : ∀ t : List Int, joinI (dotsI t) = t
  | [] => rfl
  | b :: r => by
    rw [dotsI]
    by_cases h : b = 46
    · rw [if_pos h, joinI_cons [] (dotsI_ne r), joinI_dotsI r, h]
      rfl
    · rw [if_neg h]
      have ih := joinI_dotsI r
      cases hd : dotsI r with
      | nil => exact absurd hd (dotsI_ne r)
      | cons p ps =>
        rw [hd] at ih
        dsimp only
        cases ps with
        | nil => rw [joinI] at ih ⊢; rw [ih]
        | cons q qs => rw [joinI_cons _ (by simp)] at ih ⊢; rw [← ih]; rfl
theorem dotsI_glue : ∀ (p r : List Int), (∀ x ∈ p, x ≠ 46) → dotsI (p ++ 46 :: r) = p :: dotsI r
  | [], r, _ => by rw [List.nil_append, dotsI, if_pos rfl]
  | b :: p, r, h => by rw [List.cons_append, dotsI, if_neg (h b (by simp)), dotsI_glue p r (fun x hx => h x (List.mem_cons_of_mem _ hx))]
theorem dotsI_one : ∀ (p : List Int), (∀ x ∈ p, x ≠ 46) → dotsI p = [p]
  | [], _ => rfl
  | b :: p, h => by rw [dotsI, if_neg (h b (by simp)), dotsI_one p (fun x hx => h x (List.mem_cons_of_mem _ hx))]
theorem dotsI_joinI : ∀ (ps : List (List Int)), ps ≠ [] → (∀ p ∈ ps, ∀ x ∈ p, x ≠ 46) → dotsI (joinI ps) = ps
  | [], h, _ => absurd rfl h
  | [p], _, h => dotsI_one p (h p (by simp))
  | p :: q :: r, _, h => by
    rw [joinI_cons p (by simp), dotsI_glue p _ (h p (by simp)), dotsI_joinI (q :: r) (by simp) (fun z hz => h z (List.mem_cons_of_mem _ hz))]
theorem dotsI_ok : ∀ (t : List Int), OkB t → ∀ p ∈ dotsI t, OkB p
  | [], _, p, hp => by
    rw [dotsI, List.mem_singleton] at hp
    subst hp
    exact OkB.nil
  | b :: r, h, p, hp => by
    have ih := dotsI_ok r h.tail
    rw [dotsI] at hp
    by_cases h46 : b = 46
    · rw [if_pos h46] at hp
      rcases List.mem_cons.1 hp with rfl | hp
      · exact OkB.nil
      · exact ih p hp
    · rw [if_neg h46] at hp
      cases hd : dotsI r with
      | nil => exact absurd hd (dotsI_ne r)
      | cons q qs =>
        rw [hd] at hp ih
        dsimp only at hp
        rcases List.mem_cons.1 hp with rfl | hp
        · have := h.head
          exact OkB.cons this.1 this.2 (ih q (by simp))
        · exact ih p (List.mem_cons_of_mem _ hp)
theorem ownP_text {a : List Int} (h : rightA a = true) : ownP (dotsI (joinI (a.map num))) = (a, true) := by
  have hb := right_bd h
  rw [dotsI_joinI _ (by intro e; rw [List.map_eq_nil_iff] at e; subst e; simp at hb) (fun p hp => by obtain ⟨v, _, rfl⟩ := List.mem_map.1 hp; exact num_no46 v)]
  have e : ∀ x ∈ a, unn (num x) = (x, true) := fun x hx => by
    have := hb.2.2 x hx
    exact unnum_num (by omega) (by omega)
  have e1 : (a.map num).map (fun p => (unn p).1) = a := by
    rw [List.map_map]
    conv => rhs; rw [← List.map_id a]
    exact List.map_congr_left (fun x hx => by simp [e x hx])
  unfold ownP
  rw [if_pos, e1, if_pos h]
  rw [List.all_map, List.all_eq_true]
  intro x hx
  simp [e x hx]
theorem ownP_sound {t l : List Int} (ht : OkB t) (h : ownP (dotsI t) = (l, true)) : rightA l = true ∧ joinI (l.map num) = t := by
  unfold ownP at h
  by_cases ha : ((dotsI t).all fun p => (unn p).2) = true
  case neg => rw [if_neg ha] at h; cases h
  rw [if_pos ha] at h
  by_cases hr : rightA ((dotsI t).map fun p => (unn p).1) = true
  case neg => rw [if_neg hr] at h; cases h
  rw [if_pos hr] at h
  cases h
  refine ⟨hr, ?_⟩
  rw [List.map_map]
  have e : (dotsI t).map (num ∘ fun p => (unn p).1) = dotsI t := by
    conv => rhs; rw [← List.map_id (dotsI t)]
    refine List.map_congr_left (fun p hp => ?_)
    have h2 := List.all_eq_true.1 ha p hp
    have := unnum_sound (t := p) (v := (unn p).1) (dotsI_ok t ht p hp) (by
      show unn p = _
      exact Prod.ext rfl h2)
    exact this.1.symm
  rw [e, joinI_dotsI]
theorem ownP_cases (t : List Int) : (∃ l, ownP (dotsI t) = (l, true)) ∨ ownP (dotsI t) = ([], false) := by
  unfold ownP
  split
  · split
    · exact .inl ⟨_, rfl⟩
    · exact .inr rfl
  · exact .inr rfl
theorem joinN_ok (a : List Int) : OkB (joinI (a.map num)) := by
  induction a with
  | nil => exact OkB.nil
  | cons v r ih =>
    cases r with
    | nil => exact num_ok v
    | cons w r => rw [List.map_cons, joinI_cons _ (by simp)]; exact (num_ok v).append (OkB.cons (by decide) (by decide) ih)
theorem joinN_len {a : List Int} (h : rightA a = true) : (joinI (a.map num)).length ≤ 420 := by
  have hb := right_bd h
  have := joinI_len 20 (a.map num) (fun x hx => by
    obtain ⟨v, hv, rfl⟩ := List.mem_map.1 hx
    have := hb.2.2 v hv
    exact (num_len v (by omega) (by omega)).1)
  rw [List.length_map] at this
  omega
theorem compare_less : ∀ (a b : List UInt8), decide (Lib.compareBytes a b < 0) = Op.bytesLess a b
  | [], [] => rfl
  | [], _ :: _ => rfl
  | _ :: _, [] => rfl
  | a :: x, b :: y => by
    rw [Lib.compareBytes, Op.bytesLess]
    by_cases h1 : a < b
    · rw [if_pos h1]
      simp [h1]
    · rw [if_neg h1]
      by_cases h2 : b < a
      · rw [if_pos h2]
        have h3 : (a == b) = false := beq_eq_false_iff_ne.2 (fun e => by subst e; exact h1 h2)
        simp [h1, h3]
      · rw [if_neg h2, compare_less x y]
        have h3 : a = b := UInt8.le_antisymm (UInt8.not_lt.1 h2) (UInt8.not_lt.1 h1)
        subst h3
        simp [h1]
theorem drop_all (p : UInt8 → Bool) : ∀ l : List UInt8, (∀ x ∈ l.dropWhile p, p x = true) → ∀ x ∈ l, p x = true
  | [], _, x, hx => by cases hx
  | a :: l, h, x, hx => by
    by_cases ha : p a = true
    · rw [List.dropWhile_cons, if_pos ha] at h
      rcases List.mem_cons.1 hx with rfl | hx
      · exact ha
      · exact drop_all p l h x hx
    · rw [List.dropWhile_cons, if_neg ha] at h
      exact absurd (h a (by simp)) ha
theorem trimB_nil (l : List UInt8) : Lib.trimB l 0 = [] ↔ ∀ b ∈ l, b = 0 := by
  unfold Lib.trimB Lib.trimLeftB Lib.trimRightB
  constructor
  · intro h b hb
    have h1 : ∀ x ∈ (l.reverse.dropWhile (· == 0)).reverse, (x == 0) = true := by
      have h2 := drop_all (· == 0) ((l.reverse.dropWhile (· == 0)).reverse) (by rw [h]; intro x hx; cases hx)
      exact h2
    have h3 := drop_all (· == 0) l.reverse (fun x hx => h1 x (List.mem_reverse.2 hx)) b (List.mem_reverse.2 hb)
    exact beq_iff_eq.1 h3
  · intro h
    have h1 : l.reverse.dropWhile (· == 0) = [] := by
      have : ∀ m : List UInt8, (∀ x ∈ m, x = 0) → m.dropWhile (· == 0) = [] := by
        intro m
        induction m with
        | nil => intro _; rfl
        | cons a m ih =>
          intro hm
          rw [List.dropWhile_cons, if_pos (beq_iff_eq.2 (hm a (by simp)))]
          exact ih (fun x hx => hm x (List.mem_cons_of_mem _ hx))
      exact this _ (fun x hx => h x (List.mem_reverse.1 hx))
    rw [h1]
    rfl
theorem bt_at22 (s : ByteArray) (i : Nat) (h : i < s.size) : bt s (i : Int) = ((s.data.toList.getD i 0).toNat : Int) := by
  have hl : i < s.data.toList.length := by rw [Array.length_toList]; exact h
  unfold bt
  rw [dif_pos (by simpa using h)]
  rw [List.getD_eq_getElem?_getD, List.getElem?_eq_getElem hl]
  rfl
/-- The orders. -/
def ordF (c : Int) : ByteArray := (curve_Order.f 200 c).getD ⟨#[]⟩
theorem order_allP : ((List.range 4).all fun i => (curve_Order.f 200 ((i : Int) + 1)).isSome) = true := by kernel_rfl
theorem order_isP {c : Int} (h1 : 1 ≤ c) (h4 : c ≤ 4) : Ev (fun k => curve_Order.f k c) (ordF c) := by
  have h := List.all_eq_true.1 order_allP (c - 1).toNat (List.mem_range.2 (by omega))
  rw [show (((c - 1).toNat : Nat) : Int) + 1 = c by omega] at h
  obtain ⟨o, ho⟩ := Option.isSome_iff_exists.1 h
  have e : ordF c = o := by unfold ordF; rw [ho]; rfl
  rw [e]
  exact Ev.of (curve_Order.mono c) (k := 200) ho
def scalarA (o s : ByteArray) : Bool := s.data.toList.any (fun b => !(b == 0)) && Op.bytesLess s.toList o.toList
def widths (c : Int) : Int := if c = 1 then 28 else if c = 2 then 32 else if c = 3 then 48 else if c = 4 then 66 else 0
theorem line_width (c : Int) : ∃ a b o, curve_line.f c = some (a, b, o, widths c) := by
  unfold curve_line.f widths
  repeat' split
  all_goals exact ⟨_, _, _, rfl⟩
theorem widths_pos {c : Int} (h0 : ¬ widths c = 0) : 1 ≤ c ∧ c ≤ 4 := by
  unfold widths at h0
  by_cases c1 : c = 1
  · omega
  by_cases c2 : c = 2
  · omega
  by_cases c3 : c = 3
  · omega
  by_cases c4 : c = 4
  · omega
  · rw [if_neg c1, if_neg c2, if_neg c3, if_neg c4] at h0
    exact absurd rfl h0
def scalarF (c : Int) (s : ByteArray) : Bool := if widths c = 0 then false else if (s.size : Int) = widths c then scalarA (ordF c) s else false
theorem any_all (l : List UInt8) : (l.any (fun b => !(b == 0))) = !decide (∀ b ∈ l, b = 0) := by
  by_cases hz : ∀ b ∈ l, b = 0
  · rw [decide_eq_true hz, List.any_eq_false.2 (fun x hx => by simp [hz x hx])]
    rfl
  · rw [decide_eq_false hz, List.any_eq_true.2]
    · rfl
    · exact Classical.byContradiction fun hn => hz fun b hb => Classical.byContradiction fun hne => hn ⟨b, hb, by simp [hne]⟩
theorem scalar_isP (c : Int) (s : ByteArray) (hs : s.size ≤ 1000000) : Ev (fun k => curve_Scalar.f k c s) (scalarF c s) := by
  unfold scalarF
  obtain ⟨n, a, o, hw⟩ := line_width c
  have hno1 : Ev (fun k => curve_Scalar.j0 k c s true) false := by
    refine Ev.step (fun k => by rw [curve_Scalar.j0]) ?_
    exact Ev.ifp rfl (Ev.now _)
  by_cases h0 : widths c = 0
  · rw [if_pos h0]
    exact Ev.congr (fun k => by rw [curve_Scalar.f]) (Ev.bindc hw (Ev.ifp h0 hno1))
  by_cases h1 : (s.size : Int) = widths c
  · have hb : ((s.size : Int) != widths c) = false := by rw [h1]; simp
    have hc := widths_pos h0
    have o1 := order_isP hc.1 hc.2
    rw [if_neg h0, if_pos h1]
    generalize ordF c = o at *
    refine Ev.congr (fun k => by rw [curve_Scalar.f]) (Ev.bindc hw (Ev.ifn h0 (Ev.bindc hw ?_)))
    simp only
    rw [hb]
    refine Ev.step (fun k => by rw [curve_Scalar.j0]) ?_
    refine Ev.ifn (by simp) ?_
    refine Ev.bindc (a := ⟨(Lib.trimB s.data.toList 0).toArray⟩) (by
      unfold strings_Trim.f
      rw [if_pos ⟨rfl, by omega⟩, if_pos (by decide)]
      rfl) ?_
    by_cases hz : ∀ b ∈ s.data.toList, b = 0
    · refine Ev.ifp ?_ ((Ev.now _).eq ?_)
      · rw [(trimB_nil _).2 hz, toList_data]
      · unfold scalarA
        rw [any_all, decide_eq_true hz]
        rfl
    · refine Ev.ifn ?_ ?_
      · rw [toList_data]
        intro e
        exact hz ((trimB_nil _).1 e)
      · refine Ev.bind o1 ?_
        refine Ev.bindc rfl ?_
        refine (Ev.now _).eq ?_
        unfold scalarA
        rw [any_all, decide_eq_false hz, compare_less, toList_data, toList_data]
        rfl
  · have hb : ((s.size : Int) != widths c) = true := bne_iff_ne.2 h1
    rw [if_neg h0, if_neg h1]
    refine Ev.congr (fun k => by rw [curve_Scalar.f]) (Ev.bindc hw (Ev.ifn h0 (Ev.bindc hw ?_)))
    simp only
    rw [hb]
    exact hno1
def kszF (i : Int) : Int := match kind_of.f i with | some (_, s, _, _, _) => s | none => 0
def kcvF (i : Int) : Int := match kind_of.f i with | some (_, _, _, c, _) => c | none => 0
def ltrF (i : Int) : ByteArray := match kind_of.f i with | some (_, _, l, _, _) => l | none => ⟨#[]⟩
def checkF (a : Int) (s : ByteArray) : Int := if kszF a = 0 then 8 else if kszF a = (s.size : Int) then (if kcvF a > 0 then (if scalarF (kcvF a) s = true then 0 else 10) else 0) else 9
theorem of_allP : ((List.range 12).all fun i => (kind_of.f (i : Int)).isSome) = true := by kernel_rfl
theorem of_out {a : Int} (h : ¬ (0 ≤ a ∧ a < 12)) : kind_of.f a = kind_of.f 0 := by
  unfold kind_of.f
  by_cases h0 : a < 0
  · simp only [kind_table.f, Option.bind_some, if_pos h0]
    rfl
  · have h12 : a ≥ 12 := by omega
    simp only [kind_table.f, Option.bind_some, if_neg h0, List.length_cons, List.length_nil]
    rw [if_pos (by omega)]
    rfl
theorem of_isP (a : Int) : ∃ n t, kind_of.f a = some (n, kszF a, ltrF a, kcvF a, t) := by
  have key : ∃ v, kind_of.f a = some v := by
    by_cases h : 0 ≤ a ∧ a < 12
    · have h1 := List.all_eq_true.1 of_allP a.toNat (List.mem_range.2 (by omega))
      rw [Int.toNat_of_nonneg h.1] at h1
      exact Option.isSome_iff_exists.1 h1
    · rw [of_out h]
      exact Option.isSome_iff_exists.1 (List.all_eq_true.1 of_allP 0 (by decide))
  obtain ⟨⟨n, s, l, c, t⟩, hv⟩ := key
  refine ⟨n, t, ?_⟩
  unfold kszF ltrF kcvF
  rw [hv]
theorem check_isP (a : Int) (s : ByteArray) (hs : s.size ≤ 1000000) : Ev (fun k => kind_Check.f k a s) (checkF a s) := by
  obtain ⟨n, t, h1⟩ := of_isP a
  unfold checkF
  have e1 : ∀ k, kind_Check.f k a s = _ := fun k => by rw [kind_Check.f]
  by_cases hz : kszF a = 0
  · rw [if_pos hz]
    exact Ev.congr e1 (Ev.bindc h1 (Ev.ifp hz (Ev.now _)))
  rw [if_neg hz]
  by_cases hl : kszF a = (s.size : Int)
  · rw [if_pos hl]
    by_cases hc : kcvF a > 0
    · rw [if_pos hc]
      have r1 := scalar_isP (kcvF a) s hs
      refine Ev.congr e1 (Ev.bindc h1 (Ev.ifn hz (Ev.ifp hl (Ev.ifp hc (Ev.bind r1 ?_)))))
      exact Ev.ite (fun _ => Ev.now _) (fun _ => Ev.now _)
    · rw [if_neg hc]
      exact Ev.congr e1 (Ev.bindc h1 (Ev.ifn hz (Ev.ifp hl (Ev.ifn hc (Ev.now _)))))
  · rw [if_neg hl]
    exact Ev.congr e1 (Ev.bindc h1 (Ev.ifn hz (Ev.ifn hl (Ev.now _))))
theorem awake23 : Ev (fun k => clavigerlaw23_awake.f k) true := Ev.of clavigerlaw23_awake.mono (k := 40) (by kernel_rfl)
def ltr (i : Int) : ByteArray := match kind_of.f i with | some (_, _, l, _, _) => l | none => ⟨#[]⟩
def ksz (i : Int) : Int := match kind_of.f i with | some (_, s, _, _, _) => s | none => 0
def ktab : List S38 := kind_table.f.getD []
theorem ktab_is : kind_table.f = some ktab := rfl
theorem ktab_len : ktab.length = 12 := by kernel_rfl
theorem rows_all : ((List.range 12).all fun i => decide ((rd_T38 ktab (i : Int)).f2 = ltr (i : Int)) && decide ((rd_T38 ktab (i : Int)).f1 = ksz (i : Int)) && decide (0 ≤ ksz (i : Int) ∧ ksz (i : Int) ≤ 66)) = true := by kernel_rfl
theorem row_is (i : Nat) (h : i < 12) : (rd_T38 ktab (i : Int)).f2 = ltr (i : Int) ∧ (rd_T38 ktab (i : Int)).f1 = ksz (i : Int) ∧ 0 ≤ ksz (i : Int) ∧ ksz (i : Int) ≤ 66 := by
  have h1 := List.all_eq_true.1 rows_all i (List.mem_range.2 h)
  simp only [Bool.and_eq_true, decide_eq_true_eq] at h1
  exact ⟨h1.1.1, h1.1.2, h1.2⟩
theorem ref_rows_all : ((List.range 12).all fun i => decide (clavigerref23_Letter.f 10 (i : Int) = some (ltr (i : Int))) && decide (clavigerref23_Size.f (i : Int) = some (ksz (i : Int)))) = true := by kernel_rfl
theorem ref_row (i : Nat) (h : i < 12) : Ev (fun k => clavigerref23_Letter.f k (i : Int)) (ltr (i : Int)) ∧ clavigerref23_Size.f (i : Int) = some (ksz (i : Int)) := by
  have h1 := List.all_eq_true.1 ref_rows_all i (List.mem_range.2 h)
  simp only [Bool.and_eq_true, decide_eq_true_eq] at h1
  exact ⟨Ev.of (clavigerref23_Letter.mono _) (k := 10) h1.1, h1.2⟩
/-- The greatest size of a letter, from a row on: so many rows are left. -/
def mostF (L : ByteArray) : Nat → Int → Int
  | 0, m => m
  | d + 1, m => mostF L d (if (ltr ((11 - d : Nat) : Int)).toList = L.toList then mx m (ksz ((11 - d : Nat) : Int)) else m)
theorem mostF_bd (L : ByteArray) : ∀ (d : Nat) (m : Int), d ≤ 12 → 0 ≤ m → m ≤ 66 → 0 ≤ mostF L d m ∧ mostF L d m ≤ 66
  | 0, m, _, h0, h1 => ⟨h0, h1⟩
  | d + 1, m, hd, h0, h1 => by
    rw [mostF]
    have hr := (row_is (11 - d) (by omega)).2.2
    split
    · unfold mx
      split
      · exact mostF_bd L d _ (by omega) hr.1 hr.2
      · exact mostF_bd L d _ (by omega) h0 h1
    · exact mostF_bd L d _ (by omega) h0 h1
theorem most_loop (L : ByteArray) : ∀ (d : Nat) (m : Int), d ≤ 12 → Ev (fun k => kind_Most.l0 k L m ktab 12 ((12 - d : Nat) : Int)) (mostF L d m)
  | 0, m, _ => by
    refine Ev.step (fun k => by rw [kind_Most.l0]) ?_
    exact Ev.ifn (by decide) (Ev.now _)
  | d + 1, m, hd => by
    obtain ⟨r1, r2, _⟩ := row_is (11 - d) (by omega)
    have ih := fun m => most_loop L d m (by omega)
    refine Ev.step (fun k => by rw [kind_Most.l0]) ?_
    rw [ktab_len, show 12 - (d + 1) = 11 - d by omega, r1, r2, w64 (by omega) (by omega), show (((11 - d : Nat) : Int) + 1) = ((12 - d : Nat) : Int) by omega]
    refine Ev.ifp (by omega) ?_
    refine Ev.ifp (by omega) ?_
    refine Ev.ifp (by omega) ?_
    rw [mostF]
    by_cases h : (ltr ((11 - d : Nat) : Int)).toList = L.toList
    · rw [if_pos h]
      exact Ev.ifp h (ih _)
    · rw [if_neg h]
      exact Ev.ifn h (ih _)
theorem most_is (L : ByteArray) : Ev (fun k => kind_Most.f k L) (mostF L 12 0) := by
  refine Ev.congr (fun k => by rw [kind_Most.f]) ?_
  refine Ev.bindc ktab_is ?_
  rw [ktab_len]
  exact most_loop L 12 0 (by decide)
theorem ref_most_loop (L : ByteArray) : ∀ (d : Nat) (m : Int), d ≤ 11 → Ev (fun k => clavigerref23_Most.l0 k L m ((12 - d : Nat) : Int)) (mostF L d m)
  | 0, m, _ => by
    refine Ev.step (fun k => by rw [clavigerref23_Most.l0]) ?_
    exact Ev.ifn (by decide) (Ev.now _)
  | d + 1, m, hd => by
    obtain ⟨r1, r2⟩ := ref_row (11 - d) (by omega)
    have ih := fun m => ref_most_loop L d m (by omega)
    refine Ev.step (fun k => by rw [clavigerref23_Most.l0]) ?_
    rw [show 12 - (d + 1) = 11 - d by omega, w64 (by omega) (by omega), show (((11 - d : Nat) : Int) + 1) = ((12 - d : Nat) : Int) by omega]
    refine Ev.ifp (by omega) ?_
    refine Ev.bind r1 ?_
    rw [mostF]
    by_cases h : (ltr ((11 - d : Nat) : Int)).toList = L.toList
    · rw [if_pos h]
      refine Ev.ifp h ?_
      refine Ev.bindc r2 ?_
      unfold mx
      by_cases hm : ksz ((11 - d : Nat) : Int) > m
      · rw [if_pos hm]
        exact Ev.ifp hm (Ev.bindc r2 (ih _))
      · rw [if_neg hm]
        exact Ev.ifn hm (ih _)
    · rw [if_neg h]
      exact Ev.ifn h (ih _)
theorem ref_most_is (L : ByteArray) : Ev (fun k => clavigerref23_Most.f k L) (mostF L 12 0) := by
  refine Ev.congr (fun k => by rw [clavigerref23_Most.f]) ?_
  refine (ref_most_loop L 11 0 (by decide)).eq ?_
  rw [show mostF L 12 0 = mostF L 11 (if (ltr 0).toList = L.toList then mx 0 (ksz 0) else 0) from rfl]
  have : (if (ltr 0).toList = L.toList then mx 0 (ksz 0) else 0) = 0 := by
    split
    · kernel_rfl
    · rfl
  rw [this]
/-- The first kind of a letter and a size. -/
def ofF (L : ByteArray) (s : Int) : Nat → Int × Bool
  | 0 => (0, false)
  | d + 1 => if (ltr ((11 - d : Nat) : Int)).toList = L.toList ∧ ksz ((11 - d : Nat) : Int) = s then (((11 - d : Nat) : Int), true) else ofF L s d
theorem ofF_true (L : ByteArray) (s : Int) : ∀ (d : Nat) (k : Int), d ≤ 11 → ofF L s d = (k, true) → 1 ≤ k ∧ k ≤ 11 ∧ (ltr k).toList = L.toList ∧ ksz k = s
  | 0, k, _, h => by simp [ofF] at h
  | d + 1, k, hd, h => by
    rw [ofF] at h
    split at h
    · rename_i hc
      simp only [Prod.mk.injEq, and_true] at h
      subst h
      exact ⟨by omega, by omega, hc⟩
    · exact ofF_true L s d k (by omega) h
theorem ofF_false (L : ByteArray) (s : Int) : ∀ (d : Nat), (ofF L s d).2 = false → ofF L s d = (0, false)
  | 0, _ => rfl
  | d + 1, h => by
    rw [ofF] at h ⊢
    split at h
    · simp at h
    · rename_i hc
      rw [if_neg hc]
      exact ofF_false L s d h
theorem of_loop (L : ByteArray) (s : Int) : ∀ (d f : Nat), d ≤ 11 → d < f → kind_first.l0 (fun x => (x.f2.toList == L.toList) && (x.f1 == s)) f ktab ((12 - d : Nat) : Int) = some (ofF L s d)
  | 0, f + 1, _, _ => by
    rw [kind_first.l0, ktab_len, if_neg (by decide)]
    rfl
  | d + 1, f + 1, hd, hf => by
    obtain ⟨r1, r2, _⟩ := row_is (11 - d) (by omega)
    rw [kind_first.l0, ktab_len, show 12 - (d + 1) = 11 - d by omega, r1, r2, w64 (by omega) (by omega), show (((11 - d : Nat) : Int) + 1) = ((12 - d : Nat) : Int) by omega, if_pos (by omega), if_pos (by omega), if_pos (by omega), of_loop L s d f (by omega) (by omega), ofF]
    by_cases h : (ltr ((11 - d : Nat) : Int)).toList = L.toList ∧ ksz ((11 - d : Nat) : Int) = s
    · rw [if_pos h, if_pos (by rw [h.1, h.2]; simp)]
    · rw [if_neg h, if_neg (by simp only [Bool.and_eq_true, beq_iff_eq]; exact h)]
theorem kof_is (L : ByteArray) (s : Int) : kind_Of.f L s = some (ofF L s 11) := by
  unfold kind_Of.f kind_first.f
  rw [ktab_is, Option.bind_some, kind_first.l0, ktab_len, if_pos (by decide), if_pos (by decide), if_neg (by decide), w64 (by decide) (by decide)]
  exact of_loop L s 11 19 (by decide) (by decide)
theorem ref_of_loop (L : ByteArray) (s : Int) : ∀ (d : Nat), d ≤ 11 → Ev (fun k => clavigerref23_Of.l0 k L s ((12 - d : Nat) : Int)) (ofF L s d)
  | 0, _ => by
    refine Ev.step (fun k => by rw [clavigerref23_Of.l0]) ?_
    exact Ev.ifn (by decide) (Ev.now _)
  | d + 1, hd => by
    obtain ⟨r1, r2⟩ := ref_row (11 - d) (by omega)
    have ih := ref_of_loop L s d (by omega)
    refine Ev.step (fun k => by rw [clavigerref23_Of.l0]) ?_
    rw [show 12 - (d + 1) = 11 - d by omega, w64 (by omega) (by omega), show (((11 - d : Nat) : Int) + 1) = ((12 - d : Nat) : Int) by omega]
    refine Ev.ifp (by omega) ?_
    refine Ev.bind r1 ?_
    rw [ofF]
    by_cases h : (ltr ((11 - d : Nat) : Int)).toList = L.toList
    · refine Ev.ifp h ?_
      refine Ev.bindc r2 ?_
      by_cases hs : ksz ((11 - d : Nat) : Int) = s
      · rw [if_pos ⟨h, hs⟩]
        exact Ev.ifp hs (Ev.now _)
      · rw [if_neg (fun hh => hs hh.2)]
        exact Ev.ifn hs ih
    · rw [if_neg (fun hh => h hh.1)]
      exact Ev.ifn h ih
theorem ref_of_is (L : ByteArray) (s : Int) : Ev (fun k => clavigerref23_Of.f k L s) (ofF L s 11) := by
  refine Ev.congr (fun k => by rw [clavigerref23_Of.f]) ?_
  exact ref_of_loop L s 11 (by decide)

def katx (i : Int) : ByteArray := match kind_of.f i with | some (_, _, _, _, t) => t | none => ⟨#[]⟩
def kcv (i : Int) : Int := match kind_of.f i with | some (_, _, _, c, _) => c | none => 0
theorem rows_by_all : ((List.range 12).all fun i => decide ((rd_T38 ktab (i : Int)).f4 = katx (i : Int)) && decide ((rd_T38 ktab (i : Int)).f3 = kcv (i : Int)) && decide (clavigerref23_text.f (i : Int) = some (katx (i : Int))) && decide (clavigerref23_Curve.f (i : Int) = some (kcv (i : Int))) && decide (clavigerref23_Size.f (i : Int) = some (ksz (i : Int)))) = true := by kernel_rfl
theorem row_by (i : Nat) (h : i < 12) : (rd_T38 ktab (i : Int)).f4 = katx (i : Int) ∧ (rd_T38 ktab (i : Int)).f3 = kcv (i : Int) ∧ clavigerref23_text.f (i : Int) = some (katx (i : Int)) ∧ clavigerref23_Curve.f (i : Int) = some (kcv (i : Int)) ∧ clavigerref23_Size.f (i : Int) = some (ksz (i : Int)) := by
  have h1 := List.all_eq_true.1 rows_by_all i (List.mem_range.2 h)
  simp only [Bool.and_eq_true, decide_eq_true_eq, beq_iff_eq] at h1
  exact ⟨h1.1.1.1.1, h1.1.1.1.2, h1.1.1.2, h1.1.2, h1.2⟩
/-- The first kind of a text, a curve and a size. -/
def byF (T : ByteArray) (c s : Int) : Nat → Int × Bool
  | 0 => (0, false)
  | d + 1 => if (katx ((11 - d : Nat) : Int)).toList = T.toList ∧ kcv ((11 - d : Nat) : Int) = c ∧ ksz ((11 - d : Nat) : Int) = s then (((11 - d : Nat) : Int), true) else byF T c s d
theorem by_loop (T : ByteArray) (c s : Int) : ∀ (d f : Nat), d ≤ 11 → d < f → kind_first.l0 (fun x => (x.f4.toList == T.toList) && (x.f3 == c) && (x.f1 == s)) f ktab ((12 - d : Nat) : Int) = some (byF T c s d)
  | 0, f + 1, _, _ => by
    rw [kind_first.l0, ktab_len, if_neg (by decide)]
    rfl
  | d + 1, f + 1, hd, hf => by
    obtain ⟨_, r2, _⟩ := row_is (11 - d) (by omega)
    obtain ⟨r4, r3, _⟩ := row_by (11 - d) (by omega)
    rw [kind_first.l0, ktab_len, show 12 - (d + 1) = 11 - d by omega, r4, r3, r2, w64 (by omega) (by omega), show (((11 - d : Nat) : Int) + 1) = ((12 - d : Nat) : Int) by omega, if_pos (by omega), if_pos (by omega), if_pos (by omega), by_loop T c s d f (by omega) (by omega), byF]
    by_cases h : (katx ((11 - d : Nat) : Int)).toList = T.toList ∧ kcv ((11 - d : Nat) : Int) = c ∧ ksz ((11 - d : Nat) : Int) = s
    · rw [if_pos h, if_pos (by rw [h.1, h.2.1, h.2.2]; simp)]
    · rw [if_neg h, if_neg (by simp only [Bool.and_eq_true, beq_iff_eq, and_assoc]; exact h)]
theorem first_by (T : ByteArray) (c s : Int) : kind_first.f (fun x => (x.f4.toList == T.toList) && (x.f3 == c) && (x.f1 == s)) = some (byF T c s 11) := by
  unfold kind_first.f
  rw [ktab_is, Option.bind_some, kind_first.l0, ktab_len, if_pos (by decide), if_pos (by decide), if_neg (by decide), w64 (by decide) (by decide)]
  exact by_loop T c s 11 19 (by decide) (by decide)
theorem ref_by_loop (T : ByteArray) (c s : Int) : ∀ (d : Nat), d ≤ 11 → Ev (fun k => clavigerref23_By.l0 k c s T ((12 - d : Nat) : Int)) (byF T c s d)
  | 0, _ => by
    refine Ev.step (fun k => by rw [clavigerref23_By.l0]) ?_
    exact Ev.ifn (by decide) (Ev.now _)
  | d + 1, hd => by
    obtain ⟨_, _, r1, r2, r3⟩ := row_by (11 - d) (by omega)
    have ih := ref_by_loop T c s d (by omega)
    refine Ev.step (fun k => by rw [clavigerref23_By.l0]) ?_
    rw [show 12 - (d + 1) = 11 - d by omega, w64 (by omega) (by omega), show (((11 - d : Nat) : Int) + 1) = ((12 - d : Nat) : Int) by omega]
    refine Ev.ifp (by omega) (Ev.bindc r1 ?_)
    rw [byF]
    by_cases h : (katx ((11 - d : Nat) : Int)).toList = T.toList
    case neg => rw [if_neg (fun hh => h hh.1)]; exact Ev.ifn h ih
    refine Ev.ifp h (Ev.bindc r2 ?_)
    by_cases hc : kcv ((11 - d : Nat) : Int) = c
    case neg => rw [if_neg (fun hh => hc hh.2.1)]; exact Ev.ifn hc ih
    refine Ev.ifp hc (Ev.bindc r3 ?_)
    by_cases hs : ksz ((11 - d : Nat) : Int) = s
    · rw [if_pos ⟨h, hc, hs⟩]
      exact Ev.ifp hs (Ev.now _)
    · rw [if_neg (fun hh => hs hh.2.2)]
      exact Ev.ifn hs ih
theorem kby_is (l : List Int) (c s : Int) (hs : l.length ≤ 1000) : Ev (fun k => kind_By.f k l c s) (byF (if rightA l = true then strOfNums (joinI (l.map num)) else ⟨#[]⟩) c s 11) := by
  refine Ev.congr (fun k => by rw [kind_By.f]) ?_
  refine Ev.bind (oid_text_is l (by omega)) ?_
  rw [first_by]
  exact Ev.now _
theorem ref_by_is (l : List Int) (c s : Int) (hs : l.length ≤ 1000) : Ev (fun k => clavigerref23_By.f k l c s) (byF (if rightA l = true then strOfNums (joinI (l.map num)) else ⟨#[]⟩) c s 11) := by
  refine Ev.congr (fun k => by rw [clavigerref23_By.f]) ?_
  refine Ev.bind (ref17_text_is l (by omega)) ?_
  exact ref_by_loop _ c s 11 (by decide)
theorem tells_all : ((List.range 12).all fun i => clavigerlaw23_KindTells.j1 60 (i : Int) false == some true) = true := by kernel_rfl
theorem KindTells : clavigerlaw23_KindTells.Pure := by
  intro a0 l1 a2 a3 a4 _ h1 _ hw1 _ _ h4
  apply Ev.rounds
  have hbig : Ev (fun k => clavigerlaw23_KindTells.j0 k a0 l1 a2 a3 a4 true) true := by
    refine Ev.step (fun k => by rw [clavigerlaw23_KindTells.j0]) ?_
    exact Ev.ifp rfl (Ev.bind awake23 (Ev.now _))
  have hj1 : Ev (fun k => clavigerlaw23_KindTells.j1 k a0 false) true := by
    by_cases h : 0 ≤ a0 ∧ a0 < 12
    · have h1 := List.all_eq_true.1 tells_all a0.toNat (List.mem_range.2 (by omega))
      rw [Int.toNat_of_nonneg h.1, beq_iff_eq] at h1
      exact Ev.of (fun k => (clavigerlaw23_KindTells.mono_l k).2 a0 false) (k := 60) h1
    have h0 : kind_of.f a0 = some ((⟨#[]⟩ : ByteArray), 0, (⟨#[]⟩ : ByteArray), 0, (⟨#[]⟩ : ByteArray)) := by rw [of_out h]; rfl
    refine Ev.step (fun k => by rw [clavigerlaw23_KindTells.j1]) ?_
    refine Ev.ifn (by simp) ?_
    refine Ev.bindc (a := (⟨#[]⟩ : ByteArray)) (by unfold kind_Name.f; rw [h0]; rfl) ?_
    refine Ev.bindc (a := (⟨#[]⟩ : ByteArray)) (by unfold clavigerref23_Name.f; iterate 11 rw [if_neg (by omega)]) (Ev.ifp rfl ?_)
    refine Ev.bindc (a := (0 : Int)) (by unfold kind_Size.f; rw [h0]; rfl) ?_
    refine Ev.bindc (a := (0 : Int)) (by unfold clavigerref23_Size.f; iterate 11 rw [if_neg (by omega)]) (Ev.ifp rfl ?_)
    refine Ev.bindc (a := (⟨#[]⟩ : ByteArray)) (by unfold kind_Letter.f; rw [h0]; rfl) ?_
    have hL : Ev (fun k => clavigerref23_Letter.f k a0) (⟨#[]⟩ : ByteArray) := by
      have hl2 : Ev (fun k => clavigerref23_Letter.j2 k a0 false) (⟨#[]⟩ : ByteArray) := by
        refine Ev.step (fun k => by rw [clavigerref23_Letter.j2]) (Ev.ifn (by simp) ?_)
        by_cases g : a0 ≥ 8
        · exact Ev.ifp g (Ev.ifn (by omega) (Ev.now _))
        · exact Ev.ifn g (Ev.now _)
      have hl1 : Ev (fun k => clavigerref23_Letter.j1 k a0 false) (⟨#[]⟩ : ByteArray) := by
        refine Ev.step (fun k => by rw [clavigerref23_Letter.j1]) (Ev.ifn (by simp) (Ev.ifn (by omega) ?_))
        rw [show (a0 == 7) = false from beq_eq_false_iff_ne.2 (by omega)]
        exact hl2
      have hl0 : Ev (fun k => clavigerref23_Letter.j0 k a0 false) (⟨#[]⟩ : ByteArray) := by
        refine Ev.step (fun k => by rw [clavigerref23_Letter.j0]) (Ev.ifn (by simp) (Ev.ifn (by omega) ?_))
        rw [show (a0 == 5) = false from beq_eq_false_iff_ne.2 (by omega)]
        exact hl1
      refine Ev.congr (fun k => by rw [clavigerref23_Letter.f]) ?_
      by_cases g : a0 ≥ 1
      · rw [decide_eq_false (by omega)]
        exact Ev.ifp g hl0
      · exact Ev.ifn g hl0
    refine Ev.bind hL (Ev.ifp rfl ?_)
    refine Ev.bindc (a := (0 : Int)) (by unfold kind_Curve.f; rw [h0]; rfl) ?_
    refine Ev.bindc (a := (0 : Int)) (by unfold clavigerref23_Curve.f; split <;> first | rfl | (rw [if_neg (by omega)])) (Ev.ifp rfl ?_)
    have hA1 : Ev (fun k => kind_Arcs.f k a0) ([] : List Int) := by
      refine Ev.congr (fun k => by rw [kind_Arcs.f]) ?_
      refine Ev.bindc h0 ?_
      refine Ev.bind (a := (([] : List Int), false)) (Ev.of (oid_Parse.mono _) (k := 20) (by kernel_rfl)) ?_
      exact Ev.now _
    have hA2 : Ev (fun k => clavigerref23_Arcs.f k a0) ([] : List Int) := by
      refine Ev.congr (fun k => by rw [clavigerref23_Arcs.f]) ?_
      refine Ev.bindc (a := (⟨#[]⟩ : ByteArray)) (by unfold clavigerref23_text.f; iterate 11 rw [if_neg (by omega)]) ?_
      refine Ev.bind (a := (([] : List Int), false)) (Ev.of (clavigerref17_Parse.mono _) (k := 20) (by kernel_rfl)) ?_
      exact Ev.now _
    refine Ev.bind hA1 (Ev.bind hA2 ?_)
    refine Ev.bind (a := true) (Ev.of (clavigerplain_Ints.mono _ _) (k := 5) (by kernel_rfl)) (Ev.ifp rfl ?_)
    exact Ev.bind awake23 (Ev.now _)
  refine Ev.congr (fun k => by rw [clavigerlaw23_KindTells.f]) ?_
  by_cases g1 : (l1.length : Int) > 60
  · exact Ev.ifp g1 hbig
  refine Ev.ifn g1 ?_
  by_cases g4 : (a4.size : Int) > 100
  · rw [decide_eq_true g4]; exact hbig
  rw [decide_eq_false g4]
  refine Ev.step (fun k => by rw [clavigerlaw23_KindTells.j0]) ?_
  refine Ev.ifn (by simp) (Ev.bind (kby_is l1 a2 a3 (by omega)) (Ev.bind (ref_by_is l1 a2 a3 (by omega)) (Ev.bindc (kof_is a4 a3) (Ev.bind (ref_of_is a4 a3) ?_))))
  refine Ev.ifp rfl (Ev.ifn (by simp) (Ev.ifp rfl (Ev.ifn (by simp) (Ev.bind (most_is a4) (Ev.bind (ref_most_is a4) ?_)))))
  rw [bne_self_eq_false]
  exact hj1

theorem ref_let_all : ((List.range 12).all fun i => decide (clavigerref23_Letter.f 10 (i : Int) = some (ltrF (i : Int)))) = true := by kernel_rfl
theorem ref_letter_is (a : Int) : Ev (fun k => clavigerref23_Letter.f k a) (ltrF a) := by
  by_cases h : 0 ≤ a ∧ a < 12
  · have h1 := List.all_eq_true.1 ref_let_all a.toNat (List.mem_range.2 (by omega))
    rw [Int.toNat_of_nonneg h.1] at h1
    exact Ev.of (clavigerref23_Letter.mono _) (k := 10) (of_decide_eq_true h1)
  · have e : ltrF a = ⟨#[]⟩ := by unfold ltrF; rw [of_out h]; kernel_rfl
    rw [e]
    have hj : Ev (fun k => clavigerref23_Letter.j0 k a false) ⟨#[]⟩ := by
      refine Ev.step (fun k => by rw [clavigerref23_Letter.j0]) ?_
      refine Ev.ifn (by simp) ?_
      refine Ev.ifn (by omega) ?_
      rw [show (a == 5) = false from beq_eq_false_iff_ne.2 (by omega)]
      refine Ev.step (fun k => by rw [clavigerref23_Letter.j1]) ?_
      refine Ev.ifn (by simp) ?_
      refine Ev.ifn (by omega) ?_
      rw [show (a == 7) = false from beq_eq_false_iff_ne.2 (by omega)]
      refine Ev.step (fun k => by rw [clavigerref23_Letter.j2]) ?_
      refine Ev.ifn (by simp) ?_
      by_cases h8 : a ≥ 8
      · exact Ev.ifp h8 (Ev.ifn (by omega) (Ev.now _))
      · exact Ev.ifn h8 (Ev.now _)
    refine Ev.congr (fun k => by rw [clavigerref23_Letter.f]) ?_
    by_cases h1 : a ≥ 1
    · refine Ev.ifp h1 ?_
      rw [decide_eq_false (by omega)]
      exact hj
    · exact Ev.ifn h1 hj
end Go.Proofs.YtleimmhpcomapaaGreatDoor.Pure
