/- Whatever two lists of arcs (up to 60 each), the contents and the text (up to 200 bytes each): what was written is read as it was, as bytes and as a text, what is read is written so again, and unlike names have unlike contents (P17.4). -/
import Derived.Test.YtjkhfognncadbaaDoorPOidBackx
namespace Go.Proofs.YtjkhfognncadbaaDoor.Pure
open Go.RowKit Go.Proofs.YtjkhfognncadbaaDoor.POidBack Go.Proofs.YtjkhfognncadbaaDoorW.PrintWords Go.Proofs.YtjkhfognncadbaaDoorW.PrintLast
set_option linter.unusedVariables false
set_option linter.unusedSimpArgs false
/-- The number of bytes. -/
def getN (l : List Int) : Int := l.foldl (fun n b => n * 256 + b) 0
theorem getN_snoc (l : List Int) (x : Int) : getN (l ++ [x]) = getN l * 256 + x := by simp [getN]
theorem getN_take {l : List Int} (i : Nat) (h : i < l.length) : getN (l.take (i + 1)) = getN (l.take i) * 256 + l[i] := by
  rw [List.take_succ_eq_append_getElem h, getN_snoc]
theorem getN_bd (n : Nat) : ∀ l : List Int, OkB l → l.length ≤ n → 0 ≤ getN l ∧ getN l < 256 ^ n := by
  induction n with
  | zero => intro l h hn; obtain rfl := List.eq_nil_of_length_eq_zero (Nat.le_zero.1 hn); simp [getN]
  | succ n ih =>
    intro l h hn
    have hp : (0 : Int) < 256 ^ n := Int.pow_pos (by decide)
    by_cases e : l = []
    · subst e
      rw [Int.pow_succ]
      simp only [getN, List.foldl_nil]
      omega
    · obtain ⟨m, x, rfl⟩ : ∃ m x, l = m ++ [x] := ⟨l.dropLast, l.getLast e, (List.dropLast_concat_getLast e).symm⟩
      have h1 := ih m (fun y hy => h y (List.mem_append_left _ hy)) (by simp at hn; omega)
      have h2 := h x (by simp)
      rw [getN_snoc, Int.pow_succ]
      omega
theorem getN_lt7 (l : List Int) (h : OkB l) (hn : l.length ≤ 7) : 0 ≤ getN l ∧ getN l < 72057594037927936 := getN_bd 7 l h hn
theorem join_nil (xs : List (List UInt8)) : Lib.join xs [] = xs.flatten := by
  unfold Lib.join List.intercalate
  induction xs with
  | nil => rfl
  | cons x xs ih =>
    cases xs with
    | nil => rfl
    | cons y ys => simp only [List.intersperse_cons_cons, List.flatten_cons, List.nil_append]; rw [ih]; simp
def okArc (x : Int) : Bool := decide (0 ≤ x ∧ x ≤ 2147483647)
def rightA : List Int → Bool
  | a :: b :: r => decide (r.length ≤ 18) && (decide (0 ≤ a ∧ a ≤ 2) && (decide (0 ≤ b ∧ b ≤ if a < 2 then 39 else 2147483567) && r.all okArc))
  | _ => false
theorem oid_right_loop (l : List Int) (h2 : 2 ≤ l.length) (hs : l.length ≤ 1000) (d : Nat) : ∀ i : Nat, 2 ≤ i → i ≤ l.length → l.length - i = d →
    Ev (fun k => oid_Right.l0 k l l (l.length : Int) (i : Int)) ((l.drop i).all okArc) := by
  induction d with
  | zero =>
    intro i _ hi hd
    refine Ev.step (fun k => by rw [oid_Right.l0]) ?_
    refine Ev.ifn (by omega) ?_
    rw [List.drop_eq_nil_of_le (by omega)]
    exact Ev.now _
  | succ d ih =>
    intro i hi2 hi hd
    have hlt : i < l.length := by omega
    refine Ev.step (fun k => by rw [oid_Right.l0]) ?_
    refine Ev.ifp (by omega) ?_
    refine Ev.ifp (by omega) ?_
    refine Ev.ifp (by omega) ?_
    rw [rd_get i hlt, List.drop_eq_getElem_cons hlt, List.all_cons]
    by_cases h0 : l[i] < 0
    · refine Ev.ifp h0 ((Ev.now _).eq ?_)
      have : okArc l[i] = false := decide_eq_false (by omega)
      rw [this, Bool.false_and]
    refine Ev.ifn h0 ?_
    refine Ev.bindc (a := 2147483647) (by unfold oid_most.f; rw [if_neg (by omega), if_pos (by omega)]) ?_
    by_cases h1 : l[i] > 2147483647
    · refine Ev.ifp h1 ((Ev.now _).eq ?_)
      have : okArc l[i] = false := decide_eq_false (by omega)
      rw [this, Bool.false_and]
    · refine Ev.ifn h1 ?_
      have : okArc l[i] = true := decide_eq_true (by omega)
      rw [this, Bool.true_and, w64 (by omega) (by omega)]
      exact ih (i + 1) (by omega) (by omega) (by omega)
theorem oid_right_is (l : List Int) (hs : l.length ≤ 1000000) : Ev (fun k => oid_Right.f k l) (rightA l) := by
  have hno : Ev (fun k => oid_Right.j0 k l true) false := by
    refine Ev.step (fun k => by rw [oid_Right.j0]) ?_
    exact Ev.ifp rfl (Ev.now _)
  refine Ev.congr (fun k => by rw [oid_Right.f]) ?_
  match l, hno with
  | [], hno => exact Ev.ifp (by decide) hno
  | [a], hno => exact Ev.ifp (by simp) hno
  | a :: b :: r, hno =>
    refine Ev.ifn (by simp <;> omega) ?_
    by_cases h20 : r.length ≤ 18
    · rw [decide_eq_false (by simp <;> omega)]
      refine Ev.step (fun k => by rw [oid_Right.j0]) ?_
      refine Ev.ifn (by simp) ?_
      have hlen : (a :: b :: r).length = r.length + 2 := rfl
      rw [rightA, decide_eq_true h20, Bool.true_and]
      have hl := oid_right_loop (a :: b :: r) (by omega) (by omega) _ 2 (by omega) (by omega) rfl
      refine Ev.step (fun k => by rw [oid_Right.l0]) ?_
      refine Ev.ifp (by omega) ?_
      refine Ev.ifp (by omega) ?_
      refine Ev.ifp (by omega) ?_
      rw [show rd (a :: b :: r) 0 = a from rfl]
      by_cases ha : a < 0
      · refine Ev.ifp ha ((Ev.now _).eq ?_)
        rw [decide_eq_false (show ¬ (0 ≤ a ∧ a ≤ 2) by omega), Bool.false_and]
      refine Ev.ifn ha ?_
      refine Ev.bindc (a := 2) (by unfold oid_most.f; rw [if_pos rfl]) ?_
      by_cases ha2 : a > 2
      · refine Ev.ifp ha2 ((Ev.now _).eq ?_)
        rw [decide_eq_false (show ¬ (0 ≤ a ∧ a ≤ 2) by omega), Bool.false_and]
      refine Ev.ifn ha2 ?_
      rw [decide_eq_true (show 0 ≤ a ∧ a ≤ 2 by omega), Bool.true_and, show wrap64 (0 + 1) = 1 from w64 (by decide) (by decide)]
      refine Ev.step (fun k => by rw [oid_Right.l0]) ?_
      refine Ev.ifp (by omega) ?_
      refine Ev.ifp (by omega) ?_
      refine Ev.ifp (by omega) ?_
      rw [show rd (a :: b :: r) 1 = b from rfl]
      by_cases hb : b < 0
      · refine Ev.ifp hb ((Ev.now _).eq ?_)
        rw [decide_eq_false (show ¬ (0 ≤ b ∧ b ≤ if a < 2 then 39 else 2147483567) by omega), Bool.false_and]
      refine Ev.ifn hb ?_
      refine Ev.bindc (a := if a < 2 then 39 else 2147483567) (by
        unfold oid_most.f
        rw [if_neg (by decide), if_neg (by decide), if_pos (by omega), show rd (a :: b :: r) 0 = a from rfl]
        split <;> rfl) ?_
      by_cases hb2 : b > if a < 2 then 39 else 2147483567
      · refine Ev.ifp hb2 ((Ev.now _).eq ?_)
        rw [decide_eq_false (show ¬ (0 ≤ b ∧ b ≤ if a < 2 then 39 else 2147483567) by omega), Bool.false_and]
      refine Ev.ifn hb2 ?_
      rw [decide_eq_true (show 0 ≤ b ∧ b ≤ if a < 2 then 39 else 2147483567 by omega), Bool.true_and, show wrap64 (1 + 1) = 2 from w64 (by decide) (by decide)]
      exact hl
    · rw [decide_eq_true (by simp <;> omega)]
      refine hno.eq ?_
      rw [rightA, decide_eq_false h20, Bool.false_and]
/-- All but the last of a number's digits to the base 128, marked; all of them. -/
def hi (m : Nat) : List Int := if h : m = 0 then [] else hi (m / 128) ++ [128 + ((m % 128 : Nat) : Int)]
termination_by m
decreasing_by omega
def dig (m : Nat) : List Int := hi (m / 128) ++ [((m % 128 : Nat) : Int)]
theorem hi_zero : hi 0 = [] := by rw [hi]; simp
theorem hi_pos {m : Nat} (h : m ≠ 0) : hi m = hi (m / 128) ++ [128 + ((m % 128 : Nat) : Int)] := by rw [hi]; simp [h]
theorem hi_snoc (n : Nat) (b : Nat) (hb : 128 ≤ b) (hb2 : b < 256) (h : n * 128 + b % 128 ≠ 0) : hi (n * 128 + b % 128) = hi n ++ [(b : Int)] := by
  rw [hi_pos h, show (n * 128 + b % 128) / 128 = n by omega, show (n * 128 + b % 128) % 128 = b % 128 by omega]
  congr 2
  omega
theorem dig_snoc (n : Nat) (b : Nat) (hb : b < 128) : dig (n * 128 + b % 128) = hi n ++ [(b : Int)] := by
  rw [dig, show (n * 128 + b % 128) / 128 = n by omega, show (n * 128 + b % 128) % 128 = b by omega]
def numsP : List Int → List Int → Int → Bool → List Int × Bool
  | [], out, _, begun => (out, !begun && decide (0 < out.length ∧ out.length < 20))
  | b :: l, out, n, begun => if (begun = false ∧ b = 128) ∨ n > 2147483647 then ([], false) else if b ≥ 128 then numsP l out (n * 128 + b % 128) true else numsP l (out ++ [n * 128 + b % 128]) 0 false
theorem and127_all : ((List.range 256).all fun x => decide (Go.bits .and .u8 (x : Int) 127 = (x : Int) % 128)) = true := by kernel_rfl
theorem and127 {x : Int} (h0 : 0 ≤ x) (h1 : x < 256) : Go.bits .and .u8 x 127 = x % 128 := by
  have h := List.all_eq_true.1 and127_all x.toNat (List.mem_range.2 (by omega))
  rw [Int.toNat_of_nonneg h0] at h
  exact of_decide_eq_true h
theorem or_i64_low (i : Nat) {x y : Int} (hx0 : 0 ≤ x) (hx : x % 2 ^ i = 0) (hx1 : x < 9223372036854775808) (hy0 : 0 ≤ y) (hy : y < 2 ^ i) (hi : i ≤ 63) : Go.bits .or .i64 x y = x + y := by
  refine bits_join .i64 63 (by decide) (fun n h0 h1 => by rw [IntKind.wrap_i64]; omega) i x y hx0 hx (by simpa using hx1) hy0 hy ?_
  have : (2 : Int) ^ i ≤ 2 ^ 63 := by exact_mod_cast Nat.pow_le_pow_right (by decide) hi
  omega
theorem nums_loop (l : List Int) (hl : OkB l) (hs : l.length ≤ 1000000) (d : Nat) : ∀ (i : Nat) (out : List Int) (n : Int) (begun : Bool), i ≤ l.length → l.length - i = d → out.length ≤ i → 0 ≤ n → n ≤ 274877907071 →
    Ev (fun k => oid_numbers.l0 k (strOfNums l) out n begun (l.length : Int) (i : Int)) (numsP (l.drop i) out n begun) := by
  induction d with
  | zero =>
    intro i out n begun hi hd ho _ _
    refine Ev.step (fun k => by rw [oid_numbers.l0]) ?_
    refine Ev.ifn (by omega) ?_
    rw [List.drop_eq_nil_of_le (by omega), numsP]
    cases begun with
    | true => exact Ev.ifp rfl (Ev.now _)
    | false =>
      refine Ev.ifn (by simp) ?_
      by_cases h0 : (out.length : Int) > 0
      · refine Ev.ifp h0 ((Ev.now _).eq ?_)
        have : (decide ((out.length : Int) < 20)) = decide (0 < out.length ∧ out.length < 20) := decide_eq_decide.2 (by omega)
        rw [this]; rfl
      · refine Ev.ifn h0 ((Ev.now _).eq ?_)
        have : decide (0 < out.length ∧ out.length < 20) = false := decide_eq_false (by omega)
        rw [this]; rfl
  | succ d ih =>
    intro i out n begun hi hd ho hn0 hn
    have hlt : i < l.length := by omega
    have hb := hl.get i hlt
    have hbt := nums_bt hl i hlt
    rw [List.drop_eq_getElem_cons hlt, numsP]
    have hno : Ev (fun k => oid_numbers.j1 k (strOfNums l) out n (i : Int) (l.length : Int) (i : Int) true) ([], false) := by
      refine Ev.step (fun k => by rw [oid_numbers.j1]) ?_
      exact Ev.ifp rfl (Ev.now _)
    have hyes : ¬ n > 2147483647 → Ev (fun k => oid_numbers.j1 k (strOfNums l) out n (i : Int) (l.length : Int) (i : Int) false) (if l[i] ≥ 128 then numsP (l.drop (i + 1)) out (n * 128 + l[i] % 128) true else numsP (l.drop (i + 1)) (out ++ [n * 128 + l[i] % 128]) 0 false) := by
      intro hm
      refine Ev.step (fun k => by rw [oid_numbers.j1]) ?_
      refine Ev.ifn (by simp) ?_
      rw [nums_sizeI, hbt, and127 hb.1 hb.2, w64 (x := n * 128) (by omega) (by omega), w64 (x := l[i] % 128) (by omega) (by omega), w64 (x := (i : Int) + 1) (by omega) (by omega),
        or_i64_low 7 (by omega) (by omega) (by omega) (by omega) (by omega) (by decide)]
      refine Ev.ifp (by omega) ?_
      refine Ev.ifp (by omega) ?_
      by_cases h : l[i] ≥ 128
      · refine Ev.ifp h ?_
        rw [if_pos h, decide_eq_true h]
        exact ih (i + 1) out _ true (by omega) (by omega) (by omega) (by omega) (by omega)
      · refine Ev.ifn h ?_
        refine Ev.ifp (by omega) ?_
        rw [if_neg h, decide_eq_false h]
        exact ih (i + 1) _ 0 false (by omega) (by omega) (by simp; omega) (by omega) (by omega)
    refine Ev.step (fun k => by rw [oid_numbers.l0]) ?_
    refine Ev.ifp (by omega) ?_
    cases begun with
    | true =>
      refine Ev.ifp rfl ?_
      by_cases hm : n > 2147483647
      · rw [decide_eq_true hm, if_pos (Or.inr hm)]
        exact hno
      · rw [decide_eq_false hm, if_neg (by simp; omega)]
        exact hyes hm
    | false =>
      refine Ev.ifn (by simp) ?_
      rw [nums_sizeI, hbt]
      refine Ev.ifp (by omega) ?_
      refine Ev.ifp (by omega) ?_
      by_cases h128 : l[i] = 128
      · refine Ev.ifp h128 ?_
        rw [if_pos (Or.inl ⟨rfl, h128⟩)]
        exact hno
      · refine Ev.ifn h128 ?_
        by_cases hm : n > 2147483647
        · rw [decide_eq_true hm, if_pos (Or.inr hm)]
          exact hno
        · rw [decide_eq_false hm, if_neg (by simp [h128]; omega)]
          exact hyes hm
theorem nums_is (l : List Int) (hl : OkB l) (hs : l.length ≤ 1000000) : Ev (fun k => oid_numbers.f k (strOfNums l)) (numsP l [] 0 false) := by
  refine Ev.congr (fun k => by rw [oid_numbers.f, nums_sizeI]) ?_
  exact nums_loop l hl hs _ 0 [] 0 false (by omega) rfl (by simp) (by decide) (by decide)
/-- The bytes of numbers, one behind the other. -/
def digs : List Int → List Int
  | [] => []
  | m :: r => dig m.toNat ++ digs r
theorem digs_append (a b : List Int) : digs (a ++ b) = digs a ++ digs b := by
  induction a with
  | nil => rfl
  | cons x a ih => rw [List.cons_append, digs, digs, ih, List.append_assoc]
/-- What is read was written so. -/
theorem nums_sound : ∀ (l : List Int) (out : List Int) (n : Nat) (begun : Bool) (res : List Int), OkB l → begun = decide (n ≠ 0) → numsP l out n begun = (res, true) →
    ∃ ms : List Int, res = out ++ ms ∧ hi n ++ l = digs ms ∧ ∀ m ∈ ms, 0 ≤ m := by
  intro l
  induction l with
  | nil =>
    intro out n begun res _ hb h
    rw [numsP] at h
    simp only [Prod.mk.injEq, Bool.and_eq_true, Bool.not_eq_true'] at h
    obtain ⟨rfl, h1, _⟩ := h
    rw [h1] at hb
    have hn : n = 0 := by
      have := of_decide_eq_false hb.symm
      omega
    subst hn
    exact ⟨[], by simp, by rw [hi_zero]; rfl, by simp⟩
  | cons b l ih =>
    intro out n begun res hl hb h
    have hbd := hl.head
    obtain ⟨c, rfl⟩ : ∃ c : Nat, b = (c : Int) := ⟨b.toNat, by omega⟩
    rw [numsP] at h
    split at h
    · simp at h
    · rename_i hno
      have e : (n : Int) * 128 + (c : Int) % 128 = ((n * 128 + c % 128 : Nat) : Int) := by omega
      rw [e] at h
      split at h
      · rename_i h128
        have hz : n * 128 + c % 128 ≠ 0 := by
          intro hz
          apply hno
          left
          have hn : n = 0 := by omega
          rw [hb, hn]
          exact ⟨rfl, by omega⟩
        obtain ⟨ms, e1, e2, e3⟩ := ih out (n * 128 + c % 128) true res hl.tail (decide_eq_true hz).symm h
        refine ⟨ms, e1, ?_, e3⟩
        rw [← e2, hi_snoc n c (by omega) (by omega) hz]
        simp
      · rename_i h128
        obtain ⟨ms, e1, e2, e3⟩ := ih (out ++ [((n * 128 + c % 128 : Nat) : Int)]) 0 false res hl.tail (by simp) h
        refine ⟨((n * 128 + c % 128 : Nat) : Int) :: ms, by rw [e1]; simp, ?_, ?_⟩
        · rw [digs, ← e2, hi_zero, Int.toNat_natCast, dig_snoc n c (by omega)]
          simp
        · intro m hm
          rcases List.mem_cons.1 hm with rfl | hm
          · omega
          · exact e3 m hm
theorem hi_head (m : Nat) (r out : List Int) (hm : m ≤ 2147483647) : numsP (hi m ++ r) out 0 false = numsP r out (m : Int) (decide (m ≠ 0)) := by
  induction m using Nat.strongRecOn generalizing r with
  | _ m ih =>
    by_cases h : m = 0
    · subst h
      rw [hi_zero]
      rfl
    · rw [hi_pos h, List.append_assoc, ih (m / 128) (by omega) _ (by omega), List.singleton_append, numsP, if_neg, if_pos (by omega)]
      · rw [show (((m / 128 : Nat) : Int) * 128 + (128 + ((m % 128 : Nat) : Int)) % 128) = (m : Int) by omega]
        simp [h]
      · simp only [decide_eq_false_iff_not, not_or]
        omega
theorem nums_dig (m : Nat) (r out : List Int) (hm : m ≤ 2147483647) : numsP (dig m ++ r) out 0 false = numsP r (out ++ [(m : Int)]) 0 false := by
  rw [dig, List.append_assoc, hi_head _ _ _ (by omega), List.singleton_append, numsP, if_neg, if_neg (by omega)]
  · rw [show (((m / 128 : Nat) : Int) * 128 + ((m % 128 : Nat) : Int) % 128) = (m : Int) by omega]
  · simp only [decide_eq_false_iff_not, not_or]
    omega
theorem nums_digs : ∀ (ms : List Int) (out : List Int), (∀ m ∈ ms, 0 ≤ m ∧ m ≤ 2147483647) → numsP (digs ms) out 0 false = (out ++ ms, decide (0 < (out ++ ms).length ∧ (out ++ ms).length < 20))
  | [], out, _ => by rw [digs, numsP]; simp
  | m :: ms, out, h => by
    have h1 := h m (by simp)
    rw [digs, nums_dig _ _ _ (by omega), nums_digs ms _ (fun x hx => h x (List.mem_cons_of_mem _ hx)), Int.toNat_of_nonneg h1.1]
    simp
/-- The numbers of arcs. -/
def numsOf : List Int → List Int
  | a :: b :: r => (40 * a + b) :: r
  | _ => []
/-- Contents' arcs. -/
def goodA (l arcs : List Int) : Prop := rightA arcs = true ∧ l = digs (numsOf arcs)
theorem right_parts {arcs : List Int} (h : rightA arcs = true) : ∃ a b r, arcs = a :: b :: r ∧ r.length ≤ 18 ∧ 0 ≤ a ∧ a ≤ 2 ∧ 0 ≤ b ∧ (a < 2 → b ≤ 39) ∧ b ≤ 2147483567 ∧ ∀ x ∈ r, 0 ≤ x ∧ x ≤ 2147483647 := by
  match arcs, h with
  | [], h => simp [rightA] at h
  | [a], h => simp [rightA] at h
  | a :: b :: r, h =>
    rw [rightA] at h
    simp only [Bool.and_eq_true, decide_eq_true_eq, List.all_eq_true] at h
    obtain ⟨h1, h2, h3, h4⟩ := h
    refine ⟨a, b, r, rfl, h1, h2.1, h2.2, h3.1, fun h => by have := h3.2; rw [if_pos h] at this; exact this, by have := h3.2; split at this <;> omega, fun x hx => of_decide_eq_true (h4 x hx)⟩
theorem arcs_of {a b : Int} (ha0 : 0 ≤ a) (ha : a ≤ 2) (hb0 : 0 ≤ b) (hb : a < 2 → b ≤ 39) : mn 2 ((40 * a + b) / 40) = a := by
  unfold mn
  split <;> omega
/-- The arcs of numbers. -/
def arcsOf : List Int → List Int
  | m :: r => mn 2 (m / 40) :: (m - 40 * mn 2 (m / 40)) :: r
  | [] => []
def decA (l : List Int) : List Int × Bool := if (numsP l [] 0 false).2 = true then (if rightA (arcsOf (numsP l [] 0 false).1) = true then (arcsOf (numsP l [] 0 false).1, true) else ([], false)) else ([], false)
theorem mn_bd {m : Int} (h0 : 0 ≤ m) : 0 ≤ mn 2 (m / 40) ∧ mn 2 (m / 40) ≤ 2 ∧ 40 * mn 2 (m / 40) ≤ m := by
  unfold mn
  split <;> omega
theorem nums_bd : ∀ (l : List Int) (out : List Int) (n : Int) (begun : Bool), OkB l → 0 ≤ n → n ≤ 274877907071 → (∀ m ∈ out, 0 ≤ m ∧ m ≤ 274877907071) → ∀ m ∈ (numsP l out n begun).1, 0 ≤ m ∧ m ≤ 274877907071
  | [], out, n, begun, _, _, _, h => by rw [numsP]; exact h
  | b :: l, out, n, begun, hl, h0, h1, h => by
    have hb := hl.head
    rw [numsP]
    split
    · intro m hm; cases hm
    · split
      · exact nums_bd l out _ true hl.tail (by omega) (by omega) h
      · refine nums_bd l _ 0 false hl.tail (by decide) (by decide) ?_
        intro m hm
        rcases List.mem_append.1 hm with hm | hm
        · exact h m hm
        · obtain rfl := List.mem_singleton.1 hm
          omega
theorem nums_len : ∀ (l : List Int) (out : List Int) (n : Int) (begun : Bool) (res : List Int), numsP l out n begun = (res, true) → 0 < res.length ∧ res.length < 20
  | [], out, n, begun, res, h => by
    rw [numsP] at h
    simp only [Prod.mk.injEq, Bool.and_eq_true, decide_eq_true_eq] at h
    obtain ⟨rfl, _, h⟩ := h
    exact h
  | b :: l, out, n, begun, res, h => by
    rw [numsP] at h
    split at h
    · simp at h
    · split at h
      · exact nums_len l _ _ _ res h
      · exact nums_len l _ _ _ res h
theorem oid_decode_is (l : List Int) (hl : OkB l) (hs : l.length ≤ 1000000) : Ev (fun k => oid_Decode.f k (strOfNums l)) (decA l) := by
  refine Ev.congr (fun k => by rw [oid_Decode.f]) ?_
  refine Ev.bind (nums_is l hl (by omega)) ?_
  unfold decA
  by_cases h : (numsP l [] 0 false).2 = true
  · refine Ev.ifp h ?_
    rw [if_pos h]
    have hbd := nums_bd l [] 0 false hl (by decide) (by decide) (by simp)
    have hlen : 0 < (numsP l [] 0 false).1.length ∧ (numsP l [] 0 false).1.length < 20 := by
      exact nums_len l [] 0 false _ (by rw [Prod.ext_iff]; exact ⟨rfl, h⟩)
    generalize (numsP l [] 0 false).1 = ms at *
    match ms, hlen with
    | m :: r, hlen =>
      have hm := hbd m (by simp)
      have hq := mn_bd hm.1
      have ht : Int.tdiv m 40 = m / 40 := Int.tdiv_eq_ediv_of_nonneg hm.1
      refine Ev.ifp (by simp <;> omega) ?_
      rw [show rd (m :: r) 0 = m from rfl, ht, w64 (x := m / 40) (by omega) (by omega), w64 (x := 40 * mn 2 (m / 40)) (by omega) (by omega), w64 (x := m - 40 * mn 2 (m / 40)) (by omega) (by omega)]
      refine Ev.bindc rfl ?_
      refine Ev.ifp (by simp <;> omega) ?_
      refine Ev.bindc rfl ?_
      refine Ev.ifp (by simp at hlen ⊢; omega) ?_
      refine Ev.bindc rfl ?_
      refine Ev.bind (oid_right_is _ (by simp at hlen ⊢; omega)) ?_
      rw [show ([mn 2 (m / 40), m - 40 * mn 2 (m / 40)] : List Int) ++ (m :: r).drop 1 = arcsOf (m :: r) from rfl]
      by_cases hr : rightA (arcsOf (m :: r)) = true
      · exact Ev.ifp hr ((Ev.now _).eq (if_pos hr).symm)
      · exact Ev.ifn hr ((Ev.now _).eq (if_neg hr).symm)
  · refine Ev.ifn h ?_
    rw [if_neg h]
    exact Ev.now _
theorem decA_sound {l arcs : List Int} (hl : OkB l) (h : decA l = (arcs, true)) : goodA l arcs := by
  unfold decA at h
  split at h
  · rename_i h1
    split at h
    · rename_i h2
      simp only [Prod.mk.injEq, and_true] at h
      subst h
      refine ⟨h2, ?_⟩
      obtain ⟨ms, e1, e2, e3⟩ := nums_sound l [] 0 false (numsP l [] 0 false).1 hl rfl (by rw [Prod.ext_iff]; exact ⟨rfl, h1⟩)
      rw [hi_zero, List.nil_append] at e2
      rw [List.nil_append] at e1
      rw [e1] at h2 ⊢
      rw [e2]
      match ms, h2 with
      | m :: r, h2 =>
        rw [arcsOf, numsOf]
        congr 2
        omega
      | [], h2 => rfl
    · simp at h
  · simp at h
theorem decA_complete {l arcs : List Int} (h : goodA l arcs) : decA l = (arcs, true) := by
  obtain ⟨hr, rfl⟩ := h
  obtain ⟨a, b, r, rfl, h18, ha0, ha, hb0, hb39, hb, hx⟩ := right_parts hr
  have hn : numsP (digs (numsOf (a :: b :: r))) [] 0 false = (numsOf (a :: b :: r), true) := by
    rw [numsOf, nums_digs]
    · rw [List.nil_append]
      congr 1
      exact decide_eq_true (by simp; omega)
    · intro m hm
      rcases List.mem_cons.1 hm with rfl | hm
      · omega
      · exact hx m hm
  have he : arcsOf (numsOf (a :: b :: r)) = a :: b :: r := by
    rw [numsOf, arcsOf, arcs_of ha0 ha hb0 hb39]
    congr 2
    omega
  unfold decA
  rw [hn]
  simp only [if_true]
  rw [he, if_pos hr]
theorem digs_ok : ∀ (ms : List Int), OkB (digs ms)
  | [] => OkB.nil
  | m :: r => by
    rw [digs]
    have hh : ∀ n : Nat, OkB (hi n) := by
      intro n
      induction n using Nat.strongRecOn with
      | _ n ih =>
        by_cases h : n = 0
        · subst h; rw [hi_zero]; exact OkB.nil
        · rw [hi_pos h]
          exact (ih _ (by omega)).append (OkB.one (by omega) (by omega))
    exact ((hh _).append (OkB.one (by omega) (by omega))).append (digs_ok r)
theorem slices_Equal_int_is (a b : List Int) (h : a.length ≤ 9223372036854775806) : Ev (fun k => slices_Equal_int_int.f k a b) (decide (a = b)) := by
  refine Ev.congr (fun k => by rw [slices_Equal_int_int.f]) ?_
  by_cases hl : a.length = b.length
  case neg =>
    refine Ev.ifn (by omega) ((Ev.now _).eq ?_)
    rw [decide_eq_false (fun e => hl (by rw [e]))]
  refine Ev.ifp (by omega) ?_
  have loop : ∀ d i : Nat, i ≤ a.length → a.length - i = d → Ev (fun k => slices_Equal_int_int.l0 k a b (a.length : Int) (i : Int)) (decide (a.drop i = b.drop i)) := by
    intro d
    induction d with
    | zero =>
      intro i hi hd
      refine Ev.step (fun k => by rw [slices_Equal_int_int.l0]) ?_
      refine Ev.ifn (by omega) ((Ev.now _).eq ?_)
      rw [List.drop_eq_nil_of_le (by omega), List.drop_eq_nil_of_le (by omega), decide_eq_true rfl]
    | succ d ih =>
      intro i hi hd
      refine Ev.step (fun k => by rw [slices_Equal_int_int.l0]) ?_
      rw [w64 (by omega) (by omega)]
      refine Ev.ifp (by omega) (Ev.ifp (by omega) (Ev.ifp (by omega) (Ev.ifp (by omega) ?_)))
      have ha : i < a.length := by omega
      have hb : i < b.length := by omega
      rw [rd_get i ha, rd_get i hb, List.drop_eq_getElem_cons ha, List.drop_eq_getElem_cons hb]
      by_cases he : a[i] = b[i]
      · refine Ev.ifp he ((ih (i + 1) (by omega) (by omega)).eq ?_)
        rw [he]
        simp only [List.cons.injEq, true_and]
      · refine Ev.ifn he ((Ev.now _).eq ?_)
        exact (decide_eq_false (fun e => he (List.cons.inj e).1)).symm
  have := loop _ 0 (by omega) rfl
  simpa using this
theorem rd_mid (A : List Int) (x : Int) (B : List Int) : rd (A ++ x :: B) (A.length : Int) = x := by
  rw [rd_get _ (by simp)]
  simp
theorem slices_Reverse_loop : ∀ (n : Nat) (M A B : List Int), M.length = n → A.length + n + B.length ≤ 1000000000 → Ev (fun k => slices_Reverse_byte_byte.l0 k (A ++ M ++ B) (A.length : Int) ((A.length : Int) + (M.length : Int) - 1)) (A ++ M.reverse ++ B) := by
  intro n
  induction n using Nat.strongRecOn with
  | ind n ih =>
    intro M A B hM hs
    refine Ev.step (fun k => by rw [slices_Reverse_byte_byte.l0]) ?_
    by_cases h2 : n < 2
    · refine Ev.ifn (by omega) ((Ev.now _).eq ?_)
      match M, hM with
      | [], _ => rfl
      | [x], _ => rfl
      | x :: y :: r, hM => simp at hM; omega
    · obtain ⟨a, M1, rfl⟩ : ∃ a M1, M = a :: M1 := by
        cases M with
        | nil => simp at hM; omega
        | cons a M1 => exact ⟨a, M1, rfl⟩
      obtain ⟨M2, b, rfl⟩ : ∃ M2 b, M1 = M2 ++ [b] := ⟨M1.dropLast, M1.getLast (by intro e; subst e; simp at hM; omega), (List.dropLast_concat_getLast _).symm⟩
      have hlen : M2.length + 2 = n := by simp at hM; omega
      have e1 : A ++ (a :: (M2 ++ [b])) ++ B = A ++ a :: (M2 ++ b :: B) := by simp
      have e2 : A ++ (a :: (M2 ++ [b])) ++ B = (A ++ a :: M2) ++ b :: B := by simp
      have hj : ((A.length : Int) + ((a :: (M2 ++ [b])).length : Int) - 1) = ((A ++ a :: M2).length : Int) := by simp; omega
      rw [hj]
      refine Ev.ifp (by simp; omega) (Ev.ifp (by omega) (Ev.ifp (by simp; omega) (Ev.ifp (by omega) (Ev.ifp (by simp; omega) ?_))))
      have r1 : rd (A ++ (a :: (M2 ++ [b])) ++ B) (A.length : Int) = a := by rw [e1, rd_mid]
      have r2 : rd (A ++ (a :: (M2 ++ [b])) ++ B) ((A ++ a :: M2).length : Int) = b := by rw [e2, rd_mid]
      rw [r1, r2, Int.toNat_natCast, Int.toNat_natCast]
      have e3 : ((A ++ (a :: (M2 ++ [b])) ++ B).set A.length b).set (A ++ a :: M2).length a = (A ++ [b]) ++ M2 ++ (a :: B) := by
        rw [e1, List.set_append_right _ _ (Nat.le_refl _), Nat.sub_self, List.set_cons_zero]
        rw [show A ++ b :: (M2 ++ b :: B) = (A ++ b :: M2) ++ b :: B by simp, show (A ++ a :: M2).length = (A ++ b :: M2).length by simp, List.set_append_right _ _ (Nat.le_refl _), Nat.sub_self, List.set_cons_zero]
        simp
      rw [e3, w64 (by omega) (by omega), w64 (by simp; omega) (by simp; omega)]
      have := ih M2.length (by omega) M2 (A ++ [b]) (a :: B) rfl (by simp; omega)
      refine (Ev.congr (fun k => ?_) this).eq ?_
      · congr 1
        · simp
        · simp; omega
      · simp
theorem slices_Reverse_is (l : List Int) (hs : l.length ≤ 1000000000) : Ev (fun k => slices_Reverse_byte_byte.f k l) l.reverse := by
  refine Ev.congr (fun k => by rw [slices_Reverse_byte_byte.f]) ?_
  rw [w64 (by omega) (by omega)]
  have := slices_Reverse_loop l.length l [] [] rfl (by simp; omega)
  simpa using this
theorem and127w {n : Int} (h0 : 0 ≤ n) (h1 : n < 9223372036854775808) : Go.bits .and .i64 n 127 = n % 128 :=
  bits_mask .i64 63 (by decide) (fun n h0 h1 => by rw [IntKind.wrap_i64]; omega) 7 (by decide) n h0 (by simpa using h1)
theorem or128 {x : Int} (h0 : 0 ≤ x) (h1 : x < 128) : Go.bits .or .u8 x 128 = 128 + x := by
  have h : ((List.range 128).all fun x => decide (Go.bits .or .u8 (x : Int) 128 = 128 + (x : Int))) = true := by kernel_rfl
  have := List.all_eq_true.1 h x.toNat (List.mem_range.2 (by omega))
  have := of_decide_eq_true this
  rw [Int.toNat_of_nonneg h0] at this
  exact this
theorem or0 {x : Int} (h0 : 0 ≤ x) (h1 : x < 128) : Go.bits .or .u8 x 0 = x := by
  have h : ((List.range 128).all fun x => decide (Go.bits .or .u8 (x : Int) 0 = (x : Int))) = true := by kernel_rfl
  have := List.all_eq_true.1 h x.toNat (List.mem_range.2 (by omega))
  have := of_decide_eq_true this
  rw [Int.toNat_of_nonneg h0] at this
  exact this
theorem encD_hi (m : Nat) (h : m ≠ 0) (hm : m < 9223372036854775808) : Ev (fun k => encD k (m : Int) 128) (hi m).reverse := by
  induction m using Nat.strongRecOn with
  | ind m ih =>
    refine Ev.step (fun k => by rw [encD]) ?_
    rw [and127w (by omega) (by omega), show ((m : Int) % 128) % 256 = (m : Int) % 128 by omega, or128 (by omega) (by omega), hi_pos h]
    by_cases h0 : m / 128 = 0
    · refine Ev.ifp (by omega) ((Ev.now _).eq ?_)
      rw [h0, hi_zero]
      simp
    · refine Ev.ifn (by omega) ?_
      have := ih (m / 128) (by omega) h0 (by omega)
      rw [show ((m : Int) / 128) = ((m / 128 : Nat) : Int) by omega]
      refine Ev.bind this ((Ev.now _).eq ?_)
      simp
theorem encD_dig (m : Nat) (hm : m < 9223372036854775808) : Ev (fun k => encD k (m : Int) 0) (dig m).reverse := by
  refine Ev.step (fun k => by rw [encD]) ?_
  rw [and127w (by omega) (by omega), show ((m : Int) % 128) % 256 = (m : Int) % 128 by omega, or0 (by omega) (by omega), dig]
  by_cases h0 : m / 128 = 0
  · refine Ev.ifp (by omega) ((Ev.now _).eq ?_)
    rw [h0, hi_zero]
    simp
  · refine Ev.ifn (by omega) ?_
    have := encD_hi (m / 128) h0 (by omega)
    rw [show ((m : Int) / 128) = ((m / 128 : Nat) : Int) by omega]
    refine Ev.bind this ((Ev.now _).eq ?_)
    simp
theorem hi_short : ∀ (j m : Nat), m < 128 ^ j → (hi m).length ≤ j
  | 0, m, h => by
    obtain rfl : m = 0 := by simpa using h
    simp [hi_zero]
  | j + 1, m, h => by
    by_cases h0 : m = 0
    · subst h0; simp [hi_zero]
    · rw [hi_pos h0, List.length_append]
      have := hi_short j (m / 128) (by rw [Nat.pow_succ] at h; omega)
      simp
      omega
theorem dig_short (m : Nat) (h : m < 4294967296) : (dig m).length ≤ 6 := by
  have := hi_short 5 (m / 128) (by omega)
  rw [dig, List.length_append]
  simp
  omega
theorem encA_is : ∀ (xs : List Int), (∀ x ∈ xs, 0 ≤ x ∧ x < 4294967296) → Ev (fun k => encA k xs) (xs.flatMap fun x => (dig x.toNat).reverse)
  | [], _ => Ev.now _
  | x :: xs, h => by
    have hx := h x (List.mem_cons_self ..)
    have h1 := encD_dig x.toNat (by omega)
    rw [Int.toNat_of_nonneg hx.1] at h1
    refine Ev.congr (fun k => by rw [encA]) ?_
    refine Ev.bind h1 ?_
    refine Ev.ifp (by have := dig_short x.toNat (by omega); rw [List.length_reverse]; omega) ?_
    refine Ev.bind (encA_is xs (fun y hy => h y (List.mem_cons_of_mem _ hy))) ((Ev.now _).eq ?_)
    simp
theorem digs_rev : ∀ (xs : List Int), (xs.reverse.flatMap fun x => (dig x.toNat).reverse).reverse = digs xs
  | [] => rfl
  | x :: xs => by
    rw [List.reverse_cons, List.flatMap_append, List.reverse_append, digs_rev xs, digs]
    simp
theorem digs_short : ∀ (xs : List Int), (∀ x ∈ xs, 0 ≤ x ∧ x < 4294967296) → (digs xs).length ≤ 6 * xs.length
  | [], _ => by simp [digs]
  | x :: xs, h => by
    have := digs_short xs (fun y hy => h y (List.mem_cons_of_mem _ hy))
    have h1 := h x (List.mem_cons_self ..)
    have h2 := dig_short x.toNat (by omega)
    rw [digs, List.length_append, List.length_cons]
    omega
theorem oid_encode_is (arcs : List Int) (hs : arcs.length ≤ 1000) : Ev (fun k => oid_Encode.f k arcs) (if rightA arcs = true then (strOfNums (digs (numsOf arcs)), true) else (⟨#[]⟩, false)) := by
  refine Ev.congr (fun k => by rw [oid_Encode.f]) ?_
  refine Ev.bind (oid_right_is arcs (by omega)) ?_
  by_cases hr : rightA arcs = true
  case neg => rw [if_neg hr]; exact Ev.ifn hr (Ev.now _)
  rw [if_pos hr]
  refine Ev.ifp hr ?_
  obtain ⟨a, b, r, rfl, h18, ha0, ha2, hb0, hb1, hb2, hall⟩ := right_parts hr
  refine Ev.ifp ⟨by simp, hs⟩ ?_
  have hn : encNums (a :: b :: r) = numsOf (a :: b :: r) := by
    unfold encNums numsOf
    rw [show rd (a :: b :: r) 0 = a from rfl, show rd (a :: b :: r) 1 = b from rfl, w64 (x := 40 * a) (by omega) (by omega), w64 (by omega) (by omega)]
    rfl
  rw [hn]
  have hbd : ∀ x ∈ numsOf (a :: b :: r), 0 ≤ x ∧ x < 4294967296 := by
    intro x hx
    unfold numsOf at hx
    rcases List.mem_cons.1 hx with rfl | hx
    · omega
    · have := hall x hx; omega
  have hlen := digs_short _ hbd
  have hl2 : (numsOf (a :: b :: r)).length = r.length + 1 := by simp [numsOf]
  refine Ev.bind (encA_is _ (fun x hx => hbd x (List.mem_reverse.1 hx))) ?_
  have hrev := digs_rev (numsOf (a :: b :: r))
  refine Ev.bind (slices_Reverse_is _ (by rw [← List.length_reverse, hrev]; omega)) ?_
  rw [hrev]
  exact Ev.now _
/-- A number's text, as numbers. -/
def num (v : Int) : List Int := (Lib.itoa v).map fun b => (b.toNat : Int)
def dec (u : Nat) : List Int := (Lib.decDigits u).map fun b => (b.toNat : Int)
theorem str_of_bytes (l : List UInt8) : (⟨l.toArray⟩ : ByteArray) = strOfNums (l.map fun b => (b.toNat : Int)) := by
  have := strOfNums_bytesOf ⟨l.toArray⟩
  unfold bytesOf at this
  exact this.symm
theorem num_str (v : Int) : (⟨(Lib.itoa v).toArray⟩ : ByteArray) = strOfNums (num v) := str_of_bytes _
theorem dec_lt {u : Nat} (h : u < 10) : dec u = [48 + (u : Int)] := by
  unfold dec
  rw [Lib.decDigits, dif_pos h]
  simp [UInt8.toNat_ofNat']
  omega
theorem dec_ge {u : Nat} (h : ¬ u < 10) : dec u = dec (u / 10) ++ [48 + ((u % 10 : Nat) : Int)] := by
  unfold dec
  rw [Lib.decDigits, dif_neg h, List.map_append]
  simp [UInt8.toNat_ofNat']
  omega
theorem num_pos {v : Int} (h : 0 ≤ v) : num v = dec v.toNat := by unfold num dec Lib.itoa; rw [if_neg (by omega)]
theorem num_neg {v : Int} (h : v < 0) : num v = 45 :: dec v.natAbs := by unfold num dec Lib.itoa; rw [if_pos h]; rfl
theorem dec_digit : ∀ (u : Nat), ∀ x ∈ dec u, 48 ≤ x ∧ x ≤ 57 := by
  intro u
  induction u using Nat.strongRecOn with
  | ind u ih =>
    by_cases h : u < 10
    · rw [dec_lt h]
      intro x hx
      rw [List.mem_singleton] at hx
      omega
    · rw [dec_ge h]
      intro x hx
      rcases List.mem_append.1 hx with h1 | h1
      · exact ih (u / 10) (by omega) x h1
      · rw [List.mem_singleton] at h1
        omega
theorem dec_ok (u : Nat) : OkB (dec u) := fun x hx => by have := dec_digit u x hx; omega
theorem dec_ne (u : Nat) : dec u ≠ [] := by
  by_cases h : u < 10
  · rw [dec_lt h]; simp
  · rw [dec_ge h]; simp
theorem dec_len : ∀ (k u : Nat), 1 ≤ k → u < 10 ^ k → (dec u).length ≤ k
  | 0, _, h, _ => by omega
  | k + 1, u, _, h => by
    by_cases h0 : u < 10
    · rw [dec_lt h0]; simp
    · rw [dec_ge h0, List.length_append]
      rw [Nat.pow_succ] at h
      have hk : 1 ≤ k := by
        rcases Nat.eq_zero_or_pos k with rfl | hk
        · simp at h; omega
        · exact hk
      have := dec_len k (u / 10) hk (by omega)
      simp
      omega
theorem num_ok (v : Int) : OkB (num v) := by
  by_cases h : 0 ≤ v
  · rw [num_pos h]; exact dec_ok _
  · rw [num_neg (by omega)]; exact OkB.cons (by omega) (by omega) (dec_ok _)
theorem num_len (v : Int) (h0 : -9223372036854775808 ≤ v) (h1 : v ≤ 9223372036854775807) : (num v).length ≤ 20 ∧ 1 ≤ (num v).length := by
  have hne := dec_ne
  by_cases h : 0 ≤ v
  · rw [num_pos h]
    have := dec_len 19 v.toNat (by omega) (by omega)
    have := List.length_pos_iff.2 (hne v.toNat)
    omega
  · rw [num_neg (by omega), List.length_cons]
    have := dec_len 19 v.natAbs (by omega) (by omega)
    omega
theorem num_no46 (v : Int) : ∀ x ∈ num v, x ≠ 46 := by
  intro x hx
  by_cases h : 0 ≤ v
  · rw [num_pos h] at hx
    have := dec_digit _ x hx
    omega
  · rw [num_neg (by omega)] at hx
    rcases List.mem_cons.1 hx with rfl | hx
    · decide
    · have := dec_digit _ x hx
      omega
theorem parse_append : ∀ (a b : List UInt8) (acc : Nat), Lib.parseUint10 acc (a ++ b) = match Lib.parseUint10 acc a with
    | .ok m => Lib.parseUint10 m b
    | .syntax => .syntax
    | .range => .range
  | [], b, acc => rfl
  | c :: a, b, acc => by
    rw [List.cons_append, Lib.parseUint10, Lib.parseUint10]
    split
    · split
      · rfl
      · split
        · rfl
        · exact parse_append a b _
    · rfl
theorem parse_dec (u : Nat) (h : u < 18446744073709551616) : Lib.parseUint10 0 (Lib.decDigits u) = .ok u := by
  induction u using Nat.strongRecOn with
  | ind u ih =>
    have step : ∀ (m d : Nat), d < 10 → m * 10 + d < 18446744073709551616 → Lib.parseUint10 m [UInt8.ofNat (48 + d)] = .ok (m * 10 + d) := fun m d hd hm => by
      rw [Lib.parseUint10, show (UInt8.ofNat (48 + d)).toNat = 48 + d by simp [UInt8.toNat_ofNat']; omega, if_pos (by omega), if_neg (by omega), if_neg (by omega), Lib.parseUint10]
      congr 1
      omega
    rw [Lib.decDigits]
    by_cases h10 : u < 10
    · rw [dif_pos h10, step 0 u h10 (by omega)]
      congr 1
      omega
    · rw [dif_neg h10, parse_append, ih (u / 10) (by omega) (by omega)]
      simp only
      rw [step (u / 10) (u % 10) (by omega) (by omega)]
      congr 1
      omega
theorem decDigits_head (u : Nat) : ∃ c r, Lib.decDigits u = c :: r ∧ 48 ≤ c.toNat ∧ c.toNat ≤ 57 := by
  cases hd : Lib.decDigits u with
  | nil => have := Lib.decDigits_length u; rw [hd] at this; have := Lib.nDigits_pos u; simp at *; omega
  | cons c r =>
    have := dec_digit u (c.toNat : Int) (by unfold dec; rw [hd]; simp)
    exact ⟨c, r, rfl, by omega, by omega⟩
theorem atoi_itoa {v : Int} (h0 : -9223372036854775808 ≤ v) (h1 : v ≤ 9223372036854775807) : Lib.atoiAll (Lib.itoa v) = .ok v := by
  unfold Lib.itoa
  by_cases hv : v < 0
  · rw [if_pos hv, Lib.atoiAll_minus, Lib.parseMag]
    obtain ⟨c, r, e, _, _⟩ := decDigits_head v.natAbs
    rw [if_neg (by rw [e]; simp), parse_dec _ (by omega), Lib.signed, if_neg (by omega)]
    congr 1
    omega
  · rw [if_neg hv]
    obtain ⟨c, r, e, h2, h3⟩ := decDigits_head v.toNat
    rw [e, Lib.atoiAll_plain c r (by omega) (by omega), ← e, Lib.parseMag, if_neg (by rw [e]; simp), parse_dec _ (by omega), Lib.signless, if_neg (by omega)]
    congr 1
    omega
theorem unnum_num {v : Int} (h0 : -9223372036854775808 ≤ v) (h1 : v ≤ 9223372036854775807) : digits_Unnum.of (strOfNums (num v)) = (v, true) := by
  rw [← num_str]
  unfold digits_Unnum.of
  rw [show (⟨(Lib.itoa v).toArray⟩ : ByteArray).data.toList = Lib.itoa v from rfl, atoi_itoa h0 h1]
  simp
theorem unnum_sound {t : List Int} (ht : OkB t) {v : Int} (h : digits_Unnum.of (strOfNums t) = (v, true)) : t = num v ∧ -9223372036854775808 ≤ v ∧ v ≤ 9223372036854775807 := by
  unfold digits_Unnum.of at h
  cases ha : Lib.atoiAll (strOfNums t).data.toList with
  | ok u =>
    rw [ha] at h
    dsimp only at h
    by_cases he : (⟨(Lib.itoa u).toArray⟩ : ByteArray).toList = (strOfNums t).toList
    · rw [if_pos he] at h
      cases h
      rw [num_str] at he
      exact ⟨((nums_toList (num_ok _) ht).1 he).symm, Lib.atoiAll_bounds ha⟩
    · rw [if_neg he] at h; cases h
  | «syntax» => rw [ha] at h; cases h
  | range => rw [ha] at h; cases h
theorem unnum_no {t : ByteArray} (h : (digits_Unnum.of t).2 = false) : digits_Unnum.of t = (0, false) := by
  unfold digits_Unnum.of at h ⊢
  cases ha : Lib.atoiAll t.data.toList with
  | ok u =>
    rw [ha] at h
    dsimp only at h ⊢
    by_cases he : (⟨(Lib.itoa u).toArray⟩ : ByteArray).toList = t.toList
    · rw [if_pos he] at h; cases h
    · rw [if_neg he]
  | «syntax» => rfl
  | range => rfl
def joinI : List (List Int) → List Int
  | [] => []
  | [x] => x
  | x :: y :: r => x ++ 46 :: joinI (y :: r)
theorem joinI_cons (x : List Int) {r : List (List Int)} (h : r ≠ []) : joinI (x :: r) = x ++ 46 :: joinI r := by
  cases r with
  | nil => exact absurd rfl h
  | cons y r => rw [joinI]
theorem joinI_snoc : ∀ (xs : List (List Int)) (y : List Int), xs ≠ [] → joinI (xs ++ [y]) = joinI xs ++ 46 :: y
  | [], y, h => absurd rfl h
  | [x], y, _ => rfl
  | x :: z :: r, y, _ => by
    have := joinI_snoc (z :: r) y (by simp)
    rw [List.cons_append, joinI_cons x (by simp), this, joinI_cons x (by simp)]
    simp
theorem joinI_len (m : Nat) : ∀ (xs : List (List Int)), (∀ x ∈ xs, x.length ≤ m) → (joinI xs).length ≤ (m + 1) * xs.length
  | [], _ => by simp [joinI]
  | [x], h => by have := h x (by simp); simp [joinI]; omega
  | x :: y :: r, h => by
    have h1 := h x (by simp)
    have h2 := joinI_len m (y :: r) (fun z hz => h z (List.mem_cons_of_mem _ hz))
    rw [joinI, List.length_append, List.length_cons, List.length_cons (a := x), Nat.mul_succ]
    omega
theorem lib_join : ∀ (xs : List (List Int)), (⟨(Lib.join (xs.map fun x => (strOfNums x).data.toList) [46]).toArray⟩ : ByteArray) = strOfNums (joinI xs)
  | [] => rfl
  | [x] => by
    rw [List.map_cons, List.map_nil, Lib.join_one, joinI]
  | x :: y :: r => by
    have ih := lib_join (y :: r)
    have e : Lib.join ((x :: y :: r).map fun x => (strOfNums x).data.toList) [46] = (strOfNums x).data.toList ++ [46] ++ Lib.join ((y :: r).map fun x => (strOfNums x).data.toList) [46] := by
      unfold Lib.join List.intercalate
      simp only [List.map_cons, List.intersperse_cons_cons, List.flatten_cons, List.append_assoc]
    rw [e, joinI, show x ++ 46 :: joinI (y :: r) = (x ++ [46]) ++ joinI (y :: r) by simp, ← str_append, ← str_append, ← ih]
    apply ByteArray.ext
    apply Array.toList_inj.1
    rw [str_data_append, str_data_append]
    rfl
theorem oid_text_loop (arcs : List Int) (hb : ∀ x ∈ arcs, 0 ≤ x ∧ x ≤ 2147483647) (hs : arcs.length ≤ 20) (d : Nat) : ∀ i : Nat, i ≤ arcs.length → arcs.length - i = d →
    Ev (fun k => oid_Text.l0 k ((arcs.take i).map (fun x => strOfNums (num x)) ++ List.replicate (arcs.length - i) (⟨#[]⟩ : ByteArray)) arcs (arcs.length : Int) (i : Int)) (strOfNums (joinI (arcs.map num))) := by
  induction d with
  | zero =>
    intro i hi hd
    refine Ev.step (fun k => by rw [oid_Text.l0]) ?_
    refine Ev.ifn (by omega) ?_
    rw [List.take_of_length_le (by omega), hd, List.replicate_zero, List.append_nil]
    have hl := joinI_len 20 (arcs.map num) (fun x hx => by
      obtain ⟨v, hv, rfl⟩ := List.mem_map.1 hx
      have := hb v hv
      exact (num_len v (by omega) (by omega)).1)
    rw [List.length_map] at hl
    have hj := lib_join (arcs.map num)
    rw [List.map_map] at hj
    have hsz := congrArg ByteArray.size hj
    rw [strOfNums_size] at hsz
    have e : strings_Join.f (arcs.map fun x => strOfNums (num x)) (⟨#[46]⟩ : ByteArray) = some (strOfNums (joinI (arcs.map num))) := by
      unfold strings_Join.f
      rw [List.map_map, if_pos (by simp; omega), if_pos, ← hj]
      · rfl
      · have h2 : (⟨(Lib.join (arcs.map ((fun x => (strOfNums x).data.toList) ∘ num)) [46]).toArray⟩ : ByteArray).size = (Lib.join (arcs.map ((fun x => (strOfNums x).data.toList) ∘ num)) [46]).length := by
          show (Lib.join (arcs.map ((fun x => (strOfNums x).data.toList) ∘ num)) [46]).toArray.size = _
          simp
        rw [h2] at hsz
        show (Lib.join (arcs.map ((fun x => (strOfNums x).data.toList) ∘ num)) [46]).length ≤ _
        omega
    exact Ev.bindc e (Ev.now _)
  | succ d ih =>
    intro i hi hd
    have hlt : i < arcs.length := by omega
    have hv := hb arcs[i] (List.getElem_mem hlt)
    refine Ev.step (fun k => by rw [oid_Text.l0]) ?_
    rw [rd_get i hlt, w64 (x := (i : Int) + 1) (by omega) (by omega)]
    have e : digits_Num.f arcs[i] = some (strOfNums (num arcs[i])) := by
      unfold digits_Num.f strconv_Itoa.f
      rw [if_pos ⟨by omega, by omega⟩, Option.bind_some, num_str]
    refine Ev.ifp (by omega) (Ev.ifp (by omega) (Ev.ifp (by omega) (Ev.bindc e (Ev.ifp (by simp; omega) ?_))))
    have := ih (i + 1) (by omega) (by omega)
    refine Ev.congr (fun k => ?_) this
    congr 1
    rw [Int.toNat_natCast, List.set_append_right _ _ (by simp; omega), List.length_map, List.length_take, Nat.min_eq_left (by omega), Nat.sub_self]
    obtain ⟨m, hm⟩ : ∃ m, arcs.length - i = m + 1 := ⟨arcs.length - i - 1, by omega⟩
    rw [hm, List.replicate_succ, List.set_cons_zero, show arcs.length - (i + 1) = m by omega, List.take_succ_eq_append_getElem hlt, List.map_append, List.map_cons, List.map_nil, List.append_assoc]
    rfl
theorem right_bd {arcs : List Int} (h : rightA arcs = true) : arcs.length ≤ 20 ∧ 2 ≤ arcs.length ∧ ∀ x ∈ arcs, 0 ≤ x ∧ x ≤ 2147483647 := by
  obtain ⟨a, b, r, rfl, h18, ha0, ha2, hb0, hb1, hb2, hall⟩ := right_parts h
  refine ⟨by simp; omega, by simp, fun x hx => ?_⟩
  rcases List.mem_cons.1 hx with rfl | hx
  · omega
  · rcases List.mem_cons.1 hx with rfl | hx
    · omega
    · exact hall x hx
theorem oid_text_is (arcs : List Int) (hs : arcs.length ≤ 1000000) : Ev (fun k => oid_Text.f k arcs) (if rightA arcs = true then strOfNums (joinI (arcs.map num)) else ⟨#[]⟩) := by
  refine Ev.congr (fun k => by rw [oid_Text.f]) ?_
  refine Ev.bind (oid_right_is arcs hs) ?_
  by_cases hr : rightA arcs = true
  · rw [if_pos hr]
    have hb := right_bd hr
    refine Ev.ifp hr (Ev.ifp (by omega) (Ev.ifp (by rw [Int.toNat_natCast]; omega) ?_))
    have := oid_text_loop arcs hb.2.2 hb.1 _ 0 (by omega) rfl
    simpa using this
  · rw [if_neg hr]
    exact Ev.ifn hr (Ev.now _)
def unn (p : List Int) : Int × Bool := digits_Unnum.of (strOfNums p)
def dotsI : List Int → List (List Int)
  | [] => [[]]
  | b :: r => if b = 46 then [] :: dotsI r else match dotsI r with
    | [] => [[b]]
    | p :: ps => (b :: p) :: ps
theorem dotsI_ne : ∀ l, dotsI l ≠ []
  | [] => by simp [dotsI]
  | b :: r => by
    rw [dotsI]
    split
    · simp
    · split <;> simp
theorem tb_cons (c : Int) (r : List Int) : (strOfNums (c :: r)).data.toList = UInt8.ofNat c.toNat :: (strOfNums r).data.toList := rfl
theorem dots_tb : ∀ (l : List Int), OkB l → dots (strOfNums l).data.toList = (dotsI l).map fun p => (strOfNums p).data.toList
  | [], _ => rfl
  | c :: r, h => by
    have hc := h.head
    rw [tb_cons, dots, dotsI]
    by_cases h46 : c = 46
    · subst h46
      rw [if_pos (by decide), if_pos rfl, dots_tb r h.tail]
      rfl
    · rw [if_neg, if_neg h46, dots_tb r h.tail]
      · cases hd : dotsI r with
        | nil => exact absurd hd (dotsI_ne r)
        | cons p ps => rfl
      · intro e
        have := congrArg UInt8.toNat e
        simp at this
        omega
def ownP (ps : List (List Int)) : List Int × Bool := if (ps.all fun p => (unn p).2) = true then (if rightA (ps.map fun p => (unn p).1) = true then (ps.map fun p => (unn p).1, true) else ([], false)) else ([], false)
theorem dotsI_len : ∀ l : List Int, (dotsI l).length ≤ l.length + 1
  | [] => by simp [dotsI]
  | b :: r => by
    have := dotsI_len r
    rw [dotsI]
    split
    · simp; omega
    · split
      · simp
      · rename_i h
        rw [h] at this
        simp at this ⊢
        omega
theorem oid_parse_is (l : List Int) (hl : OkB l) (hs : l.length ≤ 900000) : Ev (fun k => oid_Parse.f k (strOfNums l)) (ownP (dotsI l)) := by
  refine Ev.congr (fun k => by rw [oid_Parse.f]) ?_
  refine Ev.ifp (by rw [strOfNums_size]; omega) ?_
  rw [dots_tb l hl]
  have e1 : ∀ p : List Int, (⟨((strOfNums p).data.toList).toArray⟩ : ByteArray) = strOfNums p := fun p => rfl
  unfold parseP ownP
  rw [List.all_map, List.map_map]
  have e2 : ((fun x : List UInt8 => (digits_Unnum.of ⟨x.toArray⟩).2) ∘ fun p => (strOfNums p).data.toList) = fun p => (unn p).2 := by funext p; rfl
  have e3 : ((fun x : List UInt8 => (digits_Unnum.of ⟨x.toArray⟩).1) ∘ fun p => (strOfNums p).data.toList) = fun p => (unn p).1 := by funext p; rfl
  rw [e2, e3]
  by_cases ha : ((dotsI l).all fun p => (unn p).2) = true
  · rw [if_pos ha, if_pos ha]
    refine Ev.bind (oid_right_is _ (by rw [List.length_map]; have := dotsI_len l; omega)) ?_
    by_cases hr : rightA ((dotsI l).map fun p => (unn p).1) = true
    · exact Ev.ifp hr ((Ev.now _).eq (if_pos hr).symm)
    · exact Ev.ifn hr ((Ev.now _).eq (if_neg hr).symm)
  · rw [if_neg ha, if_neg ha]
    exact Ev.now _
theorem ownP_len (t : List Int) : (ownP (dotsI t)).1.length ≤ 20 := by
  unfold ownP
  split
  · split
    · rename_i h
      exact (right_bd h).1
    · simp
  · simp
theorem joinI_dotsI : ∀ t : List Int, joinI (dotsI t) = t
  | [] => rfl
  | b :: r => by
    rw [dotsI]
    by_cases h : b = 46
    · rw [if_pos h, joinI_cons [] (dotsI_ne r), joinI_dotsI r, h]
      rfl
    · rw [if_neg h]
      have ih := joinI_dotsI r
      cases hd : dotsI r with
      | nil => exact absurd hd (dotsI_ne r)
      | cons p ps =>
        rw [hd] at ih
        dsimp only
        cases ps with
        | nil => rw [joinI] at ih ⊢; rw [ih]
        | cons q qs => rw [joinI_cons _ (by simp)] at ih ⊢; rw [← ih]; rfl
theorem dotsI_glue : ∀ (p r : List Int), (∀ x ∈ p, x ≠ 46) → dotsI (p ++ 46 :: r) = p :: dotsI r
  | [], r, _ => by rw [List.nil_append, dotsI, if_pos rfl]
  | b :: p, r, h => by rw [List.cons_append, dotsI, if_neg (h b (by simp)), dotsI_glue p r (fun x hx => h x (List.mem_cons_of_mem _ hx))]
theorem dotsI_one : ∀ (p : List Int), (∀ x ∈ p, x ≠ 46) → dotsI p = [p]
  | [], _ => rfl
  | b :: p, h => by rw [dotsI, if_neg (h b (by simp)), dotsI_one p (fun x hx => h x (List.mem_cons_of_mem _ hx))]
theorem dotsI_joinI : ∀ (ps : List (List Int)), ps ≠ [] → (∀ p ∈ ps, ∀ x ∈ p, x ≠ 46) → dotsI (joinI ps) = ps
  | [], h, _ => absurd rfl h
  | [p], _, h => dotsI_one p (h p (by simp))
  | p :: q :: r, _, h => by
    rw [joinI_cons p (by simp), dotsI_glue p _ (h p (by simp)), dotsI_joinI (q :: r) (by simp) (fun z hz => h z (List.mem_cons_of_mem _ hz))]
theorem dotsI_ok : ∀ (t : List Int), OkB t → ∀ p ∈ dotsI t, OkB p
  | [], _, p, hp => by
    rw [dotsI, List.mem_singleton] at hp
    subst hp
    exact OkB.nil
  | b :: r, h, p, hp => by
    have ih := dotsI_ok r h.tail
    rw [dotsI] at hp
    by_cases h46 : b = 46
    · rw [if_pos h46] at hp
      rcases List.mem_cons.1 hp with rfl | hp
      · exact OkB.nil
      · exact ih p hp
    · rw [if_neg h46] at hp
      cases hd : dotsI r with
      | nil => exact absurd hd (dotsI_ne r)
      | cons q qs =>
        rw [hd] at hp ih
        dsimp only at hp
        rcases List.mem_cons.1 hp with rfl | hp
        · have := h.head
          exact OkB.cons this.1 this.2 (ih q (by simp))
        · exact ih p (List.mem_cons_of_mem _ hp)
theorem ownP_text {a : List Int} (h : rightA a = true) : ownP (dotsI (joinI (a.map num))) = (a, true) := by
  have hb := right_bd h
  rw [dotsI_joinI _ (by intro e; rw [List.map_eq_nil_iff] at e; subst e; simp at hb) (fun p hp => by obtain ⟨v, _, rfl⟩ := List.mem_map.1 hp; exact num_no46 v)]
  have e : ∀ x ∈ a, unn (num x) = (x, true) := fun x hx => by
    have := hb.2.2 x hx
    exact unnum_num (by omega) (by omega)
  have e1 : (a.map num).map (fun p => (unn p).1) = a := by
    rw [List.map_map]
    conv => rhs; rw [← List.map_id a]
    exact List.map_congr_left (fun x hx => by simp [e x hx])
  unfold ownP
  rw [if_pos, e1, if_pos h]
  rw [List.all_map, List.all_eq_true]
  intro x hx
  simp [e x hx]
theorem ownP_sound {t l : List Int} (ht : OkB t) (h : ownP (dotsI t) = (l, true)) : rightA l = true ∧ joinI (l.map num) = t := by
  unfold ownP at h
  by_cases ha : ((dotsI t).all fun p => (unn p).2) = true
  case neg => rw [if_neg ha] at h; cases h
  rw [if_pos ha] at h
  by_cases hr : rightA ((dotsI t).map fun p => (unn p).1) = true
  case neg => rw [if_neg hr] at h; cases h
  rw [if_pos hr] at h
  cases h
  refine ⟨hr, ?_⟩
  rw [List.map_map]
  have e : (dotsI t).map (num ∘ fun p => (unn p).1) = dotsI t := by
    conv => rhs; rw [← List.map_id (dotsI t)]
    refine List.map_congr_left (fun p hp => ?_)
    have h2 := List.all_eq_true.1 ha p hp
    have := unnum_sound (t := p) (v := (unn p).1) (dotsI_ok t ht p hp) (by
      show unn p = _
      exact Prod.ext rfl h2)
    exact this.1.symm
  rw [e, joinI_dotsI]
theorem ownP_cases (t : List Int) : (∃ l, ownP (dotsI t) = (l, true)) ∨ ownP (dotsI t) = ([], false) := by
  unfold ownP
  split
  · split
    · exact .inl ⟨_, rfl⟩
    · exact .inr rfl
  · exact .inr rfl
theorem joinN_ok (a : List Int) : OkB (joinI (a.map num)) := by
  induction a with
  | nil => exact OkB.nil
  | cons v r ih =>
    cases r with
    | nil => exact num_ok v
    | cons w r => rw [List.map_cons, joinI_cons _ (by simp)]; exact (num_ok v).append (OkB.cons (by decide) (by decide) ih)
theorem joinN_len {a : List Int} (h : rightA a = true) : (joinI (a.map num)).length ≤ 420 := by
  have hb := right_bd h
  have := joinI_len 20 (a.map num) (fun x hx => by
    obtain ⟨v, hv, rfl⟩ := List.mem_map.1 hx
    have := hb.2.2 v hv
    exact (num_len v (by omega) (by omega)).1)
  rw [List.length_map] at this
  omega
theorem decA_len (c : List Int) (hc : OkB c) : (decA c).1.length ≤ 20 := by
  unfold decA
  split
  · split
    · rename_i h
      exact (right_bd h).1
    · simp
  · simp
theorem oid_awake_is : Ev (fun k => clavigerlaw17_awake.f k) true := by
  refine Ev.of (fun k => clavigerlaw17_awake.mono k) (k := 60) ?_
  decide +kernel
theorem numsOf_short {a : List Int} (h : rightA a = true) : (digs (numsOf a)).length ≤ 1000 := by
  obtain ⟨x, y, r, rfl, h18, ha0, ha2, hb0, hb1, hb2, hall⟩ := right_parts h
  have := digs_short (numsOf (x :: y :: r)) (by
    intro z hz
    unfold numsOf at hz
    rcases List.mem_cons.1 hz with rfl | hz
    · omega
    · have := hall z hz; omega)
  have hl2 : (numsOf (x :: y :: r)).length = r.length + 1 := by simp [numsOf]
  omega
theorem digs_eq {a b : List Int} (ha : rightA a = true) (hb : rightA b = true) : digs (numsOf a) = digs (numsOf b) ↔ a = b := by
  constructor
  · intro h
    have h1 := decA_complete (l := digs (numsOf a)) (arcs := a) ⟨ha, rfl⟩
    have h2 := decA_complete (l := digs (numsOf a)) (arcs := b) ⟨hb, h⟩
    rw [h1] at h2
    exact (Prod.mk.inj h2).1
  · intro h; rw [h]
theorem OidBack : clavigerlaw17_OidBack.Pure := by
  intro l0 l1 a2 a3 h0 _ hw0 h1 _ hw1 h2 h3
  apply Ev.rounds
  obtain ⟨c, hc, rfl⟩ := str_nums a2
  obtain ⟨t, ht, rfl⟩ := str_nums a3
  have hbig : Ev (fun k => clavigerlaw17_OidBack.j0 k l0 l1 (strOfNums c) (strOfNums t) true) true := by
    refine Ev.step (fun k => by rw [clavigerlaw17_OidBack.j0]) ?_
    exact Ev.ifp rfl (Ev.bind oid_awake_is (Ev.now _))
  refine Ev.congr (fun k => by rw [clavigerlaw17_OidBack.f]) ?_
  rw [strOfNums_size, strOfNums_size]
  by_cases g0 : l0.length > 60
  · exact Ev.ifp (by omega) hbig
  refine Ev.ifn (by omega) ?_
  by_cases g1 : l1.length > 60
  · exact Ev.ifp (by omega) hbig
  refine Ev.ifn (by omega) ?_
  by_cases g2 : c.length > 200
  · exact Ev.ifp (by omega) hbig
  refine Ev.ifn (by omega) ?_
  by_cases g3 : t.length > 200
  · rw [decide_eq_true (show (t.length : Int) > 200 by omega)]
    exact hbig
  rw [decide_eq_false (show ¬ (t.length : Int) > 200 by omega)]
  have hp : Ev (fun k => (oid_Parse.f k (strOfNums t)).bind fun bt185 => (if bt185.2 = true then ((oid_Text.f k bt185.1).bind fun t189 => (if t189.toList = (strOfNums t).toList then ((clavigerlaw17_awake.f k).bind fun t190 => (some t190)) else (some false))) else ((clavigerlaw17_awake.f k).bind fun t191 => (some t191)))) true := by
    refine Ev.bind (oid_parse_is t ht (by omega)) ?_
    rcases ownP_cases t with ⟨l, hl⟩ | hl
    · rw [hl]
      have hs := ownP_sound ht hl
      have hb := right_bd hs.1
      refine Ev.ifp rfl (Ev.bind (oid_text_is l (by omega)) ?_)
      rw [if_pos hs.1, hs.2]
      exact Ev.ifp rfl (Ev.bind oid_awake_is (Ev.now _))
    · rw [hl]
      exact Ev.ifn (by simp) (Ev.bind oid_awake_is (Ev.now _))
  have hj2 : Ev (fun k => clavigerlaw17_OidBack.j2 k (strOfNums t) false) true := by
    refine Ev.step (fun k => by rw [clavigerlaw17_OidBack.j2]) ?_
    exact Ev.ifn (by simp) hp
  have hj1 : Ev (fun k => clavigerlaw17_OidBack.j1 k (strOfNums c) (strOfNums t)) true := by
    refine Ev.step (fun k => by rw [clavigerlaw17_OidBack.j1]) ?_
    refine Ev.bind (oid_decode_is c hc (by omega)) ?_
    cases hd : (decA c).2 with
    | true =>
      have hd1 : decA c = ((decA c).1, true) := Prod.ext rfl hd
      have hg := decA_sound hc hd1
      have hlen := decA_len c hc
      refine Ev.ifp rfl (Ev.bind (oid_encode_is (decA c).1 (by omega)) ?_)
      rw [if_pos hg.1, ← hg.2]
      exact Ev.ifp rfl hj2
    | false => exact Ev.ifn (by simp) hp
  refine Ev.step (fun k => by rw [clavigerlaw17_OidBack.j0]) ?_
  refine Ev.ifn (by simp) ?_
  refine Ev.bind (oid_encode_is l0 (by omega)) (Ev.bind (oid_encode_is l1 (by omega)) ?_)
  by_cases ra : rightA l0 = true
  case neg => rw [if_neg ra]; exact Ev.ifn (by simp) hj1
  have hb := right_bd ra
  rw [if_pos ra]
  refine Ev.ifp rfl (Ev.bind (oid_decode_is _ (digs_ok _) (by have := numsOf_short ra; omega)) (Ev.bind (oid_text_is l0 (by omega)) ?_))
  rw [if_pos ra]
  refine Ev.bind (oid_parse_is _ (joinN_ok l0) (by have := joinN_len ra; omega)) ?_
  rw [ownP_text ra, decA_complete (l := digs (numsOf l0)) (arcs := l0) ⟨ra, rfl⟩]
  refine Ev.bind (slices_Equal_int_is _ _ (by dsimp only; omega)) (Ev.ifp (by simp) (Ev.ifp rfl (Ev.bind (slices_Equal_int_is _ _ (by dsimp only; omega)) (Ev.ifp (by simp) (Ev.ifp rfl ?_)))))
  by_cases rb : rightA l1 = true
  case neg => rw [if_neg rb]; exact Ev.ifn (by simp) hj1
  rw [if_pos rb]
  refine Ev.ifp rfl (Ev.bind (slices_Equal_int_is l0 l1 (by omega)) (Ev.ifn ?_ hj1))
  have e : ((strOfNums (digs (numsOf l0))).toList == (strOfNums (digs (numsOf l1))).toList) = decide (l0 = l1) := by
    by_cases he : l0 = l1
    · rw [he]; simp
    · rw [decide_eq_false he]
      exact beq_eq_false_iff_ne.2 (fun q => he ((digs_eq ra rb).1 ((nums_toList (digs_ok _) (digs_ok _)).1 q)))
  rw [e]
  simp
end Go.Proofs.YtjkhfognncadbaaDoor.Pure
