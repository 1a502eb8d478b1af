/- What any field may be is as the document says: TableTells is true of every input. No condition. -/
import Derived.Test.YtaapjmljdlneoaaPTableTellsx
namespace Go.Proofs.Ytaapjmljdlneoaa.Pure
open Go.RowKit Go.Proofs.Ytaapjmljdlneoaa.PTableTells Go.Proofs.YtaapjmljdlneoaaW.PrintWords Go.Proofs.YtaapjmljdlneoaaW.PrintLast
set_option linter.unusedVariables false
set_option linter.unusedSimpArgs false
/-- The number of bytes. -/
def getN (l : List Int) : Int := l.foldl (fun n b => n * 256 + b) 0
theorem getN_snoc (l : List Int) (x : Int) : getN (l ++ [x]) = getN l * 256 + x := by simp [getN]
theorem getN_take {l : List Int} (i : Nat) (h : i < l.length) : getN (l.take (i + 1)) = getN (l.take i) * 256 + l[i] := by
  rw [List.take_succ_eq_append_getElem h, getN_snoc]
theorem getN_bd (n : Nat) : ∀ l : List Int, OkB l → l.length ≤ n → 0 ≤ getN l ∧ getN l < 256 ^ n := by
  induction n with
  | zero => intro l h hn; obtain rfl := List.eq_nil_of_length_eq_zero (Nat.le_zero.1 hn); simp [getN]
  | succ n ih =>
    intro l h hn
    have hp : (0 : Int) < 256 ^ n := Int.pow_pos (by decide)
    by_cases e : l = []
    · subst e
      rw [Int.pow_succ]
      simp only [getN, List.foldl_nil]
      omega
    · obtain ⟨m, x, rfl⟩ : ∃ m x, l = m ++ [x] := ⟨l.dropLast, l.getLast e, (List.dropLast_concat_getLast e).symm⟩
      have h1 := ih m (fun y hy => h y (List.mem_append_left _ hy)) (by simp at hn; omega)
      have h2 := h x (by simp)
      rw [getN_snoc, Int.pow_succ]
      omega
theorem getN_lt7 (l : List Int) (h : OkB l) (hn : l.length ≤ 7) : 0 ≤ getN l ∧ getN l < 72057594037927936 := getN_bd 7 l h hn
theorem slices_Equal_refl (L : List ByteArray) (h : L.length ≤ 9223372036854775806) : Ev (fun k => slices_Equal_string_string.f k L L) true := by
  unfold slices_Equal_string_string.f
  refine Ev.ifp rfl ?_
  have loop : ∀ d i : Nat, i ≤ L.length → L.length - i = d → Ev (fun k => slices_Equal_string_string.l0 k L L (L.length : Int) (i : Int)) true := by
    intro d
    induction d with
    | zero =>
      intro i hi hd
      refine Ev.step (fun k => by rw [slices_Equal_string_string.l0]) ?_
      exact Ev.ifn (by omega) (Ev.now _)
    | succ d ih =>
      intro i hi hd
      refine Ev.step (fun k => by rw [slices_Equal_string_string.l0]) ?_
      rw [w64 (by omega) (by omega)]
      exact Ev.ifp (by omega) (Ev.ifp (by omega) (Ev.ifp (by omega) (Ev.ifp (by omega) (Ev.ifp rfl (ih (i + 1) (by omega) (by omega))))))
  exact loop _ 0 (by omega) rfl
theorem idx_mem (c : UInt8) : ∀ l : List UInt8, (0 ≤ Lib.indexByte l c) ↔ c ∈ l
  | [] => by simp [Lib.indexByte]
  | b :: l => by
    have ih := idx_mem c l
    have hg := Lib.indexByte_ge l c
    rw [Lib.indexByte]
    by_cases h : b = c
    · subst h; simp
    · have h1 : (b == c) = false := beq_eq_false_iff_ne.2 h
      rw [h1, if_neg (by simp), List.mem_cons, ← ih]
      by_cases h2 : Lib.indexByte l c = -1
      · rw [h2]; simp; exact fun e => h e.symm
      · have h3 : (Lib.indexByte l c == -1) = false := beq_eq_false_iff_ne.2 h2
        rw [h3, if_neg (by simp)]
        constructor
        · intro _; right; omega
        · rintro (e | e)
          · exact absurd e.symm h
          · omega
theorem one_not {a : ByteArray} (b : ByteArray) (h : a.size ≠ 1) : table_one.f a b = some false := by
  unfold table_one.f
  rw [if_neg (by omega)]
theorem one_is (c : UInt8) (b : ByteArray) : table_one.f ⟨#[c]⟩ b = some (decide (c ∈ b.data.toList)) := by
  unfold table_one.f strings_Contains.f
  rw [if_pos (show ((⟨#[c]⟩ : ByteArray).size : Int) = 1 from rfl), if_pos (show (⟨#[c]⟩ : ByteArray).size = 1 from rfl), one_byte_bt]
  simp only [Option.bind_some]
  congr 1
  have : UInt8.ofNat ((c.toNat : Int)).toNat = c := by simp
  rw [this]
  exact decide_eq_decide.2 (idx_mem c _)
theorem one_some (a b : ByteArray) : ∃ t, table_one.f a b = some t := by
  by_cases h : a.size = 1
  · obtain ⟨c, rfl⟩ := one_byte h
    exact ⟨_, one_is c b⟩
  · exact ⟨_, one_not b h⟩
theorem two_some (a : ByteArray) : ∃ t, table_two.f a = some t := by
  unfold table_two.f
  split
  · rename_i h
    split
    · exact ⟨_, rfl⟩
    · split
      · exact ⟨_, rfl⟩
      · rw [if_pos (by omega)]
        split
        · exact ⟨_, rfl⟩
        · exact ⟨_, rfl⟩
  · exact ⟨_, rfl⟩
theorem hasPrefix_some (a b : ByteArray) : ∃ t, stringslite_HasPrefix.f a b = some t := by
  unfold stringslite_HasPrefix.f
  by_cases h : (a.size : Int) ≥ (b.size : Int)
  · rw [if_pos h, if_pos (by omega), if_pos (by omega)]; exact ⟨_, rfl⟩
  · rw [if_neg h]; exact ⟨_, rfl⟩
theorem cutPrefix_some (a b : ByteArray) : ∃ t, strings_CutPrefix.f a b = some t := by
  unfold strings_CutPrefix.f stringslite_CutPrefix.f
  unfold stringslite_HasPrefix.f
  by_cases h : (a.size : Int) ≥ (b.size : Int)
  · rw [if_pos h, if_pos (by omega), if_pos (by omega)]
    simp only [Option.bind_some]
    split
    · exact ⟨_, rfl⟩
    · exact ⟨_, rfl⟩
  · rw [if_neg h]; exact ⟨_, rfl⟩
theorem version_some (a : ByteArray) : ∃ t, table_Version.f a = some t := by
  unfold table_Version.f
  obtain ⟨p, hp⟩ := cutPrefix_some a ⟨#[99]⟩
  obtain ⟨t, ht⟩ := two_some a
  obtain ⟨o, ho⟩ := one_some p.1 ⟨#[49, 50, 51, 52, 53, 54, 55, 56, 57]⟩
  rw [hp]
  simp only [Option.bind_some, ht, ho]
  split
  · exact ⟨_, rfl⟩
  · split
    · exact ⟨_, rfl⟩
    · split
      · exact ⟨_, rfl⟩
      · exact ⟨_, rfl⟩
theorem export_some (a : ByteArray) : ∃ t, table_Export.f a = some t := by
  unfold table_Export.f
  obtain ⟨o, ho⟩ := one_some a ⟨#[69, 78, 83]⟩
  rw [ho]; exact ⟨_, rfl⟩
theorem check_of {u m x1 x2 x0 : ByteArray} {V E : Bool} (hU : table_Usage.f u x0 = some true) (hM : table_Mode.f u m = some true) (hV : table_Version.f x1 = some V) (hE : table_Export.f x2 = some E) :
    table_Check.f u m x1 x2 x0 = some (if V = true then (if E = true then 0 else 12) else 12) := by
  unfold table_Check.f
  rw [hU, hM, hV, hE]
  cases V <;> cases E <;> rfl
theorem usages_none (x0 : ByteArray) (h : ∀ i : Int, 0 ≤ i → i < 10 → table_one.f x0 (rdOf ByteArray.empty linesS i) = some false) :
    ∀ (k : Nat) (i : Nat), i ≤ 10 → 10 < k + i → table_Usages.l0 k x0 [] (i : Int) = some []
  | 0, i, h1, h2 => by omega
  | k + 1, i, h1, h2 => by
    rw [table_Usages.l0]
    by_cases c : (i : Int) < 10
    · rw [if_pos c, if_pos (by omega), h i (by omega) c]
      simp only [Option.bind_some, Bool.false_eq_true, if_false]
      rw [w64 (by omega) (by omega)]
      have := usages_none x0 h k (i + 1) (by omega) (by omega)
      simpa using this
    · rw [if_neg c]
theorem usages_cases (x0 : ByteArray) : table_Usages.f x0 = some [] ∨ x0 = ⟨#[65]⟩ ∨ x0 = ⟨#[84]⟩ ∨ x0 = ⟨#[69]⟩ ∨ x0 = ⟨#[72]⟩ := by
  by_cases h1 : x0.size = 1
  · obtain ⟨c, rfl⟩ := one_byte h1
    by_cases ca : c = 65
    · subst ca; exact .inr (.inl rfl)
    by_cases ct : c = 84
    · subst ct; exact .inr (.inr (.inl rfl))
    by_cases ce : c = 69
    · subst ce; exact .inr (.inr (.inr (.inl rfl)))
    by_cases ch : c = 72
    · subst ch; exact .inr (.inr (.inr (.inr rfl)))
    left
    refine usages_none _ (fun i h0 h10 => ?_) 11 0 (by omega) (by omega)
    rw [one_is]
    congr 1
    refine decide_eq_false ?_
    rcases (by omega : i = 0 ∨ i = 1 ∨ i = 2 ∨ i = 3 ∨ i = 4 ∨ i = 5 ∨ i = 6 ∨ i = 7 ∨ i = 8 ∨ i = 9) with rfl | rfl | rfl | rfl | rfl | rfl | rfl | rfl | rfl | rfl
    all_goals simp [rdOf, linesS, ca, ct, ce, ch]
  · left
    exact usages_none _ (fun i _ _ => one_not _ h1) 11 0 (by omega) (by omega)
theorem bt_get (b : ByteArray) (i : Nat) (h : i < b.size) : bt b (i : Int) = ((b.data[i]'h).toNat : Int) := by
  unfold bt
  rw [dif_pos (by simpa using h)]
  rfl
theorem in_loop (c : UInt8) (b : ByteArray) (hb : b.size ≤ 1000) (d : Nat) : ∀ i : Nat, i ≤ b.size → b.size - i = d →
    Ev (fun k => clavigerref30_in.l0 k ⟨#[c]⟩ b (i : Int)) (decide (c ∈ b.data.toList.drop i)) := by
  induction d with
  | zero =>
    intro i hi hd
    refine Ev.step (fun k => by rw [clavigerref30_in.l0]) ?_
    refine Ev.ifn (by omega) ?_
    refine (Ev.now false).eq ?_
    rw [List.drop_eq_nil_of_le (by simp; exact Nat.le_of_sub_eq_zero hd)]
    simp
  | succ d ih =>
    intro i hi hd
    have hlt : i < b.size := by omega
    refine Ev.step (fun k => by rw [clavigerref30_in.l0]) ?_
    refine Ev.ifp (by omega) ?_
    refine Ev.ifp (by omega) ?_
    refine Ev.ifp (show (0 : Int) < 1 by decide) ?_
    rw [bt_get b i hlt, show bt (⟨#[c]⟩ : ByteArray) 0 = (c.toNat : Int) from rfl, w64 (by omega) (by omega)]
    have hd2 : b.data.toList.drop i = b.data[i]'hlt :: b.data.toList.drop (i + 1) := by
      rw [List.drop_eq_getElem_cons (by simpa using hlt)]; simp
    by_cases e : ((b.data[i]'hlt).toNat : Int) = (c.toNat : Int)
    · refine Ev.ifp e ?_
      refine (Ev.now true).eq ?_
      have e2 : b.data[i]'hlt = c := UInt8.toNat_inj.1 (by omega)
      rw [hd2, e2]; simp
    · refine Ev.ifn e ?_
      refine (ih (i + 1) (by omega) (by omega)).eq ?_
      have e2 : ¬ c = b.data[i]'hlt := fun q => e (by rw [q])
      rw [hd2]
      exact decide_eq_decide.2 (by rw [List.mem_cons]; simp [e2])
theorem in_one (a b : ByteArray) (hb : b.size ≤ 1000) {t : Bool} (h : table_one.f a b = some t) : Ev (fun k => clavigerref30_in.f k a b) t := by
  unfold clavigerref30_in.f
  by_cases h1 : a.size = 1
  · obtain ⟨c, rfl⟩ := one_byte h1
    rw [one_is] at h
    refine Ev.ifp rfl ?_
    refine (in_loop c b hb _ 0 (by omega) rfl).eq ?_
    simpa using Option.some.inj h
  · rw [one_not b h1] at h
    refine Ev.ifn (by omega) ?_
    exact (Ev.now false).eq (Option.some.inj h)
theorem size_two {a : ByteArray} (h : a.size = 2) : ∃ c d : UInt8, a = ⟨#[c, d]⟩ := by
  obtain ⟨⟨l⟩⟩ := a
  match l, (show l.length = 2 from h) with
  | [c, d], _ => exact ⟨c, d, rfl⟩
theorem sz2 (c d : UInt8) : ((⟨#[c, d]⟩ : ByteArray).size : Int) = 2 := rfl
theorem two_is (c d : UInt8) : table_two.f ⟨#[c, d]⟩ = some (decide (49 ≤ c.toNat ∧ c.toNat ≤ 57 ∧ 48 ≤ d.toNat ∧ d.toNat ≤ 57)) := by
  unfold table_two.f
  rw [sz2, if_pos rfl, if_pos (show (1 : Int) < 2 by decide), show bt (⟨#[c, d]⟩ : ByteArray) 1 = (d.toNat : Int) from rfl]
  have e : (⟨#[c, d]⟩ : ByteArray).toList = [c, d] := by rw [toList_data]
  rw [e]
  simp only [Op.bytesLess, Bool.or_eq_true, Bool.and_eq_true, decide_eq_true_eq, beq_iff_eq, UInt8.lt_iff_toNat_lt, ← UInt8.toNat_inj, Bool.and_false, Bool.or_false, Bool.false_eq_true, and_false, or_false]
  have n49 : (49 : UInt8).toNat = 49 := rfl
  have n48 : (48 : UInt8).toNat = 48 := rfl
  have n57 : (57 : UInt8).toNat = 57 := rfl
  rw [n49, n48, n57]
  by_cases h1 : c.toNat < 49 ∨ c.toNat = 49 ∧ d.toNat < 48
  · rw [if_pos h1, decide_eq_false (by omega)]
  · rw [if_neg h1]
    by_cases h2 : 57 < c.toNat ∨ 57 = c.toNat ∧ 57 < d.toNat
    · rw [if_pos h2, decide_eq_false (by omega)]
    · rw [if_neg h2]
      by_cases h3 : (d.toNat : Int) ≥ 48
      · rw [if_pos h3]
        congr 1
        exact decide_eq_decide.2 (by omega)
      · rw [if_neg h3, decide_eq_false (by omega)]
theorem own_two (a : ByteArray) {t : Bool} (h : table_two.f a = some t) : clavigerref30_own.f a = some t := by
  by_cases h2 : a.size = 2
  · obtain ⟨c, d, rfl⟩ := size_two h2
    rw [two_is] at h
    rw [← h]
    unfold clavigerref30_own.f
    rw [sz2, if_pos rfl, if_pos (show (0 : Int) < 2 by decide), if_pos (show (1 : Int) < 2 by decide), show bt (⟨#[c, d]⟩ : ByteArray) 1 = (d.toNat : Int) from rfl, show bt (⟨#[c, d]⟩ : ByteArray) 0 = (c.toNat : Int) from rfl]
    by_cases h1 : (c.toNat : Int) ≥ 49
    · rw [if_pos h1]
      by_cases h3 : (c.toNat : Int) ≤ 57
      · rw [if_pos h3]
        by_cases h4 : (d.toNat : Int) ≥ 48
        · rw [if_pos h4]
          congr 1
          exact decide_eq_decide.2 (by omega)
        · rw [if_neg h4, decide_eq_false (by omega)]
      · rw [if_neg h3, decide_eq_false (by omega)]
    · rw [if_neg h1, decide_eq_false (by omega)]
  · unfold table_two.f at h
    rw [if_neg (by omega)] at h
    unfold clavigerref30_own.f
    rw [if_neg (by omega)]
    exact h
theorem str_ne {a : ByteArray} {m : List UInt8} (h : ¬ a = ⟨m.toArray⟩) : ¬ a.toList = m := by
  intro e
  refine h ?_
  rw [toList_data] at e
  cases a; simp only at e; subst e; simp
theorem str_beq {a : ByteArray} {m : List UInt8} (h : ¬ a = ⟨m.toArray⟩) : (a.toList == m) = false := beq_eq_false_iff_ne.2 (str_ne h)
/-- The keys of the table. -/
def keysU : List ByteArray := [⟨#[66, 48]⟩, ⟨#[68, 48]⟩, ⟨#[68, 49]⟩, ⟨#[75, 48]⟩, ⟨#[75, 49]⟩, ⟨#[77, 51]⟩, ⟨#[77, 54]⟩, ⟨#[77, 55]⟩, ⟨#[80, 48]⟩, ⟨#[83, 48]⟩]
theorem of_both (a : ByteArray) : ∃ u l m, table_of.f a = some (u, l, m) ∧ l.size ≤ 1000 ∧ m.size ≤ 1000 ∧ Ev (fun k => clavigerref30_letters.f k a) l ∧ Ev (fun k => clavigerref30_Modes.f k a) m := by
  by_cases h0 : a = ⟨#[66, 48]⟩
  · subst h0; exact ⟨_, _, _, rfl, by decide, by decide, Ev.of (clavigerref30_letters.mono _) (k := 9) (by kernel_rfl), Ev.of (clavigerref30_Modes.mono _) (k := 9) (by kernel_rfl)⟩
  by_cases h1 : a = ⟨#[68, 48]⟩
  · subst h1; exact ⟨⟨#[68, 48]⟩, ⟨#[65, 84]⟩, ⟨#[66, 68, 69, 78]⟩, by kernel_rfl, by decide, by decide, Ev.of (clavigerref30_letters.mono _) (k := 9) (by kernel_rfl), Ev.of (clavigerref30_Modes.mono _) (k := 9) (by kernel_rfl)⟩
  by_cases h2 : a = ⟨#[68, 49]⟩
  · subst h2; exact ⟨⟨#[68, 49]⟩, ⟨#[69]⟩, ⟨#[66, 68, 69, 78]⟩, by kernel_rfl, by decide, by decide, Ev.of (clavigerref30_letters.mono _) (k := 9) (by kernel_rfl), Ev.of (clavigerref30_Modes.mono _) (k := 9) (by kernel_rfl)⟩
  by_cases h3 : a = ⟨#[75, 48]⟩
  · subst h3; exact ⟨⟨#[75, 48]⟩, ⟨#[65, 84]⟩, ⟨#[66, 68, 69, 78]⟩, by kernel_rfl, by decide, by decide, Ev.of (clavigerref30_letters.mono _) (k := 9) (by kernel_rfl), Ev.of (clavigerref30_Modes.mono _) (k := 9) (by kernel_rfl)⟩
  by_cases h4 : a = ⟨#[75, 49]⟩
  · subst h4; exact ⟨⟨#[75, 49]⟩, ⟨#[65, 84]⟩, ⟨#[66, 68, 69, 78]⟩, by kernel_rfl, by decide, by decide, Ev.of (clavigerref30_letters.mono _) (k := 9) (by kernel_rfl), Ev.of (clavigerref30_Modes.mono _) (k := 9) (by kernel_rfl)⟩
  by_cases h5 : a = ⟨#[77, 51]⟩
  · subst h5; exact ⟨⟨#[77, 51]⟩, ⟨#[84]⟩, ⟨#[67, 71, 78, 86]⟩, by kernel_rfl, by decide, by decide, Ev.of (clavigerref30_letters.mono _) (k := 9) (by kernel_rfl), Ev.of (clavigerref30_Modes.mono _) (k := 9) (by kernel_rfl)⟩
  by_cases h6 : a = ⟨#[77, 54]⟩
  · subst h6; exact ⟨⟨#[77, 54]⟩, ⟨#[65, 84]⟩, ⟨#[67, 71, 78, 86]⟩, by kernel_rfl, by decide, by decide, Ev.of (clavigerref30_letters.mono _) (k := 9) (by kernel_rfl), Ev.of (clavigerref30_Modes.mono _) (k := 9) (by kernel_rfl)⟩
  by_cases h7 : a = ⟨#[77, 55]⟩
  · subst h7; exact ⟨⟨#[77, 55]⟩, ⟨#[72]⟩, ⟨#[67, 71, 78, 86]⟩, by kernel_rfl, by decide, by decide, Ev.of (clavigerref30_letters.mono _) (k := 9) (by kernel_rfl), Ev.of (clavigerref30_Modes.mono _) (k := 9) (by kernel_rfl)⟩
  by_cases h8 : a = ⟨#[80, 48]⟩
  · subst h8; exact ⟨⟨#[80, 48]⟩, ⟨#[65, 84]⟩, ⟨#[66, 68, 69, 78]⟩, by kernel_rfl, by decide, by decide, Ev.of (clavigerref30_letters.mono _) (k := 9) (by kernel_rfl), Ev.of (clavigerref30_Modes.mono _) (k := 9) (by kernel_rfl)⟩
  by_cases h9 : a = ⟨#[83, 48]⟩
  · subst h9; exact ⟨⟨#[83, 48]⟩, ⟨#[69]⟩, ⟨#[78, 83, 84, 86]⟩, by kernel_rfl, by decide, by decide, Ev.of (clavigerref30_letters.mono _) (k := 9) (by kernel_rfl), Ev.of (clavigerref30_Modes.mono _) (k := 9) (by kernel_rfl)⟩
  obtain ⟨t, ht⟩ := two_some a
  have ho := own_two a ht
  have hof : table_of.f a = (table_two.f a).bind fun t => if t = true then some (a, ⟨#[65, 69, 72, 84]⟩, ⟨#[66, 67, 68, 69, 71, 78, 83, 84, 86, 88]⟩) else some (⟨#[]⟩, ⟨#[]⟩, ⟨#[]⟩) := by
    unfold table_of.f
    rw [if_neg h0, if_neg h1, if_neg h2, if_neg h3, if_neg h4, if_neg h5, if_neg h6, if_neg h7, if_neg h8, if_neg h9]
  rw [hof, ht]
  have hl : ∀ x, (if t = true then some (⟨#[65, 69, 72, 84]⟩ : ByteArray) else some ⟨#[]⟩) = some x → Ev (fun k => clavigerref30_letters.f k a) x := by
    intro x hx
    unfold clavigerref30_letters.f
    refine Ev.ifn (str_ne h0) ?_
    refine Ev.ifn (str_ne h1) ?_
    refine Ev.ifn (str_ne h3) ?_
    refine Ev.ifn (str_ne h4) ?_
    refine Ev.ifn (str_ne h6) ?_
    rw [str_beq h8]
    refine Ev.step (fun k => by rw [clavigerref30_letters.j0]) ?_
    refine Ev.ifn (by decide) ?_
    refine Ev.ifn (str_ne h2) ?_
    rw [str_beq h9]
    refine Ev.step (fun k => by rw [clavigerref30_letters.j1]) ?_
    refine Ev.ifn (by decide) ?_
    refine Ev.ifn (str_ne h5) ?_
    refine Ev.ifn (str_ne h7) ?_
    refine Ev.bindc ho ?_
    exact Ev.const hx
  have hm : ∀ x, (if t = true then some (⟨#[66, 67, 68, 69, 71, 78, 83, 84, 86, 88]⟩ : ByteArray) else some ⟨#[]⟩) = some x → Ev (fun k => clavigerref30_Modes.f k a) x := by
    intro x hx
    unfold clavigerref30_Modes.f
    refine Ev.ifn (str_ne h0) ?_
    refine Ev.ifn (str_ne h1) ?_
    refine Ev.ifn (str_ne h2) ?_
    refine Ev.ifn (str_ne h3) ?_
    refine Ev.ifn (str_ne h4) ?_
    rw [str_beq h8]
    refine Ev.step (fun k => by rw [clavigerref30_Modes.j0]) ?_
    refine Ev.ifn (by decide) ?_
    refine Ev.ifn (str_ne h5) ?_
    refine Ev.ifn (str_ne h6) ?_
    rw [str_beq h7]
    refine Ev.step (fun k => by rw [clavigerref30_Modes.j1]) ?_
    refine Ev.ifn (by decide) ?_
    refine Ev.ifn (str_ne h9) ?_
    refine Ev.bindc ho ?_
    exact Ev.const hx
  cases t
  · exact ⟨_, _, _, rfl, by decide, by decide, hl _ rfl, hm _ rfl⟩
  · exact ⟨_, _, _, rfl, by decide, by decide, hl _ rfl, hm _ rfl⟩
theorem modes_both (a : ByteArray) : ∃ m, table_Modes.f a = some m ∧ Ev (fun k => clavigerref30_Modes.f k a) m := by
  obtain ⟨u, l, m, h, _, _, _, hm⟩ := of_both a
  exact ⟨m, by unfold table_Modes.f; rw [h]; rfl, hm⟩
theorem usage_both (a x : ByteArray) : ∃ t, table_Usage.f a x = some t ∧ Ev (fun k => clavigerref30_Usage.f k a x) t := by
  obtain ⟨u, l, m, h, hl, _, hL, _⟩ := of_both a
  obtain ⟨t, ht⟩ := one_some x l
  refine ⟨t, by unfold table_Usage.f; rw [h]; simp only [Option.bind_some]; rw [ht]; rfl, ?_⟩
  unfold clavigerref30_Usage.f
  exact Ev.bind hL (Ev.bind (in_one x l hl ht) (Ev.now _))
theorem mode_both (a x : ByteArray) : ∃ t, table_Mode.f a x = some t ∧ Ev (fun k => clavigerref30_Mode.f k a x) t := by
  obtain ⟨u, l, m, h, _, hm, _, hM⟩ := of_both a
  obtain ⟨t, ht⟩ := one_some x m
  refine ⟨t, by unfold table_Mode.f; rw [h]; simp only [Option.bind_some]; rw [ht]; rfl, ?_⟩
  unfold clavigerref30_Mode.f
  exact Ev.bind hM (Ev.bind (in_one x m hm ht) (Ev.now _))
theorem export_both (a : ByteArray) : ∃ t, table_Export.f a = some t ∧ Ev (fun k => clavigerref30_Export.f k a) t := by
  obtain ⟨t, ht⟩ := one_some a ⟨#[69, 78, 83]⟩
  refine ⟨t, by unfold table_Export.f; rw [ht]; rfl, ?_⟩
  unfold clavigerref30_Export.f
  exact Ev.bind (in_one a _ (by decide) ht) (Ev.now _)
theorem cut_yes {a : ByteArray} (h : 1 ≤ a.size) (h2 : (a.extract 0 1).toList = [99]) : strings_CutPrefix.f a ⟨#[99]⟩ = some (a.extract 1 a.size, true) := by
  unfold strings_CutPrefix.f stringslite_CutPrefix.f stringslite_HasPrefix.f
  have e1 : ((⟨#[99]⟩ : ByteArray).size : Int) = 1 := rfl
  have e2 : (⟨#[99]⟩ : ByteArray).toList = [99] := by rw [toList_data]
  rw [e1, e2, if_pos (by omega), if_pos (show (0 : Int) ≤ 1 by decide), if_pos (by omega)]
  have h3 : ((a.extract 0 (1 : Int).toNat).toList == [99]) = true := beq_iff_eq.2 h2
  rw [h3]
  simp only [Option.bind_some, if_true]
  rw [if_pos (show (0 : Int) ≤ 1 by decide), if_pos (by omega)]
  rfl
theorem cut_no {a : ByteArray} (h : ¬ (1 ≤ a.size ∧ (a.extract 0 1).toList = [99])) : strings_CutPrefix.f a ⟨#[99]⟩ = some (a, false) := by
  unfold strings_CutPrefix.f stringslite_CutPrefix.f stringslite_HasPrefix.f
  have e1 : ((⟨#[99]⟩ : ByteArray).size : Int) = 1 := rfl
  have e2 : (⟨#[99]⟩ : ByteArray).toList = [99] := by rw [toList_data]
  rw [e1, e2]
  by_cases h0 : 1 ≤ a.size
  · rw [if_pos (by omega), if_pos (show (0 : Int) ≤ 1 by decide), if_pos (by omega)]
    have h3 : ((a.extract 0 (1 : Int).toNat).toList == [99]) = false := beq_eq_false_iff_ne.2 fun e => h ⟨h0, e⟩
    rw [h3]
    simp only [Option.bind_some, Bool.false_eq_true, if_false]
  · rw [if_neg (by omega)]
    simp only [Option.bind_some, Bool.false_eq_true, if_false]
theorem digit_iff (d : UInt8) : d ∈ [(49 : UInt8), 50, 51, 52, 53, 54, 55, 56, 57] ↔ 49 ≤ d.toNat ∧ d.toNat ≤ 57 := by
  simp only [List.mem_cons, List.not_mem_nil, or_false, ← UInt8.toNat_inj, show (49 : UInt8).toNat = 49 from rfl, show (50 : UInt8).toNat = 50 from rfl, show (51 : UInt8).toNat = 51 from rfl, show (52 : UInt8).toNat = 52 from rfl, show (53 : UInt8).toNat = 53 from rfl, show (54 : UInt8).toNat = 54 from rfl, show (55 : UInt8).toNat = 55 from rfl, show (56 : UInt8).toNat = 56 from rfl, show (57 : UInt8).toNat = 57 from rfl]
  omega
theorem version_both (a : ByteArray) : ∃ t, table_Version.f a = some t ∧ clavigerref30_Version.f a = some t := by
  obtain ⟨t, ht⟩ := two_some a
  have ho := own_two a ht
  unfold table_Version.f clavigerref30_Version.f
  by_cases hp : 1 ≤ a.size ∧ (a.extract 0 1).toList = [99]
  · rw [cut_yes hp.1 hp.2, ht, ho]
    simp only [Option.bind_some]
    by_cases c0 : a.toList = [48, 48]
    · rw [if_pos c0, if_pos c0]; exact ⟨_, rfl, rfl⟩
    rw [if_neg c0, if_neg c0]
    cases t
    · simp only [Bool.false_eq_true, if_false, if_true]
      by_cases h2 : a.size = 2
      · obtain ⟨c, d, rfl⟩ := size_two h2
        have e2 : (⟨#[c, d]⟩ : ByteArray).extract 1 (⟨#[c, d]⟩ : ByteArray).size = ⟨#[d]⟩ := rfl
        have hc : c = 99 := by
          have q := hp.2
          rw [show (⟨#[c, d]⟩ : ByteArray).extract 0 1 = ⟨#[c]⟩ from rfl, toList_data] at q
          exact (List.cons.inj q).1
        subst hc
        rw [e2, one_is, sz2, if_pos rfl, if_pos (show (0 : Int) < 2 by decide), if_pos (show (1 : Int) < 2 by decide), show bt (⟨#[99, d]⟩ : ByteArray) 1 = (d.toNat : Int) from rfl, if_pos (show bt (⟨#[99, d]⟩ : ByteArray) 0 = 99 from rfl)]
        refine ⟨_, rfl, ?_⟩
        have hd := digit_iff d
        by_cases h4 : (d.toNat : Int) ≥ 49
        · rw [if_pos h4]
          congr 1
          exact decide_eq_decide.2 ⟨fun q => hd.2 ⟨by omega, by omega⟩, fun q => by have := hd.1 q; omega⟩
        · rw [if_neg h4]
          congr 1
          symm
          exact decide_eq_false fun q => by have := hd.1 q; omega
      · rw [if_neg (by omega), one_not _ (by rw [ByteArray.size_extract]; omega)]
        exact ⟨_, rfl, rfl⟩
    · exact ⟨_, rfl, rfl⟩
  · rw [cut_no hp, ht, ho]
    simp only [Option.bind_some]
    by_cases c0 : a.toList = [48, 48]
    · rw [if_pos c0, if_pos c0]; exact ⟨_, rfl, rfl⟩
    rw [if_neg c0, if_neg c0]
    cases t
    · simp only [Bool.false_eq_true, if_false]
      by_cases h2 : a.size = 2
      · obtain ⟨c, d, rfl⟩ := size_two h2
        have hc : ¬ (c.toNat : Int) = 99 := by
          intro q
          refine hp ⟨show 1 ≤ 2 by decide, ?_⟩
          rw [show (⟨#[c, d]⟩ : ByteArray).extract 0 1 = ⟨#[c]⟩ from rfl, toList_data]
          have : c = 99 := UInt8.toNat_inj.1 (by rw [show (99 : UInt8).toNat = 99 from rfl]; omega)
          rw [this]
        rw [sz2, if_pos rfl, if_pos (show (0 : Int) < 2 by decide), show bt (⟨#[c, d]⟩ : ByteArray) 0 = (c.toNat : Int) from rfl, if_neg hc]
        exact ⟨_, rfl, rfl⟩
      · rw [if_neg (by omega)]
        exact ⟨_, rfl, rfl⟩
    · exact ⟨_, rfl, rfl⟩
theorem check_both (u m v e x : ByteArray) : ∃ t, table_Check.f u m v e x = some t ∧ Ev (fun k => clavigerref30_Check.f k u m v e x) t := by
  obtain ⟨t1, h1, g1⟩ := usage_both u x
  obtain ⟨t2, h2, g2⟩ := mode_both u m
  obtain ⟨t3, h3, g3⟩ := version_both v
  obtain ⟨t4, h4, g4⟩ := export_both e
  unfold table_Check.f clavigerref30_Check.f
  rw [h1, h2, h3, h4]
  simp only [Option.bind_some]
  refine ⟨if t1 = true then (if t2 = true then (if t3 = true then (if t4 = true then 0 else 12) else 12) else 12) else 12, by cases t1 <;> cases t2 <;> cases t3 <;> cases t4 <;> rfl, ?_⟩
  refine Ev.bind g1 (Ev.ite (fun _ => Ev.bind g2 (Ev.ite (fun _ => Ev.bindc g3 (Ev.ite (fun _ => Ev.bind g4 (Ev.ite (fun _ => Ev.now _) (fun _ => Ev.now _))) (fun _ => Ev.now _))) (fun _ => Ev.now _))) (fun _ => Ev.now _))
theorem usages_cases2 (x0 : ByteArray) : (∀ b : ByteArray, b ∈ [(⟨#[65, 84]⟩ : ByteArray), ⟨#[69]⟩, ⟨#[84]⟩, ⟨#[72]⟩] → table_one.f x0 b = some false) ∨ x0 = ⟨#[65]⟩ ∨ x0 = ⟨#[84]⟩ ∨ x0 = ⟨#[69]⟩ ∨ x0 = ⟨#[72]⟩ := by
  by_cases h1 : x0.size = 1
  · obtain ⟨c, rfl⟩ := one_byte h1
    by_cases ca : c = 65
    · subst ca; exact .inr (.inl rfl)
    by_cases ct : c = 84
    · subst ct; exact .inr (.inr (.inl rfl))
    by_cases ce : c = 69
    · subst ce; exact .inr (.inr (.inr (.inl rfl)))
    by_cases ch : c = 72
    · subst ch; exact .inr (.inr (.inr (.inr rfl)))
    left
    intro b hb
    rw [one_is]
    congr 1
    refine decide_eq_false ?_
    simp only [List.mem_cons, List.not_mem_nil, or_false] at hb
    rcases hb with rfl | rfl | rfl | rfl <;> simp [ca, ct, ce, ch]
  · exact .inl fun b _ => one_not b h1
theorem refUsages_none (x0 : ByteArray) (L : List ByteArray) (hL : L.length ≤ 100) (h : ∀ u ∈ L, Ev (fun k => clavigerref30_Usage.f k u x0) false) (d : Nat) : ∀ i : Nat, i ≤ L.length → L.length - i = d →
    Ev (fun k => clavigerref30_Usages.l0 k x0 L [] (i : Int)) [] := by
  induction d with
  | zero =>
    intro i hi hd
    refine Ev.step (fun k => by rw [clavigerref30_Usages.l0]) ?_
    exact Ev.ifn (by omega) (Ev.now _)
  | succ d ih =>
    intro i hi hd
    have hlt : i < L.length := by omega
    refine Ev.step (fun k => by rw [clavigerref30_Usages.l0]) ?_
    refine Ev.ifp (by omega) ?_
    refine Ev.ifp (by omega) ?_
    rw [rdOf_get ByteArray.empty i hlt]
    refine Ev.bind (h _ (List.getElem_mem hlt)) ?_
    refine Ev.ifn (by decide) ?_
    rw [w64 (by omega) (by omega)]
    exact ih (i + 1) (by omega) (by omega)
theorem usages_both (x : ByteArray) : ∃ L, table_Usages.f x = some L ∧ L.length ≤ 10 ∧ Ev (fun k => clavigerref30_Usages.f k x) L := by
  rcases usages_cases2 x with h | rfl | rfl | rfl | rfl
  · refine ⟨[], ?_, by simp, ?_⟩
    · refine usages_none _ (fun i h0 h10 => ?_) 11 0 (by omega) (by omega)
      refine h _ ?_
      rcases (by omega : i = 0 ∨ i = 1 ∨ i = 2 ∨ i = 3 ∨ i = 4 ∨ i = 5 ∨ i = 6 ∨ i = 7 ∨ i = 8 ∨ i = 9) with rfl | rfl | rfl | rfl | rfl | rfl | rfl | rfl | rfl | rfl
      all_goals simp [rdOf, linesS]
    · refine refUsages_none x _ (by simp) (fun u hu => ?_) _ 0 (by simp) rfl
      obtain ⟨t, ht, hE⟩ := usage_both u x
      have : t = false := by
        have hx : table_Usage.f u x = some false := by
          simp only [List.mem_cons, List.not_mem_nil, or_false] at hu
          unfold table_Usage.f
          rcases hu with rfl | rfl | rfl | rfl | rfl | rfl | rfl | rfl | rfl | rfl
          · rw [show table_of.f ⟨#[66, 48]⟩ = some (⟨#[66, 48]⟩, ⟨#[65, 84]⟩, ⟨#[78, 88]⟩) by kernel_rfl]; simp only [Option.bind_some]; rw [h _ (by simp)]; rfl
          · rw [show table_of.f ⟨#[68, 48]⟩ = some (⟨#[68, 48]⟩, ⟨#[65, 84]⟩, ⟨#[66, 68, 69, 78]⟩) by kernel_rfl]; simp only [Option.bind_some]; rw [h _ (by simp)]; rfl
          · rw [show table_of.f ⟨#[68, 49]⟩ = some (⟨#[68, 49]⟩, ⟨#[69]⟩, ⟨#[66, 68, 69, 78]⟩) by kernel_rfl]; simp only [Option.bind_some]; rw [h _ (by simp)]; rfl
          · rw [show table_of.f ⟨#[75, 48]⟩ = some (⟨#[75, 48]⟩, ⟨#[65, 84]⟩, ⟨#[66, 68, 69, 78]⟩) by kernel_rfl]; simp only [Option.bind_some]; rw [h _ (by simp)]; rfl
          · rw [show table_of.f ⟨#[75, 49]⟩ = some (⟨#[75, 49]⟩, ⟨#[65, 84]⟩, ⟨#[66, 68, 69, 78]⟩) by kernel_rfl]; simp only [Option.bind_some]; rw [h _ (by simp)]; rfl
          · rw [show table_of.f ⟨#[77, 51]⟩ = some (⟨#[77, 51]⟩, ⟨#[84]⟩, ⟨#[67, 71, 78, 86]⟩) by kernel_rfl]; simp only [Option.bind_some]; rw [h _ (by simp)]; rfl
          · rw [show table_of.f ⟨#[77, 54]⟩ = some (⟨#[77, 54]⟩, ⟨#[65, 84]⟩, ⟨#[67, 71, 78, 86]⟩) by kernel_rfl]; simp only [Option.bind_some]; rw [h _ (by simp)]; rfl
          · rw [show table_of.f ⟨#[77, 55]⟩ = some (⟨#[77, 55]⟩, ⟨#[72]⟩, ⟨#[67, 71, 78, 86]⟩) by kernel_rfl]; simp only [Option.bind_some]; rw [h _ (by simp)]; rfl
          · rw [show table_of.f ⟨#[80, 48]⟩ = some (⟨#[80, 48]⟩, ⟨#[65, 84]⟩, ⟨#[66, 68, 69, 78]⟩) by kernel_rfl]; simp only [Option.bind_some]; rw [h _ (by simp)]; rfl
          · rw [show table_of.f ⟨#[83, 48]⟩ = some (⟨#[83, 48]⟩, ⟨#[69]⟩, ⟨#[78, 83, 84, 86]⟩) by kernel_rfl]; simp only [Option.bind_some]; rw [h _ (by simp)]; rfl
        rw [hx] at ht
        exact (Option.some.inj ht).symm
      rw [this] at hE
      exact hE
  · exact ⟨_, (show _ = some [⟨#[66, 48]⟩, ⟨#[68, 48]⟩, ⟨#[75, 48]⟩, ⟨#[75, 49]⟩, ⟨#[77, 54]⟩, ⟨#[80, 48]⟩] by kernel_rfl), by decide, Ev.of (clavigerref30_Usages.mono _) (k := 40) (by kernel_rfl)⟩
  · exact ⟨_, (show _ = some [⟨#[66, 48]⟩, ⟨#[68, 48]⟩, ⟨#[75, 48]⟩, ⟨#[75, 49]⟩, ⟨#[77, 51]⟩, ⟨#[77, 54]⟩, ⟨#[80, 48]⟩] by kernel_rfl), by decide, Ev.of (clavigerref30_Usages.mono _) (k := 40) (by kernel_rfl)⟩
  · exact ⟨_, (show _ = some [⟨#[68, 49]⟩, ⟨#[83, 48]⟩] by kernel_rfl), by decide, Ev.of (clavigerref30_Usages.mono _) (k := 40) (by kernel_rfl)⟩
  · exact ⟨_, (show _ = some [⟨#[77, 55]⟩] by kernel_rfl), by decide, Ev.of (clavigerref30_Usages.mono _) (k := 40) (by kernel_rfl)⟩
theorem awake30t : clavigerlaw30_awake.f = some true := by kernel_rfl
theorem tells_j0 (x1 : ByteArray) (b : Bool) (u m v e : ByteArray) : Ev (fun k => clavigerlaw30_TableTells.j0 k x1 b u m v e) true := by
  refine Ev.step (fun k => by rw [clavigerlaw30_TableTells.j0]) ?_
  cases b
  · refine Ev.ifn (by decide) ?_
    obtain ⟨t1, h1, g1⟩ := usage_both u x1
    refine Ev.bindc h1 (Ev.bind g1 (Ev.ifp (by simp) ?_))
    obtain ⟨t2, h2, g2⟩ := mode_both u m
    refine Ev.bindc h2 (Ev.bind g2 (Ev.ifp (by simp) ?_))
    obtain ⟨t3, h3, g3⟩ := version_both v
    refine Ev.bindc h3 (Ev.bindc g3 (Ev.ifp (by simp) ?_))
    obtain ⟨t4, h4, g4⟩ := export_both e
    refine Ev.bindc h4 (Ev.bind g4 (Ev.ifp (by simp) ?_))
    obtain ⟨t5, h5, g5⟩ := check_both u m v e x1
    refine Ev.bindc h5 (Ev.bind g5 (Ev.ifp rfl ?_))
    obtain ⟨t6, h6, g6⟩ := modes_both u
    refine Ev.bindc h6 (Ev.bind g6 (Ev.ifp rfl ?_))
    obtain ⟨L, h7, hL, g7⟩ := usages_both x1
    refine Ev.bindc h7 (Ev.bind g7 ?_)
    refine Ev.bind (slices_Equal_refl L (by omega)) (Ev.ifp rfl ?_)
    exact Ev.bindc awake30t (Ev.now _)
  · refine Ev.ifp rfl ?_
    exact Ev.bindc awake30t (Ev.const rfl)
theorem TableTells : clavigerlaw30_TableTells.Pure := by
  intro a0 a1 a2 a3 a4 _ _
  refine Ev.rounds ?_
  unfold clavigerlaw30_TableTells.f
  have hH : ∃ t, clavigerplain_Head.f a0 a1 a2 a3 = some t := by
    unfold clavigerplain_Head.f
    split
    · split
      · split
        · exact ⟨_, rfl⟩
        · exact ⟨_, rfl⟩
      · exact ⟨_, rfl⟩
    · exact ⟨_, rfl⟩
  obtain ⟨t, ht⟩ := hH
  refine Ev.bindc ht ?_
  cases t
  · exact Ev.ifn (by decide) (tells_j0 ..)
  · exact Ev.ifp rfl (tells_j0 ..)
end Go.Proofs.Ytaapjmljdlneoaa.Pure
