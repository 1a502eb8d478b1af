/- Each usage of a letter goes with each of its modes, and each version and exportability that may be: TableGoes is true of every input. No condition. -/
import Derived.Test.YtaapjmljdlneoaaPTableGoesx
namespace Go.Proofs.Ytaapjmljdlneoaa.Pure
open Go.RowKit Go.Proofs.Ytaapjmljdlneoaa.PTableGoes Go.Proofs.YtaapjmljdlneoaaW.PrintWords Go.Proofs.YtaapjmljdlneoaaW.PrintLast
set_option linter.unusedVariables false
set_option linter.unusedSimpArgs false
/-- The number of bytes. -/
def getN (l : List Int) : Int := l.foldl (fun n b => n * 256 + b) 0
theorem getN_snoc (l : List Int) (x : Int) : getN (l ++ [x]) = getN l * 256 + x := by simp [getN]
theorem getN_take {l : List Int} (i : Nat) (h : i < l.length) : getN (l.take (i + 1)) = getN (l.take i) * 256 + l[i] := by
  rw [List.take_succ_eq_append_getElem h, getN_snoc]
theorem getN_bd (n : Nat) : ∀ l : List Int, OkB l → l.length ≤ n → 0 ≤ getN l ∧ getN l < 256 ^ n := by
  induction n with
  | zero => intro l h hn; obtain rfl := List.eq_nil_of_length_eq_zero (Nat.le_zero.1 hn); simp [getN]
  | succ n ih =>
    intro l h hn
    have hp : (0 : Int) < 256 ^ n := Int.pow_pos (by decide)
    by_cases e : l = []
    · subst e
      rw [Int.pow_succ]
      simp only [getN, List.foldl_nil]
      omega
    · obtain ⟨m, x, rfl⟩ : ∃ m x, l = m ++ [x] := ⟨l.dropLast, l.getLast e, (List.dropLast_concat_getLast e).symm⟩
      have h1 := ih m (fun y hy => h y (List.mem_append_left _ hy)) (by simp at hn; omega)
      have h2 := h x (by simp)
      rw [getN_snoc, Int.pow_succ]
      omega
theorem getN_lt7 (l : List Int) (h : OkB l) (hn : l.length ≤ 7) : 0 ≤ getN l ∧ getN l < 72057594037927936 := getN_bd 7 l h hn
theorem idx_mem (c : UInt8) : ∀ l : List UInt8, (0 ≤ Lib.indexByte l c) ↔ c ∈ l
  | [] => by simp [Lib.indexByte]
  | b :: l => by
    have ih := idx_mem c l
    have hg := Lib.indexByte_ge l c
    rw [Lib.indexByte]
    by_cases h : b = c
    · subst h; simp
    · have h1 : (b == c) = false := beq_eq_false_iff_ne.2 h
      rw [h1, if_neg (by simp), List.mem_cons, ← ih]
      by_cases h2 : Lib.indexByte l c = -1
      · rw [h2]; simp; exact fun e => h e.symm
      · have h3 : (Lib.indexByte l c == -1) = false := beq_eq_false_iff_ne.2 h2
        rw [h3, if_neg (by simp)]
        constructor
        · intro _; right; omega
        · rintro (e | e)
          · exact absurd e.symm h
          · omega
theorem one_not {a : ByteArray} (b : ByteArray) (h : a.size ≠ 1) : table_one.f a b = some false := by
  unfold table_one.f
  rw [if_neg (by omega)]
theorem one_is (c : UInt8) (b : ByteArray) : table_one.f ⟨#[c]⟩ b = some (decide (c ∈ b.data.toList)) := by
  unfold table_one.f strings_Contains.f
  rw [if_pos (show ((⟨#[c]⟩ : ByteArray).size : Int) = 1 from rfl), if_pos (show (⟨#[c]⟩ : ByteArray).size = 1 from rfl), one_byte_bt]
  simp only [Option.bind_some]
  congr 1
  have : UInt8.ofNat ((c.toNat : Int)).toNat = c := by simp
  rw [this]
  exact decide_eq_decide.2 (idx_mem c _)
theorem one_some (a b : ByteArray) : ∃ t, table_one.f a b = some t := by
  by_cases h : a.size = 1
  · obtain ⟨c, rfl⟩ := one_byte h
    exact ⟨_, one_is c b⟩
  · exact ⟨_, one_not b h⟩
theorem two_some (a : ByteArray) : ∃ t, table_two.f a = some t := by
  unfold table_two.f
  split
  · rename_i h
    split
    · exact ⟨_, rfl⟩
    · split
      · exact ⟨_, rfl⟩
      · rw [if_pos (by omega)]
        split
        · exact ⟨_, rfl⟩
        · exact ⟨_, rfl⟩
  · exact ⟨_, rfl⟩
theorem hasPrefix_some (a b : ByteArray) : ∃ t, stringslite_HasPrefix.f a b = some t := by
  unfold stringslite_HasPrefix.f
  by_cases h : (a.size : Int) ≥ (b.size : Int)
  · rw [if_pos h, if_pos (by omega), if_pos (by omega)]; exact ⟨_, rfl⟩
  · rw [if_neg h]; exact ⟨_, rfl⟩
theorem cutPrefix_some (a b : ByteArray) : ∃ t, strings_CutPrefix.f a b = some t := by
  unfold strings_CutPrefix.f stringslite_CutPrefix.f
  unfold stringslite_HasPrefix.f
  by_cases h : (a.size : Int) ≥ (b.size : Int)
  · rw [if_pos h, if_pos (by omega), if_pos (by omega)]
    simp only [Option.bind_some]
    split
    · exact ⟨_, rfl⟩
    · exact ⟨_, rfl⟩
  · rw [if_neg h]; exact ⟨_, rfl⟩
theorem version_some (a : ByteArray) : ∃ t, table_Version.f a = some t := by
  unfold table_Version.f
  obtain ⟨p, hp⟩ := cutPrefix_some a ⟨#[99]⟩
  obtain ⟨t, ht⟩ := two_some a
  obtain ⟨o, ho⟩ := one_some p.1 ⟨#[49, 50, 51, 52, 53, 54, 55, 56, 57]⟩
  rw [hp]
  simp only [Option.bind_some, ht, ho]
  split
  · exact ⟨_, rfl⟩
  · split
    · exact ⟨_, rfl⟩
    · split
      · exact ⟨_, rfl⟩
      · exact ⟨_, rfl⟩
theorem export_some (a : ByteArray) : ∃ t, table_Export.f a = some t := by
  unfold table_Export.f
  obtain ⟨o, ho⟩ := one_some a ⟨#[69, 78, 83]⟩
  rw [ho]; exact ⟨_, rfl⟩
theorem check_of {u m x1 x2 x0 : ByteArray} {V E : Bool} (hU : table_Usage.f u x0 = some true) (hM : table_Mode.f u m = some true) (hV : table_Version.f x1 = some V) (hE : table_Export.f x2 = some E) :
    table_Check.f u m x1 x2 x0 = some (if V = true then (if E = true then 0 else 12) else 12) := by
  unfold table_Check.f
  rw [hU, hM, hV, hE]
  cases V <;> cases E <;> rfl
theorem usages_none (x0 : ByteArray) (h : ∀ i : Int, 0 ≤ i → i < 10 → table_one.f x0 (rdOf ByteArray.empty linesS i) = some false) :
    ∀ (k : Nat) (i : Nat), i ≤ 10 → 10 < k + i → table_Usages.l0 k x0 [] (i : Int) = some []
  | 0, i, h1, h2 => by omega
  | k + 1, i, h1, h2 => by
    rw [table_Usages.l0]
    by_cases c : (i : Int) < 10
    · rw [if_pos c, if_pos (by omega), h i (by omega) c]
      simp only [Option.bind_some, Bool.false_eq_true, if_false]
      rw [w64 (by omega) (by omega)]
      have := usages_none x0 h k (i + 1) (by omega) (by omega)
      simpa using this
    · rw [if_neg c]
theorem usages_cases (x0 : ByteArray) : table_Usages.f x0 = some [] ∨ x0 = ⟨#[65]⟩ ∨ x0 = ⟨#[84]⟩ ∨ x0 = ⟨#[69]⟩ ∨ x0 = ⟨#[72]⟩ := by
  by_cases h1 : x0.size = 1
  · obtain ⟨c, rfl⟩ := one_byte h1
    by_cases ca : c = 65
    · subst ca; exact .inr (.inl rfl)
    by_cases ct : c = 84
    · subst ct; exact .inr (.inr (.inl rfl))
    by_cases ce : c = 69
    · subst ce; exact .inr (.inr (.inr (.inl rfl)))
    by_cases ch : c = 72
    · subst ch; exact .inr (.inr (.inr (.inr rfl)))
    left
    refine usages_none _ (fun i h0 h10 => ?_) 11 0 (by omega) (by omega)
    rw [one_is]
    congr 1
    refine decide_eq_false ?_
    rcases (by omega : i = 0 ∨ i = 1 ∨ i = 2 ∨ i = 3 ∨ i = 4 ∨ i = 5 ∨ i = 6 ∨ i = 7 ∨ i = 8 ∨ i = 9) with rfl | rfl | rfl | rfl | rfl | rfl | rfl | rfl | rfl | rfl
    all_goals simp [rdOf, linesS, ca, ct, ce, ch]
  · left
    exact usages_none _ (fun i _ _ => one_not _ h1) 11 0 (by omega) (by omega)
theorem awake30 : clavigerlaw30_awake.f = some true := by kernel_rfl
theorem goes_l1 (x0 x1 x2 : ByteArray) (x7 : Int) (x9 x10 : ByteArray) (x33 : List ByteArray) (x34 : Int) (j : Nat) (hs : x10.size ≤ 100) (hj : (j : Int) + 1 ≤ 9223372036854775807)
    (hc : ∀ i : Nat, i < x10.size → table_Check.f x9 (x10.extract i (i + 1)) x1 x2 x0 = some x7)
    (hn : Ev (fun k => clavigerlaw30_TableGoes.l0 k x0 x1 x2 x7 x33 x34 ((j : Int) + 1)) true) (d : Nat) : ∀ i : Nat, i ≤ x10.size → x10.size - i = d →
    Ev (fun k => clavigerlaw30_TableGoes.l1 k x0 x1 x2 x7 x9 x10 (i : Int) x33 x34 (j : Int)) true := by
  induction d with
  | zero =>
    intro i hi hd
    refine Ev.step (fun k => by rw [clavigerlaw30_TableGoes.l1]) ?_
    refine Ev.ifn (by omega) ?_
    rw [w64 (by omega) (by omega)]
    exact hn
  | succ d ih =>
    intro i hi hd
    refine Ev.step (fun k => by rw [clavigerlaw30_TableGoes.l1]) ?_
    refine Ev.ifp (by omega) ?_
    refine Ev.ifp (by omega) ?_
    rw [w64 (x := (i : Int) + 1) (by omega) (by omega)]
    refine Ev.ifp (by omega) ?_
    refine Ev.ifp (by omega) ?_
    refine Ev.bindc (hc i (by omega)) ?_
    refine Ev.ifp rfl ?_
    exact ih (i + 1) (by omega) (by omega)
theorem goes_l0 (x0 x1 x2 : ByteArray) (x7 : Int) (L : List ByteArray) (hL : L.length ≤ 100)
    (hc : ∀ u ∈ L, ∃ m, table_Modes.f u = some m ∧ m.size ≠ 0 ∧ m.size ≤ 100 ∧ table_Usage.f u x0 = some true ∧ ∀ i : Nat, i < m.size → table_Check.f u (m.extract i (i + 1)) x1 x2 x0 = some x7) (d : Nat) :
    ∀ j : Nat, j ≤ L.length → L.length - j = d → Ev (fun k => clavigerlaw30_TableGoes.l0 k x0 x1 x2 x7 L (L.length : Int) (j : Int)) true := by
  induction d with
  | zero =>
    intro j hj hd
    refine Ev.step (fun k => by rw [clavigerlaw30_TableGoes.l0]) ?_
    refine Ev.ifn (by omega) ?_
    exact Ev.bindc awake30 (Ev.const rfl)
  | succ d ih =>
    intro j hj hd
    have hlt : j < L.length := by omega
    obtain ⟨m, hm, hm0, hm1, hu, hk⟩ := hc L[j] (List.getElem_mem hlt)
    refine Ev.step (fun k => by rw [clavigerlaw30_TableGoes.l0]) ?_
    refine Ev.ifp (by omega) ?_
    refine Ev.ifp (by omega) ?_
    refine Ev.ifp (by omega) ?_
    rw [rdOf_get ByteArray.empty j hlt]
    refine Ev.bindc hm ?_
    refine Ev.bindc hu ?_
    refine Ev.ifp rfl ?_
    refine Ev.step (fun k => by rw [clavigerlaw30_TableGoes.j4]) ?_
    refine Ev.ifn (fun e => hm0 (by have := beq_iff_eq.1 e; omega)) ?_
    exact goes_l1 x0 x1 x2 x7 L[j] m L (L.length : Int) j hm1 (by omega) hk (ih (j + 1) (by omega) (by omega)) m.size 0 (by omega) (by omega)
theorem goes_mem {u x0 x1 x2 : ByteArray} {V E : Bool} (hV : table_Version.f x1 = some V) (hE : table_Export.f x2 = some E) (m : ByteArray) (hm : table_Modes.f u = some m) (h0 : m.size ≠ 0) (h1 : m.size ≤ 100)
    (hu : table_Usage.f u x0 = some true) (hk : (List.range m.size).all (fun i => table_Mode.f u (m.extract i (i + 1)) == some true) = true) :
    ∃ m, table_Modes.f u = some m ∧ m.size ≠ 0 ∧ m.size ≤ 100 ∧ table_Usage.f u x0 = some true ∧ ∀ i : Nat, i < m.size → table_Check.f u (m.extract i (i + 1)) x1 x2 x0 = some (if V = true then (if E = true then 0 else 12) else 12) := by
  refine ⟨m, hm, h0, h1, hu, fun i hi => check_of hu ?_ hV hE⟩
  have := List.all_eq_true.1 hk i (List.mem_range.2 hi)
  simpa using this
theorem goes_j2 (x0 x1 x2 : ByteArray) {V E : Bool} (hV : table_Version.f x1 = some V) (hE : table_Export.f x2 = some E) :
    Ev (fun k => clavigerlaw30_TableGoes.j2 k x0 x1 x2 (if V = true then (if E = true then 0 else 12) else 12)) true := by
  refine Ev.step (fun k => by rw [clavigerlaw30_TableGoes.j2]) ?_
  rcases usages_cases x0 with h | rfl | rfl | rfl | rfl
  · exact Ev.bindc h (goes_l0 x0 x1 x2 _ [] (by simp) (by simp) 0 0 (by simp) (by simp))
  · refine Ev.bindc (show table_Usages.f ⟨#[65]⟩ = some [⟨#[66, 48]⟩, ⟨#[68, 48]⟩, ⟨#[75, 48]⟩, ⟨#[75, 49]⟩, ⟨#[77, 54]⟩, ⟨#[80, 48]⟩] by kernel_rfl) (goes_l0 _ x1 x2 _ _ (by simp) ?_ _ 0 (by simp) rfl)
    simp only [List.forall_mem_cons, List.not_mem_nil, false_imp_iff, implies_true, and_true]
    refine ⟨goes_mem hV hE ⟨#[78, 88]⟩ ?_ ?_ ?_ ?_ ?_, goes_mem hV hE ⟨#[66, 68, 69, 78]⟩ ?_ ?_ ?_ ?_ ?_, goes_mem hV hE ⟨#[66, 68, 69, 78]⟩ ?_ ?_ ?_ ?_ ?_, goes_mem hV hE ⟨#[66, 68, 69, 78]⟩ ?_ ?_ ?_ ?_ ?_, goes_mem hV hE ⟨#[67, 71, 78, 86]⟩ ?_ ?_ ?_ ?_ ?_, goes_mem hV hE ⟨#[66, 68, 69, 78]⟩ ?_ ?_ ?_ ?_ ?_⟩
    all_goals first | kernel_rfl | decide
  · refine Ev.bindc (show table_Usages.f ⟨#[84]⟩ = some [⟨#[66, 48]⟩, ⟨#[68, 48]⟩, ⟨#[75, 48]⟩, ⟨#[75, 49]⟩, ⟨#[77, 51]⟩, ⟨#[77, 54]⟩, ⟨#[80, 48]⟩] by kernel_rfl) (goes_l0 _ x1 x2 _ _ (by simp) ?_ _ 0 (by simp) rfl)
    simp only [List.forall_mem_cons, List.not_mem_nil, false_imp_iff, implies_true, and_true]
    refine ⟨goes_mem hV hE ⟨#[78, 88]⟩ ?_ ?_ ?_ ?_ ?_, goes_mem hV hE ⟨#[66, 68, 69, 78]⟩ ?_ ?_ ?_ ?_ ?_, goes_mem hV hE ⟨#[66, 68, 69, 78]⟩ ?_ ?_ ?_ ?_ ?_, goes_mem hV hE ⟨#[66, 68, 69, 78]⟩ ?_ ?_ ?_ ?_ ?_, goes_mem hV hE ⟨#[67, 71, 78, 86]⟩ ?_ ?_ ?_ ?_ ?_, goes_mem hV hE ⟨#[67, 71, 78, 86]⟩ ?_ ?_ ?_ ?_ ?_, goes_mem hV hE ⟨#[66, 68, 69, 78]⟩ ?_ ?_ ?_ ?_ ?_⟩
    all_goals first | kernel_rfl | decide
  · refine Ev.bindc (show table_Usages.f ⟨#[69]⟩ = some [⟨#[68, 49]⟩, ⟨#[83, 48]⟩] by kernel_rfl) (goes_l0 _ x1 x2 _ _ (by simp) ?_ _ 0 (by simp) rfl)
    simp only [List.forall_mem_cons, List.not_mem_nil, false_imp_iff, implies_true, and_true]
    refine ⟨goes_mem hV hE ⟨#[66, 68, 69, 78]⟩ ?_ ?_ ?_ ?_ ?_, goes_mem hV hE ⟨#[78, 83, 84, 86]⟩ ?_ ?_ ?_ ?_ ?_⟩
    all_goals first | kernel_rfl | decide
  · refine Ev.bindc (show table_Usages.f ⟨#[72]⟩ = some [⟨#[77, 55]⟩] by kernel_rfl) (goes_l0 _ x1 x2 _ _ (by simp) ?_ _ 0 (by simp) rfl)
    simp only [List.forall_mem_cons, List.not_mem_nil, false_imp_iff, implies_true, and_true]
    refine goes_mem hV hE ⟨#[67, 71, 78, 86]⟩ ?_ ?_ ?_ ?_ ?_
    all_goals first | kernel_rfl | decide
theorem goes_j0 (x0 x1 x2 : ByteArray) (b : Bool) : Ev (fun k => clavigerlaw30_TableGoes.j0 k x0 x1 x2 b) true := by
  refine Ev.step (fun k => by rw [clavigerlaw30_TableGoes.j0]) ?_
  cases b
  · refine Ev.ifn (by decide) ?_
    obtain ⟨V, hV⟩ := version_some x1
    obtain ⟨E, hE⟩ := export_some x2
    have hj := goes_j2 x0 x1 x2 hV hE
    refine Ev.bindc hV ?_
    cases V
    · refine Ev.ifn (by decide) ?_
      refine Ev.step (fun k => by rw [clavigerlaw30_TableGoes.j1]) ?_
      exact Ev.ifn (by decide) hj
    · refine Ev.ifp rfl ?_
      refine Ev.bindc hE ?_
      refine Ev.step (fun k => by rw [clavigerlaw30_TableGoes.j1]) ?_
      cases E
      · exact Ev.ifn (by decide) hj
      · exact Ev.ifp rfl hj
  · refine Ev.ifp rfl ?_
    exact Ev.bindc awake30 (Ev.const rfl)
theorem TableGoes : clavigerlaw30_TableGoes.Pure := by
  intro a0 a1 a2 _ _ _
  have h : Ev (fun k => clavigerlaw30_TableGoes.f k a0 a1 a2) true := by
    show Ev (fun k => if (a0.size : Int) > 20 then _ else _) true
    by_cases c0 : (a0.size : Int) > 20
    · exact Ev.ifp c0 (goes_j0 ..)
    · refine Ev.ifn c0 ?_
      by_cases c1 : (a1.size : Int) > 20
      · exact Ev.ifp c1 (goes_j0 ..)
      · exact Ev.ifn c1 (goes_j0 ..)
  exact Ev.rounds h
end Go.Proofs.Ytaapjmljdlneoaa.Pure
