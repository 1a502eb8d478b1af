/- what any error is called, and of what it is, is as the document says. -/
import Derived.Test.YtfpnehiphhdgkaaDoorPFaultTellsx
namespace Go.Proofs.YtfpnehiphhdgkaaDoor.Pure
open Go.RowKit Go.Proofs.YtfpnehiphhdgkaaDoor.PFaultTells Go.Proofs.YtfpnehiphhdgkaaDoorW.PrintWords Go.Proofs.YtfpnehiphhdgkaaDoorW.PrintLast
set_option linter.unusedVariables false
set_option linter.unusedSimpArgs false
/-- The number of bytes. -/
def getN (l : List Int) : Int := l.foldl (fun n b => n * 256 + b) 0
theorem getN_snoc (l : List Int) (x : Int) : getN (l ++ [x]) = getN l * 256 + x := by simp [getN]
theorem getN_take {l : List Int} (i : Nat) (h : i < l.length) : getN (l.take (i + 1)) = getN (l.take i) * 256 + l[i] := by
  rw [List.take_succ_eq_append_getElem h, getN_snoc]
theorem getN_bd (n : Nat) : ∀ l : List Int, OkB l → l.length ≤ n → 0 ≤ getN l ∧ getN l < 256 ^ n := by
  induction n with
  | zero => intro l h hn; obtain rfl := List.eq_nil_of_length_eq_zero (Nat.le_zero.1 hn); simp [getN]
  | succ n ih =>
    intro l h hn
    have hp : (0 : Int) < 256 ^ n := Int.pow_pos (by decide)
    by_cases e : l = []
    · subst e
      rw [Int.pow_succ]
      simp only [getN, List.foldl_nil]
      omega
    · obtain ⟨m, x, rfl⟩ : ∃ m x, l = m ++ [x] := ⟨l.dropLast, l.getLast e, (List.dropLast_concat_getLast e).symm⟩
      have h1 := ih m (fun y hy => h y (List.mem_append_left _ hy)) (by simp at hn; omega)
      have h2 := h x (by simp)
      rw [getN_snoc, Int.pow_succ]
      omega
theorem getN_lt7 (l : List Int) (h : OkB l) (hn : l.length ≤ 7) : 0 ≤ getN l ∧ getN l < 72057594037927936 := getN_bd 7 l h hn
theorem awake40 : clavigerlaw40_awake.f 40 = some true := by kernel_rfl
theorem awake_ev : Ev (fun k => clavigerlaw40_awake.f k) true := Ev.of clavigerlaw40_awake.mono (k := 40) awake40
theorem known_out {a : Int} (h : ¬ (0 ≤ a ∧ a < 18)) : fault_known.f a = some false := by
  unfold fault_known.f
  by_cases h0 : a ≥ 0
  · rw [if_pos h0, decide_eq_false (by omega)]
  · rw [if_neg h0]
theorem name_out {a : Int} (h : ¬ (0 ≤ a ∧ a < 18)) : fault_Name.f a = some ⟨#[]⟩ := by
  unfold fault_Name.f
  rw [known_out h]
  rfl
theorem all_at {p : Int → Bool} (h : ((List.range 18).all fun i => p (i : Int)) = true) {a : Int} (ha : 0 ≤ a ∧ a < 18) : p a = true := by
  have h1 := List.all_eq_true.1 h a.toNat (List.mem_range.2 (by omega))
  simp only [Int.toNat_of_nonneg ha.1] at h1
  exact h1
theorem class_out {a : Int} (h : ¬ (0 ≤ a ∧ a < 18)) : fault_Class.f a = some (-1) := by
  unfold fault_Class.f
  rw [known_out h]
  rfl
theorem told_out {a : Int} (b : Bool) (h : ¬ (0 ≤ a ∧ a < 18)) : fault_Told.f a b = some false := by
  unfold fault_Told.f
  rw [known_out h]
  rfl
def W18 : List ByteArray := [⟨#[111, 107]⟩, ⟨#[97, 114, 103, 117, 109, 101, 110, 116]⟩, ⟨#[107, 101, 121]⟩, ⟨#[101, 109, 112, 116, 121]⟩, ⟨#[115, 105, 122, 101]⟩, ⟨#[102, 111, 114, 109]⟩, ⟨#[100, 101, 112, 116, 104]⟩, ⟨#[115, 117, 109]⟩, ⟨#[107, 105, 110, 100]⟩, ⟨#[108, 101, 110, 103, 116, 104]⟩, ⟨#[118, 97, 108, 117, 101]⟩, ⟨#[97, 116, 116, 114, 105, 98, 117, 116, 101, 115]⟩, ⟨#[104, 101, 97, 100, 101, 114]⟩, ⟨#[112, 97, 100, 115]⟩, ⟨#[117, 115, 97, 103, 101]⟩, ⟨#[110, 111, 110, 101]⟩, ⟨#[116, 119, 105, 99, 101]⟩, ⟨#[102, 117, 108, 108]⟩]
theorem names_is : clavigerref40_names.f = some W18 := by kernel_rfl
theorem by_in : ((List.range 18).all fun i => fault_By.f 40 (rdOf ByteArray.empty W18 (i : Int)) == some ((i : Int), true) && clavigerref40_By.f 40 (rdOf ByteArray.empty W18 (i : Int)) == some ((i : Int), true)) = true := by kernel_rfl
theorem toList_ne {a b : ByteArray} (h : ¬ a = b) : ¬ a.toList = b.toList := by
  rw [toList_data, toList_data]
  intro e
  apply h
  cases a; cases b
  simp only at e
  congr 1
  exact Array.toList_inj.1 e
theorem index_none (W : List ByteArray) (a : ByteArray) (hl : W.length < 1000) (hn : ¬ a ∈ W) (d : Nat) : ∀ i : Nat, W.length - i = d → i ≤ W.length → Ev (fun k => slices_Index_string_string.l0 k W a (W.length : Int) (i : Int)) (-1) := by
  induction d with
  | zero =>
    intro i hd hi
    refine Ev.step (fun k => by rw [slices_Index_string_string.l0]) ?_
    exact Ev.ifn (by omega) (Ev.now _)
  | succ d ih =>
    intro i hd hi
    have hlt : i < W.length := by omega
    refine Ev.step (fun k => by rw [slices_Index_string_string.l0]) ?_
    refine Ev.ifp (by omega) ?_
    refine Ev.ifp (by omega) ?_
    refine Ev.ifp (by omega) ?_
    refine Ev.ifn (toList_ne fun e => hn ?_) ?_
    · rw [e]
      rw [rdOf_get _ i hlt]
      exact List.getElem_mem hlt
    · rw [w64 (by omega) (by omega)]
      exact ih (i + 1) (by omega) (by omega)
theorem by_none (W : List ByteArray) (a : ByteArray) (hl : W.length < 1000) (hn : ¬ a ∈ W) (d : Nat) : ∀ i : Nat, W.length - i = d → i ≤ W.length → Ev (fun k => clavigerref40_By.l0 k a W (i : Int)) (0, false) := by
  induction d with
  | zero =>
    intro i hd hi
    refine Ev.step (fun k => by rw [clavigerref40_By.l0]) ?_
    exact Ev.ifn (by omega) (Ev.now _)
  | succ d ih =>
    intro i hd hi
    have hlt : i < W.length := by omega
    refine Ev.step (fun k => by rw [clavigerref40_By.l0]) ?_
    refine Ev.ifp (by omega) ?_
    refine Ev.ifp (by omega) ?_
    refine Ev.ifn (toList_ne fun e => hn ?_) ?_
    · rw [← e]
      rw [rdOf_get _ i hlt]
      exact List.getElem_mem hlt
    · rw [w64 (by omega) (by omega)]
      exact ih (i + 1) (by omega) (by omega)
theorem fields_is : strings_Fields.f (⟨#[111, 107, 32, 97, 114, 103, 117, 109, 101, 110, 116, 32, 107, 101, 121, 32, 101, 109, 112, 116, 121, 32, 115, 105, 122, 101, 32, 102, 111, 114, 109, 32, 100, 101, 112, 116, 104, 32, 115, 117, 109, 32, 107, 105, 110, 100, 32, 108, 101, 110, 103, 116, 104, 32, 118, 97, 108, 117, 101, 32, 97, 116, 116, 114, 105, 98, 117, 116, 101, 115, 32, 104, 101, 97, 100, 101, 114, 32, 112, 97, 100, 115, 32, 117, 115, 97, 103, 101, 32, 110, 111, 110, 101, 32, 116, 119, 105, 99, 101, 32, 102, 117, 108, 108]⟩ : ByteArray) = some W18 := by kernel_rfl
theorem by_eq (a : ByteArray) : ∃ t : Int × Bool, Ev (fun k => fault_By.f k a) t ∧ Ev (fun k => clavigerref40_By.f k a) t := by
  by_cases hm : a ∈ W18
  · obtain ⟨i, hi, e⟩ := List.getElem_of_mem hm
    have h := all_at (p := fun i => fault_By.f 40 (rdOf ByteArray.empty W18 i) == some (i, true) && clavigerref40_By.f 40 (rdOf ByteArray.empty W18 i) == some (i, true)) by_in (a := (i : Int)) ⟨by omega, by have : W18.length = 18 := rfl; omega⟩
    rw [Bool.and_eq_true, rdOf_get _ i hi, e] at h
    exact ⟨((i : Int), true), Ev.of (fault_By.mono a) (k := 40) (eq_of_beq h.1), Ev.of (clavigerref40_By.mono a) (k := 40) (eq_of_beq h.2)⟩
  · refine ⟨(0, false), ?_, ?_⟩
    · refine Ev.congr (fun k => by rw [fault_By.f]) ?_
      refine Ev.bindc fields_is ?_
      refine Ev.bind (a := -1) (index_none W18 a (by decide) hm _ 0 rfl (by decide)) ?_
      exact Ev.now _
    · refine Ev.congr (fun k => by rw [clavigerref40_By.f]) ?_
      refine Ev.bindc names_is ?_
      exact by_none W18 a (by decide) hm _ 0 rfl (by decide)
theorem name_in : ((List.range 18).all fun i => decide (fault_Name.f (i : Int) = clavigerref40_Name.f (i : Int)) && (fault_Name.f (i : Int)).isSome) = true := by kernel_rfl
theorem name_eq (a : Int) : ∃ t, fault_Name.f a = some t ∧ clavigerref40_Name.f a = some t := by
  by_cases h : 0 ≤ a ∧ a < 18
  · have h1 := all_at (p := fun i => decide (fault_Name.f i = clavigerref40_Name.f i) && (fault_Name.f i).isSome) name_in h
    rw [Bool.and_eq_true] at h1
    obtain ⟨t, ht⟩ := Option.isSome_iff_exists.1 h1.2
    exact ⟨t, ht, (of_decide_eq_true h1.1) ▸ ht⟩
  · refine ⟨_, name_out h, ?_⟩
    unfold clavigerref40_Name.f
    rw [names_is, Option.bind_some]
    by_cases h0 : a < 0
    · rw [if_pos h0]
    · rw [if_neg h0, if_pos (show a ≥ ((W18.length : Nat) : Int) from by have : W18.length = 18 := rfl; omega)]
theorem class_in : ((List.range 18).all fun i => fault_Class.f (i : Int) == clavigerref40_Class.f 40 (i : Int) && (fault_Class.f (i : Int)).isSome) = true := by kernel_rfl
theorem class_eq (a : Int) : ∃ t, fault_Class.f a = some t ∧ Ev (fun k => clavigerref40_Class.f k a) t := by
  by_cases h : 0 ≤ a ∧ a < 18
  · have h1 := all_at (p := fun i => fault_Class.f i == clavigerref40_Class.f 40 i && (fault_Class.f i).isSome) class_in h
    rw [Bool.and_eq_true] at h1
    obtain ⟨t, ht⟩ := Option.isSome_iff_exists.1 h1.2
    exact ⟨t, ht, Ev.of (clavigerref40_Class.mono a) (k := 40) ((eq_of_beq h1.1) ▸ ht)⟩
  · refine ⟨_, class_out h, ?_⟩
    refine Ev.of (clavigerref40_Class.mono a) (k := 3) ?_
    have n : ∀ i : Int, 0 ≤ i → i < 18 → ¬ a = i := fun i h0 h1 e => h (by omega)
    have b : ∀ i : Int, 0 ≤ i → i < 18 → (a == i) = false := fun i h0 h1 => beq_eq_false_iff_ne.2 (n i h0 h1)
    simp only [clavigerref40_Class.f, clavigerref40_Class.j0, clavigerref40_Class.j1, clavigerref40_Class.j2, n 0 (by decide) (by decide), n 1 (by decide) (by decide), n 2 (by decide) (by decide), n 3 (by decide) (by decide), n 4 (by decide) (by decide), n 5 (by decide) (by decide), n 6 (by decide) (by decide), n 7 (by decide) (by decide), n 8 (by decide) (by decide), n 9 (by decide) (by decide), n 10 (by decide) (by decide), n 11 (by decide) (by decide), n 12 (by decide) (by decide), n 13 (by decide) (by decide), n 14 (by decide) (by decide), n 15 (by decide) (by decide), n 16 (by decide) (by decide), n 17 (by decide) (by decide), b 12 (by decide) (by decide), b 14 (by decide) (by decide), b 7 (by decide) (by decide), if_false, Bool.false_eq_true]
theorem all_same : (fault_All.f 40).bind (fun t => (clavigerref40_All.f 40).bind fun u => api_Errno.f 40 t u) = some true := by kernel_rfl
theorem FaultTells : clavigerlaw40_FaultTells.Pure := by
  intro a0 a1 _ _
  refine Ev.rounds ?_
  refine Ev.congr (fun k => by rw [clavigerlaw40_FaultTells.f]) ?_
  by_cases hb : (a1.size : Int) > 100
  · refine Ev.ifp hb ?_
    exact Ev.bind awake_ev (Ev.now _)
  · refine Ev.ifn hb ?_
    obtain ⟨⟨x, ok⟩, h1, h2⟩ := by_eq a1
    obtain ⟨nm, n1, n2⟩ := name_eq a0
    obtain ⟨c, c1, c2⟩ := class_eq a0
    refine Ev.bind h1 ?_
    refine Ev.bind h2 ?_
    refine Ev.bindc n1 ?_
    refine Ev.bindc n2 ?_
    refine Ev.ifp rfl ?_
    refine Ev.bindc c1 ?_
    refine Ev.bind c2 ?_
    refine Ev.ifp rfl ?_
    refine Ev.ifp rfl ?_
    refine Ev.ifp (by simp) ?_
    refine Ev.bind (a := (List.range 18).map fun (i : Nat) => (i : Int)) (Ev.of fault_All.mono (k := 40) (by kernel_rfl)) ?_
    refine Ev.bind (a := (List.range 18).map fun (i : Nat) => (i : Int)) (Ev.of clavigerref40_All.mono (k := 40) (by kernel_rfl)) ?_
    refine Ev.bind (a := true) (Ev.of (api_Errno.mono _ _) (k := 40) (by kernel_rfl)) ?_
    refine Ev.ifp rfl ?_
    exact Ev.bind awake_ev (Ev.now _)
end Go.Proofs.YtfpnehiphhdgkaaDoor.Pure
