/- an error is found by its name; it goes with something that was got, or with nothing, never with both. -/
import Derived.Test.YtfpnehiphhdgkaaDoorPFaultFoundx
namespace Go.Proofs.YtfpnehiphhdgkaaDoor.Pure
open Go.RowKit Go.Proofs.YtfpnehiphhdgkaaDoor.PFaultFound Go.Proofs.YtfpnehiphhdgkaaDoorW.PrintWords Go.Proofs.YtfpnehiphhdgkaaDoorW.PrintLast
set_option linter.unusedVariables false
set_option linter.unusedSimpArgs false
/-- The number of bytes. -/
def getN (l : List Int) : Int := l.foldl (fun n b => n * 256 + b) 0
theorem getN_snoc (l : List Int) (x : Int) : getN (l ++ [x]) = getN l * 256 + x := by simp [getN]
theorem getN_take {l : List Int} (i : Nat) (h : i < l.length) : getN (l.take (i + 1)) = getN (l.take i) * 256 + l[i] := by
  rw [List.take_succ_eq_append_getElem h, getN_snoc]
theorem getN_bd (n : Nat) : ∀ l : List Int, OkB l → l.length ≤ n → 0 ≤ getN l ∧ getN l < 256 ^ n := by
  induction n with
  | zero => intro l h hn; obtain rfl := List.eq_nil_of_length_eq_zero (Nat.le_zero.1 hn); simp [getN]
  | succ n ih =>
    intro l h hn
    have hp : (0 : Int) < 256 ^ n := Int.pow_pos (by decide)
    by_cases e : l = []
    · subst e
      rw [Int.pow_succ]
      simp only [getN, List.foldl_nil]
      omega
    · obtain ⟨m, x, rfl⟩ : ∃ m x, l = m ++ [x] := ⟨l.dropLast, l.getLast e, (List.dropLast_concat_getLast e).symm⟩
      have h1 := ih m (fun y hy => h y (List.mem_append_left _ hy)) (by simp at hn; omega)
      have h2 := h x (by simp)
      rw [getN_snoc, Int.pow_succ]
      omega
theorem getN_lt7 (l : List Int) (h : OkB l) (hn : l.length ≤ 7) : 0 ≤ getN l ∧ getN l < 72057594037927936 := getN_bd 7 l h hn
theorem awake40 : clavigerlaw40_awake.f 40 = some true := by kernel_rfl
theorem awake_ev : Ev (fun k => clavigerlaw40_awake.f k) true := Ev.of clavigerlaw40_awake.mono (k := 40) awake40
theorem known_out {a : Int} (h : ¬ (0 ≤ a ∧ a < 18)) : fault_known.f a = some false := by
  unfold fault_known.f
  by_cases h0 : a ≥ 0
  · rw [if_pos h0, decide_eq_false (by omega)]
  · rw [if_neg h0]
theorem name_out {a : Int} (h : ¬ (0 ≤ a ∧ a < 18)) : fault_Name.f a = some ⟨#[]⟩ := by
  unfold fault_Name.f
  rw [known_out h]
  rfl
theorem all_at {p : Int → Bool} (h : ((List.range 18).all fun i => p (i : Int)) = true) {a : Int} (ha : 0 ≤ a ∧ a < 18) : p a = true := by
  have h1 := List.all_eq_true.1 h a.toNat (List.mem_range.2 (by omega))
  simp only [Int.toNat_of_nonneg ha.1] at h1
  exact h1
theorem class_out {a : Int} (h : ¬ (0 ≤ a ∧ a < 18)) : fault_Class.f a = some (-1) := by
  unfold fault_Class.f
  rw [known_out h]
  rfl
theorem told_out {a : Int} (b : Bool) (h : ¬ (0 ≤ a ∧ a < 18)) : fault_Told.f a b = some false := by
  unfold fault_Told.f
  rw [known_out h]
  rfl
theorem found_in : ((List.range 18).all fun i => clavigerlaw40_FaultFound.f 40 (i : Int) == some true) = true := by kernel_rfl
theorem FaultFound : clavigerlaw40_FaultFound.Pure := by
  intro a0 _
  by_cases h : 0 ≤ a0 ∧ a0 < 18
  · exact ⟨40, eq_of_beq (all_at (p := fun i => clavigerlaw40_FaultFound.f 40 i == some true) found_in h)⟩
  · refine ⟨40, ?_⟩
    unfold clavigerlaw40_FaultFound.f
    rw [name_out h, Option.bind_some, if_pos (by kernel_rfl), class_out h, Option.bind_some, if_pos rfl, told_out _ h, Option.bind_some, if_neg (by decide), told_out _ h, Option.bind_some, if_neg (by decide), awake40]
    rfl
end Go.Proofs.YtfpnehiphhdgkaaDoor.Pure
