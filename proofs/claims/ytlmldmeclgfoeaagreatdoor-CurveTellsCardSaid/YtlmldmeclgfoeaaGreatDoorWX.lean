-- laid by a program out of the translation and of templates; not trusted: Lean checks it
import Derived.Test.YtlmldmeclgfoeaaGreatDoorWCap
/-! words of this seat's own -/
namespace Go.Proofs.YtlmldmeclgfoeaaGreatDoorW.PrintWords
set_option linter.unusedVariables false
open Go.RowKit
namespace Kd
/-- A row of strings that is read: where it lies. -/
theorem C_string_addr {w : World} {A : Option Addr} {l : List ByteArray} (h : Kd.string.C w A l.length l) (hn : 0 < l.length) :
    ∃ bk o, A = some ⟨bk, o, none⟩ ∧ bk < w.heap.size ∧ ∀ (j : Nat) x, l[j]? = some x → w.cell? ⟨bk, o + j, none⟩ = some (.string x) := by
  obtain ⟨ad, rfl, h0⟩ := Kd.at_string h 0 (by omega) (by omega)
  have hs : ad.spot = none := by
    have h1 : w.cell? ad = some (.string (rdOf ByteArray.empty l 0)) := by simpa [Addr.add] using h0
    unfold World.cell? at h1
    split at h1
    · split at h1
      · cases h1
      · rename_i hh; simpa using hh
    · cases h1
  obtain ⟨bk, o, sp⟩ := ad
  simp only at hs
  subst hs
  have hb := World.block_lt_of_cell? w _ h0
  refine ⟨bk, o, rfl, ?_, ?_⟩
  · have e : ((⟨bk, o, none⟩ : Addr).add (0 : Int).toNat) = ⟨bk, o, none⟩ := by simp [Addr.add]
    rw [e] at hb
    exact hb
  · intro j x hj
    have hlt : j < l.length := (List.getElem?_eq_some_iff.1 hj).1
    obtain ⟨ad2, e2, h2⟩ := Kd.at_string h (j : Int) (by omega) (by omega)
    cases e2
    rw [add_at] at h2
    simp only [Int.toNat_natCast] at h2
    rw [h2]
    congr 2
    simp [rdOf, hj, List.getD_eq_getElem?_getD]
end Kd
theorem one_byte {s : ByteArray} (h : s.size = 1) : ∃ c : UInt8, s = ⟨#[c]⟩ := by
  obtain ⟨d⟩ := s
  have h1 : d.size = 1 := h
  obtain ⟨l⟩ := d
  match l, h1 with
  | [c], _ => exact ⟨c, rfl⟩
theorem one_byte_bt (c : UInt8) : bt ⟨#[c]⟩ 0 = (c.toNat : Int) := rfl
theorem less_irrefl : ∀ (a : List UInt8), Op.bytesLess a a = false
  | [] => rfl
  | x :: a => by simp [Op.bytesLess, less_irrefl a]
theorem less_asymm : ∀ (a b : List UInt8), (Op.bytesLess a b || a == b) = !(Op.bytesLess b a)
  | [], [] => rfl
  | [], y :: b => rfl
  | x :: a, [] => rfl
  | x :: a, y :: b => by
    have ih := less_asymm a b
    by_cases h : x = y
    · subst h
      simp [Op.bytesLess, ih]
    · have h' : ¬ y = x := fun e => h e.symm
      by_cases h1 : x < y
      · have h2 : ¬ y < x := fun e => UInt8.lt_asymm h1 e
        simp [Op.bytesLess, h', h1, h2]
      · have h2 : y < x := UInt8.lt_of_le_of_ne (UInt8.not_lt.1 h1) h'
        simp [Op.bytesLess, h, h1, h2]
theorem str_leq (t : TypeId) (a b : ByteArray) : binOp .leq t (.string a) (.string b) = pure (.bool !(Op.bytesLess b.toList a.toList)) := by rw [← less_asymm]; simp [binOp, Op.stringOp]
theorem str_gtr (t : TypeId) (a b : ByteArray) : binOp .gtr t (.string a) (.string b) = pure (.bool (Op.bytesLess b.toList a.toList)) := by
  have h := less_asymm a.toList b.toList
  simp only [binOp, Op.stringOp]
  rw [h]; simp
theorem str_geq (t : TypeId) (a b : ByteArray) : binOp .geq t (.string a) (.string b) = pure (.bool !(Op.bytesLess a.toList b.toList)) := by simp [binOp, Op.stringOp]
namespace Kd
/-- A row of strings that was just laid. -/
theorem R_strs (w : World) (l : List ByteArray) (e : Nat) (hm : l.length ≤ 9223372036854775807) :
    Kd.R Kd.string e (w.alloc (.cells (l.map Value.string).toArray e)) w.heap.size (fun _ => True) (.slice (some ⟨w.heap.size, 0, none⟩) l.length l.length) l := by
  refine ⟨fun _ _ => trivial, l.map Value.string, ?_, ?_⟩
  · have h2 := World.ownsRow_lit (base := w.heap.size) (e := e) (size := 1) w (l.map Value.string).toArray l.length (Nat.le_refl _) (by simpa [maxLen] using hm) (by simp)
    simp at h2
    exact h2
  · exact (reps_scalar (enc := Value.string) l).imp_ (fun p c hp => hp)
end Kd
theorem wpList_buildTo {P : Program} {ops : Array Oper} {rest : List Oper} {o : Oper} {a : Act} {w : World} {Q : Exit → Act → World → Prop} (hg : o.guard = none) (t : TypeId) (parts : Array (Nat × Operand)) (ho : o.op = .build t parts)
    (xs : List (Nat × Value)) (c : Array Value) (hx : (parts.map fun (i, x) => (i, a.eval x)).toList = xs) (hb : P.built t xs = some c)
    (h : wpList P ops Q rest (a.put o.dst (.agg c)) w) : wpList P ops Q (o :: rest) a w := by
  subst hx
  refine wpList_build hg t parts ho (by rw [hb]; rfl) ?_
  rw [hb]
  exact h
theorem heap_old_alloc {W : World} {o : Obj} {k : Nat} {x : Obj} (h : W.heap[k]? = some x) : (W.alloc o).heap[k]? = some x :=
  (Below.heap_alloc W o k (Array.getElem?_eq_some_iff.1 h).1).trans h
theorem heap_old_drewN {W : World} {n k : Nat} {x : Obj} (h : W.heap[k]? = some x) : (W.drewN n).heap[k]? = some x := h
end Go.Proofs.YtlmldmeclgfoeaaGreatDoorW.PrintWords
