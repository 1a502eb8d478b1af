-- laid by a program out of the translation and of templates; not trusted: Lean checks it
import Derived.Test.YtjoageaencpfaaaDoorPUsageTellsx0
import Derived.Test.YtjoageaencpfaaaDoorPUsageTellsx1
import Derived.Test.YtjoageaencpfaaaDoorPUsageTellsx2
import Derived.Laws.RangeString
import Derived.Lib.SliceRun
import Derived.Test.YtjoageaencpfaaaDoorShelf
namespace Go.Proofs.YtjoageaencpfaaaDoor.PUsageTells
open Go.RowKit Go.Proofs.YtjoageaencpfaaaDoorW.PrintWords Go.Proofs.YtjoageaencpfaaaDoorW.PrintLast Go.Proofs.YtjoageaencpfaaaDoorW.PrintMore
attribute [local go_sem high] c_add c_eql c_neq
attribute [local go_sem] str_leq str_gtr str_geq max2_int min2_int max_two min_two max_three min_three max_four min_four   -- for this text's walks alone
set_option linter.unusedVariables false
set_option linter.unusedSimpArgs false

/-! ### usage_Of: function 8 (a text given by hand: usage.tmpl) -/
-- @import Derived.Test.YtjoageaencpfaaaDoorShelf
-- @import Derived.Laws.RangeString
-- @import Derived.Lib.SliceRun
def runeN (b : UInt8) : Nat := if b.toNat < 128 then b.toNat else 65533
def runeOf (b : UInt8) : Int := (runeN b : Int)
def saidR (r : Int) : List ByteArray := (usage_said.f 3 r).getD []
theorem said_two (r : Int) : ∃ x, usage_said.f 3 r = some x ∧ x.length ≤ 2 := by
  by_cases h1 : r = 69
  · subst h1; exact ⟨_, rfl, by decide⟩
  by_cases h2 : r = 68
  · subst h2; exact ⟨_, rfl, by decide⟩
  by_cases h3 : r = 66
  · subst h3; exact ⟨_, rfl, by decide⟩
  by_cases h4 : r = 71
  · subst h4; exact ⟨_, rfl, by decide⟩
  by_cases h5 : r = 86
  · subst h5; exact ⟨_, rfl, by decide⟩
  by_cases h6 : r = 67
  · subst h6; exact ⟨_, rfl, by decide⟩
  by_cases h7 : r = 83
  · subst h7; exact ⟨_, rfl, by decide⟩
  by_cases h8 : r = 84
  · subst h8; exact ⟨_, rfl, by decide⟩
  by_cases h9 : r = 88
  · subst h9; exact ⟨_, rfl, by decide⟩
  refine ⟨[], ?_, by decide⟩
  unfold usage_said.f
  rw [if_neg h1, if_neg h2, if_neg h3, if_neg h4, if_neg h5, if_neg h6, if_neg h7, if_neg h8, if_neg h9]
theorem said_is (r : Int) : usage_said.f 3 r = some (saidR r) := by
  obtain ⟨x, hx, _⟩ := said_two r
  unfold saidR
  rw [hx]
  rfl
theorem saidR_len (r : Int) : (saidR r).length ≤ 2 := by
  obtain ⟨x, hx, h⟩ := said_two r
  unfold saidR
  rw [hx]
  exact h
def renR (x : ByteArray) : ByteArray := (usage_renamed.f x).getD x
theorem ren_is (x : ByteArray) : usage_renamed.f x = some (renR x) := by
  obtain ⟨y, hy⟩ : ∃ y, usage_renamed.f x = some y := by
    unfold usage_renamed.f
    by_cases h1 : x.toList = ([101, 110, 99, 114, 121, 112, 116] : List UInt8)
    · rw [if_pos h1]; exact ⟨_, rfl⟩
    rw [if_neg h1]
    by_cases h2 : x.toList = ([100, 101, 99, 114, 121, 112, 116] : List UInt8)
    · rw [if_pos h2]; exact ⟨_, rfl⟩
    rw [if_neg h2]
    exact ⟨_, rfl⟩
  unfold renR
  rw [hy]
  rfl
/-- The letters of a text, told one by one. -/
def allSaid (m : ByteArray) : List ByteArray := m.data.toList.flatMap fun b => saidR (runeOf b)
theorem allSaid_len (l : List UInt8) : (l.flatMap fun b => saidR (runeOf b)).length ≤ 2 * l.length := by
  induction l with
  | nil => simp
  | cons b l ih =>
    have := saidR_len (runeOf b)
    simp only [List.flatMap_cons, List.length_append, List.length_cons]
    omega
def plainText (m : ByteArray) : Bool := decide (m.size ≤ 1000) && (m.size == 1 || m.data.toList.all fun b => decide (b.toNat < 128))
theorem decode_one : ∀ n : Fin 256, Utf8.decode ⟨#[UInt8.ofNat n.val]⟩ 0 = (runeN (UInt8.ofNat n.val), 1) := by decide +kernel
theorem decode_plain (m : ByteArray) (h : plainText m = true) (pos : Nat) (hp : pos < m.size) : Utf8.decode m pos = (runeN (m.data.toList.getD pos 0), 1) := by
  simp only [plainText, Bool.and_eq_true, Bool.or_eq_true, decide_eq_true_eq, beq_iff_eq, List.all_eq_true] at h
  obtain ⟨_, h | h⟩ := h
  · obtain ⟨c, rfl⟩ := one_byte h
    have e : pos = 0 := by
      have : (⟨#[c]⟩ : ByteArray).size = 1 := rfl
      omega
    subst e
    have := decode_one ⟨c.toNat, c.toNat_lt⟩
    simpa using this
  · have hp2 : pos < m.data.toList.length := by simpa using hp
    have hb := h (m.data.toList[pos]) (List.getElem_mem hp2)
    have e : m.data.toList.getD pos 0 = m[pos]'hp := by
      rw [List.getD_eq_getElem?_getD, List.getElem?_eq_getElem hp2]
      rfl
    rw [e, decode_ascii m pos hp hb]
    unfold runeN
    rw [if_pos (show (m[pos]'hp).toNat < 128 from hb)]
theorem run_next_at {P : Program} (w : World) (b : Nat) (s : ByteArray) (pos n r : Nat) (ty : TypeId) (hi : w.heap[b]? = some (.stringIter s pos)) (h : pos < s.size) (hd : Utf8.decode s pos = (r, n)) :
    (Instr.next (.pointer (some ⟨b, 0, none⟩)) true ty).run P w = .ok (.tuple #[.bool true, .int .i64 pos, .int .i32 (r : Int)]) { w with heap := w.heap.setIfInBounds b (.stringIter s (pos + n)) } := by
  simp [Instr.next, getObj, setObj, Sem.run, hi, h, hd, goInt, Result.andThen]
theorem run_next_out {P : Program} (w : World) (b : Nat) (s : ByteArray) (pos : Nat) (ty : TypeId) (hi : w.heap[b]? = some (.stringIter s pos)) (h : ¬ pos < s.size) :
    (Instr.next (.pointer (some ⟨b, 0, none⟩)) true ty).run P w = .ok (.tuple #[.bool false]) w := by
  simp [Instr.next, getObj, Sem.run, hi, h]
def opsIn (s : List ByteArray) (x : ByteArray) : Bool := s.any fun y => x.toList == y.toList
def usage_Of.some_ (a0 m : ByteArray) : List ByteArray := if a0.toList = [75, 48] ∨ a0.toList = [75, 49] then (allSaid m).map renR else allSaid m
def usage_Of.g (a0 m : ByteArray) : Option (List ByteArray) := if plainText m = true then (usage_Ops.f).bind fun ops => if 0 < ops.length then some (ops.filter fun x => opsIn (usage_Of.some_ a0 m) x) else none else none
def usage_Of.f (a0 a1 a2 a3 : ByteArray) : Option (List ByteArray) := if a1.toList = [78] then (table_Modes.f a0).bind fun m => usage_Of.g a0 m else if (a1.size : Int) = 1 then usage_Of.g a0 a1 else some []
/-- What holds in a world of this call: the head's box, the variable some, the letters' iterator. -/
structure usage_Of.Inv (w w' : World) (a0 a1 a2 a3 : ByteArray) (hb sc it : Nat) (m : ByteArray) (pos : Nat) (v : Value) (l : List ByteArray) : Prop where
  head : w'.heap[hb]? = some (.cells #[.string a0, .string a1, .string a2, .string a3] 24 (0, 0))
  cell : w'.heap[sc]? = some (.cells #[v] 30 (0, 0))
  iter : w'.heap[it]? = some (.stringIter m pos)
  row : Kd.R Kd.string 9 w' w.heap.size (fun k => k ≠ sc ∧ k ≠ hb ∧ k ≠ it) v l
  below : Below w.heap.size w w'
  ge : w.heap.size ≤ hb ∧ w.heap.size ≤ sc ∧ w.heap.size ≤ it
section
variable {w w' w2 : World} {a0 a1 a2 a3 : ByteArray} {hb sc it : Nat} {m : ByteArray} {pos : Nat} {v : Value} {l : List ByteArray}
theorem usage_Of.Inv.ne (h : usage_Of.Inv w w' a0 a1 a2 a3 hb sc it m pos v l) : sc ≠ hb ∧ sc ≠ it ∧ hb ≠ it := by
  refine ⟨fun e => ?_, fun e => ?_, fun e => ?_⟩
  · have h1 := h.cell
    rw [e, h.head] at h1
    cases h1
  · have h1 := h.cell
    rw [e, h.iter] at h1
    cases h1
  · have h1 := h.head
    rw [e, h.iter] at h1
    cases h1
theorem usage_Of.Inv.celv (h : usage_Of.Inv w w' a0 a1 a2 a3 hb sc it m pos v l) : w'.cell? ⟨sc, 0, none⟩ = some v := (blk_cell h.cell 0).trans rfl
theorem usage_Of.Inv.celf (h : usage_Of.Inv w w' a0 a1 a2 a3 hb sc it m pos v l) : w'.frozen? ⟨sc, 0, none⟩ = false := blk_frozen h.cell 0
theorem usage_Of.Inv.size (h : usage_Of.Inv w w' a0 a1 a2 a3 hb sc it m pos v l) : w.heap.size ≤ w'.heap.size := h.below.size
theorem usage_Of.Inv.fresh (h : usage_Of.Inv w w' a0 a1 a2 a3 hb sc it m pos v l) (k : Nat) (hk : w'.heap.size ≤ k) : k ≠ sc ∧ k ≠ hb ∧ k ≠ it := by
  have h1 := blk_lt h.cell
  have h2 := blk_lt h.head
  have h3 := blk_lt h.iter
  omega
theorem usage_Of.Inv.later (h : usage_Of.Inv w w' a0 a1 a2 a3 hb sc it m pos v l) (hb2 : Below w'.heap.size w' w2) : usage_Of.Inv w w2 a0 a1 a2 a3 hb sc it m pos v l :=
  ⟨blk_below h.head hb2, blk_below h.cell hb2, blk_below h.iter hb2, Kd.R_below h.row hb2, below_step h.below hb2, h.ge⟩
theorem usage_Of.Inv.drew1 (h : usage_Of.Inv w w' a0 a1 a2 a3 hb sc it m pos v l) : usage_Of.Inv w w'.drew a0 a1 a2 a3 hb sc it m pos v l := h.later (below_drew1 (Below.refl _ _))
theorem usage_Of.Inv.drewN (h : usage_Of.Inv w w' a0 a1 a2 a3 hb sc it m pos v l) (n : Nat) : usage_Of.Inv w (w'.drewN n) a0 a1 a2 a3 hb sc it m pos v l := h.later (pw_below_drewN (Below.refl _ _) n)
theorem usage_Of.Inv.next (h : usage_Of.Inv w w' a0 a1 a2 a3 hb sc it m pos v l) (pos2 : Nat) : usage_Of.Inv w { w' with heap := w'.heap.setIfInBounds it (.stringIter m pos2) } a0 a1 a2 a3 hb sc it m pos2 v l := by
  have hm : ∀ k, k ≠ it → ({ w' with heap := w'.heap.setIfInBounds it (.stringIter m pos2) } : World).heap[k]? = w'.heap[k]? := fun k hk => by
    show (w'.heap.setIfInBounds it (.stringIter m pos2))[k]? = _
    rw [Array.getElem?_setIfInBounds, if_neg (Ne.symm hk)]
  obtain ⟨n1, n2, n3⟩ := h.ne
  refine ⟨(hm hb n3).trans h.head, (hm sc n2).trans h.cell, ?_, Kd.R_step h.row (fun k hk _ => hm k hk.2.2), ⟨h.below.os, h.below.tape, h.below.output, ?_, fun k hk => ?_⟩, h.ge⟩
  · show (w'.heap.setIfInBounds it (.stringIter m pos2))[it]? = _
    rw [Array.getElem?_setIfInBounds, if_pos rfl, if_pos (blk_lt h.iter)]
  · show w.heap.size ≤ (w'.heap.setIfInBounds it (.stringIter m pos2)).size
    rw [Array.size_setIfInBounds]
    exact h.below.size
  · have := h.ge
    exact (hm k (by omega)).trans (h.below.block k hk)
/-- Behind an append (it is not yet stored): all but the row's letter stands. -/
structure usage_Of.Grown (w w' : World) (a0 a1 a2 a3 : ByteArray) (hb sc it : Nat) (m : ByteArray) (pos : Nat) (v v1 : Value) (l1 : List ByteArray) : Prop where
  head : w'.heap[hb]? = some (.cells #[.string a0, .string a1, .string a2, .string a3] 24 (0, 0))
  cell : w'.heap[sc]? = some (.cells #[v] 30 (0, 0))
  iter : w'.heap[it]? = some (.stringIter m pos)
  row : Kd.R Kd.string 9 w' w.heap.size (fun k => k ≠ sc ∧ k ≠ hb ∧ k ≠ it) v1 l1
  below : Below w.heap.size w w'
  ge : w.heap.size ≤ hb ∧ w.heap.size ≤ sc ∧ w.heap.size ≤ it
  ne : sc ≠ hb ∧ sc ≠ it ∧ hb ≠ it
theorem usage_Of.Inv.grown (h : usage_Of.Inv w w' a0 a1 a2 a3 hb sc it m pos v l) {v1 : Value} {l1 : List ByteArray} (hr : Kd.R Kd.string 9 w2 w.heap.size (fun k => k ≠ sc ∧ k ≠ hb ∧ k ≠ it) v1 l1) (hb2 : Below w.heap.size w w2) (hg : w'.grownBy w2 v.ownBlock) :
    usage_Of.Grown w w2 a0 a1 a2 a3 hb sc it m pos v v1 l1 := by
  have ho : ∀ k, v.ownBlock = some k → k ≠ sc ∧ k ≠ hb ∧ k ≠ it := h.row.1
  exact ⟨blk_grown h.head hg (fun e => (ho hb e.symm).2.1 rfl), blk_grown h.cell hg (fun e => (ho sc e.symm).1 rfl), blk_grown h.iter hg (fun e => (ho it e.symm).2.2 rfl), hr, hb2, h.ge, h.ne⟩
theorem usage_Of.Grown.celv {v1 : Value} (h : usage_Of.Grown w w' a0 a1 a2 a3 hb sc it m pos v v1 l) : w'.cell? ⟨sc, 0, none⟩ = some v := (blk_cell h.cell 0).trans rfl
theorem usage_Of.Grown.celf {v1 : Value} (h : usage_Of.Grown w w' a0 a1 a2 a3 hb sc it m pos v v1 l) : w'.frozen? ⟨sc, 0, none⟩ = false := blk_frozen h.cell 0
theorem usage_Of.Grown.put {v1 : Value} (h : usage_Of.Grown w w' a0 a1 a2 a3 hb sc it m pos v v1 l) : usage_Of.Inv w (w'.setCell ⟨sc, 0, none⟩ v1) a0 a1 a2 a3 hb sc it m pos v1 l := by
  have hm : ∀ k, k ≠ sc → (w'.setCell ⟨sc, 0, none⟩ v1).heap[k]? = w'.heap[k]? := fun k hk => Below.heap_setCell w' ⟨sc, 0, none⟩ v1 k hk
  obtain ⟨n1, n2, n3⟩ := h.ne
  exact ⟨(hm hb (Ne.symm n1)).trans h.head, blk_put h.cell 0 v1 rfl, (hm it (Ne.symm n2)).trans h.iter, Kd.R_far h.row (fun k hk => hk.1) v1, below_set h.below h.ge.2.1, h.ge⟩
end
theorem usage_Of.Inv.putRow {w w' : World} {a0 a1 a2 a3 : ByteArray} {hb sc it : Nat} {m : ByteArray} {pos gl n c : Nat} {x : List ByteArray} (h : usage_Of.Inv w w' a0 a1 a2 a3 hb sc it m pos (.slice (some ⟨gl, 0, none⟩) n c) x) (i : Int) (y : ByteArray) : usage_Of.Inv w (w'.setCell ⟨gl, i.toNat, none⟩ (.string y)) a0 a1 a2 a3 hb sc it m pos (.slice (some ⟨gl, 0, none⟩) n c) (x.set i.toNat y) := by
  have hm : ∀ k, k ≠ gl → (w'.setCell ⟨gl, i.toNat, none⟩ (.string y)).heap[k]? = w'.heap[k]? := fun k hk => Below.heap_setCell w' ⟨gl, i.toNat, none⟩ _ k hk
  obtain ⟨n1, n2, n3⟩ := h.row.1 gl rfl
  have hb := Kd.R_base h.row gl rfl
  exact ⟨(hm _ (Ne.symm n2)).trans h.head, (hm _ (Ne.symm n1)).trans h.cell, (hm _ (Ne.symm n3)).trans h.iter, Kd.R_putn h.row i y, below_set h.below hb, h.ge⟩
theorem idx_in (l : List ByteArray) (x : ByteArray) (hl : l.length ≤ 1000000) : ∀ (d k : Nat) (i : Int), 0 ≤ i → i + d = l.length → d < k →
    ∃ r, slices_Index_string_string.l0 k l x (l.length : Int) i = some r ∧ decide (r ≥ 0) = opsIn (l.drop i.toNat) x
  | 0, k, i, h0, he, hk => by
    obtain ⟨k, rfl⟩ : ∃ j, k = j + 1 := ⟨k - 1, by omega⟩
    refine ⟨-1, ?_, ?_⟩
    · unfold slices_Index_string_string.l0
      rw [if_neg (by omega)]
    · rw [List.drop_eq_nil_of_le (by omega)]
      simp [opsIn]
  | d + 1, k, i, h0, he, hk => by
    obtain ⟨k, rfl⟩ : ∃ j, k = j + 1 := ⟨k - 1, by omega⟩
    have hlt : i.toNat < l.length := by omega
    have hrd : rdOf ByteArray.empty l i = l[i.toNat] := by
      simp [rdOf, List.getD_eq_getElem?_getD, hlt]
    unfold slices_Index_string_string.l0
    rw [if_pos (by omega), if_pos h0, if_pos (by omega), hrd, List.drop_eq_getElem_cons hlt]
    by_cases hx : x.toList = l[i.toNat].toList
    · rw [if_pos hx]
      refine ⟨i, rfl, ?_⟩
      rw [decide_eq_true (by omega : i ≥ 0)]
      simp only [opsIn, List.any_cons, hx, beq_self_eq_true, Bool.true_or]
    · rw [if_neg hx]
      obtain ⟨r, hr, hd⟩ := idx_in l x hl d k (i + 1) (by omega) (by omega) (by omega)
      have hw : wrap64 (i + 1) = i + 1 := w64 (by omega) (by omega)
      rw [hw]
      refine ⟨r, hr, hd.trans ?_⟩
      rw [show (i + 1).toNat = i.toNat + 1 by omega]
      simp only [opsIn, List.any_cons, beq_eq_false_iff_ne.mpr hx, Bool.false_or]
theorem contains_in (l : List ByteArray) (x : ByteArray) (hl : l.length ≤ 1000000) : slices_Contains_string_string.f (l.length + 1) l x = some (opsIn l x) := by
  obtain ⟨r, hr, hd⟩ := idx_in l x hl l.length (l.length + 1) 0 (by omega) (by omega) (by omega)
  unfold slices_Contains_string_string.f slices_Index_string_string.f
  rw [hr]
  simp only [Option.bind_some, hd]
  rfl
theorem usage_Of.body (sc : Nat) (A : Option Addr) (c : Nat) (l : List ByteArray) (x : ByteArray) (W : World) (hs : W.cell? ⟨sc, 0, none⟩ = some (.slice A l.length c)) (hr : Kd.C Kd.string W A l.length l) (hc : l.length ≤ c) (hl : l.length ≤ 1000000) :
    FnGives Tryd.prog 25 #[.pointer (some ⟨sc, 0, none⟩)] #[.string x] (.bool (!opsIn l x)) W := by
  have h := Aside0.mk (contains_in l x hl)
  have HR := Aside0.mk hr
  clear hr
  show Calls Tryd.prog 25 #[.string x, .pointer (some ⟨sc, 0, none⟩)] W _
  go_enter Tryd.func25, Tryd.ntmps25
  go_wp2_with (go_at_call 18; refine (slices_Contains_string_string.calls (l.length + 1) A c l x (opsIn l x) _ (by first | exact HR.out | (with_reducible refine Kd.C_drewN ?_ _; exact HR.out) | (with_reducible refine Kd.C_drew ?_; exact HR.out)) hc h.out).mono ?_; rintro e w' ⟨rfl, ⟨nd, rfl⟩⟩)
  go_ret
  exact ⟨rfl, _, rfl⟩
theorem C_over {w : World} {A : Option Addr} {l : List ByteArray} {gb n : Nat} {dk : Array ByteArray} {os : Array Obj} (h : Kd.C Kd.string w A l.length l) (hA : ∀ ad, A = some ad → ad.block ≠ gb ∧ ad.block < w.heap.size) : Kd.C Kd.string (sortWorld Value.string w gb 0 n dk os) A l.length l := by
  refine ⟨h.1, h.2.1, fun hn => ?_⟩
  obtain ⟨ad, e, hc⟩ := h.2.2 hn
  obtain ⟨h1, h2⟩ := hA ad e
  refine ⟨ad, e, fun j p hj => ?_⟩
  obtain ⟨c, hs, hk, hcell⟩ := hc j p hj
  refine ⟨c, hs, hk, fun i u hu => ?_⟩
  unfold sortWorld
  have hab : (ad.add (j * Kd.string.sz + i)).block = ad.block := by rcases ad with ⟨b, o, s⟩; simp only [Addr.add]; by_cases h : j * Kd.string.sz = 0 ∧ i = 0 <;> simp [h]
  rw [Sort.cell?_grow _ _ _ (by rw [Sort.size_putRow, hab]; exact h2), Sort.cell?_putRow_other Value.string (Sort.ahead w n) gb 0 dk (ad.add (j * Kd.string.sz + i)) (Or.inl (by rw [hab]; exact h1))]
  exact hcell i u hu
theorem cell_over {w : World} {sc gb n : Nat} {v : Value} {dk : Array ByteArray} {os : Array Obj} (h : w.cell? ⟨sc, 0, none⟩ = some v) (hne : sc ≠ gb) : (sortWorld Value.string w gb 0 n dk os).cell? ⟨sc, 0, none⟩ = some v := by
  unfold sortWorld
  rw [Sort.cell?_grow _ _ _ (by rw [Sort.size_putRow]; exact World.block_lt_of_cell? _ _ h), Sort.cell?_putRow_other Value.string (Sort.ahead w n) gb 0 dk _ (Or.inl hne)]
  exact h
theorem ren_step (l : List ByteArray) (i : Nat) (h : i < l.length) : (((l.take i).map renR ++ l.drop i).set i (renR (((l.take i).map renR ++ l.drop i).getD i ByteArray.empty))) = (l.take (i + 1)).map renR ++ l.drop (i + 1) := by
  have hlen : ((l.take i).map renR).length = i := by simp; omega
  have e1 : ((l.take i).map renR ++ l.drop i).getD i ByteArray.empty = l[i] := by
    rw [List.getD_eq_getElem?_getD, List.getElem?_append_right (by omega), hlen]
    simp [h]
  rw [e1, List.set_append_right _ _ (by omega), hlen, Nat.sub_self, List.drop_eq_getElem_cons h, List.set_cons_zero, List.take_add_one, List.map_append, List.getElem?_eq_getElem h]
  simp
set_option maxHeartbeats 8000000 in
set_option maxRecDepth 100000 in
theorem usage_Of.calls (a0 a1 a2 a3 : ByteArray) (r : List ByteArray) (w : World) (HT_ : Aside0 (TB w)) (h : usage_Of.f a0 a1 a2 a3 = some r) :
    Calls Tryd.prog 8 #[.agg #[.string a0, .string a1, .string a2, .string a3]] w fun e w' => ∃ v0_ : Value, e = .returned (v0_) ∧ Kd.R Kd.string 9 w' w.heap.size (fun _ => True) v0_ r ∧ Below w.heap.size w w' := by
  have hu := Tryd.underlying24
  have hus := Tryd.underlying9
  have HB := Aside0.mk (Below.refl w.heap.size w)
  have H := Aside0.mk h
  clear h
  go_enter Tryd.func8, Tryd.ntmps8
  go_upto_if 12 with (first | ((with_reducible refine gate_dst (N := 1) rfl ?_); refine box_event ?hg (N := 1) ?hd (cs := #[.string a0, .string a1, .string a2, .string a3]) (t := 24) ?hr ?_; (case hd => rfl); (case hg => rfl); (case hr => first | (go_simp; done) | (go_simp; rfl)); intro hb hg w12 hbox hb2; have n1_ := Aside0.mk (below_step (by repeat (first | exact HB.out | apply pw_below_drewN | apply below_drew1)) hb2); have HX := Aside0.mk hbox; have HGE := Aside0.mk (show w.heap.size ≤ hb from by rw [hg]; exact below_size (by repeat (first | exact HB.out | apply pw_below_drewN | apply below_drew1))); clear HB; have HB := n1_; clear n1_ hb2 hbox hg; have hc0 : w12.cell? ⟨hb, 0, none⟩ = some (.string a0) := (blk_cell HX.out 0).trans rfl; have hc1 : w12.cell? ⟨hb, 1, none⟩ = some (.string a1) := (blk_cell HX.out 1).trans rfl))
  clear hc1
  go_cut [3] (fun v3 wc => ∃ m : ByteArray, v3 = .string m ∧ Aside0 (usage_Of.g a0 m = some r) ∧ Aside0 (wc.heap[hb]? = some (.cells #[.string a0, .string a1, .string a2, .string a3] 24 (0, 0))) ∧ Aside0 (Below w.heap.size w wc))
  case first =>
    have H1 := H.out
    clear H
    unfold usage_Of.f at H1
    by_cases c1 : a1.toList = [78]
    · rw [if_pos c1] at H1
      have c1b0 : (a1.toList == ([78] : List UInt8)) = true := beq_iff_eq.mpr c1
      clear c1
      obtain ⟨m, A10, H2⟩ := Option.bind_eq_some_iff.mp H1
      have A1 := Aside0.mk A10
      have H := Aside0.mk H2
      clear A10 H1 H2
      (first | rw [c1b0] | skip)
      go_wp2_with (go_at_call 21; refine (table_Modes.calls a0 m _ A1.out).mono ?_; rintro e w3 ⟨rfl, hb2⟩; have n1_ := Aside0.mk (below_step (by repeat (first | exact HB.out | apply pw_below_drewN | apply below_drew1)) hb2); have n2_ := Aside0.mk (blk_below HX.out hb2); clear HB HX; have HB := n1_; have HX := n2_; clear n1_ n2_ hb2)
      go_meet
      case rel => exact ⟨m, rfl, H, ⟨HX.out⟩, ⟨by repeat (first | exact HB.out | apply pw_below_drewN | apply below_drew1)⟩⟩
    · rw [if_neg c1] at H1
      have c1b0 : (a1.toList == ([78] : List UInt8)) = false := beq_eq_false_iff_ne.mpr c1
      clear c1
      by_cases c2 : (a1.size : Int) = 1
      · rw [if_pos c2] at H1
        have c2b0 : ((a1.size : Int) != 1) = false := bne_eq_false_iff_eq.mpr c2
        have c2b1 : ((a1.size : Int) == 1) = true := beq_iff_eq.mpr c2
        clear c2
        have H := Aside0.mk H1
        clear H1
        (first | rw [c1b0] | skip)
        go_wp2
        go_meet
        case rel => exact ⟨a1, rfl, H, ⟨HX.out⟩, ⟨by repeat (first | exact HB.out | apply pw_below_drewN | apply below_drew1)⟩⟩
      · rw [if_neg c2] at H1
        have c2b0 : ((a1.size : Int) != 1) = true := bne_iff_ne.mpr c2
        have c2b1 : ((a1.size : Int) == 1) = false := beq_eq_false_iff_ne.mpr c2
        clear c2
        obtain rfl := Option.some.inj H1
        clear H1
        (first | rw [c1b0] | skip)
        go_wp2
        go_ret
        exact ⟨_, rfl, Kd.R_nil _ _ _ _ _, by repeat (first | exact HB.out | apply pw_below_drewN | apply below_drew1)⟩
  case rest =>
    try clear H
    try clear HX
    try clear HB
    try clear hc0
    obtain ⟨m, rfl, HG, HX, HB⟩ := hcut
    have HG1 := HG.out
    clear HG
    unfold usage_Of.g at HG1
    by_cases hpl : plainText m = true
    case neg => rw [if_neg hpl] at HG1; cases HG1
    rw [if_pos hpl] at HG1
    obtain ⟨ops, A20, HG2⟩ := Option.bind_eq_some_iff.mp HG1
    have A2 := Aside0.mk A20
    clear A20 HG1
    by_cases hop : 0 < ops.length
    case neg => rw [if_neg hop] at HG2; cases HG2
    rw [if_pos hop] at HG2
    obtain rfl := Option.some.inj HG2
    clear HG2
    have HPL := Aside0.mk hpl
    have hsz : m.size ≤ 1000 := by
      simp only [plainText, Bool.and_eq_true, decide_eq_true_eq] at hpl
      exact hpl.1
    have HOP := Aside0.mk hop
    have HSZ := Aside0.mk hsz
    clear hpl hop hsz
    go_wp2_with (first | ((with_reducible refine gate_dst (N := 4) rfl ?_); refine box_event ?hg (N := 4) ?hd (cs := #[.slice none 0 0]) (t := 30) ?hr ?_; (case hd => rfl); (case hg => rfl); (case hr => first | (go_simp; done) | (go_simp; rfl)); intro sc hg w13 hbox hb2; have n1_ := Aside0.mk (below_step (by repeat (first | exact HB.out | apply pw_below_drewN | apply below_drew1)) hb2); have n2_ := Aside0.mk (blk_below HX.out hb2); have HS := Aside0.mk hbox; have HGS := Aside0.mk (show w.heap.size ≤ sc from by rw [hg]; exact below_size (by repeat (first | exact HB.out | apply pw_below_drewN | apply below_drew1))); clear HB HX; have HB := n1_; have HX := n2_; clear n1_ n2_ hb2 hbox hg))
    generalize hit : w13.heap.size = it
    have HI0 : Aside0 (usage_Of.Inv w (w13.iter m 0) a0 a1 a2 a3 hb sc it m 0 (.slice none 0 0) []) := by
      subst hit
      have hbi : Below w13.heap.size w13 (w13.iter m 0) := below_alloc (Below.refl _ _) _
      exact ⟨⟨blk_below HX.out hbi, blk_below HS.out hbi, World.iter_heap w13 m 0, Kd.R_nil _ _ _ _ _, below_step HB.out hbi, HGE.out, HGS.out, HB.out.size⟩⟩
    clear HX HB HS
    go_loopg [6] m.size (fun kq _ w' => ∃ (v : Value) (l : List ByteArray) (pos : Nat), Aside0 (usage_Of.Inv w w' a0 a1 a2 a3 hb sc it m pos v l) ∧ Aside0 (m.size - pos = kq ∧ pos ≤ m.size ∧ l = (m.data.toList.take pos).flatMap fun b => saidR (runeOf b)))
    case atStart => exact ⟨_, [], 0, HI0, ⟨by omega, by omega, by simp⟩⟩
    case round =>
      clear HI0
      obtain ⟨v, l, pos, HI, HL⟩ := hrel
      by_cases hp : pos < m.size
      · have hn := fun ty => run_next_at (P := Tryd.prog) wr it m pos 1 (runeN (m.data.toList.getD pos 0)) ty HI.out.iter hp (decode_plain m HPL.out pos hp)
        generalize hrn : runeN (m.data.toList.getD pos 0) = rn at hn
        have HRN : Aside0 (runeOf (m.data.toList.getD pos 0) = (rn : Int)) := ⟨by unfold runeOf; rw [hrn]⟩
        clear hrn
        have HP := Aside0.mk hp
        clear hp
        go_upto_region 10 with fail
        have HI2 := Aside0.mk (HI.out.next (pos + 1)).drew1
        clear HI
        have HI := HI2
        clear HI2
        have LL : Aside0 (l.length ≤ 2 * m.size ∧ m.size ≤ 1000) := ⟨by
          have h1 := allSaid_len (m.data.toList.take pos)
          have h2 := HL.out.2.2
          have h3 := HL.out.2.1
          rw [← h2] at h1
          have h4 : (m.data.toList.take pos).length ≤ pos := List.length_take_le _ _
          omega, HSZ.out⟩
        refine start_ (n := 5) (S := fun w' => w'.cell? ⟨sc, 0, none⟩ = some v) (ds := [4]) #[false, false, false, false, false] (by kernel_rfl) rfl rfl ((HI.out.celv)) (fun hHeld => ?_)
        refine pure_ (i := 1) (N := some 25) (v := ?_) (a' := ?_) #[false, true, false, false, false] rfl rfl (by kernel_rfl) (fun _ _ _ h => h) (Or.inl ⟨by rfl, ?_⟩) ?_ ?_
        rotate_left
        · intro w'
          go_simp
          with_reducible rfl
        rotate_left
        · simp only [Act.put, List.setIfInBounds_toArray, List.set_cons_zero, List.set_cons_succ, i64_w, i32_w]
          rfl
        refine take_ (i := 0) (N := some 24) (v := ?_) (a' := ?_) #[true, true, false, false, false] rfl rfl (by kernel_rfl) (fun _ _ _ h => h) (Or.inl ⟨by rfl, ?_⟩) hHeld ?_ ?_
        rotate_left
        · intro w' s0
          go_simp
          with_reducible rfl
        rotate_left
        · simp only [Act.put, List.setIfInBounds_toArray, List.set_cons_zero, List.set_cons_succ, i64_w, i32_w]
          rfl
        refine one_ (i := 2) (N := some 26) #[true, true, true, false, false] rfl rfl (by kernel_rfl) (by decide) (fun K hK => ?_)
        refine goes_ Tryd.func22 (by kernel_rfl) rfl #[.int .i32 (rn : Int)] (by rfl) rfl rfl (by simp only [List.map_toArray, List.map_cons, List.map_nil]; rfl) ?_
        refine (usage_said.calls 3 _ _ _ (said_is (rn : Int))).mono ?_
        rintro e w3 ⟨v26, rfl, ho, hbel⟩
        refine ⟨_, rfl, ?_⟩
        have HJ := Aside0.mk (HI.out.later hbel)
        have HO := Aside0.mk ho
        clear HI ho
        obtain ⟨A26, c26, e26⟩ := Kd.R_slice HO.out
        subst e26
        refine hK.out _ _ (HJ.out.celv) (fun hHeld => ?_)
        clear hK K
        refine norm_ (a' := ?_) ?_ ?_
        rotate_left
        · show Act.put _ (some 26) _ = _
          simp only [Act.put, List.setIfInBounds_toArray, List.set_cons_zero, List.set_cons_succ, i64_w, i32_w]
          rfl
        refine one_ (i := 3) (N := some 27) #[true, true, true, true, false] rfl rfl (by kernel_rfl) (by decide) (fun K hK => ?_)
        refine Kd.R_append_rows_step Kd.string (w0 := w) w.heap.size (by rfl) (.tmp 24) (.tmp 26) 30 9 (.string ⟨#[]⟩) 16 rfl Tryd.underlying30 info9 rfl (by decide) (by decide) v l (saidR (rn : Int)) _ _ _ (fun k => k ≠ sc ∧ k ≠ hb ∧ k ≠ it) (fun _ => False) rfl rfl HJ.out.row (Kd.R_reads' HO.out).2.2 (fun _ _ h => h) (fun _ h => h.elim) HJ.out.fresh HJ.out.below HJ.out.size ?aL ?_
        (case aL => have h1 := LL.out.1; have h2 := LL.out.2; have h3 := saidR_len (rn : Int); omega)
        intro v27 w4 ho4 hb4 hg4 hat4
        have HK := Aside0.mk (HJ.out.grown ho4 hb4 hg4)
        have hc4 := HK.out.celv
        have hf4 := HK.out.celf
        clear HJ HO ho4 hb4 hg4 hat4
        obtain ⟨A27, c27, e27⟩ := Kd.R_slice HK.out.row
        generalize hnl : (l ++ saidR (rn : Int)).length = nl at e27
        clear hnl
        subst e27
        refine hK.out _ _ (hc4) (fun hHeld => ?_)
        clear hK K
        refine norm_ (a' := ?_) ?_ ?_
        rotate_left
        · show Act.put _ (some 27) _ = _
          simp only [Act.put, List.setIfInBounds_toArray, List.set_cons_zero, List.set_cons_succ, i64_w, i32_w]
          rfl
        refine last_ (i := 4) (N := none) #[true, true, true, true, true] rfl rfl (by kernel_rfl) (by decide) (fun K hK => ?_)
        refine skip_ (w1 := ?_) (by rfl) rfl ?_ ?_
        rotate_left
        · go_simp
          rfl
        refine hK.out _ _ ?_
        clear hK K
        refine done_ (by kernel_rfl) ?_

        have HI2 := Aside0.mk HK.out.put
        clear HK hc4 hf4
        have hrow : Aside0 (l ++ saidR (rn : Int) = (m.data.toList.take (pos + 1)).flatMap fun b => saidR (runeOf b)) := ⟨by
          have h1 := HP.out
          have h2 : pos < m.data.toList.length := by simpa using h1
          have h3 := HRN.out
          rw [List.getD_eq_getElem?_getD, List.getElem?_eq_getElem h2] at h3
          rw [List.take_add_one, List.flatMap_append, ← HL.out.2.2, List.getElem?_eq_getElem h2, ← h3]
          simp⟩
        try go_wp2
        go_roundg (m.size - (pos + 1))
        case measure => have := HP.out; have := HL.out.1; omega
        case rel => exact ⟨_, _, pos + 1, ⟨by first | exact HI2.out | exact HI2.out.drewN _ | exact HI2.out.drew1⟩, ⟨rfl, by have := HP.out; omega, hrow.out⟩⟩
      · have hn := fun ty => run_next_out (P := Tryd.prog) wr it m pos ty HI.out.iter hp
        have hl : Aside0 (l = allSaid m) := ⟨by
          have h1 := HL.out.2.1
          have h2 : pos = m.data.toList.length := by
            have : m.data.toList.length = m.size := data_length m
            omega
          rw [HL.out.2.2, h2, List.take_length]
          rfl⟩
        have hlen : Aside0 (l.length ≤ 2000) := ⟨by
          have h1 := allSaid_len m.data.toList
          have h2 : m.data.toList.length = m.size := data_length m
          have h3 := HSZ.out
          rw [hl.out]
          unfold allSaid
          omega⟩
        clear hp HL
        have hh0 : wr.cell? ⟨hb, 0, none⟩ = some (.string a0) := (blk_cell HI.out.head 0).trans rfl
        obtain ⟨As, c2, e2⟩ := Kd.R_slice HI.out.row
        subst e2
        have hcs := HI.out.celv
        by_cases k0 : a0.toList = [75, 48]
        · have k0b : (a0.toList == ([75, 48] : List UInt8)) = true := beq_iff_eq.mpr k0
          have HS : Aside0 (usage_Of.some_ a0 m = l.map renR) := ⟨by unfold usage_Of.some_; rw [if_pos (Or.inl k0), hl.out]⟩
          clear k0
          go_wp2
          clear hn hh0 hcs
          go_loopg [38] l.length (fun kq v38 w' => ∃ (i : Int) (x : List ByteArray), v38 = .int .i64 i ∧ 0 ≤ i ∧ Aside0 (usage_Of.Inv w w' a0 a1 a2 a3 hb sc it m pos (.slice As l.length c2) x) ∧ Aside0 (x = (l.take i.toNat).map renR ++ l.drop i.toNat ∧ i ≤ l.length ∧ l.length - i.toNat = kq))
          case atStart => exact ⟨0, l, rfl, by omega, HI, ⟨by simp, by omega, by simp⟩⟩
          case round =>
            clear HI
            obtain ⟨i, x, rfl, c6, HI, HL⟩ := hrel
            have hxl : Aside0 (x.length = l.length) := ⟨by rw [HL.out.1]; simp; have := HL.out.2.1; omega⟩
            have hcs := HI.out.celv
            by_cases c5 : i < (l.length : Int)
            · have c5b0 : decide (i < (l.length : Int)) = true := decide_eq_true c5
              have c6b0 : decide (0 ≤ i) = true := decide_eq_true c6
              have p166 : (0 ≤ i) = True := eq_true c6
              have q166 : (i < (l.length : Int)) = True := eq_true c5
              have HC := Aside0.mk (And.intro c6 c5)
              obtain ⟨gl, cap2, e3, _⟩ := Kd.R_form HI.out.row (by rw [hxl.out]; omega)
              injection e3 with e3a e3b e3c
              obtain ⟨ad, had⟩ : ∃ ad : Addr, ad = ⟨gl, 0, none⟩ := ⟨_, rfl⟩
              rw [← had] at e3a
              subst e3a
              have HAD : Aside0 (ad.add i.toNat = ⟨gl, i.toNat, none⟩) := ⟨by rw [had]; simp only [Addr.add]; split <;> simp_all⟩
              have HAR := Aside0.mk had
              obtain ⟨y, hy⟩ : ∃ y, y = rdOf ByteArray.empty x i := ⟨_, rfl⟩
              have HY := Aside0.mk hy
              have hc3 : wr.cell? (ad.add i.toNat) = some (.string y) := by rw [HAD.out, HY.out]; exact (Kd.R_celln ByteArray.empty (HAR.out ▸ HI.out.row) i c6 c5).1
              have hf3 : wr.frozen? (ad.add i.toNat) = false := by rw [HAD.out]; exact (Kd.R_celln ByteArray.empty (HAR.out ▸ HI.out.row) i c6 c5).2
              clear c5 c6 had hy e3b e3c
              go_upto_region 15 with fail
              clear hcs
              refine start_ (n := 6) (S := fun w' => w'.cell? ⟨sc, 0, none⟩ = some (.slice (some ad) l.length c2)) (ds := [5]) #[false, false, false, false, false, false] (by kernel_rfl) rfl rfl ((HI.out.celv)) (fun hHeld => ?_)
              refine pure_ (i := 1) (N := some 44) (v := ?_) (a' := ?_) #[false, true, false, false, false, false] rfl rfl (by kernel_rfl) (fun _ _ _ h => h) (Or.inl ⟨by rfl, ?_⟩) ?_ ?_
              rotate_left
              · intro w'
                go_simp
                with_reducible rfl
              rotate_left
              · simp only [Act.put, List.setIfInBounds_toArray, List.set_cons_zero, List.set_cons_succ, i64_w, i32_w]
                rfl
              refine pure_ (i := 2) (N := some 45) (v := ?_) (a' := ?_) #[false, true, true, false, false, false] rfl rfl (by kernel_rfl) (fun _ _ _ h => h) (Or.inl ⟨by rfl, ?_⟩) ?_ ?_
              rotate_left
              · intro w'
                go_simp
                with_reducible rfl
              rotate_left
              · simp only [Act.put, List.setIfInBounds_toArray, List.set_cons_zero, List.set_cons_succ, i64_w, i32_w]
                rfl
              refine take_ (i := 0) (N := some 43) (v := ?_) (a' := ?_) #[true, true, true, false, false, false] rfl rfl (by kernel_rfl) (fun _ _ _ h => h) (Or.inl ⟨by rfl, ?_⟩) hHeld ?_ ?_
              rotate_left
              · intro w' s0
                go_simp
                with_reducible rfl
              rotate_left
              · simp only [Act.put, List.setIfInBounds_toArray, List.set_cons_zero, List.set_cons_succ, i64_w, i32_w]
                rfl
              refine one_ (i := 3) (N := some 46) #[true, true, true, true, false, false] rfl rfl (by kernel_rfl) (by decide) (fun K hK => ?_)
              refine goes_ Tryd.func23 (by kernel_rfl) rfl #[.string y] (by rfl) rfl rfl (by simp only [List.map_toArray, List.map_cons, List.map_nil]; rfl) ?_
              refine (usage_renamed.calls _ _ _ (ren_is y)).mono ?_
              rintro e w3 ⟨rfl, ⟨nd, rfl⟩⟩
              refine ⟨_, rfl, ?_⟩
              have HJ := Aside0.mk (HI.out.drewN (1 + nd))
              clear HI
              have hc4 := HJ.out.celv
              refine hK.out _ _ (hc4) (fun hHeld => ?_)
              clear hK K
              refine norm_ (a' := ?_) ?_ ?_
              rotate_left
              · show Act.put _ (some 46) _ = _
                simp only [Act.put, List.setIfInBounds_toArray, List.set_cons_zero, List.set_cons_succ, i64_w, i32_w]
                rfl
              refine pure_ (i := 4) (N := some 47) (v := ?_) (a' := ?_) #[true, true, true, true, true, false] rfl rfl (by kernel_rfl) (fun _ _ _ h => h) (Or.inl ⟨by rfl, ?_⟩) ?_ ?_
              rotate_left
              · intro w'
                go_simp
                with_reducible rfl
              rotate_left
              · simp only [Act.put, List.setIfInBounds_toArray, List.set_cons_zero, List.set_cons_succ, i64_w, i32_w]
                rfl
              refine last_ (i := 5) (N := none) #[true, true, true, true, true, true] rfl rfl (by kernel_rfl) (by decide) (fun K hK => ?_)
              refine skip_ (w1 := ?_) (by rfl) rfl ?_ ?_
              rotate_left
              · go_simp
                rfl
              refine hK.out _ _ ?_
              clear hK K
              refine done_ (by kernel_rfl) ?_
              have HI2 := Aside0.mk ((HAR.out ▸ HJ.out : usage_Of.Inv _ _ _ _ _ _ _ _ _ _ _ (.slice (some ⟨gl, 0, none⟩) l.length c2) _).putRow i (renR y))
              clear hc4 hc3 hf3 HJ
              try go_wp2
              go_roundg (l.length - (i + 1).toNat)
              case measure => have := HC.out; have := HL.out.2.2; omega
              case rel =>
                have e := w64 (x := i + 1) (by have := HC.out; omega) (by have := HC.out; have := hlen.out; omega)
                refine ⟨i + 1, _, by rw [e], by have := HC.out; omega, ⟨by rw [HAD.out, HAR.out]; exact HI2.out⟩, ⟨?_, by have := HC.out; omega, rfl⟩⟩
                have h1 := HC.out
                rw [HY.out, show (i + 1).toNat = i.toNat + 1 by omega, HL.out.1]
                exact ren_step l i.toNat (by omega)
            · have c5b0 : decide (i < (l.length : Int)) = false := decide_eq_false c5
              have HS2 : Aside0 (usage_Of.some_ a0 m = x) := ⟨by
                have h2 := HL.out.2.1
                have h3 : i.toNat = l.length := by omega
                rw [HS.out, HL.out.1, h3, List.take_length, List.drop_length, List.append_nil]⟩
              have hlen2 : Aside0 (x.length ≤ 2000) := ⟨by rw [hxl.out]; exact hlen.out⟩
              have HI2 : Aside0 (usage_Of.Inv w wr a0 a1 a2 a3 hb sc it m pos (.slice As x.length c2) x) := ⟨by rw [hxl.out]; exact HI.out⟩
              clear HS hlen c5 c6 hcs HL HI hl hxl
              have HI := HI2
              have HS := HS2
              have hlen := hlen2
              clear HI2 HS2 hlen2
              have HLT : Aside0 ((∀ k, (Value.slice As x.length c2).ownBlock = some k → k < wr.heap.size) ∧ sc < wr.heap.size) := ⟨⟨Kd.R_lt HI.out.row, blk_lt HI.out.cell⟩⟩
              have HGE2 := Aside0.mk HI.out.below.size
              go_wp2_with (first | (go_at_call 10; refine (usage_Ops.calls ops _ ⟨TB.below HT_.out HI.out.below⟩ A2.out).mono ?_; rintro e w3 ⟨vo, rfl, ho, hbel⟩; obtain ⟨gb, cap, eo, hge, _⟩ := Kd.R_form ho HOP.out; subst eo; have HO := Aside0.mk ho; have HG3 := Aside0.mk hge; have n1_ := Aside0.mk (HI.out.later hbel); clear HI hbel ho hge; have HI := n1_; clear n1_) | (go_at_call 24; refine (slices_DeleteFunc_string_string.calls (fun y => !opsIn x y) 25 #[.pointer (some ⟨sc, 0, none⟩)] _ gb cap (fun _ => True) ops _ (enters_of Tryd.func25 (by kernel_rfl) rfl) ?hp_ ?hpo_ HO.out).mono ?_; (case hp_ => exact fun W y hbl => usage_Of.body sc As c2 x y W ((hbl.cell (World.block_lt_of_cell? _ _ HI.out.celv)).trans HI.out.celv) (Kd.C_below (Kd.R_reads' HI.out.row).2.2 hbl) (Kd.R_reads' HI.out.row).2.1 (Nat.le_trans hlen.out (by decide))); (case hpo_ => exact fun n os dk y _ => usage_Of.body sc As c2 x y _ (cell_over HI.out.celv (by have h1 := HG3.out; have h2 := HLT.out.2; omega)) (C_over (Kd.R_reads' HI.out.row).2.2 (fun ad e => by subst e; have h1 := HLT.out.1 ad.block rfl; have h2 := HG3.out; have h3 := Kd.R_lt HI.out.row ad.block rfl; exact ⟨by omega, h3⟩)) (Kd.R_reads' HI.out.row).2.1 (Nat.le_trans hlen.out (by decide))); rintro e w4 ⟨vd, rfl, hd, hbd⟩))
              go_ret
              refine ⟨_, rfl, ?_, ?_⟩
              · rw [HS.out]
                have h9 := Kd.R_lower hd HGE2.out
                simpa using h9
              · exact HI.out.below.trans (hbd _ (Nat.le_trans HGE2.out HG3.out))
        · have k0b : (a0.toList == ([75, 48] : List UInt8)) = false := beq_eq_false_iff_ne.mpr k0
          by_cases k1 : a0.toList = [75, 49]
          · have k1b : (a0.toList == ([75, 49] : List UInt8)) = true := beq_iff_eq.mpr k1
            have HS : Aside0 (usage_Of.some_ a0 m = l.map renR) := ⟨by unfold usage_Of.some_; rw [if_pos (Or.inr k1), hl.out]⟩
            clear k0 k1
            go_wp2
            clear hn hh0 hcs
            go_loopg [38] l.length (fun kq v38 w' => ∃ (i : Int) (x : List ByteArray), v38 = .int .i64 i ∧ 0 ≤ i ∧ Aside0 (usage_Of.Inv w w' a0 a1 a2 a3 hb sc it m pos (.slice As l.length c2) x) ∧ Aside0 (x = (l.take i.toNat).map renR ++ l.drop i.toNat ∧ i ≤ l.length ∧ l.length - i.toNat = kq))
            case atStart => exact ⟨0, l, rfl, by omega, HI, ⟨by simp, by omega, by simp⟩⟩
            case round =>
              clear HI
              obtain ⟨i, x, rfl, c6, HI, HL⟩ := hrel
              have hxl : Aside0 (x.length = l.length) := ⟨by rw [HL.out.1]; simp; have := HL.out.2.1; omega⟩
              have hcs := HI.out.celv
              by_cases c5 : i < (l.length : Int)
              · have c5b0 : decide (i < (l.length : Int)) = true := decide_eq_true c5
                have c6b0 : decide (0 ≤ i) = true := decide_eq_true c6
                have p166 : (0 ≤ i) = True := eq_true c6
                have q166 : (i < (l.length : Int)) = True := eq_true c5
                have HC := Aside0.mk (And.intro c6 c5)
                obtain ⟨gl, cap2, e3, _⟩ := Kd.R_form HI.out.row (by rw [hxl.out]; omega)
                injection e3 with e3a e3b e3c
                obtain ⟨ad, had⟩ : ∃ ad : Addr, ad = ⟨gl, 0, none⟩ := ⟨_, rfl⟩
                rw [← had] at e3a
                subst e3a
                have HAD : Aside0 (ad.add i.toNat = ⟨gl, i.toNat, none⟩) := ⟨by rw [had]; simp only [Addr.add]; split <;> simp_all⟩
                have HAR := Aside0.mk had
                obtain ⟨y, hy⟩ : ∃ y, y = rdOf ByteArray.empty x i := ⟨_, rfl⟩
                have HY := Aside0.mk hy
                have hc3 : wr.cell? (ad.add i.toNat) = some (.string y) := by rw [HAD.out, HY.out]; exact (Kd.R_celln ByteArray.empty (HAR.out ▸ HI.out.row) i c6 c5).1
                have hf3 : wr.frozen? (ad.add i.toNat) = false := by rw [HAD.out]; exact (Kd.R_celln ByteArray.empty (HAR.out ▸ HI.out.row) i c6 c5).2
                clear c5 c6 had hy e3b e3c
                go_upto_region 15 with fail
                clear hcs
                refine start_ (n := 6) (S := fun w' => w'.cell? ⟨sc, 0, none⟩ = some (.slice (some ad) l.length c2)) (ds := [5]) #[false, false, false, false, false, false] (by kernel_rfl) rfl rfl ((HI.out.celv)) (fun hHeld => ?_)
                refine pure_ (i := 1) (N := some 44) (v := ?_) (a' := ?_) #[false, true, false, false, false, false] rfl rfl (by kernel_rfl) (fun _ _ _ h => h) (Or.inl ⟨by rfl, ?_⟩) ?_ ?_
                rotate_left
                · intro w'
                  go_simp
                  with_reducible rfl
                rotate_left
                · simp only [Act.put, List.setIfInBounds_toArray, List.set_cons_zero, List.set_cons_succ, i64_w, i32_w]
                  rfl
                refine pure_ (i := 2) (N := some 45) (v := ?_) (a' := ?_) #[false, true, true, false, false, false] rfl rfl (by kernel_rfl) (fun _ _ _ h => h) (Or.inl ⟨by rfl, ?_⟩) ?_ ?_
                rotate_left
                · intro w'
                  go_simp
                  with_reducible rfl
                rotate_left
                · simp only [Act.put, List.setIfInBounds_toArray, List.set_cons_zero, List.set_cons_succ, i64_w, i32_w]
                  rfl
                refine take_ (i := 0) (N := some 43) (v := ?_) (a' := ?_) #[true, true, true, false, false, false] rfl rfl (by kernel_rfl) (fun _ _ _ h => h) (Or.inl ⟨by rfl, ?_⟩) hHeld ?_ ?_
                rotate_left
                · intro w' s0
                  go_simp
                  with_reducible rfl
                rotate_left
                · simp only [Act.put, List.setIfInBounds_toArray, List.set_cons_zero, List.set_cons_succ, i64_w, i32_w]
                  rfl
                refine one_ (i := 3) (N := some 46) #[true, true, true, true, false, false] rfl rfl (by kernel_rfl) (by decide) (fun K hK => ?_)
                refine goes_ Tryd.func23 (by kernel_rfl) rfl #[.string y] (by rfl) rfl rfl (by simp only [List.map_toArray, List.map_cons, List.map_nil]; rfl) ?_
                refine (usage_renamed.calls _ _ _ (ren_is y)).mono ?_
                rintro e w3 ⟨rfl, ⟨nd, rfl⟩⟩
                refine ⟨_, rfl, ?_⟩
                have HJ := Aside0.mk (HI.out.drewN (1 + nd))
                clear HI
                have hc4 := HJ.out.celv
                refine hK.out _ _ (hc4) (fun hHeld => ?_)
                clear hK K
                refine norm_ (a' := ?_) ?_ ?_
                rotate_left
                · show Act.put _ (some 46) _ = _
                  simp only [Act.put, List.setIfInBounds_toArray, List.set_cons_zero, List.set_cons_succ, i64_w, i32_w]
                  rfl
                refine pure_ (i := 4) (N := some 47) (v := ?_) (a' := ?_) #[true, true, true, true, true, false] rfl rfl (by kernel_rfl) (fun _ _ _ h => h) (Or.inl ⟨by rfl, ?_⟩) ?_ ?_
                rotate_left
                · intro w'
                  go_simp
                  with_reducible rfl
                rotate_left
                · simp only [Act.put, List.setIfInBounds_toArray, List.set_cons_zero, List.set_cons_succ, i64_w, i32_w]
                  rfl
                refine last_ (i := 5) (N := none) #[true, true, true, true, true, true] rfl rfl (by kernel_rfl) (by decide) (fun K hK => ?_)
                refine skip_ (w1 := ?_) (by rfl) rfl ?_ ?_
                rotate_left
                · go_simp
                  rfl
                refine hK.out _ _ ?_
                clear hK K
                refine done_ (by kernel_rfl) ?_
                have HI2 := Aside0.mk ((HAR.out ▸ HJ.out : usage_Of.Inv _ _ _ _ _ _ _ _ _ _ _ (.slice (some ⟨gl, 0, none⟩) l.length c2) _).putRow i (renR y))
                clear hc4 hc3 hf3 HJ
                try go_wp2
                go_roundg (l.length - (i + 1).toNat)
                case measure => have := HC.out; have := HL.out.2.2; omega
                case rel =>
                  have e := w64 (x := i + 1) (by have := HC.out; omega) (by have := HC.out; have := hlen.out; omega)
                  refine ⟨i + 1, _, by rw [e], by have := HC.out; omega, ⟨by rw [HAD.out, HAR.out]; exact HI2.out⟩, ⟨?_, by have := HC.out; omega, rfl⟩⟩
                  have h1 := HC.out
                  rw [HY.out, show (i + 1).toNat = i.toNat + 1 by omega, HL.out.1]
                  exact ren_step l i.toNat (by omega)
              · have c5b0 : decide (i < (l.length : Int)) = false := decide_eq_false c5
                have HS2 : Aside0 (usage_Of.some_ a0 m = x) := ⟨by
                  have h2 := HL.out.2.1
                  have h3 : i.toNat = l.length := by omega
                  rw [HS.out, HL.out.1, h3, List.take_length, List.drop_length, List.append_nil]⟩
                have hlen2 : Aside0 (x.length ≤ 2000) := ⟨by rw [hxl.out]; exact hlen.out⟩
                have HI2 : Aside0 (usage_Of.Inv w wr a0 a1 a2 a3 hb sc it m pos (.slice As x.length c2) x) := ⟨by rw [hxl.out]; exact HI.out⟩
                clear HS hlen c5 c6 hcs HL HI hl hxl
                have HI := HI2
                have HS := HS2
                have hlen := hlen2
                clear HI2 HS2 hlen2
                have HLT : Aside0 ((∀ k, (Value.slice As x.length c2).ownBlock = some k → k < wr.heap.size) ∧ sc < wr.heap.size) := ⟨⟨Kd.R_lt HI.out.row, blk_lt HI.out.cell⟩⟩
                have HGE2 := Aside0.mk HI.out.below.size
                go_wp2_with (first | (go_at_call 10; refine (usage_Ops.calls ops _ ⟨TB.below HT_.out HI.out.below⟩ A2.out).mono ?_; rintro e w3 ⟨vo, rfl, ho, hbel⟩; obtain ⟨gb, cap, eo, hge, _⟩ := Kd.R_form ho HOP.out; subst eo; have HO := Aside0.mk ho; have HG3 := Aside0.mk hge; have n1_ := Aside0.mk (HI.out.later hbel); clear HI hbel ho hge; have HI := n1_; clear n1_) | (go_at_call 24; refine (slices_DeleteFunc_string_string.calls (fun y => !opsIn x y) 25 #[.pointer (some ⟨sc, 0, none⟩)] _ gb cap (fun _ => True) ops _ (enters_of Tryd.func25 (by kernel_rfl) rfl) ?hp_ ?hpo_ HO.out).mono ?_; (case hp_ => exact fun W y hbl => usage_Of.body sc As c2 x y W ((hbl.cell (World.block_lt_of_cell? _ _ HI.out.celv)).trans HI.out.celv) (Kd.C_below (Kd.R_reads' HI.out.row).2.2 hbl) (Kd.R_reads' HI.out.row).2.1 (Nat.le_trans hlen.out (by decide))); (case hpo_ => exact fun n os dk y _ => usage_Of.body sc As c2 x y _ (cell_over HI.out.celv (by have h1 := HG3.out; have h2 := HLT.out.2; omega)) (C_over (Kd.R_reads' HI.out.row).2.2 (fun ad e => by subst e; have h1 := HLT.out.1 ad.block rfl; have h2 := HG3.out; have h3 := Kd.R_lt HI.out.row ad.block rfl; exact ⟨by omega, h3⟩)) (Kd.R_reads' HI.out.row).2.1 (Nat.le_trans hlen.out (by decide))); rintro e w4 ⟨vd, rfl, hd, hbd⟩))
                go_ret
                refine ⟨_, rfl, ?_, ?_⟩
                · rw [HS.out]
                  have h9 := Kd.R_lower hd HGE2.out
                  simpa using h9
                · exact HI.out.below.trans (hbd _ (Nat.le_trans HGE2.out HG3.out))
          · have k1b : (a0.toList == ([75, 49] : List UInt8)) = false := beq_eq_false_iff_ne.mpr k1
            have HS : Aside0 (usage_Of.some_ a0 m = l) := ⟨by unfold usage_Of.some_; rw [if_neg (by rintro (h | h); exact k0 h; exact k1 h), hl.out]⟩
            clear k0 k1
            clear hcs
            have HLT : Aside0 ((∀ k, (Value.slice As l.length c2).ownBlock = some k → k < wr.heap.size) ∧ sc < wr.heap.size) := ⟨⟨Kd.R_lt HI.out.row, blk_lt HI.out.cell⟩⟩
            have HGE2 := Aside0.mk HI.out.below.size
            go_wp2_with (first | (go_at_call 10; refine (usage_Ops.calls ops _ ⟨TB.below HT_.out HI.out.below⟩ A2.out).mono ?_; rintro e w3 ⟨vo, rfl, ho, hbel⟩; obtain ⟨gb, cap, eo, hge, _⟩ := Kd.R_form ho HOP.out; subst eo; have HO := Aside0.mk ho; have HG3 := Aside0.mk hge; have n1_ := Aside0.mk (HI.out.later hbel); clear HI hbel ho hge; have HI := n1_; clear n1_) | (go_at_call 24; refine (slices_DeleteFunc_string_string.calls (fun y => !opsIn l y) 25 #[.pointer (some ⟨sc, 0, none⟩)] _ gb cap (fun _ => True) ops _ (enters_of Tryd.func25 (by kernel_rfl) rfl) ?hp_ ?hpo_ HO.out).mono ?_; (case hp_ => exact fun W y hbl => usage_Of.body sc As c2 l y W ((hbl.cell (World.block_lt_of_cell? _ _ HI.out.celv)).trans HI.out.celv) (Kd.C_below (Kd.R_reads' HI.out.row).2.2 hbl) (Kd.R_reads' HI.out.row).2.1 (Nat.le_trans hlen.out (by decide))); (case hpo_ => exact fun n os dk y _ => usage_Of.body sc As c2 l y _ (cell_over HI.out.celv (by have h1 := HG3.out; have h2 := HLT.out.2; omega)) (C_over (Kd.R_reads' HI.out.row).2.2 (fun ad e => by subst e; have h1 := HLT.out.1 ad.block rfl; have h2 := HG3.out; have h3 := Kd.R_lt HI.out.row ad.block rfl; exact ⟨by omega, h3⟩)) (Kd.R_reads' HI.out.row).2.1 (Nat.le_trans hlen.out (by decide))); rintro e w4 ⟨vd, rfl, hd, hbd⟩))
            go_ret
            refine ⟨_, rfl, ?_, ?_⟩
            · rw [HS.out]
              have h9 := Kd.R_lower hd HGE2.out
              simpa using h9
            · exact HI.out.below.trans (hbd _ (Nat.le_trans HGE2.out HG3.out))

/-! ### record_Bare: function 28 -/
def record_Bare.f (a0_0 : Int) (a0_1 : ByteArray) (l0_2 : List (S52)) (a0_3 : ByteArray) (a0_4 : ByteArray) (a0_5 : ByteArray) (a0_6 : ByteArray) : Option (Bool) := if a0_3.toList = ([] : List UInt8) then (if a0_4.toList = ([] : List UInt8) then (if a0_5.toList = ([] : List UInt8) then (if a0_6.toList = ([] : List UInt8) then (some true) else (some false)) else (some false)) else (some false)) else (some false)
set_option maxHeartbeats 8000000 in
set_option maxRecDepth 100000 in
theorem record_Bare.calls (a0_0 : Int) (a0_1 : ByteArray) (A0_2 : Option Addr) (c0_2 : Nat) (l0_2 : List (S52)) (a0_3 : ByteArray) (a0_4 : ByteArray) (a0_5 : ByteArray) (a0_6 : ByteArray) (r : Bool) (w : World) (hr0_2 : Kd.C k52 w A0_2 l0_2.length l0_2) (hc0_2 : l0_2.length ≤ c0_2) (h : record_Bare.f a0_0 a0_1 l0_2 a0_3 a0_4 a0_5 a0_6 = some r) :
    Calls Tryd.prog 28 #[.agg #[.int .i64 a0_0, .string a0_1, .slice A0_2 l0_2.length c0_2, .string a0_3, .string a0_4, .string a0_5, .string a0_6]] w fun e w' => e = .returned (.bool r) ∧ Below w.heap.size w w' := by
  have hu26 := Tryd.underlying26
  have hu24 := Tryd.underlying24
  have HR0_2 := Aside0.mk hr0_2
  have HC0_2 := Aside0.mk hc0_2
  clear hr0_2 hc0_2
  have HB := Aside0.mk (Below.refl w.heap.size w)
  have H : (if a0_3.toList = ([] : List UInt8) then (if a0_4.toList = ([] : List UInt8) then (if a0_5.toList = ([] : List UInt8) then (if a0_6.toList = ([] : List UInt8) then (some true) else (some false)) else (some false)) else (some false)) else (some false)) = some r := h
  clear h
  by_cases c2 : a0_3.toList = ([] : List UInt8)
  · rw [if_pos c2] at H
    have c2b0 : (a0_3.toList == ([] : List UInt8)) = true := beq_iff_eq.mpr c2
    have c2b1 : (a0_3.toList != ([] : List UInt8)) = false := bne_eq_false_iff_eq.mpr c2
    clear c2
    by_cases c3 : a0_4.toList = ([] : List UInt8)
    · rw [if_pos c3] at H
      have c3b0 : (a0_4.toList == ([] : List UInt8)) = true := beq_iff_eq.mpr c3
      have c3b1 : (a0_4.toList != ([] : List UInt8)) = false := bne_eq_false_iff_eq.mpr c3
      clear c3
      by_cases c4 : a0_5.toList = ([] : List UInt8)
      · rw [if_pos c4] at H
        have c4b0 : (a0_5.toList == ([] : List UInt8)) = true := beq_iff_eq.mpr c4
        have c4b1 : (a0_5.toList != ([] : List UInt8)) = false := bne_eq_false_iff_eq.mpr c4
        clear c4
        by_cases c5 : a0_6.toList = ([] : List UInt8)
        · rw [if_pos c5] at H
          have c5b0 : (a0_6.toList == ([] : List UInt8)) = true := beq_iff_eq.mpr c5
          have c5b1 : (a0_6.toList != ([] : List UInt8)) = false := bne_eq_false_iff_eq.mpr c5
          clear c5
          obtain rfl := Option.some.inj H
          go_enter Tryd.func28, Tryd.ntmps28
          go_wp2_with (first | ((with_reducible refine gate_dst (N := 1) rfl ?_); refine box_event ?hg (N := 1) ?hd (cs := #[.int .i64 a0_0, .string a0_1, .slice A0_2 l0_2.length c0_2, .string a0_3, .string a0_4, .string a0_5, .string a0_6]) (t := 26) ?hr ?_; (case hd => rfl); (case hg => rfl); (case hr => first | (go_simp; done) | (go_simp; rfl)); intro gb161 hg w6 hbox hb; have n0_ := Aside0.mk (below_step (by repeat (first | (with_reducible first | exact HB.out | apply below_alloc | apply pw_below_drewN | apply below_drew1) | exact HB.out)) hb); have n1_ := Aside0.mk (hbox); have n2_ := Aside0.mk ((by rw [hg]; exact (below_size (by repeat (first | (with_reducible first | exact HB.out | apply below_alloc | apply pw_below_drewN | apply below_drew1) | exact HB.out))) : w.heap.size ≤ gb161)); have n3_ := Aside0.mk ((by rw [hg]; exact (below_size (by repeat (first | (with_reducible first | exact HB.out | apply below_alloc | apply pw_below_drewN | apply below_drew1) | exact HB.out))) : w.heap.size ≤ gb161)); clear HB; have HB := n0_; have BK161 := n1_; have GW161 := n2_; have GE161 := n3_; clear n0_ n1_ n2_ n3_; clear hb hbox hg; have hcz7_0 : w6.cell? ⟨gb161, 0, none⟩ = some (.int .i64 a0_0) := (blk_cell BK161.out 0).trans rfl; have hcz7_1 : w6.cell? ⟨gb161, 1, none⟩ = some (.string a0_1) := (blk_cell BK161.out 1).trans rfl; have hcz7_2 : w6.cell? ⟨gb161, 2, none⟩ = some (.slice A0_2 l0_2.length c0_2) := (blk_cell BK161.out 2).trans rfl; have hcz7_3 : w6.cell? ⟨gb161, 3, none⟩ = some (.string a0_3) := (blk_cell BK161.out 3).trans rfl; have hcz7_4 : w6.cell? ⟨gb161, 4, none⟩ = some (.string a0_4) := (blk_cell BK161.out 4).trans rfl; have hcz7_5 : w6.cell? ⟨gb161, 5, none⟩ = some (.string a0_5) := (blk_cell BK161.out 5).trans rfl; have hcz7_6 : w6.cell? ⟨gb161, 6, none⟩ = some (.string a0_6) := (blk_cell BK161.out 6).trans rfl; have hfz7_0 := blk_frozen BK161.out 0; have hfz7_1 := blk_frozen BK161.out 1; have hfz7_2 := blk_frozen BK161.out 2; have hfz7_3 := blk_frozen BK161.out 3; have hfz7_4 := blk_frozen BK161.out 4; have hfz7_5 := blk_frozen BK161.out 5; have hfz7_6 := blk_frozen BK161.out 6))
          go_ret
          exact ⟨by first | rfl | (simp [errW_none, errW_some] <;> rfl) | (simp [*, errW_none, errW_some] <;> rfl), by repeat (first | (with_reducible first | exact HB.out | apply below_alloc | apply pw_below_drewN | apply below_drew1 | refine below_set ?_ GE161.out) | exact HB.out)⟩
        · rw [if_neg c5] at H
          have c5b0 : (a0_6.toList == ([] : List UInt8)) = false := beq_eq_false_iff_ne.mpr c5
          have c5b1 : (a0_6.toList != ([] : List UInt8)) = true := bne_iff_ne.mpr c5
          obtain rfl := Option.some.inj H
          go_enter Tryd.func28, Tryd.ntmps28
          go_wp2_with (first | ((with_reducible refine gate_dst (N := 1) rfl ?_); refine box_event ?hg (N := 1) ?hd (cs := #[.int .i64 a0_0, .string a0_1, .slice A0_2 l0_2.length c0_2, .string a0_3, .string a0_4, .string a0_5, .string a0_6]) (t := 26) ?hr ?_; (case hd => rfl); (case hg => rfl); (case hr => first | (go_simp; done) | (go_simp; rfl)); intro gb161 hg w8 hbox hb; have n0_ := Aside0.mk (below_step (by repeat (first | (with_reducible first | exact HB.out | apply below_alloc | apply pw_below_drewN | apply below_drew1) | exact HB.out)) hb); have n1_ := Aside0.mk (hbox); have n2_ := Aside0.mk ((by rw [hg]; exact (below_size (by repeat (first | (with_reducible first | exact HB.out | apply below_alloc | apply pw_below_drewN | apply below_drew1) | exact HB.out))) : w.heap.size ≤ gb161)); have n3_ := Aside0.mk ((by rw [hg]; exact (below_size (by repeat (first | (with_reducible first | exact HB.out | apply below_alloc | apply pw_below_drewN | apply below_drew1) | exact HB.out))) : w.heap.size ≤ gb161)); clear HB; have HB := n0_; have BK161 := n1_; have GW161 := n2_; have GE161 := n3_; clear n0_ n1_ n2_ n3_; clear hb hbox hg; have hcz9_0 : w8.cell? ⟨gb161, 0, none⟩ = some (.int .i64 a0_0) := (blk_cell BK161.out 0).trans rfl; have hcz9_1 : w8.cell? ⟨gb161, 1, none⟩ = some (.string a0_1) := (blk_cell BK161.out 1).trans rfl; have hcz9_2 : w8.cell? ⟨gb161, 2, none⟩ = some (.slice A0_2 l0_2.length c0_2) := (blk_cell BK161.out 2).trans rfl; have hcz9_3 : w8.cell? ⟨gb161, 3, none⟩ = some (.string a0_3) := (blk_cell BK161.out 3).trans rfl; have hcz9_4 : w8.cell? ⟨gb161, 4, none⟩ = some (.string a0_4) := (blk_cell BK161.out 4).trans rfl; have hcz9_5 : w8.cell? ⟨gb161, 5, none⟩ = some (.string a0_5) := (blk_cell BK161.out 5).trans rfl; have hcz9_6 : w8.cell? ⟨gb161, 6, none⟩ = some (.string a0_6) := (blk_cell BK161.out 6).trans rfl; have hfz9_0 := blk_frozen BK161.out 0; have hfz9_1 := blk_frozen BK161.out 1; have hfz9_2 := blk_frozen BK161.out 2; have hfz9_3 := blk_frozen BK161.out 3; have hfz9_4 := blk_frozen BK161.out 4; have hfz9_5 := blk_frozen BK161.out 5; have hfz9_6 := blk_frozen BK161.out 6))
          go_ret
          exact ⟨by first | rfl | (simp [errW_none, errW_some] <;> rfl) | (simp [*, errW_none, errW_some] <;> rfl), by repeat (first | (with_reducible first | exact HB.out | apply below_alloc | apply pw_below_drewN | apply below_drew1 | refine below_set ?_ GE161.out) | exact HB.out)⟩
      · rw [if_neg c4] at H
        have c4b0 : (a0_5.toList == ([] : List UInt8)) = false := beq_eq_false_iff_ne.mpr c4
        have c4b1 : (a0_5.toList != ([] : List UInt8)) = true := bne_iff_ne.mpr c4
        obtain rfl := Option.some.inj H
        go_enter Tryd.func28, Tryd.ntmps28
        go_wp2_with (first | ((with_reducible refine gate_dst (N := 1) rfl ?_); refine box_event ?hg (N := 1) ?hd (cs := #[.int .i64 a0_0, .string a0_1, .slice A0_2 l0_2.length c0_2, .string a0_3, .string a0_4, .string a0_5, .string a0_6]) (t := 26) ?hr ?_; (case hd => rfl); (case hg => rfl); (case hr => first | (go_simp; done) | (go_simp; rfl)); intro gb161 hg w10 hbox hb; have n0_ := Aside0.mk (below_step (by repeat (first | (with_reducible first | exact HB.out | apply below_alloc | apply pw_below_drewN | apply below_drew1) | exact HB.out)) hb); have n1_ := Aside0.mk (hbox); have n2_ := Aside0.mk ((by rw [hg]; exact (below_size (by repeat (first | (with_reducible first | exact HB.out | apply below_alloc | apply pw_below_drewN | apply below_drew1) | exact HB.out))) : w.heap.size ≤ gb161)); have n3_ := Aside0.mk ((by rw [hg]; exact (below_size (by repeat (first | (with_reducible first | exact HB.out | apply below_alloc | apply pw_below_drewN | apply below_drew1) | exact HB.out))) : w.heap.size ≤ gb161)); clear HB; have HB := n0_; have BK161 := n1_; have GW161 := n2_; have GE161 := n3_; clear n0_ n1_ n2_ n3_; clear hb hbox hg; have hcz11_0 : w10.cell? ⟨gb161, 0, none⟩ = some (.int .i64 a0_0) := (blk_cell BK161.out 0).trans rfl; have hcz11_1 : w10.cell? ⟨gb161, 1, none⟩ = some (.string a0_1) := (blk_cell BK161.out 1).trans rfl; have hcz11_2 : w10.cell? ⟨gb161, 2, none⟩ = some (.slice A0_2 l0_2.length c0_2) := (blk_cell BK161.out 2).trans rfl; have hcz11_3 : w10.cell? ⟨gb161, 3, none⟩ = some (.string a0_3) := (blk_cell BK161.out 3).trans rfl; have hcz11_4 : w10.cell? ⟨gb161, 4, none⟩ = some (.string a0_4) := (blk_cell BK161.out 4).trans rfl; have hcz11_5 : w10.cell? ⟨gb161, 5, none⟩ = some (.string a0_5) := (blk_cell BK161.out 5).trans rfl; have hcz11_6 : w10.cell? ⟨gb161, 6, none⟩ = some (.string a0_6) := (blk_cell BK161.out 6).trans rfl; have hfz11_0 := blk_frozen BK161.out 0; have hfz11_1 := blk_frozen BK161.out 1; have hfz11_2 := blk_frozen BK161.out 2; have hfz11_3 := blk_frozen BK161.out 3; have hfz11_4 := blk_frozen BK161.out 4; have hfz11_5 := blk_frozen BK161.out 5; have hfz11_6 := blk_frozen BK161.out 6))
        go_ret
        exact ⟨by first | rfl | (simp [errW_none, errW_some] <;> rfl) | (simp [*, errW_none, errW_some] <;> rfl), by repeat (first | (with_reducible first | exact HB.out | apply below_alloc | apply pw_below_drewN | apply below_drew1 | refine below_set ?_ GE161.out) | exact HB.out)⟩
    · rw [if_neg c3] at H
      have c3b0 : (a0_4.toList == ([] : List UInt8)) = false := beq_eq_false_iff_ne.mpr c3
      have c3b1 : (a0_4.toList != ([] : List UInt8)) = true := bne_iff_ne.mpr c3
      obtain rfl := Option.some.inj H
      go_enter Tryd.func28, Tryd.ntmps28
      go_wp2_with (first | ((with_reducible refine gate_dst (N := 1) rfl ?_); refine box_event ?hg (N := 1) ?hd (cs := #[.int .i64 a0_0, .string a0_1, .slice A0_2 l0_2.length c0_2, .string a0_3, .string a0_4, .string a0_5, .string a0_6]) (t := 26) ?hr ?_; (case hd => rfl); (case hg => rfl); (case hr => first | (go_simp; done) | (go_simp; rfl)); intro gb161 hg w12 hbox hb; have n0_ := Aside0.mk (below_step (by repeat (first | (with_reducible first | exact HB.out | apply below_alloc | apply pw_below_drewN | apply below_drew1) | exact HB.out)) hb); have n1_ := Aside0.mk (hbox); have n2_ := Aside0.mk ((by rw [hg]; exact (below_size (by repeat (first | (with_reducible first | exact HB.out | apply below_alloc | apply pw_below_drewN | apply below_drew1) | exact HB.out))) : w.heap.size ≤ gb161)); have n3_ := Aside0.mk ((by rw [hg]; exact (below_size (by repeat (first | (with_reducible first | exact HB.out | apply below_alloc | apply pw_below_drewN | apply below_drew1) | exact HB.out))) : w.heap.size ≤ gb161)); clear HB; have HB := n0_; have BK161 := n1_; have GW161 := n2_; have GE161 := n3_; clear n0_ n1_ n2_ n3_; clear hb hbox hg; have hcz13_0 : w12.cell? ⟨gb161, 0, none⟩ = some (.int .i64 a0_0) := (blk_cell BK161.out 0).trans rfl; have hcz13_1 : w12.cell? ⟨gb161, 1, none⟩ = some (.string a0_1) := (blk_cell BK161.out 1).trans rfl; have hcz13_2 : w12.cell? ⟨gb161, 2, none⟩ = some (.slice A0_2 l0_2.length c0_2) := (blk_cell BK161.out 2).trans rfl; have hcz13_3 : w12.cell? ⟨gb161, 3, none⟩ = some (.string a0_3) := (blk_cell BK161.out 3).trans rfl; have hcz13_4 : w12.cell? ⟨gb161, 4, none⟩ = some (.string a0_4) := (blk_cell BK161.out 4).trans rfl; have hcz13_5 : w12.cell? ⟨gb161, 5, none⟩ = some (.string a0_5) := (blk_cell BK161.out 5).trans rfl; have hcz13_6 : w12.cell? ⟨gb161, 6, none⟩ = some (.string a0_6) := (blk_cell BK161.out 6).trans rfl; have hfz13_0 := blk_frozen BK161.out 0; have hfz13_1 := blk_frozen BK161.out 1; have hfz13_2 := blk_frozen BK161.out 2; have hfz13_3 := blk_frozen BK161.out 3; have hfz13_4 := blk_frozen BK161.out 4; have hfz13_5 := blk_frozen BK161.out 5; have hfz13_6 := blk_frozen BK161.out 6))
      go_ret
      exact ⟨by first | rfl | (simp [errW_none, errW_some] <;> rfl) | (simp [*, errW_none, errW_some] <;> rfl), by repeat (first | (with_reducible first | exact HB.out | apply below_alloc | apply pw_below_drewN | apply below_drew1 | refine below_set ?_ GE161.out) | exact HB.out)⟩
  · rw [if_neg c2] at H
    have c2b0 : (a0_3.toList == ([] : List UInt8)) = false := beq_eq_false_iff_ne.mpr c2
    have c2b1 : (a0_3.toList != ([] : List UInt8)) = true := bne_iff_ne.mpr c2
    obtain rfl := Option.some.inj H
    go_enter Tryd.func28, Tryd.ntmps28
    go_wp2_with (first | ((with_reducible refine gate_dst (N := 1) rfl ?_); refine box_event ?hg (N := 1) ?hd (cs := #[.int .i64 a0_0, .string a0_1, .slice A0_2 l0_2.length c0_2, .string a0_3, .string a0_4, .string a0_5, .string a0_6]) (t := 26) ?hr ?_; (case hd => rfl); (case hg => rfl); (case hr => first | (go_simp; done) | (go_simp; rfl)); intro gb161 hg w14 hbox hb; have n0_ := Aside0.mk (below_step (by repeat (first | (with_reducible first | exact HB.out | apply below_alloc | apply pw_below_drewN | apply below_drew1) | exact HB.out)) hb); have n1_ := Aside0.mk (hbox); have n2_ := Aside0.mk ((by rw [hg]; exact (below_size (by repeat (first | (with_reducible first | exact HB.out | apply below_alloc | apply pw_below_drewN | apply below_drew1) | exact HB.out))) : w.heap.size ≤ gb161)); have n3_ := Aside0.mk ((by rw [hg]; exact (below_size (by repeat (first | (with_reducible first | exact HB.out | apply below_alloc | apply pw_below_drewN | apply below_drew1) | exact HB.out))) : w.heap.size ≤ gb161)); clear HB; have HB := n0_; have BK161 := n1_; have GW161 := n2_; have GE161 := n3_; clear n0_ n1_ n2_ n3_; clear hb hbox hg; have hcz15_0 : w14.cell? ⟨gb161, 0, none⟩ = some (.int .i64 a0_0) := (blk_cell BK161.out 0).trans rfl; have hcz15_1 : w14.cell? ⟨gb161, 1, none⟩ = some (.string a0_1) := (blk_cell BK161.out 1).trans rfl; have hcz15_2 : w14.cell? ⟨gb161, 2, none⟩ = some (.slice A0_2 l0_2.length c0_2) := (blk_cell BK161.out 2).trans rfl; have hcz15_3 : w14.cell? ⟨gb161, 3, none⟩ = some (.string a0_3) := (blk_cell BK161.out 3).trans rfl; have hcz15_4 : w14.cell? ⟨gb161, 4, none⟩ = some (.string a0_4) := (blk_cell BK161.out 4).trans rfl; have hcz15_5 : w14.cell? ⟨gb161, 5, none⟩ = some (.string a0_5) := (blk_cell BK161.out 5).trans rfl; have hcz15_6 : w14.cell? ⟨gb161, 6, none⟩ = some (.string a0_6) := (blk_cell BK161.out 6).trans rfl; have hfz15_0 := blk_frozen BK161.out 0; have hfz15_1 := blk_frozen BK161.out 1; have hfz15_2 := blk_frozen BK161.out 2; have hfz15_3 := blk_frozen BK161.out 3; have hfz15_4 := blk_frozen BK161.out 4; have hfz15_5 := blk_frozen BK161.out 5; have hfz15_6 := blk_frozen BK161.out 6))
    go_ret
    exact ⟨by first | rfl | (simp [errW_none, errW_some] <;> rfl) | (simp [*, errW_none, errW_some] <;> rfl), by repeat (first | (with_reducible first | exact HB.out | apply below_alloc | apply pw_below_drewN | apply below_drew1 | refine below_set ?_ GE161.out) | exact HB.out)⟩

/-! ### usage_May: function 12 -/
def usage_May.f (k : Nat) (a0_0 : Int) (a0_1 : ByteArray) (l0_2 : List (S52)) (a0_3 : ByteArray) (a0_4 : ByteArray) (a0_5 : ByteArray) (a0_6 : ByteArray) (a1 : ByteArray) : Option (Int) := (usage_Ops.f).bind fun t163 => ((slices_Contains_string_string.f k t163 a1).bind fun t166 => (if t166 = true then ((record_Bare.f a0_0 a0_1 l0_2 a0_3 a0_4 a0_5 a0_6).bind fun t167 => (if t167 = true then (some 0) else ((usage_Of.f a0_3 a0_4 a0_5 a0_6).bind fun t168 => ((slices_Contains_string_string.f k t168 a1).bind fun t171 => (if t171 = true then (some 0) else (some 14)))))) else (some 1)))
theorem usage_May.mono : ∀ a0 a1 a2 a3 a4 a5 a6 a7 k, LeO (usage_May.f k a0 a1 a2 a3 a4 a5 a6 a7) (usage_May.f (k + 1) a0 a1 a2 a3 a4 a5 a6 a7) := by
  intro a0 a1 a2 a3 a4 a5 a6 a7 k
  unfold usage_May.f
  repeat' first
      | (with_reducible exact slices_Contains_string_string.mono _ _ _)
      | (with_reducible exact LeO.refl _)
      | (with_reducible exact LeO.none _)
      | (with_reducible refine LeO.ite ?_ ?_)
      | (with_reducible refine LeO.bind ?_ (fun _ => ?_))
      | exact slices_Contains_string_string.mono _ _ _
      | exact LeO.none _
      | refine LeO.ite ?_ ?_
      | refine LeO.bind ?_ (fun _ => ?_)
set_option maxHeartbeats 8000000 in
set_option maxRecDepth 100000 in
theorem usage_May.calls (k : Nat) (a0_0 : Int) (a0_1 : ByteArray) (A0_2 : Option Addr) (c0_2 : Nat) (l0_2 : List (S52)) (a0_3 : ByteArray) (a0_4 : ByteArray) (a0_5 : ByteArray) (a0_6 : ByteArray) (a1 : ByteArray) (r : Int) (w : World) (hr0_2 : Kd.C k52 w A0_2 l0_2.length l0_2) (hc0_2 : l0_2.length ≤ c0_2) (HT_ : Aside0 (TB w)) (h : usage_May.f k a0_0 a0_1 l0_2 a0_3 a0_4 a0_5 a0_6 a1 = some r) :
    Calls Tryd.prog 12 #[.agg #[.int .i64 a0_0, .string a0_1, .slice A0_2 l0_2.length c0_2, .string a0_3, .string a0_4, .string a0_5, .string a0_6], .string a1] w fun e w' => e = .returned (.int .i64 r) ∧ Below w.heap.size w w' := by
  have hu26 := Tryd.underlying26
  have hu24 := Tryd.underlying24
  have HR0_2 := Aside0.mk hr0_2
  have HC0_2 := Aside0.mk hc0_2
  clear hr0_2 hc0_2
  have HB := Aside0.mk (Below.refl w.heap.size w)
  have H : ((usage_Ops.f).bind fun t163 => ((slices_Contains_string_string.f k t163 a1).bind fun t166 => (if t166 = true then ((record_Bare.f a0_0 a0_1 l0_2 a0_3 a0_4 a0_5 a0_6).bind fun t167 => (if t167 = true then (some 0) else ((usage_Of.f a0_3 a0_4 a0_5 a0_6).bind fun t168 => ((slices_Contains_string_string.f k t168 a1).bind fun t171 => (if t171 = true then (some 0) else (some 14)))))) else (some 1)))) = some r := h
  clear h
  replace H := Option.bind_eq_some_iff.mp H
  obtain ⟨t163, A30, H⟩ := H
  replace H : ((slices_Contains_string_string.f k t163 a1).bind fun t166 => (if t166 = true then ((record_Bare.f a0_0 a0_1 l0_2 a0_3 a0_4 a0_5 a0_6).bind fun t167 => (if t167 = true then (some 0) else ((usage_Of.f a0_3 a0_4 a0_5 a0_6).bind fun t168 => ((slices_Contains_string_string.f k t168 a1).bind fun t171 => (if t171 = true then (some 0) else (some 14)))))) else (some 1))) = some r := H
  have A3 := Aside0.mk A30
  clear A30
  replace H := Option.bind_eq_some_iff.mp H
  obtain ⟨t166, A40, H⟩ := H
  replace H : (if t166 = true then ((record_Bare.f a0_0 a0_1 l0_2 a0_3 a0_4 a0_5 a0_6).bind fun t167 => (if t167 = true then (some 0) else ((usage_Of.f a0_3 a0_4 a0_5 a0_6).bind fun t168 => ((slices_Contains_string_string.f k t168 a1).bind fun t171 => (if t171 = true then (some 0) else (some 14)))))) else (some 1)) = some r := H
  have A4 := Aside0.mk A40
  clear A40
  by_cases c5 : t166 = true
  · subst c5
    have H1 : ((record_Bare.f a0_0 a0_1 l0_2 a0_3 a0_4 a0_5 a0_6).bind fun t167 => (if t167 = true then (some 0) else ((usage_Of.f a0_3 a0_4 a0_5 a0_6).bind fun t168 => ((slices_Contains_string_string.f k t168 a1).bind fun t171 => (if t171 = true then (some 0) else (some 14)))))) = some r := by rw [if_pos rfl] at H; exact H
    clear H
    have H := H1
    clear H1
    replace H := Option.bind_eq_some_iff.mp H
    obtain ⟨t167, A60, H⟩ := H
    replace H : (if t167 = true then (some 0) else ((usage_Of.f a0_3 a0_4 a0_5 a0_6).bind fun t168 => ((slices_Contains_string_string.f k t168 a1).bind fun t171 => (if t171 = true then (some 0) else (some 14))))) = some r := H
    have A6 := Aside0.mk A60
    clear A60
    by_cases c7 : t167 = true
    · subst c7
      have H1 : (some 0) = some r := by rw [if_pos rfl] at H; exact H
      clear H
      have H := H1
      clear H1
      obtain rfl := Option.some.inj H
      go_enter Tryd.func12, Tryd.ntmps12
      go_wp2_with (first | ((with_reducible refine gate_dst (N := 2) rfl ?_); refine box_event ?hg (N := 2) ?hd (cs := #[.int .i64 a0_0, .string a0_1, .slice A0_2 l0_2.length c0_2, .string a0_3, .string a0_4, .string a0_5, .string a0_6]) (t := 26) ?hr ?_; (case hd => rfl); (case hg => rfl); (case hr => first | (go_simp; done) | (go_simp; rfl)); intro gb162 hg w8 hbox hb; have n0_ := Aside0.mk (below_step (by repeat (first | (with_reducible first | exact HB.out | apply below_alloc | apply pw_below_drewN | apply below_drew1) | exact HB.out)) hb); have n1_ := Aside0.mk (hbox); have n2_ := Aside0.mk ((by rw [hg]; exact (below_size (by repeat (first | (with_reducible first | exact HB.out | apply below_alloc | apply pw_below_drewN | apply below_drew1) | exact HB.out))) : w.heap.size ≤ gb162)); have n3_ := Aside0.mk ((by rw [hg]; exact (below_size (by repeat (first | (with_reducible first | exact HB.out | apply below_alloc | apply pw_below_drewN | apply below_drew1) | exact HB.out))) : w.heap.size ≤ gb162)); clear HB; have HB := n0_; have BK162 := n1_; have GW162 := n2_; have GE162 := n3_; clear n0_ n1_ n2_ n3_; clear hb hbox hg) | ((with_reducible refine gate_callee (f := 10) rfl ?_); refine goesL_ (some 6) rfl rfl Tryd.func10 (by kernel_rfl) rfl #[] rfl (by (try simp only [List.map_toArray, List.map_cons, List.map_nil]); first | done | rfl | (simp only [List.length_drop, List.length_take]; rfl) | exact congrArg (fun z => #[Value.int .i64 z]) (w64 (by omega) (by omega)).symm) ?_; (with_reducible refine (usage_Ops.calls  t163 _ ?tb_ A3.out).mono ?_); (case tb_ => exact ⟨TB.below HT_.out (by repeat (first | (with_reducible first | exact HB.out | apply below_alloc | apply pw_below_drewN | apply below_drew1 | refine below_set ?_ GE162.out) | exact HB.out))⟩); rintro e w9 ⟨v164, rfl, ho0, hb⟩; refine ⟨_, rfl, ?_⟩; have n0_ := Aside0.mk (Kd.R_lower ho0 (below_size (by repeat (first | (with_reducible first | exact HB.out | apply below_alloc | apply pw_below_drewN | apply below_drew1 | refine below_set ?_ GE162.out) | exact HB.out)))); have n1_ := Aside0.mk (blk_below (g := gb162) (o := .cells #[.int .i64 a0_0, .string a0_1, .slice A0_2 l0_2.length c0_2, .string a0_3, .string a0_4, .string a0_5, .string a0_6] 26 (0, 0)) (by (with_reducible repeat (first | refine blk_drewN ?_ _ | refine blk_drew ?_ | refine blk_alloc ?_ _)); exact BK162.out) hb); have n2_ := Aside0.mk (below_step (by repeat (first | (with_reducible first | exact HB.out | apply below_alloc | apply pw_below_drewN | apply below_drew1 | refine below_set ?_ GE162.out) | exact HB.out)) hb); clear BK162; clear HB; have HO165 := n0_; have BK162 := n1_; have HB := n2_; clear n0_ n1_ n2_; (try clear hb); (try clear hb2); (try clear hk); (try clear hi); (try clear ho0); obtain ⟨Ao10, co10, eo10⟩ := Kd.R_slice HO165.out; subst eo10) | ((with_reducible refine gate_callee (f := 18) rfl ?_); refine goesL_ (some 8) rfl rfl Tryd.func18 (by kernel_rfl) rfl #[.slice Ao10 t163.length co10, .string a1] rfl (by (try simp only [List.map_toArray, List.map_cons, List.map_nil]); first | done | rfl | (simp only [List.length_drop, List.length_take]; rfl) | exact congrArg (fun z => #[Value.int .i64 z]) (w64 (by omega) (by omega)).symm) ?_; (with_reducible refine (slices_Contains_string_string.calls k _ _ t163 a1 true _ ?side1 ?side2 A4.out).mono ?_); (case side1 => repeat (first | exact (Kd.R_reads' HO165.out).2.2 | (with_reducible refine Kd.C_alloc ?_ _) | (with_reducible refine Kd.C_drewN ?_ _) | (with_reducible refine Kd.C_drew ?_))); (case side2 => exact (Kd.R_reads' HO165.out).2.1); rintro e w' ⟨rfl, ⟨nd, rfl⟩⟩; refine ⟨_, rfl, ?_⟩; have hcz11_0 : w9.cell? ⟨gb162, 0, none⟩ = some (.int .i64 a0_0) := (blk_cell BK162.out 0).trans rfl; have hcz11_1 : w9.cell? ⟨gb162, 1, none⟩ = some (.string a0_1) := (blk_cell BK162.out 1).trans rfl; have hcz11_2 : w9.cell? ⟨gb162, 2, none⟩ = some (.slice A0_2 l0_2.length c0_2) := (blk_cell BK162.out 2).trans rfl; have hcz11_3 : w9.cell? ⟨gb162, 3, none⟩ = some (.string a0_3) := (blk_cell BK162.out 3).trans rfl; have hcz11_4 : w9.cell? ⟨gb162, 4, none⟩ = some (.string a0_4) := (blk_cell BK162.out 4).trans rfl; have hcz11_5 : w9.cell? ⟨gb162, 5, none⟩ = some (.string a0_5) := (blk_cell BK162.out 5).trans rfl; have hcz11_6 : w9.cell? ⟨gb162, 6, none⟩ = some (.string a0_6) := (blk_cell BK162.out 6).trans rfl; have hfz11_0 := blk_frozen BK162.out 0; have hfz11_1 := blk_frozen BK162.out 1; have hfz11_2 := blk_frozen BK162.out 2; have hfz11_3 := blk_frozen BK162.out 3; have hfz11_4 := blk_frozen BK162.out 4; have hfz11_5 := blk_frozen BK162.out 5; have hfz11_6 := blk_frozen BK162.out 6) | ((with_reducible refine gate_callee (f := 28) rfl ?_); refine goesL_ (some 12) rfl rfl Tryd.func28 (by kernel_rfl) rfl #[.agg #[.int .i64 a0_0, .string a0_1, .slice A0_2 l0_2.length c0_2, .string a0_3, .string a0_4, .string a0_5, .string a0_6]] rfl (by (try simp only [List.map_toArray, List.map_cons, List.map_nil]); first | done | rfl | (simp only [List.length_drop, List.length_take]; rfl) | exact congrArg (fun z => #[Value.int .i64 z]) (w64 (by omega) (by omega)).symm) ?_; (with_reducible refine (record_Bare.calls a0_0 a0_1 _ _ l0_2 a0_3 a0_4 a0_5 a0_6 true _ ?side1 ?side2 A6.out).mono ?_); (case side1 => repeat (first | exact (Kd.C_below HR0_2.out (by repeat (first | (with_reducible first | exact HB.out | apply below_alloc | apply pw_below_drewN | apply below_drew1 | refine below_set ?_ GE162.out) | exact HB.out))) | (with_reducible refine Kd.C_alloc ?_ _) | (with_reducible refine Kd.C_drewN ?_ _) | (with_reducible refine Kd.C_drew ?_))); (case side2 => exact HC0_2.out); rintro e w12 ⟨rfl, hb⟩; refine ⟨_, rfl, ?_⟩; have n0_ := Aside0.mk (Kd.R_below (by (with_reducible repeat (first | apply Kd.R_alloc | apply Kd.R_drewN | apply Kd.R_drew)); exact HO165.out) hb); have n1_ := Aside0.mk (blk_below (g := gb162) (o := .cells #[.int .i64 a0_0, .string a0_1, .slice A0_2 l0_2.length c0_2, .string a0_3, .string a0_4, .string a0_5, .string a0_6] 26 (0, 0)) (by (with_reducible repeat (first | refine blk_drewN ?_ _ | refine blk_drew ?_ | refine blk_alloc ?_ _)); exact BK162.out) hb); have n2_ := Aside0.mk (below_step (by repeat (first | (with_reducible first | exact HB.out | apply below_alloc | apply pw_below_drewN | apply below_drew1 | refine below_set ?_ GE162.out) | exact HB.out)) hb); clear HO165; clear BK162; clear HB; have HO165 := n0_; have BK162 := n1_; have HB := n2_; clear n0_ n1_ n2_; (try clear hb); (try clear hb2); (try clear hk); (try clear hi)))
      go_ret
      exact ⟨by first | rfl | (simp [errW_none, errW_some] <;> rfl) | (simp [*, errW_none, errW_some] <;> rfl), by repeat (first | (with_reducible first | exact HB.out | apply below_alloc | apply pw_below_drewN | apply below_drew1 | refine below_set ?_ GE162.out) | exact HB.out)⟩
    · replace c7 := Bool.eq_false_iff.mpr c7
      subst c7
      have H1 : ((usage_Of.f a0_3 a0_4 a0_5 a0_6).bind fun t168 => ((slices_Contains_string_string.f k t168 a1).bind fun t171 => (if t171 = true then (some 0) else (some 14)))) = some r := by rw [if_neg (show ¬ (false = true) by decide)] at H; exact H
      clear H
      have H := H1
      clear H1
      replace H := Option.bind_eq_some_iff.mp H
      obtain ⟨t168, A130, H⟩ := H
      replace H : ((slices_Contains_string_string.f k t168 a1).bind fun t171 => (if t171 = true then (some 0) else (some 14))) = some r := H
      have A13 := Aside0.mk A130
      clear A130
      replace H := Option.bind_eq_some_iff.mp H
      obtain ⟨t171, A140, H⟩ := H
      replace H : (if t171 = true then (some 0) else (some 14)) = some r := H
      have A14 := Aside0.mk A140
      clear A140
      by_cases c15 : t171 = true
      · subst c15
        have H1 : (some 0) = some r := by rw [if_pos rfl] at H; exact H
        clear H
        have H := H1
        clear H1
        obtain rfl := Option.some.inj H
        go_enter Tryd.func12, Tryd.ntmps12
        go_wp2_with (first | ((with_reducible refine gate_dst (N := 2) rfl ?_); refine box_event ?hg (N := 2) ?hd (cs := #[.int .i64 a0_0, .string a0_1, .slice A0_2 l0_2.length c0_2, .string a0_3, .string a0_4, .string a0_5, .string a0_6]) (t := 26) ?hr ?_; (case hd => rfl); (case hg => rfl); (case hr => first | (go_simp; done) | (go_simp; rfl)); intro gb162 hg w16 hbox hb; have n0_ := Aside0.mk (below_step (by repeat (first | (with_reducible first | exact HB.out | apply below_alloc | apply pw_below_drewN | apply below_drew1) | exact HB.out)) hb); have n1_ := Aside0.mk (hbox); have n2_ := Aside0.mk ((by rw [hg]; exact (below_size (by repeat (first | (with_reducible first | exact HB.out | apply below_alloc | apply pw_below_drewN | apply below_drew1) | exact HB.out))) : w.heap.size ≤ gb162)); have n3_ := Aside0.mk ((by rw [hg]; exact (below_size (by repeat (first | (with_reducible first | exact HB.out | apply below_alloc | apply pw_below_drewN | apply below_drew1) | exact HB.out))) : w.heap.size ≤ gb162)); clear HB; have HB := n0_; have BK162 := n1_; have GW162 := n2_; have GE162 := n3_; clear n0_ n1_ n2_ n3_; clear hb hbox hg) | ((with_reducible refine gate_callee (f := 10) rfl ?_); refine goesL_ (some 6) rfl rfl Tryd.func10 (by kernel_rfl) rfl #[] rfl (by (try simp only [List.map_toArray, List.map_cons, List.map_nil]); first | done | rfl | (simp only [List.length_drop, List.length_take]; rfl) | exact congrArg (fun z => #[Value.int .i64 z]) (w64 (by omega) (by omega)).symm) ?_; (with_reducible refine (usage_Ops.calls  t163 _ ?tb_ A3.out).mono ?_); (case tb_ => exact ⟨TB.below HT_.out (by repeat (first | (with_reducible first | exact HB.out | apply below_alloc | apply pw_below_drewN | apply below_drew1 | refine below_set ?_ GE162.out) | exact HB.out))⟩); rintro e w17 ⟨v164, rfl, ho0, hb⟩; refine ⟨_, rfl, ?_⟩; have n0_ := Aside0.mk (Kd.R_lower ho0 (below_size (by repeat (first | (with_reducible first | exact HB.out | apply below_alloc | apply pw_below_drewN | apply below_drew1 | refine below_set ?_ GE162.out) | exact HB.out)))); have n1_ := Aside0.mk (blk_below (g := gb162) (o := .cells #[.int .i64 a0_0, .string a0_1, .slice A0_2 l0_2.length c0_2, .string a0_3, .string a0_4, .string a0_5, .string a0_6] 26 (0, 0)) (by (with_reducible repeat (first | refine blk_drewN ?_ _ | refine blk_drew ?_ | refine blk_alloc ?_ _)); exact BK162.out) hb); have n2_ := Aside0.mk (below_step (by repeat (first | (with_reducible first | exact HB.out | apply below_alloc | apply pw_below_drewN | apply below_drew1 | refine below_set ?_ GE162.out) | exact HB.out)) hb); clear BK162; clear HB; have HO165 := n0_; have BK162 := n1_; have HB := n2_; clear n0_ n1_ n2_; (try clear hb); (try clear hb2); (try clear hk); (try clear hi); (try clear ho0); obtain ⟨Ao18, co18, eo18⟩ := Kd.R_slice HO165.out; subst eo18) | ((with_reducible refine gate_callee (f := 18) rfl ?_); refine goesL_ (some 8) rfl rfl Tryd.func18 (by kernel_rfl) rfl #[.slice Ao18 t163.length co18, .string a1] rfl (by (try simp only [List.map_toArray, List.map_cons, List.map_nil]); first | done | rfl | (simp only [List.length_drop, List.length_take]; rfl) | exact congrArg (fun z => #[Value.int .i64 z]) (w64 (by omega) (by omega)).symm) ?_; (with_reducible refine (slices_Contains_string_string.calls k _ _ t163 a1 true _ ?side1 ?side2 A4.out).mono ?_); (case side1 => repeat (first | exact (Kd.R_reads' HO165.out).2.2 | (with_reducible refine Kd.C_alloc ?_ _) | (with_reducible refine Kd.C_drewN ?_ _) | (with_reducible refine Kd.C_drew ?_))); (case side2 => exact (Kd.R_reads' HO165.out).2.1); rintro e w' ⟨rfl, ⟨nd, rfl⟩⟩; refine ⟨_, rfl, ?_⟩; have hcz19_0 : w17.cell? ⟨gb162, 0, none⟩ = some (.int .i64 a0_0) := (blk_cell BK162.out 0).trans rfl; have hcz19_1 : w17.cell? ⟨gb162, 1, none⟩ = some (.string a0_1) := (blk_cell BK162.out 1).trans rfl; have hcz19_2 : w17.cell? ⟨gb162, 2, none⟩ = some (.slice A0_2 l0_2.length c0_2) := (blk_cell BK162.out 2).trans rfl; have hcz19_3 : w17.cell? ⟨gb162, 3, none⟩ = some (.string a0_3) := (blk_cell BK162.out 3).trans rfl; have hcz19_4 : w17.cell? ⟨gb162, 4, none⟩ = some (.string a0_4) := (blk_cell BK162.out 4).trans rfl; have hcz19_5 : w17.cell? ⟨gb162, 5, none⟩ = some (.string a0_5) := (blk_cell BK162.out 5).trans rfl; have hcz19_6 : w17.cell? ⟨gb162, 6, none⟩ = some (.string a0_6) := (blk_cell BK162.out 6).trans rfl; have hfz19_0 := blk_frozen BK162.out 0; have hfz19_1 := blk_frozen BK162.out 1; have hfz19_2 := blk_frozen BK162.out 2; have hfz19_3 := blk_frozen BK162.out 3; have hfz19_4 := blk_frozen BK162.out 4; have hfz19_5 := blk_frozen BK162.out 5; have hfz19_6 := blk_frozen BK162.out 6) | ((with_reducible refine gate_callee (f := 28) rfl ?_); refine goesL_ (some 12) rfl rfl Tryd.func28 (by kernel_rfl) rfl #[.agg #[.int .i64 a0_0, .string a0_1, .slice A0_2 l0_2.length c0_2, .string a0_3, .string a0_4, .string a0_5, .string a0_6]] rfl (by (try simp only [List.map_toArray, List.map_cons, List.map_nil]); first | done | rfl | (simp only [List.length_drop, List.length_take]; rfl) | exact congrArg (fun z => #[Value.int .i64 z]) (w64 (by omega) (by omega)).symm) ?_; (with_reducible refine (record_Bare.calls a0_0 a0_1 _ _ l0_2 a0_3 a0_4 a0_5 a0_6 false _ ?side1 ?side2 A6.out).mono ?_); (case side1 => repeat (first | exact (Kd.C_below HR0_2.out (by repeat (first | (with_reducible first | exact HB.out | apply below_alloc | apply pw_below_drewN | apply below_drew1 | refine below_set ?_ GE162.out) | exact HB.out))) | (with_reducible refine Kd.C_alloc ?_ _) | (with_reducible refine Kd.C_drewN ?_ _) | (with_reducible refine Kd.C_drew ?_))); (case side2 => exact HC0_2.out); rintro e w20 ⟨rfl, hb⟩; refine ⟨_, rfl, ?_⟩; have n0_ := Aside0.mk (Kd.R_below (by (with_reducible repeat (first | apply Kd.R_alloc | apply Kd.R_drewN | apply Kd.R_drew)); exact HO165.out) hb); have n1_ := Aside0.mk (blk_below (g := gb162) (o := .cells #[.int .i64 a0_0, .string a0_1, .slice A0_2 l0_2.length c0_2, .string a0_3, .string a0_4, .string a0_5, .string a0_6] 26 (0, 0)) (by (with_reducible repeat (first | refine blk_drewN ?_ _ | refine blk_drew ?_ | refine blk_alloc ?_ _)); exact BK162.out) hb); have n2_ := Aside0.mk (below_step (by repeat (first | (with_reducible first | exact HB.out | apply below_alloc | apply pw_below_drewN | apply below_drew1 | refine below_set ?_ GE162.out) | exact HB.out)) hb); clear HO165; clear BK162; clear HB; have HO165 := n0_; have BK162 := n1_; have HB := n2_; clear n0_ n1_ n2_; (try clear hb); (try clear hb2); (try clear hk); (try clear hi); have hcz21_0 : w20.cell? ⟨gb162, 0, none⟩ = some (.int .i64 a0_0) := (blk_cell BK162.out 0).trans rfl; have hcz21_1 : w20.cell? ⟨gb162, 1, none⟩ = some (.string a0_1) := (blk_cell BK162.out 1).trans rfl; have hcz21_2 : w20.cell? ⟨gb162, 2, none⟩ = some (.slice A0_2 l0_2.length c0_2) := (blk_cell BK162.out 2).trans rfl; have hcz21_3 : w20.cell? ⟨gb162, 3, none⟩ = some (.string a0_3) := (blk_cell BK162.out 3).trans rfl; have hcz21_4 : w20.cell? ⟨gb162, 4, none⟩ = some (.string a0_4) := (blk_cell BK162.out 4).trans rfl; have hcz21_5 : w20.cell? ⟨gb162, 5, none⟩ = some (.string a0_5) := (blk_cell BK162.out 5).trans rfl; have hcz21_6 : w20.cell? ⟨gb162, 6, none⟩ = some (.string a0_6) := (blk_cell BK162.out 6).trans rfl; have hfz21_0 := blk_frozen BK162.out 0; have hfz21_1 := blk_frozen BK162.out 1; have hfz21_2 := blk_frozen BK162.out 2; have hfz21_3 := blk_frozen BK162.out 3; have hfz21_4 := blk_frozen BK162.out 4; have hfz21_5 := blk_frozen BK162.out 5; have hfz21_6 := blk_frozen BK162.out 6) | (go_at_call 8; (with_reducible refine (usage_Of.calls a0_3 a0_4 a0_5 a0_6 t168 _ ?tb_ A13.out).mono ?_); (case tb_ => exact ⟨TB.below HT_.out (by repeat (first | (with_reducible first | exact HB.out | apply below_alloc | apply pw_below_drewN | apply below_drew1 | refine below_set ?_ GE162.out) | exact HB.out))⟩); rintro e w22 ⟨v169, rfl, ho0, hb⟩; have n0_ := Aside0.mk (Kd.R_elder' (by (with_reducible repeat (first | apply Kd.R_alloc | apply Kd.R_drewN | apply Kd.R_drew)); exact HO165.out) (Kd.R_base ho0) hb); have n1_ := Aside0.mk (Kd.R_lower (Kd.R_new' ho0 (Kd.R_lt (by (with_reducible repeat (first | apply Kd.R_alloc | apply Kd.R_drewN | apply Kd.R_drew)); exact HO165.out))) (below_size (by repeat (first | (with_reducible first | exact HB.out | apply below_alloc | apply pw_below_drewN | apply below_drew1 | refine below_set ?_ GE162.out) | exact HB.out)))); have n2_ := Aside0.mk (blk_below (g := gb162) (o := .cells #[.int .i64 a0_0, .string a0_1, .slice A0_2 l0_2.length c0_2, .string a0_3, .string a0_4, .string a0_5, .string a0_6] 26 (0, 0)) (by (with_reducible repeat (first | refine blk_drewN ?_ _ | refine blk_drew ?_ | refine blk_alloc ?_ _)); exact BK162.out) hb); have n3_ := Aside0.mk (below_step (by repeat (first | (with_reducible first | exact HB.out | apply below_alloc | apply pw_below_drewN | apply below_drew1 | refine below_set ?_ GE162.out) | exact HB.out)) hb); clear HO165; clear BK162; clear HB; have HO165 := n0_; have HO170 := n1_; have BK162 := n2_; have HB := n3_; clear n0_ n1_ n2_ n3_; (try clear hb); (try clear hb2); (try clear hk); (try clear hi); (try clear ho0); obtain ⟨Ao23, co23, eo23⟩ := Kd.R_slice HO170.out; subst eo23) | (go_at_call 18; (with_reducible refine (slices_Contains_string_string.calls k _ _ t168 a1 true _ ?side1 ?side2 A14.out).mono ?_); (case side1 => repeat (first | exact (Kd.R_reads' HO170.out).2.2 | (with_reducible refine Kd.C_alloc ?_ _) | (with_reducible refine Kd.C_drewN ?_ _) | (with_reducible refine Kd.C_drew ?_))); (case side2 => exact (Kd.R_reads' HO170.out).2.1); rintro e w' ⟨rfl, ⟨nd, rfl⟩⟩))
        go_ret
        exact ⟨by first | rfl | (simp [errW_none, errW_some] <;> rfl) | (simp [*, errW_none, errW_some] <;> rfl), by repeat (first | (with_reducible first | exact HB.out | apply below_alloc | apply pw_below_drewN | apply below_drew1 | refine below_set ?_ GE162.out) | exact HB.out)⟩
      · replace c15 := Bool.eq_false_iff.mpr c15
        subst c15
        have H1 : (some 14) = some r := by rw [if_neg (show ¬ (false = true) by decide)] at H; exact H
        clear H
        have H := H1
        clear H1
        obtain rfl := Option.some.inj H
        go_enter Tryd.func12, Tryd.ntmps12
        go_wp2_with (first | ((with_reducible refine gate_dst (N := 2) rfl ?_); refine box_event ?hg (N := 2) ?hd (cs := #[.int .i64 a0_0, .string a0_1, .slice A0_2 l0_2.length c0_2, .string a0_3, .string a0_4, .string a0_5, .string a0_6]) (t := 26) ?hr ?_; (case hd => rfl); (case hg => rfl); (case hr => first | (go_simp; done) | (go_simp; rfl)); intro gb162 hg w24 hbox hb; have n0_ := Aside0.mk (below_step (by repeat (first | (with_reducible first | exact HB.out | apply below_alloc | apply pw_below_drewN | apply below_drew1) | exact HB.out)) hb); have n1_ := Aside0.mk (hbox); have n2_ := Aside0.mk ((by rw [hg]; exact (below_size (by repeat (first | (with_reducible first | exact HB.out | apply below_alloc | apply pw_below_drewN | apply below_drew1) | exact HB.out))) : w.heap.size ≤ gb162)); have n3_ := Aside0.mk ((by rw [hg]; exact (below_size (by repeat (first | (with_reducible first | exact HB.out | apply below_alloc | apply pw_below_drewN | apply below_drew1) | exact HB.out))) : w.heap.size ≤ gb162)); clear HB; have HB := n0_; have BK162 := n1_; have GW162 := n2_; have GE162 := n3_; clear n0_ n1_ n2_ n3_; clear hb hbox hg) | ((with_reducible refine gate_callee (f := 10) rfl ?_); refine goesL_ (some 6) rfl rfl Tryd.func10 (by kernel_rfl) rfl #[] rfl (by (try simp only [List.map_toArray, List.map_cons, List.map_nil]); first | done | rfl | (simp only [List.length_drop, List.length_take]; rfl) | exact congrArg (fun z => #[Value.int .i64 z]) (w64 (by omega) (by omega)).symm) ?_; (with_reducible refine (usage_Ops.calls  t163 _ ?tb_ A3.out).mono ?_); (case tb_ => exact ⟨TB.below HT_.out (by repeat (first | (with_reducible first | exact HB.out | apply below_alloc | apply pw_below_drewN | apply below_drew1 | refine below_set ?_ GE162.out) | exact HB.out))⟩); rintro e w25 ⟨v164, rfl, ho0, hb⟩; refine ⟨_, rfl, ?_⟩; have n0_ := Aside0.mk (Kd.R_lower ho0 (below_size (by repeat (first | (with_reducible first | exact HB.out | apply below_alloc | apply pw_below_drewN | apply below_drew1 | refine below_set ?_ GE162.out) | exact HB.out)))); have n1_ := Aside0.mk (blk_below (g := gb162) (o := .cells #[.int .i64 a0_0, .string a0_1, .slice A0_2 l0_2.length c0_2, .string a0_3, .string a0_4, .string a0_5, .string a0_6] 26 (0, 0)) (by (with_reducible repeat (first | refine blk_drewN ?_ _ | refine blk_drew ?_ | refine blk_alloc ?_ _)); exact BK162.out) hb); have n2_ := Aside0.mk (below_step (by repeat (first | (with_reducible first | exact HB.out | apply below_alloc | apply pw_below_drewN | apply below_drew1 | refine below_set ?_ GE162.out) | exact HB.out)) hb); clear BK162; clear HB; have HO165 := n0_; have BK162 := n1_; have HB := n2_; clear n0_ n1_ n2_; (try clear hb); (try clear hb2); (try clear hk); (try clear hi); (try clear ho0); obtain ⟨Ao26, co26, eo26⟩ := Kd.R_slice HO165.out; subst eo26) | ((with_reducible refine gate_callee (f := 18) rfl ?_); refine goesL_ (some 8) rfl rfl Tryd.func18 (by kernel_rfl) rfl #[.slice Ao26 t163.length co26, .string a1] rfl (by (try simp only [List.map_toArray, List.map_cons, List.map_nil]); first | done | rfl | (simp only [List.length_drop, List.length_take]; rfl) | exact congrArg (fun z => #[Value.int .i64 z]) (w64 (by omega) (by omega)).symm) ?_; (with_reducible refine (slices_Contains_string_string.calls k _ _ t163 a1 true _ ?side1 ?side2 A4.out).mono ?_); (case side1 => repeat (first | exact (Kd.R_reads' HO165.out).2.2 | (with_reducible refine Kd.C_alloc ?_ _) | (with_reducible refine Kd.C_drewN ?_ _) | (with_reducible refine Kd.C_drew ?_))); (case side2 => exact (Kd.R_reads' HO165.out).2.1); rintro e w' ⟨rfl, ⟨nd, rfl⟩⟩; refine ⟨_, rfl, ?_⟩; have hcz27_0 : w25.cell? ⟨gb162, 0, none⟩ = some (.int .i64 a0_0) := (blk_cell BK162.out 0).trans rfl; have hcz27_1 : w25.cell? ⟨gb162, 1, none⟩ = some (.string a0_1) := (blk_cell BK162.out 1).trans rfl; have hcz27_2 : w25.cell? ⟨gb162, 2, none⟩ = some (.slice A0_2 l0_2.length c0_2) := (blk_cell BK162.out 2).trans rfl; have hcz27_3 : w25.cell? ⟨gb162, 3, none⟩ = some (.string a0_3) := (blk_cell BK162.out 3).trans rfl; have hcz27_4 : w25.cell? ⟨gb162, 4, none⟩ = some (.string a0_4) := (blk_cell BK162.out 4).trans rfl; have hcz27_5 : w25.cell? ⟨gb162, 5, none⟩ = some (.string a0_5) := (blk_cell BK162.out 5).trans rfl; have hcz27_6 : w25.cell? ⟨gb162, 6, none⟩ = some (.string a0_6) := (blk_cell BK162.out 6).trans rfl; have hfz27_0 := blk_frozen BK162.out 0; have hfz27_1 := blk_frozen BK162.out 1; have hfz27_2 := blk_frozen BK162.out 2; have hfz27_3 := blk_frozen BK162.out 3; have hfz27_4 := blk_frozen BK162.out 4; have hfz27_5 := blk_frozen BK162.out 5; have hfz27_6 := blk_frozen BK162.out 6) | ((with_reducible refine gate_callee (f := 28) rfl ?_); refine goesL_ (some 12) rfl rfl Tryd.func28 (by kernel_rfl) rfl #[.agg #[.int .i64 a0_0, .string a0_1, .slice A0_2 l0_2.length c0_2, .string a0_3, .string a0_4, .string a0_5, .string a0_6]] rfl (by (try simp only [List.map_toArray, List.map_cons, List.map_nil]); first | done | rfl | (simp only [List.length_drop, List.length_take]; rfl) | exact congrArg (fun z => #[Value.int .i64 z]) (w64 (by omega) (by omega)).symm) ?_; (with_reducible refine (record_Bare.calls a0_0 a0_1 _ _ l0_2 a0_3 a0_4 a0_5 a0_6 false _ ?side1 ?side2 A6.out).mono ?_); (case side1 => repeat (first | exact (Kd.C_below HR0_2.out (by repeat (first | (with_reducible first | exact HB.out | apply below_alloc | apply pw_below_drewN | apply below_drew1 | refine below_set ?_ GE162.out) | exact HB.out))) | (with_reducible refine Kd.C_alloc ?_ _) | (with_reducible refine Kd.C_drewN ?_ _) | (with_reducible refine Kd.C_drew ?_))); (case side2 => exact HC0_2.out); rintro e w28 ⟨rfl, hb⟩; refine ⟨_, rfl, ?_⟩; have n0_ := Aside0.mk (Kd.R_below (by (with_reducible repeat (first | apply Kd.R_alloc | apply Kd.R_drewN | apply Kd.R_drew)); exact HO165.out) hb); have n1_ := Aside0.mk (blk_below (g := gb162) (o := .cells #[.int .i64 a0_0, .string a0_1, .slice A0_2 l0_2.length c0_2, .string a0_3, .string a0_4, .string a0_5, .string a0_6] 26 (0, 0)) (by (with_reducible repeat (first | refine blk_drewN ?_ _ | refine blk_drew ?_ | refine blk_alloc ?_ _)); exact BK162.out) hb); have n2_ := Aside0.mk (below_step (by repeat (first | (with_reducible first | exact HB.out | apply below_alloc | apply pw_below_drewN | apply below_drew1 | refine below_set ?_ GE162.out) | exact HB.out)) hb); clear HO165; clear BK162; clear HB; have HO165 := n0_; have BK162 := n1_; have HB := n2_; clear n0_ n1_ n2_; (try clear hb); (try clear hb2); (try clear hk); (try clear hi); have hcz29_0 : w28.cell? ⟨gb162, 0, none⟩ = some (.int .i64 a0_0) := (blk_cell BK162.out 0).trans rfl; have hcz29_1 : w28.cell? ⟨gb162, 1, none⟩ = some (.string a0_1) := (blk_cell BK162.out 1).trans rfl; have hcz29_2 : w28.cell? ⟨gb162, 2, none⟩ = some (.slice A0_2 l0_2.length c0_2) := (blk_cell BK162.out 2).trans rfl; have hcz29_3 : w28.cell? ⟨gb162, 3, none⟩ = some (.string a0_3) := (blk_cell BK162.out 3).trans rfl; have hcz29_4 : w28.cell? ⟨gb162, 4, none⟩ = some (.string a0_4) := (blk_cell BK162.out 4).trans rfl; have hcz29_5 : w28.cell? ⟨gb162, 5, none⟩ = some (.string a0_5) := (blk_cell BK162.out 5).trans rfl; have hcz29_6 : w28.cell? ⟨gb162, 6, none⟩ = some (.string a0_6) := (blk_cell BK162.out 6).trans rfl; have hfz29_0 := blk_frozen BK162.out 0; have hfz29_1 := blk_frozen BK162.out 1; have hfz29_2 := blk_frozen BK162.out 2; have hfz29_3 := blk_frozen BK162.out 3; have hfz29_4 := blk_frozen BK162.out 4; have hfz29_5 := blk_frozen BK162.out 5; have hfz29_6 := blk_frozen BK162.out 6) | (go_at_call 8; (with_reducible refine (usage_Of.calls a0_3 a0_4 a0_5 a0_6 t168 _ ?tb_ A13.out).mono ?_); (case tb_ => exact ⟨TB.below HT_.out (by repeat (first | (with_reducible first | exact HB.out | apply below_alloc | apply pw_below_drewN | apply below_drew1 | refine below_set ?_ GE162.out) | exact HB.out))⟩); rintro e w30 ⟨v169, rfl, ho0, hb⟩; have n0_ := Aside0.mk (Kd.R_elder' (by (with_reducible repeat (first | apply Kd.R_alloc | apply Kd.R_drewN | apply Kd.R_drew)); exact HO165.out) (Kd.R_base ho0) hb); have n1_ := Aside0.mk (Kd.R_lower (Kd.R_new' ho0 (Kd.R_lt (by (with_reducible repeat (first | apply Kd.R_alloc | apply Kd.R_drewN | apply Kd.R_drew)); exact HO165.out))) (below_size (by repeat (first | (with_reducible first | exact HB.out | apply below_alloc | apply pw_below_drewN | apply below_drew1 | refine below_set ?_ GE162.out) | exact HB.out)))); have n2_ := Aside0.mk (blk_below (g := gb162) (o := .cells #[.int .i64 a0_0, .string a0_1, .slice A0_2 l0_2.length c0_2, .string a0_3, .string a0_4, .string a0_5, .string a0_6] 26 (0, 0)) (by (with_reducible repeat (first | refine blk_drewN ?_ _ | refine blk_drew ?_ | refine blk_alloc ?_ _)); exact BK162.out) hb); have n3_ := Aside0.mk (below_step (by repeat (first | (with_reducible first | exact HB.out | apply below_alloc | apply pw_below_drewN | apply below_drew1 | refine below_set ?_ GE162.out) | exact HB.out)) hb); clear HO165; clear BK162; clear HB; have HO165 := n0_; have HO170 := n1_; have BK162 := n2_; have HB := n3_; clear n0_ n1_ n2_ n3_; (try clear hb); (try clear hb2); (try clear hk); (try clear hi); (try clear ho0); obtain ⟨Ao31, co31, eo31⟩ := Kd.R_slice HO170.out; subst eo31) | (go_at_call 18; (with_reducible refine (slices_Contains_string_string.calls k _ _ t168 a1 false _ ?side1 ?side2 A14.out).mono ?_); (case side1 => repeat (first | exact (Kd.R_reads' HO170.out).2.2 | (with_reducible refine Kd.C_alloc ?_ _) | (with_reducible refine Kd.C_drewN ?_ _) | (with_reducible refine Kd.C_drew ?_))); (case side2 => exact (Kd.R_reads' HO170.out).2.1); rintro e w' ⟨rfl, ⟨nd, rfl⟩⟩))
        go_ret
        exact ⟨by first | rfl | (simp [errW_none, errW_some] <;> rfl) | (simp [*, errW_none, errW_some] <;> rfl), by repeat (first | (with_reducible first | exact HB.out | apply below_alloc | apply pw_below_drewN | apply below_drew1 | refine below_set ?_ GE162.out) | exact HB.out)⟩
  · replace c5 := Bool.eq_false_iff.mpr c5
    subst c5
    have H1 : (some 1) = some r := by rw [if_neg (show ¬ (false = true) by decide)] at H; exact H
    clear H
    have H := H1
    clear H1
    obtain rfl := Option.some.inj H
    go_enter Tryd.func12, Tryd.ntmps12
    go_wp2_with (first | ((with_reducible refine gate_dst (N := 2) rfl ?_); refine box_event ?hg (N := 2) ?hd (cs := #[.int .i64 a0_0, .string a0_1, .slice A0_2 l0_2.length c0_2, .string a0_3, .string a0_4, .string a0_5, .string a0_6]) (t := 26) ?hr ?_; (case hd => rfl); (case hg => rfl); (case hr => first | (go_simp; done) | (go_simp; rfl)); intro gb162 hg w32 hbox hb; have n0_ := Aside0.mk (below_step (by repeat (first | (with_reducible first | exact HB.out | apply below_alloc | apply pw_below_drewN | apply below_drew1) | exact HB.out)) hb); have n1_ := Aside0.mk (hbox); have n2_ := Aside0.mk ((by rw [hg]; exact (below_size (by repeat (first | (with_reducible first | exact HB.out | apply below_alloc | apply pw_below_drewN | apply below_drew1) | exact HB.out))) : w.heap.size ≤ gb162)); have n3_ := Aside0.mk ((by rw [hg]; exact (below_size (by repeat (first | (with_reducible first | exact HB.out | apply below_alloc | apply pw_below_drewN | apply below_drew1) | exact HB.out))) : w.heap.size ≤ gb162)); clear HB; have HB := n0_; have BK162 := n1_; have GW162 := n2_; have GE162 := n3_; clear n0_ n1_ n2_ n3_; clear hb hbox hg) | ((with_reducible refine gate_callee (f := 10) rfl ?_); refine goesL_ (some 6) rfl rfl Tryd.func10 (by kernel_rfl) rfl #[] rfl (by (try simp only [List.map_toArray, List.map_cons, List.map_nil]); first | done | rfl | (simp only [List.length_drop, List.length_take]; rfl) | exact congrArg (fun z => #[Value.int .i64 z]) (w64 (by omega) (by omega)).symm) ?_; (with_reducible refine (usage_Ops.calls  t163 _ ?tb_ A3.out).mono ?_); (case tb_ => exact ⟨TB.below HT_.out (by repeat (first | (with_reducible first | exact HB.out | apply below_alloc | apply pw_below_drewN | apply below_drew1 | refine below_set ?_ GE162.out) | exact HB.out))⟩); rintro e w33 ⟨v164, rfl, ho0, hb⟩; refine ⟨_, rfl, ?_⟩; have n0_ := Aside0.mk (Kd.R_lower ho0 (below_size (by repeat (first | (with_reducible first | exact HB.out | apply below_alloc | apply pw_below_drewN | apply below_drew1 | refine below_set ?_ GE162.out) | exact HB.out)))); have n1_ := Aside0.mk (blk_below (g := gb162) (o := .cells #[.int .i64 a0_0, .string a0_1, .slice A0_2 l0_2.length c0_2, .string a0_3, .string a0_4, .string a0_5, .string a0_6] 26 (0, 0)) (by (with_reducible repeat (first | refine blk_drewN ?_ _ | refine blk_drew ?_ | refine blk_alloc ?_ _)); exact BK162.out) hb); have n2_ := Aside0.mk (below_step (by repeat (first | (with_reducible first | exact HB.out | apply below_alloc | apply pw_below_drewN | apply below_drew1 | refine below_set ?_ GE162.out) | exact HB.out)) hb); clear BK162; clear HB; have HO165 := n0_; have BK162 := n1_; have HB := n2_; clear n0_ n1_ n2_; (try clear hb); (try clear hb2); (try clear hk); (try clear hi); (try clear ho0); obtain ⟨Ao34, co34, eo34⟩ := Kd.R_slice HO165.out; subst eo34) | ((with_reducible refine gate_callee (f := 18) rfl ?_); refine goesL_ (some 8) rfl rfl Tryd.func18 (by kernel_rfl) rfl #[.slice Ao34 t163.length co34, .string a1] rfl (by (try simp only [List.map_toArray, List.map_cons, List.map_nil]); first | done | rfl | (simp only [List.length_drop, List.length_take]; rfl) | exact congrArg (fun z => #[Value.int .i64 z]) (w64 (by omega) (by omega)).symm) ?_; (with_reducible refine (slices_Contains_string_string.calls k _ _ t163 a1 false _ ?side1 ?side2 A4.out).mono ?_); (case side1 => repeat (first | exact (Kd.R_reads' HO165.out).2.2 | (with_reducible refine Kd.C_alloc ?_ _) | (with_reducible refine Kd.C_drewN ?_ _) | (with_reducible refine Kd.C_drew ?_))); (case side2 => exact (Kd.R_reads' HO165.out).2.1); rintro e w' ⟨rfl, ⟨nd, rfl⟩⟩; refine ⟨_, rfl, ?_⟩))
    go_ret
    exact ⟨by first | rfl | (simp [errW_none, errW_some] <;> rfl) | (simp [*, errW_none, errW_some] <;> rfl), by repeat (first | (with_reducible first | exact HB.out | apply below_alloc | apply pw_below_drewN | apply below_drew1 | refine below_set ?_ GE162.out) | exact HB.out)⟩

end Go.Proofs.YtjoageaencpfaaaDoor.PUsageTells
