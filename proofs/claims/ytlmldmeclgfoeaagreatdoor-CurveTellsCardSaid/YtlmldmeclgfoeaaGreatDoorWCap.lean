-- laid by a program out of the translation and of templates; not trusted: Lean checks it
import Derived.Test.YtlmldmeclgfoeaaGreatDoorWMore
import Derived.Laws.CopyRow
import Derived.Laws.CopyOwn
/-! make([]T, n, m): a row with room -/
namespace Go.Proofs.YtlmldmeclgfoeaaGreatDoorW.PrintWords
set_option linter.unusedVariables false
set_option linter.unusedSimpArgs false
open Go.RowKit
namespace Kd
section
variable {P : Program} {ops : Array Oper} {rest : List Oper} {o : Oper} {a : Act} {Q : Exit → Act → World → Prop} {α : Type}
theorem R_makecap (d : Kd α) {w0 W : World} (base e : Nat) (hgd : o.guard = none) {N : Tmp} (_hd : o.dst = some N) (t : TypeId) (x y : Operand) (ho : o.op = .makeSlice t x y) (n m : Int) (hx : a.eval x = .int .i64 n) (hy : a.eval y = .int .i64 m)
    (ht : P.underlying t = some (.slice e)) (z : Value) (bytes : Nat) (hinfo : (P.info? e).map (fun i => (i.zero, i.size, i.bytes)) = some (some z, d.sz, bytes)) (hz : z.cells.size = d.sz) (hs0 : 0 < d.sz) (hb0 : 0 < bytes)
    (z0 : α) {ok okp : Nat → Prop} (hzero : d.M W base okp z0 z.cells.toList) (hok : ∀ k, okp k → ok k) (hfresh : ok W.heap.size) (h0 : 0 ≤ n) (hnm : n ≤ m) (hl : m.toNat * bytes ≤ 281474976710656) (HB : Below base w0 W) (hbase : base ≤ W.heap.size)
    (h : ∀ v1 w1, d.R e w1 base ok v1 (List.replicate n.toNat z0) → Below base w0 w1 → W.grownBy w1 none → (∃ b, v1.ownBlock = some b ∧ W.heap.size ≤ b) → wpList P ops Q rest (a.put o.dst v1) w1) : wpList P ops Q (o :: rest) a W := by
  obtain ⟨q, rfl⟩ := Int.eq_ofNat_of_zero_le h0
  obtain ⟨m, rfl⟩ := Int.eq_ofNat_of_zero_le (Int.le_trans h0 hnm)
  simp only [Int.toNat_natCast] at hl h
  obtain ⟨i0, hi, hzz⟩ := Option.map_eq_some_iff.1 hinfo
  simp only [Prod.mk.injEq] at hzz
  obtain ⟨hz0, hz1, hz2⟩ := hzz
  have hm : m ≤ 281474976710656 := Nat.le_trans (Nat.le_mul_of_pos_right _ hb0) hl
  have hr := run_make (P := P) W t e i0 z ht hi hz0 .i64 .i64 (q : Int) (m : Int) (by omega) hnm
    (by
      have h3 : ((i0.bytes * m : Nat) : Int) ≤ 281474976710656 := by rw [hz2, Nat.mul_comm]; omega
      rwa [Int.natCast_mul] at h3) (by omega)
  simp only [Int.toNat_natCast] at hr
  rw [hz1] at hr
  have hrow : d.R e (W.alloc (.cells (madeCells z.cells (m * d.sz)) e)) base ok (.slice (some ⟨W.heap.size, 0, none⟩) m m) (List.replicate m z0) := by
    refine ⟨fun k hk => ?_, (madeCells z.cells (m * d.sz)).toList, ?_, ?_⟩
    · have : W.heap.size = k := by simpa [Value.ownBlock] using hk
      subst this
      exact hfresh
    · have h2 := World.ownsRow_lit (base := base) (e := e) (size := d.sz) W (madeCells z.cells (m * d.sz)) m hbase (by simp [maxLen]; omega) (by simp [size_madeCells])
      simpa using h2
    · refine (reps_made hz hs0 hzero m).imp_ (fun p c hp => d.M_mono (fun k hk => ⟨hok k hk.1, fun he => ?_⟩) (M_below (d.M_bound hp) (below_alloc (Below.refl _ _) _)))
      have h3 : k = W.heap.size := by simpa [Value.ownBlock] using he
      have := hk.2.2.1
      omega
  have hq : q ≤ (List.replicate m z0).length := by simp; omega
  have htk := R_take hrow hq
  have hrep : (List.replicate m z0).take q = List.replicate q z0 := by
    rw [List.take_replicate]
    congr 1
    omega
  rw [hrep] at htk
  refine event_run hgd (w1 := W.alloc (.cells (madeCells z.cells (m * d.sz)) e)) (v := .slice (some ⟨W.heap.size, 0, none⟩) q m) ?_ (h _ _ htk (HB.alloc hbase _) (World.grownBy_alloc W _ none) ⟨W.heap.size, by simp [Value.ownBlock], Nat.le_refl _⟩)
  simp [execOp, ho, hx, hy, hr]
end
end Kd
/-- copy(dst, src): what dst then holds. -/
def copyOver {α : Type} (xs ys : List α) : List α := ys.take xs.length ++ xs.drop ys.length
theorem copyOver_length {α : Type} (xs ys : List α) : (copyOver xs ys).length = xs.length := by simp [copyOver]; omega
section
variable {P : Program} {ops : Array Oper} {rest : List Oper} {o : Oper} {a : Act} {Q : Exit → Act → World → Prop}
theorem own_copied {W : World} {base g n cap : Nat} {e : TypeId} {xs : List Value} (h : W.ownsRow base e 1 (.slice (some ⟨g, 0, none⟩) n cap) n xs) (ys : List Value) :
    ∃ cur, W.heap[g]? = some (.cells cur e (0, 0)) ∧ n ≤ cur.size ∧ base ≤ g ∧
      (W.setRow g (cur.toList.take 0 ++ (ys.take n) ++ cur.toList.drop (0 + (ys.take n).length)).toArray).ownsRow base e 1 (.slice (some ⟨g, 0, none⟩) n cap) n (copyOver xs ys) := by
  obtain ⟨hx, ⟨hv, _⟩ | ⟨g', cap', cur, hv, hbg, hg, hn, hm, hsz, htk⟩⟩ := h
  · cases hv
  cases hv
  simp only [Nat.mul_one] at hx hsz htk
  refine ⟨cur, hg, by omega, hbg, ?_, .inr ⟨g, cap, _, rfl, hbg, setRow_heap W g _ _ e _ hg, hn, hm, ?_, ?_⟩⟩
  · rw [copyOver_length, Nat.mul_one]; exact hx
  · simp; omega
  · subst htk
    have hl : cur.toList.length = cap := by rw [Array.length_toList]; exact hsz
    simp only [Nat.mul_one, List.take_zero, List.nil_append, Nat.zero_add]
    unfold copyOver
    have h1 : (cur.toList.take n).length = n := by rw [List.length_take]; omega
    rw [h1]
    by_cases hc : n ≤ ys.length
    · have h2 : (ys.take n).length = n := by rw [List.length_take]; omega
      rw [h2, List.take_append_of_le_length (by omega), List.take_of_length_le (by omega), List.drop_eq_nil_of_le (by omega), List.append_nil]
    · have h2 : ys.take n = ys := List.take_of_length_le (by omega)
      rw [h2, List.take_append, List.take_of_length_le (by omega), List.drop_take]
theorem print_copy_str {w0 W : World} (base : Nat) (hgd : o.guard = none) (s x : Operand) (t u e : TypeId)
    (ho : o.op = .call { callee := .builtin .copy, args := #[s, x], argTypes := #[t, u] })
    (ht : P.underlying t = some (.slice e)) (hu : P.underlying u = some .string) (hinfo : (P.info? e).map (fun i => (i.zero, i.size, i.bytes)) = some (some (.int .u8 0), 1, 1))
    (v : Value) (xs : List Int) (y : ByteArray) (hs : a.eval s = v) (hx : a.eval x = .string y)
    (HO : W.ownsRow base e 1 v xs.length (nums .u8 xs)) (HB : Below base w0 W) (hbase : base ≤ W.heap.size)
    (h : ∀ w1, w1.ownsRow base e 1 v (copyOver xs (bytesOf y)).length (nums .u8 (copyOver xs (bytesOf y))) → Below base w0 w1 → W.grownBy w1 v.ownBlock → wpList P ops Q rest (a.put o.dst (.int .i64 ((Nat.min y.size xs.length : Nat) : Int))) w1) :
    wpList P ops Q (o :: rest) a W := by
  obtain ⟨i0, hi, hzz⟩ := Option.map_eq_some_iff.1 hinfo
  simp only [Prod.mk.injEq] at hzz
  obtain ⟨hz0, hz1, hz2⟩ := hzz
  have hlen : (nums .u8 xs).length = xs.length := nums_length _ _
  have hcopy : nums .u8 (copyOver xs (bytesOf y)) = copyOver (nums .u8 xs) (nums .u8 (bytesOf y)) := by
    simp [copyOver, nums, List.map_append, List.map_take, List.map_drop]
  refine wpList_plain hgd fun K hK => ?_
  have hbl : (nums .u8 (bytesOf y)).length = y.size := by rw [nums_length, bytesOf_length]
  rcases HO.2 with ⟨hv, h0⟩ | ⟨g, cap, cur0, hv, _⟩
  · have hnil : xs = [] := List.eq_nil_of_length_eq_zero h0
    subst hnil
    subst hv
    have hrun : (Builtin.copy_ #[t, u] o.type #[.slice none 0 0, .string y]).run P W = .ok (.int .i64 0) W := by
      simp [Builtin.copy_, run_underlying ht, Builtin.lenOf, Builtin.firstCells, storeCells, sizeOf, typeInfo, hi, goInt, Result.andThen]
    unfold Oper.wp
    simp [execOp, ho, resolve, invoke, builtin, hs, hx, hrun, Result.andThen]
    refine hK _ _ ?_
    have := h W (by rw [copyOver_length, hcopy]; simpa [copyOver, nums] using HO) HB (grown_of_below (Below.refl _ _) _)
    simpa using this
  · subst hv
    obtain ⟨cur, hg, hn, hbg, hown⟩ := own_copied HO (nums .u8 (bytesOf y))
    have hmin : ((nums .u8 (bytesOf y)).take xs.length).length = Nat.min y.size xs.length := by
      rw [List.length_take, hbl]; exact Nat.min_comm _ _
    have hst := run_storeCells_at P g 0 e ((nums .u8 (bytesOf y)).take xs.length) 0 cur W hg (by rw [List.length_take]; simp; omega) (by
      intro v hv
      have := List.mem_of_mem_take hv
      simp only [nums, List.mem_map] at this
      obtain ⟨b, _, rfl⟩ := this
      rfl)
    simp only [Nat.add_zero] at hst
    have htk : List.take (Nat.min y.size xs.length) (List.map (fun b : UInt8 => Value.int IntKind.u8 (b.toNat : Int)) y.data.toList) = (nums .u8 (bytesOf y)).take xs.length := by
      rw [show nums .u8 (bytesOf y) = List.map (fun b : UInt8 => Value.int IntKind.u8 (b.toNat : Int)) y.data.toList by simp [nums, bytesOf]]
      by_cases hc : y.size ≤ xs.length
      · rw [show Nat.min y.size xs.length = y.size from Nat.min_eq_left hc, List.take_of_length_le (by rw [List.length_map, data_length]; omega), List.take_of_length_le (by rw [List.length_map, data_length]; omega)]
      · rw [show Nat.min y.size xs.length = xs.length from Nat.min_eq_right (by omega)]
    have hrun : (Builtin.copy_ #[t, u] o.type #[.slice (some ⟨g, 0, none⟩) xs.length cap, .string y]).run P W = .ok (.int .i64 ((Nat.min y.size xs.length : Nat) : Int)) (W.setRow g (cur.toList.take 0 ++ ((nums .u8 (bytesOf y)).take xs.length) ++ cur.toList.drop (0 + ((nums .u8 (bytesOf y)).take xs.length).length)).toArray) := by
      simp [Builtin.copy_, run_underlying ht, Builtin.lenOf, Builtin.firstCells, sizeOf, typeInfo, hi, hz1]
      rw [htk, hst]
      simp [Result.andThen, goInt]
    unfold Oper.wp
    simp [execOp, ho, resolve, invoke, builtin, hs, hx, hrun, Result.andThen]
    refine hK _ _ ?_
    have := h _ (by rw [copyOver_length, hcopy]; exact hown) (below_setRow HB hbg _) ⟨rfl, rfl, rfl, by simp, fun k hk hne => setRow_other W g k _ (by intro e2; subst e2; exact hne (by simp [Value.ownBlock]))⟩
    simpa using this
end
end Go.Proofs.YtlmldmeclgfoeaaGreatDoorW.PrintWords
