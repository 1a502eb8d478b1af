-- laid by a program out of the translation and of templates; not trusted: Lean checks it
import Derived.Test.YtjoageaencpfaaaDoorPUsageTellsx0
import Derived.Test.YtjoageaencpfaaaDoorPUsageTellsx1
import Derived.Laws.CopyOwn
import Derived.Lib.OwnBridge
import Derived.Shelf.SlicesE.DeleteFunc
import Derived.Test.YtjoageaencpfaaaDoorShelf
namespace Go.Proofs.YtjoageaencpfaaaDoor.PUsageTells
open Go.RowKit Go.Proofs.YtjoageaencpfaaaDoorW.PrintWords Go.Proofs.YtjoageaencpfaaaDoorW.PrintLast Go.Proofs.YtjoageaencpfaaaDoorW.PrintMore
attribute [local go_sem high] c_add c_eql c_neq
attribute [local go_sem] str_leq str_gtr str_geq max2_int min2_int max_two min_two max_three min_three max_four min_four   -- for this text's walks alone
set_option linter.unusedVariables false
set_option linter.unusedSimpArgs false

attribute [local go_sem] fld54_2
/-! ### table_of: function 33 (a text given by hand: table.tmpl) -/
-- @import Derived.Laws.CopyOwn
theorem lines_at0 (w : World) : (Instr.index 63 (.agg linesC) (.int .i64 0)).run Tryd.prog w = .ok (.agg #[.string ⟨#[66, 48]⟩, .string ⟨#[65, 84]⟩, .string ⟨#[78, 88]⟩]) w := by kernel_rfl
theorem lines_at1 (w : World) : (Instr.index 63 (.agg linesC) (.int .i64 1)).run Tryd.prog w = .ok (.agg #[.string ⟨#[68, 48]⟩, .string ⟨#[65, 84]⟩, .string ⟨#[66, 68, 69, 78]⟩]) w := by kernel_rfl
theorem lines_at2 (w : World) : (Instr.index 63 (.agg linesC) (.int .i64 2)).run Tryd.prog w = .ok (.agg #[.string ⟨#[68, 49]⟩, .string ⟨#[69]⟩, .string ⟨#[66, 68, 69, 78]⟩]) w := by kernel_rfl
theorem lines_at3 (w : World) : (Instr.index 63 (.agg linesC) (.int .i64 3)).run Tryd.prog w = .ok (.agg #[.string ⟨#[75, 48]⟩, .string ⟨#[65, 84]⟩, .string ⟨#[66, 68, 69, 78]⟩]) w := by kernel_rfl
theorem lines_at4 (w : World) : (Instr.index 63 (.agg linesC) (.int .i64 4)).run Tryd.prog w = .ok (.agg #[.string ⟨#[75, 49]⟩, .string ⟨#[65, 84]⟩, .string ⟨#[66, 68, 69, 78]⟩]) w := by kernel_rfl
theorem lines_at5 (w : World) : (Instr.index 63 (.agg linesC) (.int .i64 5)).run Tryd.prog w = .ok (.agg #[.string ⟨#[77, 51]⟩, .string ⟨#[84]⟩, .string ⟨#[67, 71, 78, 86]⟩]) w := by kernel_rfl
theorem lines_at6 (w : World) : (Instr.index 63 (.agg linesC) (.int .i64 6)).run Tryd.prog w = .ok (.agg #[.string ⟨#[77, 54]⟩, .string ⟨#[65, 84]⟩, .string ⟨#[67, 71, 78, 86]⟩]) w := by kernel_rfl
theorem lines_at7 (w : World) : (Instr.index 63 (.agg linesC) (.int .i64 7)).run Tryd.prog w = .ok (.agg #[.string ⟨#[77, 55]⟩, .string ⟨#[72]⟩, .string ⟨#[67, 71, 78, 86]⟩]) w := by kernel_rfl
theorem lines_at8 (w : World) : (Instr.index 63 (.agg linesC) (.int .i64 8)).run Tryd.prog w = .ok (.agg #[.string ⟨#[80, 48]⟩, .string ⟨#[65, 84]⟩, .string ⟨#[66, 68, 69, 78]⟩]) w := by kernel_rfl
theorem lines_at9 (w : World) : (Instr.index 63 (.agg linesC) (.int .i64 9)).run Tryd.prog w = .ok (.agg #[.string ⟨#[83, 48]⟩, .string ⟨#[69]⟩, .string ⟨#[78, 83, 84, 86]⟩]) w := by kernel_rfl
def table_of.f (a : ByteArray) : Option (ByteArray × ByteArray × ByteArray) := if a = (⟨#[66, 48]⟩ : ByteArray) then some ((⟨#[66, 48]⟩ : ByteArray), (⟨#[65, 84]⟩ : ByteArray), (⟨#[78, 88]⟩ : ByteArray)) else if a = (⟨#[68, 48]⟩ : ByteArray) then some ((⟨#[68, 48]⟩ : ByteArray), (⟨#[65, 84]⟩ : ByteArray), (⟨#[66, 68, 69, 78]⟩ : ByteArray)) else if a = (⟨#[68, 49]⟩ : ByteArray) then some ((⟨#[68, 49]⟩ : ByteArray), (⟨#[69]⟩ : ByteArray), (⟨#[66, 68, 69, 78]⟩ : ByteArray)) else if a = (⟨#[75, 48]⟩ : ByteArray) then some ((⟨#[75, 48]⟩ : ByteArray), (⟨#[65, 84]⟩ : ByteArray), (⟨#[66, 68, 69, 78]⟩ : ByteArray)) else if a = (⟨#[75, 49]⟩ : ByteArray) then some ((⟨#[75, 49]⟩ : ByteArray), (⟨#[65, 84]⟩ : ByteArray), (⟨#[66, 68, 69, 78]⟩ : ByteArray)) else if a = (⟨#[77, 51]⟩ : ByteArray) then some ((⟨#[77, 51]⟩ : ByteArray), (⟨#[84]⟩ : ByteArray), (⟨#[67, 71, 78, 86]⟩ : ByteArray)) else if a = (⟨#[77, 54]⟩ : ByteArray) then some ((⟨#[77, 54]⟩ : ByteArray), (⟨#[65, 84]⟩ : ByteArray), (⟨#[67, 71, 78, 86]⟩ : ByteArray)) else if a = (⟨#[77, 55]⟩ : ByteArray) then some ((⟨#[77, 55]⟩ : ByteArray), (⟨#[72]⟩ : ByteArray), (⟨#[67, 71, 78, 86]⟩ : ByteArray)) else if a = (⟨#[80, 48]⟩ : ByteArray) then some ((⟨#[80, 48]⟩ : ByteArray), (⟨#[65, 84]⟩ : ByteArray), (⟨#[66, 68, 69, 78]⟩ : ByteArray)) else if a = (⟨#[83, 48]⟩ : ByteArray) then some ((⟨#[83, 48]⟩ : ByteArray), (⟨#[69]⟩ : ByteArray), (⟨#[78, 83, 84, 86]⟩ : ByteArray)) else (table_two.f a).bind fun t => if t = true then some (a, (⟨#[65, 69, 72, 84]⟩ : ByteArray), (⟨#[66, 67, 68, 69, 71, 78, 83, 84, 86, 88]⟩ : ByteArray)) else some (⟨#[]⟩, ⟨#[]⟩, ⟨#[]⟩)
theorem of_eq {a b : ByteArray} (h : a = b) : (b.toList == a.toList) = true := by subst h; simp
theorem of_ne {a b : ByteArray} (h : ¬ a = b) : (b.toList == a.toList) = false := by
  refine beq_eq_false_iff_ne.2 fun e => h ?_
  have e2 : b.data.toList = a.data.toList := by rw [← ByteArray.toList_eq, ← ByteArray.toList_eq]; exact e
  cases a; cases b; simp only at e2; congr 1; exact (Array.toList_inj.1 e2).symm
theorem old_alloc {W : World} {o : Obj} {k : Nat} {x : Obj} (h : W.heap[k]? = some x) : (W.alloc o).heap[k]? = some x :=
  (Below.heap_alloc W o k (Array.getElem?_eq_some_iff.1 h).1).trans h
theorem old_drewN {W : World} {n k : Nat} {x : Obj} (h : W.heap[k]? = some x) : (W.drewN n).heap[k]? = some x := by
  exact h
set_option maxHeartbeats 8000000 in
set_option maxRecDepth 100000 in
theorem table_of.calls (a0 r1 r2 r3 : ByteArray) (w : World) (h : table_of.f a0 = some (r1, r2, r3)) : Calls Tryd.prog 33 #[.string a0] w fun e w' => e = .returned (.agg #[.string r1, .string r2, .string r3]) ∧ Below w.heap.size w w' := by
  unfold table_of.f at h
  have hi0 := lines_at0
  have hi1 := lines_at1
  have hi2 := lines_at2
  have hi3 := lines_at3
  have hi4 := lines_at4
  have hi5 := lines_at5
  have hi6 := lines_at6
  have hi7 := lines_at7
  have hi8 := lines_at8
  have hi9 := lines_at9
  go_enter Tryd.func33, Tryd.ntmps33
  go_wp2_with (fail)
  refine (table_lines.calls _).mono ?_
  rintro e w2 ⟨rfl, hb⟩
  simp only []
  have hold0 : w2.heap[w.heap.size]? = some (.cells #[.string ⟨#[]⟩, .string ⟨#[]⟩, .string ⟨#[]⟩] 54) := (hb.block w.heap.size (by simp)).trans (heap_alloc_new _ _)
  have HB2 := Aside0.mk ((below_alloc (Below.refl w.heap.size w) _).trans (hb.mono (by simp)))
  have hold := Aside0.mk hold0
  clear hb hold0
  have h' := Aside0.mk h
  clear h
  go_wp2
  refine wp_loop_rounds 11 ?_
  rw [rounds_succ]
  by_cases hk : a0 = (⟨#[66, 48]⟩ : ByteArray)
  · have hc : ([66, 48] == a0.toList) = true := by have := of_eq hk; simpa using this
    have h := h'.out
    rw [if_pos hk] at h
    simp only [Option.some.injEq, Prod.mk.injEq] at h
    obtain ⟨rfl, rfl, rfl⟩ := h
    clear hk
    go_wp2_with (first | ((with_reducible refine gate_store (t := 54) (p := 2) rfl ?_); refine wpList_store_row rfl 54 (.tmp 2) _ rfl w.heap.size _ rfl rfl 54 #[.string ⟨#[]⟩, .string ⟨#[]⟩, .string ⟨#[]⟩] (by repeat (first | exact hold.out | apply old_alloc)) (by kernel_rfl) rfl (by kernel_rfl) ?_))
    try simp only [Exit.inBlock, Exit.then]
    refine bodyPost_ret (results_cell_row (t := 54) (fr := (0, 0)) rfl _ _ w.heap.size _ _ rfl (setRow_heap _ _ _ _ _ _ (by repeat (first | exact hold.out | apply old_alloc | apply old_drewN))) Tryd.underlying54 rfl (by kernel_rfl)) rfl ?_
    exact ⟨by first | rfl | simp, below_setRow (by repeat (first | exact HB2.out | apply below_alloc | apply below_drew1 | apply pw_below_drewN)) (Nat.le_refl _) _⟩
  have hc0 : ([66, 48] == a0.toList) = false := by have := of_ne hk; simpa using this
  replace h' := Aside0.mk ((if_neg hk).symm.trans h'.out)
  clear hk
  go_wp2
  rw [rounds_succ]
  by_cases hk : a0 = (⟨#[68, 48]⟩ : ByteArray)
  · have hc : ([68, 48] == a0.toList) = true := by have := of_eq hk; simpa using this
    have h := h'.out
    rw [if_pos hk] at h
    simp only [Option.some.injEq, Prod.mk.injEq] at h
    obtain ⟨rfl, rfl, rfl⟩ := h
    clear hk
    go_wp2_with (first | ((with_reducible refine gate_store (t := 54) (p := 2) rfl ?_); refine wpList_store_row rfl 54 (.tmp 2) _ rfl w.heap.size _ rfl rfl 54 #[.string ⟨#[]⟩, .string ⟨#[]⟩, .string ⟨#[]⟩] (by repeat (first | exact hold.out | apply old_alloc)) (by kernel_rfl) rfl (by kernel_rfl) ?_))
    try simp only [Exit.inBlock, Exit.then]
    refine bodyPost_ret (results_cell_row (t := 54) (fr := (0, 0)) rfl _ _ w.heap.size _ _ rfl (setRow_heap _ _ _ _ _ _ (by repeat (first | exact hold.out | apply old_alloc | apply old_drewN))) Tryd.underlying54 rfl (by kernel_rfl)) rfl ?_
    exact ⟨by first | rfl | simp, below_setRow (by repeat (first | exact HB2.out | apply below_alloc | apply below_drew1 | apply pw_below_drewN)) (Nat.le_refl _) _⟩
  have hc1 : ([68, 48] == a0.toList) = false := by have := of_ne hk; simpa using this
  replace h' := Aside0.mk ((if_neg hk).symm.trans h'.out)
  clear hk
  go_wp2
  rw [rounds_succ]
  by_cases hk : a0 = (⟨#[68, 49]⟩ : ByteArray)
  · have hc : ([68, 49] == a0.toList) = true := by have := of_eq hk; simpa using this
    have h := h'.out
    rw [if_pos hk] at h
    simp only [Option.some.injEq, Prod.mk.injEq] at h
    obtain ⟨rfl, rfl, rfl⟩ := h
    clear hk
    go_wp2_with (first | ((with_reducible refine gate_store (t := 54) (p := 2) rfl ?_); refine wpList_store_row rfl 54 (.tmp 2) _ rfl w.heap.size _ rfl rfl 54 #[.string ⟨#[]⟩, .string ⟨#[]⟩, .string ⟨#[]⟩] (by repeat (first | exact hold.out | apply old_alloc)) (by kernel_rfl) rfl (by kernel_rfl) ?_))
    try simp only [Exit.inBlock, Exit.then]
    refine bodyPost_ret (results_cell_row (t := 54) (fr := (0, 0)) rfl _ _ w.heap.size _ _ rfl (setRow_heap _ _ _ _ _ _ (by repeat (first | exact hold.out | apply old_alloc | apply old_drewN))) Tryd.underlying54 rfl (by kernel_rfl)) rfl ?_
    exact ⟨by first | rfl | simp, below_setRow (by repeat (first | exact HB2.out | apply below_alloc | apply below_drew1 | apply pw_below_drewN)) (Nat.le_refl _) _⟩
  have hc2 : ([68, 49] == a0.toList) = false := by have := of_ne hk; simpa using this
  replace h' := Aside0.mk ((if_neg hk).symm.trans h'.out)
  clear hk
  go_wp2
  rw [rounds_succ]
  by_cases hk : a0 = (⟨#[75, 48]⟩ : ByteArray)
  · have hc : ([75, 48] == a0.toList) = true := by have := of_eq hk; simpa using this
    have h := h'.out
    rw [if_pos hk] at h
    simp only [Option.some.injEq, Prod.mk.injEq] at h
    obtain ⟨rfl, rfl, rfl⟩ := h
    clear hk
    go_wp2_with (first | ((with_reducible refine gate_store (t := 54) (p := 2) rfl ?_); refine wpList_store_row rfl 54 (.tmp 2) _ rfl w.heap.size _ rfl rfl 54 #[.string ⟨#[]⟩, .string ⟨#[]⟩, .string ⟨#[]⟩] (by repeat (first | exact hold.out | apply old_alloc)) (by kernel_rfl) rfl (by kernel_rfl) ?_))
    try simp only [Exit.inBlock, Exit.then]
    refine bodyPost_ret (results_cell_row (t := 54) (fr := (0, 0)) rfl _ _ w.heap.size _ _ rfl (setRow_heap _ _ _ _ _ _ (by repeat (first | exact hold.out | apply old_alloc | apply old_drewN))) Tryd.underlying54 rfl (by kernel_rfl)) rfl ?_
    exact ⟨by first | rfl | simp, below_setRow (by repeat (first | exact HB2.out | apply below_alloc | apply below_drew1 | apply pw_below_drewN)) (Nat.le_refl _) _⟩
  have hc3 : ([75, 48] == a0.toList) = false := by have := of_ne hk; simpa using this
  replace h' := Aside0.mk ((if_neg hk).symm.trans h'.out)
  clear hk
  go_wp2
  rw [rounds_succ]
  by_cases hk : a0 = (⟨#[75, 49]⟩ : ByteArray)
  · have hc : ([75, 49] == a0.toList) = true := by have := of_eq hk; simpa using this
    have h := h'.out
    rw [if_pos hk] at h
    simp only [Option.some.injEq, Prod.mk.injEq] at h
    obtain ⟨rfl, rfl, rfl⟩ := h
    clear hk
    go_wp2_with (first | ((with_reducible refine gate_store (t := 54) (p := 2) rfl ?_); refine wpList_store_row rfl 54 (.tmp 2) _ rfl w.heap.size _ rfl rfl 54 #[.string ⟨#[]⟩, .string ⟨#[]⟩, .string ⟨#[]⟩] (by repeat (first | exact hold.out | apply old_alloc)) (by kernel_rfl) rfl (by kernel_rfl) ?_))
    try simp only [Exit.inBlock, Exit.then]
    refine bodyPost_ret (results_cell_row (t := 54) (fr := (0, 0)) rfl _ _ w.heap.size _ _ rfl (setRow_heap _ _ _ _ _ _ (by repeat (first | exact hold.out | apply old_alloc | apply old_drewN))) Tryd.underlying54 rfl (by kernel_rfl)) rfl ?_
    exact ⟨by first | rfl | simp, below_setRow (by repeat (first | exact HB2.out | apply below_alloc | apply below_drew1 | apply pw_below_drewN)) (Nat.le_refl _) _⟩
  have hc4 : ([75, 49] == a0.toList) = false := by have := of_ne hk; simpa using this
  replace h' := Aside0.mk ((if_neg hk).symm.trans h'.out)
  clear hk
  go_wp2
  rw [rounds_succ]
  by_cases hk : a0 = (⟨#[77, 51]⟩ : ByteArray)
  · have hc : ([77, 51] == a0.toList) = true := by have := of_eq hk; simpa using this
    have h := h'.out
    rw [if_pos hk] at h
    simp only [Option.some.injEq, Prod.mk.injEq] at h
    obtain ⟨rfl, rfl, rfl⟩ := h
    clear hk
    go_wp2_with (first | ((with_reducible refine gate_store (t := 54) (p := 2) rfl ?_); refine wpList_store_row rfl 54 (.tmp 2) _ rfl w.heap.size _ rfl rfl 54 #[.string ⟨#[]⟩, .string ⟨#[]⟩, .string ⟨#[]⟩] (by repeat (first | exact hold.out | apply old_alloc)) (by kernel_rfl) rfl (by kernel_rfl) ?_))
    try simp only [Exit.inBlock, Exit.then]
    refine bodyPost_ret (results_cell_row (t := 54) (fr := (0, 0)) rfl _ _ w.heap.size _ _ rfl (setRow_heap _ _ _ _ _ _ (by repeat (first | exact hold.out | apply old_alloc | apply old_drewN))) Tryd.underlying54 rfl (by kernel_rfl)) rfl ?_
    exact ⟨by first | rfl | simp, below_setRow (by repeat (first | exact HB2.out | apply below_alloc | apply below_drew1 | apply pw_below_drewN)) (Nat.le_refl _) _⟩
  have hc5 : ([77, 51] == a0.toList) = false := by have := of_ne hk; simpa using this
  replace h' := Aside0.mk ((if_neg hk).symm.trans h'.out)
  clear hk
  go_wp2
  rw [rounds_succ]
  by_cases hk : a0 = (⟨#[77, 54]⟩ : ByteArray)
  · have hc : ([77, 54] == a0.toList) = true := by have := of_eq hk; simpa using this
    have h := h'.out
    rw [if_pos hk] at h
    simp only [Option.some.injEq, Prod.mk.injEq] at h
    obtain ⟨rfl, rfl, rfl⟩ := h
    clear hk
    go_wp2_with (first | ((with_reducible refine gate_store (t := 54) (p := 2) rfl ?_); refine wpList_store_row rfl 54 (.tmp 2) _ rfl w.heap.size _ rfl rfl 54 #[.string ⟨#[]⟩, .string ⟨#[]⟩, .string ⟨#[]⟩] (by repeat (first | exact hold.out | apply old_alloc)) (by kernel_rfl) rfl (by kernel_rfl) ?_))
    try simp only [Exit.inBlock, Exit.then]
    refine bodyPost_ret (results_cell_row (t := 54) (fr := (0, 0)) rfl _ _ w.heap.size _ _ rfl (setRow_heap _ _ _ _ _ _ (by repeat (first | exact hold.out | apply old_alloc | apply old_drewN))) Tryd.underlying54 rfl (by kernel_rfl)) rfl ?_
    exact ⟨by first | rfl | simp, below_setRow (by repeat (first | exact HB2.out | apply below_alloc | apply below_drew1 | apply pw_below_drewN)) (Nat.le_refl _) _⟩
  have hc6 : ([77, 54] == a0.toList) = false := by have := of_ne hk; simpa using this
  replace h' := Aside0.mk ((if_neg hk).symm.trans h'.out)
  clear hk
  go_wp2
  rw [rounds_succ]
  by_cases hk : a0 = (⟨#[77, 55]⟩ : ByteArray)
  · have hc : ([77, 55] == a0.toList) = true := by have := of_eq hk; simpa using this
    have h := h'.out
    rw [if_pos hk] at h
    simp only [Option.some.injEq, Prod.mk.injEq] at h
    obtain ⟨rfl, rfl, rfl⟩ := h
    clear hk
    go_wp2_with (first | ((with_reducible refine gate_store (t := 54) (p := 2) rfl ?_); refine wpList_store_row rfl 54 (.tmp 2) _ rfl w.heap.size _ rfl rfl 54 #[.string ⟨#[]⟩, .string ⟨#[]⟩, .string ⟨#[]⟩] (by repeat (first | exact hold.out | apply old_alloc)) (by kernel_rfl) rfl (by kernel_rfl) ?_))
    try simp only [Exit.inBlock, Exit.then]
    refine bodyPost_ret (results_cell_row (t := 54) (fr := (0, 0)) rfl _ _ w.heap.size _ _ rfl (setRow_heap _ _ _ _ _ _ (by repeat (first | exact hold.out | apply old_alloc | apply old_drewN))) Tryd.underlying54 rfl (by kernel_rfl)) rfl ?_
    exact ⟨by first | rfl | simp, below_setRow (by repeat (first | exact HB2.out | apply below_alloc | apply below_drew1 | apply pw_below_drewN)) (Nat.le_refl _) _⟩
  have hc7 : ([77, 55] == a0.toList) = false := by have := of_ne hk; simpa using this
  replace h' := Aside0.mk ((if_neg hk).symm.trans h'.out)
  clear hk
  go_wp2
  rw [rounds_succ]
  by_cases hk : a0 = (⟨#[80, 48]⟩ : ByteArray)
  · have hc : ([80, 48] == a0.toList) = true := by have := of_eq hk; simpa using this
    have h := h'.out
    rw [if_pos hk] at h
    simp only [Option.some.injEq, Prod.mk.injEq] at h
    obtain ⟨rfl, rfl, rfl⟩ := h
    clear hk
    go_wp2_with (first | ((with_reducible refine gate_store (t := 54) (p := 2) rfl ?_); refine wpList_store_row rfl 54 (.tmp 2) _ rfl w.heap.size _ rfl rfl 54 #[.string ⟨#[]⟩, .string ⟨#[]⟩, .string ⟨#[]⟩] (by repeat (first | exact hold.out | apply old_alloc)) (by kernel_rfl) rfl (by kernel_rfl) ?_))
    try simp only [Exit.inBlock, Exit.then]
    refine bodyPost_ret (results_cell_row (t := 54) (fr := (0, 0)) rfl _ _ w.heap.size _ _ rfl (setRow_heap _ _ _ _ _ _ (by repeat (first | exact hold.out | apply old_alloc | apply old_drewN))) Tryd.underlying54 rfl (by kernel_rfl)) rfl ?_
    exact ⟨by first | rfl | simp, below_setRow (by repeat (first | exact HB2.out | apply below_alloc | apply below_drew1 | apply pw_below_drewN)) (Nat.le_refl _) _⟩
  have hc8 : ([80, 48] == a0.toList) = false := by have := of_ne hk; simpa using this
  replace h' := Aside0.mk ((if_neg hk).symm.trans h'.out)
  clear hk
  go_wp2
  rw [rounds_succ]
  by_cases hk : a0 = (⟨#[83, 48]⟩ : ByteArray)
  · have hc : ([83, 48] == a0.toList) = true := by have := of_eq hk; simpa using this
    have h := h'.out
    rw [if_pos hk] at h
    simp only [Option.some.injEq, Prod.mk.injEq] at h
    obtain ⟨rfl, rfl, rfl⟩ := h
    clear hk
    go_wp2_with (first | ((with_reducible refine gate_store (t := 54) (p := 2) rfl ?_); refine wpList_store_row rfl 54 (.tmp 2) _ rfl w.heap.size _ rfl rfl 54 #[.string ⟨#[]⟩, .string ⟨#[]⟩, .string ⟨#[]⟩] (by repeat (first | exact hold.out | apply old_alloc)) (by kernel_rfl) rfl (by kernel_rfl) ?_))
    try simp only [Exit.inBlock, Exit.then]
    refine bodyPost_ret (results_cell_row (t := 54) (fr := (0, 0)) rfl _ _ w.heap.size _ _ rfl (setRow_heap _ _ _ _ _ _ (by repeat (first | exact hold.out | apply old_alloc | apply old_drewN))) Tryd.underlying54 rfl (by kernel_rfl)) rfl ?_
    exact ⟨by first | rfl | simp, below_setRow (by repeat (first | exact HB2.out | apply below_alloc | apply below_drew1 | apply pw_below_drewN)) (Nat.le_refl _) _⟩
  have hc9 : ([83, 48] == a0.toList) = false := by have := of_ne hk; simpa using this
  replace h' := Aside0.mk ((if_neg hk).symm.trans h'.out)
  clear hk
  go_wp2
  rw [rounds_succ]
  have h := h'.out
  clear h'
  obtain ⟨t, A0, h⟩ := Option.bind_eq_some_iff.mp h
  have A := Aside0.mk A0
  clear A0
  cases t
  · simp only [Bool.false_eq_true, if_false, Option.some.injEq, Prod.mk.injEq] at h
    obtain ⟨rfl, rfl, rfl⟩ := h
    go_wp2_with (first | ((with_reducible refine gate_callee (f := 42) rfl ?_); refine goesL_ (some 16) rfl rfl Tryd.func42 (by kernel_rfl) rfl #[.string a0] rfl (by (try simp only [List.map_toArray, List.map_cons, List.map_nil]); first | done | rfl) ?_; (with_reducible refine (table_two.calls a0 false _ A.out).mono ?_); rintro e w' ⟨rfl, ⟨nd, rfl⟩⟩; refine ⟨_, rfl, ?_⟩) | ((with_reducible refine gate_store (t := 54) (p := 2) rfl ?_); refine wpList_store_row rfl 54 (.tmp 2) _ rfl w.heap.size _ rfl rfl 54 #[.string ⟨#[]⟩, .string ⟨#[]⟩, .string ⟨#[]⟩] (by repeat (first | exact hold.out | apply old_alloc | apply old_drewN)) (by kernel_rfl) rfl (by kernel_rfl) ?_))
    try simp only [Exit.inBlock, Exit.then]
    refine bodyPost_ret (results_cell_row (t := 54) (fr := (0, 0)) rfl _ _ w.heap.size _ _ rfl (setRow_heap _ _ _ _ _ _ (by repeat (first | exact hold.out | apply old_alloc | apply old_drewN))) Tryd.underlying54 rfl (by kernel_rfl)) rfl ?_
    exact ⟨by first | rfl | simp, below_setRow (by repeat (first | exact HB2.out | apply below_alloc | apply below_drew1 | apply pw_below_drewN)) (Nat.le_refl _) _⟩
  · simp only [if_true, Option.some.injEq, Prod.mk.injEq] at h
    obtain ⟨rfl, rfl, rfl⟩ := h
    go_wp2_with (first | ((with_reducible refine gate_callee (f := 42) rfl ?_); refine goesL_ (some 16) rfl rfl Tryd.func42 (by kernel_rfl) rfl #[.string a0] rfl (by (try simp only [List.map_toArray, List.map_cons, List.map_nil]); first | done | rfl) ?_; (with_reducible refine (table_two.calls a0 true _ A.out).mono ?_); rintro e w' ⟨rfl, ⟨nd, rfl⟩⟩; refine ⟨_, rfl, ?_⟩) | ((with_reducible refine gate_store (t := 54) (p := 2) rfl ?_); refine wpList_store_row rfl 54 (.tmp 2) _ rfl w.heap.size _ rfl rfl 54 #[.string ⟨#[]⟩, .string ⟨#[]⟩, .string ⟨#[]⟩] (by repeat (first | exact hold.out | apply old_alloc | apply old_drewN)) (by kernel_rfl) rfl (by kernel_rfl) ?_))
    try simp only [Exit.inBlock, Exit.then]
    refine bodyPost_ret (results_cell_row (t := 54) (fr := (0, 0)) rfl _ _ w.heap.size _ _ rfl (setRow_heap _ _ _ _ _ _ (by repeat (first | exact hold.out | apply old_alloc | apply old_drewN))) Tryd.underlying54 rfl (by kernel_rfl)) rfl ?_
    exact ⟨by first | rfl | simp, below_setRow (by repeat (first | exact HB2.out | apply below_alloc | apply below_drew1 | apply pw_below_drewN)) (Nat.le_refl _) _⟩

/-! ### table_Modes: function 21 -/
def table_Modes.f (a0 : ByteArray) : Option (ByteArray) := (table_of.f a0).bind fun bt156 => (some bt156.2.2)
set_option maxHeartbeats 8000000 in
set_option maxRecDepth 100000 in
theorem table_Modes.calls (a0 : ByteArray) (r : ByteArray) (w : World) (h : table_Modes.f a0 = some r) :
    Calls Tryd.prog 21 #[.string a0] w fun e w' => e = .returned (.string r) ∧ Below w.heap.size w w' := by
  have HB := Aside0.mk (Below.refl w.heap.size w)
  have H : ((table_of.f a0).bind fun bt156 => (some bt156.2.2)) = some r := h
  clear h
  replace H := Option.bind_eq_some_iff.mp H
  obtain ⟨⟨t156, t157, t158⟩, A20, H⟩ := H
  replace H : (some t158) = some r := H
  have A2 := Aside0.mk A20
  clear A20
  obtain rfl := Option.some.inj H
  go_enter Tryd.func21, Tryd.ntmps21
  go_wp2_with (first | ((with_reducible refine gate_callee (f := 33) rfl ?_); refine goesL_ (some 4) rfl rfl Tryd.func33 (by kernel_rfl) rfl #[.string a0] rfl (by (try simp only [List.map_toArray, List.map_cons, List.map_nil]); first | done | rfl | (simp only [List.length_drop, List.length_take]; rfl) | exact congrArg (fun z => #[Value.int .i64 z]) (w64 (by omega) (by omega)).symm) ?_; (with_reducible refine (table_of.calls a0 t156 t157 t158 _ A2.out).mono ?_); rintro e w3 ⟨rfl, hb⟩; refine ⟨_, rfl, ?_⟩; have n0_ := Aside0.mk (below_step (by repeat (first | (with_reducible first | exact HB.out | apply below_alloc | apply pw_below_drewN | apply below_drew1) | exact HB.out)) hb); clear HB; have HB := n0_; clear n0_; (try clear hb); (try clear hb2); (try clear hk); (try clear hi)))
  go_ret
  exact ⟨by first | rfl | (simp [errW_none, errW_some] <;> rfl) | (simp [*, errW_none, errW_some] <;> rfl), by repeat (first | (with_reducible first | exact HB.out | apply below_alloc | apply pw_below_drewN | apply below_drew1) | exact HB.out)⟩

/-! ### slices_Index_string_string: function 32 -/
def slices_Index_string_string.l0 : Nat → List ByteArray → ByteArray → Int → Int → Option (Int)
  | 0, _, _, _, _ => none
  | k + 1, x0, x1, x7, x8 => if x8 < x7 then (if 0 ≤ x8 then (if x8 < (x0.length : Int) then (if x1.toList = (rdOf ByteArray.empty x0 x8).toList then (some x8) else (slices_Index_string_string.l0 k x0 x1 x7 (wrap64 (x8 + 1)))) else (none)) else (none)) else (some (-1))
def slices_Index_string_string.f (k : Nat) (l0 : List ByteArray) (a1 : ByteArray) : Option (Int) := slices_Index_string_string.l0 k l0 a1 (l0.length : Int) 0
theorem slices_Index_string_string.mono_l : ∀ k, (∀ y0 y1 y2 y3, LeO (slices_Index_string_string.l0 k y0 y1 y2 y3) (slices_Index_string_string.l0 (k + 1) y0 y1 y2 y3))
  | 0 => fun _ _ _ _ r h => by simp [slices_Index_string_string.l0] at h
  | k + 1 => by
    have ih0 := slices_Index_string_string.mono_l k
    · intro y0 y1 y2 y3
      unfold slices_Index_string_string.l0
      repeat' first
      | (with_reducible exact ih0 _ _ _ _)
      | (with_reducible exact LeO.refl _)
      | (with_reducible exact LeO.none _)
      | (with_reducible refine LeO.ite ?_ ?_)
      | (with_reducible refine LeO.bind ?_ (fun _ => ?_))
      | exact ih0 _ _ _ _
      | exact LeO.none _
      | refine LeO.ite ?_ ?_
      | refine LeO.bind ?_ (fun _ => ?_)
theorem slices_Index_string_string.mono : ∀ a0 a1 k, LeO (slices_Index_string_string.f k a0 a1) (slices_Index_string_string.f (k + 1) a0 a1) := by
  intro a0 a1 k
  have ih0 := slices_Index_string_string.mono_l k
  unfold slices_Index_string_string.f
  repeat' first
      | (with_reducible exact ih0 _ _ _ _)
      | (with_reducible exact LeO.refl _)
      | (with_reducible exact LeO.none _)
      | (with_reducible refine LeO.ite ?_ ?_)
      | (with_reducible refine LeO.bind ?_ (fun _ => ?_))
      | exact ih0 _ _ _ _
      | exact LeO.none _
      | refine LeO.ite ?_ ?_
      | refine LeO.bind ?_ (fun _ => ?_)
set_option maxHeartbeats 8000000 in
set_option maxRecDepth 100000 in
theorem slices_Index_string_string.calls (k : Nat) (A0 : Option Addr) (c0 : Nat) (l0 : List ByteArray) (a1 : ByteArray) (r : Int) (w : World) (hr0 : Kd.C Kd.string w A0 l0.length l0) (hc0 : l0.length ≤ c0) (h : slices_Index_string_string.f k l0 a1 = some r) :
    Calls Tryd.prog 32 #[.slice A0 l0.length c0, .string a1] w fun e w' => e = .returned (.int .i64 r) ∧ Drawn0 w w' := by
  have HR0 := Aside0.mk hr0
  have HC0 := Aside0.mk hc0
  clear hr0 hc0
  have H : (slices_Index_string_string.l0 k l0 a1 (l0.length : Int) 0) = some r := h
  clear h
  have H' := Aside0.mk H
  clear H
  go_enter Tryd.func32, Tryd.ntmps32
  go_wp2
  go_loopg [8] k (fun kq v8 w' => ∃ (x8_1 : Int), v8 = .int .i64 x8_1 ∧ Aside0 (slices_Index_string_string.l0 kq l0 a1 (l0.length : Int) x8_1 = some r) ∧ Aside0 (kq ≤ k) ∧ Drawn0 w w')
  case atStart => exact ⟨(0), (by first | rfl | (simp; done) | (simp [*]; done)), H', ⟨Nat.le_refl _⟩, by repeat (first | exact Drawn0.refl _ | apply Drawn0.step)⟩
  case round =>
    clear H'
    try clear p2
    obtain ⟨x8_1, rfl, HA, HK1, ⟨m1, rfl⟩⟩ := hrel
    cases gk with
    | zero => exact absurd HA.out (by simp [slices_Index_string_string.l0])
    | succ k1 =>
      have H := HA.out
      clear HA
      simp only [slices_Index_string_string.l0] at H
      by_cases c3 : x8_1 < (l0.length : Int)
      · rw [if_pos c3] at H
        have c3b0 : decide (x8_1 < (l0.length : Int)) = true := decide_eq_true c3
        clear c3
        by_cases c4 : 0 ≤ x8_1
        · rw [if_pos c4] at H
          have c4b0 : decide (0 ≤ x8_1) = true := decide_eq_true c4
          clear c4
          by_cases c5 : x8_1 < (l0.length : Int)
          · rw [if_pos c5] at H
            have c5b0 : decide (x8_1 < (l0.length : Int)) = true := decide_eq_true c5
            clear c5
            by_cases c6 : a1.toList = (rdOf ByteArray.empty l0 x8_1).toList
            · rw [if_pos c6] at H
              have c6b0 : (a1.toList == (rdOf ByteArray.empty l0 x8_1).toList) = true := beq_iff_eq.mpr c6
              have c6b1 : (a1.toList != (rdOf ByteArray.empty l0 x8_1).toList) = false := bne_eq_false_iff_eq.mpr c6
              clear c6
              obtain rfl := Option.some.inj H
              have p159 : 0 ≤ (x8_1 : Int) := of_decide_eq_true (by first | (with_reducible assumption) | assumption)
              have q159 : x8_1 < (l0.length : Int) := of_decide_eq_true (by first | (with_reducible assumption) | assumption)
              obtain ⟨ad159, e159, hx159_0⟩ := Kd.at_string HR0.out x8_1 p159 q159
              cases e159
              replace p159 := eq_true p159
              replace q159 := eq_true q159
              go_wp2
              go_ret
              exact ⟨by first | rfl | (simp; done) | (simp [*]; done), by repeat (first | exact Drawn0.refl _ | apply Drawn0.step)⟩
            · rw [if_neg c6] at H
              have c6b0 : (a1.toList == (rdOf ByteArray.empty l0 x8_1).toList) = false := beq_eq_false_iff_ne.mpr c6
              have c6b1 : (a1.toList != (rdOf ByteArray.empty l0 x8_1).toList) = true := bne_iff_ne.mpr c6
              have H' := Aside0.mk H
              clear H
              have p159 : 0 ≤ (x8_1 : Int) := of_decide_eq_true (by first | (with_reducible assumption) | assumption)
              have q159 : x8_1 < (l0.length : Int) := of_decide_eq_true (by first | (with_reducible assumption) | assumption)
              obtain ⟨ad159, e159, hx159_0⟩ := Kd.at_string HR0.out x8_1 p159 q159
              cases e159
              replace p159 := eq_true p159
              replace q159 := eq_true q159
              go_wp2
              go_roundg k1
              case measure => have := HK1.out; omega
              case rel => exact ⟨(wrap64 (x8_1 + 1)), (by first | rfl | (simp; done) | (simp [*]; done)), H', ⟨by have := HK1.out; omega⟩, by repeat (first | exact Drawn0.refl _ | apply Drawn0.step)⟩
          · rw [if_neg c5] at H
            exact absurd H (by simp)
        · rw [if_neg c4] at H
          exact absurd H (by simp)
      · rw [if_neg c3] at H
        have c3b0 : decide (x8_1 < (l0.length : Int)) = false := decide_eq_false c3
        clear c3
        obtain rfl := Option.some.inj H
        go_wp2
        go_ret
        exact ⟨by first | rfl | (simp; done) | (simp [*]; done), by repeat (first | exact Drawn0.refl _ | apply Drawn0.step)⟩

/-! ### slices_Contains_string_string: function 18 -/
def slices_Contains_string_string.f (k : Nat) (l0 : List ByteArray) (a1 : ByteArray) : Option (Bool) := (slices_Index_string_string.f k l0 a1).bind fun t160 => (some (decide (t160 ≥ 0)))
theorem slices_Contains_string_string.mono : ∀ a0 a1 k, LeO (slices_Contains_string_string.f k a0 a1) (slices_Contains_string_string.f (k + 1) a0 a1) := by
  intro a0 a1 k
  unfold slices_Contains_string_string.f
  repeat' first
      | (with_reducible exact slices_Index_string_string.mono _ _ _)
      | (with_reducible exact LeO.refl _)
      | (with_reducible exact LeO.none _)
      | (with_reducible refine LeO.ite ?_ ?_)
      | (with_reducible refine LeO.bind ?_ (fun _ => ?_))
      | exact slices_Index_string_string.mono _ _ _
      | exact LeO.none _
      | refine LeO.ite ?_ ?_
      | refine LeO.bind ?_ (fun _ => ?_)
set_option maxHeartbeats 8000000 in
set_option maxRecDepth 100000 in
theorem slices_Contains_string_string.calls (k : Nat) (A0 : Option Addr) (c0 : Nat) (l0 : List ByteArray) (a1 : ByteArray) (r : Bool) (w : World) (hr0 : Kd.C Kd.string w A0 l0.length l0) (hc0 : l0.length ≤ c0) (h : slices_Contains_string_string.f k l0 a1 = some r) :
    Calls Tryd.prog 18 #[.slice A0 l0.length c0, .string a1] w fun e w' => e = .returned (.bool r) ∧ Drawn0 w w' := by
  have HR0 := Aside0.mk hr0
  have HC0 := Aside0.mk hc0
  clear hr0 hc0
  have H : ((slices_Index_string_string.f k l0 a1).bind fun t160 => (some (decide (t160 ≥ 0)))) = some r := h
  clear h
  replace H := Option.bind_eq_some_iff.mp H
  obtain ⟨t160, A30, H⟩ := H
  replace H : (some (decide (t160 ≥ 0))) = some r := H
  have A3 := Aside0.mk A30
  clear A30
  obtain rfl := Option.some.inj H
  go_enter Tryd.func18, Tryd.ntmps18
  go_wp2_with (first | ((with_reducible refine gate_callee (f := 32) rfl ?_); refine goesL_ (some 7) rfl rfl Tryd.func32 (by kernel_rfl) rfl #[.slice A0 l0.length c0, .string a1] rfl (by (try simp only [List.map_toArray, List.map_cons, List.map_nil]); first | done | rfl | (simp only [List.length_drop, List.length_take]; rfl) | exact congrArg (fun z => #[Value.int .i64 z]) (w64 (by omega) (by omega)).symm) ?_; (with_reducible refine (slices_Index_string_string.calls k _ _ l0 a1 t160 _ ?side1 ?side2 A3.out).mono ?_); (case side1 => repeat (first | exact HR0.out | (with_reducible refine Kd.C_alloc ?_ _) | (with_reducible refine Kd.C_drewN ?_ _) | (with_reducible refine Kd.C_drew ?_))); (case side2 => exact HC0.out); rintro e w' ⟨rfl, ⟨nd, rfl⟩⟩; refine ⟨_, rfl, ?_⟩))
  go_ret
  exact ⟨by first | rfl | (simp; done) | (simp [*]; done), by repeat (first | exact Drawn0.refl _ | apply Drawn0.step)⟩

/-! ### slices_DeleteFunc_string_string: function 24 (a text given by hand: usage.tmpl) -/
-- @import Derived.Test.YtjoageaencpfaaaDoorShelf
-- @import Derived.Lib.OwnBridge
-- @import Derived.Shelf.SlicesE.DeleteFunc
theorem oneCell_string : OneCell Value.string := fun _ => rfl
theorem filter_fill (l : List ByteArray) (p : ByteArray → Bool) (z : ByteArray) : (l.filter p ++ List.replicate (l.length - (l.filter p).length) z).length = l.length := by
  have := List.length_filter_le p l
  simp
  omega
set_option maxHeartbeats 8000000 in
theorem slices_DeleteFunc_string_string.calls (p : ByteArray → Bool) (g : Nat) (lb : Array Value) (base gb cap : Nat) (ok : Nat → Prop) (l : List ByteArray) (w : World)
    (eg : ∀ args w, (callFunc g args).run Tryd.prog w = .ok (.enter g args) w) (hp : PredAt Tryd.prog g lb Value.string p w) (hpo : PredOver Tryd.prog g lb Value.string p gb 0 l.length w)
    (hR : Kd.R Kd.string 9 w base ok (.slice (some ⟨gb, 0, none⟩) l.length cap) l) :
    Calls Tryd.prog 24 #[.slice (some ⟨gb, 0, none⟩) l.length cap, .func (.func g) #[] lb] w fun e w' => ∃ v : Value, e = .returned v ∧ Kd.R Kd.string 9 w' base ok v (l.filter fun x => !p x) ∧ (∀ B, B ≤ gb → Below B w w') := by
  have ho : w.ownsRow base 9 1 (.slice (some ⟨gb, 0, none⟩) l.length cap) l.length (l.map Value.string) := Kd.own_of_R hR
  obtain ⟨g2, cap2, e2, hb, hlt, hn, hm, hl, hH⟩ := Lib.holds_of_ownsRow ho (by simp)
  injection e2 with e2a _ e2c
  injection e2a with e2a
  injection e2a with e2a
  subst e2a
  subst e2c
  have hmx : l.length ≤ 9223372036854775807 := (Kd.R_reads' hR).2.2.2.1
  have hc := Tryd.slices_DeleteFunc Value.string oneCell_string p g lb eg ByteArray.empty (fun w => by rw [Tryd.zeroValue9]; rfl) gb 0 cap l.toArray w hp (by simpa using hpo) hH (by simpa using hmx) (by simpa using hn)
  simp only [List.size_toArray, List.toList_toArray] at hc
  refine hc.mono ?_
  rintro e w' ⟨rfl, q, rfl⟩
  have hk : (l.filter fun x => !p x).length ≤ l.length := List.length_filter_le _ _
  have hu := Lib.ownsRow_putRow (q := q) (k := (l.filter fun x => !p x).length) ho (filter_fill l (fun x => !p x) ByteArray.empty) hk
  rw [List.take_left] at hu
  exact ⟨_, rfl, Kd.R_of_own hu (fun k hk => hR.1 k hk), fun B hB => Lib.below_putRow (Below.refl B w) hB⟩

end Go.Proofs.YtjoageaencpfaaaDoor.PUsageTells
