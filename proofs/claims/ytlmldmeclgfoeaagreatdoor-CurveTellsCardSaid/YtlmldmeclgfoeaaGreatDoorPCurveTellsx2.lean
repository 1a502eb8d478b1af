-- laid by a program out of the translation and of templates; not trusted: Lean checks it
import Derived.Test.YtlmldmeclgfoeaaGreatDoorPCurveTellsx0
import Derived.Test.YtlmldmeclgfoeaaGreatDoorPCurveTellsx1
import Derived.Deep.MidRow
import Derived.Deep.WholeRow
import Derived.Laws.Rows
import Derived.Test.YtlmldmeclgfoeaaGreatDoorShelf
namespace Go.Proofs.YtlmldmeclgfoeaaGreatDoor.PCurveTells
open Go.RowKit Go.Proofs.YtlmldmeclgfoeaaGreatDoorW.PrintWords Go.Proofs.YtlmldmeclgfoeaaGreatDoorW.PrintLast Go.Proofs.YtlmldmeclgfoeaaGreatDoorW.PrintMore
attribute [local go_sem high] c_add c_eql c_neq
attribute [local go_sem] str_leq str_gtr str_geq max2_int min2_int max_two min_two max_three min_three max_four min_four   -- for this text's walks alone
set_option linter.unusedVariables false
set_option linter.unusedSimpArgs false

attribute [local go_sem] fld36_0 fld36_3
/-! ### curve_line: function 25 (a text given by hand: curve.tmpl) -/
-- @import Derived.Laws.Rows
-- @import Derived.Deep.WholeRow
-- @import Derived.Deep.MidRow
def curve_line.f (a0 : Int) : Option (ByteArray × ByteArray × ByteArray × Int) := if a0 = 1 then some ((⟨#[80, 45, 50, 50, 52]⟩ : ByteArray), ⟨#[49, 46, 51, 46, 49, 51, 50, 46, 48, 46, 51, 51]⟩, ⟨#[70, 70, 70, 70, 70, 70, 70, 70, 70, 70, 70, 70, 70, 70, 70, 70, 70, 70, 70, 70, 70, 70, 70, 70, 70, 70, 70, 70, 49, 54, 65, 50, 69, 48, 66, 56, 70, 48, 51, 69, 49, 51, 68, 68, 50, 57, 52, 53, 53, 67, 53, 67, 50, 65, 51, 68]⟩, 28) else if a0 = 2 then some ((⟨#[80, 45, 50, 53, 54]⟩ : ByteArray), ⟨#[49, 46, 50, 46, 56, 52, 48, 46, 49, 48, 48, 52, 53, 46, 51, 46, 49, 46, 55]⟩, ⟨#[70, 70, 70, 70, 70, 70, 70, 70, 48, 48, 48, 48, 48, 48, 48, 48, 70, 70, 70, 70, 70, 70, 70, 70, 70, 70, 70, 70, 70, 70, 70, 70, 66, 67, 69, 54, 70, 65, 65, 68, 65, 55, 49, 55, 57, 69, 56, 52, 70, 51, 66, 57, 67, 65, 67, 50, 70, 67, 54, 51, 50, 53, 53, 49]⟩, 32) else if a0 = 3 then some ((⟨#[80, 45, 51, 56, 52]⟩ : ByteArray), ⟨#[49, 46, 51, 46, 49, 51, 50, 46, 48, 46, 51, 52]⟩, ⟨#[70, 70, 70, 70, 70, 70, 70, 70, 70, 70, 70, 70, 70, 70, 70, 70, 70, 70, 70, 70, 70, 70, 70, 70, 70, 70, 70, 70, 70, 70, 70, 70, 70, 70, 70, 70, 70, 70, 70, 70, 70, 70, 70, 70, 70, 70, 70, 70, 67, 55, 54, 51, 52, 68, 56, 49, 70, 52, 51, 55, 50, 68, 68, 70, 53, 56, 49, 65, 48, 68, 66, 50, 52, 56, 66, 48, 65, 55, 55, 65, 69, 67, 69, 67, 49, 57, 54, 65, 67, 67, 67, 53, 50, 57, 55, 51]⟩, 48) else if a0 = 4 then some ((⟨#[80, 45, 53, 50, 49]⟩ : ByteArray), ⟨#[49, 46, 51, 46, 49, 51, 50, 46, 48, 46, 51, 53]⟩, ⟨#[48, 49, 70, 70, 70, 70, 70, 70, 70, 70, 70, 70, 70, 70, 70, 70, 70, 70, 70, 70, 70, 70, 70, 70, 70, 70, 70, 70, 70, 70, 70, 70, 70, 70, 70, 70, 70, 70, 70, 70, 70, 70, 70, 70, 70, 70, 70, 70, 70, 70, 70, 70, 70, 70, 70, 70, 70, 70, 70, 70, 70, 70, 70, 70, 70, 70, 70, 65, 53, 49, 56, 54, 56, 55, 56, 51, 66, 70, 50, 70, 57, 54, 54, 66, 55, 70, 67, 67, 48, 49, 52, 56, 70, 55, 48, 57, 65, 53, 68, 48, 51, 66, 66, 53, 67, 57, 66, 56, 56, 57, 57, 67, 52, 55, 65, 69, 66, 66, 54, 70, 66, 55, 49, 69, 57, 49, 51, 56, 54, 52, 48, 57]⟩, 66) else some (⟨#[]⟩, ⟨#[]⟩, ⟨#[]⟩, 0)
theorem curve_range0 (W : World) : (W.alloc (.cells curveC 48)).rangeAt W.heap.size 0 [.string ⟨#[80, 45, 50, 50, 52]⟩, .string ⟨#[49, 46, 51, 46, 49, 51, 50, 46, 48, 46, 51, 51]⟩, .string ⟨#[70, 70, 70, 70, 70, 70, 70, 70, 70, 70, 70, 70, 70, 70, 70, 70, 70, 70, 70, 70, 70, 70, 70, 70, 70, 70, 70, 70, 49, 54, 65, 50, 69, 48, 66, 56, 70, 48, 51, 69, 49, 51, 68, 68, 50, 57, 52, 53, 53, 67, 53, 67, 50, 65, 51, 68]⟩, .int .i64 28] := by
  intro j v hj
  rw [World.cell?_alloc_new]
  match j, hj with
  | 0, hj => exact hj
  | 1, hj => exact hj
  | 2, hj => exact hj
  | 3, hj => exact hj
theorem curve_range1 (W : World) : (W.alloc (.cells curveC 48)).rangeAt W.heap.size 4 [.string ⟨#[80, 45, 50, 53, 54]⟩, .string ⟨#[49, 46, 50, 46, 56, 52, 48, 46, 49, 48, 48, 52, 53, 46, 51, 46, 49, 46, 55]⟩, .string ⟨#[70, 70, 70, 70, 70, 70, 70, 70, 48, 48, 48, 48, 48, 48, 48, 48, 70, 70, 70, 70, 70, 70, 70, 70, 70, 70, 70, 70, 70, 70, 70, 70, 66, 67, 69, 54, 70, 65, 65, 68, 65, 55, 49, 55, 57, 69, 56, 52, 70, 51, 66, 57, 67, 65, 67, 50, 70, 67, 54, 51, 50, 53, 53, 49]⟩, .int .i64 32] := by
  intro j v hj
  rw [World.cell?_alloc_new]
  match j, hj with
  | 0, hj => exact hj
  | 1, hj => exact hj
  | 2, hj => exact hj
  | 3, hj => exact hj
theorem curve_range2 (W : World) : (W.alloc (.cells curveC 48)).rangeAt W.heap.size 8 [.string ⟨#[80, 45, 51, 56, 52]⟩, .string ⟨#[49, 46, 51, 46, 49, 51, 50, 46, 48, 46, 51, 52]⟩, .string ⟨#[70, 70, 70, 70, 70, 70, 70, 70, 70, 70, 70, 70, 70, 70, 70, 70, 70, 70, 70, 70, 70, 70, 70, 70, 70, 70, 70, 70, 70, 70, 70, 70, 70, 70, 70, 70, 70, 70, 70, 70, 70, 70, 70, 70, 70, 70, 70, 70, 67, 55, 54, 51, 52, 68, 56, 49, 70, 52, 51, 55, 50, 68, 68, 70, 53, 56, 49, 65, 48, 68, 66, 50, 52, 56, 66, 48, 65, 55, 55, 65, 69, 67, 69, 67, 49, 57, 54, 65, 67, 67, 67, 53, 50, 57, 55, 51]⟩, .int .i64 48] := by
  intro j v hj
  rw [World.cell?_alloc_new]
  match j, hj with
  | 0, hj => exact hj
  | 1, hj => exact hj
  | 2, hj => exact hj
  | 3, hj => exact hj
theorem curve_range3 (W : World) : (W.alloc (.cells curveC 48)).rangeAt W.heap.size 12 [.string ⟨#[80, 45, 53, 50, 49]⟩, .string ⟨#[49, 46, 51, 46, 49, 51, 50, 46, 48, 46, 51, 53]⟩, .string ⟨#[48, 49, 70, 70, 70, 70, 70, 70, 70, 70, 70, 70, 70, 70, 70, 70, 70, 70, 70, 70, 70, 70, 70, 70, 70, 70, 70, 70, 70, 70, 70, 70, 70, 70, 70, 70, 70, 70, 70, 70, 70, 70, 70, 70, 70, 70, 70, 70, 70, 70, 70, 70, 70, 70, 70, 70, 70, 70, 70, 70, 70, 70, 70, 70, 70, 70, 70, 65, 53, 49, 56, 54, 56, 55, 56, 51, 66, 70, 50, 70, 57, 54, 54, 66, 55, 70, 67, 67, 48, 49, 52, 56, 70, 55, 48, 57, 65, 53, 68, 48, 51, 66, 66, 53, 67, 57, 66, 56, 56, 57, 57, 67, 52, 55, 65, 69, 66, 66, 54, 70, 66, 55, 49, 69, 57, 49, 51, 56, 54, 52, 48, 57]⟩, .int .i64 66] := by
  intro j v hj
  rw [World.cell?_alloc_new]
  match j, hj with
  | 0, hj => exact hj
  | 1, hj => exact hj
  | 2, hj => exact hj
  | 3, hj => exact hj
set_option maxHeartbeats 8000000 in
set_option maxRecDepth 100000 in
theorem curve_line.calls (a0 : Int) (r1 r2 r3 : ByteArray) (r4 : Int) (w : World) (h : curve_line.f a0 = some (r1, r2, r3, r4)) :
    Calls Tryz.prog 25 #[.int .i64 a0] w fun e w' => e = .returned (.agg #[.string r1, .string r2, .string r3, .int .i64 r4]) ∧ Below w.heap.size w w' := by
  unfold curve_line.f at h
  by_cases h1 : a0 = 1
  · rw [if_pos h1] at h
    simp only [Option.some.injEq, Prod.mk.injEq] at h
    obtain ⟨rfl, rfl, rfl, rfl⟩ := h
    subst h1
    go_enter Tryz.func25, Tryz.ntmps25
    go_wp2_with (fail)
    refine (curve_table.calls _).mono ?_
    rintro e w2 ⟨rfl, hb⟩
    simp only []
    have hold0 : w2.heap[w.heap.size]? = some (.cells #[.string ⟨#[]⟩, .string ⟨#[]⟩, .string ⟨#[]⟩, .int .i64 0] 36) := (hb.block w.heap.size (by simp)).trans (heap_alloc_new _ _)
    have HB2 := Aside0.mk ((below_alloc (Below.refl w.heap.size w) _).trans (hb.mono (by simp)))
    have hold := Aside0.mk hold0
    clear hb hold0
    go_wp2_with (first | ((with_reducible refine gate_store (t := 48) (p := 3) rfl ?_); refine wpList_store_row rfl 48 (.tmp 3) (.tmp 4) rfl w2.heap.size curveC rfl rfl 48 _ (heap_alloc_new _ _) (by kernel_rfl) rfl curve_one ?_; rw [World.setRow_alloc_new]) | ((with_reducible refine gate_dst (N := 15) rfl ?_); refine wpList_load_mid rfl 36 (.tmp 14) rfl w2.heap.size 0 rfl [.string ⟨#[80, 45, 50, 50, 52]⟩, .string ⟨#[49, 46, 51, 46, 49, 51, 50, 46, 48, 46, 51, 51]⟩, .string ⟨#[70, 70, 70, 70, 70, 70, 70, 70, 70, 70, 70, 70, 70, 70, 70, 70, 70, 70, 70, 70, 70, 70, 70, 70, 70, 70, 70, 70, 49, 54, 65, 50, 69, 48, 66, 56, 70, 48, 51, 69, 49, 51, 68, 68, 50, 57, 52, 53, 53, 67, 53, 67, 50, 65, 51, 68]⟩, .int .i64 28] _ (curve_range0 w2) Tryz.underlying36 rfl (by kernel_rfl) ?_) | ((with_reducible refine gate_store (t := 36) (p := 2) rfl ?_); refine wpList_store_row rfl 36 (.tmp 2) _ rfl w.heap.size _ rfl rfl 36 #[.string ⟨#[]⟩, .string ⟨#[]⟩, .string ⟨#[]⟩, .int .i64 0] (by repeat (first | exact hold.out | apply heap_old_alloc | apply heap_old_drewN)) (by kernel_rfl) rfl (by kernel_rfl) ?_))
    try simp only [Exit.inBlock, Exit.then]
    refine bodyPost_ret (results_cell_row (t := 36) (fr := (0, 0)) rfl _ _ w.heap.size _ _ rfl (setRow_heap _ _ _ _ _ _ (by repeat (first | exact hold.out | apply heap_old_alloc | apply heap_old_drewN))) Tryz.underlying36 rfl (by kernel_rfl)) rfl ?_
    exact ⟨by first | rfl | simp, below_setRow (by repeat (first | exact HB2.out | apply below_alloc | apply below_drew1 | apply pw_below_drewN)) (Nat.le_refl _) _⟩
  rw [if_neg h1] at h
  by_cases h2 : a0 = 2
  · rw [if_pos h2] at h
    simp only [Option.some.injEq, Prod.mk.injEq] at h
    obtain ⟨rfl, rfl, rfl, rfl⟩ := h
    subst h2
    go_enter Tryz.func25, Tryz.ntmps25
    go_wp2_with (fail)
    refine (curve_table.calls _).mono ?_
    rintro e w2 ⟨rfl, hb⟩
    simp only []
    have hold0 : w2.heap[w.heap.size]? = some (.cells #[.string ⟨#[]⟩, .string ⟨#[]⟩, .string ⟨#[]⟩, .int .i64 0] 36) := (hb.block w.heap.size (by simp)).trans (heap_alloc_new _ _)
    have HB2 := Aside0.mk ((below_alloc (Below.refl w.heap.size w) _).trans (hb.mono (by simp)))
    have hold := Aside0.mk hold0
    clear hb hold0
    go_wp2_with (first | ((with_reducible refine gate_store (t := 48) (p := 3) rfl ?_); refine wpList_store_row rfl 48 (.tmp 3) (.tmp 4) rfl w2.heap.size curveC rfl rfl 48 _ (heap_alloc_new _ _) (by kernel_rfl) rfl curve_one ?_; rw [World.setRow_alloc_new]) | ((with_reducible refine gate_dst (N := 15) rfl ?_); refine wpList_load_mid rfl 36 (.tmp 14) rfl w2.heap.size 4 rfl [.string ⟨#[80, 45, 50, 53, 54]⟩, .string ⟨#[49, 46, 50, 46, 56, 52, 48, 46, 49, 48, 48, 52, 53, 46, 51, 46, 49, 46, 55]⟩, .string ⟨#[70, 70, 70, 70, 70, 70, 70, 70, 48, 48, 48, 48, 48, 48, 48, 48, 70, 70, 70, 70, 70, 70, 70, 70, 70, 70, 70, 70, 70, 70, 70, 70, 66, 67, 69, 54, 70, 65, 65, 68, 65, 55, 49, 55, 57, 69, 56, 52, 70, 51, 66, 57, 67, 65, 67, 50, 70, 67, 54, 51, 50, 53, 53, 49]⟩, .int .i64 32] _ (curve_range1 w2) Tryz.underlying36 rfl (by kernel_rfl) ?_) | ((with_reducible refine gate_store (t := 36) (p := 2) rfl ?_); refine wpList_store_row rfl 36 (.tmp 2) _ rfl w.heap.size _ rfl rfl 36 #[.string ⟨#[]⟩, .string ⟨#[]⟩, .string ⟨#[]⟩, .int .i64 0] (by repeat (first | exact hold.out | apply heap_old_alloc | apply heap_old_drewN)) (by kernel_rfl) rfl (by kernel_rfl) ?_))
    try simp only [Exit.inBlock, Exit.then]
    refine bodyPost_ret (results_cell_row (t := 36) (fr := (0, 0)) rfl _ _ w.heap.size _ _ rfl (setRow_heap _ _ _ _ _ _ (by repeat (first | exact hold.out | apply heap_old_alloc | apply heap_old_drewN))) Tryz.underlying36 rfl (by kernel_rfl)) rfl ?_
    exact ⟨by first | rfl | simp, below_setRow (by repeat (first | exact HB2.out | apply below_alloc | apply below_drew1 | apply pw_below_drewN)) (Nat.le_refl _) _⟩
  rw [if_neg h2] at h
  by_cases h3 : a0 = 3
  · rw [if_pos h3] at h
    simp only [Option.some.injEq, Prod.mk.injEq] at h
    obtain ⟨rfl, rfl, rfl, rfl⟩ := h
    subst h3
    go_enter Tryz.func25, Tryz.ntmps25
    go_wp2_with (fail)
    refine (curve_table.calls _).mono ?_
    rintro e w2 ⟨rfl, hb⟩
    simp only []
    have hold0 : w2.heap[w.heap.size]? = some (.cells #[.string ⟨#[]⟩, .string ⟨#[]⟩, .string ⟨#[]⟩, .int .i64 0] 36) := (hb.block w.heap.size (by simp)).trans (heap_alloc_new _ _)
    have HB2 := Aside0.mk ((below_alloc (Below.refl w.heap.size w) _).trans (hb.mono (by simp)))
    have hold := Aside0.mk hold0
    clear hb hold0
    go_wp2_with (first | ((with_reducible refine gate_store (t := 48) (p := 3) rfl ?_); refine wpList_store_row rfl 48 (.tmp 3) (.tmp 4) rfl w2.heap.size curveC rfl rfl 48 _ (heap_alloc_new _ _) (by kernel_rfl) rfl curve_one ?_; rw [World.setRow_alloc_new]) | ((with_reducible refine gate_dst (N := 15) rfl ?_); refine wpList_load_mid rfl 36 (.tmp 14) rfl w2.heap.size 8 rfl [.string ⟨#[80, 45, 51, 56, 52]⟩, .string ⟨#[49, 46, 51, 46, 49, 51, 50, 46, 48, 46, 51, 52]⟩, .string ⟨#[70, 70, 70, 70, 70, 70, 70, 70, 70, 70, 70, 70, 70, 70, 70, 70, 70, 70, 70, 70, 70, 70, 70, 70, 70, 70, 70, 70, 70, 70, 70, 70, 70, 70, 70, 70, 70, 70, 70, 70, 70, 70, 70, 70, 70, 70, 70, 70, 67, 55, 54, 51, 52, 68, 56, 49, 70, 52, 51, 55, 50, 68, 68, 70, 53, 56, 49, 65, 48, 68, 66, 50, 52, 56, 66, 48, 65, 55, 55, 65, 69, 67, 69, 67, 49, 57, 54, 65, 67, 67, 67, 53, 50, 57, 55, 51]⟩, .int .i64 48] _ (curve_range2 w2) Tryz.underlying36 rfl (by kernel_rfl) ?_) | ((with_reducible refine gate_store (t := 36) (p := 2) rfl ?_); refine wpList_store_row rfl 36 (.tmp 2) _ rfl w.heap.size _ rfl rfl 36 #[.string ⟨#[]⟩, .string ⟨#[]⟩, .string ⟨#[]⟩, .int .i64 0] (by repeat (first | exact hold.out | apply heap_old_alloc | apply heap_old_drewN)) (by kernel_rfl) rfl (by kernel_rfl) ?_))
    try simp only [Exit.inBlock, Exit.then]
    refine bodyPost_ret (results_cell_row (t := 36) (fr := (0, 0)) rfl _ _ w.heap.size _ _ rfl (setRow_heap _ _ _ _ _ _ (by repeat (first | exact hold.out | apply heap_old_alloc | apply heap_old_drewN))) Tryz.underlying36 rfl (by kernel_rfl)) rfl ?_
    exact ⟨by first | rfl | simp, below_setRow (by repeat (first | exact HB2.out | apply below_alloc | apply below_drew1 | apply pw_below_drewN)) (Nat.le_refl _) _⟩
  rw [if_neg h3] at h
  by_cases h4 : a0 = 4
  · rw [if_pos h4] at h
    simp only [Option.some.injEq, Prod.mk.injEq] at h
    obtain ⟨rfl, rfl, rfl, rfl⟩ := h
    subst h4
    go_enter Tryz.func25, Tryz.ntmps25
    go_wp2_with (fail)
    refine (curve_table.calls _).mono ?_
    rintro e w2 ⟨rfl, hb⟩
    simp only []
    have hold0 : w2.heap[w.heap.size]? = some (.cells #[.string ⟨#[]⟩, .string ⟨#[]⟩, .string ⟨#[]⟩, .int .i64 0] 36) := (hb.block w.heap.size (by simp)).trans (heap_alloc_new _ _)
    have HB2 := Aside0.mk ((below_alloc (Below.refl w.heap.size w) _).trans (hb.mono (by simp)))
    have hold := Aside0.mk hold0
    clear hb hold0
    go_wp2_with (first | ((with_reducible refine gate_store (t := 48) (p := 3) rfl ?_); refine wpList_store_row rfl 48 (.tmp 3) (.tmp 4) rfl w2.heap.size curveC rfl rfl 48 _ (heap_alloc_new _ _) (by kernel_rfl) rfl curve_one ?_; rw [World.setRow_alloc_new]) | ((with_reducible refine gate_dst (N := 15) rfl ?_); refine wpList_load_mid rfl 36 (.tmp 14) rfl w2.heap.size 12 rfl [.string ⟨#[80, 45, 53, 50, 49]⟩, .string ⟨#[49, 46, 51, 46, 49, 51, 50, 46, 48, 46, 51, 53]⟩, .string ⟨#[48, 49, 70, 70, 70, 70, 70, 70, 70, 70, 70, 70, 70, 70, 70, 70, 70, 70, 70, 70, 70, 70, 70, 70, 70, 70, 70, 70, 70, 70, 70, 70, 70, 70, 70, 70, 70, 70, 70, 70, 70, 70, 70, 70, 70, 70, 70, 70, 70, 70, 70, 70, 70, 70, 70, 70, 70, 70, 70, 70, 70, 70, 70, 70, 70, 70, 70, 65, 53, 49, 56, 54, 56, 55, 56, 51, 66, 70, 50, 70, 57, 54, 54, 66, 55, 70, 67, 67, 48, 49, 52, 56, 70, 55, 48, 57, 65, 53, 68, 48, 51, 66, 66, 53, 67, 57, 66, 56, 56, 57, 57, 67, 52, 55, 65, 69, 66, 66, 54, 70, 66, 55, 49, 69, 57, 49, 51, 56, 54, 52, 48, 57]⟩, .int .i64 66] _ (curve_range3 w2) Tryz.underlying36 rfl (by kernel_rfl) ?_) | ((with_reducible refine gate_store (t := 36) (p := 2) rfl ?_); refine wpList_store_row rfl 36 (.tmp 2) _ rfl w.heap.size _ rfl rfl 36 #[.string ⟨#[]⟩, .string ⟨#[]⟩, .string ⟨#[]⟩, .int .i64 0] (by repeat (first | exact hold.out | apply heap_old_alloc | apply heap_old_drewN)) (by kernel_rfl) rfl (by kernel_rfl) ?_))
    try simp only [Exit.inBlock, Exit.then]
    refine bodyPost_ret (results_cell_row (t := 36) (fr := (0, 0)) rfl _ _ w.heap.size _ _ rfl (setRow_heap _ _ _ _ _ _ (by repeat (first | exact hold.out | apply heap_old_alloc | apply heap_old_drewN))) Tryz.underlying36 rfl (by kernel_rfl)) rfl ?_
    exact ⟨by first | rfl | simp, below_setRow (by repeat (first | exact HB2.out | apply below_alloc | apply below_drew1 | apply pw_below_drewN)) (Nat.le_refl _) _⟩
  rw [if_neg h4] at h
  simp only [Option.some.injEq, Prod.mk.injEq] at h
  obtain ⟨rfl, rfl, rfl, rfl⟩ := h
  by_cases h0 : a0 < 1
  · have hd : decide (a0 < 1) = true := decide_eq_true h0
    clear h0 h1 h2 h3 h4
    go_enter Tryz.func25, Tryz.ntmps25
    go_wp2_with (fail)
    refine (curve_table.calls _).mono ?_
    rintro e w2 ⟨rfl, hb⟩
    simp only []
    have hold0 : w2.heap[w.heap.size]? = some (.cells #[.string ⟨#[]⟩, .string ⟨#[]⟩, .string ⟨#[]⟩, .int .i64 0] 36) := (hb.block w.heap.size (by simp)).trans (heap_alloc_new _ _)
    have HB2 := Aside0.mk ((below_alloc (Below.refl w.heap.size w) _).trans (hb.mono (by simp)))
    have hold := Aside0.mk hold0
    clear hb hold0
    go_wp2_with (first | ((with_reducible refine gate_store (t := 48) (p := 3) rfl ?_); refine wpList_store_row rfl 48 (.tmp 3) (.tmp 4) rfl w2.heap.size curveC rfl rfl 48 _ (heap_alloc_new _ _) (by kernel_rfl) rfl curve_one ?_; rw [World.setRow_alloc_new]) | ((with_reducible refine gate_store (t := 36) (p := 2) rfl ?_); refine wpList_store_row rfl 36 (.tmp 2) _ rfl w.heap.size _ rfl rfl 36 #[.string ⟨#[]⟩, .string ⟨#[]⟩, .string ⟨#[]⟩, .int .i64 0] (by repeat (first | exact hold.out | apply heap_old_alloc | apply heap_old_drewN)) (by kernel_rfl) rfl (by kernel_rfl) ?_))
    try simp only [Exit.inBlock, Exit.then]
    refine bodyPost_ret (results_cell_row (t := 36) (fr := (0, 0)) rfl _ _ w.heap.size _ _ rfl (setRow_heap _ _ _ _ _ _ (by repeat (first | exact hold.out | apply heap_old_alloc | apply heap_old_drewN))) Tryz.underlying36 rfl (by kernel_rfl)) rfl ?_
    exact ⟨by first | rfl | simp, below_setRow (by repeat (first | exact HB2.out | apply below_alloc | apply below_drew1 | apply pw_below_drewN)) (Nat.le_refl _) _⟩
  · have hd : decide (a0 < 1) = false := decide_eq_false h0
    have hd2 : decide (4 < a0) = true := decide_eq_true (by omega)
    clear h0 h1 h2 h3 h4
    go_enter Tryz.func25, Tryz.ntmps25
    go_wp2_with (fail)
    refine (curve_table.calls _).mono ?_
    rintro e w2 ⟨rfl, hb⟩
    simp only []
    have hold0 : w2.heap[w.heap.size]? = some (.cells #[.string ⟨#[]⟩, .string ⟨#[]⟩, .string ⟨#[]⟩, .int .i64 0] 36) := (hb.block w.heap.size (by simp)).trans (heap_alloc_new _ _)
    have HB2 := Aside0.mk ((below_alloc (Below.refl w.heap.size w) _).trans (hb.mono (by simp)))
    have hold := Aside0.mk hold0
    clear hb hold0
    go_wp2_with (first | ((with_reducible refine gate_store (t := 48) (p := 3) rfl ?_); refine wpList_store_row rfl 48 (.tmp 3) (.tmp 4) rfl w2.heap.size curveC rfl rfl 48 _ (heap_alloc_new _ _) (by kernel_rfl) rfl curve_one ?_; rw [World.setRow_alloc_new]) | ((with_reducible refine gate_store (t := 36) (p := 2) rfl ?_); refine wpList_store_row rfl 36 (.tmp 2) _ rfl w.heap.size _ rfl rfl 36 #[.string ⟨#[]⟩, .string ⟨#[]⟩, .string ⟨#[]⟩, .int .i64 0] (by repeat (first | exact hold.out | apply heap_old_alloc | apply heap_old_drewN)) (by kernel_rfl) rfl (by kernel_rfl) ?_))
    try simp only [Exit.inBlock, Exit.then]
    refine bodyPost_ret (results_cell_row (t := 36) (fr := (0, 0)) rfl _ _ w.heap.size _ _ rfl (setRow_heap _ _ _ _ _ _ (by repeat (first | exact hold.out | apply heap_old_alloc | apply heap_old_drewN))) Tryz.underlying36 rfl (by kernel_rfl)) rfl ?_
    exact ⟨by first | rfl | simp, below_setRow (by repeat (first | exact HB2.out | apply below_alloc | apply below_drew1 | apply pw_below_drewN)) (Nat.le_refl _) _⟩

/-! ### curve_Name: function 9 -/
def curve_Name.f (a0 : Int) : Option (ByteArray) := (curve_line.f a0).bind fun bt113 => (some bt113.1)
set_option maxHeartbeats 8000000 in
set_option maxRecDepth 100000 in
theorem curve_Name.calls (a0 : Int) (r : ByteArray) (w : World) (h : curve_Name.f a0 = some r) :
    Calls Tryz.prog 9 #[.int .i64 a0] w fun e w' => e = .returned (.string r) ∧ Below w.heap.size w w' := by
  have HB := Aside0.mk (Below.refl w.heap.size w)
  have H : ((curve_line.f a0).bind fun bt113 => (some bt113.1)) = some r := h
  clear h
  replace H := Option.bind_eq_some_iff.mp H
  obtain ⟨⟨t113, t114, t115, t116⟩, A20, H⟩ := H
  replace H : (some t113) = some r := H
  have A2 := Aside0.mk A20
  clear A20
  obtain rfl := Option.some.inj H
  go_enter Tryz.func9, Tryz.ntmps9
  go_wp2_with (first | ((with_reducible refine gate_callee (f := 25) rfl ?_); refine goesL_ (some 4) rfl rfl Tryz.func25 (by kernel_rfl) rfl #[.int .i64 a0] rfl (by (try simp only [List.map_toArray, List.map_cons, List.map_nil]); first | done | rfl | (simp only [List.length_drop, List.length_take]; rfl) | exact congrArg (fun z => #[Value.int .i64 z]) (w64 (by omega) (by omega)).symm) ?_; (with_reducible refine (curve_line.calls a0 t113 t114 t115 t116 _ A2.out).mono ?_); rintro e w3 ⟨rfl, hb⟩; refine ⟨_, rfl, ?_⟩; have n0_ := Aside0.mk (below_step (by repeat (first | (with_reducible first | exact HB.out | apply below_alloc | apply pw_below_drewN | apply below_drew1) | exact HB.out)) hb); clear HB; have HB := n0_; clear n0_; (try clear hb); (try clear hb2); (try clear hk); (try clear hi)))
  go_ret
  exact ⟨by first | rfl | (simp [errW_none, errW_some] <;> rfl) | (simp [*, errW_none, errW_some] <;> rfl), by repeat (first | (with_reducible first | exact HB.out | apply below_alloc | apply pw_below_drewN | apply below_drew1) | exact HB.out)⟩

/-! ### curve_Width: function 11 -/
def curve_Width.f (a0 : Int) : Option (Int) := (curve_line.f a0).bind fun bt117 => (some bt117.2.2.2)
set_option maxHeartbeats 8000000 in
set_option maxRecDepth 100000 in
theorem curve_Width.calls (a0 : Int) (r : Int) (w : World) (h : curve_Width.f a0 = some r) :
    Calls Tryz.prog 11 #[.int .i64 a0] w fun e w' => e = .returned (.int .i64 r) ∧ Below w.heap.size w w' := by
  have HB := Aside0.mk (Below.refl w.heap.size w)
  have H : ((curve_line.f a0).bind fun bt117 => (some bt117.2.2.2)) = some r := h
  clear h
  replace H := Option.bind_eq_some_iff.mp H
  obtain ⟨⟨t117, t118, t119, t120⟩, A20, H⟩ := H
  replace H : (some t120) = some r := H
  have A2 := Aside0.mk A20
  clear A20
  obtain rfl := Option.some.inj H
  go_enter Tryz.func11, Tryz.ntmps11
  go_wp2_with (first | ((with_reducible refine gate_callee (f := 25) rfl ?_); refine goesL_ (some 4) rfl rfl Tryz.func25 (by kernel_rfl) rfl #[.int .i64 a0] rfl (by (try simp only [List.map_toArray, List.map_cons, List.map_nil]); first | done | rfl | (simp only [List.length_drop, List.length_take]; rfl) | exact congrArg (fun z => #[Value.int .i64 z]) (w64 (by omega) (by omega)).symm) ?_; (with_reducible refine (curve_line.calls a0 t117 t118 t119 t120 _ A2.out).mono ?_); rintro e w3 ⟨rfl, hb⟩; refine ⟨_, rfl, ?_⟩; have n0_ := Aside0.mk (below_step (by repeat (first | (with_reducible first | exact HB.out | apply below_alloc | apply pw_below_drewN | apply below_drew1) | exact HB.out)) hb); clear HB; have HB := n0_; clear n0_; (try clear hb); (try clear hb2); (try clear hk); (try clear hi)))
  go_ret
  exact ⟨by first | rfl | (simp [errW_none, errW_some] <;> rfl) | (simp [*, errW_none, errW_some] <;> rfl), by repeat (first | (with_reducible first | exact HB.out | apply below_alloc | apply pw_below_drewN | apply below_drew1) | exact HB.out)⟩

/-! ### strings_IndexByte: function 55 (a text given by hand: strings.tmpl) -/
-- @import Derived.Test.YtlmldmeclgfoeaaGreatDoorShelf
def strings_IndexByte.f (a0 : ByteArray) (a1 : Int) : Option Int := some (Lib.indexByte a0.data.toList a1.toNat.toUInt8)
theorem strings_IndexByte.calls (a0 : ByteArray) (a1 : Int) (r : Int) (w : World) (h : strings_IndexByte.f a0 a1 = some r) :
    Calls Tryz.prog 55 #[.string a0, .int .u8 a1] w fun e w' => e = .returned (.int .i64 r) ∧ Drawn0 w w' := by
  obtain rfl := Option.some.inj h
  refine (Tryz.strings_IndexByte a0 a1 w).mono ?_
  rintro e w' ⟨rfl, rfl⟩
  exact ⟨rfl, Drawn0.refl _⟩

/-! ### digits_Value: function 38 -/
def digits_Value.f (a0 : Int) : Option (Int) := (strings_IndexByte.f (⟨#[48, 49, 50, 51, 52, 53, 54, 55, 56, 57, 65, 66, 67, 68, 69, 70]⟩ : ByteArray) a0).bind fun t121 => (some t121)
set_option maxHeartbeats 8000000 in
set_option maxRecDepth 100000 in
theorem digits_Value.calls (a0 : Int) (r : Int) (w : World) (h : digits_Value.f a0 = some r) :
    Calls Tryz.prog 38 #[.int .u8 a0] w fun e w' => e = .returned (.int .i64 r) ∧ Drawn0 w w' := by
  have H : ((strings_IndexByte.f (⟨#[48, 49, 50, 51, 52, 53, 54, 55, 56, 57, 65, 66, 67, 68, 69, 70]⟩ : ByteArray) a0).bind fun t121 => (some t121)) = some r := h
  clear h
  replace H := Option.bind_eq_some_iff.mp H
  obtain ⟨t121, A20, H⟩ := H
  replace H : (some t121) = some r := H
  have A2 := Aside0.mk A20
  clear A20
  obtain rfl := Option.some.inj H
  go_enter Tryz.func38, Tryz.ntmps38
  go_wp2_with (first | ((with_reducible refine gate_callee (f := 55) rfl ?_); refine goesL_ (some 4) rfl rfl Tryz.func55 (by kernel_rfl) rfl #[.string (⟨#[48, 49, 50, 51, 52, 53, 54, 55, 56, 57, 65, 66, 67, 68, 69, 70]⟩ : ByteArray), .int .u8 a0] rfl (by (try simp only [List.map_toArray, List.map_cons, List.map_nil]); first | done | rfl | (simp only [List.length_drop, List.length_take]; rfl) | exact congrArg (fun z => #[Value.int .i64 z]) (w64 (by omega) (by omega)).symm) ?_; (with_reducible refine (strings_IndexByte.calls (⟨#[48, 49, 50, 51, 52, 53, 54, 55, 56, 57, 65, 66, 67, 68, 69, 70]⟩ : ByteArray) a0 t121 _ A2.out).mono ?_); rintro e w' ⟨rfl, ⟨nd, rfl⟩⟩; refine ⟨_, rfl, ?_⟩))
  go_ret
  exact ⟨by first | rfl | (simp; done) | (simp [*]; done), by repeat (first | exact Drawn0.refl _ | apply Drawn0.step)⟩

end Go.Proofs.YtlmldmeclgfoeaaGreatDoor.PCurveTells
