-- laid by a program out of the translation and of templates; not trusted: Lean checks it
import Derived.Test.YtleimmhpcomapaaGreatDoorPKindTellsx0
import Derived.Deep.MidRow
import Derived.Deep.WholeRow
import Derived.Laws.Rows
import Derived.Test.YtleimmhpcomapaaGreatDoorShelf
namespace Go.Proofs.YtleimmhpcomapaaGreatDoor.PKindTells
open Go.RowKit Go.Proofs.YtleimmhpcomapaaGreatDoorW.PrintWords Go.Proofs.YtleimmhpcomapaaGreatDoorW.PrintLast Go.Proofs.YtleimmhpcomapaaGreatDoorW.PrintMore
attribute [local go_sem high] c_add c_eql c_neq
attribute [local go_sem] str_leq str_gtr str_geq max2_int min2_int max_two min_two max_three min_three max_four min_four   -- for this text's walks alone
set_option linter.unusedVariables false
set_option linter.unusedSimpArgs false

attribute [local go_sem] fld38_0 fld38_1 fld38_2 fld38_3
/-! ### kind_table: function 29 -/
def kind_table.f  : Option ((List (S38))) := some (([(⟨(⟨#[]⟩ : ByteArray), 0, (⟨#[]⟩ : ByteArray), 0, (⟨#[]⟩ : ByteArray)⟩ : S38), (⟨(⟨#[65, 69, 83, 45, 49, 50, 56]⟩ : ByteArray), 16, (⟨#[65]⟩ : ByteArray), 0, (⟨#[50, 46, 49, 54, 46, 56, 52, 48, 46, 49, 46, 49, 48, 49, 46, 51, 46, 52, 46, 49, 46, 49]⟩ : ByteArray)⟩ : S38), (⟨(⟨#[65, 69, 83, 45, 49, 57, 50]⟩ : ByteArray), 24, (⟨#[65]⟩ : ByteArray), 0, (⟨#[50, 46, 49, 54, 46, 56, 52, 48, 46, 49, 46, 49, 48, 49, 46, 51, 46, 52, 46, 49, 46, 50, 49]⟩ : ByteArray)⟩ : S38), (⟨(⟨#[65, 69, 83, 45, 50, 53, 54]⟩ : ByteArray), 32, (⟨#[65]⟩ : ByteArray), 0, (⟨#[50, 46, 49, 54, 46, 56, 52, 48, 46, 49, 46, 49, 48, 49, 46, 51, 46, 52, 46, 49, 46, 52, 49]⟩ : ByteArray)⟩ : S38), (⟨(⟨#[84, 68, 69, 83, 45, 50]⟩ : ByteArray), 16, (⟨#[84]⟩ : ByteArray), 0, (⟨#[49, 46, 50, 46, 56, 52, 48, 46, 49, 49, 51, 53, 52, 57, 46, 51, 46, 55]⟩ : ByteArray)⟩ : S38), (⟨(⟨#[84, 68, 69, 83, 45, 51]⟩ : ByteArray), 24, (⟨#[84]⟩ : ByteArray), 0, (⟨#[49, 46, 50, 46, 56, 52, 48, 46, 49, 49, 51, 53, 52, 57, 46, 51, 46, 55]⟩ : ByteArray)⟩ : S38), (⟨(⟨#[72, 77, 65, 67, 45, 83, 72, 65, 50, 53, 54]⟩ : ByteArray), 32, (⟨#[72]⟩ : ByteArray), 0, (⟨#[49, 46, 50, 46, 56, 52, 48, 46, 49, 49, 51, 53, 52, 57, 46, 50, 46, 57]⟩ : ByteArray)⟩ : S38), (⟨(⟨#[72, 77, 65, 67, 45, 83, 72, 65, 53, 49, 50]⟩ : ByteArray), 64, (⟨#[72]⟩ : ByteArray), 0, (⟨#[49, 46, 50, 46, 56, 52, 48, 46, 49, 49, 51, 53, 52, 57, 46, 50, 46, 49, 49]⟩ : ByteArray)⟩ : S38), (⟨(⟨#[69, 67, 45, 80, 50, 50, 52]⟩ : ByteArray), 28, (⟨#[69]⟩ : ByteArray), 1, (⟨#[49, 46, 50, 46, 56, 52, 48, 46, 49, 48, 48, 52, 53, 46, 50, 46, 49]⟩ : ByteArray)⟩ : S38), (⟨(⟨#[69, 67, 45, 80, 50, 53, 54]⟩ : ByteArray), 32, (⟨#[69]⟩ : ByteArray), 2, (⟨#[49, 46, 50, 46, 56, 52, 48, 46, 49, 48, 48, 52, 53, 46, 50, 46, 49]⟩ : ByteArray)⟩ : S38), (⟨(⟨#[69, 67, 45, 80, 51, 56, 52]⟩ : ByteArray), 48, (⟨#[69]⟩ : ByteArray), 3, (⟨#[49, 46, 50, 46, 56, 52, 48, 46, 49, 48, 48, 52, 53, 46, 50, 46, 49]⟩ : ByteArray)⟩ : S38), (⟨(⟨#[69, 67, 45, 80, 53, 50, 49]⟩ : ByteArray), 66, (⟨#[69]⟩ : ByteArray), 4, (⟨#[49, 46, 50, 46, 56, 52, 48, 46, 49, 48, 48, 52, 53, 46, 50, 46, 49]⟩ : ByteArray)⟩ : S38)] : List (S38)))
set_option maxHeartbeats 8000000 in
set_option maxRecDepth 100000 in
theorem kind_table.calls  (r : List (S38)) (w : World) (h : kind_table.f  = some r) :
    Calls Tryz.prog 29 #[] w fun e w' => ∃ v0_ : Value, e = .returned (v0_) ∧ Kd.R k38 38 w' w.heap.size (fun _ => True) v0_ r ∧ Below w.heap.size w w' := by
  have hu38 := Tryz.underlying38
  have HB := Aside0.mk (Below.refl w.heap.size w)
  have H : (some (([(⟨(⟨#[]⟩ : ByteArray), 0, (⟨#[]⟩ : ByteArray), 0, (⟨#[]⟩ : ByteArray)⟩ : S38), (⟨(⟨#[65, 69, 83, 45, 49, 50, 56]⟩ : ByteArray), 16, (⟨#[65]⟩ : ByteArray), 0, (⟨#[50, 46, 49, 54, 46, 56, 52, 48, 46, 49, 46, 49, 48, 49, 46, 51, 46, 52, 46, 49, 46, 49]⟩ : ByteArray)⟩ : S38), (⟨(⟨#[65, 69, 83, 45, 49, 57, 50]⟩ : ByteArray), 24, (⟨#[65]⟩ : ByteArray), 0, (⟨#[50, 46, 49, 54, 46, 56, 52, 48, 46, 49, 46, 49, 48, 49, 46, 51, 46, 52, 46, 49, 46, 50, 49]⟩ : ByteArray)⟩ : S38), (⟨(⟨#[65, 69, 83, 45, 50, 53, 54]⟩ : ByteArray), 32, (⟨#[65]⟩ : ByteArray), 0, (⟨#[50, 46, 49, 54, 46, 56, 52, 48, 46, 49, 46, 49, 48, 49, 46, 51, 46, 52, 46, 49, 46, 52, 49]⟩ : ByteArray)⟩ : S38), (⟨(⟨#[84, 68, 69, 83, 45, 50]⟩ : ByteArray), 16, (⟨#[84]⟩ : ByteArray), 0, (⟨#[49, 46, 50, 46, 56, 52, 48, 46, 49, 49, 51, 53, 52, 57, 46, 51, 46, 55]⟩ : ByteArray)⟩ : S38), (⟨(⟨#[84, 68, 69, 83, 45, 51]⟩ : ByteArray), 24, (⟨#[84]⟩ : ByteArray), 0, (⟨#[49, 46, 50, 46, 56, 52, 48, 46, 49, 49, 51, 53, 52, 57, 46, 51, 46, 55]⟩ : ByteArray)⟩ : S38), (⟨(⟨#[72, 77, 65, 67, 45, 83, 72, 65, 50, 53, 54]⟩ : ByteArray), 32, (⟨#[72]⟩ : ByteArray), 0, (⟨#[49, 46, 50, 46, 56, 52, 48, 46, 49, 49, 51, 53, 52, 57, 46, 50, 46, 57]⟩ : ByteArray)⟩ : S38), (⟨(⟨#[72, 77, 65, 67, 45, 83, 72, 65, 53, 49, 50]⟩ : ByteArray), 64, (⟨#[72]⟩ : ByteArray), 0, (⟨#[49, 46, 50, 46, 56, 52, 48, 46, 49, 49, 51, 53, 52, 57, 46, 50, 46, 49, 49]⟩ : ByteArray)⟩ : S38), (⟨(⟨#[69, 67, 45, 80, 50, 50, 52]⟩ : ByteArray), 28, (⟨#[69]⟩ : ByteArray), 1, (⟨#[49, 46, 50, 46, 56, 52, 48, 46, 49, 48, 48, 52, 53, 46, 50, 46, 49]⟩ : ByteArray)⟩ : S38), (⟨(⟨#[69, 67, 45, 80, 50, 53, 54]⟩ : ByteArray), 32, (⟨#[69]⟩ : ByteArray), 2, (⟨#[49, 46, 50, 46, 56, 52, 48, 46, 49, 48, 48, 52, 53, 46, 50, 46, 49]⟩ : ByteArray)⟩ : S38), (⟨(⟨#[69, 67, 45, 80, 51, 56, 52]⟩ : ByteArray), 48, (⟨#[69]⟩ : ByteArray), 3, (⟨#[49, 46, 50, 46, 56, 52, 48, 46, 49, 48, 48, 52, 53, 46, 50, 46, 49]⟩ : ByteArray)⟩ : S38), (⟨(⟨#[69, 67, 45, 80, 53, 50, 49]⟩ : ByteArray), 66, (⟨#[69]⟩ : ByteArray), 4, (⟨#[49, 46, 50, 46, 56, 52, 48, 46, 49, 48, 48, 52, 53, 46, 50, 46, 49]⟩ : ByteArray)⟩ : S38)] : List (S38)))) = some r := h
  clear h
  obtain ⟨y101, hy101⟩ : ∃ y_ : List (S38), y_ = (([(⟨(⟨#[]⟩ : ByteArray), 0, (⟨#[]⟩ : ByteArray), 0, (⟨#[]⟩ : ByteArray)⟩ : S38), (⟨(⟨#[65, 69, 83, 45, 49, 50, 56]⟩ : ByteArray), 16, (⟨#[65]⟩ : ByteArray), 0, (⟨#[50, 46, 49, 54, 46, 56, 52, 48, 46, 49, 46, 49, 48, 49, 46, 51, 46, 52, 46, 49, 46, 49]⟩ : ByteArray)⟩ : S38), (⟨(⟨#[65, 69, 83, 45, 49, 57, 50]⟩ : ByteArray), 24, (⟨#[65]⟩ : ByteArray), 0, (⟨#[50, 46, 49, 54, 46, 56, 52, 48, 46, 49, 46, 49, 48, 49, 46, 51, 46, 52, 46, 49, 46, 50, 49]⟩ : ByteArray)⟩ : S38), (⟨(⟨#[65, 69, 83, 45, 50, 53, 54]⟩ : ByteArray), 32, (⟨#[65]⟩ : ByteArray), 0, (⟨#[50, 46, 49, 54, 46, 56, 52, 48, 46, 49, 46, 49, 48, 49, 46, 51, 46, 52, 46, 49, 46, 52, 49]⟩ : ByteArray)⟩ : S38), (⟨(⟨#[84, 68, 69, 83, 45, 50]⟩ : ByteArray), 16, (⟨#[84]⟩ : ByteArray), 0, (⟨#[49, 46, 50, 46, 56, 52, 48, 46, 49, 49, 51, 53, 52, 57, 46, 51, 46, 55]⟩ : ByteArray)⟩ : S38), (⟨(⟨#[84, 68, 69, 83, 45, 51]⟩ : ByteArray), 24, (⟨#[84]⟩ : ByteArray), 0, (⟨#[49, 46, 50, 46, 56, 52, 48, 46, 49, 49, 51, 53, 52, 57, 46, 51, 46, 55]⟩ : ByteArray)⟩ : S38), (⟨(⟨#[72, 77, 65, 67, 45, 83, 72, 65, 50, 53, 54]⟩ : ByteArray), 32, (⟨#[72]⟩ : ByteArray), 0, (⟨#[49, 46, 50, 46, 56, 52, 48, 46, 49, 49, 51, 53, 52, 57, 46, 50, 46, 57]⟩ : ByteArray)⟩ : S38), (⟨(⟨#[72, 77, 65, 67, 45, 83, 72, 65, 53, 49, 50]⟩ : ByteArray), 64, (⟨#[72]⟩ : ByteArray), 0, (⟨#[49, 46, 50, 46, 56, 52, 48, 46, 49, 49, 51, 53, 52, 57, 46, 50, 46, 49, 49]⟩ : ByteArray)⟩ : S38), (⟨(⟨#[69, 67, 45, 80, 50, 50, 52]⟩ : ByteArray), 28, (⟨#[69]⟩ : ByteArray), 1, (⟨#[49, 46, 50, 46, 56, 52, 48, 46, 49, 48, 48, 52, 53, 46, 50, 46, 49]⟩ : ByteArray)⟩ : S38), (⟨(⟨#[69, 67, 45, 80, 50, 53, 54]⟩ : ByteArray), 32, (⟨#[69]⟩ : ByteArray), 2, (⟨#[49, 46, 50, 46, 56, 52, 48, 46, 49, 48, 48, 52, 53, 46, 50, 46, 49]⟩ : ByteArray)⟩ : S38), (⟨(⟨#[69, 67, 45, 80, 51, 56, 52]⟩ : ByteArray), 48, (⟨#[69]⟩ : ByteArray), 3, (⟨#[49, 46, 50, 46, 56, 52, 48, 46, 49, 48, 48, 52, 53, 46, 50, 46, 49]⟩ : ByteArray)⟩ : S38), (⟨(⟨#[69, 67, 45, 80, 53, 50, 49]⟩ : ByteArray), 66, (⟨#[69]⟩ : ByteArray), 4, (⟨#[49, 46, 50, 46, 56, 52, 48, 46, 49, 48, 48, 52, 53, 46, 50, 46, 49]⟩ : ByteArray)⟩ : S38)] : List (S38))) := ⟨_, rfl⟩
  replace H : (some y101) = some r := by first | (rw [hy101]; with_reducible exact H) | (have H2_ := (Option.bind_some _ _).symm.trans H; rw [hy101]; with_reducible exact H2_) | (have H2_ := (Option.bind_some _ _).symm.trans H; with_reducible exact H2_) | with_reducible exact H | (rw [hy101]; exact H) | exact H
  have Ny101 := Aside0.mk hy101
  clear hy101
  obtain rfl := Option.some.inj H
  go_enter Tryz.func29, Tryz.ntmps29
  go_wp2_with (first | ((with_reducible refine gate_dst (N := 13) rfl ?_); refine Kd.R_lit k38 _ 38 ?hg (N := 13) ?hd (xs := ([(⟨(⟨#[]⟩ : ByteArray), 0, (⟨#[]⟩ : ByteArray), 0, (⟨#[]⟩ : ByteArray)⟩ : S38), (⟨(⟨#[65, 69, 83, 45, 49, 50, 56]⟩ : ByteArray), 16, (⟨#[65]⟩ : ByteArray), 0, (⟨#[50, 46, 49, 54, 46, 56, 52, 48, 46, 49, 46, 49, 48, 49, 46, 51, 46, 52, 46, 49, 46, 49]⟩ : ByteArray)⟩ : S38), (⟨(⟨#[65, 69, 83, 45, 49, 57, 50]⟩ : ByteArray), 24, (⟨#[65]⟩ : ByteArray), 0, (⟨#[50, 46, 49, 54, 46, 56, 52, 48, 46, 49, 46, 49, 48, 49, 46, 51, 46, 52, 46, 49, 46, 50, 49]⟩ : ByteArray)⟩ : S38), (⟨(⟨#[65, 69, 83, 45, 50, 53, 54]⟩ : ByteArray), 32, (⟨#[65]⟩ : ByteArray), 0, (⟨#[50, 46, 49, 54, 46, 56, 52, 48, 46, 49, 46, 49, 48, 49, 46, 51, 46, 52, 46, 49, 46, 52, 49]⟩ : ByteArray)⟩ : S38), (⟨(⟨#[84, 68, 69, 83, 45, 50]⟩ : ByteArray), 16, (⟨#[84]⟩ : ByteArray), 0, (⟨#[49, 46, 50, 46, 56, 52, 48, 46, 49, 49, 51, 53, 52, 57, 46, 51, 46, 55]⟩ : ByteArray)⟩ : S38), (⟨(⟨#[84, 68, 69, 83, 45, 51]⟩ : ByteArray), 24, (⟨#[84]⟩ : ByteArray), 0, (⟨#[49, 46, 50, 46, 56, 52, 48, 46, 49, 49, 51, 53, 52, 57, 46, 51, 46, 55]⟩ : ByteArray)⟩ : S38), (⟨(⟨#[72, 77, 65, 67, 45, 83, 72, 65, 50, 53, 54]⟩ : ByteArray), 32, (⟨#[72]⟩ : ByteArray), 0, (⟨#[49, 46, 50, 46, 56, 52, 48, 46, 49, 49, 51, 53, 52, 57, 46, 50, 46, 57]⟩ : ByteArray)⟩ : S38), (⟨(⟨#[72, 77, 65, 67, 45, 83, 72, 65, 53, 49, 50]⟩ : ByteArray), 64, (⟨#[72]⟩ : ByteArray), 0, (⟨#[49, 46, 50, 46, 56, 52, 48, 46, 49, 49, 51, 53, 52, 57, 46, 50, 46, 49, 49]⟩ : ByteArray)⟩ : S38), (⟨(⟨#[69, 67, 45, 80, 50, 50, 52]⟩ : ByteArray), 28, (⟨#[69]⟩ : ByteArray), 1, (⟨#[49, 46, 50, 46, 56, 52, 48, 46, 49, 48, 48, 52, 53, 46, 50, 46, 49]⟩ : ByteArray)⟩ : S38), (⟨(⟨#[69, 67, 45, 80, 50, 53, 54]⟩ : ByteArray), 32, (⟨#[69]⟩ : ByteArray), 2, (⟨#[49, 46, 50, 46, 56, 52, 48, 46, 49, 48, 48, 52, 53, 46, 50, 46, 49]⟩ : ByteArray)⟩ : S38), (⟨(⟨#[69, 67, 45, 80, 51, 56, 52]⟩ : ByteArray), 48, (⟨#[69]⟩ : ByteArray), 3, (⟨#[49, 46, 50, 46, 56, 52, 48, 46, 49, 48, 48, 52, 53, 46, 50, 46, 49]⟩ : ByteArray)⟩ : S38), (⟨(⟨#[69, 67, 45, 80, 53, 50, 49]⟩ : ByteArray), 66, (⟨#[69]⟩ : ByteArray), 4, (⟨#[49, 46, 50, 46, 56, 52, 48, 46, 49, 48, 48, 52, 53, 46, 50, 46, 49]⟩ : ByteArray)⟩ : S38)] : List (S38))) (inner := [.string (⟨#[]⟩ : ByteArray), .int .i64 0, .string (⟨#[]⟩ : ByteArray), .int .i64 0, .string (⟨#[]⟩ : ByteArray), .string (⟨#[65, 69, 83, 45, 49, 50, 56]⟩ : ByteArray), .int .i64 16, .string (⟨#[65]⟩ : ByteArray), .int .i64 0, .string (⟨#[50, 46, 49, 54, 46, 56, 52, 48, 46, 49, 46, 49, 48, 49, 46, 51, 46, 52, 46, 49, 46, 49]⟩ : ByteArray), .string (⟨#[65, 69, 83, 45, 49, 57, 50]⟩ : ByteArray), .int .i64 24, .string (⟨#[65]⟩ : ByteArray), .int .i64 0, .string (⟨#[50, 46, 49, 54, 46, 56, 52, 48, 46, 49, 46, 49, 48, 49, 46, 51, 46, 52, 46, 49, 46, 50, 49]⟩ : ByteArray), .string (⟨#[65, 69, 83, 45, 50, 53, 54]⟩ : ByteArray), .int .i64 32, .string (⟨#[65]⟩ : ByteArray), .int .i64 0, .string (⟨#[50, 46, 49, 54, 46, 56, 52, 48, 46, 49, 46, 49, 48, 49, 46, 51, 46, 52, 46, 49, 46, 52, 49]⟩ : ByteArray), .string (⟨#[84, 68, 69, 83, 45, 50]⟩ : ByteArray), .int .i64 16, .string (⟨#[84]⟩ : ByteArray), .int .i64 0, .string (⟨#[49, 46, 50, 46, 56, 52, 48, 46, 49, 49, 51, 53, 52, 57, 46, 51, 46, 55]⟩ : ByteArray), .string (⟨#[84, 68, 69, 83, 45, 51]⟩ : ByteArray), .int .i64 24, .string (⟨#[84]⟩ : ByteArray), .int .i64 0, .string (⟨#[49, 46, 50, 46, 56, 52, 48, 46, 49, 49, 51, 53, 52, 57, 46, 51, 46, 55]⟩ : ByteArray), .string (⟨#[72, 77, 65, 67, 45, 83, 72, 65, 50, 53, 54]⟩ : ByteArray), .int .i64 32, .string (⟨#[72]⟩ : ByteArray), .int .i64 0, .string (⟨#[49, 46, 50, 46, 56, 52, 48, 46, 49, 49, 51, 53, 52, 57, 46, 50, 46, 57]⟩ : ByteArray), .string (⟨#[72, 77, 65, 67, 45, 83, 72, 65, 53, 49, 50]⟩ : ByteArray), .int .i64 64, .string (⟨#[72]⟩ : ByteArray), .int .i64 0, .string (⟨#[49, 46, 50, 46, 56, 52, 48, 46, 49, 49, 51, 53, 52, 57, 46, 50, 46, 49, 49]⟩ : ByteArray), .string (⟨#[69, 67, 45, 80, 50, 50, 52]⟩ : ByteArray), .int .i64 28, .string (⟨#[69]⟩ : ByteArray), .int .i64 1, .string (⟨#[49, 46, 50, 46, 56, 52, 48, 46, 49, 48, 48, 52, 53, 46, 50, 46, 49]⟩ : ByteArray), .string (⟨#[69, 67, 45, 80, 50, 53, 54]⟩ : ByteArray), .int .i64 32, .string (⟨#[69]⟩ : ByteArray), .int .i64 2, .string (⟨#[49, 46, 50, 46, 56, 52, 48, 46, 49, 48, 48, 52, 53, 46, 50, 46, 49]⟩ : ByteArray), .string (⟨#[69, 67, 45, 80, 51, 56, 52]⟩ : ByteArray), .int .i64 48, .string (⟨#[69]⟩ : ByteArray), .int .i64 3, .string (⟨#[49, 46, 50, 46, 56, 52, 48, 46, 49, 48, 48, 52, 53, 46, 50, 46, 49]⟩ : ByteArray), .string (⟨#[69, 67, 45, 80, 53, 50, 49]⟩ : ByteArray), .int .i64 66, .string (⟨#[69]⟩ : ByteArray), .int .i64 4, .string (⟨#[49, 46, 50, 46, 56, 52, 48, 46, 49, 48, 48, 52, 53, 46, 50, 46, 49]⟩ : ByteArray)]) (ok := fun _ => True) (okp := fun _ => True) ?hr ?hp (fun _ hk => hk) trivial (Below.refl _ _) (Nat.le_refl _) (by simp) ?_; (case hd => rfl); (case hg => rfl); (case hr => first | (go_simp; done) | (go_simp; rfl)); (case hp => exact (Reps.c5 (show Kd.M k38 _ _ _ (⟨(⟨#[]⟩ : ByteArray), 0, (⟨#[]⟩ : ByteArray), 0, (⟨#[]⟩ : ByteArray)⟩ : S38) [.string (⟨#[]⟩ : ByteArray), .int .i64 0, .string (⟨#[]⟩ : ByteArray), .int .i64 0, .string (⟨#[]⟩ : ByteArray)] from (k38_mkM _ _ _ (⟨(⟨#[]⟩ : ByteArray), 0, (⟨#[]⟩ : ByteArray), 0, (⟨#[]⟩ : ByteArray)⟩ : S38) )) (Reps.c5 (show Kd.M k38 _ _ _ (⟨(⟨#[65, 69, 83, 45, 49, 50, 56]⟩ : ByteArray), 16, (⟨#[65]⟩ : ByteArray), 0, (⟨#[50, 46, 49, 54, 46, 56, 52, 48, 46, 49, 46, 49, 48, 49, 46, 51, 46, 52, 46, 49, 46, 49]⟩ : ByteArray)⟩ : S38) [.string (⟨#[65, 69, 83, 45, 49, 50, 56]⟩ : ByteArray), .int .i64 16, .string (⟨#[65]⟩ : ByteArray), .int .i64 0, .string (⟨#[50, 46, 49, 54, 46, 56, 52, 48, 46, 49, 46, 49, 48, 49, 46, 51, 46, 52, 46, 49, 46, 49]⟩ : ByteArray)] from (k38_mkM _ _ _ (⟨(⟨#[65, 69, 83, 45, 49, 50, 56]⟩ : ByteArray), 16, (⟨#[65]⟩ : ByteArray), 0, (⟨#[50, 46, 49, 54, 46, 56, 52, 48, 46, 49, 46, 49, 48, 49, 46, 51, 46, 52, 46, 49, 46, 49]⟩ : ByteArray)⟩ : S38) )) (Reps.c5 (show Kd.M k38 _ _ _ (⟨(⟨#[65, 69, 83, 45, 49, 57, 50]⟩ : ByteArray), 24, (⟨#[65]⟩ : ByteArray), 0, (⟨#[50, 46, 49, 54, 46, 56, 52, 48, 46, 49, 46, 49, 48, 49, 46, 51, 46, 52, 46, 49, 46, 50, 49]⟩ : ByteArray)⟩ : S38) [.string (⟨#[65, 69, 83, 45, 49, 57, 50]⟩ : ByteArray), .int .i64 24, .string (⟨#[65]⟩ : ByteArray), .int .i64 0, .string (⟨#[50, 46, 49, 54, 46, 56, 52, 48, 46, 49, 46, 49, 48, 49, 46, 51, 46, 52, 46, 49, 46, 50, 49]⟩ : ByteArray)] from (k38_mkM _ _ _ (⟨(⟨#[65, 69, 83, 45, 49, 57, 50]⟩ : ByteArray), 24, (⟨#[65]⟩ : ByteArray), 0, (⟨#[50, 46, 49, 54, 46, 56, 52, 48, 46, 49, 46, 49, 48, 49, 46, 51, 46, 52, 46, 49, 46, 50, 49]⟩ : ByteArray)⟩ : S38) )) (Reps.c5 (show Kd.M k38 _ _ _ (⟨(⟨#[65, 69, 83, 45, 50, 53, 54]⟩ : ByteArray), 32, (⟨#[65]⟩ : ByteArray), 0, (⟨#[50, 46, 49, 54, 46, 56, 52, 48, 46, 49, 46, 49, 48, 49, 46, 51, 46, 52, 46, 49, 46, 52, 49]⟩ : ByteArray)⟩ : S38) [.string (⟨#[65, 69, 83, 45, 50, 53, 54]⟩ : ByteArray), .int .i64 32, .string (⟨#[65]⟩ : ByteArray), .int .i64 0, .string (⟨#[50, 46, 49, 54, 46, 56, 52, 48, 46, 49, 46, 49, 48, 49, 46, 51, 46, 52, 46, 49, 46, 52, 49]⟩ : ByteArray)] from (k38_mkM _ _ _ (⟨(⟨#[65, 69, 83, 45, 50, 53, 54]⟩ : ByteArray), 32, (⟨#[65]⟩ : ByteArray), 0, (⟨#[50, 46, 49, 54, 46, 56, 52, 48, 46, 49, 46, 49, 48, 49, 46, 51, 46, 52, 46, 49, 46, 52, 49]⟩ : ByteArray)⟩ : S38) )) (Reps.c5 (show Kd.M k38 _ _ _ (⟨(⟨#[84, 68, 69, 83, 45, 50]⟩ : ByteArray), 16, (⟨#[84]⟩ : ByteArray), 0, (⟨#[49, 46, 50, 46, 56, 52, 48, 46, 49, 49, 51, 53, 52, 57, 46, 51, 46, 55]⟩ : ByteArray)⟩ : S38) [.string (⟨#[84, 68, 69, 83, 45, 50]⟩ : ByteArray), .int .i64 16, .string (⟨#[84]⟩ : ByteArray), .int .i64 0, .string (⟨#[49, 46, 50, 46, 56, 52, 48, 46, 49, 49, 51, 53, 52, 57, 46, 51, 46, 55]⟩ : ByteArray)] from (k38_mkM _ _ _ (⟨(⟨#[84, 68, 69, 83, 45, 50]⟩ : ByteArray), 16, (⟨#[84]⟩ : ByteArray), 0, (⟨#[49, 46, 50, 46, 56, 52, 48, 46, 49, 49, 51, 53, 52, 57, 46, 51, 46, 55]⟩ : ByteArray)⟩ : S38) )) (Reps.c5 (show Kd.M k38 _ _ _ (⟨(⟨#[84, 68, 69, 83, 45, 51]⟩ : ByteArray), 24, (⟨#[84]⟩ : ByteArray), 0, (⟨#[49, 46, 50, 46, 56, 52, 48, 46, 49, 49, 51, 53, 52, 57, 46, 51, 46, 55]⟩ : ByteArray)⟩ : S38) [.string (⟨#[84, 68, 69, 83, 45, 51]⟩ : ByteArray), .int .i64 24, .string (⟨#[84]⟩ : ByteArray), .int .i64 0, .string (⟨#[49, 46, 50, 46, 56, 52, 48, 46, 49, 49, 51, 53, 52, 57, 46, 51, 46, 55]⟩ : ByteArray)] from (k38_mkM _ _ _ (⟨(⟨#[84, 68, 69, 83, 45, 51]⟩ : ByteArray), 24, (⟨#[84]⟩ : ByteArray), 0, (⟨#[49, 46, 50, 46, 56, 52, 48, 46, 49, 49, 51, 53, 52, 57, 46, 51, 46, 55]⟩ : ByteArray)⟩ : S38) )) (Reps.c5 (show Kd.M k38 _ _ _ (⟨(⟨#[72, 77, 65, 67, 45, 83, 72, 65, 50, 53, 54]⟩ : ByteArray), 32, (⟨#[72]⟩ : ByteArray), 0, (⟨#[49, 46, 50, 46, 56, 52, 48, 46, 49, 49, 51, 53, 52, 57, 46, 50, 46, 57]⟩ : ByteArray)⟩ : S38) [.string (⟨#[72, 77, 65, 67, 45, 83, 72, 65, 50, 53, 54]⟩ : ByteArray), .int .i64 32, .string (⟨#[72]⟩ : ByteArray), .int .i64 0, .string (⟨#[49, 46, 50, 46, 56, 52, 48, 46, 49, 49, 51, 53, 52, 57, 46, 50, 46, 57]⟩ : ByteArray)] from (k38_mkM _ _ _ (⟨(⟨#[72, 77, 65, 67, 45, 83, 72, 65, 50, 53, 54]⟩ : ByteArray), 32, (⟨#[72]⟩ : ByteArray), 0, (⟨#[49, 46, 50, 46, 56, 52, 48, 46, 49, 49, 51, 53, 52, 57, 46, 50, 46, 57]⟩ : ByteArray)⟩ : S38) )) (Reps.c5 (show Kd.M k38 _ _ _ (⟨(⟨#[72, 77, 65, 67, 45, 83, 72, 65, 53, 49, 50]⟩ : ByteArray), 64, (⟨#[72]⟩ : ByteArray), 0, (⟨#[49, 46, 50, 46, 56, 52, 48, 46, 49, 49, 51, 53, 52, 57, 46, 50, 46, 49, 49]⟩ : ByteArray)⟩ : S38) [.string (⟨#[72, 77, 65, 67, 45, 83, 72, 65, 53, 49, 50]⟩ : ByteArray), .int .i64 64, .string (⟨#[72]⟩ : ByteArray), .int .i64 0, .string (⟨#[49, 46, 50, 46, 56, 52, 48, 46, 49, 49, 51, 53, 52, 57, 46, 50, 46, 49, 49]⟩ : ByteArray)] from (k38_mkM _ _ _ (⟨(⟨#[72, 77, 65, 67, 45, 83, 72, 65, 53, 49, 50]⟩ : ByteArray), 64, (⟨#[72]⟩ : ByteArray), 0, (⟨#[49, 46, 50, 46, 56, 52, 48, 46, 49, 49, 51, 53, 52, 57, 46, 50, 46, 49, 49]⟩ : ByteArray)⟩ : S38) )) (Reps.c5 (show Kd.M k38 _ _ _ (⟨(⟨#[69, 67, 45, 80, 50, 50, 52]⟩ : ByteArray), 28, (⟨#[69]⟩ : ByteArray), 1, (⟨#[49, 46, 50, 46, 56, 52, 48, 46, 49, 48, 48, 52, 53, 46, 50, 46, 49]⟩ : ByteArray)⟩ : S38) [.string (⟨#[69, 67, 45, 80, 50, 50, 52]⟩ : ByteArray), .int .i64 28, .string (⟨#[69]⟩ : ByteArray), .int .i64 1, .string (⟨#[49, 46, 50, 46, 56, 52, 48, 46, 49, 48, 48, 52, 53, 46, 50, 46, 49]⟩ : ByteArray)] from (k38_mkM _ _ _ (⟨(⟨#[69, 67, 45, 80, 50, 50, 52]⟩ : ByteArray), 28, (⟨#[69]⟩ : ByteArray), 1, (⟨#[49, 46, 50, 46, 56, 52, 48, 46, 49, 48, 48, 52, 53, 46, 50, 46, 49]⟩ : ByteArray)⟩ : S38) )) (Reps.c5 (show Kd.M k38 _ _ _ (⟨(⟨#[69, 67, 45, 80, 50, 53, 54]⟩ : ByteArray), 32, (⟨#[69]⟩ : ByteArray), 2, (⟨#[49, 46, 50, 46, 56, 52, 48, 46, 49, 48, 48, 52, 53, 46, 50, 46, 49]⟩ : ByteArray)⟩ : S38) [.string (⟨#[69, 67, 45, 80, 50, 53, 54]⟩ : ByteArray), .int .i64 32, .string (⟨#[69]⟩ : ByteArray), .int .i64 2, .string (⟨#[49, 46, 50, 46, 56, 52, 48, 46, 49, 48, 48, 52, 53, 46, 50, 46, 49]⟩ : ByteArray)] from (k38_mkM _ _ _ (⟨(⟨#[69, 67, 45, 80, 50, 53, 54]⟩ : ByteArray), 32, (⟨#[69]⟩ : ByteArray), 2, (⟨#[49, 46, 50, 46, 56, 52, 48, 46, 49, 48, 48, 52, 53, 46, 50, 46, 49]⟩ : ByteArray)⟩ : S38) )) (Reps.c5 (show Kd.M k38 _ _ _ (⟨(⟨#[69, 67, 45, 80, 51, 56, 52]⟩ : ByteArray), 48, (⟨#[69]⟩ : ByteArray), 3, (⟨#[49, 46, 50, 46, 56, 52, 48, 46, 49, 48, 48, 52, 53, 46, 50, 46, 49]⟩ : ByteArray)⟩ : S38) [.string (⟨#[69, 67, 45, 80, 51, 56, 52]⟩ : ByteArray), .int .i64 48, .string (⟨#[69]⟩ : ByteArray), .int .i64 3, .string (⟨#[49, 46, 50, 46, 56, 52, 48, 46, 49, 48, 48, 52, 53, 46, 50, 46, 49]⟩ : ByteArray)] from (k38_mkM _ _ _ (⟨(⟨#[69, 67, 45, 80, 51, 56, 52]⟩ : ByteArray), 48, (⟨#[69]⟩ : ByteArray), 3, (⟨#[49, 46, 50, 46, 56, 52, 48, 46, 49, 48, 48, 52, 53, 46, 50, 46, 49]⟩ : ByteArray)⟩ : S38) )) (Reps.c5 (show Kd.M k38 _ _ _ (⟨(⟨#[69, 67, 45, 80, 53, 50, 49]⟩ : ByteArray), 66, (⟨#[69]⟩ : ByteArray), 4, (⟨#[49, 46, 50, 46, 56, 52, 48, 46, 49, 48, 48, 52, 53, 46, 50, 46, 49]⟩ : ByteArray)⟩ : S38) [.string (⟨#[69, 67, 45, 80, 53, 50, 49]⟩ : ByteArray), .int .i64 66, .string (⟨#[69]⟩ : ByteArray), .int .i64 4, .string (⟨#[49, 46, 50, 46, 56, 52, 48, 46, 49, 48, 48, 52, 53, 46, 50, 46, 49]⟩ : ByteArray)] from (k38_mkM _ _ _ (⟨(⟨#[69, 67, 45, 80, 53, 50, 49]⟩ : ByteArray), 66, (⟨#[69]⟩ : ByteArray), 4, (⟨#[49, 46, 50, 46, 56, 52, 48, 46, 49, 48, 48, 52, 53, 46, 50, 46, 49]⟩ : ByteArray)⟩ : S38) )) (Reps.none _ _)))))))))))))); intro v102 w1 ho2 hb hg_ hnew_; clear hg_ hnew_; (first | rw [← Ny101.out] at ho2 | (simp only [Int.reduceToNat] at ho2; rw [← Ny101.out] at ho2)); have n0_ := Aside0.mk (Kd.R_lower ho2 (below_size (by repeat (first | (with_reducible first | exact HB.out | apply below_alloc | apply pw_below_drewN | apply below_drew1) | exact HB.out)))); have n1_ := Aside0.mk (below_step (by repeat (first | (with_reducible first | exact HB.out | apply below_alloc | apply pw_below_drewN | apply below_drew1) | exact HB.out)) hb); clear HB; have HO103 := n0_; have HB := n1_; clear n0_ n1_; clear hb ho2))
  go_ret
  exact ⟨_, by first | rfl | (simp [errW_none, errW_some] <;> rfl) | (simp [*, errW_none, errW_some] <;> rfl), by (with_reducible repeat (first | apply Kd.R_alloc | apply Kd.R_drewN | apply Kd.R_drew)); exact HO103.out, by repeat (first | (with_reducible first | exact HB.out | apply below_alloc | apply pw_below_drewN | apply below_drew1) | exact HB.out)⟩

/-! ### kind_first: function 24 (a text given by hand: kind.tmpl) -/
def kind_first.l0 (p : S38 → Bool) : Nat → List S38 → Int → Option (Int × Bool)
  | 0, _, _ => none
  | k + 1, t, i => if i < (t.length : Int) then (if 0 ≤ i then (if i > 0 then (if p (rd_T38 t i) = true then some (i, true) else kind_first.l0 p k t (wrap64 (i + 1))) else kind_first.l0 p k t (wrap64 (i + 1))) else none) else some (0, false)
def kind_first.f (p : S38 → Bool) : Option (Int × Bool) := (kind_table.f).bind fun t => kind_first.l0 p 20 t 0
set_option maxHeartbeats 8000000 in
set_option maxRecDepth 100000 in
theorem kind_first.calls (g : Nat) (lb : Array Value) (p : S38 → Bool) (r1 : Int) (r2 : Bool) (w : World) (eg : ∀ args w, (callFunc g args).run Tryz.prog w = .ok (.enter g args) w)
    (hp : ∀ (W : World) (x : S38), Below w.heap.size w W → Calls Tryz.prog g (#[.agg #[.string x.f0, .int .i64 x.f1, .string x.f2, .int .i64 x.f3, .string x.f4]] ++ lb) W fun e w' => e = .returned (.bool (p x)) ∧ Below W.heap.size W w')
    (h : kind_first.f p = some (r1, r2)) :
    Calls Tryz.prog 24 #[.func (.func g) #[] lb] w fun e w' => e = .returned (.tuple #[.int .i64 r1, .bool r2]) ∧ Below w.heap.size w w' := by
  have hu := Tryz.underlying38
  have HB := Aside0.mk (Below.refl w.heap.size w)
  have HP := Aside0.mk hp
  clear hp
  unfold kind_first.f at h
  obtain ⟨t, A20, H⟩ := Option.bind_eq_some_iff.mp h
  clear h
  have A2 := Aside0.mk A20
  clear A20
  have H' := Aside0.mk H
  clear H
  go_enter Tryz.func24, Tryz.ntmps24
  go_wp2_with (first | ((with_reducible refine gate_callee (f := 29) rfl ?_); refine goesL_ (some 6) rfl rfl Tryz.func29 (by kernel_rfl) rfl #[] rfl (by (try simp only [List.map_toArray, List.map_cons, List.map_nil]); first | done | rfl) ?_; (with_reducible refine (kind_table.calls  t _ A2.out).mono ?_); rintro e w3 ⟨v164, rfl, ho0, hb⟩; refine ⟨_, rfl, ?_⟩; have n0_ := Aside0.mk (Kd.R_lower ho0 (below_size (by repeat (first | (with_reducible first | exact HB.out | apply below_alloc | apply pw_below_drewN | apply below_drew1) | exact HB.out)))); have n1_ := Aside0.mk (below_step (by repeat (first | (with_reducible first | exact HB.out | apply below_alloc | apply pw_below_drewN | apply below_drew1) | exact HB.out)) hb); clear HB; have HO := n0_; have HB := n1_; clear n0_ n1_; (try clear hb); (try clear ho0); obtain ⟨Ao4, co4, eo4⟩ := Kd.R_slice HO.out; subst eo4))
  go_loopg [8] 20 (fun kq v8 w' => ∃ (i : Int), v8 = .int .i64 i ∧ Aside0 (kind_first.l0 p kq t i = some (r1, r2)) ∧ Aside0 (Kd.R k38 38 w' w.heap.size (fun _ => True) (.slice Ao4 t.length co4) t) ∧ Aside0 (Below w.heap.size w w'))
  case atStart => exact ⟨(0), rfl, H', ⟨by (with_reducible repeat (first | apply Kd.R_alloc | apply Kd.R_drewN | apply Kd.R_drew)); exact HO.out⟩, ⟨by repeat (first | (with_reducible first | exact HB.out | apply below_alloc | apply pw_below_drewN | apply below_drew1) | exact HB.out)⟩⟩
  case round =>
    clear H' HO HB
    obtain ⟨i, rfl, HA, HO_6, HB⟩ := hrel
    cases gk with
    | zero => exact absurd HA.out (by simp [kind_first.l0])
    | succ k1 =>
      have H := HA.out
      clear HA
      simp only [kind_first.l0] at H
      by_cases c5 : i < (t.length : Int)
      · rw [if_pos c5] at H
        have c5b0 : decide (i < (t.length : Int)) = true := decide_eq_true c5
        by_cases c6 : 0 ≤ i
        · rw [if_pos c6] at H
          have c6b0 : decide (0 ≤ i) = true := decide_eq_true c6
          obtain ⟨ad166, e166, hx166_0, hx166_1, hx166_2, hx166_3, hx166_4⟩ := at_T38 (Kd.R_reads' HO_6.out).2.2 i c6 c5
          cases e166
          have p166 : (0 ≤ i) = True := eq_true c6
          have q166 : (i < (t.length : Int)) = True := eq_true c5
          clear c5 c6
          by_cases c7 : i > 0
          · rw [if_pos c7] at H
            have c7b0 : decide (0 < i) = true := decide_eq_true c7
            clear c7
            cases hq : p (rd_T38 t i) with
            | true =>
              have hq2 := Aside0.mk hq
              rw [if_pos hq] at H
              clear hq
              simp only [Option.some.injEq, Prod.mk.injEq] at H
              obtain ⟨rfl, rfl⟩ := H
              go_wp2_with (first | ((with_reducible refine gate_dst (N := 5) rfl ?_); refine box_event ?hg (N := 5) ?hd (cs := #[.string (⟨#[]⟩ : ByteArray), .int .i64 0, .string (⟨#[]⟩ : ByteArray), .int .i64 0, .string (⟨#[]⟩ : ByteArray)]) (t := 38) ?hr ?_; (case hd => rfl); (case hg => rfl); (case hr => first | (go_simp; done) | (go_simp; rfl)); intro gb167 hg w12 hbox hb; have n0_ := Aside0.mk (Kd.R_below (Kd.R_elderB (by (with_reducible repeat (first | apply Kd.R_alloc | apply Kd.R_drewN | apply Kd.R_drew)); exact HO_6.out) gb167 (Nat.le_of_eq hg.symm)) hb); have n1_ := Aside0.mk (below_step (by repeat (first | (with_reducible first | exact HB.out | apply below_alloc | apply pw_below_drewN | apply below_drew1) | exact HB.out)) hb); have n2_ := Aside0.mk (hbox); have n4_ := Aside0.mk ((by rw [hg]; exact (below_size (by repeat (first | (with_reducible first | exact HB.out | apply below_alloc | apply pw_below_drewN | apply below_drew1) | exact HB.out))) : w.heap.size ≤ gb167)); clear HO_6; clear HB; have HO_6 := n0_; have HB := n1_; have BK167 := n2_; have GE167 := n4_; clear n0_ n1_ n2_ n4_; clear hb hbox hg; have hcz13_0 : w12.cell? ⟨gb167, 0, none⟩ = some (.string (⟨#[]⟩ : ByteArray)) := (blk_cell BK167.out 0).trans rfl; have hcz13_1 : w12.cell? ⟨gb167, 1, none⟩ = some (.int .i64 0) := (blk_cell BK167.out 1).trans rfl; have hcz13_2 : w12.cell? ⟨gb167, 2, none⟩ = some (.string (⟨#[]⟩ : ByteArray)) := (blk_cell BK167.out 2).trans rfl; have hcz13_3 : w12.cell? ⟨gb167, 3, none⟩ = some (.int .i64 0) := (blk_cell BK167.out 3).trans rfl; have hcz13_4 : w12.cell? ⟨gb167, 4, none⟩ = some (.string (⟨#[]⟩ : ByteArray)) := (blk_cell BK167.out 4).trans rfl; have hfz13_0 := blk_frozen BK167.out 0; have hfz13_1 := blk_frozen BK167.out 1; have hfz13_2 := blk_frozen BK167.out 2; have hfz13_3 := blk_frozen BK167.out 3; have hfz13_4 := blk_frozen BK167.out 4) | (go_at_fn g; refine (HP.out _ (rd_T38 t i) ?hB_).mono ?_; (case hB_ => repeat (first | (with_reducible first | exact HB.out | apply below_alloc | apply pw_below_drewN | apply below_drew1 | refine below_set ?_ GE167.out) | exact HB.out)); rintro e w9 ⟨rfl, hb⟩; rw [hq2.out]; have n1_ := Aside0.mk (below_step (by repeat (first | (with_reducible first | exact HB.out | apply below_alloc | apply pw_below_drewN | apply below_drew1 | refine below_set ?_ GE167.out) | exact HB.out)) hb); clear HB; have HB := n1_; clear n1_ hb))
              go_ret2
              exact ⟨rfl, by repeat (first | (with_reducible first | exact HB.out | apply below_alloc | apply pw_below_drewN | apply below_drew1) | exact HB.out)⟩
            | false =>
              have hq2 := Aside0.mk hq
              rw [if_neg (by rw [hq]; decide)] at H
              clear hq
              have H' := Aside0.mk H
              clear H
              go_wp2_with (first | ((with_reducible refine gate_dst (N := 5) rfl ?_); refine box_event ?hg (N := 5) ?hd (cs := #[.string (⟨#[]⟩ : ByteArray), .int .i64 0, .string (⟨#[]⟩ : ByteArray), .int .i64 0, .string (⟨#[]⟩ : ByteArray)]) (t := 38) ?hr ?_; (case hd => rfl); (case hg => rfl); (case hr => first | (go_simp; done) | (go_simp; rfl)); intro gb167 hg w12 hbox hb; have n0_ := Aside0.mk (Kd.R_below (Kd.R_elderB (by (with_reducible repeat (first | apply Kd.R_alloc | apply Kd.R_drewN | apply Kd.R_drew)); exact HO_6.out) gb167 (Nat.le_of_eq hg.symm)) hb); have n1_ := Aside0.mk (below_step (by repeat (first | (with_reducible first | exact HB.out | apply below_alloc | apply pw_below_drewN | apply below_drew1) | exact HB.out)) hb); have n2_ := Aside0.mk (hbox); have n4_ := Aside0.mk ((by rw [hg]; exact (below_size (by repeat (first | (with_reducible first | exact HB.out | apply below_alloc | apply pw_below_drewN | apply below_drew1) | exact HB.out))) : w.heap.size ≤ gb167)); clear HO_6; clear HB; have HO_6 := n0_; have HB := n1_; have BK167 := n2_; have GE167 := n4_; clear n0_ n1_ n2_ n4_; clear hb hbox hg; have hcz13_0 : w12.cell? ⟨gb167, 0, none⟩ = some (.string (⟨#[]⟩ : ByteArray)) := (blk_cell BK167.out 0).trans rfl; have hcz13_1 : w12.cell? ⟨gb167, 1, none⟩ = some (.int .i64 0) := (blk_cell BK167.out 1).trans rfl; have hcz13_2 : w12.cell? ⟨gb167, 2, none⟩ = some (.string (⟨#[]⟩ : ByteArray)) := (blk_cell BK167.out 2).trans rfl; have hcz13_3 : w12.cell? ⟨gb167, 3, none⟩ = some (.int .i64 0) := (blk_cell BK167.out 3).trans rfl; have hcz13_4 : w12.cell? ⟨gb167, 4, none⟩ = some (.string (⟨#[]⟩ : ByteArray)) := (blk_cell BK167.out 4).trans rfl; have hfz13_0 := blk_frozen BK167.out 0; have hfz13_1 := blk_frozen BK167.out 1; have hfz13_2 := blk_frozen BK167.out 2; have hfz13_3 := blk_frozen BK167.out 3; have hfz13_4 := blk_frozen BK167.out 4) | (go_at_fn g; refine (HP.out _ (rd_T38 t i) ?hB_).mono ?_; (case hB_ => repeat (first | (with_reducible first | exact HB.out | apply below_alloc | apply pw_below_drewN | apply below_drew1 | refine below_set ?_ GE167.out) | exact HB.out)); rintro e w9 ⟨rfl, hb⟩; rw [hq2.out]; have n0_ := Aside0.mk (Kd.R_below (by (with_reducible repeat (first | apply Kd.R_alloc | apply Kd.R_drewN | apply Kd.R_drew)); exact Kd.R_mono (Kd.R_far (p := ⟨gb167, 4, none⟩) (Kd.R_far (p := ⟨gb167, 3, none⟩) (Kd.R_far (p := ⟨gb167, 2, none⟩) (Kd.R_far (p := ⟨gb167, 1, none⟩) (Kd.R_far (p := ⟨gb167, 0, none⟩) (Kd.R_mono HO_6.out (fun k_ hk => (⟨hk, hk.2⟩ : _ ∧ k_ ≠ gb167))) (fun _ hk => hk.2) (.string ((rd_T38 t i).f0))) (fun _ hk => hk.2) (.int .i64 ((rd_T38 t i).f1))) (fun _ hk => hk.2) (.string ((rd_T38 t i).f2))) (fun _ hk => hk.2) (.int .i64 ((rd_T38 t i).f3))) (fun _ hk => hk.2) (.string ((rd_T38 t i).f4))) (fun _ hk => trivial)) hb); have n1_ := Aside0.mk (below_step (by repeat (first | (with_reducible first | exact HB.out | apply below_alloc | apply pw_below_drewN | apply below_drew1 | refine below_set ?_ GE167.out) | exact HB.out)) hb); clear HB HO_6; have HO_6 := n0_; have HB := n1_; clear n0_ n1_ hb))
              go_roundg k1
              case measure => omega
              case rel => exact ⟨_, by first | rfl | (simp; done), H', ⟨by (with_reducible repeat (first | apply Kd.R_alloc | apply Kd.R_drewN | apply Kd.R_drew)); exact HO_6.out⟩, ⟨by repeat (first | (with_reducible first | exact HB.out | apply below_alloc | apply pw_below_drewN | apply below_drew1) | exact HB.out)⟩⟩
          · rw [if_neg c7] at H
            have c7b0 : decide (0 < i) = false := decide_eq_false c7
            clear c7
            have H' := Aside0.mk H
            clear H
            go_wp2_with (first | ((with_reducible refine gate_dst (N := 5) rfl ?_); refine box_event ?hg (N := 5) ?hd (cs := #[.string (⟨#[]⟩ : ByteArray), .int .i64 0, .string (⟨#[]⟩ : ByteArray), .int .i64 0, .string (⟨#[]⟩ : ByteArray)]) (t := 38) ?hr ?_; (case hd => rfl); (case hg => rfl); (case hr => first | (go_simp; done) | (go_simp; rfl)); intro gb167 hg w12 hbox hb; have n0_ := Aside0.mk (Kd.R_below (Kd.R_elderB (by (with_reducible repeat (first | apply Kd.R_alloc | apply Kd.R_drewN | apply Kd.R_drew)); exact HO_6.out) gb167 (Nat.le_of_eq hg.symm)) hb); have n1_ := Aside0.mk (below_step (by repeat (first | (with_reducible first | exact HB.out | apply below_alloc | apply pw_below_drewN | apply below_drew1) | exact HB.out)) hb); have n2_ := Aside0.mk (hbox); have n4_ := Aside0.mk ((by rw [hg]; exact (below_size (by repeat (first | (with_reducible first | exact HB.out | apply below_alloc | apply pw_below_drewN | apply below_drew1) | exact HB.out))) : w.heap.size ≤ gb167)); clear HO_6; clear HB; have HO_6 := n0_; have HB := n1_; have BK167 := n2_; have GE167 := n4_; clear n0_ n1_ n2_ n4_; clear hb hbox hg; have hcz13_0 : w12.cell? ⟨gb167, 0, none⟩ = some (.string (⟨#[]⟩ : ByteArray)) := (blk_cell BK167.out 0).trans rfl; have hcz13_1 : w12.cell? ⟨gb167, 1, none⟩ = some (.int .i64 0) := (blk_cell BK167.out 1).trans rfl; have hcz13_2 : w12.cell? ⟨gb167, 2, none⟩ = some (.string (⟨#[]⟩ : ByteArray)) := (blk_cell BK167.out 2).trans rfl; have hcz13_3 : w12.cell? ⟨gb167, 3, none⟩ = some (.int .i64 0) := (blk_cell BK167.out 3).trans rfl; have hcz13_4 : w12.cell? ⟨gb167, 4, none⟩ = some (.string (⟨#[]⟩ : ByteArray)) := (blk_cell BK167.out 4).trans rfl; have hfz13_0 := blk_frozen BK167.out 0; have hfz13_1 := blk_frozen BK167.out 1; have hfz13_2 := blk_frozen BK167.out 2; have hfz13_3 := blk_frozen BK167.out 3; have hfz13_4 := blk_frozen BK167.out 4))
            go_roundg k1
            case measure => omega
            case rel => exact ⟨_, by first | rfl | (simp; done), H', ⟨by (with_reducible repeat (first | apply Kd.R_alloc | apply Kd.R_drewN | apply Kd.R_drew)); exact Kd.R_mono (Kd.R_far (p := ⟨gb167, 4, none⟩) (Kd.R_far (p := ⟨gb167, 3, none⟩) (Kd.R_far (p := ⟨gb167, 2, none⟩) (Kd.R_far (p := ⟨gb167, 1, none⟩) (Kd.R_far (p := ⟨gb167, 0, none⟩) (Kd.R_mono HO_6.out (fun k_ hk => (⟨hk, hk.2⟩ : _ ∧ k_ ≠ gb167))) (fun _ hk => hk.2) (.string ((rd_T38 t i).f0))) (fun _ hk => hk.2) (.int .i64 ((rd_T38 t i).f1))) (fun _ hk => hk.2) (.string ((rd_T38 t i).f2))) (fun _ hk => hk.2) (.int .i64 ((rd_T38 t i).f3))) (fun _ hk => hk.2) (.string ((rd_T38 t i).f4))) (fun _ hk => trivial)⟩, ⟨by repeat (first | (with_reducible first | exact HB.out | apply below_alloc | apply pw_below_drewN | apply below_drew1 | refine below_set ?_ GE167.out) | exact HB.out)⟩⟩
        · rw [if_neg c6] at H; cases H
      · rw [if_neg c5] at H
        have c5b0 : decide (i < (t.length : Int)) = false := decide_eq_false c5
        clear c5
        simp only [Option.some.injEq, Prod.mk.injEq] at H
        obtain ⟨rfl, rfl⟩ := H
        go_wp2
        go_ret2
        exact ⟨rfl, by repeat (first | (with_reducible first | exact HB.out | apply below_alloc | apply pw_below_drewN | apply below_drew1) | exact HB.out)⟩

/-! ### kind_Of: function 7 (a text given by hand: kind.tmpl) -/
theorem kind_Of.body (pl ps : Nat) (letter : ByteArray) (size : Int) (x : S38) (W : World) (hl : W.cell? ⟨pl, 0, none⟩ = some (.string letter)) (hs : W.cell? ⟨ps, 0, none⟩ = some (.int .i64 size)) :
    Calls Tryz.prog 28 (#[.agg #[.string x.f0, .int .i64 x.f1, .string x.f2, .int .i64 x.f3, .string x.f4]] ++ #[.pointer (some ⟨pl, 0, none⟩), .pointer (some ⟨ps, 0, none⟩)]) W fun e w' => e = .returned (.bool ((x.f2.toList == letter.toList) && (x.f1 == size))) ∧ Below W.heap.size W w' := by
  have hl1 : ∀ o, (W.alloc o).cell? ⟨pl, 0, none⟩ = some (.string letter) := fun o => by rw [World.cell?_alloc_lt _ _ _ (World.block_lt_of_cell? _ _ hl)]; exact hl
  have hs1 : ∀ o, (W.alloc o).cell? ⟨ps, 0, none⟩ = some (.int .i64 size) := fun o => by rw [World.cell?_alloc_lt _ _ _ (World.block_lt_of_cell? _ _ hs)]; exact hs
  cases h1 : (x.f2.toList == letter.toList) <;> cases h2 : (x.f1 == size)
  all_goals
    go_enter Tryz.func28, Tryz.ntmps28
    go_wp2
    go_ret
    exact ⟨by simp [h1, h2], by repeat (first | exact Below.refl _ _ | apply below_alloc | apply pw_below_drewN | apply below_drew1)⟩
def kind_Of.f (a0 : ByteArray) (a1 : Int) : Option (Int × Bool) := kind_first.f (fun x => (x.f2.toList == a0.toList) && (x.f1 == a1))
set_option maxHeartbeats 8000000 in
set_option maxRecDepth 100000 in
theorem kind_Of.calls (a0 : ByteArray) (a1 : Int) (r1 : Int) (r2 : Bool) (w : World) (h : kind_Of.f a0 a1 = some (r1, r2)) :
    Calls Tryz.prog 7 #[.string a0, .int .i64 a1] w fun e w' => e = .returned (.tuple #[.int .i64 r1, .bool r2]) ∧ Below w.heap.size w w' := by
  have hc1 : ((w.alloc (.cells #[.string a0] 9)).alloc (.cells #[.int .i64 a1] 3)).cell? ⟨w.heap.size, 0, none⟩ = some (.string a0) := by
    rw [World.cell?_alloc_lt _ _ _ (by simp), World.cell?_alloc_new]
    rfl
  have hc2 : ((w.alloc (.cells #[.string a0] 9)).alloc (.cells #[.int .i64 a1] 3)).cell? ⟨w.heap.size + 1, 0, none⟩ = some (.int .i64 a1) := by
    rw [show w.heap.size + 1 = (w.alloc (.cells #[.string a0] 9)).heap.size by simp, World.cell?_alloc_new]
    rfl
  have HC := Aside0.mk (And.intro hc1 hc2)
  clear hc1 hc2
  go_enter Tryz.func7, Tryz.ntmps7
  go_wp2_with (go_at_call 24; refine (kind_first.calls 28 #[.pointer (some ⟨w.heap.size, 0, none⟩), .pointer (some ⟨w.heap.size + 1, 0, none⟩)] (fun x => (x.f2.toList == a0.toList) && (x.f1 == a1)) r1 r2 _ (enters_of Tryz.func28 (by kernel_rfl) rfl) ?hp_ h).mono ?_; (case hp_ => exact fun W x hb => kind_Of.body _ _ a0 a1 x W ((hb.cell (World.block_lt_of_cell? _ _ HC.out.1)).trans HC.out.1) ((hb.cell (World.block_lt_of_cell? _ _ HC.out.2)).trans HC.out.2)); rintro e w3 ⟨rfl, hb⟩)
  go_ret2
  exact ⟨rfl, (below_alloc (below_alloc (Below.refl _ _) _) _).trans (hb.mono (by simp <;> omega))⟩

/-! ### kind_Most: function 9 -/
def kind_Most.l0 : Nat → ByteArray → Int → List (S38) → Int → Int → Option (Int)
  | 0, _, _, _, _, _ => none
  | k + 1, x0, x3, x6, x7, x8 => if x8 < x7 then (if 0 ≤ x8 then (if x8 < (x6.length : Int) then (if ((rd_T38 x6 x8).f2).toList = x0.toList then (kind_Most.l0 k x0 (mx x3 ((rd_T38 x6 x8).f1)) x6 x7 (wrap64 (x8 + 1))) else (kind_Most.l0 k x0 x3 x6 x7 (wrap64 (x8 + 1)))) else (none)) else (none)) else (some x3)
def kind_Most.f (k : Nat) (a0 : ByteArray) : Option (Int) := (kind_table.f).bind fun t104 => (kind_Most.l0 k a0 0 t104 (t104.length : Int) 0)
theorem kind_Most.mono_l : ∀ k, (∀ y0 y1 y2 y3 y4, LeO (kind_Most.l0 k y0 y1 y2 y3 y4) (kind_Most.l0 (k + 1) y0 y1 y2 y3 y4))
  | 0 => fun _ _ _ _ _ r h => by simp [kind_Most.l0] at h
  | k + 1 => by
    have ih0 := kind_Most.mono_l k
    · intro y0 y1 y2 y3 y4
      unfold kind_Most.l0
      repeat' first
      | (with_reducible exact ih0 _ _ _ _ _)
      | (with_reducible exact LeO.refl _)
      | (with_reducible exact LeO.none _)
      | (with_reducible refine LeO.ite ?_ ?_)
      | (with_reducible refine LeO.bind ?_ (fun _ => ?_))
      | exact ih0 _ _ _ _ _
      | exact LeO.none _
      | refine LeO.ite ?_ ?_
      | refine LeO.bind ?_ (fun _ => ?_)
theorem kind_Most.mono : ∀ a0 k, LeO (kind_Most.f k a0) (kind_Most.f (k + 1) a0) := by
  intro a0 k
  have ih0 := kind_Most.mono_l k
  unfold kind_Most.f
  repeat' first
      | (with_reducible exact ih0 _ _ _ _ _)
      | (with_reducible exact LeO.refl _)
      | (with_reducible exact LeO.none _)
      | (with_reducible refine LeO.ite ?_ ?_)
      | (with_reducible refine LeO.bind ?_ (fun _ => ?_))
      | exact ih0 _ _ _ _ _
      | exact LeO.none _
      | refine LeO.ite ?_ ?_
      | refine LeO.bind ?_ (fun _ => ?_)
set_option maxHeartbeats 8000000 in
set_option maxRecDepth 100000 in
theorem kind_Most.calls (k : Nat) (a0 : ByteArray) (r : Int) (w : World) (h : kind_Most.f k a0 = some r) :
    Calls Tryz.prog 9 #[.string a0] w fun e w' => e = .returned (.int .i64 r) ∧ Below w.heap.size w w' := by
  have hu38 := Tryz.underlying38
  have HB := Aside0.mk (Below.refl w.heap.size w)
  have H : ((kind_table.f).bind fun t104 => (kind_Most.l0 k a0 0 t104 (t104.length : Int) 0)) = some r := h
  clear h
  replace H := Option.bind_eq_some_iff.mp H
  obtain ⟨t104, A20, H⟩ := H
  replace H : (kind_Most.l0 k a0 0 t104 (t104.length : Int) 0) = some r := H
  have A2 := Aside0.mk A20
  clear A20
  have H' := Aside0.mk H
  clear H
  go_enter Tryz.func9, Tryz.ntmps9
  go_wp2_with (first | ((with_reducible refine gate_callee (f := 29) rfl ?_); refine goesL_ (some 6) rfl rfl Tryz.func29 (by kernel_rfl) rfl #[] rfl (by (try simp only [List.map_toArray, List.map_cons, List.map_nil]); first | done | rfl | (simp only [List.length_drop, List.length_take]; rfl) | exact congrArg (fun z => #[Value.int .i64 z]) (w64 (by omega) (by omega)).symm) ?_; (with_reducible refine (kind_table.calls  t104 _ A2.out).mono ?_); rintro e w3 ⟨v105, rfl, ho0, hb⟩; refine ⟨_, rfl, ?_⟩; have n0_ := Aside0.mk (Kd.R_lower ho0 (below_size (by repeat (first | (with_reducible first | exact HB.out | apply below_alloc | apply pw_below_drewN | apply below_drew1) | exact HB.out)))); have n1_ := Aside0.mk (below_step (by repeat (first | (with_reducible first | exact HB.out | apply below_alloc | apply pw_below_drewN | apply below_drew1) | exact HB.out)) hb); clear HB; have HO106 := n0_; have HB := n1_; clear n0_ n1_; (try clear hb); (try clear hb2); (try clear hk); (try clear hi); (try clear ho0); obtain ⟨Ao4, co4, eo4⟩ := Kd.R_slice HO106.out; subst eo4))
  go_loopg [3, 8] k (fun kq v3 v8 w' => ∃ (x3_1 : Int) (x8_1 : Int), v3 = .int .i64 x3_1 ∧ v8 = .int .i64 x8_1 ∧ Aside0 (kind_Most.l0 kq a0 x3_1 t104 (t104.length : Int) x8_1 = some r) ∧ Aside0 (kq ≤ k) ∧ Aside0 (Kd.R k38 38 w' w.heap.size (fun _ => True) (.slice Ao4 t104.length co4) t104) ∧ Aside0 (Below w.heap.size w w'))
  case atStart => exact ⟨(0), (0), (by first | rfl | (simp; done) | (simp [*]; done)), (by first | rfl | (simp; done) | (simp [*]; done)), H', ⟨Nat.le_refl _⟩, ⟨by (with_reducible repeat (first | apply Kd.R_alloc | apply Kd.R_drewN | apply Kd.R_drew)); exact HO106.out⟩, ⟨by repeat (first | (with_reducible first | exact HB.out | apply below_alloc | apply pw_below_drewN | apply below_drew1) | exact HB.out)⟩⟩
  case round =>
    clear H'
    try clear c2
    try clear p2
    obtain ⟨x3_1, x8_1, rfl, rfl, HA, HK1, HO_6, HB⟩ := hrel
    cases gk with
    | zero => exact absurd HA.out (by simp [kind_Most.l0])
    | succ k1 =>
      have H := HA.out
      clear HA
      simp only [kind_Most.l0] at H
      by_cases c5 : x8_1 < (t104.length : Int)
      · rw [if_pos c5] at H
        have c5b0 : decide (x8_1 < (t104.length : Int)) = true := decide_eq_true c5
        clear c5
        by_cases c6 : 0 ≤ x8_1
        · rw [if_pos c6] at H
          have c6b0 : decide (0 ≤ x8_1) = true := decide_eq_true c6
          clear c6
          by_cases c7 : x8_1 < (t104.length : Int)
          · rw [if_pos c7] at H
            have c7b0 : decide (x8_1 < (t104.length : Int)) = true := decide_eq_true c7
            clear c7
            by_cases c8 : ((rd_T38 t104 x8_1).f2).toList = a0.toList
            · rw [if_pos c8] at H
              have c8b0 : (((rd_T38 t104 x8_1).f2).toList == a0.toList) = true := beq_iff_eq.mpr c8
              have c8b1 : (((rd_T38 t104 x8_1).f2).toList != a0.toList) = false := bne_eq_false_iff_eq.mpr c8
              clear c8
              obtain ⟨ji9, hji9⟩ : ∃ j_ : Int, (mx x3_1 ((rd_T38 t104 x8_1).f1)) = j_ := ⟨_, rfl⟩
              replace H : (kind_Most.l0 k1 a0 ji9 t104 (t104.length : Int) (wrap64 (x8_1 + 1))) = some r := by first | (rw [hji9] at H; exact H) | (simp only [hji9] at H ⊢; exact H)
              have hji9_ : (if x3_1 < ((rd_T38 t104 x8_1).f1) then ((rd_T38 t104 x8_1).f1) else x3_1) = ji9 := hji9
              have H' := Aside0.mk H
              clear H
              have p107 : 0 ≤ (x8_1 : Int) := of_decide_eq_true (by first | (with_reducible assumption) | assumption)
              have q107 : x8_1 < (t104.length : Int) := of_decide_eq_true (by first | (with_reducible assumption) | assumption)
              obtain ⟨ad107, e107, hx107_0, hx107_1, hx107_2, hx107_3, hx107_4⟩ := at_T38 (Kd.R_reads' HO_6.out).2.2 x8_1 p107 q107
              cases e107
              replace p107 := eq_true p107
              replace q107 := eq_true q107
              go_wp2_with (first | ((with_reducible refine gate_dst (N := 5) rfl ?_); refine box_event ?hg (N := 5) ?hd (cs := #[.string (⟨#[]⟩ : ByteArray), .int .i64 0, .string (⟨#[]⟩ : ByteArray), .int .i64 0, .string (⟨#[]⟩ : ByteArray)]) (t := 38) ?hr ?_; (case hd => rfl); (case hg => rfl); (case hr => first | (go_simp; done) | (go_simp; rfl)); intro gb108 hg w10 hbox hb; have n0_ := Aside0.mk (Kd.R_below (Kd.R_elderB (by (with_reducible repeat (first | apply Kd.R_alloc | apply Kd.R_drewN | apply Kd.R_drew)); exact HO_6.out) gb108 (Nat.le_of_eq hg.symm)) hb); have n1_ := Aside0.mk (below_step (by repeat (first | (with_reducible first | exact HB.out | apply below_alloc | apply pw_below_drewN | apply below_drew1) | exact HB.out)) hb); have n2_ := Aside0.mk (hbox); have n3_ := Aside0.mk ((by rw [hg]; exact (below_size (by repeat (first | (with_reducible first | exact HB.out | apply below_alloc | apply pw_below_drewN | apply below_drew1) | exact HB.out))) : w.heap.size ≤ gb108)); have n4_ := Aside0.mk ((by rw [hg]; exact (below_size (by repeat (first | (with_reducible first | exact HB.out | apply below_alloc | apply pw_below_drewN | apply below_drew1) | exact HB.out))) : w.heap.size ≤ gb108)); clear HO_6; clear HB; have HO_6 := n0_; have HB := n1_; have BK108 := n2_; have GW108 := n3_; have GE108 := n4_; clear n0_ n1_ n2_ n3_ n4_; clear hb hbox hg; have hcz11_0 : w10.cell? ⟨gb108, 0, none⟩ = some (.string (⟨#[]⟩ : ByteArray)) := (blk_cell BK108.out 0).trans rfl; have hcz11_1 : w10.cell? ⟨gb108, 1, none⟩ = some (.int .i64 0) := (blk_cell BK108.out 1).trans rfl; have hcz11_2 : w10.cell? ⟨gb108, 2, none⟩ = some (.string (⟨#[]⟩ : ByteArray)) := (blk_cell BK108.out 2).trans rfl; have hcz11_3 : w10.cell? ⟨gb108, 3, none⟩ = some (.int .i64 0) := (blk_cell BK108.out 3).trans rfl; have hcz11_4 : w10.cell? ⟨gb108, 4, none⟩ = some (.string (⟨#[]⟩ : ByteArray)) := (blk_cell BK108.out 4).trans rfl; have hfz11_0 := blk_frozen BK108.out 0; have hfz11_1 := blk_frozen BK108.out 1; have hfz11_2 := blk_frozen BK108.out 2; have hfz11_3 := blk_frozen BK108.out 3; have hfz11_4 := blk_frozen BK108.out 4))
              go_roundg k1
              case measure => have := HK1.out; omega
              case rel => exact ⟨(ji9), (wrap64 (x8_1 + 1)), (by first | rfl | (simp; done) | (simp only [← hji9] <;> (first | rfl | simp)) | (simp [*]; done)), (by first | rfl | (simp; done) | (simp [*]; done)), H', ⟨by have := HK1.out; omega⟩, ⟨by (with_reducible repeat (first | apply Kd.R_alloc | apply Kd.R_drewN | apply Kd.R_drew)); exact Kd.R_mono (Kd.R_far (p := ⟨gb108, 4, none⟩) (Kd.R_far (p := ⟨gb108, 3, none⟩) (Kd.R_far (p := ⟨gb108, 2, none⟩) (Kd.R_far (p := ⟨gb108, 1, none⟩) (Kd.R_far (p := ⟨gb108, 0, none⟩) (Kd.R_mono HO_6.out (fun k_ hk => (⟨hk, hk.2⟩ : _ ∧ k_ ≠ gb108))) (fun _ hk => hk.2) (.string ((rd_T38 t104 x8_1).f0))) (fun _ hk => hk.2) (.int .i64 ((rd_T38 t104 x8_1).f1))) (fun _ hk => hk.2) (.string ((rd_T38 t104 x8_1).f2))) (fun _ hk => hk.2) (.int .i64 ((rd_T38 t104 x8_1).f3))) (fun _ hk => hk.2) (.string ((rd_T38 t104 x8_1).f4))) (fun _ hk => trivial)⟩, ⟨by repeat (first | (with_reducible first | exact HB.out | apply below_alloc | apply pw_below_drewN | apply below_drew1 | refine below_set ?_ GE108.out) | exact HB.out)⟩⟩
            · rw [if_neg c8] at H
              have c8b0 : (((rd_T38 t104 x8_1).f2).toList == a0.toList) = false := beq_eq_false_iff_ne.mpr c8
              have c8b1 : (((rd_T38 t104 x8_1).f2).toList != a0.toList) = true := bne_iff_ne.mpr c8
              have H' := Aside0.mk H
              clear H
              have p107 : 0 ≤ (x8_1 : Int) := of_decide_eq_true (by first | (with_reducible assumption) | assumption)
              have q107 : x8_1 < (t104.length : Int) := of_decide_eq_true (by first | (with_reducible assumption) | assumption)
              obtain ⟨ad107, e107, hx107_0, hx107_1, hx107_2, hx107_3, hx107_4⟩ := at_T38 (Kd.R_reads' HO_6.out).2.2 x8_1 p107 q107
              cases e107
              replace p107 := eq_true p107
              replace q107 := eq_true q107
              go_wp2_with (first | ((with_reducible refine gate_dst (N := 5) rfl ?_); refine box_event ?hg (N := 5) ?hd (cs := #[.string (⟨#[]⟩ : ByteArray), .int .i64 0, .string (⟨#[]⟩ : ByteArray), .int .i64 0, .string (⟨#[]⟩ : ByteArray)]) (t := 38) ?hr ?_; (case hd => rfl); (case hg => rfl); (case hr => first | (go_simp; done) | (go_simp; rfl)); intro gb108 hg w12 hbox hb; have n0_ := Aside0.mk (Kd.R_below (Kd.R_elderB (by (with_reducible repeat (first | apply Kd.R_alloc | apply Kd.R_drewN | apply Kd.R_drew)); exact HO_6.out) gb108 (Nat.le_of_eq hg.symm)) hb); have n1_ := Aside0.mk (below_step (by repeat (first | (with_reducible first | exact HB.out | apply below_alloc | apply pw_below_drewN | apply below_drew1) | exact HB.out)) hb); have n2_ := Aside0.mk (hbox); have n3_ := Aside0.mk ((by rw [hg]; exact (below_size (by repeat (first | (with_reducible first | exact HB.out | apply below_alloc | apply pw_below_drewN | apply below_drew1) | exact HB.out))) : w.heap.size ≤ gb108)); have n4_ := Aside0.mk ((by rw [hg]; exact (below_size (by repeat (first | (with_reducible first | exact HB.out | apply below_alloc | apply pw_below_drewN | apply below_drew1) | exact HB.out))) : w.heap.size ≤ gb108)); clear HO_6; clear HB; have HO_6 := n0_; have HB := n1_; have BK108 := n2_; have GW108 := n3_; have GE108 := n4_; clear n0_ n1_ n2_ n3_ n4_; clear hb hbox hg; have hcz13_0 : w12.cell? ⟨gb108, 0, none⟩ = some (.string (⟨#[]⟩ : ByteArray)) := (blk_cell BK108.out 0).trans rfl; have hcz13_1 : w12.cell? ⟨gb108, 1, none⟩ = some (.int .i64 0) := (blk_cell BK108.out 1).trans rfl; have hcz13_2 : w12.cell? ⟨gb108, 2, none⟩ = some (.string (⟨#[]⟩ : ByteArray)) := (blk_cell BK108.out 2).trans rfl; have hcz13_3 : w12.cell? ⟨gb108, 3, none⟩ = some (.int .i64 0) := (blk_cell BK108.out 3).trans rfl; have hcz13_4 : w12.cell? ⟨gb108, 4, none⟩ = some (.string (⟨#[]⟩ : ByteArray)) := (blk_cell BK108.out 4).trans rfl; have hfz13_0 := blk_frozen BK108.out 0; have hfz13_1 := blk_frozen BK108.out 1; have hfz13_2 := blk_frozen BK108.out 2; have hfz13_3 := blk_frozen BK108.out 3; have hfz13_4 := blk_frozen BK108.out 4))
              go_roundg k1
              case measure => have := HK1.out; omega
              case rel => exact ⟨(x3_1), (wrap64 (x8_1 + 1)), (by first | rfl | (simp; done) | (simp [*]; done)), (by first | rfl | (simp; done) | (simp [*]; done)), H', ⟨by have := HK1.out; omega⟩, ⟨by (with_reducible repeat (first | apply Kd.R_alloc | apply Kd.R_drewN | apply Kd.R_drew)); exact Kd.R_mono (Kd.R_far (p := ⟨gb108, 4, none⟩) (Kd.R_far (p := ⟨gb108, 3, none⟩) (Kd.R_far (p := ⟨gb108, 2, none⟩) (Kd.R_far (p := ⟨gb108, 1, none⟩) (Kd.R_far (p := ⟨gb108, 0, none⟩) (Kd.R_mono HO_6.out (fun k_ hk => (⟨hk, hk.2⟩ : _ ∧ k_ ≠ gb108))) (fun _ hk => hk.2) (.string ((rd_T38 t104 x8_1).f0))) (fun _ hk => hk.2) (.int .i64 ((rd_T38 t104 x8_1).f1))) (fun _ hk => hk.2) (.string ((rd_T38 t104 x8_1).f2))) (fun _ hk => hk.2) (.int .i64 ((rd_T38 t104 x8_1).f3))) (fun _ hk => hk.2) (.string ((rd_T38 t104 x8_1).f4))) (fun _ hk => trivial)⟩, ⟨by repeat (first | (with_reducible first | exact HB.out | apply below_alloc | apply pw_below_drewN | apply below_drew1 | refine below_set ?_ GE108.out) | exact HB.out)⟩⟩
          · rw [if_neg c7] at H
            exact absurd H (by simp)
        · rw [if_neg c6] at H
          exact absurd H (by simp)
      · rw [if_neg c5] at H
        have c5b0 : decide (x8_1 < (t104.length : Int)) = false := decide_eq_false c5
        clear c5
        obtain rfl := Option.some.inj H
        go_wp2
        go_ret
        exact ⟨by first | rfl | (simp [errW_none, errW_some] <;> rfl) | (simp [*, errW_none, errW_some] <;> rfl), by repeat (first | (with_reducible first | exact HB.out | apply below_alloc | apply pw_below_drewN | apply below_drew1) | exact HB.out)⟩

/-! ### kind_of: function 30 -/
def kind_of.f (a0 : Int) : Option (ByteArray × Int × ByteArray × Int × ByteArray) := (kind_table.f).bind fun t110 => (if a0 < 0 then (if 0 < (t110.length : Int) then (some ((rd_T38 t110 0).f0, (rd_T38 t110 0).f1, (rd_T38 t110 0).f2, (rd_T38 t110 0).f3, (rd_T38 t110 0).f4)) else (none)) else (if a0 ≥ (t110.length : Int) then (if 0 < (t110.length : Int) then (some ((rd_T38 t110 0).f0, (rd_T38 t110 0).f1, (rd_T38 t110 0).f2, (rd_T38 t110 0).f3, (rd_T38 t110 0).f4)) else (none)) else (if 0 ≤ a0 then (if a0 < (t110.length : Int) then (some ((rd_T38 t110 a0).f0, (rd_T38 t110 a0).f1, (rd_T38 t110 a0).f2, (rd_T38 t110 a0).f3, (rd_T38 t110 a0).f4)) else (none)) else (none))))
set_option maxHeartbeats 8000000 in
set_option maxRecDepth 100000 in
theorem kind_of.calls (a0 : Int) (r1 : ByteArray) (r2 : Int) (r3 : ByteArray) (r4 : Int) (r5 : ByteArray) (w : World) (h : kind_of.f a0 = some (r1, r2, r3, r4, r5)) :
    Calls Tryz.prog 30 #[.int .i64 a0] w fun e w' => e = .returned (.agg #[.string r1, .int .i64 r2, .string r3, .int .i64 r4, .string r5]) ∧ Below w.heap.size w w' := by
  have hu38 := Tryz.underlying38
  have HB := Aside0.mk (Below.refl w.heap.size w)
  have H : ((kind_table.f).bind fun t110 => (if a0 < 0 then (if 0 < (t110.length : Int) then (some ((rd_T38 t110 0).f0, (rd_T38 t110 0).f1, (rd_T38 t110 0).f2, (rd_T38 t110 0).f3, (rd_T38 t110 0).f4)) else (none)) else (if a0 ≥ (t110.length : Int) then (if 0 < (t110.length : Int) then (some ((rd_T38 t110 0).f0, (rd_T38 t110 0).f1, (rd_T38 t110 0).f2, (rd_T38 t110 0).f3, (rd_T38 t110 0).f4)) else (none)) else (if 0 ≤ a0 then (if a0 < (t110.length : Int) then (some ((rd_T38 t110 a0).f0, (rd_T38 t110 a0).f1, (rd_T38 t110 a0).f2, (rd_T38 t110 a0).f3, (rd_T38 t110 a0).f4)) else (none)) else (none))))) = some (r1, r2, r3, r4, r5) := h
  clear h
  replace H := Option.bind_eq_some_iff.mp H
  obtain ⟨t110, A20, H⟩ := H
  replace H : (if a0 < 0 then (if 0 < (t110.length : Int) then (some ((rd_T38 t110 0).f0, (rd_T38 t110 0).f1, (rd_T38 t110 0).f2, (rd_T38 t110 0).f3, (rd_T38 t110 0).f4)) else (none)) else (if a0 ≥ (t110.length : Int) then (if 0 < (t110.length : Int) then (some ((rd_T38 t110 0).f0, (rd_T38 t110 0).f1, (rd_T38 t110 0).f2, (rd_T38 t110 0).f3, (rd_T38 t110 0).f4)) else (none)) else (if 0 ≤ a0 then (if a0 < (t110.length : Int) then (some ((rd_T38 t110 a0).f0, (rd_T38 t110 a0).f1, (rd_T38 t110 a0).f2, (rd_T38 t110 a0).f3, (rd_T38 t110 a0).f4)) else (none)) else (none)))) = some (r1, r2, r3, r4, r5) := H
  have A2 := Aside0.mk A20
  clear A20
  by_cases c3 : a0 < 0
  · rw [if_pos c3] at H
    have c3b0 : decide (a0 < 0) = true := decide_eq_true c3
    clear c3
    by_cases c4 : 0 < (t110.length : Int)
    · rw [if_pos c4] at H
      have c4b0 : decide (0 < (t110.length : Int)) = true := decide_eq_true c4
      have c4b1 : decide (0 < t110.length) = true := decide_eq_true (by omega)
      clear c4
      simp only [Option.some.injEq, Prod.mk.injEq] at H
      obtain ⟨rfl, rfl, rfl, rfl, rfl⟩ := H
      go_enter Tryz.func30, Tryz.ntmps30
      go_wp2_with (first | ((with_reducible refine gate_dst (N := 2) rfl ?_); (try (refine gate_guard (by rfl) ?_; dsimp only)); refine box_event ?hg (N := 2) ?hd (cs := #[.string (⟨#[]⟩ : ByteArray), .int .i64 0, .string (⟨#[]⟩ : ByteArray), .int .i64 0, .string (⟨#[]⟩ : ByteArray)]) (t := 38) ?hr ?_; (case hd => rfl); (case hg => rfl); (case hr => first | (go_simp; done) | (go_simp; rfl)); intro gb109 hg w5 hbox hb; have n0_ := Aside0.mk (below_step (by repeat (first | (with_reducible first | exact HB.out | apply below_alloc | apply pw_below_drewN | apply below_drew1) | exact HB.out)) hb); have n1_ := Aside0.mk (hbox); have n2_ := Aside0.mk ((by rw [hg]; exact (below_size (by repeat (first | (with_reducible first | exact HB.out | apply below_alloc | apply pw_below_drewN | apply below_drew1) | exact HB.out))) : w.heap.size ≤ gb109)); have n3_ := Aside0.mk ((by rw [hg]; exact (below_size (by repeat (first | (with_reducible first | exact HB.out | apply below_alloc | apply pw_below_drewN | apply below_drew1) | exact HB.out))) : w.heap.size ≤ gb109)); clear HB; have HB := n0_; have BK109 := n1_; have GW109 := n2_; have GE109 := n3_; clear n0_ n1_ n2_ n3_; clear hb hbox hg) | ((with_reducible refine gate_callee (f := 29) rfl ?_); refine goesL_ (some 4) rfl rfl Tryz.func29 (by kernel_rfl) rfl #[] rfl (by (try simp only [List.map_toArray, List.map_cons, List.map_nil]); first | done | rfl | (simp only [List.length_drop, List.length_take]; rfl) | exact congrArg (fun z => #[Value.int .i64 z]) (w64 (by omega) (by omega)).symm) ?_; (with_reducible refine (kind_table.calls  t110 _ A2.out).mono ?_); rintro e w6 ⟨v111, rfl, ho0, hb⟩; refine ⟨_, rfl, ?_⟩; have n0_ := Aside0.mk (Kd.R_lower (Kd.R_newB ho0 (g := gb109) (o := .cells #[.string (⟨#[]⟩ : ByteArray), .int .i64 0, .string (⟨#[]⟩ : ByteArray), .int .i64 0, .string (⟨#[]⟩ : ByteArray)] 38 (0, 0)) (by (with_reducible repeat (first | refine blk_drewN ?_ _ | refine blk_drew ?_ | refine blk_alloc ?_ _)); exact BK109.out)) (below_size (by repeat (first | (with_reducible first | exact HB.out | apply below_alloc | apply pw_below_drewN | apply below_drew1 | refine below_set ?_ GE109.out) | exact HB.out)))); have n1_ := Aside0.mk (blk_below (g := gb109) (o := .cells #[.string (⟨#[]⟩ : ByteArray), .int .i64 0, .string (⟨#[]⟩ : ByteArray), .int .i64 0, .string (⟨#[]⟩ : ByteArray)] 38 (0, 0)) (by (with_reducible repeat (first | refine blk_drewN ?_ _ | refine blk_drew ?_ | refine blk_alloc ?_ _)); exact BK109.out) hb); have n2_ := Aside0.mk (below_step (by repeat (first | (with_reducible first | exact HB.out | apply below_alloc | apply pw_below_drewN | apply below_drew1 | refine below_set ?_ GE109.out) | exact HB.out)) hb); clear BK109; clear HB; have HO112 := n0_; have BK109 := n1_; have HB := n2_; clear n0_ n1_ n2_; (try clear hb); (try clear hb2); (try clear hk); (try clear hi); (try clear ho0); obtain ⟨Ao7, co7, eo7⟩ := Kd.R_slice HO112.out; subst eo7; have p113 : 0 ≤ (0 : Int) := (by omega); have q113 : 0 < (t110.length : Int) := of_decide_eq_true (by first | (with_reducible assumption) | assumption); obtain ⟨ad113, e113, hx113_0, hx113_1, hx113_2, hx113_3, hx113_4⟩ := at_T38 (Kd.R_reads' HO112.out).2.2 0 p113 q113; cases e113; have qi113 : (0 < t110.length) = True := eq_true (by omega); (try rw [show ((0 : Int)).toNat = 0 from rfl] at hx113_0); (try rw [show 0 * 5 = 0 from rfl] at hx113_0); (try rw [Addr.add_zero'] at hx113_0); (try rw [show ((0 : Int)).toNat = 0 from rfl] at hx113_1); (try rw [show 0 * 5 = 0 from rfl] at hx113_1); (try rw [Addr.add_zero'] at hx113_1); (try rw [show ((0 : Int)).toNat = 0 from rfl] at hx113_2); (try rw [show 0 * 5 = 0 from rfl] at hx113_2); (try rw [Addr.add_zero'] at hx113_2); (try rw [show ((0 : Int)).toNat = 0 from rfl] at hx113_3); (try rw [show 0 * 5 = 0 from rfl] at hx113_3); (try rw [Addr.add_zero'] at hx113_3); (try rw [show ((0 : Int)).toNat = 0 from rfl] at hx113_4); (try rw [show 0 * 5 = 0 from rfl] at hx113_4); (try rw [Addr.add_zero'] at hx113_4); replace p113 := eq_true p113; replace q113 := eq_true q113; have hcz8_0 : w6.cell? ⟨gb109, 0, none⟩ = some (.string (⟨#[]⟩ : ByteArray)) := (blk_cell BK109.out 0).trans rfl; have hcz8_1 : w6.cell? ⟨gb109, 1, none⟩ = some (.int .i64 0) := (blk_cell BK109.out 1).trans rfl; have hcz8_2 : w6.cell? ⟨gb109, 2, none⟩ = some (.string (⟨#[]⟩ : ByteArray)) := (blk_cell BK109.out 2).trans rfl; have hcz8_3 : w6.cell? ⟨gb109, 3, none⟩ = some (.int .i64 0) := (blk_cell BK109.out 3).trans rfl; have hcz8_4 : w6.cell? ⟨gb109, 4, none⟩ = some (.string (⟨#[]⟩ : ByteArray)) := (blk_cell BK109.out 4).trans rfl; have hfz8_0 := blk_frozen BK109.out 0; have hfz8_1 := blk_frozen BK109.out 1; have hfz8_2 := blk_frozen BK109.out 2; have hfz8_3 := blk_frozen BK109.out 3; have hfz8_4 := blk_frozen BK109.out 4))
      refine bodyPost_ret (results_cell_row rfl _ _ gb109 38 #[.string ((rd_T38 t110 0).f0), .int .i64 ((rd_T38 t110 0).f1), .string ((rd_T38 t110 0).f2), .int .i64 ((rd_T38 t110 0).f3), .string ((rd_T38 t110 0).f4)] (0, 0) _ rfl (by (with_reducible repeat (first | refine blk_drewN ?_ _ | refine blk_drew ?_ | refine blk_alloc ?_ _)); refine blk_put (cs := #[.string ((rd_T38 t110 0).f0), .int .i64 ((rd_T38 t110 0).f1), .string ((rd_T38 t110 0).f2), .int .i64 ((rd_T38 t110 0).f3), .string (⟨#[]⟩ : ByteArray)]) ?_ 4 _ rfl; (with_reducible repeat (first | refine blk_drewN ?_ _ | refine blk_drew ?_ | refine blk_alloc ?_ _)); refine blk_put (cs := #[.string ((rd_T38 t110 0).f0), .int .i64 ((rd_T38 t110 0).f1), .string ((rd_T38 t110 0).f2), .int .i64 0, .string (⟨#[]⟩ : ByteArray)]) ?_ 3 _ rfl; (with_reducible repeat (first | refine blk_drewN ?_ _ | refine blk_drew ?_ | refine blk_alloc ?_ _)); refine blk_put (cs := #[.string ((rd_T38 t110 0).f0), .int .i64 ((rd_T38 t110 0).f1), .string (⟨#[]⟩ : ByteArray), .int .i64 0, .string (⟨#[]⟩ : ByteArray)]) ?_ 2 _ rfl; (with_reducible repeat (first | refine blk_drewN ?_ _ | refine blk_drew ?_ | refine blk_alloc ?_ _)); refine blk_put (cs := #[.string ((rd_T38 t110 0).f0), .int .i64 0, .string (⟨#[]⟩ : ByteArray), .int .i64 0, .string (⟨#[]⟩ : ByteArray)]) ?_ 1 _ rfl; (with_reducible repeat (first | refine blk_drewN ?_ _ | refine blk_drew ?_ | refine blk_alloc ?_ _)); refine blk_put (cs := #[.string (⟨#[]⟩ : ByteArray), .int .i64 0, .string (⟨#[]⟩ : ByteArray), .int .i64 0, .string (⟨#[]⟩ : ByteArray)]) ?_ 0 _ rfl; (with_reducible repeat (first | refine blk_drewN ?_ _ | refine blk_drew ?_ | refine blk_alloc ?_ _)); exact BK109.out) Tryz.underlying38 rfl (by kernel_rfl)) rfl ?_
      exact ⟨by first | rfl | (simp [errW_none, errW_some] <;> rfl) | (simp [*, errW_none, errW_some] <;> rfl), by repeat (first | (with_reducible first | exact HB.out | apply below_alloc | apply pw_below_drewN | apply below_drew1 | refine below_set ?_ GE109.out) | exact HB.out)⟩
    · rw [if_neg c4] at H
      exact absurd H (by simp)
  · rw [if_neg c3] at H
    have c3b0 : decide (a0 < 0) = false := decide_eq_false c3
    clear c3
    by_cases c9 : a0 ≥ (t110.length : Int)
    · rw [if_pos c9] at H
      have c9b0 : decide ((t110.length : Int) ≤ a0) = true := decide_eq_true c9
      clear c9
      by_cases c10 : 0 < (t110.length : Int)
      · rw [if_pos c10] at H
        have c10b0 : decide (0 < (t110.length : Int)) = true := decide_eq_true c10
        have c10b1 : decide (0 < t110.length) = true := decide_eq_true (by omega)
        clear c10
        simp only [Option.some.injEq, Prod.mk.injEq] at H
        obtain ⟨rfl, rfl, rfl, rfl, rfl⟩ := H
        go_enter Tryz.func30, Tryz.ntmps30
        go_wp2_with (first | ((with_reducible refine gate_dst (N := 2) rfl ?_); (try (refine gate_guard (by rfl) ?_; dsimp only)); refine box_event ?hg (N := 2) ?hd (cs := #[.string (⟨#[]⟩ : ByteArray), .int .i64 0, .string (⟨#[]⟩ : ByteArray), .int .i64 0, .string (⟨#[]⟩ : ByteArray)]) (t := 38) ?hr ?_; (case hd => rfl); (case hg => rfl); (case hr => first | (go_simp; done) | (go_simp; rfl)); intro gb109 hg w11 hbox hb; have n0_ := Aside0.mk (below_step (by repeat (first | (with_reducible first | exact HB.out | apply below_alloc | apply pw_below_drewN | apply below_drew1) | exact HB.out)) hb); have n1_ := Aside0.mk (hbox); have n2_ := Aside0.mk ((by rw [hg]; exact (below_size (by repeat (first | (with_reducible first | exact HB.out | apply below_alloc | apply pw_below_drewN | apply below_drew1) | exact HB.out))) : w.heap.size ≤ gb109)); have n3_ := Aside0.mk ((by rw [hg]; exact (below_size (by repeat (first | (with_reducible first | exact HB.out | apply below_alloc | apply pw_below_drewN | apply below_drew1) | exact HB.out))) : w.heap.size ≤ gb109)); clear HB; have HB := n0_; have BK109 := n1_; have GW109 := n2_; have GE109 := n3_; clear n0_ n1_ n2_ n3_; clear hb hbox hg) | ((with_reducible refine gate_callee (f := 29) rfl ?_); refine goesL_ (some 4) rfl rfl Tryz.func29 (by kernel_rfl) rfl #[] rfl (by (try simp only [List.map_toArray, List.map_cons, List.map_nil]); first | done | rfl | (simp only [List.length_drop, List.length_take]; rfl) | exact congrArg (fun z => #[Value.int .i64 z]) (w64 (by omega) (by omega)).symm) ?_; (with_reducible refine (kind_table.calls  t110 _ A2.out).mono ?_); rintro e w12 ⟨v111, rfl, ho0, hb⟩; refine ⟨_, rfl, ?_⟩; have n0_ := Aside0.mk (Kd.R_lower (Kd.R_newB ho0 (g := gb109) (o := .cells #[.string (⟨#[]⟩ : ByteArray), .int .i64 0, .string (⟨#[]⟩ : ByteArray), .int .i64 0, .string (⟨#[]⟩ : ByteArray)] 38 (0, 0)) (by (with_reducible repeat (first | refine blk_drewN ?_ _ | refine blk_drew ?_ | refine blk_alloc ?_ _)); exact BK109.out)) (below_size (by repeat (first | (with_reducible first | exact HB.out | apply below_alloc | apply pw_below_drewN | apply below_drew1 | refine below_set ?_ GE109.out) | exact HB.out)))); have n1_ := Aside0.mk (blk_below (g := gb109) (o := .cells #[.string (⟨#[]⟩ : ByteArray), .int .i64 0, .string (⟨#[]⟩ : ByteArray), .int .i64 0, .string (⟨#[]⟩ : ByteArray)] 38 (0, 0)) (by (with_reducible repeat (first | refine blk_drewN ?_ _ | refine blk_drew ?_ | refine blk_alloc ?_ _)); exact BK109.out) hb); have n2_ := Aside0.mk (below_step (by repeat (first | (with_reducible first | exact HB.out | apply below_alloc | apply pw_below_drewN | apply below_drew1 | refine below_set ?_ GE109.out) | exact HB.out)) hb); clear BK109; clear HB; have HO112 := n0_; have BK109 := n1_; have HB := n2_; clear n0_ n1_ n2_; (try clear hb); (try clear hb2); (try clear hk); (try clear hi); (try clear ho0); obtain ⟨Ao13, co13, eo13⟩ := Kd.R_slice HO112.out; subst eo13; have p114 : 0 ≤ (0 : Int) := (by omega); have q114 : 0 < (t110.length : Int) := of_decide_eq_true (by first | (with_reducible assumption) | assumption); obtain ⟨ad114, e114, hx114_0, hx114_1, hx114_2, hx114_3, hx114_4⟩ := at_T38 (Kd.R_reads' HO112.out).2.2 0 p114 q114; cases e114; have qi114 : (0 < t110.length) = True := eq_true (by omega); (try rw [show ((0 : Int)).toNat = 0 from rfl] at hx114_0); (try rw [show 0 * 5 = 0 from rfl] at hx114_0); (try rw [Addr.add_zero'] at hx114_0); (try rw [show ((0 : Int)).toNat = 0 from rfl] at hx114_1); (try rw [show 0 * 5 = 0 from rfl] at hx114_1); (try rw [Addr.add_zero'] at hx114_1); (try rw [show ((0 : Int)).toNat = 0 from rfl] at hx114_2); (try rw [show 0 * 5 = 0 from rfl] at hx114_2); (try rw [Addr.add_zero'] at hx114_2); (try rw [show ((0 : Int)).toNat = 0 from rfl] at hx114_3); (try rw [show 0 * 5 = 0 from rfl] at hx114_3); (try rw [Addr.add_zero'] at hx114_3); (try rw [show ((0 : Int)).toNat = 0 from rfl] at hx114_4); (try rw [show 0 * 5 = 0 from rfl] at hx114_4); (try rw [Addr.add_zero'] at hx114_4); replace p114 := eq_true p114; replace q114 := eq_true q114; have hcz14_0 : w12.cell? ⟨gb109, 0, none⟩ = some (.string (⟨#[]⟩ : ByteArray)) := (blk_cell BK109.out 0).trans rfl; have hcz14_1 : w12.cell? ⟨gb109, 1, none⟩ = some (.int .i64 0) := (blk_cell BK109.out 1).trans rfl; have hcz14_2 : w12.cell? ⟨gb109, 2, none⟩ = some (.string (⟨#[]⟩ : ByteArray)) := (blk_cell BK109.out 2).trans rfl; have hcz14_3 : w12.cell? ⟨gb109, 3, none⟩ = some (.int .i64 0) := (blk_cell BK109.out 3).trans rfl; have hcz14_4 : w12.cell? ⟨gb109, 4, none⟩ = some (.string (⟨#[]⟩ : ByteArray)) := (blk_cell BK109.out 4).trans rfl; have hfz14_0 := blk_frozen BK109.out 0; have hfz14_1 := blk_frozen BK109.out 1; have hfz14_2 := blk_frozen BK109.out 2; have hfz14_3 := blk_frozen BK109.out 3; have hfz14_4 := blk_frozen BK109.out 4))
        refine bodyPost_ret (results_cell_row rfl _ _ gb109 38 #[.string ((rd_T38 t110 0).f0), .int .i64 ((rd_T38 t110 0).f1), .string ((rd_T38 t110 0).f2), .int .i64 ((rd_T38 t110 0).f3), .string ((rd_T38 t110 0).f4)] (0, 0) _ rfl (by (with_reducible repeat (first | refine blk_drewN ?_ _ | refine blk_drew ?_ | refine blk_alloc ?_ _)); refine blk_put (cs := #[.string ((rd_T38 t110 0).f0), .int .i64 ((rd_T38 t110 0).f1), .string ((rd_T38 t110 0).f2), .int .i64 ((rd_T38 t110 0).f3), .string (⟨#[]⟩ : ByteArray)]) ?_ 4 _ rfl; (with_reducible repeat (first | refine blk_drewN ?_ _ | refine blk_drew ?_ | refine blk_alloc ?_ _)); refine blk_put (cs := #[.string ((rd_T38 t110 0).f0), .int .i64 ((rd_T38 t110 0).f1), .string ((rd_T38 t110 0).f2), .int .i64 0, .string (⟨#[]⟩ : ByteArray)]) ?_ 3 _ rfl; (with_reducible repeat (first | refine blk_drewN ?_ _ | refine blk_drew ?_ | refine blk_alloc ?_ _)); refine blk_put (cs := #[.string ((rd_T38 t110 0).f0), .int .i64 ((rd_T38 t110 0).f1), .string (⟨#[]⟩ : ByteArray), .int .i64 0, .string (⟨#[]⟩ : ByteArray)]) ?_ 2 _ rfl; (with_reducible repeat (first | refine blk_drewN ?_ _ | refine blk_drew ?_ | refine blk_alloc ?_ _)); refine blk_put (cs := #[.string ((rd_T38 t110 0).f0), .int .i64 0, .string (⟨#[]⟩ : ByteArray), .int .i64 0, .string (⟨#[]⟩ : ByteArray)]) ?_ 1 _ rfl; (with_reducible repeat (first | refine blk_drewN ?_ _ | refine blk_drew ?_ | refine blk_alloc ?_ _)); refine blk_put (cs := #[.string (⟨#[]⟩ : ByteArray), .int .i64 0, .string (⟨#[]⟩ : ByteArray), .int .i64 0, .string (⟨#[]⟩ : ByteArray)]) ?_ 0 _ rfl; (with_reducible repeat (first | refine blk_drewN ?_ _ | refine blk_drew ?_ | refine blk_alloc ?_ _)); exact BK109.out) Tryz.underlying38 rfl (by kernel_rfl)) rfl ?_
        exact ⟨by first | rfl | (simp [errW_none, errW_some] <;> rfl) | (simp [*, errW_none, errW_some] <;> rfl), by repeat (first | (with_reducible first | exact HB.out | apply below_alloc | apply pw_below_drewN | apply below_drew1 | refine below_set ?_ GE109.out) | exact HB.out)⟩
      · rw [if_neg c10] at H
        exact absurd H (by simp)
    · rw [if_neg c9] at H
      have c9b0 : decide ((t110.length : Int) ≤ a0) = false := decide_eq_false c9
      clear c9
      by_cases c15 : 0 ≤ a0
      · rw [if_pos c15] at H
        have c15b0 : decide (0 ≤ a0) = true := decide_eq_true c15
        clear c15
        by_cases c16 : a0 < (t110.length : Int)
        · rw [if_pos c16] at H
          have c16b0 : decide (a0 < (t110.length : Int)) = true := decide_eq_true c16
          clear c16
          simp only [Option.some.injEq, Prod.mk.injEq] at H
          obtain ⟨rfl, rfl, rfl, rfl, rfl⟩ := H
          go_enter Tryz.func30, Tryz.ntmps30
          go_wp2_with (first | ((with_reducible refine gate_dst (N := 2) rfl ?_); (try (refine gate_guard (by rfl) ?_; dsimp only)); refine box_event ?hg (N := 2) ?hd (cs := #[.string (⟨#[]⟩ : ByteArray), .int .i64 0, .string (⟨#[]⟩ : ByteArray), .int .i64 0, .string (⟨#[]⟩ : ByteArray)]) (t := 38) ?hr ?_; (case hd => rfl); (case hg => rfl); (case hr => first | (go_simp; done) | (go_simp; rfl)); intro gb109 hg w17 hbox hb; have n0_ := Aside0.mk (below_step (by repeat (first | (with_reducible first | exact HB.out | apply below_alloc | apply pw_below_drewN | apply below_drew1) | exact HB.out)) hb); have n1_ := Aside0.mk (hbox); have n2_ := Aside0.mk ((by rw [hg]; exact (below_size (by repeat (first | (with_reducible first | exact HB.out | apply below_alloc | apply pw_below_drewN | apply below_drew1) | exact HB.out))) : w.heap.size ≤ gb109)); have n3_ := Aside0.mk ((by rw [hg]; exact (below_size (by repeat (first | (with_reducible first | exact HB.out | apply below_alloc | apply pw_below_drewN | apply below_drew1) | exact HB.out))) : w.heap.size ≤ gb109)); clear HB; have HB := n0_; have BK109 := n1_; have GW109 := n2_; have GE109 := n3_; clear n0_ n1_ n2_ n3_; clear hb hbox hg) | ((with_reducible refine gate_callee (f := 29) rfl ?_); refine goesL_ (some 4) rfl rfl Tryz.func29 (by kernel_rfl) rfl #[] rfl (by (try simp only [List.map_toArray, List.map_cons, List.map_nil]); first | done | rfl | (simp only [List.length_drop, List.length_take]; rfl) | exact congrArg (fun z => #[Value.int .i64 z]) (w64 (by omega) (by omega)).symm) ?_; (with_reducible refine (kind_table.calls  t110 _ A2.out).mono ?_); rintro e w18 ⟨v111, rfl, ho0, hb⟩; refine ⟨_, rfl, ?_⟩; have n0_ := Aside0.mk (Kd.R_lower (Kd.R_newB ho0 (g := gb109) (o := .cells #[.string (⟨#[]⟩ : ByteArray), .int .i64 0, .string (⟨#[]⟩ : ByteArray), .int .i64 0, .string (⟨#[]⟩ : ByteArray)] 38 (0, 0)) (by (with_reducible repeat (first | refine blk_drewN ?_ _ | refine blk_drew ?_ | refine blk_alloc ?_ _)); exact BK109.out)) (below_size (by repeat (first | (with_reducible first | exact HB.out | apply below_alloc | apply pw_below_drewN | apply below_drew1 | refine below_set ?_ GE109.out) | exact HB.out)))); have n1_ := Aside0.mk (blk_below (g := gb109) (o := .cells #[.string (⟨#[]⟩ : ByteArray), .int .i64 0, .string (⟨#[]⟩ : ByteArray), .int .i64 0, .string (⟨#[]⟩ : ByteArray)] 38 (0, 0)) (by (with_reducible repeat (first | refine blk_drewN ?_ _ | refine blk_drew ?_ | refine blk_alloc ?_ _)); exact BK109.out) hb); have n2_ := Aside0.mk (below_step (by repeat (first | (with_reducible first | exact HB.out | apply below_alloc | apply pw_below_drewN | apply below_drew1 | refine below_set ?_ GE109.out) | exact HB.out)) hb); clear BK109; clear HB; have HO112 := n0_; have BK109 := n1_; have HB := n2_; clear n0_ n1_ n2_; (try clear hb); (try clear hb2); (try clear hk); (try clear hi); (try clear ho0); obtain ⟨Ao19, co19, eo19⟩ := Kd.R_slice HO112.out; subst eo19; have p115 : 0 ≤ (a0 : Int) := of_decide_eq_true (by first | (with_reducible assumption) | assumption); have q115 : a0 < (t110.length : Int) := of_decide_eq_true (by first | (with_reducible assumption) | assumption); obtain ⟨ad115, e115, hx115_0, hx115_1, hx115_2, hx115_3, hx115_4⟩ := at_T38 (Kd.R_reads' HO112.out).2.2 a0 p115 q115; cases e115; replace p115 := eq_true p115; replace q115 := eq_true q115; have hcz20_0 : w18.cell? ⟨gb109, 0, none⟩ = some (.string (⟨#[]⟩ : ByteArray)) := (blk_cell BK109.out 0).trans rfl; have hcz20_1 : w18.cell? ⟨gb109, 1, none⟩ = some (.int .i64 0) := (blk_cell BK109.out 1).trans rfl; have hcz20_2 : w18.cell? ⟨gb109, 2, none⟩ = some (.string (⟨#[]⟩ : ByteArray)) := (blk_cell BK109.out 2).trans rfl; have hcz20_3 : w18.cell? ⟨gb109, 3, none⟩ = some (.int .i64 0) := (blk_cell BK109.out 3).trans rfl; have hcz20_4 : w18.cell? ⟨gb109, 4, none⟩ = some (.string (⟨#[]⟩ : ByteArray)) := (blk_cell BK109.out 4).trans rfl; have hfz20_0 := blk_frozen BK109.out 0; have hfz20_1 := blk_frozen BK109.out 1; have hfz20_2 := blk_frozen BK109.out 2; have hfz20_3 := blk_frozen BK109.out 3; have hfz20_4 := blk_frozen BK109.out 4))
          refine bodyPost_ret (results_cell_row rfl _ _ gb109 38 #[.string ((rd_T38 t110 a0).f0), .int .i64 ((rd_T38 t110 a0).f1), .string ((rd_T38 t110 a0).f2), .int .i64 ((rd_T38 t110 a0).f3), .string ((rd_T38 t110 a0).f4)] (0, 0) _ rfl (by (with_reducible repeat (first | refine blk_drewN ?_ _ | refine blk_drew ?_ | refine blk_alloc ?_ _)); refine blk_put (cs := #[.string ((rd_T38 t110 a0).f0), .int .i64 ((rd_T38 t110 a0).f1), .string ((rd_T38 t110 a0).f2), .int .i64 ((rd_T38 t110 a0).f3), .string (⟨#[]⟩ : ByteArray)]) ?_ 4 _ rfl; (with_reducible repeat (first | refine blk_drewN ?_ _ | refine blk_drew ?_ | refine blk_alloc ?_ _)); refine blk_put (cs := #[.string ((rd_T38 t110 a0).f0), .int .i64 ((rd_T38 t110 a0).f1), .string ((rd_T38 t110 a0).f2), .int .i64 0, .string (⟨#[]⟩ : ByteArray)]) ?_ 3 _ rfl; (with_reducible repeat (first | refine blk_drewN ?_ _ | refine blk_drew ?_ | refine blk_alloc ?_ _)); refine blk_put (cs := #[.string ((rd_T38 t110 a0).f0), .int .i64 ((rd_T38 t110 a0).f1), .string (⟨#[]⟩ : ByteArray), .int .i64 0, .string (⟨#[]⟩ : ByteArray)]) ?_ 2 _ rfl; (with_reducible repeat (first | refine blk_drewN ?_ _ | refine blk_drew ?_ | refine blk_alloc ?_ _)); refine blk_put (cs := #[.string ((rd_T38 t110 a0).f0), .int .i64 0, .string (⟨#[]⟩ : ByteArray), .int .i64 0, .string (⟨#[]⟩ : ByteArray)]) ?_ 1 _ rfl; (with_reducible repeat (first | refine blk_drewN ?_ _ | refine blk_drew ?_ | refine blk_alloc ?_ _)); refine blk_put (cs := #[.string (⟨#[]⟩ : ByteArray), .int .i64 0, .string (⟨#[]⟩ : ByteArray), .int .i64 0, .string (⟨#[]⟩ : ByteArray)]) ?_ 0 _ rfl; (with_reducible repeat (first | refine blk_drewN ?_ _ | refine blk_drew ?_ | refine blk_alloc ?_ _)); exact BK109.out) Tryz.underlying38 rfl (by kernel_rfl)) rfl ?_
          exact ⟨by first | rfl | (simp [errW_none, errW_some] <;> rfl) | (simp [*, errW_none, errW_some] <;> rfl), by repeat (first | (with_reducible first | exact HB.out | apply below_alloc | apply pw_below_drewN | apply below_drew1 | refine below_set ?_ GE109.out) | exact HB.out)⟩
        · rw [if_neg c16] at H
          exact absurd H (by simp)
      · rw [if_neg c15] at H
        exact absurd H (by simp)

/-! ### kind_Name: function 11 -/
def kind_Name.f (a0 : Int) : Option (ByteArray) := (kind_of.f a0).bind fun bt116 => (some bt116.1)
set_option maxHeartbeats 8000000 in
set_option maxRecDepth 100000 in
theorem kind_Name.calls (a0 : Int) (r : ByteArray) (w : World) (h : kind_Name.f a0 = some r) :
    Calls Tryz.prog 11 #[.int .i64 a0] w fun e w' => e = .returned (.string r) ∧ Below w.heap.size w w' := by
  have HB := Aside0.mk (Below.refl w.heap.size w)
  have H : ((kind_of.f a0).bind fun bt116 => (some bt116.1)) = some r := h
  clear h
  replace H := Option.bind_eq_some_iff.mp H
  obtain ⟨⟨t116, t117, t118, t119, t120⟩, A20, H⟩ := H
  replace H : (some t116) = some r := H
  have A2 := Aside0.mk A20
  clear A20
  obtain rfl := Option.some.inj H
  go_enter Tryz.func11, Tryz.ntmps11
  go_wp2_with (first | ((with_reducible refine gate_callee (f := 30) rfl ?_); refine goesL_ (some 4) rfl rfl Tryz.func30 (by kernel_rfl) rfl #[.int .i64 a0] rfl (by (try simp only [List.map_toArray, List.map_cons, List.map_nil]); first | done | rfl | (simp only [List.length_drop, List.length_take]; rfl) | exact congrArg (fun z => #[Value.int .i64 z]) (w64 (by omega) (by omega)).symm) ?_; (with_reducible refine (kind_of.calls a0 t116 t117 t118 t119 t120 _ A2.out).mono ?_); rintro e w3 ⟨rfl, hb⟩; refine ⟨_, rfl, ?_⟩; have n0_ := Aside0.mk (below_step (by repeat (first | (with_reducible first | exact HB.out | apply below_alloc | apply pw_below_drewN | apply below_drew1) | exact HB.out)) hb); clear HB; have HB := n0_; clear n0_; (try clear hb); (try clear hb2); (try clear hk); (try clear hi)))
  go_ret
  exact ⟨by first | rfl | (simp [errW_none, errW_some] <;> rfl) | (simp [*, errW_none, errW_some] <;> rfl), by repeat (first | (with_reducible first | exact HB.out | apply below_alloc | apply pw_below_drewN | apply below_drew1) | exact HB.out)⟩

/-! ### kind_Size: function 13 -/
def kind_Size.f (a0 : Int) : Option (Int) := (kind_of.f a0).bind fun bt121 => (some bt121.2.1)
set_option maxHeartbeats 8000000 in
set_option maxRecDepth 100000 in
theorem kind_Size.calls (a0 : Int) (r : Int) (w : World) (h : kind_Size.f a0 = some r) :
    Calls Tryz.prog 13 #[.int .i64 a0] w fun e w' => e = .returned (.int .i64 r) ∧ Below w.heap.size w w' := by
  have HB := Aside0.mk (Below.refl w.heap.size w)
  have H : ((kind_of.f a0).bind fun bt121 => (some bt121.2.1)) = some r := h
  clear h
  replace H := Option.bind_eq_some_iff.mp H
  obtain ⟨⟨t121, t122, t123, t124, t125⟩, A20, H⟩ := H
  replace H : (some t122) = some r := H
  have A2 := Aside0.mk A20
  clear A20
  obtain rfl := Option.some.inj H
  go_enter Tryz.func13, Tryz.ntmps13
  go_wp2_with (first | ((with_reducible refine gate_callee (f := 30) rfl ?_); refine goesL_ (some 4) rfl rfl Tryz.func30 (by kernel_rfl) rfl #[.int .i64 a0] rfl (by (try simp only [List.map_toArray, List.map_cons, List.map_nil]); first | done | rfl | (simp only [List.length_drop, List.length_take]; rfl) | exact congrArg (fun z => #[Value.int .i64 z]) (w64 (by omega) (by omega)).symm) ?_; (with_reducible refine (kind_of.calls a0 t121 t122 t123 t124 t125 _ A2.out).mono ?_); rintro e w3 ⟨rfl, hb⟩; refine ⟨_, rfl, ?_⟩; have n0_ := Aside0.mk (below_step (by repeat (first | (with_reducible first | exact HB.out | apply below_alloc | apply pw_below_drewN | apply below_drew1) | exact HB.out)) hb); clear HB; have HB := n0_; clear n0_; (try clear hb); (try clear hb2); (try clear hk); (try clear hi)))
  go_ret
  exact ⟨by first | rfl | (simp [errW_none, errW_some] <;> rfl) | (simp [*, errW_none, errW_some] <;> rfl), by repeat (first | (with_reducible first | exact HB.out | apply below_alloc | apply pw_below_drewN | apply below_drew1) | exact HB.out)⟩

/-! ### kind_Letter: function 15 -/
def kind_Letter.f (a0 : Int) : Option (ByteArray) := (kind_of.f a0).bind fun bt126 => (some bt126.2.2.1)
set_option maxHeartbeats 8000000 in
set_option maxRecDepth 100000 in
theorem kind_Letter.calls (a0 : Int) (r : ByteArray) (w : World) (h : kind_Letter.f a0 = some r) :
    Calls Tryz.prog 15 #[.int .i64 a0] w fun e w' => e = .returned (.string r) ∧ Below w.heap.size w w' := by
  have HB := Aside0.mk (Below.refl w.heap.size w)
  have H : ((kind_of.f a0).bind fun bt126 => (some bt126.2.2.1)) = some r := h
  clear h
  replace H := Option.bind_eq_some_iff.mp H
  obtain ⟨⟨t126, t127, t128, t129, t130⟩, A20, H⟩ := H
  replace H : (some t128) = some r := H
  have A2 := Aside0.mk A20
  clear A20
  obtain rfl := Option.some.inj H
  go_enter Tryz.func15, Tryz.ntmps15
  go_wp2_with (first | ((with_reducible refine gate_callee (f := 30) rfl ?_); refine goesL_ (some 4) rfl rfl Tryz.func30 (by kernel_rfl) rfl #[.int .i64 a0] rfl (by (try simp only [List.map_toArray, List.map_cons, List.map_nil]); first | done | rfl | (simp only [List.length_drop, List.length_take]; rfl) | exact congrArg (fun z => #[Value.int .i64 z]) (w64 (by omega) (by omega)).symm) ?_; (with_reducible refine (kind_of.calls a0 t126 t127 t128 t129 t130 _ A2.out).mono ?_); rintro e w3 ⟨rfl, hb⟩; refine ⟨_, rfl, ?_⟩; have n0_ := Aside0.mk (below_step (by repeat (first | (with_reducible first | exact HB.out | apply below_alloc | apply pw_below_drewN | apply below_drew1) | exact HB.out)) hb); clear HB; have HB := n0_; clear n0_; (try clear hb); (try clear hb2); (try clear hk); (try clear hi)))
  go_ret
  exact ⟨by first | rfl | (simp [errW_none, errW_some] <;> rfl) | (simp [*, errW_none, errW_some] <;> rfl), by repeat (first | (with_reducible first | exact HB.out | apply below_alloc | apply pw_below_drewN | apply below_drew1) | exact HB.out)⟩

/-! ### kind_Curve: function 17 -/
def kind_Curve.f (a0 : Int) : Option (Int) := (kind_of.f a0).bind fun bt131 => (some bt131.2.2.2.1)
set_option maxHeartbeats 8000000 in
set_option maxRecDepth 100000 in
theorem kind_Curve.calls (a0 : Int) (r : Int) (w : World) (h : kind_Curve.f a0 = some r) :
    Calls Tryz.prog 17 #[.int .i64 a0] w fun e w' => e = .returned (.int .i64 r) ∧ Below w.heap.size w w' := by
  have HB := Aside0.mk (Below.refl w.heap.size w)
  have H : ((kind_of.f a0).bind fun bt131 => (some bt131.2.2.2.1)) = some r := h
  clear h
  replace H := Option.bind_eq_some_iff.mp H
  obtain ⟨⟨t131, t132, t133, t134, t135⟩, A20, H⟩ := H
  replace H : (some t134) = some r := H
  have A2 := Aside0.mk A20
  clear A20
  obtain rfl := Option.some.inj H
  go_enter Tryz.func17, Tryz.ntmps17
  go_wp2_with (first | ((with_reducible refine gate_callee (f := 30) rfl ?_); refine goesL_ (some 4) rfl rfl Tryz.func30 (by kernel_rfl) rfl #[.int .i64 a0] rfl (by (try simp only [List.map_toArray, List.map_cons, List.map_nil]); first | done | rfl | (simp only [List.length_drop, List.length_take]; rfl) | exact congrArg (fun z => #[Value.int .i64 z]) (w64 (by omega) (by omega)).symm) ?_; (with_reducible refine (kind_of.calls a0 t131 t132 t133 t134 t135 _ A2.out).mono ?_); rintro e w3 ⟨rfl, hb⟩; refine ⟨_, rfl, ?_⟩; have n0_ := Aside0.mk (below_step (by repeat (first | (with_reducible first | exact HB.out | apply below_alloc | apply pw_below_drewN | apply below_drew1) | exact HB.out)) hb); clear HB; have HB := n0_; clear n0_; (try clear hb); (try clear hb2); (try clear hk); (try clear hi)))
  go_ret
  exact ⟨by first | rfl | (simp [errW_none, errW_some] <;> rfl) | (simp [*, errW_none, errW_some] <;> rfl), by repeat (first | (with_reducible first | exact HB.out | apply below_alloc | apply pw_below_drewN | apply below_drew1) | exact HB.out)⟩

/-! ### curve_table: function 55 (a text given by hand: curve.tmpl) -/
-- @import Derived.Laws.Rows
-- @import Derived.Deep.WholeRow
def curveC : Array Value := #[.string ⟨#[80, 45, 50, 50, 52]⟩, .string ⟨#[49, 46, 51, 46, 49, 51, 50, 46, 48, 46, 51, 51]⟩, .string ⟨#[70, 70, 70, 70, 70, 70, 70, 70, 70, 70, 70, 70, 70, 70, 70, 70, 70, 70, 70, 70, 70, 70, 70, 70, 70, 70, 70, 70, 49, 54, 65, 50, 69, 48, 66, 56, 70, 48, 51, 69, 49, 51, 68, 68, 50, 57, 52, 53, 53, 67, 53, 67, 50, 65, 51, 68]⟩, .int .i64 28, .string ⟨#[80, 45, 50, 53, 54]⟩, .string ⟨#[49, 46, 50, 46, 56, 52, 48, 46, 49, 48, 48, 52, 53, 46, 51, 46, 49, 46, 55]⟩, .string ⟨#[70, 70, 70, 70, 70, 70, 70, 70, 48, 48, 48, 48, 48, 48, 48, 48, 70, 70, 70, 70, 70, 70, 70, 70, 70, 70, 70, 70, 70, 70, 70, 70, 66, 67, 69, 54, 70, 65, 65, 68, 65, 55, 49, 55, 57, 69, 56, 52, 70, 51, 66, 57, 67, 65, 67, 50, 70, 67, 54, 51, 50, 53, 53, 49]⟩, .int .i64 32, .string ⟨#[80, 45, 51, 56, 52]⟩, .string ⟨#[49, 46, 51, 46, 49, 51, 50, 46, 48, 46, 51, 52]⟩, .string ⟨#[70, 70, 70, 70, 70, 70, 70, 70, 70, 70, 70, 70, 70, 70, 70, 70, 70, 70, 70, 70, 70, 70, 70, 70, 70, 70, 70, 70, 70, 70, 70, 70, 70, 70, 70, 70, 70, 70, 70, 70, 70, 70, 70, 70, 70, 70, 70, 70, 67, 55, 54, 51, 52, 68, 56, 49, 70, 52, 51, 55, 50, 68, 68, 70, 53, 56, 49, 65, 48, 68, 66, 50, 52, 56, 66, 48, 65, 55, 55, 65, 69, 67, 69, 67, 49, 57, 54, 65, 67, 67, 67, 53, 50, 57, 55, 51]⟩, .int .i64 48, .string ⟨#[80, 45, 53, 50, 49]⟩, .string ⟨#[49, 46, 51, 46, 49, 51, 50, 46, 48, 46, 51, 53]⟩, .string ⟨#[48, 49, 70, 70, 70, 70, 70, 70, 70, 70, 70, 70, 70, 70, 70, 70, 70, 70, 70, 70, 70, 70, 70, 70, 70, 70, 70, 70, 70, 70, 70, 70, 70, 70, 70, 70, 70, 70, 70, 70, 70, 70, 70, 70, 70, 70, 70, 70, 70, 70, 70, 70, 70, 70, 70, 70, 70, 70, 70, 70, 70, 70, 70, 70, 70, 70, 70, 65, 53, 49, 56, 54, 56, 55, 56, 51, 66, 70, 50, 70, 57, 54, 54, 66, 55, 70, 67, 67, 48, 49, 52, 56, 70, 55, 48, 57, 65, 53, 68, 48, 51, 66, 66, 53, 67, 57, 66, 56, 56, 57, 57, 67, 52, 55, 65, 69, 66, 66, 54, 70, 66, 55, 49, 69, 57, 49, 51, 56, 54, 52, 48, 57]⟩, .int .i64 66]
def curveL : List (Nat × Value) := [(0, .agg #[.string ⟨#[80, 45, 50, 50, 52]⟩, .string ⟨#[49, 46, 51, 46, 49, 51, 50, 46, 48, 46, 51, 51]⟩, .string ⟨#[70, 70, 70, 70, 70, 70, 70, 70, 70, 70, 70, 70, 70, 70, 70, 70, 70, 70, 70, 70, 70, 70, 70, 70, 70, 70, 70, 70, 49, 54, 65, 50, 69, 48, 66, 56, 70, 48, 51, 69, 49, 51, 68, 68, 50, 57, 52, 53, 53, 67, 53, 67, 50, 65, 51, 68]⟩, .int .i64 28]), (1, .agg #[.string ⟨#[80, 45, 50, 53, 54]⟩, .string ⟨#[49, 46, 50, 46, 56, 52, 48, 46, 49, 48, 48, 52, 53, 46, 51, 46, 49, 46, 55]⟩, .string ⟨#[70, 70, 70, 70, 70, 70, 70, 70, 48, 48, 48, 48, 48, 48, 48, 48, 70, 70, 70, 70, 70, 70, 70, 70, 70, 70, 70, 70, 70, 70, 70, 70, 66, 67, 69, 54, 70, 65, 65, 68, 65, 55, 49, 55, 57, 69, 56, 52, 70, 51, 66, 57, 67, 65, 67, 50, 70, 67, 54, 51, 50, 53, 53, 49]⟩, .int .i64 32]), (2, .agg #[.string ⟨#[80, 45, 51, 56, 52]⟩, .string ⟨#[49, 46, 51, 46, 49, 51, 50, 46, 48, 46, 51, 52]⟩, .string ⟨#[70, 70, 70, 70, 70, 70, 70, 70, 70, 70, 70, 70, 70, 70, 70, 70, 70, 70, 70, 70, 70, 70, 70, 70, 70, 70, 70, 70, 70, 70, 70, 70, 70, 70, 70, 70, 70, 70, 70, 70, 70, 70, 70, 70, 70, 70, 70, 70, 67, 55, 54, 51, 52, 68, 56, 49, 70, 52, 51, 55, 50, 68, 68, 70, 53, 56, 49, 65, 48, 68, 66, 50, 52, 56, 66, 48, 65, 55, 55, 65, 69, 67, 69, 67, 49, 57, 54, 65, 67, 67, 67, 53, 50, 57, 55, 51]⟩, .int .i64 48]), (3, .agg #[.string ⟨#[80, 45, 53, 50, 49]⟩, .string ⟨#[49, 46, 51, 46, 49, 51, 50, 46, 48, 46, 51, 53]⟩, .string ⟨#[48, 49, 70, 70, 70, 70, 70, 70, 70, 70, 70, 70, 70, 70, 70, 70, 70, 70, 70, 70, 70, 70, 70, 70, 70, 70, 70, 70, 70, 70, 70, 70, 70, 70, 70, 70, 70, 70, 70, 70, 70, 70, 70, 70, 70, 70, 70, 70, 70, 70, 70, 70, 70, 70, 70, 70, 70, 70, 70, 70, 70, 70, 70, 70, 70, 70, 70, 65, 53, 49, 56, 54, 56, 55, 56, 51, 66, 70, 50, 70, 57, 54, 54, 66, 55, 70, 67, 67, 48, 49, 52, 56, 70, 55, 48, 57, 65, 53, 68, 48, 51, 66, 66, 53, 67, 57, 66, 56, 56, 57, 57, 67, 52, 55, 65, 69, 66, 66, 54, 70, 66, 55, 49, 69, 57, 49, 51, 56, 54, 52, 48, 57]⟩, .int .i64 66])]
theorem curve_built : Tryz.prog.built 71 curveL = some curveC := by kernel_rfl
theorem curve_one : curveC.all (fun x => x.oneCell') = true := by kernel_rfl
set_option maxHeartbeats 8000000 in
set_option maxRecDepth 100000 in
theorem curve_table.calls (w : World) : Calls Tryz.prog 55 #[] w fun e w' => e = .returned (.agg curveC) ∧ Below w.heap.size w w' := by
  go_enter Tryz.func55, Tryz.ntmps55
  go_wp2_with (first | ((with_reducible refine gate_dst (N := 5) rfl ?_); refine wpList_buildTo rfl 71 _ rfl curveL curveC (by simp only [List.map_toArray, List.map_cons, List.map_nil]; rfl) curve_built ?_) | ((with_reducible refine gate_store (t := 71) (p := 0) rfl ?_); refine wpList_store_row rfl 71 (.tmp 0) (.tmp 5) rfl w.heap.size curveC rfl rfl 71 _ (heap_alloc_new _ _) (by kernel_rfl) rfl curve_one ?_; rw [World.setRow_alloc_new]))
  try simp only [Exit.inBlock, Exit.then]
  refine bodyPost_ret (results_cell_row (t := 71) (fr := (0, 0)) rfl _ _ w.heap.size curveC _ rfl (heap_alloc_new _ _) Tryz.underlying71 rfl (by kernel_rfl)) rfl ?_
  exact ⟨rfl, by repeat (first | exact Below.refl _ _ | apply below_alloc | apply below_drew1)⟩

/-! ### curve_line: function 42 (a text given by hand: curve.tmpl) -/
-- @import Derived.Laws.Rows
-- @import Derived.Deep.WholeRow
-- @import Derived.Deep.MidRow
def curve_line.f (a0 : Int) : Option (ByteArray × ByteArray × ByteArray × Int) := if a0 = 1 then some ((⟨#[80, 45, 50, 50, 52]⟩ : ByteArray), ⟨#[49, 46, 51, 46, 49, 51, 50, 46, 48, 46, 51, 51]⟩, ⟨#[70, 70, 70, 70, 70, 70, 70, 70, 70, 70, 70, 70, 70, 70, 70, 70, 70, 70, 70, 70, 70, 70, 70, 70, 70, 70, 70, 70, 49, 54, 65, 50, 69, 48, 66, 56, 70, 48, 51, 69, 49, 51, 68, 68, 50, 57, 52, 53, 53, 67, 53, 67, 50, 65, 51, 68]⟩, 28) else if a0 = 2 then some ((⟨#[80, 45, 50, 53, 54]⟩ : ByteArray), ⟨#[49, 46, 50, 46, 56, 52, 48, 46, 49, 48, 48, 52, 53, 46, 51, 46, 49, 46, 55]⟩, ⟨#[70, 70, 70, 70, 70, 70, 70, 70, 48, 48, 48, 48, 48, 48, 48, 48, 70, 70, 70, 70, 70, 70, 70, 70, 70, 70, 70, 70, 70, 70, 70, 70, 66, 67, 69, 54, 70, 65, 65, 68, 65, 55, 49, 55, 57, 69, 56, 52, 70, 51, 66, 57, 67, 65, 67, 50, 70, 67, 54, 51, 50, 53, 53, 49]⟩, 32) else if a0 = 3 then some ((⟨#[80, 45, 51, 56, 52]⟩ : ByteArray), ⟨#[49, 46, 51, 46, 49, 51, 50, 46, 48, 46, 51, 52]⟩, ⟨#[70, 70, 70, 70, 70, 70, 70, 70, 70, 70, 70, 70, 70, 70, 70, 70, 70, 70, 70, 70, 70, 70, 70, 70, 70, 70, 70, 70, 70, 70, 70, 70, 70, 70, 70, 70, 70, 70, 70, 70, 70, 70, 70, 70, 70, 70, 70, 70, 67, 55, 54, 51, 52, 68, 56, 49, 70, 52, 51, 55, 50, 68, 68, 70, 53, 56, 49, 65, 48, 68, 66, 50, 52, 56, 66, 48, 65, 55, 55, 65, 69, 67, 69, 67, 49, 57, 54, 65, 67, 67, 67, 53, 50, 57, 55, 51]⟩, 48) else if a0 = 4 then some ((⟨#[80, 45, 53, 50, 49]⟩ : ByteArray), ⟨#[49, 46, 51, 46, 49, 51, 50, 46, 48, 46, 51, 53]⟩, ⟨#[48, 49, 70, 70, 70, 70, 70, 70, 70, 70, 70, 70, 70, 70, 70, 70, 70, 70, 70, 70, 70, 70, 70, 70, 70, 70, 70, 70, 70, 70, 70, 70, 70, 70, 70, 70, 70, 70, 70, 70, 70, 70, 70, 70, 70, 70, 70, 70, 70, 70, 70, 70, 70, 70, 70, 70, 70, 70, 70, 70, 70, 70, 70, 70, 70, 70, 70, 65, 53, 49, 56, 54, 56, 55, 56, 51, 66, 70, 50, 70, 57, 54, 54, 66, 55, 70, 67, 67, 48, 49, 52, 56, 70, 55, 48, 57, 65, 53, 68, 48, 51, 66, 66, 53, 67, 57, 66, 56, 56, 57, 57, 67, 52, 55, 65, 69, 66, 66, 54, 70, 66, 55, 49, 69, 57, 49, 51, 56, 54, 52, 48, 57]⟩, 66) else some (⟨#[]⟩, ⟨#[]⟩, ⟨#[]⟩, 0)
theorem curve_range0 (W : World) : (W.alloc (.cells curveC 71)).rangeAt W.heap.size 0 [.string ⟨#[80, 45, 50, 50, 52]⟩, .string ⟨#[49, 46, 51, 46, 49, 51, 50, 46, 48, 46, 51, 51]⟩, .string ⟨#[70, 70, 70, 70, 70, 70, 70, 70, 70, 70, 70, 70, 70, 70, 70, 70, 70, 70, 70, 70, 70, 70, 70, 70, 70, 70, 70, 70, 49, 54, 65, 50, 69, 48, 66, 56, 70, 48, 51, 69, 49, 51, 68, 68, 50, 57, 52, 53, 53, 67, 53, 67, 50, 65, 51, 68]⟩, .int .i64 28] := by
  intro j v hj
  rw [World.cell?_alloc_new]
  match j, hj with
  | 0, hj => exact hj
  | 1, hj => exact hj
  | 2, hj => exact hj
  | 3, hj => exact hj
theorem curve_range1 (W : World) : (W.alloc (.cells curveC 71)).rangeAt W.heap.size 4 [.string ⟨#[80, 45, 50, 53, 54]⟩, .string ⟨#[49, 46, 50, 46, 56, 52, 48, 46, 49, 48, 48, 52, 53, 46, 51, 46, 49, 46, 55]⟩, .string ⟨#[70, 70, 70, 70, 70, 70, 70, 70, 48, 48, 48, 48, 48, 48, 48, 48, 70, 70, 70, 70, 70, 70, 70, 70, 70, 70, 70, 70, 70, 70, 70, 70, 66, 67, 69, 54, 70, 65, 65, 68, 65, 55, 49, 55, 57, 69, 56, 52, 70, 51, 66, 57, 67, 65, 67, 50, 70, 67, 54, 51, 50, 53, 53, 49]⟩, .int .i64 32] := by
  intro j v hj
  rw [World.cell?_alloc_new]
  match j, hj with
  | 0, hj => exact hj
  | 1, hj => exact hj
  | 2, hj => exact hj
  | 3, hj => exact hj
theorem curve_range2 (W : World) : (W.alloc (.cells curveC 71)).rangeAt W.heap.size 8 [.string ⟨#[80, 45, 51, 56, 52]⟩, .string ⟨#[49, 46, 51, 46, 49, 51, 50, 46, 48, 46, 51, 52]⟩, .string ⟨#[70, 70, 70, 70, 70, 70, 70, 70, 70, 70, 70, 70, 70, 70, 70, 70, 70, 70, 70, 70, 70, 70, 70, 70, 70, 70, 70, 70, 70, 70, 70, 70, 70, 70, 70, 70, 70, 70, 70, 70, 70, 70, 70, 70, 70, 70, 70, 70, 67, 55, 54, 51, 52, 68, 56, 49, 70, 52, 51, 55, 50, 68, 68, 70, 53, 56, 49, 65, 48, 68, 66, 50, 52, 56, 66, 48, 65, 55, 55, 65, 69, 67, 69, 67, 49, 57, 54, 65, 67, 67, 67, 53, 50, 57, 55, 51]⟩, .int .i64 48] := by
  intro j v hj
  rw [World.cell?_alloc_new]
  match j, hj with
  | 0, hj => exact hj
  | 1, hj => exact hj
  | 2, hj => exact hj
  | 3, hj => exact hj
theorem curve_range3 (W : World) : (W.alloc (.cells curveC 71)).rangeAt W.heap.size 12 [.string ⟨#[80, 45, 53, 50, 49]⟩, .string ⟨#[49, 46, 51, 46, 49, 51, 50, 46, 48, 46, 51, 53]⟩, .string ⟨#[48, 49, 70, 70, 70, 70, 70, 70, 70, 70, 70, 70, 70, 70, 70, 70, 70, 70, 70, 70, 70, 70, 70, 70, 70, 70, 70, 70, 70, 70, 70, 70, 70, 70, 70, 70, 70, 70, 70, 70, 70, 70, 70, 70, 70, 70, 70, 70, 70, 70, 70, 70, 70, 70, 70, 70, 70, 70, 70, 70, 70, 70, 70, 70, 70, 70, 70, 65, 53, 49, 56, 54, 56, 55, 56, 51, 66, 70, 50, 70, 57, 54, 54, 66, 55, 70, 67, 67, 48, 49, 52, 56, 70, 55, 48, 57, 65, 53, 68, 48, 51, 66, 66, 53, 67, 57, 66, 56, 56, 57, 57, 67, 52, 55, 65, 69, 66, 66, 54, 70, 66, 55, 49, 69, 57, 49, 51, 56, 54, 52, 48, 57]⟩, .int .i64 66] := by
  intro j v hj
  rw [World.cell?_alloc_new]
  match j, hj with
  | 0, hj => exact hj
  | 1, hj => exact hj
  | 2, hj => exact hj
  | 3, hj => exact hj
set_option maxHeartbeats 8000000 in
set_option maxRecDepth 100000 in
theorem curve_line.calls (a0 : Int) (r1 r2 r3 : ByteArray) (r4 : Int) (w : World) (h : curve_line.f a0 = some (r1, r2, r3, r4)) :
    Calls Tryz.prog 42 #[.int .i64 a0] w fun e w' => e = .returned (.agg #[.string r1, .string r2, .string r3, .int .i64 r4]) ∧ Below w.heap.size w w' := by
  unfold curve_line.f at h
  by_cases h1 : a0 = 1
  · rw [if_pos h1] at h
    simp only [Option.some.injEq, Prod.mk.injEq] at h
    obtain ⟨rfl, rfl, rfl, rfl⟩ := h
    subst h1
    go_enter Tryz.func42, Tryz.ntmps42
    go_wp2_with (fail)
    refine (curve_table.calls _).mono ?_
    rintro e w2 ⟨rfl, hb⟩
    simp only []
    have hold0 : w2.heap[w.heap.size]? = some (.cells #[.string ⟨#[]⟩, .string ⟨#[]⟩, .string ⟨#[]⟩, .int .i64 0] 54) := (hb.block w.heap.size (by simp)).trans (heap_alloc_new _ _)
    have HB2 := Aside0.mk ((below_alloc (Below.refl w.heap.size w) _).trans (hb.mono (by simp)))
    have hold := Aside0.mk hold0
    clear hb hold0
    go_wp2_with (first | ((with_reducible refine gate_store (t := 71) (p := 3) rfl ?_); refine wpList_store_row rfl 71 (.tmp 3) (.tmp 4) rfl w2.heap.size curveC rfl rfl 71 _ (heap_alloc_new _ _) (by kernel_rfl) rfl curve_one ?_; rw [World.setRow_alloc_new]) | ((with_reducible refine gate_dst (N := 15) rfl ?_); refine wpList_load_mid rfl 54 (.tmp 14) rfl w2.heap.size 0 rfl [.string ⟨#[80, 45, 50, 50, 52]⟩, .string ⟨#[49, 46, 51, 46, 49, 51, 50, 46, 48, 46, 51, 51]⟩, .string ⟨#[70, 70, 70, 70, 70, 70, 70, 70, 70, 70, 70, 70, 70, 70, 70, 70, 70, 70, 70, 70, 70, 70, 70, 70, 70, 70, 70, 70, 49, 54, 65, 50, 69, 48, 66, 56, 70, 48, 51, 69, 49, 51, 68, 68, 50, 57, 52, 53, 53, 67, 53, 67, 50, 65, 51, 68]⟩, .int .i64 28] _ (curve_range0 w2) Tryz.underlying54 rfl (by kernel_rfl) ?_) | ((with_reducible refine gate_store (t := 54) (p := 2) rfl ?_); refine wpList_store_row rfl 54 (.tmp 2) _ rfl w.heap.size _ rfl rfl 54 #[.string ⟨#[]⟩, .string ⟨#[]⟩, .string ⟨#[]⟩, .int .i64 0] (by repeat (first | exact hold.out | apply heap_old_alloc | apply heap_old_drewN)) (by kernel_rfl) rfl (by kernel_rfl) ?_))
    try simp only [Exit.inBlock, Exit.then]
    refine bodyPost_ret (results_cell_row (t := 54) (fr := (0, 0)) rfl _ _ w.heap.size _ _ rfl (setRow_heap _ _ _ _ _ _ (by repeat (first | exact hold.out | apply heap_old_alloc | apply heap_old_drewN))) Tryz.underlying54 rfl (by kernel_rfl)) rfl ?_
    exact ⟨by first | rfl | simp, below_setRow (by repeat (first | exact HB2.out | apply below_alloc | apply below_drew1 | apply pw_below_drewN)) (Nat.le_refl _) _⟩
  rw [if_neg h1] at h
  by_cases h2 : a0 = 2
  · rw [if_pos h2] at h
    simp only [Option.some.injEq, Prod.mk.injEq] at h
    obtain ⟨rfl, rfl, rfl, rfl⟩ := h
    subst h2
    go_enter Tryz.func42, Tryz.ntmps42
    go_wp2_with (fail)
    refine (curve_table.calls _).mono ?_
    rintro e w2 ⟨rfl, hb⟩
    simp only []
    have hold0 : w2.heap[w.heap.size]? = some (.cells #[.string ⟨#[]⟩, .string ⟨#[]⟩, .string ⟨#[]⟩, .int .i64 0] 54) := (hb.block w.heap.size (by simp)).trans (heap_alloc_new _ _)
    have HB2 := Aside0.mk ((below_alloc (Below.refl w.heap.size w) _).trans (hb.mono (by simp)))
    have hold := Aside0.mk hold0
    clear hb hold0
    go_wp2_with (first | ((with_reducible refine gate_store (t := 71) (p := 3) rfl ?_); refine wpList_store_row rfl 71 (.tmp 3) (.tmp 4) rfl w2.heap.size curveC rfl rfl 71 _ (heap_alloc_new _ _) (by kernel_rfl) rfl curve_one ?_; rw [World.setRow_alloc_new]) | ((with_reducible refine gate_dst (N := 15) rfl ?_); refine wpList_load_mid rfl 54 (.tmp 14) rfl w2.heap.size 4 rfl [.string ⟨#[80, 45, 50, 53, 54]⟩, .string ⟨#[49, 46, 50, 46, 56, 52, 48, 46, 49, 48, 48, 52, 53, 46, 51, 46, 49, 46, 55]⟩, .string ⟨#[70, 70, 70, 70, 70, 70, 70, 70, 48, 48, 48, 48, 48, 48, 48, 48, 70, 70, 70, 70, 70, 70, 70, 70, 70, 70, 70, 70, 70, 70, 70, 70, 66, 67, 69, 54, 70, 65, 65, 68, 65, 55, 49, 55, 57, 69, 56, 52, 70, 51, 66, 57, 67, 65, 67, 50, 70, 67, 54, 51, 50, 53, 53, 49]⟩, .int .i64 32] _ (curve_range1 w2) Tryz.underlying54 rfl (by kernel_rfl) ?_) | ((with_reducible refine gate_store (t := 54) (p := 2) rfl ?_); refine wpList_store_row rfl 54 (.tmp 2) _ rfl w.heap.size _ rfl rfl 54 #[.string ⟨#[]⟩, .string ⟨#[]⟩, .string ⟨#[]⟩, .int .i64 0] (by repeat (first | exact hold.out | apply heap_old_alloc | apply heap_old_drewN)) (by kernel_rfl) rfl (by kernel_rfl) ?_))
    try simp only [Exit.inBlock, Exit.then]
    refine bodyPost_ret (results_cell_row (t := 54) (fr := (0, 0)) rfl _ _ w.heap.size _ _ rfl (setRow_heap _ _ _ _ _ _ (by repeat (first | exact hold.out | apply heap_old_alloc | apply heap_old_drewN))) Tryz.underlying54 rfl (by kernel_rfl)) rfl ?_
    exact ⟨by first | rfl | simp, below_setRow (by repeat (first | exact HB2.out | apply below_alloc | apply below_drew1 | apply pw_below_drewN)) (Nat.le_refl _) _⟩
  rw [if_neg h2] at h
  by_cases h3 : a0 = 3
  · rw [if_pos h3] at h
    simp only [Option.some.injEq, Prod.mk.injEq] at h
    obtain ⟨rfl, rfl, rfl, rfl⟩ := h
    subst h3
    go_enter Tryz.func42, Tryz.ntmps42
    go_wp2_with (fail)
    refine (curve_table.calls _).mono ?_
    rintro e w2 ⟨rfl, hb⟩
    simp only []
    have hold0 : w2.heap[w.heap.size]? = some (.cells #[.string ⟨#[]⟩, .string ⟨#[]⟩, .string ⟨#[]⟩, .int .i64 0] 54) := (hb.block w.heap.size (by simp)).trans (heap_alloc_new _ _)
    have HB2 := Aside0.mk ((below_alloc (Below.refl w.heap.size w) _).trans (hb.mono (by simp)))
    have hold := Aside0.mk hold0
    clear hb hold0
    go_wp2_with (first | ((with_reducible refine gate_store (t := 71) (p := 3) rfl ?_); refine wpList_store_row rfl 71 (.tmp 3) (.tmp 4) rfl w2.heap.size curveC rfl rfl 71 _ (heap_alloc_new _ _) (by kernel_rfl) rfl curve_one ?_; rw [World.setRow_alloc_new]) | ((with_reducible refine gate_dst (N := 15) rfl ?_); refine wpList_load_mid rfl 54 (.tmp 14) rfl w2.heap.size 8 rfl [.string ⟨#[80, 45, 51, 56, 52]⟩, .string ⟨#[49, 46, 51, 46, 49, 51, 50, 46, 48, 46, 51, 52]⟩, .string ⟨#[70, 70, 70, 70, 70, 70, 70, 70, 70, 70, 70, 70, 70, 70, 70, 70, 70, 70, 70, 70, 70, 70, 70, 70, 70, 70, 70, 70, 70, 70, 70, 70, 70, 70, 70, 70, 70, 70, 70, 70, 70, 70, 70, 70, 70, 70, 70, 70, 67, 55, 54, 51, 52, 68, 56, 49, 70, 52, 51, 55, 50, 68, 68, 70, 53, 56, 49, 65, 48, 68, 66, 50, 52, 56, 66, 48, 65, 55, 55, 65, 69, 67, 69, 67, 49, 57, 54, 65, 67, 67, 67, 53, 50, 57, 55, 51]⟩, .int .i64 48] _ (curve_range2 w2) Tryz.underlying54 rfl (by kernel_rfl) ?_) | ((with_reducible refine gate_store (t := 54) (p := 2) rfl ?_); refine wpList_store_row rfl 54 (.tmp 2) _ rfl w.heap.size _ rfl rfl 54 #[.string ⟨#[]⟩, .string ⟨#[]⟩, .string ⟨#[]⟩, .int .i64 0] (by repeat (first | exact hold.out | apply heap_old_alloc | apply heap_old_drewN)) (by kernel_rfl) rfl (by kernel_rfl) ?_))
    try simp only [Exit.inBlock, Exit.then]
    refine bodyPost_ret (results_cell_row (t := 54) (fr := (0, 0)) rfl _ _ w.heap.size _ _ rfl (setRow_heap _ _ _ _ _ _ (by repeat (first | exact hold.out | apply heap_old_alloc | apply heap_old_drewN))) Tryz.underlying54 rfl (by kernel_rfl)) rfl ?_
    exact ⟨by first | rfl | simp, below_setRow (by repeat (first | exact HB2.out | apply below_alloc | apply below_drew1 | apply pw_below_drewN)) (Nat.le_refl _) _⟩
  rw [if_neg h3] at h
  by_cases h4 : a0 = 4
  · rw [if_pos h4] at h
    simp only [Option.some.injEq, Prod.mk.injEq] at h
    obtain ⟨rfl, rfl, rfl, rfl⟩ := h
    subst h4
    go_enter Tryz.func42, Tryz.ntmps42
    go_wp2_with (fail)
    refine (curve_table.calls _).mono ?_
    rintro e w2 ⟨rfl, hb⟩
    simp only []
    have hold0 : w2.heap[w.heap.size]? = some (.cells #[.string ⟨#[]⟩, .string ⟨#[]⟩, .string ⟨#[]⟩, .int .i64 0] 54) := (hb.block w.heap.size (by simp)).trans (heap_alloc_new _ _)
    have HB2 := Aside0.mk ((below_alloc (Below.refl w.heap.size w) _).trans (hb.mono (by simp)))
    have hold := Aside0.mk hold0
    clear hb hold0
    go_wp2_with (first | ((with_reducible refine gate_store (t := 71) (p := 3) rfl ?_); refine wpList_store_row rfl 71 (.tmp 3) (.tmp 4) rfl w2.heap.size curveC rfl rfl 71 _ (heap_alloc_new _ _) (by kernel_rfl) rfl curve_one ?_; rw [World.setRow_alloc_new]) | ((with_reducible refine gate_dst (N := 15) rfl ?_); refine wpList_load_mid rfl 54 (.tmp 14) rfl w2.heap.size 12 rfl [.string ⟨#[80, 45, 53, 50, 49]⟩, .string ⟨#[49, 46, 51, 46, 49, 51, 50, 46, 48, 46, 51, 53]⟩, .string ⟨#[48, 49, 70, 70, 70, 70, 70, 70, 70, 70, 70, 70, 70, 70, 70, 70, 70, 70, 70, 70, 70, 70, 70, 70, 70, 70, 70, 70, 70, 70, 70, 70, 70, 70, 70, 70, 70, 70, 70, 70, 70, 70, 70, 70, 70, 70, 70, 70, 70, 70, 70, 70, 70, 70, 70, 70, 70, 70, 70, 70, 70, 70, 70, 70, 70, 70, 70, 65, 53, 49, 56, 54, 56, 55, 56, 51, 66, 70, 50, 70, 57, 54, 54, 66, 55, 70, 67, 67, 48, 49, 52, 56, 70, 55, 48, 57, 65, 53, 68, 48, 51, 66, 66, 53, 67, 57, 66, 56, 56, 57, 57, 67, 52, 55, 65, 69, 66, 66, 54, 70, 66, 55, 49, 69, 57, 49, 51, 56, 54, 52, 48, 57]⟩, .int .i64 66] _ (curve_range3 w2) Tryz.underlying54 rfl (by kernel_rfl) ?_) | ((with_reducible refine gate_store (t := 54) (p := 2) rfl ?_); refine wpList_store_row rfl 54 (.tmp 2) _ rfl w.heap.size _ rfl rfl 54 #[.string ⟨#[]⟩, .string ⟨#[]⟩, .string ⟨#[]⟩, .int .i64 0] (by repeat (first | exact hold.out | apply heap_old_alloc | apply heap_old_drewN)) (by kernel_rfl) rfl (by kernel_rfl) ?_))
    try simp only [Exit.inBlock, Exit.then]
    refine bodyPost_ret (results_cell_row (t := 54) (fr := (0, 0)) rfl _ _ w.heap.size _ _ rfl (setRow_heap _ _ _ _ _ _ (by repeat (first | exact hold.out | apply heap_old_alloc | apply heap_old_drewN))) Tryz.underlying54 rfl (by kernel_rfl)) rfl ?_
    exact ⟨by first | rfl | simp, below_setRow (by repeat (first | exact HB2.out | apply below_alloc | apply below_drew1 | apply pw_below_drewN)) (Nat.le_refl _) _⟩
  rw [if_neg h4] at h
  simp only [Option.some.injEq, Prod.mk.injEq] at h
  obtain ⟨rfl, rfl, rfl, rfl⟩ := h
  by_cases h0 : a0 < 1
  · have hd : decide (a0 < 1) = true := decide_eq_true h0
    clear h0 h1 h2 h3 h4
    go_enter Tryz.func42, Tryz.ntmps42
    go_wp2_with (fail)
    refine (curve_table.calls _).mono ?_
    rintro e w2 ⟨rfl, hb⟩
    simp only []
    have hold0 : w2.heap[w.heap.size]? = some (.cells #[.string ⟨#[]⟩, .string ⟨#[]⟩, .string ⟨#[]⟩, .int .i64 0] 54) := (hb.block w.heap.size (by simp)).trans (heap_alloc_new _ _)
    have HB2 := Aside0.mk ((below_alloc (Below.refl w.heap.size w) _).trans (hb.mono (by simp)))
    have hold := Aside0.mk hold0
    clear hb hold0
    go_wp2_with (first | ((with_reducible refine gate_store (t := 71) (p := 3) rfl ?_); refine wpList_store_row rfl 71 (.tmp 3) (.tmp 4) rfl w2.heap.size curveC rfl rfl 71 _ (heap_alloc_new _ _) (by kernel_rfl) rfl curve_one ?_; rw [World.setRow_alloc_new]) | ((with_reducible refine gate_store (t := 54) (p := 2) rfl ?_); refine wpList_store_row rfl 54 (.tmp 2) _ rfl w.heap.size _ rfl rfl 54 #[.string ⟨#[]⟩, .string ⟨#[]⟩, .string ⟨#[]⟩, .int .i64 0] (by repeat (first | exact hold.out | apply heap_old_alloc | apply heap_old_drewN)) (by kernel_rfl) rfl (by kernel_rfl) ?_))
    try simp only [Exit.inBlock, Exit.then]
    refine bodyPost_ret (results_cell_row (t := 54) (fr := (0, 0)) rfl _ _ w.heap.size _ _ rfl (setRow_heap _ _ _ _ _ _ (by repeat (first | exact hold.out | apply heap_old_alloc | apply heap_old_drewN))) Tryz.underlying54 rfl (by kernel_rfl)) rfl ?_
    exact ⟨by first | rfl | simp, below_setRow (by repeat (first | exact HB2.out | apply below_alloc | apply below_drew1 | apply pw_below_drewN)) (Nat.le_refl _) _⟩
  · have hd : decide (a0 < 1) = false := decide_eq_false h0
    have hd2 : decide (4 < a0) = true := decide_eq_true (by omega)
    clear h0 h1 h2 h3 h4
    go_enter Tryz.func42, Tryz.ntmps42
    go_wp2_with (fail)
    refine (curve_table.calls _).mono ?_
    rintro e w2 ⟨rfl, hb⟩
    simp only []
    have hold0 : w2.heap[w.heap.size]? = some (.cells #[.string ⟨#[]⟩, .string ⟨#[]⟩, .string ⟨#[]⟩, .int .i64 0] 54) := (hb.block w.heap.size (by simp)).trans (heap_alloc_new _ _)
    have HB2 := Aside0.mk ((below_alloc (Below.refl w.heap.size w) _).trans (hb.mono (by simp)))
    have hold := Aside0.mk hold0
    clear hb hold0
    go_wp2_with (first | ((with_reducible refine gate_store (t := 71) (p := 3) rfl ?_); refine wpList_store_row rfl 71 (.tmp 3) (.tmp 4) rfl w2.heap.size curveC rfl rfl 71 _ (heap_alloc_new _ _) (by kernel_rfl) rfl curve_one ?_; rw [World.setRow_alloc_new]) | ((with_reducible refine gate_store (t := 54) (p := 2) rfl ?_); refine wpList_store_row rfl 54 (.tmp 2) _ rfl w.heap.size _ rfl rfl 54 #[.string ⟨#[]⟩, .string ⟨#[]⟩, .string ⟨#[]⟩, .int .i64 0] (by repeat (first | exact hold.out | apply heap_old_alloc | apply heap_old_drewN)) (by kernel_rfl) rfl (by kernel_rfl) ?_))
    try simp only [Exit.inBlock, Exit.then]
    refine bodyPost_ret (results_cell_row (t := 54) (fr := (0, 0)) rfl _ _ w.heap.size _ _ rfl (setRow_heap _ _ _ _ _ _ (by repeat (first | exact hold.out | apply heap_old_alloc | apply heap_old_drewN))) Tryz.underlying54 rfl (by kernel_rfl)) rfl ?_
    exact ⟨by first | rfl | simp, below_setRow (by repeat (first | exact HB2.out | apply below_alloc | apply below_drew1 | apply pw_below_drewN)) (Nat.le_refl _) _⟩

/-! ### strings_Trim: function 43 (a text given by hand: strings.tmpl) -/
-- @import Derived.Test.YtleimmhpcomapaaGreatDoorShelf
def strings_Trim.f (a0 : ByteArray) (a1 : ByteArray) : Option ByteArray := if a1.size = 1 ∧ a0.size ≤ 9223372036854775807 then (if bt a1 0 < 128 then some ⟨(Lib.trimB a0.data.toList (UInt8.ofNat (bt a1 0).toNat)).toArray⟩ else none) else none
theorem strings_Trim.calls (a0 : ByteArray) (a1 : ByteArray) (r : ByteArray) (w : World) (h : strings_Trim.f a0 a1 = some r) :
    Calls Tryz.prog 43 #[.string a0, .string a1] w fun e w' => e = .returned (.string r) ∧ Drawn0 w w' := by
  unfold strings_Trim.f at h
  by_cases h1 : a1.size = 1 ∧ a0.size ≤ 9223372036854775807
  · rw [if_pos h1] at h
    obtain ⟨h1, h3⟩ := h1
    obtain ⟨c, rfl⟩ := one_byte h1
    rw [one_byte_bt] at h
    by_cases h2 : ((c.toNat : Int)) < 128
    · rw [if_pos h2] at h
      obtain rfl := Option.some.inj h
      clear h
      refine (Tryz.strings_Trim_one a0 c (by omega) w h3).mono ?_
      rintro e w' ⟨rfl, hw⟩
      refine ⟨by simp, ?_⟩
      rcases hw with rfl | rfl
      · exact Drawn0.refl _
      · exact ⟨1, rfl⟩
    · rw [if_neg h2] at h; cases h
  · rw [if_neg h1] at h; cases h

/-! ### strings_Compare: function 44 (a text given by hand: strings.tmpl) -/
-- @import Derived.Test.YtleimmhpcomapaaGreatDoorShelf
def strings_Compare.f (a0 : ByteArray) (a1 : ByteArray) : Option Int := some (Lib.compareBytes a0.data.toList a1.data.toList)
theorem strings_Compare.calls (a0 : ByteArray) (a1 : ByteArray) (r : Int) (w : World) (h : strings_Compare.f a0 a1 = some r) :
    Calls Tryz.prog 44 #[.string a0, .string a1] w fun e w' => e = .returned (.int .i64 r) ∧ Drawn0 w w' := by
  obtain rfl := Option.some.inj h
  refine (Tryz.strings_Compare a0 a1 w).mono ?_
  rintro e w' ⟨rfl, rfl⟩
  exact ⟨rfl, Drawn0.refl _⟩

/-! ### strings_IndexByte: function 90 (a text given by hand: strings.tmpl) -/
-- @import Derived.Test.YtleimmhpcomapaaGreatDoorShelf
def strings_IndexByte.f (a0 : ByteArray) (a1 : Int) : Option Int := some (Lib.indexByte a0.data.toList a1.toNat.toUInt8)
theorem strings_IndexByte.calls (a0 : ByteArray) (a1 : Int) (r : Int) (w : World) (h : strings_IndexByte.f a0 a1 = some r) :
    Calls Tryz.prog 90 #[.string a0, .int .u8 a1] w fun e w' => e = .returned (.int .i64 r) ∧ Drawn0 w w' := by
  obtain rfl := Option.some.inj h
  refine (Tryz.strings_IndexByte a0 a1 w).mono ?_
  rintro e w' ⟨rfl, rfl⟩
  exact ⟨rfl, Drawn0.refl _⟩

/-! ### digits_Value: function 77 -/
def digits_Value.f (a0 : Int) : Option (Int) := (strings_IndexByte.f (⟨#[48, 49, 50, 51, 52, 53, 54, 55, 56, 57, 65, 66, 67, 68, 69, 70]⟩ : ByteArray) a0).bind fun t136 => (some t136)
set_option maxHeartbeats 8000000 in
set_option maxRecDepth 100000 in
theorem digits_Value.calls (a0 : Int) (r : Int) (w : World) (h : digits_Value.f a0 = some r) :
    Calls Tryz.prog 77 #[.int .u8 a0] w fun e w' => e = .returned (.int .i64 r) ∧ Drawn0 w w' := by
  have H : ((strings_IndexByte.f (⟨#[48, 49, 50, 51, 52, 53, 54, 55, 56, 57, 65, 66, 67, 68, 69, 70]⟩ : ByteArray) a0).bind fun t136 => (some t136)) = some r := h
  clear h
  replace H := Option.bind_eq_some_iff.mp H
  obtain ⟨t136, A20, H⟩ := H
  replace H : (some t136) = some r := H
  have A2 := Aside0.mk A20
  clear A20
  obtain rfl := Option.some.inj H
  go_enter Tryz.func77, Tryz.ntmps77
  go_wp2_with (first | ((with_reducible refine gate_callee (f := 90) rfl ?_); refine goesL_ (some 4) rfl rfl Tryz.func90 (by kernel_rfl) rfl #[.string (⟨#[48, 49, 50, 51, 52, 53, 54, 55, 56, 57, 65, 66, 67, 68, 69, 70]⟩ : ByteArray), .int .u8 a0] rfl (by (try simp only [List.map_toArray, List.map_cons, List.map_nil]); first | done | rfl | (simp only [List.length_drop, List.length_take]; rfl) | exact congrArg (fun z => #[Value.int .i64 z]) (w64 (by omega) (by omega)).symm) ?_; (with_reducible refine (strings_IndexByte.calls (⟨#[48, 49, 50, 51, 52, 53, 54, 55, 56, 57, 65, 66, 67, 68, 69, 70]⟩ : ByteArray) a0 t136 _ A2.out).mono ?_); rintro e w' ⟨rfl, ⟨nd, rfl⟩⟩; refine ⟨_, rfl, ?_⟩))
  go_ret
  exact ⟨by first | rfl | (simp; done) | (simp [*]; done), by repeat (first | exact Drawn0.refl _ | apply Drawn0.step)⟩

end Go.Proofs.YtleimmhpcomapaaGreatDoor.PKindTells
