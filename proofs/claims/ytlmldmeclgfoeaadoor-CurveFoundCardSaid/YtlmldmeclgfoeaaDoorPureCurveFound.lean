/- Every curve of the table is found by its name's arcs and by its width, as often as the order says, and its order's bounds are kept. -/
import Derived.Test.YtlmldmeclgfoeaaDoorTCurveFound0
set_option linter.unusedSectionVars false
set_option linter.unusedSimpArgs false
set_option linter.unusedVariables false
namespace Go.Proofs.YtlmldmeclgfoeaaDoor.Pure
open Go Go.RowKit Go.Rf Go.Rf.T
def num (v:Int):List Int:=(Lib.itoa v).map fun b=>(b.toNat:Int)
theorem four {c:Int} (h1:1≤c) (h4:c≤4):c=1∨c=2∨c=3∨c=4:=by omega
theorem line_out {c:Int} (h:¬ (1≤c∧c≤4)):curve_line.f c=some ((⟨#[]⟩:ByteArray),(⟨#[]⟩:ByteArray),(⟨#[]⟩:ByteArray),0):=by
 unfold curve_line.f curve_table.f
 rw [Option.bind_some]
 by_cases h1:c < 1
 ·rw [if_pos h1]
 ·rw [if_neg h1,if_pos (by omega)]
theorem aw22f:Ev (fun k=>clavigerlaw22_awake.f k) true:=Ev.from_ 200 (fun n=>by kernel_rfl)
theorem found22_out {c:Int} (h:¬ (1≤c∧c≤4)):Ev (fun k=>clavigerlaw22_CurveFound.f k c) true:=by
 have hl:=line_out h
 refine Ev.congr (fun k=>by rw [clavigerlaw22_CurveFound.f]) ?_
 refine Ev.bindc (a:=(0:Int)) (by unfold curve_Width.f;rw [hl];rfl) ?_
 refine Ev.ifp (by decide) ?_
 refine Ev.bindc (a:=(⟨#[]⟩:ByteArray)) (by unfold curve_Name.f;rw [hl];rfl) ?_
 refine Ev.ifp (by decide +kernel) ?_
 refine Ev.bind (a:=([]:List Int)) ?_ ?_
 ·refine Ev.congr (fun k=>by rw [curve_Arcs.f]) ?_
  refine Ev.bindc hl ?_
  refine Ev.bind (a:=(([]:List Int),false)) (Ev.from_ 20 (fun n=>by kernel_rfl)) ?_
  exact Ev.now _
 refine Ev.ifp rfl ?_
 refine Ev.bind (a:=(⟨#[]⟩:ByteArray)) ?_ ?_
 ·refine Ev.congr (fun k=>by rw [curve_Order.f]) ?_
  refine Ev.bindc hl ?_
  refine Ev.bind (a:=((⟨#[]⟩:ByteArray),true)) (Ev.from_ 20 (fun n=>by kernel_rfl)) ?_
  exact Ev.now _
 refine Ev.ifp (by decide +kernel) ?_
 exact Ev.bind aw22f (Ev.now _)
theorem found22_in {c:Int} (h1:1≤c) (h4:c≤4):Ev (fun k=>clavigerlaw22_CurveFound.f k c) true:=by
 rcases four h1 h4 with rfl | rfl | rfl | rfl
 ·exact Ev.from_ 300 (fun n=>by kernel_rfl)
 ·exact Ev.from_ 300 (fun n=>by kernel_rfl)
 ·exact Ev.from_ 300 (fun n=>by kernel_rfl)
 ·exact Ev.from_ 300 (fun n=>by kernel_rfl)
theorem CurveFound (a0:Int) (_:(Lit.int .i64 a0).wf=true):∃ k,clavigerlaw22_CurveFound.f k a0=some true:=by
 by_cases h:1≤a0∧a0≤4
 ·exact Ev.rounds (r:=true) (found22_in h.1 h.2)
 ·exact Ev.rounds (r:=true) (found22_out h)
end Go.Proofs.YtlmldmeclgfoeaaDoor.Pure
