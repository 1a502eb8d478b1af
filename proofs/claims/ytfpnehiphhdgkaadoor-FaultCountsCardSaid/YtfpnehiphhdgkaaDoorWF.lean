-- laid by a program out of the translation and of templates; not trusted: Lean checks it
import Derived.Test.YtfpnehiphhdgkaaDoorWX
import Derived.Laws.FloatArith
import Derived.Laws.ComplexArith
/-! floats and complex numbers: a float by its bits, a complex number by its parts' bits -/
namespace Go.Proofs.YtfpnehiphhdgkaaDoorW.PrintWords
set_option linter.unusedVariables false
open Go.RowKit
def fok (x y : Nat) : Bool := (floatBits .add .f64 x y).isSome
def fadd (x y : Nat) : Nat := (floatBits .add .f64 x y).getD 0
def feq (x y : Nat) : Bool := FloatKind.f64.format.order x y == some .eq
theorem fok_is {x y : Nat} (h : fok x y = true) : floatBits .add .f64 x y = some (fadd x y) := by
  unfold fok at h
  obtain ⟨r, hr⟩ := Option.isSome_iff_exists.1 h
  unfold fadd
  rw [hr]
  rfl
section
variable {P : Program} (w : World)
theorem c_add (t : TypeId) (a b c d : Nat) (h1 : fok a c = true) (h2 : fok b d = true) : (binOp .add t (.complex .f64 a b) (.complex .f64 c d)).run P w = .ok (.complex .f64 (fadd a c) (fadd b d)) w := by
  refine run_complex_sum w .add (Or.inl rfl) t .f64 a b c d _ _ ?_
  simp [cSumBits, fok_is h1, fok_is h2]
theorem c_eql (t : TypeId) (a b c d : Nat) : (binOp .eql t (.complex .f64 a b) (.complex .f64 c d)).run P w = .ok (.bool (feq a c && feq b d)) w := by
  simp [binOp, Op.complexOp, Op.Complex.cmp, Op.floatCmp, feq, asBool]
theorem c_neq (t : TypeId) (a b c d : Nat) : (binOp .neq t (.complex .f64 a b) (.complex .f64 c d)).run P w = .ok (.bool !(feq a c && feq b d)) w := by
  simp [binOp, Op.complexOp, Op.Complex.cmp, Op.floatCmp, feq, asBool]
end
end Go.Proofs.YtfpnehiphhdgkaaDoorW.PrintWords
