-- laid by a program out of the translation and of templates; not trusted: Lean checks it
import Derived.Test.YtlmldmeclgfoeaaGreatDoorWX
import Derived.Test.YtlmldmeclgfoeaaGreatDoorWLast
import Derived.Laws.FloatArith
import Derived.Laws.ComplexArith
/-! floats and complex numbers: a float by its bits, a complex number by its parts' bits -/
namespace Go.Proofs.YtlmldmeclgfoeaaGreatDoorW.PrintWords
set_option linter.unusedVariables false
open Go.RowKit
def fok (x y : Nat) : Bool := (floatBits .add .f64 x y).isSome
def fadd (x y : Nat) : Nat := (floatBits .add .f64 x y).getD 0
def feq (x y : Nat) : Bool := FloatKind.f64.format.order x y == some .eq
theorem fok_is {x y : Nat} (h : fok x y = true) : floatBits .add .f64 x y = some (fadd x y) := by
  unfold fok at h
  obtain ⟨r, hr⟩ := Option.isSome_iff_exists.1 h
  unfold fadd
  rw [hr]
  rfl
section
variable {P : Program} (w : World)
theorem c_add (t : TypeId) (a b c d : Nat) (h1 : fok a c = true) (h2 : fok b d = true) : (binOp .add t (.complex .f64 a b) (.complex .f64 c d)).run P w = .ok (.complex .f64 (fadd a c) (fadd b d)) w := by
  refine run_complex_sum w .add (Or.inl rfl) t .f64 a b c d _ _ ?_
  simp [cSumBits, fok_is h1, fok_is h2]
theorem c_eql (t : TypeId) (a b c d : Nat) : (binOp .eql t (.complex .f64 a b) (.complex .f64 c d)).run P w = .ok (.bool (feq a c && feq b d)) w := by
  simp [binOp, Op.complexOp, Op.Complex.cmp, Op.floatCmp, feq, asBool]
theorem c_neq (t : TypeId) (a b c d : Nat) : (binOp .neq t (.complex .f64 a b) (.complex .f64 c d)).run P w = .ok (.bool !(feq a c && feq b d)) w := by
  simp [binOp, Op.complexOp, Op.Complex.cmp, Op.floatCmp, feq, asBool]
end
end Go.Proofs.YtlmldmeclgfoeaaGreatDoorW.PrintWords
namespace Go.Proofs.YtlmldmeclgfoeaaGreatDoorW.PrintLast
open Go.Proofs.YtlmldmeclgfoeaaGreatDoorW.PrintWords (Aside0)
variable {P : Program} {Q : Exit → Act → World → Prop} {ops : Array Oper}
/-- A call of a function value in a region that draws its order, by its contract. -/
theorem goesF_ {oi : Oper} {N : Option Tmp} {a : Act} {w : World} {K : Act → World → Prop} {g : FuncId} {lb : Array Value} {t : Tmp} {as_ : Array Operand} {ts : Array TypeId} (eg : ∀ args w, (callFunc g args).run P w = .ok (.enter g args) w) (args : Array Value)
    (hw : Region.wanted oi (yielded ops a.tmps) = true) (hN : oi.dst = N) (hop : oi.op = .call { callee := .value (.tmp t), args := as_, argTypes := ts }) (hf : a.eval (.tmp t) = .func (.func g) #[] lb) (hargs : as_.map a.eval ++ lb = args)
    (h : Calls P g args w fun e w' => ∃ v, e = .returned v ∧ K (a.put N v) w') : if Region.wanted oi (yielded ops a.tmps) = true then Oper.wp P oi a w K Q else K (a.put N undef) w := by
  refine call_ g args hw hN ?_ h
  subst hargs
  unfold execOp
  simp [hop, resolve, Deferred.ofValue, invoke, hf, eg]
end Go.Proofs.YtlmldmeclgfoeaaGreatDoorW.PrintLast
