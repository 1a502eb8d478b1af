-- laid by a program out of the translation and of templates; not trusted: Lean checks it
import Derived.Test.YtcbcojbhbhaimaaDoorWCap
namespace Go.Proofs.YtcbcojbhbhaimaaDoorW.PrintWords
set_option linter.unusedVariables false
open Go.RowKit
theorem less_asymm : ∀ (a b : List UInt8), (Op.bytesLess a b || a == b) = !(Op.bytesLess b a)
 | [], [] => rfl
 | [], y :: b => rfl
 | x :: a, [] => rfl
 | x :: a, y :: b => by
  have ih := less_asymm a b
  by_cases h : x = y
  ·subst h
   simp [Op.bytesLess, ih]
  ·have h' : ¬ y = x := fun e => h e.symm
   by_cases h1 : x < y
   ·have h2 : ¬ y < x := fun e => UInt8.lt_asymm h1 e
    simp [Op.bytesLess, h', h1, h2]
   ·have h2 : y < x := UInt8.lt_of_le_of_ne (UInt8.not_lt.1 h1) h'
    simp [Op.bytesLess, h, h1, h2]
theorem str_leq (t : TypeId) (a b : ByteArray) : binOp .leq t (.string a) (.string b) = pure (.bool !(Op.bytesLess b.toList a.toList)) := by rw [← less_asymm]; simp [binOp, Op.stringOp]
theorem str_gtr (t : TypeId) (a b : ByteArray) : binOp .gtr t (.string a) (.string b) = pure (.bool (Op.bytesLess b.toList a.toList)) := by
 have h := less_asymm a.toList b.toList
 simp only [binOp, Op.stringOp]
 rw [h]; simp
theorem str_geq (t : TypeId) (a b : ByteArray) : binOp .geq t (.string a) (.string b) = pure (.bool !(Op.bytesLess a.toList b.toList)) := by simp [binOp, Op.stringOp]
end Go.Proofs.YtcbcojbhbhaimaaDoorW.PrintWords
