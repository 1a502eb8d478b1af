-- laid by a program out of the translation and of templates; not trusted: Lean checks it
import Derived.Test.YtcbcojbhbhaimaaDoorWX
import Derived.Test.YtcbcojbhbhaimaaDoorWLast
import Derived.Laws.FloatArith
import Derived.Laws.ComplexArith
import Derived.Laws.Cover3
namespace Go.Proofs.YtcbcojbhbhaimaaDoorW.PrintWords
set_option linter.unusedVariables false
open Go.RowKit
def fok (x y : Nat) : Bool := (floatBits .add .f64 x y).isSome
def fadd (x y : Nat) : Nat := (floatBits .add .f64 x y).getD 0
def feq (x y : Nat) : Bool := FloatKind.f64.format.order x y == some .eq
theorem fok_is {x y : Nat} (h : fok x y = true) : floatBits .add .f64 x y = some (fadd x y) := by
 unfold fok at h
 obtain ⟨r, hr⟩ := Option.isSome_iff_exists.1 h
 unfold fadd
 rw [hr]
 rfl
section
variable {P : Program} (w : World)
theorem c_add (t : TypeId) (a b c d : Nat) (h1 : fok a c = true) (h2 : fok b d = true) : (binOp .add t (.complex .f64 a b) (.complex .f64 c d)).run P w = .ok (.complex .f64 (fadd a c) (fadd b d)) w := by
 refine run_complex_sum w .add (Or.inl rfl) t .f64 a b c d _ _ ?_
 simp [cSumBits, fok_is h1, fok_is h2]
theorem c_eql (t : TypeId) (a b c d : Nat) : (binOp .eql t (.complex .f64 a b) (.complex .f64 c d)).run P w = .ok (.bool (feq a c && feq b d)) w := by
 simp [binOp, Op.complexOp, Op.Complex.cmp, Op.floatCmp, feq, asBool]
theorem c_neq (t : TypeId) (a b c d : Nat) : (binOp .neq t (.complex .f64 a b) (.complex .f64 c d)).run P w = .ok (.bool !(feq a c && feq b d)) w := by
 simp [binOp, Op.complexOp, Op.Complex.cmp, Op.floatCmp, feq, asBool]
end
def flt (x y : Nat) : Bool := FloatKind.f64.format.order x y == some .lt
def fgt (x y : Nat) : Bool := FloatKind.f64.format.order x y == some .gt
def fle (x y : Nat) : Bool := flt x y || feq x y
def fge (x y : Nat) : Bool := fgt x y || feq x y
def fint (x : Nat) : Int := (floatToIntVal .f64 x .i64).getD 0
def fiok (x : Nat) : Bool := (floatToIntVal .f64 x .i64).isSome
theorem fiok_is {x : Nat} (h : fiok x = true) : floatToIntVal .f64 x .i64 = some (fint x) := by
 unfold fiok at h
 obtain ⟨r, hr⟩ := Option.isSome_iff_exists.1 h
 unfold fint
 rw [hr]
 rfl
theorem f_fold_eq (x y : Nat) : (FloatKind.f64.format.order x y == some .eq) = feq x y := rfl
theorem f_fold_ne (x y : Nat) : (FloatKind.f64.format.order x y != some .eq) = !feq x y := rfl
theorem f_fold_lt (x y : Nat) : (FloatKind.f64.format.order x y == some .lt) = flt x y := rfl
theorem f_fold_gt (x y : Nat) : (FloatKind.f64.format.order x y == some .gt) = fgt x y := rfl
theorem f_fold_le (x y : Nat) : (flt x y || feq x y) = fle x y := rfl
theorem f_fold_ge (x y : Nat) : (fgt x y || feq x y) = fge x y := rfl
section
variable {P : Program} (w : World)
theorem f_store_c (a : Addr) (m : Mode) (k : FloatKind) (x y : Nat) : (store a (.complex k x y) m).run P w = stored P w a (.complex k x y) m := run_store P w a _ m rfl
theorem f_store_f (a : Addr) (m : Mode) (k : FloatKind) (x : Nat) : (store a (.float k x) m).run P w = stored P w a (.float k x) m := run_store P w a _ m rfl
theorem f_add (t : TypeId) (a b : Nat) (h1 : fok a b = true) : (binOp .add t (.float .f64 a) (.float .f64 b)).run P w = .ok (.float .f64 (fadd a b)) w := run_float_arith w .add t .f64 a b _ (fok_is h1)
theorem f_toint (src dst : TypeId) (b : Nat) (hs : (P.underlying src).isSome = true) (hd : P.underlying dst = some (.int .i64)) (h : fiok b = true) : (convert src dst (.float .f64 b)).run P w = .ok (.int .i64 (fint b)) w := run_convert_float_int w src dst .f64 .i64 b _ hs hd (fiok_is h)
end
end Go.Proofs.YtcbcojbhbhaimaaDoorW.PrintWords
namespace Go.Proofs.YtcbcojbhbhaimaaDoorW.PrintWords
open Go.RowKit
namespace Kd
def cplx : Kd (Nat × Nat) := scalar (fun z : Nat × Nat => Value.complex .f64 z.1 z.2) (fun _ => rfl)
def flt : Kd Nat := scalar (Value.float .f64) (fun _ => rfl)
section
variable {w W : World} {A : Option Addr} {n : Nat}
theorem at_cplx {xs : List (Nat × Nat)} (h : Kd.cplx.C w A n xs) (i : Int) (h0 : 0 ≤ i) (h1 : i < n) : ∃ ad, A = some ad ∧ w.cell? (ad.add i.toNat) = some (.complex .f64 (rdOf ((0, 0) : Nat × Nat) xs i).1 (rdOf ((0, 0) : Nat × Nat) xs i).2) :=
 ReadsOf.at_ (reads_of_C (enc := fun z : Nat × Nat => Value.complex .f64 z.1 z.2) (d := ((0, 0) : Nat × Nat)) (h1 := fun _ => rfl) h) i h0 h1
end
end Kd
theorem print_append_str_step {P : Program} {ops : Array Oper} {o : Oper} {a : Act} {Q : Exit → Act → World → Prop} {Kc : Act → World → Prop} {w0 W : World} (base : Nat) (hw : Region.wanted o (yielded ops a.tmps) = true) (s x : Operand) (t u e : TypeId)
 (ho : o.op = .call { callee := .builtin .append, args := #[s, x], argTypes := #[t, u] })
 (ht : P.underlying t = some (.slice e)) (hu : P.underlying u = some .string) (hinfo : (P.info? e).map (fun i => (i.zero, i.size, i.bytes)) = some (some (.int .u8 0), 1, 1))
 (v : Value) (xs : List Int) (y : ByteArray) (hs : a.eval s = v) (hx : a.eval x = .string y)
 (HO : W.ownsRow base e 1 v xs.length (nums .u8 xs)) (HB : Below base w0 W) (hbase : base ≤ W.heap.size) (hl : xs.length + y.size ≤ 140737488355328)
 (h : ∀ v1 w1, w1.ownsRow base e 1 v1 (xs ++ bytesOf y).length (nums .u8 (xs ++ bytesOf y)) → Below base w0 w1 → W.grownBy w1 v.ownBlock → Kc (a.put o.dst v1) w1) :
 if Region.wanted o (yielded ops a.tmps) = true then Oper.wp P o a W Kc Q else Kc (a.put o.dst undef) W := by
 rw [if_pos hw]
 obtain ⟨i0, hi, hzz⟩ := Option.map_eq_some_iff.1 hinfo
 simp only [Prod.mk.injEq] at hzz
 obtain ⟨hz0, hz1, hz2⟩ := hzz
 obtain ⟨v1, w1, hr, hown, hg, _⟩ := Lib.run_append_own_string (P := P) W base t u o.type e i0 ht hu hi hz0 hz1 hz2 v xs.length (nums .u8 xs) HO y (by simp only [maxLen]; omega) hl hbase
 have hl2 : (xs ++ bytesOf y).length = xs.length + y.size := by rw [List.length_append, bytesOf_length]
 have hc : nums .u8 (xs ++ bytesOf y) = nums .u8 xs ++ Lib.strCells y := by
  rw [nums_append]
  congr 1
  simp [nums, bytesOf, Lib.strCells]
 unfold Oper.wp execOp
 simp only [ho, resolve, invoke, builtin, Sem.run_bind, Sem.run_pure, Result.andThen_ok, List.map_toArray, List.map_cons, List.map_nil, hs, hx, hr]
 exact h v1 w1 (by rw [hl2, hc]; exact hown) (HB.grown hg hbase (own_base HO)) hg
end Go.Proofs.YtcbcojbhbhaimaaDoorW.PrintWords
