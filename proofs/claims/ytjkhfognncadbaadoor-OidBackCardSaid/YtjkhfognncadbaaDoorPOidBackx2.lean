-- laid by a program out of the translation and of templates; not trusted: Lean checks it
import Derived.Test.YtjkhfognncadbaaDoorPOidBackx0
import Derived.Test.YtjkhfognncadbaaDoorPOidBackx1
import Derived.LoopIn
import Derived.LoopNIn
import Derived.Maps.AppendAt
import Derived.OwnWalkIn
import Derived.RangeFuncBound
import Derived.RangeFuncBox
import Derived.RangeFuncCalls
import Derived.RangeFuncLeaves
import Derived.RangeFuncNested
import Derived.Shelf.Abstract
import Derived.Shelf.RegionOpen
import Derived.TacticsInMore
import Derived.WalkKit
namespace Go.Proofs.YtjkhfognncadbaaDoor.POidBack
open Go.RowKit Go.Proofs.YtjkhfognncadbaaDoorW.PrintWords Go.Proofs.YtjkhfognncadbaaDoorW.PrintLast Go.Proofs.YtjkhfognncadbaaDoorW.PrintMore
attribute [local go_sem high] c_add c_eql c_neq
attribute [local go_sem] str_leq str_gtr str_geq max2_int min2_int max_two min_two max_three min_three max_four min_four   -- for this text's walks alone
set_option linter.unusedVariables false
set_option linter.unusedSimpArgs false

/-! ### oid_Encode: function 6 (a text given by hand: oid.tmpl) -/
-- @import Derived.RangeFuncNested
-- @import Derived.RangeFuncBound
-- @import Derived.RangeFuncCalls
-- @import Derived.RangeFuncLeaves
-- @import Derived.RangeFuncBox
-- @import Derived.Shelf.Abstract
-- @import Derived.Shelf.RegionOpen
-- @import Derived.WalkKit
-- @import Derived.OwnWalkIn
-- @import Derived.TacticsInMore
-- @import Derived.LoopNIn
-- @import Derived.LoopIn
-- @import Derived.Maps.AppendAt
section
open Go.Shelf
attribute [local go_sem] Oper.semAt_some
theorem bw64 {x : Int} (h0 : -9223372036854775808 ≤ x) (h1 : x ≤ 9223372036854775807) : wrap64 x = x := by unfold wrap64; omega
/-- What a round keeps: what lay below n₀, and the box of the slice that is gone through. -/
def bwK (n₀ Bs : Nat) (sv : Value) (W W' : World) : Prop := Below n₀ W W' ∧ (Boxed W Bs 22 sv → Boxed W' Bs 22 sv)
def bw_upto {α : Type} (f : Nat → α) (k : Nat) : List α := (List.range k).map f
theorem bw_upto_succ {α : Type} (f : Nat → α) (k : Nat) : bw_upto f (k + 1) = bw_upto f k ++ [f k] := by simp [bw_upto, List.range_succ]
theorem bw_upto_length {α : Type} (f : Nat → α) (k : Nat) : (bw_upto f k).length = k := by simp [bw_upto]
set_option maxRecDepth 100000 in
set_option maxHeartbeats 2000000 in
/-- slices.Backward's closure: for every loop body that keeps what lay below n₀. -/
theorem backward1_in {α : Type} (encs : α → Array Value) (al : Nat → α) (F : Fence) (n : Nat) (h8 : F.fn 30) (hro : F.round = none) (hn : 1 ≤ n) (l Bs n₀ b off len cap : Nat) (zs : List Int) (hreach : len * 8 ≤ 140737488351232) (hb : b < n₀) (J Jx : List α → World → Prop)
    (henc : ∀ j, j < len → encs (al j) = #[.int .i64 ((len : Int) - 1 - (j : Int)), .int .i64 (zs[len - 1 - j]?.getD 0)])
    (hY : ∀ pre x W, J pre W → pre.length < len → YieldAt F (n - 1) Tryd.prog l (encs x) W fun e W' =>
      (e = .returned (.bool true) ∧ J (pre ++ [x]) W' ∧ bwK n₀ Bs (.slice (some ⟨b, off, none⟩) len cap) W W') ∨ (e = .returned (.bool false) ∧ Jx (pre ++ [x]) W'))
    (W : World) (hBs : Boxed W Bs 22 (.slice (some ⟨b, off, none⟩) len cap)) (hc : ∀ j, j < len → W.cell? ⟨b, off + j, none⟩ = some (.int .i64 (zs[j]?.getD 0))) (h0 : J [] W) :
    CallsIn F n Tryd.prog 30 #[.func (.yield l) #[] #[], .pointer (some ⟨Bs, 0, none⟩)] W fun e W' => (∃ v, e = .returned v) ∧
      ((∃ ys, ys = bw_upto al len ∧ J ys W') ∨ (∃ pre, (∃ k, k ≤ len ∧ pre = bw_upto al k) ∧ Jx pre W')) := by
  refine callsIn_of_wp Tryd.func30 rfl h8 ?_ hro
  simp only [Tryd.ntmps30, List.size_toArray, List.length_cons, List.length_nil, Nat.reduceAdd, Nat.reduceSub, Array.replicate_succ, Array.replicate_zero, List.push_toArray, List.append_toArray, List.nil_append, List.cons_append]
  have hw0 : wrap64 ((len : Int) - 1) = (len : Int) - 1 := bw64 (by omega) (by omega)
  have hB0 := hBs.cell
  gi_wp2
  gi_loopw [3] (fun i wr => ∃ k : Nat, k ≤ len ∧ i = .int .i64 ((len : Int) - 1 - (k : Int)) ∧ J (bw_upto al k) wr ∧ Below n₀ W wr ∧ Boxed wr Bs 22 (.slice (some ⟨b, off, none⟩) len cap))
    (fun i _ => (intOf i + 1).toNat)
  case atStart => exact ⟨0, Nat.zero_le _, by simp [hw0], h0, Below.refl _ _, hBs⟩
  case round =>
    obtain ⟨k, hk, rfl, hJs, hnx, hbb⟩ := hrel
    have hbx := hbb.cell
    by_cases hlt : k < len
    · have hcx' : wr.cell? ⟨b, off + (len - 1 - k), none⟩ = some (.int .i64 (zs[len - 1 - k]?.getD 0)) := (hnx.cell (p := ⟨b, off + (len - 1 - k), none⟩) hb).trans (hc _ (by omega))
      obtain ⟨fn, tmps, assign, body, hy, hR⟩ := hY _ (al k) wr hJs (by rw [bw_upto_length]; exact hlt)
      rw [henc k hlt] at hy
      have hge : (0 : Int) ≤ (len : Int) - 1 - (k : Int) := by omega
      have hl : (len : Int) - 1 - (k : Int) < (len : Int) := by omega
      have ht : ((len : Int) - 1 - (k : Int)).toNat = len - 1 - k := by omega
      have hw1 : wrap64 ((len : Int) - 1 - (k : Int) - 1) = (len : Int) - 1 - ((k + 1 : Nat) : Int) := by rw [bw64 (by omega) (by omega)]; omega
      gi_wp2
      refine hR.mono ?_
      rintro e W3 (⟨rfl, hJ3, hk3⟩ | ⟨rfl, hJx3⟩)
      · gi_wp2
        go_roundw
        case rel => exact ⟨k + 1, by omega, congrArg (Value.int .i64) (by omega), by rw [bw_upto_succ]; exact hJ3, hnx.trans hk3.1, hk3.2 hbb⟩
        case measure => simp [intOf]; omega
      · gi_wp2
        refine bodyPost_ret (results_none rfl _ _ _) rfl ?_
        exact ⟨⟨_, rfl⟩, .inr ⟨_, ⟨k + 1, by omega, (bw_upto_succ _ _).symm⟩, hJx3⟩⟩
    · obtain rfl : k = len := by omega
      have hge : ¬ (0 : Int) ≤ (k : Int) - 1 - (k : Int) := by omega
      gi_wp2
      go_end0
      first | exact ⟨⟨_, rfl⟩, .inl ⟨_, rfl, hJs⟩⟩ | exact ⟨⟨_, rfl⟩, .inl hJs⟩
theorem bwK_t {n₀ Bs : Nat} {sv : Value} {A B C : World} (h : bwK n₀ Bs sv A B) (k : bwK n₀ Bs sv B C) : bwK n₀ Bs sv A C := ⟨h.1.trans k.1, fun x => k.2 (h.2 x)⟩
theorem bwK_b {n₀ Bs : Nat} {sv : Value} {w : World} (hn : n₀ ≤ w.heap.size) (W : World) (l : Nat) (o o' : Obj) (hl : w.heap.size ≤ l) (h : W.heap[l]? = some o) (h1 : o.isCells = false) (h2 : o.isWalk = false) : bwK n₀ Bs sv W (W.putObj l o') :=
  ⟨belowK_b hn W l o o' hl h h1 h2, fun x => x.kept (grownBy_putObj' W l o') (fun e => by
    cases e
    rw [show W.heap[Bs]? = _ from x] at h
    cases h
    cases h1)⟩
theorem backward_stops {α : Type} (encs : α → Array Value) (al : Nat → α) (F : Fence) (n : Nat) (h8 : F.fn 30) (hro : F.round = none) (hn : 1 ≤ n) (Bs n₀ b off len cap : Nat) (zs : List Int) (hreach : len * 8 ≤ 140737488351232) (hb : b < n₀)
    (henc : ∀ j, j < len → encs (al j) = #[.int .i64 ((len : Int) - 1 - (j : Int)), .int .i64 (zs[len - 1 - j]?.getD 0)]) (w : World) (hn₀ : n₀ ≤ w.heap.size)
    (hBs : Boxed w Bs 22 (.slice (some ⟨b, off, none⟩) len cap)) (hc : ∀ j, j < len → w.cell? ⟨b, off + j, none⟩ = some (.int .i64 (zs[j]?.getD 0))) :
    SeqStopsK F n Tryd.prog 30 #[.pointer (some ⟨Bs, 0, none⟩)] encs (bwK n₀ Bs (.slice (some ⟨b, off, none⟩) len cap)) (fun ys => ys = bw_upto al len) (fun _ => True) len w := fun l J Jx W hW _ _ hY h0 => by
  refine (backward1_in encs al F n h8 hro hn l Bs n₀ b off len cap zs hreach hb J Jx henc hY W ((hW.block Bs hBs.lt).trans hBs) (fun j hj => ((hW.mono hn₀).cell (p := ⟨b, off + j, none⟩) hb).trans (hc j hj)) h0).mono ?_
  rintro e W' ⟨he, ⟨ys, rfl, hj⟩ | ⟨pre, _, hj⟩⟩
  · exact ⟨he, .inl ⟨_, rfl, hj⟩⟩
  · exact ⟨he, .inr ⟨_, trivial, hj⟩⟩
/-- slices.Backward: the slice is boxed; the function value captures the box. -/
theorem backward_calls (a : Option Addr) (len cap : Nat) (w : World) :
    Calls Tryd.prog 19 #[.slice a len cap] w fun e w' => e = .returned (.func (.func 30) #[] #[.pointer (some ⟨w.heap.size, 0, none⟩)]) ∧ w' = w.alloc (.cells #[.slice a len cap] 22) := by
  go_enter Tryd.func19, Tryd.ntmps19
  go_wp2
  go_ret
  exact ⟨rfl, rfl⟩

def oid_Encode.T3 : Bool × List (List Nat × List Nat) := (true, [([], []), ([0], [0]), ([1], [1]), ([2], [2]), ([], []), ([4], [4]), ([5], [5]), ([3, 6], [3, 6]), ([7], [7]), ([], []), ([9], [9]), ([8, 10], [8, 10]), ([11, 11, 0, 1, 2, 3, 4, 5, 6, 7, 8, 9, 10, 11], [11])])
def oid_Encode.B3 : List Nat := [0, 1, 3, 7, 0, 16, 48, 127, 255, 0, 512, 2047, 4095]
theorem oid_Encode.tab3 : rtab .any (opsOf Tryd.f6 3) = oid_Encode.T3 := by kernel_rfl
theorem oid_Encode.bits3 : waitsOk oid_Encode.T3.2 oid_Encode.B3 = true := by kernel_rfl

def encD : Nat → Int → Int → Option (List Int)
  | 0, _, _ => none
  | k + 1, n, m => if n / 128 = 0 then some [Go.bits .or .u8 ((Go.bits .and .i64 n 127) % 256) m] else (encD k (n / 128) 128).bind fun r => some (Go.bits .or .u8 ((Go.bits .and .i64 n 127) % 256) m :: r)
def encA (k : Nat) : List Int → Option (List Int)
  | [] => some []
  | x :: xs => (encD k x 0).bind fun d => if d.length ≤ 10 then (encA k xs).bind fun r => some (d ++ r) else none
theorem encA_mem {k : Nat} : ∀ {xs bs : List Int}, encA k xs = some bs → ∀ x ∈ xs, ∃ d, encD k x 0 = some d ∧ d.length ≤ 10
  | [], _, _, x, hx => by cases hx
  | y :: ys, bs, h, x, hx => by
    rw [encA] at h
    obtain ⟨d, h1, h⟩ := Option.bind_eq_some_iff.1 h
    by_cases h2 : d.length ≤ 10
    · rw [if_pos h2] at h
      obtain ⟨r, h3, h⟩ := Option.bind_eq_some_iff.1 h
      rcases List.mem_cons.1 hx with rfl | hx
      · exact ⟨d, h1, h2⟩
      · exact encA_mem h3 x hx
    · rw [if_neg h2] at h; cases h
def encF (k : Nat) (xs : List Int) : List Int := xs.flatMap fun x => (encD k x 0).getD []
abbrev EncX (k : Nat) := { p : Int × Int // ∃ d, encD k p.2 0 = some d ∧ d.length ≤ 10 }
theorem encF_len {k : Nat} (pre : List (EncX k)) : (encF k (pre.map fun x => x.1.2)).length ≤ 10 * pre.length := by
  induction pre with
  | nil => simp [encF]
  | cons x xs ih =>
    obtain ⟨⟨i, n⟩, d, hd, h10⟩ := x
    have e : encF k (List.map (fun x : EncX k => x.1.2) (⟨(i, n), d, hd, h10⟩ :: xs)) = d ++ encF k (xs.map fun x => x.1.2) := by
      simp [encF, hd]
    rw [e, List.length_append, List.length_cons]
    omega
theorem encF_snoc {k : Nat} (pre : List (EncX k)) (x : EncX k) {d : List Int} (hd : encD k x.1.2 0 = some d) : encF k ((pre ++ [x]).map fun x => x.1.2) = encF k (pre.map fun x => x.1.2) ++ d := by
  simp [encF, hd]
theorem encD_pos : ∀ {k : Nat} {n m : Int} {d : List Int}, encD k n m = some d → 0 ≤ n
  | 0, _, _, _, h => by cases h
  | k + 1, n, m, d, h => by
    rw [encD] at h
    by_cases hs : n / 128 = 0
    · omega
    · rw [if_neg hs] at h
      obtain ⟨r, hr, _⟩ := Option.bind_eq_some_iff.1 h
      have := encD_pos hr
      omega
theorem encA_eq {k : Nat} : ∀ {xs bs : List Int}, encA k xs = some bs → bs = encF k xs
  | [], _, h => by cases h; rfl
  | y :: ys, bs, h => by
    rw [encA] at h
    obtain ⟨d, h1, h⟩ := Option.bind_eq_some_iff.1 h
    by_cases h2 : d.length ≤ 10
    · rw [if_pos h2] at h
      obtain ⟨r, h3, h⟩ := Option.bind_eq_some_iff.1 h
      cases h
      rw [encA_eq h3]
      simp [encF, h1]
    · rw [if_neg h2] at h; cases h
theorem encInfo : (Tryd.prog.info? 5).map (fun i => (i.zero, i.size, i.bytes)) = some (some (.int .u8 0), 1, 1) := by kernel_rfl
def encNums (l0 : List Int) : List Int := [wrap64 ((wrap64 (40 * (rd l0 0))) + (rd l0 1))] ++ l0.drop 2
def oid_Encode.f (k : Nat) (l0 : List Int) : Option (ByteArray × Bool) := (oid_Right.f k l0).bind fun t108 => if t108 = true then (if 2 ≤ l0.length ∧ l0.length ≤ 1000 then (encA k (encNums l0).reverse).bind fun bs => (slices_Reverse_byte_byte.f k bs).bind fun r => some (strOfNums r, true) else none) else some ((⟨#[]⟩ : ByteArray), false)
def encPost (fn : Func) (R : Ending → World → Prop) : Exit → Act → World → Prop
  | .normal, a, w => LeavesInM Fence.wide 3 Tryd.prog fn a.tmps R a.defers .returning w
  | .ret, a, w => LeavesInM Fence.wide 3 Tryd.prog fn a.tmps R a.defers .returning w
  | _, _, _ => False
theorem encPost_to (fn : Func) (R : Ending → World → Prop) : ∀ (e : Exit) (a : Act) (w : World), encPost fn R e a w → bodyPostM Fence.wide 3 Tryd.prog fn R e a w
  | .normal, _, _, h => h
  | .ret, _, _, h => h
  | .panic _, _, _, h => h.elim
  | .outgrown, _, _, h => h.elim
  | .exit _, _, _, h => h.elim
  | .goto _, _, _, h => h.elim
theorem encD.mono : ∀ k n m, LeO (encD k n m) (encD (k + 1) n m) := by
  intro k
  induction k with
  | zero => intro n m; exact LeO.none _
  | succ k ih =>
    intro n m
    rw [encD, encD]
    refine LeO.ite (LeO.refl _) (LeO.bind (ih _ _) (fun _ => LeO.refl _))
theorem encA.mono (k : Nat) : ∀ xs, LeO (encA k xs) (encA (k + 1) xs)
  | [] => LeO.refl _
  | x :: xs => LeO.bind (encD.mono k x 0) (fun d => LeO.ite (LeO.bind (encA.mono k xs) (fun _ => LeO.refl _)) (LeO.none _))
theorem oid_Encode.mono : ∀ a0 k, LeO (oid_Encode.f k a0) (oid_Encode.f (k + 1) a0) := fun a0 k =>
  LeO.bind (oid_Right.mono a0 k) (fun t => LeO.ite (LeO.ite (LeO.bind (encA.mono k _) (fun bs => LeO.bind (slices_Reverse_byte_byte.mono bs k) (fun _ => LeO.refl _))) (LeO.none _)) (LeO.refl _))
set_option maxHeartbeats 8000000 in
set_option maxRecDepth 100000 in
theorem oid_Encode.calls (k : Nat) (A0 : Option Addr) (c0 : Nat) (l0 : List Int) (r1 : ByteArray) (r2 : Bool) (w : World) (hr0 : Kd.C (Kd.int .i64) w A0 l0.length l0) (hc0 : l0.length ≤ c0) (h : oid_Encode.f k l0 = some (r1, r2)) :
    Calls Tryd.prog 6 #[.slice A0 l0.length c0] w fun e w' => e = .returned (.tuple #[.string r1, .bool r2]) ∧ Below w.heap.size w w' := by
  have HR0 := Aside0.mk hr0
  have HC0 := Aside0.mk hc0
  clear hr0 hc0
  have HB := Aside0.mk (Below.refl w.heap.size w)
  have H : ((oid_Right.f k l0).bind fun t108 => if t108 = true then (if 2 ≤ l0.length ∧ l0.length ≤ 1000 then (encA k (encNums l0).reverse).bind fun bs => (slices_Reverse_byte_byte.f k bs).bind fun r => some (strOfNums r, true) else none) else some ((⟨#[]⟩ : ByteArray), false)) = some (r1, r2) := h
  clear h
  replace H := Option.bind_eq_some_iff.mp H
  obtain ⟨t108, A20, H⟩ := H
  replace H : (if t108 = true then (if 2 ≤ l0.length ∧ l0.length ≤ 1000 then (encA k (encNums l0).reverse).bind fun bs => (slices_Reverse_byte_byte.f k bs).bind fun r => some (strOfNums r, true) else none) else some ((⟨#[]⟩ : ByteArray), false)) = some (r1, r2) := H
  have A2 := Aside0.mk A20
  clear A20
  cases t108 with
  | true =>
    rw [if_pos rfl] at H
    by_cases c4 : 2 ≤ l0.length ∧ l0.length ≤ 1000
    case neg => rw [if_neg c4] at H; cases H
    rw [if_pos c4] at H
    obtain ⟨bs, A30, H⟩ := Option.bind_eq_some_iff.mp H
    obtain ⟨rv, A40, H⟩ := Option.bind_eq_some_iff.mp H
    simp only [Option.some.injEq, Prod.mk.injEq] at H
    obtain ⟨rfl, rfl⟩ := H
    have A3 := Aside0.mk A30
    have A4 := Aside0.mk A40
    have HL := Aside0.mk c4
    have c4b0 : decide (0 < (l0.length : Int)) = true := decide_eq_true (by omega)
    have c4b1 : decide (0 < l0.length) = true := decide_eq_true (by omega)
    have c5b0 : decide (1 < (l0.length : Int)) = true := decide_eq_true (by omega)
    have c5b1 : decide (1 < l0.length) = true := decide_eq_true (by omega)
    have c6b0 := eq_true (show 2 ≤ (l0.length : Int) by omega)
    have c6b1 : decide (2 ≤ (l0.length : Int)) = true := decide_eq_true (by omega)
    have LMc7 := Aside0.mk (show ([wrap64 ((wrap64 (40 * (rd l0 0))) + (rd l0 1))] : List Int).length + (l0.drop 2).length < 17592186044416 by rw [List.length_drop]; simp only [List.length_cons, List.length_nil]; omega)
    clear A30 A40 c4
    obtain ⟨y111, hy111⟩ : ∃ y_ : List Int, y_ = (([wrap64 ((wrap64 (40 * (rd l0 0))) + (rd l0 1))] : List Int)) := ⟨_, rfl⟩
    rw [← hy111] at LMc7
    have Ny111 := Aside0.mk hy111
    clear hy111
    obtain ⟨y115, hy115⟩ : ∃ y_ : List Int, y_ = (y111 ++ (l0.drop 2)) := ⟨_, rfl⟩
    have Ny115 := Aside0.mk hy115
    clear hy115
    refine callsIn_wide.1 (callsIn_of_wp_marks (F := Fence.wide) (n := 3) Tryd.func6 rfl trivial ?_ rfl)
    refine wpIn_mono (wpIn_wide.2 ?_) (encPost_to Tryd.f6 _)
    simp only [Tryd.ntmps6, List.size_toArray, List.length_cons, List.length_nil, Nat.reduceAdd, Nat.reduceSub, Array.replicate_succ, Array.replicate_zero, List.push_toArray, List.append_toArray, List.nil_append, List.cons_append]
    try go_wp2_with (first | ((with_reducible refine gate_callee (f := 10) rfl ?_); refine goesL_ (some 10) rfl rfl Tryd.func10 (by kernel_rfl) rfl #[.slice A0 l0.length c0] rfl (by (try simp only [List.map_toArray, List.map_cons, List.map_nil]); first | done | rfl | (simp only [List.length_drop, List.length_take]; rfl) | exact congrArg (fun z => #[Value.int .i64 z]) (w64 (by omega) (by omega)).symm) ?_; (with_reducible refine (oid_Right.calls k _ _ l0 true _ ?side1 ?side2 A2.out).mono ?_); (case side1 => repeat (first | exact HR0.out | (with_reducible refine Kd.C_alloc ?_ _) | (with_reducible refine Kd.C_drewN ?_ _) | (with_reducible refine Kd.C_drew ?_))); (case side2 => exact HC0.out); rintro e w' ⟨rfl, ⟨nd, rfl⟩⟩; refine ⟨_, rfl, ?_⟩))
    (rw [drewN_self w]; generalize hq_ : World.drewN w _ = w8; have n_ : Aside0 (Below w.heap.size w w8) := ⟨by rw [← hq_]; apply pw_below_drewN; exact HB.out⟩; clear HB hq_; have HB := n_; clear n_)
    have n0_ := Aside0.mk (below_drew1 HB.out)
    clear HB
    have HB := n0_
    clear n0_
    have p109 : 0 ≤ (0 : Int) := (by omega)
    have q109 : 0 < (l0.length : Int) := of_decide_eq_true (by first | (with_reducible assumption) | assumption)
    obtain ⟨ad109, e109, hx109_0⟩ := Kd.at_int HR0.out 0 p109 q109
    have hw109_0 := hx109_0
    (try rw [show ((0 : Int)).toNat = 0 from rfl] at hw109_0)
    (try rw [show 0 * 1 = 0 from rfl] at hw109_0)
    (try rw [Addr.add_zero'] at hw109_0)
    cases e109
    have qi109 : (0 < l0.length) = True := eq_true (by omega)
    (try rw [show ((0 : Int)).toNat = 0 from rfl] at hx109_0)
    (try rw [Addr.add_zero'] at hx109_0)
    replace hx109_0 := (HB.out.cell (World.block_lt_of_cell? w _ hx109_0)).trans hx109_0
    replace p109 := eq_true p109
    replace q109 := eq_true q109
    have p110 : 0 ≤ (1 : Int) := (by omega)
    have q110 : 1 < (l0.length : Int) := of_decide_eq_true (by first | (with_reducible assumption) | assumption)
    obtain ⟨ad110, e110, hx110_0⟩ := Kd.at_int HR0.out 1 p110 q110
    have hw110_0 := hx110_0
    (try rw [show ((1 : Int)).toNat = 1 from rfl] at hw110_0)
    (try rw [show 1 * 1 = 1 from rfl] at hw110_0)
    (try simp only [Nat.reduceMul, Nat.reduceEqDiff, Go.Addr.add, ↓reduceIte] at hw110_0)
    obtain rfl : ad109 = ad110 := (by injection e110)
    (try simp only [show (1 : Int).toNat = 1 from rfl, Nat.reduceMul, Nat.reduceEqDiff, Go.Addr.add, ↓reduceIte] at hx110_0)
    have qi110 : (1 < l0.length) = True := eq_true (by omega)
    (try rw [show ((1 : Int)).toNat = 1 from rfl] at hx110_0)
    replace hx110_0 := (HB.out.cell (World.block_lt_of_cell? w _ hx110_0)).trans hx110_0
    replace p110 := eq_true p110
    replace q110 := eq_true q110
    obtain ⟨i010, hi010, _, hsz10, _⟩ := info_parts info3
    obtain ⟨A10, hcut10, hA10, hC10⟩ := print_drop_of (P := Tryd.prog) (Value.int .i64) 0 22 3 .i64 Tryd.underlying22 hi010 hsz10 (some ad109) c0 l0 2 (by omega) (of_decide_eq_true (by first | (with_reducible assumption) | assumption)) HC0.out
    have HR114 := Aside0.mk (Kd.C_of_reads (h1 := fun _ => rfl) (hA10 _ (Kd.reads_of_C HR0.out)))
    have HC114 := Aside0.mk hC10
    clear hA10 hC10 hi010 hsz10
    refine start_ (n := 13) (S := fun w' => w'.cell? ad109 = some (.int .i64 (rd l0 0)) ∧ w'.cell? ⟨ad109.block, ad109.off + 1, none⟩ = some (.int .i64 (rd l0 1))) (ds := []) #[false, false, false, false, false, false, false, false, false, false, false, false, false] (by kernel_rfl) rfl rfl ⟨((HB.out.cell (World.block_lt_of_cell? w _ hw109_0)).trans hw109_0), ((HB.out.cell (World.block_lt_of_cell? w _ hw110_0)).trans hw110_0)⟩ (fun hHeld => ?_); refine with_tabW oid_Encode.tab3 oid_Encode.bits3 (fun HG_ HW_ => ?_)
    generalize w8.drew = w9 at HB HR114 hx109_0 hx110_0 hHeld ⊢
    refine pure_ (i := 0) (N := some 12) (v := ?_) (a' := ?_) #[true, false, false, false, false, false, false, false, false, false, false, false, false] rfl rfl (any_of HG_.out (by kernel_rfl)) (fun _ _ _ h => h) (Or.inl ⟨by rfl, ?_⟩) ?_ ?_
    rotate_left
    · intro w'
      go_simp
      with_reducible rfl
    rotate_left
    · simp only [Act.put, List.setIfInBounds_toArray, List.set_cons_zero, List.set_cons_succ, i64_w, i32_w]
      rfl
    refine pure_ (i := 1) (N := some 13) (v := ?_) (a' := ?_) #[true, true, false, false, false, false, false, false, false, false, false, false, false] rfl rfl (any_of HG_.out (by kernel_rfl)) (fun _ _ _ h => h) (Or.inl ⟨by rfl, ?_⟩) ?_ ?_
    rotate_left
    · intro w'
      go_simp
      with_reducible rfl
    rotate_left
    · simp only [Act.put, List.setIfInBounds_toArray, List.set_cons_zero, List.set_cons_succ, i64_w, i32_w]
      rfl
    refine pure_ (i := 4) (N := some 16) (v := ?_) (a' := ?_) #[true, true, false, false, true, false, false, false, false, false, false, false, false] rfl rfl (any_of HG_.out (by kernel_rfl)) (fun _ _ _ h => h) (Or.inl ⟨by rfl, ?_⟩) ?_ ?_
    rotate_left
    · intro w'
      go_simp
      with_reducible rfl
    rotate_left
    · simp only [Act.put, List.setIfInBounds_toArray, List.set_cons_zero, List.set_cons_succ, i64_w, i32_w]
      rfl
    refine pure_ (i := 5) (N := some 17) (v := ?_) (a' := ?_) #[true, true, false, false, true, true, false, false, false, false, false, false, false] rfl rfl (any_of HG_.out (by kernel_rfl)) (fun _ _ _ h => h) (Or.inl ⟨by rfl, ?_⟩) ?_ ?_
    rotate_left
    · intro w'
      go_simp
      with_reducible rfl
    rotate_left
    · simp only [Act.put, List.setIfInBounds_toArray, List.set_cons_zero, List.set_cons_succ, i64_w, i32_w]
      rfl
    refine pure_ (i := 9) (N := some 21) (v := ?_) (a' := ?_) #[true, true, false, false, true, true, false, false, false, true, false, false, false] rfl rfl (any_of HG_.out (by kernel_rfl)) (fun _ _ _ h => h) (Or.inl ⟨by rfl, ?_⟩) ?_ ?_
    rotate_left
    · intro w'
      go_simp
      with_reducible rfl
    rotate_left
    · simp only [Act.put, List.setIfInBounds_toArray, List.set_cons_zero, List.set_cons_succ, i64_w, i32_w]
      rfl
    refine pure_ (i := 10) (N := some 22) (v := ?_) (a' := ?_) #[true, true, false, false, true, true, false, false, false, true, true, false, false] rfl rfl (any_of HG_.out (by kernel_rfl)) (fun _ _ _ h => h) (Or.inl ⟨by rfl, ?_⟩) ?_ ?_
    rotate_left
    · intro w'
      go_simp
      with_reducible rfl
    rotate_left
    · simp only [Act.put, List.setIfInBounds_toArray, List.set_cons_zero, List.set_cons_succ, i64_w, i32_w]
      rfl
    refine take_ (i := 2) (N := some 14) (v := ?_) (a' := ?_) #[true, true, true, false, true, true, false, false, false, true, true, false, false] rfl rfl (take_ofW HG_.out HW_.out (by kernel_rfl)) (fun _ _ _ h => h) (Or.inl ⟨by rfl, ?_⟩) hHeld ?_ ?_
    rotate_left
    · rintro w' ⟨s0, s1⟩
      go_simp
      with_reducible rfl
    rotate_left
    · simp only [Act.put, List.setIfInBounds_toArray, List.set_cons_zero, List.set_cons_succ, i64_w, i32_w]
      rfl
    refine pure_ (i := 3) (N := some 15) (v := ?_) (a' := ?_) #[true, true, true, true, true, true, false, false, false, true, true, false, false] rfl rfl (any_of HG_.out (by kernel_rfl)) (fun _ _ _ h => h) (Or.inl ⟨by rfl, ?_⟩) ?_ ?_
    rotate_left
    · intro w'
      go_simp
      with_reducible rfl
    rotate_left
    · simp only [Act.put, List.setIfInBounds_toArray, List.set_cons_zero, List.set_cons_succ, i64_w, i32_w]
      rfl
    refine take_ (i := 6) (N := some 18) (v := ?_) (a' := ?_) #[true, true, true, true, true, true, true, false, false, true, true, false, false] rfl rfl (take_ofW HG_.out HW_.out (by kernel_rfl)) (fun _ _ _ h => h) (Or.inl ⟨by rfl, ?_⟩) hHeld ?_ ?_
    rotate_left
    · rintro w' ⟨s0, s1⟩
      go_simp
      with_reducible rfl
    rotate_left
    · simp only [Act.put, List.setIfInBounds_toArray, List.set_cons_zero, List.set_cons_succ, i64_w, i32_w]
      rfl
    refine pure_ (i := 7) (N := some 19) (v := ?_) (a' := ?_) #[true, true, true, true, true, true, true, true, false, true, true, false, false] rfl rfl (any_of HG_.out (by kernel_rfl)) (fun _ _ _ h => h) (Or.inl ⟨by rfl, ?_⟩) ?_ ?_
    rotate_left
    · intro w'
      go_simp
      with_reducible rfl
    rotate_left
    · simp only [Act.put, List.setIfInBounds_toArray, List.set_cons_zero, List.set_cons_succ, i64_w, i32_w]
      rfl
    refine one_ (i := 8) (N := some 20) #[true, true, true, true, true, true, true, true, true, true, true, false, false] rfl rfl (one_of HG_.out (by kernel_rfl)) (by decide) (fun K hK => ?_)
    refine Kd.R_lit_step (Kd.int .i64) _ 3 ?hg (N := 20) ?hd (xs := ([wrap64 ((wrap64 (40 * (rd l0 0))) + (rd l0 1))] : List Int)) (inner := [.int .i64 (wrap64 ((wrap64 (40 * (rd l0 0))) + (rd l0 1)))]) (ok := fun _ => True) (okp := fun _ => True) ?hr ?hp (fun _ hk => hk) trivial (Below.refl _ _) (Nat.le_refl _) (by simp) ?_; (case hd => rfl); (case hg => rfl); (case hr => first | (go_simp; done) | (go_simp; rfl)); (case hp => exact (Reps.one (show Kd.M (Kd.int .i64) _ _ _ (wrap64 ((wrap64 (40 * (rd l0 0))) + (rd l0 1))) [.int .i64 (wrap64 ((wrap64 (40 * (rd l0 0))) + (rd l0 1)))] from rfl) (Reps.none _ _)))
    intro v112 w11 ho12 hb hg_ hnew_
    clear hg_ hnew_
    (first | rw [← Ny111.out] at ho12 | (simp only [Int.reduceToNat] at ho12; rw [← Ny111.out] at ho12))
    have n0_ := Aside0.mk (Kd.R_lower ho12 (below_size (by repeat (first | (with_reducible first | exact HB.out | apply below_alloc | apply pw_below_drewN | apply below_drew1) | exact HB.out))))
    have n1_ := Aside0.mk (below_step (by repeat (first | (with_reducible first | exact HB.out | apply below_alloc | apply pw_below_drewN | apply below_drew1) | exact HB.out)) hb)
    clear HB
    have HO113 := n0_
    have HB := n1_
    clear n0_ n1_
    clear hb ho12
    refine hK.out _ _ ⟨((HB.out.cell (World.block_lt_of_cell? w _ hw109_0)).trans hw109_0), ((HB.out.cell (World.block_lt_of_cell? w _ hw110_0)).trans hw110_0)⟩ (fun hHeld => ?_)
    clear hK K
    refine norm_ (a' := ?_) ?_ ?_
    rotate_left
    · show Act.put _ (some 20) _ = _
      simp only [Act.put, List.setIfInBounds_toArray, List.set_cons_zero, List.set_cons_succ, i64_w, i32_w]
      rfl
    refine one_ (i := 11) (N := some 23) #[true, true, true, true, true, true, true, true, true, true, true, true, false] rfl rfl (one_of HG_.out (by kernel_rfl)) (by decide) (fun K hK => ?_)
    refine Kd.R_append_rows_step (Kd.int .i64) (w0 := w) w.heap.size (by rfl) (.tmp 20) (.tmp 22) 22 3 (.int .i64 0) 8 rfl Tryd.underlying22 info3 rfl (by decide) (by omega) v112 y111 (l0.drop 2) _ _ _ (fun _ => True) (fun _ => False) rfl rfl ?aO ?aR (fun _ _ h => h) (fun _ h => h.elim) ?aF ?aB ?aS ?aL ?_
    (case aR => first | (rw [← show (l0.drop 2).length = (l0.length - 2) from List.length_drop]; repeat (first | exact (Kd.C_below HR114.out HB.out) | (with_reducible refine Kd.C_alloc ?_ _) | (with_reducible refine Kd.C_drewN ?_ _) | (with_reducible refine Kd.C_drew ?_))) | (repeat (first | exact (Kd.C_below HR114.out HB.out) | (with_reducible refine Kd.C_alloc ?_ _) | (with_reducible refine Kd.C_drewN ?_ _) | (with_reducible refine Kd.C_drew ?_))))
    (case aB => exact (by repeat (first | (with_reducible first | exact HB.out | apply below_alloc | apply pw_below_drewN | apply below_drew1) | exact HB.out)))
    (case aF => exact (fun _ _ => trivial))
    (case aO => exact (by (with_reducible repeat (first | apply Kd.R_alloc | apply Kd.R_drewN | apply Kd.R_drew)); exact HO113.out))
    (case aS => exact (below_size (by repeat (first | (with_reducible first | exact HB.out | apply below_alloc | apply pw_below_drewN | apply below_drew1) | exact HB.out))))
    (case aL => have := LMc7.out; have hlx_ := (show (l0.drop 2).length = (l0.length - 2) from List.length_drop); omega)
    intro v116 w13 ho hb hg hat
    rw [← Ny115.out] at ho
    have n0_ := Aside0.mk (hb)
    have n1_ := Aside0.mk (ho)
    clear HB
    clear HO113
    have HB := n0_
    have HO117 := n1_
    clear n0_ n1_
    clear ho hb hg hat
    refine hK.out _ _ ⟨((HB.out.cell (World.block_lt_of_cell? w _ hw109_0)).trans hw109_0), ((HB.out.cell (World.block_lt_of_cell? w _ hw110_0)).trans hw110_0)⟩ (fun hHeld => ?_)
    clear hK K
    refine norm_ (a' := ?_) ?_ ?_
    rotate_left
    · show Act.put _ (some 23) _ = _
      simp only [Act.put, List.setIfInBounds_toArray, List.set_cons_zero, List.set_cons_succ, i64_w, i32_w]
      rfl
    refine pure_ (i := 12) (N := some 4) (v := ?_) (a' := ?_) #[true, true, true, true, true, true, true, true, true, true, true, true, true] rfl rfl (any_of HG_.out (by kernel_rfl)) (fun _ _ _ h => h) (Or.inl ⟨by rfl, ?_⟩) ?_ ?_
    rotate_left
    · intro w'
      go_simp
      with_reducible rfl
    rotate_left
    · simp only [Act.put, List.setIfInBounds_toArray, List.set_cons_zero, List.set_cons_succ, i64_w, i32_w]
      rfl

    refine done_ (done_of HG_.out (by kernel_rfl)) ?_
    have hy0 : y115.length = l0.length - 1 := by rw [Ny115.out, Ny111.out, List.length_append, List.length_drop]; simp only [List.length_cons, List.length_nil]; have := HL.out; omega
    obtain ⟨g, cap, e116, hg1, hg2, _⟩ := Kd.R_form HO117.out (by have := HL.out; omega)
    subst e116
    have HY0 := Aside0.mk hy0
    have HG1 := Aside0.mk hg1
    have HG2 := Aside0.mk hg2
    clear hy0 hg1 hg2 hcut10 HR114 HC114 HG_ HW_ hx109_0 hx110_0 hHeld hw109_0 hw110_0
    go_upto_region 5 with fail
    iterate 6 (try (first | go_values | go_skip | go_guarded | go_step | go_upon))
    refine (backward_calls _ _ _ _).mono ?_
    rintro e w' ⟨rfl, rfl⟩
    dsimp only
    iterate 4 (try (first | go_values | go_skip | go_guarded | go_step | go_upon | go_back))
    rw [World.size_alloc]
    refine wp_block ?_
    refine (wpIn_wide (n := 3)).1 ?_
    have bO := Boxed.new w13 32 (.slice none 0 0)
    have bS := Boxed.new (w13.alloc (.cells #[.slice none 0 0] 32)) 22 (.slice (some ⟨g, 0, none⟩) y115.length cap)
    rw [World.size_alloc] at bS
    have hB0 : Below w13.heap.size w13 ((w13.alloc (.cells #[.slice none 0 0] 32)).alloc (.cells #[.slice (some ⟨g, 0, none⟩) y115.length cap] 22)) := ((Below.refl _ w13).alloc (Nat.le_refl _) _).alloc (by simp) _
    have hcell : ∀ j, j < y115.length → ((w13.alloc (.cells #[.slice none 0 0] 32)).alloc (.cells #[.slice (some ⟨g, 0, none⟩) y115.length cap] 22)).cell? ⟨g, 0 + j, none⟩ = some (.int .i64 (y115[j]?.getD 0)) := fun j hj => by
      obtain ⟨ad, e1, h1⟩ := Kd.at_int ((Kd.R_reads' HO117.out).2.2) (j : Int) (by omega) (by omega)
      cases e1
      have h2 := (Below.cell ((((Below.refl w13.heap.size w13).alloc (Nat.le_refl _) (.cells #[.slice none 0 0] 32))).alloc (by simp) (.cells #[.slice (some ⟨g, 0, none⟩) y115.length cap] 22)) (World.block_lt_of_cell? _ _ h1)).trans h1
      have h3 : (⟨g, 0, none⟩ : Addr).add ((j : Int)).toNat = ⟨g, 0 + j, none⟩ := by rw [Int.toNat_natCast]; unfold Addr.add; split <;> simp_all
      rw [h3] at h2
      simpa [rd, List.getD_eq_getElem?_getD] using h2
    have hmem : ∀ x ∈ y115.reverse, ∃ d, encD k x 0 = some d ∧ d.length ≤ 10 := encA_mem (by have := A3.out; unfold encNums at this; rw [Ny115.out, Ny111.out]; exact this)
    have hal : ∀ j, ∃ d, encD k (y115[y115.length - 1 - j]?.getD 0) 0 = some d ∧ d.length ≤ 10 := fun j => by
      have hj : y115.length - 1 - j < y115.length := by have := HY0.out; have := HL.out; omega
      refine hmem _ ?_
      rw [List.getElem?_eq_getElem hj, Option.getD_some]
      exact List.mem_reverse.2 (List.getElem_mem hj)
    refine wpIn_rangeFunc_ownG (α := EncX k) (encs := fun x => #[.int .i64 x.1.1, .int .i64 x.1.2]) rfl (by omega) (gf := 30) (lb := #[.pointer (some ⟨w13.heap.size + 1, 0, none⟩)]) rfl trivial (enters_of Tryd.func30 (by kernel_rfl) rfl)
      (backward_stops (fun x : EncX k => #[.int .i64 x.1.1, .int .i64 x.1.2]) (fun j => ⟨((y115.length : Int) - 1 - (j : Int), y115[y115.length - 1 - j]?.getD 0), hal j⟩) Fence.wide (3 - 1) trivial rfl (by omega) (w13.heap.size + 1) w13.heap.size g 0 y115.length cap y115 (by have := HY0.out; have := HL.out; omega) (by have := HG2.out; omega) (fun j _ => rfl) _ (by simp; omega) bS hcell)
      bwK_t (bwK_b (by simp; omega)) (Below.refl _ _) (fun _ => rfl)
      (fun pre W => (∃ v, Boxed W w13.heap.size 32 v ∧ W.ownsRow w13.heap.size 5 1 v (encF k (pre.map fun x => x.1.2)).length ((encF k (pre.map fun x => x.1.2)).map (Value.int .u8)) ∧ True) ∧ Below w13.heap.size w13 W)
      (fun _ _ _ => False)
      (OwnFrom.and (Own.from (holdsRow_own w13.heap.size w13.heap.size 32 5 1 (fun pre : List (EncX k) => (encF k (pre.map fun x => x.1.2)).length) (fun pre => (encF k (pre.map fun x => x.1.2)).map (Value.int .u8)) (fun _ _ => True)) _) (ownFrom_below (Nat.le_refl _) (by simp; omega)))
      (fun _ _ _ _ _ hs _ _ => hs)
      ⟨⟨_, bO.alloc _, World.ownsRow_nil _ _ _ _, trivial⟩, hB0⟩
      (fun x => { tmps := #[.slice (some ad109) l0.length c0, undef, .string { data := #[] }, .bool false, .slice (some ⟨g, 0, none⟩) y115.length cap, .pointer (some ⟨w13.heap.size, 0, none⟩), undef, .int .i64 x.1.2, undef,
        .slice (some ad109) l0.length c0, .bool true, .bool false, .slice (some ad109) l0.length c0, .pointer (some ad109), .int .i64 (rd l0 0), .int .i64 (wrap64 (40 * rd l0 0)), .slice (some ad109) l0.length c0,
        .pointer (some ⟨ad109.block, ad109.off + 1, none⟩), .int .i64 (rd l0 1), .int .i64 (wrap64 (wrap64 (40 * rd l0 0) + rd l0 1)), v112, .slice (some ad109) l0.length c0, .slice A10 (l0.length - 2) (c0 - 2), .slice (some ⟨g, 0, none⟩) y115.length cap,
        .slice (some ⟨g, 0, none⟩) y115.length cap, .func (.func 30) #[] #[.pointer (some ⟨w13.heap.size + 1, 0, none⟩)], .int .i64 x.1.1, .int .i64 x.1.2, undef, undef, undef, undef, undef, undef, undef, undef, undef, undef, undef, undef, undef, undef, undef, undef], defers := [] }) ?assign ?body ?done ?stop
    case assign =>
      intro l x W K hK
      gi_wp2
      exact hK
    case stop =>
      rintro D c pre W _ _ h _
      exact h.elim
    case body =>
      rintro l pre ⟨⟨xi, xn⟩, d, hd, hd10⟩ W ⟨⟨v, hv, hrow, _⟩, hB⟩ hlt
      dsimp only
      gi_wp2
      gi_loopw [7, 8] (fun vn vm wr => ∃ (kq : Nat) (n' m' : Int) (cur rest : List Int), vn = .int .i64 n' ∧ vm = .int .u8 m' ∧ encD kq n' m' = some rest ∧ cur ++ rest = encF k (pre.map fun x => x.1.2) ++ d ∧
        (∃ v, Boxed wr w13.heap.size 32 v ∧ wr.ownsRow w13.heap.size 5 1 v cur.length (cur.map (Value.int .u8))) ∧ bwK w13.heap.size (w13.heap.size + 1) (.slice (some ⟨g, 0, none⟩) y115.length cap) W wr ∧ KeepsFrom w13.heap.size W wr)
        (fun vn _ _ => (intOf vn).toNat)
      case atStart => exact ⟨k, xn, 0, _, d, rfl, rfl, hd, rfl, ⟨v, hv, hrow⟩, ⟨Below.refl _ _, fun h => h⟩, KeepsFrom.refl _ _⟩
      case round =>
        obtain ⟨kq, n', m', cur, rest, rfl, rfl, hq, hcr, ⟨v2, hv2, hrow2⟩, hbk, hkf⟩ := hrel
        have hc := hv2.cell
        have hcl : cur.length ≤ 10010 := by
          have h1 := congrArg List.length hcr
          have h2 := encF_len pre
          have h3 := HY0.out
          have h4 := HL.out
          simp only [List.length_append] at h1
          omega
        have hsz : w13.heap.size ≤ wr.heap.size := Nat.le_trans hB.size hbk.1.size
        have hml : cur.length + 1 ≤ maxLen := by unfold maxLen; omega
        obtain ⟨i0, hi, hz0, hz1, hz2⟩ := info_parts encInfo
        cases kq with
        | zero => cases hq
        | succ kq =>
          rw [encD] at hq
          by_cases hs : n' / 128 = 0
          · rw [if_pos hs] at hq
            have hs0 : (n' / 128 == 0) = true := by simp [hs]
            gi_wp2_with (gi_at_builtin; refine wpListIn_append_own _ rfl _ _ 32 rfl w13.heap.size 5 i0 (.int .u8 0) 1 1 Tryd.underlying32 hi hz0 hz1 hz2 rfl (by decide) _ _ _ rfl (hrow2.alloc _) ⟨wr.heap.size, 0, none⟩ 1 1 [.int .u8 (Go.bits .or .u8 ((Go.bits .and .i64 n' 127) % 256) m')] rfl rfl (cell_one_new _ _ _) (by simp [Value.oneCell']) hml (by omega) (by simp; omega) ?_; intro v' w1 hown' hgrow _; obtain ⟨g', cap', rfl⟩ := ownsRow_succ hown'; obtain ⟨hv3, hv4, hr4, hk4, hb4⟩ := hv2.appended (by decide) hrow2 hsz (Nat.le_refl _) hown' hgrow; have hc1 := hv3.cell; have hf1 := hv3.frozen; have hS1 := fun hS : Boxed wr (w13.heap.size + 1) 22 (.slice (some ⟨g, 0, none⟩) y115.length cap) => ((hS.alloc _).kept hgrow (hS.not_row (by decide) hrow2)).kept (grownBy_setCell' w1 w13.heap.size (.slice (some ⟨g', 0, none⟩) (cur.length + 1) cap')) (by simp))
            obtain rfl := Option.some.inj hq
            have e := encF_snoc pre ⟨(xi, xn), d, hd, hd10⟩ hd
            rw [← hcr] at e
            refine ⟨⟨Nat.le_trans hkf.size (hk4.from w13.heap.size).size, fun k o hk => (hkf.trans (hk4.from _)).same k o (by simp at hk; omega)⟩, ⟨hbk.1.trans hb4, fun h => hS1 (hbk.2 h)⟩, ⟨_, hv4, ?_, trivial⟩, hB.trans (hbk.1.trans hb4)⟩
            rw [e]
            simpa using hr4
          · rw [if_neg hs] at hq
            have hs0 : (n' / 128 == 0) = false := by simp [hs]
            obtain ⟨r, hr, hq⟩ := Option.bind_eq_some_iff.1 hq
            obtain rfl := Option.some.inj hq
            have hpos := encD_pos hr
            gi_wp2_with (gi_at_builtin; refine wpListIn_append_own _ rfl _ _ 32 rfl w13.heap.size 5 i0 (.int .u8 0) 1 1 Tryd.underlying32 hi hz0 hz1 hz2 rfl (by decide) _ _ _ rfl (hrow2.alloc _) ⟨wr.heap.size, 0, none⟩ 1 1 [.int .u8 (Go.bits .or .u8 ((Go.bits .and .i64 n' 127) % 256) m')] rfl rfl (cell_one_new _ _ _) (by simp [Value.oneCell']) hml (by omega) (by simp; omega) ?_; intro v' w1 hown' hgrow _; obtain ⟨g', cap', rfl⟩ := ownsRow_succ hown'; obtain ⟨hv3, hv4, hr4, hk4, hb4⟩ := hv2.appended (by decide) hrow2 hsz (Nat.le_refl _) hown' hgrow; have hc1 := hv3.cell; have hf1 := hv3.frozen; have hS1 := fun hS : Boxed wr (w13.heap.size + 1) 22 (.slice (some ⟨g, 0, none⟩) y115.length cap) => ((hS.alloc _).kept hgrow (hS.not_row (by decide) hrow2)).kept (grownBy_setCell' w1 w13.heap.size (.slice (some ⟨g', 0, none⟩) (cur.length + 1) cap')) (by simp))
            refine ⟨⟨kq, n' / 128, 128, cur ++ [Go.bits .or .u8 ((Go.bits .and .i64 n' 127) % 256) m'], r, rfl, rfl, hr, ?_, ⟨_, hv4, ?_⟩, ⟨hbk.1.trans hb4, fun h => hS1 (hbk.2 h)⟩, hkf.trans (hk4.from _)⟩, ?_⟩
            · rw [← hcr]; simp
            · simpa using hr4
            · simp only [intOf]; omega
    case done =>
      rintro D ys W hD rfl ⟨⟨v, hv, hrow, _⟩, hB2⟩ hK
      have e : encF k ((bw_upto (fun j => (⟨((y115.length : Int) - 1 - (j : Int), y115[y115.length - 1 - j]?.getD 0), hal j⟩ : EncX k)) y115.length).map fun x => x.1.2) = bs := by
        have h1 := encA_eq (by have := A3.out; unfold encNums at this; rw [← Ny111.out, ← Ny115.out] at this; exact this)
        rw [h1]
        congr 1
        refine List.ext_getElem (by simp [bw_upto]) (fun i h2 h3 => ?_)
        rw [List.length_reverse] at h3
        simp only [bw_upto, List.getElem_map, List.getElem_range, List.getElem_reverse]
        rw [List.getElem?_eq_getElem (by omega), Option.getD_some]
      rw [e] at hrow
      clear e
      have hc := hv.cell
      have hnB : ¬ v.ownBlock = some w13.heap.size := fun e => hv.not_row (by decide) hrow e.symm
      have hnD : ¬ v.ownBlock = some D := fun e => by
        rcases hrow.2 with ⟨rfl, _⟩ | ⟨g1, cap1, cur1, rfl, _, h1, _⟩
        · simp [Value.ownBlock] at e
        · simp only [Value.ownBlock, Option.some.injEq] at e
          subst e
          rw [h1] at hK
          cases hK
      have hRow : Kd.R (Kd.int .u8) 5 W w13.heap.size (fun j => v.ownBlock = some j) v bs := Kd.R_of_own hrow (fun j hj => hj)
      have HK := Aside0.mk hK
      have HV := Aside0.mk hv
      have HROW := Aside0.mk hRow
      have HB2 := Aside0.mk hB2
      have HNB := Aside0.mk hnB
      have HND := Aside0.mk hnD
      have HD := Aside0.mk hD
      clear hv hrow hB2 hK hnB hnD hRow hD hmem hal hcell bO bS hB0
      try clear hbk
      go_wp2_with (go_at_call 20; refine (slices_Reverse_byte_byte.calls k (fun j => v.ownBlock = some j) v bs rv w13 W HB2.out HROW.out A4.out).mono ?_; rintro e w2 ⟨rfl, ho, hb3, hk3⟩; have hc2 := (Boxed.cell ((hk3.2 _ HV.out.lt HNB.out).trans HV.out : Boxed w2 w13.heap.size 32 v)); have hcv := own_string (P := Tryd.prog) Tryd.underlying32 Tryd.underlying5 Tryd.underlying9 (Kd.own_of_R ho); have HK2 := Aside0.mk ((hk3.2 D (Array.getElem?_eq_some_iff.1 HK.out).1 HND.out).trans HK.out); have HB3 := Aside0.mk hb3; clear ho hb3 hk3)
      refine ⟨by simp, .inl ⟨_, _, rfl, run_takeDeferred HK2.out, ?_⟩⟩
      exact ⟨_, results_tmp2 rfl _ _ _, rfl, below_step HB.out (HB3.out.trans (belowK_b (w := w13) (Nat.le_refl _) w2 D _ _ (by have := HD.out; simp at this; omega) HK2.out rfl rfl))⟩
  | false =>
    rw [if_neg (by decide)] at H
    simp only [Option.some.injEq, Prod.mk.injEq] at H
    obtain ⟨rfl, rfl⟩ := H
    go_enter Tryd.func6, Tryd.ntmps6
    go_wp2_with (first | ((with_reducible refine gate_callee (f := 10) rfl ?_); refine goesL_ (some 10) rfl rfl Tryd.func10 (by kernel_rfl) rfl #[.slice A0 l0.length c0] rfl (by (try simp only [List.map_toArray, List.map_cons, List.map_nil]); first | done | rfl | (simp only [List.length_drop, List.length_take]; rfl) | exact congrArg (fun z => #[Value.int .i64 z]) (w64 (by omega) (by omega)).symm) ?_; (with_reducible refine (oid_Right.calls k _ _ l0 false _ ?side1 ?side2 A2.out).mono ?_); (case side1 => repeat (first | exact HR0.out | (with_reducible refine Kd.C_alloc ?_ _) | (with_reducible refine Kd.C_drewN ?_ _) | (with_reducible refine Kd.C_drew ?_))); (case side2 => exact HC0.out); rintro e w' ⟨rfl, ⟨nd, rfl⟩⟩; refine ⟨_, rfl, ?_⟩))

    go_ret2
    exact ⟨rfl, by repeat (first | (with_reducible first | exact HB.out | apply below_alloc | apply pw_below_drewN | apply below_drew1) | exact HB.out)⟩
end

/-! ### oid_numbers: function 22 -/
mutual
def oid_numbers.l0 : Nat → ByteArray → List Int → Int → Bool → Int → Int → Option (List Int × Bool)
  | 0, _, _, _, _, _, _ => none
  | k + 1, x0, x4, x5, x6, x9, x10 => if x10 < x9 then (if x6 = true then (oid_numbers.j1 k x0 x4 x5 x10 x9 x10 (decide (x5 > 2147483647))) else (if 0 ≤ x10 then (if x10 < (x0.size : Int) then (if (bt x0 x10) = 128 then (oid_numbers.j1 k x0 x4 x5 x10 x9 x10 true) else (oid_numbers.j1 k x0 x4 x5 x10 x9 x10 (decide (x5 > 2147483647)))) else (none)) else (none))) else (if x6 = true then (some (x4, false)) else (if (x4.length : Int) > 0 then (some (x4, decide ((x4.length : Int) < 20))) else (some (x4, false))))
def oid_numbers.j1 : Nat → ByteArray → List Int → Int → Int → Int → Int → Bool → Option (List Int × Bool)
  | 0, _, _, _, _, _, _, _ => none
  | k + 1, x0, x4, x5, x7, x9, x10, x24 => if x24 = true then (some (([] : List Int), false)) else (if 0 ≤ x7 then (if x7 < (x0.size : Int) then (if ((bt x0 x7) ≥ 128) then (oid_numbers.l0 k x0 x4 (Go.bits .or .i64 (wrap64 (x5 * 128)) (wrap64 (Go.bits .and .u8 (bt x0 x7) 127))) (decide ((bt x0 x7) ≥ 128)) x9 (wrap64 (x10 + 1))) else (if x4.length < 17592186044416 then (oid_numbers.l0 k x0 (x4 ++ [Go.bits .or .i64 (wrap64 (x5 * 128)) (wrap64 (Go.bits .and .u8 (bt x0 x7) 127))]) 0 (decide ((bt x0 x7) ≥ 128)) x9 (wrap64 (x10 + 1))) else (none))) else (none)) else (none))
end
def oid_numbers.f (k : Nat) (a0 : ByteArray) : Option (List Int × Bool) := oid_numbers.l0 k a0 ([] : List Int) 0 false (a0.size : Int) 0
theorem oid_numbers.mono_l : ∀ k, (∀ y0 y1 y2 y3 y4 y5, LeO (oid_numbers.l0 k y0 y1 y2 y3 y4 y5) (oid_numbers.l0 (k + 1) y0 y1 y2 y3 y4 y5)) ∧ (∀ y0 y1 y2 y3 y4 y5 y6, LeO (oid_numbers.j1 k y0 y1 y2 y3 y4 y5 y6) (oid_numbers.j1 (k + 1) y0 y1 y2 y3 y4 y5 y6))
  | 0 => ⟨fun _ _ _ _ _ _ r h => by simp [oid_numbers.l0] at h, fun _ _ _ _ _ _ _ r h => by simp [oid_numbers.j1] at h⟩
  | k + 1 => by
    obtain ⟨ih0, ih1⟩ := oid_numbers.mono_l k
    refine ⟨?_, ?_⟩
    · intro y0 y1 y2 y3 y4 y5
      unfold oid_numbers.l0
      repeat' first
      | (with_reducible exact ih0 _ _ _ _ _ _)
      | (with_reducible exact ih1 _ _ _ _ _ _ _)
      | (with_reducible exact LeO.refl _)
      | (with_reducible exact LeO.none _)
      | (with_reducible refine LeO.ite ?_ ?_)
      | (with_reducible refine LeO.bind ?_ (fun _ => ?_))
      | exact ih0 _ _ _ _ _ _
      | exact ih1 _ _ _ _ _ _ _
      | exact LeO.none _
      | refine LeO.ite ?_ ?_
      | refine LeO.bind ?_ (fun _ => ?_)
    · intro y0 y1 y2 y3 y4 y5 y6
      unfold oid_numbers.j1
      repeat' first
      | (with_reducible exact ih0 _ _ _ _ _ _)
      | (with_reducible exact ih1 _ _ _ _ _ _ _)
      | (with_reducible exact LeO.refl _)
      | (with_reducible exact LeO.none _)
      | (with_reducible refine LeO.ite ?_ ?_)
      | (with_reducible refine LeO.bind ?_ (fun _ => ?_))
      | exact ih0 _ _ _ _ _ _
      | exact ih1 _ _ _ _ _ _ _
      | exact LeO.none _
      | refine LeO.ite ?_ ?_
      | refine LeO.bind ?_ (fun _ => ?_)
theorem oid_numbers.mono : ∀ a0 k, LeO (oid_numbers.f k a0) (oid_numbers.f (k + 1) a0) := by
  intro a0 k
  obtain ⟨ih0, ih1⟩ := oid_numbers.mono_l k
  unfold oid_numbers.f
  repeat' first
      | (with_reducible exact ih0 _ _ _ _ _ _)
      | (with_reducible exact ih1 _ _ _ _ _ _ _)
      | (with_reducible exact LeO.refl _)
      | (with_reducible exact LeO.none _)
      | (with_reducible refine LeO.ite ?_ ?_)
      | (with_reducible refine LeO.bind ?_ (fun _ => ?_))
      | exact ih0 _ _ _ _ _ _
      | exact ih1 _ _ _ _ _ _ _
      | exact LeO.none _
      | refine LeO.ite ?_ ?_
      | refine LeO.bind ?_ (fun _ => ?_)
set_option maxHeartbeats 8000000 in
set_option maxRecDepth 100000 in
theorem oid_numbers.calls (k : Nat) (a0 : ByteArray) (r1 : List Int) (r2 : Bool) (w : World) (h : oid_numbers.f k a0 = some (r1, r2)) :
    Calls Tryd.prog 22 #[.string a0] w fun e w' => ∃ v0_ : Value, e = .returned (.tuple #[v0_, .bool r2]) ∧ Kd.R (Kd.int .i64) 3 w' w.heap.size (fun _ => True) v0_ r1 ∧ Below w.heap.size w w' := by
  have HB := Aside0.mk (Below.refl w.heap.size w)
  have H : (oid_numbers.l0 k a0 ([] : List Int) 0 false (a0.size : Int) 0) = some (r1, r2) := h
  clear h
  have H' := Aside0.mk H
  clear H
  go_enter Tryd.func22, Tryd.ntmps22
  go_wp2
  go_loopg [4, 5, 6, 10] k (fun kq v4 v5 v6 v10 w' => ∃ (x4_1 : List Int) (x5_1 : Int) (x6_1 : Bool) (x10_1 : Int), v5 = .int .i64 x5_1 ∧ v6 = .bool x6_1 ∧ v10 = .int .i64 x10_1 ∧ Aside0 (oid_numbers.l0 kq a0 x4_1 x5_1 x6_1 (a0.size : Int) x10_1 = some (r1, r2)) ∧ Aside0 (kq ≤ k) ∧ Aside0 (Kd.R (Kd.int .i64) 3 w' w.heap.size (fun _ => True) v4 x4_1) ∧ Aside0 (Below w.heap.size w w'))
  case atStart => exact ⟨(([] : List Int)), (0), (false), (0), (by first | rfl | (simp; done) | (simp [*]; done)), (by first | rfl | (simp; done) | (simp [*]; done)), (by first | rfl | (simp; done) | (simp [*]; done)), H', ⟨Nat.le_refl _⟩, ⟨by first | exact Kd.R_nil _ _ _ _ _ | exact Kd.N_nil _ _ _ _ _ | exact Kd.V_nil _ _ _ _ _ | exact Kd.Q_nil _ _ _ _ _ | exact Kd.S_nil _ _ _ _ _⟩, ⟨by repeat (first | (with_reducible first | exact HB.out | apply below_alloc | apply pw_below_drewN | apply below_drew1) | exact HB.out)⟩⟩
  case round =>
    clear H'
    obtain ⟨x4_1, x5_1, x6_1, x10_1, rfl, rfl, rfl, HA, HK1, HO_4, HB⟩ := hrel
    cases gk with
    | zero => exact absurd HA.out (by simp [oid_numbers.l0])
    | succ k1 =>
      have H := HA.out
      clear HA
      simp only [oid_numbers.l0] at H
      by_cases c2 : x10_1 < (a0.size : Int)
      · rw [if_pos c2] at H
        have c2b0 : decide (x10_1 < (a0.size : Int)) = true := decide_eq_true c2
        clear c2
        have HC3 := Aside0.mk H
        clear H
        go_upto_region 6 with (fail)
        go_cut [24] (fun v24 wc => ∃ (kq : Nat) (x24_2 : Bool), v24 = .bool x24_2 ∧ Aside0 (oid_numbers.j1 kq a0 x4_1 x5_1 x10_1 (a0.size : Int) x10_1 x24_2 = some (r1, r2)) ∧ Aside0 (kq ≤ k1) ∧ Aside0 (Kd.R (Kd.int .i64) 3 wc w.heap.size (fun _ => True) u4 x4_1) ∧ Aside0 (Below w.heap.size w wc))
        case first =>
          have H := HC3.out
          clear HC3
          by_cases c4 : x6_1 = true
          · subst c4
            have H1 : (oid_numbers.j1 k1 a0 x4_1 x5_1 x10_1 (a0.size : Int) x10_1 (decide (x5_1 > 2147483647))) = some (r1, r2) := by rw [if_pos rfl] at H; exact H
            clear H
            have H := H1
            clear H1
            have H' := Aside0.mk H
            clear H
            go_wp2
            go_meet
            case rel => exact ⟨_, (decide (x5_1 > 2147483647)), (by first | rfl | (simp; done) | (simp [*]; done)), H', ⟨by have := HK1.out; first | omega | exact Nat.le_refl _⟩, ⟨by (with_reducible repeat (first | apply Kd.R_alloc | apply Kd.R_drewN | apply Kd.R_drew)); exact HO_4.out⟩, ⟨by repeat (first | (with_reducible first | exact HB.out | apply below_alloc | apply pw_below_drewN | apply below_drew1) | exact HB.out)⟩⟩
          · replace c4 := Bool.eq_false_iff.mpr c4
            subst c4
            have H1 : (if 0 ≤ x10_1 then (if x10_1 < (a0.size : Int) then (if (bt a0 x10_1) = 128 then (oid_numbers.j1 k1 a0 x4_1 x5_1 x10_1 (a0.size : Int) x10_1 true) else (oid_numbers.j1 k1 a0 x4_1 x5_1 x10_1 (a0.size : Int) x10_1 (decide (x5_1 > 2147483647)))) else (none)) else (none)) = some (r1, r2) := by rw [if_neg (show ¬ (false = true) by decide)] at H; exact H
            clear H
            have H := H1
            clear H1
            by_cases c5 : 0 ≤ x10_1
            · rw [if_pos c5] at H
              have c5b0 : decide (0 ≤ x10_1) = true := decide_eq_true c5
              clear c5
              (first | rw [c5b0] | (simp only [i64_w, i32_w]; rw [c5b0]) | skip)
              by_cases c6 : x10_1 < (a0.size : Int)
              · rw [if_pos c6] at H
                have c6b0 : decide (x10_1 < (a0.size : Int)) = true := decide_eq_true c6
                clear c6
                by_cases c8 : (bt a0 x10_1) = 128
                · rw [if_pos c8] at H
                  have c8b0 : ((bt a0 x10_1) == 128) = true := beq_iff_eq.mpr c8
                  have c8b1 : ((bt a0 x10_1) != 128) = false := bne_eq_false_iff_eq.mpr c8
                  clear c8
                  have H' := Aside0.mk H
                  clear H
                  have p7 : 0 ≤ (x10_1 : Int) := of_decide_eq_true (by first | (with_reducible assumption) | assumption)
                  have q7 : x10_1 < (a0.size : Int) := of_decide_eq_true (by first | (with_reducible assumption) | assumption)
                  have hx7 := bt_at a0 x10_1
                  replace p7 := eq_true p7
                  replace q7 := eq_true q7
                  go_wp2
                  go_meet
                  case rel => exact ⟨_, (true), (by first | rfl | (simp; done) | (simp [*]; done)), H', ⟨by have := HK1.out; first | omega | exact Nat.le_refl _⟩, ⟨by (with_reducible repeat (first | apply Kd.R_alloc | apply Kd.R_drewN | apply Kd.R_drew)); exact HO_4.out⟩, ⟨by repeat (first | (with_reducible first | exact HB.out | apply below_alloc | apply pw_below_drewN | apply below_drew1) | exact HB.out)⟩⟩
                · rw [if_neg c8] at H
                  have c8b0 : ((bt a0 x10_1) == 128) = false := beq_eq_false_iff_ne.mpr c8
                  have c8b1 : ((bt a0 x10_1) != 128) = true := bne_iff_ne.mpr c8
                  have H' := Aside0.mk H
                  clear H
                  have p7 : 0 ≤ (x10_1 : Int) := of_decide_eq_true (by first | (with_reducible assumption) | assumption)
                  have q7 : x10_1 < (a0.size : Int) := of_decide_eq_true (by first | (with_reducible assumption) | assumption)
                  have hx7 := bt_at a0 x10_1
                  replace p7 := eq_true p7
                  replace q7 := eq_true q7
                  go_wp2
                  go_meet
                  case rel => exact ⟨_, (decide (x5_1 > 2147483647)), (by first | rfl | (simp; done) | (simp [*]; done)), H', ⟨by have := HK1.out; first | omega | exact Nat.le_refl _⟩, ⟨by (with_reducible repeat (first | apply Kd.R_alloc | apply Kd.R_drewN | apply Kd.R_drew)); exact HO_4.out⟩, ⟨by repeat (first | (with_reducible first | exact HB.out | apply below_alloc | apply pw_below_drewN | apply below_drew1) | exact HB.out)⟩⟩
              · rw [if_neg c6] at H
                exact absurd H (by simp)
            · rw [if_neg c5] at H
              exact absurd H (by simp)
        case rest =>
          clear HC3
          try clear c2
          try clear c2b0
          try clear p2
          try clear c4
          try clear c5
          try clear c5b0
          try clear c6
          try clear c6b0
          try clear p7
          try clear q7
          try clear hx7
          try clear c8
          try clear c8b0
          try clear c8b1
          try clear p7
          try clear q7
          obtain ⟨kq, x24_2, rfl, HA, HJ2, HO_4, HB⟩ := hcut
          cases kq with
          | zero => exact absurd HA.out (by simp [oid_numbers.j1])
          | succ kj2 =>
            have H := HA.out
            clear HA
            simp only [oid_numbers.j1] at H
            by_cases c9 : x24_2 = true
            · subst c9
              have H1 : (some (([] : List Int), false)) = some (r1, r2) := by rw [if_pos rfl] at H; exact H
              clear H
              have H := H1
              clear H1
              simp only [Option.some.injEq, Prod.mk.injEq] at H
              obtain ⟨rfl, rfl⟩ := H
              go_wp2
              go_ret2
              exact ⟨_, by first | rfl | (simp [errW_none, errW_some] <;> rfl) | (simp [*, errW_none, errW_some] <;> rfl), by first | exact Kd.R_nil _ _ _ _ _ | exact Kd.N_nil _ _ _ _ _ | exact Kd.V_nil _ _ _ _ _ | exact Kd.Q_nil _ _ _ _ _ | exact Kd.S_nil _ _ _ _ _, by repeat (first | (with_reducible first | exact HB.out | apply below_alloc | apply pw_below_drewN | apply below_drew1) | exact HB.out)⟩
            · replace c9 := Bool.eq_false_iff.mpr c9
              subst c9
              have H1 : (if 0 ≤ x10_1 then (if x10_1 < (a0.size : Int) then (if ((bt a0 x10_1) ≥ 128) then (oid_numbers.l0 kj2 a0 x4_1 (Go.bits .or .i64 (wrap64 (x5_1 * 128)) (wrap64 (Go.bits .and .u8 (bt a0 x10_1) 127))) (decide ((bt a0 x10_1) ≥ 128)) (a0.size : Int) (wrap64 (x10_1 + 1))) else (if x4_1.length < 17592186044416 then (oid_numbers.l0 kj2 a0 (x4_1 ++ [Go.bits .or .i64 (wrap64 (x5_1 * 128)) (wrap64 (Go.bits .and .u8 (bt a0 x10_1) 127))]) 0 (decide ((bt a0 x10_1) ≥ 128)) (a0.size : Int) (wrap64 (x10_1 + 1))) else (none))) else (none)) else (none)) = some (r1, r2) := by rw [if_neg (show ¬ (false = true) by decide)] at H; exact H
              clear H
              have H := H1
              clear H1
              by_cases c10 : 0 ≤ x10_1
              · rw [if_pos c10] at H
                have c10b0 : decide (0 ≤ x10_1) = true := decide_eq_true c10
                clear c10
                by_cases c11 : x10_1 < (a0.size : Int)
                · rw [if_pos c11] at H
                  have c11b0 : decide (x10_1 < (a0.size : Int)) = true := decide_eq_true c11
                  clear c11
                  by_cases c14 : ((bt a0 x10_1) ≥ 128)
                  · rw [if_pos c14] at H
                    have c14b0 : decide (128 ≤ (bt a0 x10_1)) = true := decide_eq_true c14
                    clear c14
                    have H' := Aside0.mk H
                    clear H
                    have p12 : 0 ≤ (x10_1 : Int) := of_decide_eq_true (by first | (with_reducible assumption) | assumption)
                    have q12 : x10_1 < (a0.size : Int) := of_decide_eq_true (by first | (with_reducible assumption) | assumption)
                    have hx12 := bt_at a0 x10_1
                    replace p12 := eq_true p12
                    replace q12 := eq_true q12
                    have p13 : 0 ≤ (x10_1 : Int) := of_decide_eq_true (by first | (with_reducible assumption) | assumption)
                    have q13 : x10_1 < (a0.size : Int) := of_decide_eq_true (by first | (with_reducible assumption) | assumption)
                    have hx13 := bt_at a0 x10_1
                    replace p13 := eq_true p13
                    replace q13 := eq_true q13
                    go_wp2
                    go_roundg kj2
                    case measure => have := HK1.out; have := HJ2.out; omega
                    case rel => exact ⟨(x4_1), (Go.bits .or .i64 (wrap64 (x5_1 * 128)) (wrap64 (Go.bits .and .u8 (bt a0 x10_1) 127))), (decide ((bt a0 x10_1) ≥ 128)), (wrap64 (x10_1 + 1)), (by first | rfl | (simp; done) | (simp [*]; done)), (by first | rfl | (simp; done) | (simp [*]; done)), (by first | rfl | (simp; done) | (simp [*]; done)), H', ⟨by have := HK1.out; have := HJ2.out; omega⟩, ⟨by (with_reducible repeat (first | apply Kd.R_alloc | apply Kd.R_drewN | apply Kd.R_drew)); exact HO_4.out⟩, ⟨by repeat (first | (with_reducible first | exact HB.out | apply below_alloc | apply pw_below_drewN | apply below_drew1) | exact HB.out)⟩⟩
                  · rw [if_neg c14] at H
                    have c14b0 : decide (128 ≤ (bt a0 x10_1)) = false := decide_eq_false c14
                    clear c14
                    by_cases c15 : x4_1.length < 17592186044416
                    · rw [if_pos c15] at H
                      have LMc15 := Aside0.mk c15
                      clear c15
                      obtain ⟨y108, hy108⟩ : ∃ y_ : List Int, y_ = (x4_1 ++ [Go.bits .or .i64 (wrap64 (x5_1 * 128)) (wrap64 (Go.bits .and .u8 (bt a0 x10_1) 127))]) := ⟨_, rfl⟩
                      replace H : (oid_numbers.l0 kj2 a0 y108 0 (decide ((bt a0 x10_1) ≥ 128)) (a0.size : Int) (wrap64 (x10_1 + 1))) = some (r1, r2) := by first | (rw [hy108]; with_reducible exact H) | (have H2_ := (Option.bind_some _ _).symm.trans H; rw [hy108]; with_reducible exact H2_) | (have H2_ := (Option.bind_some _ _).symm.trans H; with_reducible exact H2_) | with_reducible exact H | (rw [hy108]; exact H) | exact H
                      have Ny108 := Aside0.mk hy108
                      clear hy108
                      have H' := Aside0.mk H
                      clear H
                      have p12 : 0 ≤ (x10_1 : Int) := of_decide_eq_true (by first | (with_reducible assumption) | assumption)
                      have q12 : x10_1 < (a0.size : Int) := of_decide_eq_true (by first | (with_reducible assumption) | assumption)
                      have hx12 := bt_at a0 x10_1
                      replace p12 := eq_true p12
                      replace q12 := eq_true q12
                      have p13 : 0 ≤ (x10_1 : Int) := of_decide_eq_true (by first | (with_reducible assumption) | assumption)
                      have q13 : x10_1 < (a0.size : Int) := of_decide_eq_true (by first | (with_reducible assumption) | assumption)
                      have hx13 := bt_at a0 x10_1
                      replace p13 := eq_true p13
                      replace q13 := eq_true q13
                      go_wp2_with (first | ((with_reducible refine gate_builtin (b := .append) (xs := #[.tmp 39, .tmp 41]) rfl ?_); (try (refine gate_guard (by rfl) ?_; dsimp only)); at_builtin; refine Kd.R_append (Kd.int .i64) (w0 := w) w.heap.size rfl (.tmp 39) (.tmp 41) 22 3 (.int .i64 0) 8 rfl Tryd.underlying22 info3 rfl (by decide) (by omega) u4 x4_1 (Go.bits .or .i64 (wrap64 (x5_1 * 128)) (wrap64 (Go.bits .and .u8 (bt a0 x10_1) 127))) [.int .i64 (Go.bits .or .i64 (wrap64 (x5_1 * 128)) (wrap64 (Go.bits .and .u8 (bt a0 x10_1) 127)))] (fun _ => True) (fun _ => False) rfl rfl ?aP (fun _ hk => hk.elim) ?aF ?aO ?aB ?aS ?aL ?_; (case aP => exact rfl); (case aB => exact (by repeat (first | (with_reducible first | exact HB.out | apply below_alloc | apply pw_below_drewN | apply below_drew1) | exact HB.out))); (case aF => exact (fun _ _ => trivial)); (case aO => exact (by (with_reducible repeat (first | apply Kd.R_alloc | apply Kd.R_drewN | apply Kd.R_drew)); exact HO_4.out)); (case aS => exact (below_size (by repeat (first | (with_reducible first | exact HB.out | apply below_alloc | apply pw_below_drewN | apply below_drew1) | exact HB.out)))); (case aL => have := LMc15.out; omega); intro v109 w16 ho hb hg hat; rw [← Ny108.out] at ho; have n0_ := Aside0.mk (hb); have n1_ := Aside0.mk (ho); clear HB; clear HO_4; have HB := n0_; have HO110 := n1_; clear n0_ n1_; clear ho hb hg hat))
                      go_roundg kj2
                      case measure => have := HK1.out; have := HJ2.out; omega
                      case rel => exact ⟨(y108), (0), (decide ((bt a0 x10_1) ≥ 128)), (wrap64 (x10_1 + 1)), (by first | rfl | (simp; done) | (simp [*]; done)), (by first | rfl | (simp; done) | (simp [*]; done)), (by first | rfl | (simp; done) | (simp [*]; done)), H', ⟨by have := HK1.out; have := HJ2.out; omega⟩, ⟨by (with_reducible repeat (first | apply Kd.R_alloc | apply Kd.R_drewN | apply Kd.R_drew)); exact HO110.out⟩, ⟨by repeat (first | (with_reducible first | exact HB.out | apply below_alloc | apply pw_below_drewN | apply below_drew1) | exact HB.out)⟩⟩
                    · rw [if_neg c15] at H
                      exact absurd H (by simp)
                · rw [if_neg c11] at H
                  exact absurd H (by simp)
              · rw [if_neg c10] at H
                exact absurd H (by simp)
      · rw [if_neg c2] at H
        have c2b0 : decide (x10_1 < (a0.size : Int)) = false := decide_eq_false c2
        clear c2
        by_cases c17 : x6_1 = true
        · subst c17
          have H1 : (some (x4_1, false)) = some (r1, r2) := by rw [if_pos rfl] at H; exact H
          clear H
          have H := H1
          clear H1
          simp only [Option.some.injEq, Prod.mk.injEq] at H
          obtain ⟨rfl, rfl⟩ := H
          go_wp2
          go_ret2
          exact ⟨_, by first | rfl | (simp [errW_none, errW_some] <;> rfl) | (simp [*, errW_none, errW_some] <;> rfl), by (with_reducible repeat (first | apply Kd.R_alloc | apply Kd.R_drewN | apply Kd.R_drew)); exact HO_4.out, by repeat (first | (with_reducible first | exact HB.out | apply below_alloc | apply pw_below_drewN | apply below_drew1) | exact HB.out)⟩
        · replace c17 := Bool.eq_false_iff.mpr c17
          subst c17
          have H1 : (if (x4_1.length : Int) > 0 then (some (x4_1, decide ((x4_1.length : Int) < 20))) else (some (x4_1, false))) = some (r1, r2) := by rw [if_neg (show ¬ (false = true) by decide)] at H; exact H
          clear H
          have H := H1
          clear H1
          by_cases c18 : (x4_1.length : Int) > 0
          · rw [if_pos c18] at H
            have c18b0 : decide (0 < (x4_1.length : Int)) = true := decide_eq_true c18
            have c18b1 : decide (0 < x4_1.length) = true := decide_eq_true (by omega)
            clear c18
            simp only [Option.some.injEq, Prod.mk.injEq] at H
            obtain ⟨rfl, rfl⟩ := H
            obtain ⟨Ao19, co19, eo19⟩ := Kd.R_slice HO_4.out
            subst eo19
            go_wp2
            go_ret2
            exact ⟨_, by first | rfl | (simp [errW_none, errW_some] <;> rfl) | (simp [*, errW_none, errW_some] <;> rfl), by (with_reducible repeat (first | apply Kd.R_alloc | apply Kd.R_drewN | apply Kd.R_drew)); exact HO_4.out, by repeat (first | (with_reducible first | exact HB.out | apply below_alloc | apply pw_below_drewN | apply below_drew1) | exact HB.out)⟩
          · rw [if_neg c18] at H
            have c18b0 : decide (0 < (x4_1.length : Int)) = false := decide_eq_false c18
            have c18b1 : decide (0 < x4_1.length) = false := decide_eq_false (by omega)
            clear c18
            simp only [Option.some.injEq, Prod.mk.injEq] at H
            obtain ⟨rfl, rfl⟩ := H
            obtain ⟨Ao20, co20, eo20⟩ := Kd.R_slice HO_4.out
            subst eo20
            go_wp2
            go_ret2
            exact ⟨_, by first | rfl | (simp [errW_none, errW_some] <;> rfl) | (simp [*, errW_none, errW_some] <;> rfl), by (with_reducible repeat (first | apply Kd.R_alloc | apply Kd.R_drewN | apply Kd.R_drew)); exact HO_4.out, by repeat (first | (with_reducible first | exact HB.out | apply below_alloc | apply pw_below_drewN | apply below_drew1) | exact HB.out)⟩

end Go.Proofs.YtjkhfognncadbaaDoor.POidBack
