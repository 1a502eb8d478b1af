-- laid by a program out of the translation and of templates; not trusted: Lean checks it
import Derived.Test.YtlmldmeclgfoeaaGreatDoorPCurveTellsx0
import Derived.Test.YtlmldmeclgfoeaaGreatDoorPCurveTellsx1
import Derived.Test.YtlmldmeclgfoeaaGreatDoorPCurveTellsx2
import Derived.LaidLaws
import Derived.Lib.AtoiAllCases
import Derived.Lib.LaidU8
import Derived.LoopIn
import Derived.LoopNIn
import Derived.MakeChecks
import Derived.Maps.AppendAt
import Derived.OwnWalkIn
import Derived.RangeFuncBound
import Derived.RangeFuncBox
import Derived.RangeFuncCalls
import Derived.RangeFuncLeaves
import Derived.RangeFuncNested
import Derived.RangeFuncWrites
import Derived.Shelf.Abstract
import Derived.Shelf.RegionOpen
import Derived.TacticsInMore
import Derived.Test.YtlmldmeclgfoeaaGreatDoorShelf
import Derived.WalkKit
namespace Go.Proofs.YtlmldmeclgfoeaaGreatDoor.PCurveTells
open Go.RowKit Go.Proofs.YtlmldmeclgfoeaaGreatDoorW.PrintWords Go.Proofs.YtlmldmeclgfoeaaGreatDoorW.PrintLast Go.Proofs.YtlmldmeclgfoeaaGreatDoorW.PrintMore
attribute [local go_sem high] c_add c_eql c_neq
attribute [local go_sem] str_leq str_gtr str_geq max2_int min2_int max_two min_two max_three min_three max_four min_four   -- for this text's walks alone
set_option linter.unusedVariables false
set_option linter.unusedSimpArgs false

attribute [local go_sem] fld36_1
/-! ### digits_Unnum: function 37 (a text given by hand: oid.tmpl) -/
-- @import Derived.Test.YtlmldmeclgfoeaaGreatDoorShelf
-- @import Derived.Lib.LaidU8
-- @import Derived.LaidLaws
-- @import Derived.MakeChecks
-- @import Derived.Lib.AtoiAllCases
/-- A listed error's variable holds an interface value that is not nil. -/
theorem digits_Unnum.err {w : World} {name : String} {d : DataW Unit} {nm : String} {ti : TypeId} {ms : Array (String × TypeId)} {gn : Nat} (h : TB w) (hm : (name, DataW.iface nm d) ∈ Rows.curveTellsRow.laid) (hg : Tryz.prog.globalNamed name = some gn)
    (ht : (Tryz.prog.globals[gn]?).map (·.type) = some ti) (hi : Tryz.prog.underlying ti = some (.interface ms)) : ∃ t p, w.cell? ⟨gn, 0, none⟩ = some (.iface t p) := by
  obtain ⟨W, hW, hB⟩ := h
  rw [MakeChecks.laidMetH_plain _ _ _ (by kernel_rfl)] at hW
  obtain ⟨g', t', cs, fuel, p, hg', ht', hvar, hd⟩ := Lib.laidMet.reads hW hm
  obtain rfl := Option.some.inj (hg.symm.trans hg')
  obtain rfl := Option.some.inj (ht.symm.trans ht')
  obtain ⟨f', u, v, hc, _, _⟩ := iface_of_trod hi hd
  have h0 := World.var?_cell hg hvar 0
  have hcs : cs = #[.iface u v] := by
    rw [← Array.toList_inj]
    exact hc
  rw [hcs] at h0
  have h1 : W.cell? ⟨gn, 0, none⟩ = some (.iface u v) := by simpa using h0
  exact ⟨u, v, (hB.cell (World.block_lt_of_cell? _ _ h1)).trans h1⟩
theorem digits_Unnum.syn {w : World} (h : TB w) : ∃ t p, w.cell? ⟨3, 0, none⟩ = some (.iface t p) :=
  digits_Unnum.err h (show ("strconv.ErrSyntax", Rows.laid_strconv_ErrSyntax) ∈ Rows.curveTellsRow.laid by repeat (first | exact List.mem_cons_self | apply List.mem_cons_of_mem)) (by kernel_rfl) (by kernel_rfl) Tryz.underlying73
theorem digits_Unnum.ran {w : World} (h : TB w) : ∃ t p, w.cell? ⟨4, 0, none⟩ = some (.iface t p) :=
  digits_Unnum.err h (show ("strconv.ErrRange", Rows.laid_strconv_ErrRange) ∈ Rows.curveTellsRow.laid by repeat (first | exact List.mem_cons_self | apply List.mem_cons_of_mem)) (by kernel_rfl) (by kernel_rfl) Tryz.underlying73
theorem digits_Unnum.bw {w w' : World} {e : TypeId} (h : w' = w ∨ ∃ t, w' = Lib.bytesWorld w e t) : Below w.heap.size w w' := by
  rcases h with rfl | ⟨t, rfl⟩
  · exact Below.refl _ _
  · exact bytes_below (Below.refl _ _) (Nat.le_refl _) _ _
def digits_Unnum.of (a0 : ByteArray) : Int × Bool := match Lib.atoiAll a0.data.toList with
  | .ok v => if (⟨(Lib.itoa v).toArray⟩ : ByteArray).toList = a0.toList then (v, true) else (0, false)
  | _ => (0, false)
def digits_Unnum.f (a0 : ByteArray) : Option (Int × Bool) := if a0.size ≤ 281474976710656 then some (digits_Unnum.of a0) else none
set_option maxHeartbeats 8000000 in
set_option maxRecDepth 100000 in
theorem digits_Unnum.calls (a0 : ByteArray) (r1 : Int) (r2 : Bool) (w : World) (HT_ : Aside0 (TB w)) (h : digits_Unnum.f a0 = some (r1, r2)) :
    Calls Tryz.prog 37 #[.string a0] w fun e w' => e = .returned (.tuple #[.int .i64 r1, .bool r2]) ∧ Below w.heap.size w w' := by
  unfold digits_Unnum.f at h
  split at h
  case isFalse => cases h
  rename_i hs
  have hs2 : a0.size ≤ 9223372036854775806 := by omega
  have h0 := Option.some.inj h
  clear h
  have HS := Aside0.mk hs
  have HS2 := Aside0.mk hs2
  clear hs hs2
  unfold digits_Unnum.of at h0
  cases hq : Lib.atoiAll a0.data.toList with
  | ok v =>
    rw [hq] at h0
    dsimp only at h0
    have HQ := Aside0.mk hq
    have HV := Aside0.mk (Lib.atoiAll_bounds hq)
    clear hq
    have hn : digits_Num.f v = some (⟨(Lib.itoa v).toArray⟩ : ByteArray) := by
      unfold digits_Num.f strconv_Itoa.f
      rw [if_pos HV.out]
      rfl
    have HN := Aside0.mk hn
    clear hn
    generalize (⟨(Lib.itoa v).toArray⟩ : ByteArray) = x at HN h0
    by_cases he : x.toList = a0.toList
    · rw [if_pos he] at h0
      cases h0
      have c29b0 : (x.toList == a0.toList) = true := beq_iff_eq.mpr he
      clear he
      go_enter Tryz.func37, Tryz.ntmps37
      go_wp2_with (first | (go_at_call 54; refine (Tryz.strconv_Atoi_ok a0 HS2.out _ HQ.out _).mono ?_; rintro e w3 ⟨rfl, hw⟩; have HB := Aside0.mk (digits_Unnum.bw hw); clear hw) | (go_at_call 32; refine (digits_Num.calls _ _ _ ⟨TB.below HT_.out HB.out⟩ HN.out).mono ?_; rintro e w4 ⟨rfl, hb⟩; have HC := Aside0.mk (below_step HB.out hb); clear hb))
      go_ret2
      exact ⟨rfl, HC.out⟩
    · rw [if_neg he] at h0
      cases h0
      have c29b0 : (x.toList == a0.toList) = false := beq_eq_false_iff_ne.mpr he
      clear he
      go_enter Tryz.func37, Tryz.ntmps37
      go_wp2_with (first | (go_at_call 54; refine (Tryz.strconv_Atoi_ok a0 HS2.out _ HQ.out _).mono ?_; rintro e w3 ⟨rfl, hw⟩; have HB := Aside0.mk (digits_Unnum.bw hw); clear hw) | (go_at_call 32; refine (digits_Num.calls _ _ _ ⟨TB.below HT_.out HB.out⟩ HN.out).mono ?_; rintro e w4 ⟨rfl, hb⟩; have HC := Aside0.mk (below_step HB.out hb); clear hb))
      go_ret2
      exact ⟨rfl, HC.out⟩
  | «syntax» =>
    rw [hq] at h0
    cases h0
    have HQ := Aside0.mk hq
    clear hq
    obtain ⟨t, p, hc⟩ := digits_Unnum.syn HT_.out
    have HC := Aside0.mk hc
    clear hc
    go_enter Tryz.func37, Tryz.ntmps37
    go_wp2_with (go_at_call 54; refine (Tryz.strconv_Atoi_syntax a0 HS.out HQ.out _ _ HC.out (Or.inr ⟨_, _, rfl⟩)).mono ?_; rintro e w3 ⟨N9, rfl, _, _, hb⟩; have HB := Aside0.mk hb; clear hb)
    go_ret2
    exact ⟨rfl, HB.out⟩
  | range =>
    rw [hq] at h0
    cases h0
    have HQ := Aside0.mk hq
    clear hq
    obtain ⟨t, p, hc⟩ := digits_Unnum.ran HT_.out
    have HC := Aside0.mk hc
    clear hc
    go_enter Tryz.func37, Tryz.ntmps37
    go_wp2_with (go_at_call 54; refine (Tryz.strconv_Atoi_range a0 HS.out HQ.out _ _ HC.out (Or.inr ⟨_, _, rfl⟩)).mono ?_; rintro e w3 ⟨N9, rfl, _, _, hb⟩; have HB := Aside0.mk hb; clear hb)
    go_ret2
    exact ⟨rfl, HB.out⟩

/-! ### oid_Parse: function 26 (a text given by hand: oid.tmpl) -/
-- @import Derived.Test.YtlmldmeclgfoeaaGreatDoorShelf
-- @import Derived.RangeFuncNested
-- @import Derived.RangeFuncBound
-- @import Derived.RangeFuncCalls
-- @import Derived.RangeFuncLeaves
-- @import Derived.RangeFuncWrites
-- @import Derived.RangeFuncBox
-- @import Derived.Shelf.Abstract
-- @import Derived.Shelf.RegionOpen
-- @import Derived.WalkKit
-- @import Derived.OwnWalkIn
-- @import Derived.TacticsInMore
-- @import Derived.LoopNIn
-- @import Derived.LoopIn
-- @import Derived.Maps.AppendAt
section
open Go.Shelf
attribute [local go_sem] Oper.semAt_some
section
variable {F : Fence} {n : Nat} {P : Program}
theorem setCell_at (W : World) (B l : Nat) (v : Value) (h : l ≠ B) : (W.setCell ⟨B, 0, none⟩ v).heap[l]? = W.heap[l]? := Below.heap_setCell W ⟨B, 0, none⟩ v l h
/-- A range over an iterator that writes one box of its own (Bs) between two rounds: the caller's word between rounds abides that box's turn too. -/
theorem wpIn_rangeFunc_box {α : Type} {g : Operand} {ps : Array Tmp} {assign body : Code} {Q : Exit → Act → World → Prop} {a : Act} {w : World}
    (hro : F.round = none) (h1 : 1 ≤ n) {gf : Nat} {lb : Array Value} (hg : a.eval g = .func (.func gf) #[] lb) (hFg : F.fn gf) (eg : ∀ args w, (callFunc gf args).run P w = .ok (.enter gf args) w)
    {encs : α → Array Value} {Kp : World → World → Prop} {S Sp : List α → Prop} {N : Nat} {Bs : Nat} (hBs : Bs < w.heap.size)
    (hseq : ∀ (l : Nat) (J Jx : List α → World → Prop) (W : World), Below w.heap.size w W → (∀ pre A v, J pre A → J pre (A.setCell ⟨Bs, 0, none⟩ v)) →
      (∀ pre x W1, J pre W1 → pre.length < N → YieldAt F (n - 1 - 1) P l (encs x) W1 fun e W' =>
        (e = .returned (.bool true) ∧ J (pre ++ [x]) W' ∧ Kp W1 W') ∨ (e = .returned (.bool false) ∧ Jx (pre ++ [x]) W')) →
      J [] W → CallsIn F (n - 1) P gf (#[.func (.yield l) #[] #[]] ++ lb) W fun e W' => (∃ v, e = .returned v) ∧ ((∃ xs, S xs ∧ J xs W') ∨ (∃ pre, Sp pre ∧ Jx pre W')))
    (hKt : ∀ {A B C : World}, Kp A B → Kp B C → Kp A C) (hKb : ∀ (W : World) (l : Nat) (o o' : Obj), w.heap.size ≤ l → W.heap[l]? = some o → o.isCells = false → o.isWalk = false → Kp W (W.putObj l o')) (hps : ∀ x, (encs x).size = ps.size)
    (I : List α → World → Prop) (Ix : Code → List α → World → Prop) (hI : OwnFrom w.heap.size I) (hIs : ∀ pre A v, I pre A → I pre (A.setCell ⟨Bs, 0, none⟩ v)) (hIx : ∀ c, OwnFrom w.heap.size (Ix c)) (h0 : I [] w) (a₁ : α → Act)
    (hassign : ∀ (l : Nat) (x : α) (W : World) (K : Act → World → Prop), K (a₁ x) W →
      assign.wpIn (F.inRound l) (n - 1 - 1) P (Exit.then K (fun _ _ _ => False)) { tmps := (ps.zip (encs x)).foldl (fun t (p, v) => t.setIfInBounds p v) a.tmps, defers := [] } W)
    (hbody : ∀ (l : Nat) (pre : List α) (x : α) (W : World), I pre W → pre.length < N → body.wpIn (F.inRound l) (n - 1 - 1) P (ownPostG w.heap.size Kp I Ix (pre ++ [x]) W) (a₁ x) W)
    (hdone : ∀ (D : Nat) (xs : List α) (W : World), w.heap.size ≤ D → S xs → I xs W → W.heap[D]? = some (.deferred (some [])) → Q .normal { a with defers := { target := .collected D, args := #[] } :: a.defers } W)
    (hstop : ∀ (D : Nat) (c : Code) (pre : List α) (W : World), w.heap.size ≤ D → Sp pre → Ix c pre W → W.heap[D]? = some (.deferred (some [])) → c.wpIn F n P Q { a with defers := { target := .collected D, args := #[] } :: a.defers } W) :
    (Code.rangeFunc g ps assign body).wpIn F n P Q a w := by
  refine wpIn_rangeFunc (fun fn hfn => ?_)
  rw [hro]
  let L : LoopState → Option Code → Loop := fun st pe => { state := st, pending := pe, fn, tmps := a.tmps, params := ps, assign, body, defers := w.heap.size }
  obtain ⟨W1, hW1⟩ : ∃ W1, (w.alloc (.deferred (some []))).alloc (.loop (L .ready none)) = W1 := ⟨_, rfl⟩
  have hb : Below w.heap.size w W1 := by rw [← hW1]; exact ((Below.refl w.heap.size w).alloc (by omega) _).alloc (by simp) _
  -- what the law keeps of its own two blocks
  let bk : LoopState → Option Code → World → Prop := fun st pe W => W.heap[w.heap.size + 1]? = some (.loop (L st pe)) ∧ W.heap[w.heap.size]? = some (.deferred (some []))
  have hk1 : bk .ready none W1 := by
    have e1 := World.alloc_heap_new (w.alloc (.deferred (some []))) (.loop (L .ready none))
    rw [World.size_alloc] at e1
    have e2 := World.alloc_heap_new w (.deferred (some []))
    rw [← hW1]
    exact ⟨e1, (Below.heap_alloc _ _ _ (by simp)).trans e2⟩
  have hset : ∀ st pe W v, bk st pe W → bk st pe (W.setCell ⟨Bs, 0, none⟩ v) := fun st pe W v h => ⟨(setCell_at W Bs (w.heap.size + 1) v (by omega)).trans h.1, (setCell_at W Bs w.heap.size v (by omega)).trans h.2⟩
  have hput : ∀ st pe st' pe' W, bk st pe W → bk st' pe' (W.putObj (w.heap.size + 1) (.loop (L st' pe'))) := fun st pe st' pe' W h =>
    ⟨World.putObj_heap_same (Array.getElem?_eq_some_iff.1 h.1).1, (World.putObj_heap_other (by omega)).trans h.2⟩
  refine ⟨w.heap.size + 1, [{ target := .collected w.heap.size, args := #[] }], W1, { target := .fn (.func gf) lb, args := #[.func (.yield (w.heap.size + 1)) #[] #[]] }, W1, gf, #[.func (.yield (w.heap.size + 1)) #[] #[]] ++ lb, W1, ?_, ?_, ?_, ?_, fun _ => h1, ?_⟩
  · rw [← hW1]; exact run_enterLoop_outer _ _ _ _ _
  · simp only [resolve, hg]
    simp [go_sem]
  · intro f' hf'
    simp [Target.leads] at hf'
    subst hf'
    exact hFg
  · simp [invoke, go_sem, eg]
  refine (hseq (w.heap.size + 1) (fun pre W => I pre W ∧ bk .ready none W) (fun pre W => ∃ c, Ix c pre W ∧ bk .done (some c) W) W1 hb (fun pre A v h => ⟨hIs pre A v h.1, hset _ _ _ _ h.2⟩) ?_ ⟨by rw [← hW1]; exact hI.alloc _ (hI.alloc _ h0), hk1⟩).mono ?_
  · rintro pre x W ⟨hi, hl⟩ hlen
    refine ⟨fn, _, assign, body, run_yield (P := P) (args := encs x) hl.1 (hps x), roundIn_of_wpIn hfn (hassign _ x W _ ⟨_, run_beginRound hl.1 rfl, ?_⟩)⟩
    have hb2 : bk .busy none (W.putObj (w.heap.size + 1) (.loop (L .busy none))) := hput _ _ _ _ _ hl
    refine wpIn_mono (hbody _ pre x _ (hI.putObj _ hi (by omega) hl.1 rfl) hlen) ?_
    have fin : ∀ (jump : Option Code) (W3 : World), KeepsFrom w.heap.size (W.putObj (w.heap.size + 1) (.loop (L .busy none))) W3 → bk .busy none W3 ∧
        (Instr.endRound (w.heap.size + 1) jump).run P W3 = .ok (.bool jump.isNone) (W3.putObj (w.heap.size + 1) (.loop (L (if jump.isNone then .ready else .done) jump))) := fun jump W3 hk3 => by
      have h3 : bk .busy none W3 := ⟨hk3.same _ _ (by omega) hb2.1 rfl, hk3.same _ _ (Nat.le_refl _) hb2.2 rfl⟩
      exact ⟨h3, run_endRound (P := P) jump h3.1⟩
    rintro e a3 W3 hp
    match e, hp with
    | .normal, ⟨hk3, hkp3, hi3⟩ =>
      obtain ⟨h3, hr⟩ := fin none W3 hk3
      exact ⟨_, _, hr, .inl ⟨rfl, ⟨hI.putObj _ hi3 (by omega) h3.1 rfl, hput _ _ _ _ _ h3⟩, hKt (hKt (hKb _ _ _ _ (by omega) hl.1 rfl rfl) hkp3) (hKb _ _ _ _ (by omega) h3.1 rfl rfl)⟩⟩
    | .ret, ⟨hk3, hi3⟩ =>
      obtain ⟨h3, hr⟩ := fin (some .ret) W3 hk3
      exact ⟨_, _, hr, .inr ⟨rfl, .ret, (hIx _).putObj _ hi3 (by omega) h3.1 rfl, hput _ _ _ _ _ h3⟩⟩
    | .exit id, ⟨hk3, hi3⟩ =>
      obtain ⟨h3, hr⟩ := fin (some (.exit id)) W3 hk3
      exact ⟨_, _, hr, .inr ⟨rfl, .exit id, (hIx _).putObj _ hi3 (by omega) h3.1 rfl, hput _ _ _ _ _ h3⟩⟩
    | .goto t, ⟨hk3, hi3⟩ =>
      obtain ⟨h3, hr⟩ := fin (some (.goto t)) W3 hk3
      exact ⟨_, _, hr, .inr ⟨rfl, .goto t, (hIx _).putObj _ hi3 (by omega) h3.1 rfl, hput _ _ _ _ _ h3⟩⟩
  · rintro e W2 ⟨⟨v, rfl⟩, (⟨xs, hS, hi, hl⟩ | ⟨pre, hSp, c, hi, hl⟩)⟩
    · exact ⟨none, _, run_endLoop (P := P) hl.1 (by simp [L]), hdone _ xs _ (by omega) hS (hI.putObj _ hi (by omega) hl.1 rfl) ((World.putObj_heap_other (by omega)).trans hl.2)⟩
    · exact ⟨some c, _, run_endLoop (P := P) hl.1 (by simp [L]), hstop _ c pre _ (by omega) hSp ((hIx c).putObj _ hi (by omega) hl.1 rfl) ((World.putObj_heap_other (by omega)).trans hl.2)⟩
end
def strAt (W : World) (B : Nat) : Nat := match W.cell? ⟨B, 0, none⟩ with
  | some (.string s) => s.size
  | _ => 0
theorem strAt_of {W : World} {B : Nat} {s : ByteArray} (h : W.cell? ⟨B, 0, none⟩ = some (.string s)) : strAt W B = s.size := by unfold strAt; rw [h]
/-- What a round keeps: the boxes of the text, of what parts it, of how much is saved. -/
def spK (Bp Bs Bv : Nat) (W W' : World) : Prop := ∀ b t v, (b = Bp ∨ b = Bs ∨ b = Bv) → Boxed W b t v → Boxed W' b t v
def dots : List UInt8 → List (List UInt8)
  | [] => [[]]
  | b :: r => if b = 46 then [] :: dots r else match dots r with
    | [] => [[b]]
    | p :: ps => (b :: p) :: ps
theorem dots_ne : ∀ l, dots l ≠ []
  | [] => by simp [dots]
  | b :: r => by
    rw [dots]
    split
    · simp
    · split <;> simp
theorem dots_none : ∀ {l : List UInt8}, Lib.indexByte l 46 < 0 → dots l = [l]
  | [], _ => rfl
  | b :: r, h => by
    rw [Lib.indexByte] at h
    have hg := Lib.indexByte_ge r 46
    by_cases hb : (b == 46) = true
    · rw [if_pos hb] at h; omega
    · rw [if_neg hb] at h
      have hr : Lib.indexByte r 46 < 0 := by
        by_cases h1 : (Lib.indexByte r 46 == -1) = true
        · have := eq_of_beq h1; omega
        · rw [if_neg h1] at h; omega
      rw [dots, if_neg (fun e => hb (by rw [e]; rfl)), dots_none hr]
theorem dots_some : ∀ {l : List UInt8} {i : Nat}, Lib.indexByte l 46 = i → dots l = l.take i :: dots (l.drop (i + 1))
  | [], i, h => by rw [Lib.indexByte] at h; omega
  | b :: r, i, h => by
    rw [Lib.indexByte] at h
    have hg := Lib.indexByte_ge r 46
    by_cases hb : (b == 46) = true
    · rw [if_pos hb] at h
      obtain rfl : i = 0 := by omega
      rw [dots, if_pos (eq_of_beq hb)]
      rfl
    · rw [if_neg hb] at h
      by_cases h1 : (Lib.indexByte r 46 == -1) = true
      · rw [if_pos h1] at h; omega
      · rw [if_neg h1] at h
        obtain ⟨j, hj⟩ : ∃ j : Nat, Lib.indexByte r 46 = j := ⟨(Lib.indexByte r 46).toNat, by have : Lib.indexByte r 46 ≠ -1 := fun e => h1 (by rw [e]; rfl); omega⟩
        obtain rfl : i = j + 1 := by omega
        rw [dots, if_neg (fun e => hb (by rw [e]; rfl)), dots_some hj]
        rfl
set_option maxRecDepth 100000 in
set_option maxHeartbeats 2000000 in
theorem splitSeq1_in (n : Nat) (hn : 1 ≤ n) (l Bp Bs Bv : Nat) (s0 : ByteArray) (hs0 : s0.size ≤ 1000000) (hne1 : Bp ≠ Bs) (hne2 : Bv ≠ Bs) (J Jx : List { s : ByteArray // s.size ≤ 1000000 } → World → Prop)
    (hJs : ∀ pre A v, J pre A → J pre (A.setCell ⟨Bs, 0, none⟩ v))
    (hY : ∀ pre x W, J pre W → pre.length < 1000002 → YieldAt Fence.wide (n - 1) Tryz.prog l #[.string x.1] W fun e W' =>
      (e = .returned (.bool true) ∧ J (pre ++ [x]) W' ∧ spK Bp Bs Bv W W') ∨ (e = .returned (.bool false) ∧ Jx (pre ++ [x]) W'))
    (W : World) (hBp : Boxed W Bp 9 (.string ⟨#[46]⟩)) (hBs : Boxed W Bs 9 (.string s0)) (hBv : Boxed W Bv 3 (.int .i64 0)) (h0 : J [] W) :
    CallsIn Fence.wide n Tryz.prog 64 #[.func (.yield l) #[] #[], .pointer (some ⟨Bp, 0, none⟩), .pointer (some ⟨Bs, 0, none⟩), .pointer (some ⟨Bv, 0, none⟩)] W fun e W' => (∃ v, e = .returned v) ∧
      ((∃ ys, ys.map (fun x => x.1.data.toList) = dots s0.data.toList ∧ J ys W') ∨ (∃ pre, pre.map (fun x => x.1.data.toList) <+: dots s0.data.toList ∧ Jx pre W')) := by
  refine callsIn_of_wp Tryz.func64 rfl trivial ?_ rfl
  simp only [Tryz.ntmps64, List.size_toArray, List.length_cons, List.length_nil, Nat.reduceAdd, Nat.reduceSub, Array.replicate_succ, Array.replicate_zero, List.push_toArray, List.append_toArray, List.nil_append, List.cons_append]
  have hB1 := hBp.cell
  gi_wp2
  gi_loopw [7, 8] (fun _ _ wr => ∃ (pre : List { s : ByteArray // s.size ≤ 1000000 }) (rest : ByteArray), pre.map (fun x => x.1.data.toList) ++ dots rest.data.toList = dots s0.data.toList ∧ pre.length + rest.size ≤ s0.size ∧
      Boxed wr Bs 9 (.string rest) ∧ Boxed wr Bp 9 (.string ⟨#[46]⟩) ∧ Boxed wr Bv 3 (.int .i64 0) ∧ J pre wr)
    (fun _ _ wr => strAt wr Bs)
  case atStart => exact ⟨[], s0, by simp, by simp, hBs, hBp, hBv, h0⟩
  case round =>
    obtain ⟨pre, rest, hpre, hlen, bS, bP, bV, hJ⟩ := hrel
    have hcS := bS.cell
    have hfS := bS.frozen
    have hcP := bP.cell
    have hcV := bV.cell
    have hge := Lib.indexByte_ge rest.data.toList 46
    by_cases hlt : Lib.indexByte rest.data.toList 46 < 0
    · generalize hix : Lib.indexByte rest.data.toList 46 = ix at hge hlt
      have hb0 : decide (ix < 0) = true := decide_eq_true hlt
      obtain ⟨fn, tmps, assign, body, hy, hR⟩ := hY pre ⟨rest, by omega⟩ wr hJ (by omega)
      dsimp only at hy
      gi_wp2_with (refine ⟨trivial, ?_⟩; gi_at_call 65; refine (callsIn_wide.2 (Tryz.strings_Index_one rest 46 _)).mono ?_; rintro e w9 ⟨rfl, rfl⟩; rw [hix])
      have hdots : dots rest.data.toList = [rest.data.toList] := dots_none (by omega)
      refine hR.mono ?_
      rintro e W3 (⟨rfl, hJ3, hk3⟩ | ⟨rfl, hJx3⟩)
      · gi_wp2
        go_end0
        exact ⟨⟨_, rfl⟩, .inl ⟨_, by rw [← hpre, hdots]; simp, hJ3⟩⟩
      · gi_wp2
        go_end0
        exact ⟨⟨_, rfl⟩, .inr ⟨_, by rw [← hpre, hdots]; exact ⟨[], by simp⟩, hJx3⟩⟩
    · generalize hix : Lib.indexByte rest.data.toList 46 = ix at hge hlt
      have hb0 : decide (ix < 0) = false := decide_eq_false hlt
      obtain ⟨i, rfl⟩ : ∃ i : Nat, ix = i := ⟨ix.toNat, by omega⟩
      obtain ⟨hat, _⟩ := Lib.indexByte_some hix
      have hil : i < rest.size := by
        have := (List.getElem?_eq_some_iff.1 hat).1
        have h2 : rest.data.toList.length = rest.size := Array.length_toList
        omega
      have hw0 : wrap64 ((i : Int) + 0) = (i : Int) := by rw [Int.add_zero]; exact (by unfold wrap64; omega)
      have hw1 : wrap64 ((i : Int) + 1) = (i : Int) + 1 := by unfold wrap64; omega
      have hc1 : (0 : Int) ≤ (i : Int) := by omega
      have hc2 : (i : Int) ≤ (rest.size : Int) := by omega
      have hc3 : (0 : Int) ≤ (i : Int) + 1 := by omega
      have hc4 : (i : Int) + 1 ≤ (rest.size : Int) := by omega
      have hxs : (rest.extract 0 i).size ≤ 1000000 := by rw [ByteArray.size_extract]; omega
      have hx1 : (rest.extract 0 i).data.toList = rest.data.toList.take i := by simp
      have hx2 : (rest.extract (i + 1) rest.size).data.toList = rest.data.toList.drop (i + 1) := by
        have h2 : rest.data.toList.length = rest.size := Array.length_toList
        simp [List.take_of_length_le, h2]
      obtain ⟨fn, tmps, assign, body, hy, hR⟩ := hY pre ⟨rest.extract 0 i, hxs⟩ wr hJ (by omega)
      dsimp only at hy
      gi_wp2_with (refine ⟨trivial, ?_⟩; gi_at_call 65; refine (callsIn_wide.2 (Tryz.strings_Index_one rest 46 _)).mono ?_; rintro e w9 ⟨rfl, rfl⟩; rw [hix])
      refine hR.mono ?_
      rintro e W3 (⟨rfl, hJ3, hk3⟩ | ⟨rfl, hJx3⟩)
      · have bS3 := hk3 _ _ _ (Or.inr (Or.inl rfl)) bS
        have bP3 := hk3 _ _ _ (Or.inl rfl) bP
        have bV3 := hk3 _ _ _ (Or.inr (Or.inr rfl)) bV
        have hcS3 := bS3.cell
        have hfS3 := bS3.frozen
        have hcP3 := bP3.cell
        gi_wp2
        go_roundw
        case rel =>
          refine ⟨pre ++ [⟨rest.extract 0 i, hxs⟩], rest.extract (i + 1) rest.size, ?_, ?_, bS3.set _, bP3.kept (grownBy_setCell' _ _ _) (by simpa using hne1), bV3.kept (grownBy_setCell' _ _ _) (by simpa using hne2), hJs _ _ _ hJ3⟩
          · rw [hx2, List.map_append, List.append_assoc, ← hpre, dots_some hix]
            simp only [List.map_cons, List.map_nil, hx1]
            rfl
          · simp only [List.length_append, List.length_cons, List.length_nil, ByteArray.size_extract]
            omega
        case measure =>
          rw [strAt_of (bS3.set _).cell, strAt_of hcS, ByteArray.size_extract]
          omega
      · gi_wp2
        refine bodyPost_ret (results_none rfl _ _ _) rfl ?_
        exact ⟨⟨_, rfl⟩, .inr ⟨_, ⟨dots (rest.data.toList.drop (i + 1)), by rw [← hpre, dots_some hix, List.map_append, List.append_assoc]; simp only [List.map_cons, List.map_nil, hx1]; rfl⟩, hJx3⟩⟩
theorem splitSeq_calls (a b : ByteArray) (c : Int) (w : World) :
    Calls Tryz.prog 53 #[.string a, .string b, .int .i64 c] w fun e w' => e = .returned (.func (.func 64) #[] #[.pointer (some ⟨w.heap.size + 1, 0, none⟩), .pointer (some ⟨w.heap.size, 0, none⟩), .pointer (some ⟨w.heap.size + 2, 0, none⟩)]) ∧ w' = ((w.alloc (.cells #[.string a] 9)).alloc (.cells #[.string b] 9)).alloc (.cells #[.int .i64 c] 3) := by
  go_enter Tryz.func53, Tryz.ntmps53
  go_wp2
  go_ret
  exact ⟨rfl, rfl⟩
theorem SplitSeq_calls (a b : ByteArray) (w : World) :
    Calls Tryz.prog 36 #[.string a, .string b] w fun e w' => e = .returned (.func (.func 64) #[] #[.pointer (some ⟨w.heap.size + 1, 0, none⟩), .pointer (some ⟨w.heap.size, 0, none⟩), .pointer (some ⟨w.heap.size + 2, 0, none⟩)]) ∧ w' = ((w.alloc (.cells #[.string a] 9)).alloc (.cells #[.string b] 9)).alloc (.cells #[.int .i64 0] 3) := by
  go_enter Tryz.func36, Tryz.ntmps36
  go_wp2_with (go_at_call 53; refine (splitSeq_calls _ _ _ _).mono ?_; rintro e w9 ⟨rfl, rfl⟩)
  go_ret
  exact ⟨rfl, rfl⟩
def parsePost (fn : Func) (R : Ending → World → Prop) : Exit → Act → World → Prop
  | .normal, a, w => LeavesInM Fence.wide 3 Tryz.prog fn a.tmps R a.defers .returning w
  | .ret, a, w => LeavesInM Fence.wide 3 Tryz.prog fn a.tmps R a.defers .returning w
  | _, _, _ => False
theorem parsePost_to (fn : Func) (R : Ending → World → Prop) : ∀ (e : Exit) (a : Act) (w : World), parsePost fn R e a w → bodyPostM Fence.wide 3 Tryz.prog fn R e a w
  | .normal, _, _, h => h
  | .ret, _, _, h => h
  | .panic _, _, _, h => h.elim
  | .outgrown, _, _, h => h.elim
  | .exit _, _, _, h => h.elim
  | .goto _, _, _, h => h.elim
theorem parse_results (tmps : Array Value) (w : World) {R1 R2 : Nat} {x y : Value} (hp : tmps.getD 2 undef = .pointer (some ⟨R1, 0, none⟩)) (hq : tmps.getD 3 undef = .pointer (some ⟨R2, 0, none⟩)) (h1 : w.cell? ⟨R1, 0, none⟩ = some x) (h2 : w.cell? ⟨R2, 0, none⟩ = some y) :
    (results Tryz.f26 tmps).run Tryz.prog w = .ok (.tuple #[x, y]) w := by
  have hp' : tmps[2]?.getD undef = .pointer (some ⟨R1, 0, none⟩) := by simpa using hp
  have hq' : tmps[3]?.getD undef = .pointer (some ⟨R2, 0, none⟩) := by simpa using hq
  simp [results, Tryz.f26, hp', hq', asAddr, h1, h2, go_sem]
theorem parse_at {W : World} {b b' : Nat} {t : TypeId} {v : Value} (h : b = b') (hb : Boxed W b t v) : Boxed W b' t v := h ▸ hb
def partP (x : { s : ByteArray // s.size ≤ 1000000 }) : Int × Bool := digits_Unnum.of x.1
def parseP (l : List (List UInt8)) : Option (List Int) := if (l.all fun x => (digits_Unnum.of ⟨x.toArray⟩).2) = true then some (l.map fun x => (digits_Unnum.of ⟨x.toArray⟩).1) else none
def oid_Parse.f (k : Nat) (a0 : ByteArray) : Option (List Int × Bool) := if a0.size ≤ 1000000 then (match parseP (dots a0.data.toList) with
  | none => some ([], false)
  | some arcs => (oid_Right.f k arcs).bind fun t => if t = true then some (arcs, true) else some ([], false)) else none
theorem oid_Parse.mono : ∀ a0 k, LeO (oid_Parse.f k a0) (oid_Parse.f (k + 1) a0) := by
  intro a0 k
  unfold oid_Parse.f
  refine LeO.ite ?_ (LeO.none _)
  cases parseP (dots a0.data.toList) with
  | none => exact LeO.refl _
  | some arcs => exact LeO.bind (oid_Right.mono arcs k) (fun _ => LeO.refl _)
/-- What is true between two rounds. -/
def parseI (w : World) (pre : List { s : ByteArray // s.size ≤ 1000000 }) (W : World) : Prop :=
  (∀ x ∈ pre, (partP x).2 = true) ∧ Boxed W w.heap.size 22 (.slice none 0 0) ∧ Boxed W (w.heap.size + 1) 4 (.bool false) ∧ w.heap.size + 6 ≤ W.heap.size ∧
    (∃ v, Boxed W (w.heap.size + 2) 22 v ∧ W.ownsRow (w.heap.size + 6) 3 1 v pre.length (pre.map fun x => Value.int .i64 (partP x).1)) ∧ Below w.heap.size w W
def parseX (w : World) (c : Code) (pre : List { s : ByteArray // s.size ≤ 1000000 }) (W : World) : Prop :=
  c = .ret ∧ (∃ x ∈ pre, (partP x).2 = false) ∧ Boxed W w.heap.size 22 (.slice none 0 0) ∧ Boxed W (w.heap.size + 1) 4 (.bool false) ∧ Below w.heap.size w W
theorem boxed_turn {A B : World} {row : Option Nat} {b : Nat} {t : TypeId} {v : Value} (h : Boxed A b t v) (hg : A.grownBy B row) (hr : ∀ r, row = some r → ∃ o : Obj, A.heap[r]? = some o ∧ o.isCells = false) : Boxed B b t v :=
  h.kept hg (fun e => by
    obtain ⟨o, ho, hc⟩ := hr b e.symm
    rw [show A.heap[b]? = _ from h] at ho
    cases ho
    cases hc)
theorem row_turn {A B : World} {row : Option Nat} {base : Nat} {e : TypeId} {size : Nat} {v : Value} {n : Nat} {xs : List Value} (h : A.ownsRow base e size v n xs) (hg : A.grownBy B row) (hr : ∀ r, row = some r → ∃ o : Obj, A.heap[r]? = some o ∧ o.isCells = false) : B.ownsRow base e size v n xs :=
  h.kept hg (by
    rcases h.2 with ⟨rfl, _⟩ | ⟨g, cap, cur, rfl, _, hgb, _⟩
    · exact .inl rfl
    · refine .inr fun e' => ?_
      obtain ⟨o, ho, hc⟩ := hr g (by simpa [Value.ownBlock] using e'.symm)
      rw [hgb] at ho
      cases ho
      cases hc)
theorem row_above {A : World} {base b : Nat} {e : TypeId} {size : Nat} {v : Value} {n : Nat} {xs : List Value} (h : A.ownsRow base e size v n xs) (hb : b < base) : v.ownBlock ≠ some b := by
  rcases h.2 with ⟨rfl, _⟩ | ⟨g, cap, cur, rfl, hg, _⟩
  · simp [Value.ownBlock]
  · intro e'
    obtain rfl : g = b := by simpa [Value.ownBlock] using e'
    omega
theorem row_turn_none {A : World} {base : Nat} {e : TypeId} {size : Nat} {v : Value} {n : Nat} {xs : List Value} (h : A.ownsRow base e size v n xs) : v.ownBlock = none ∨ v.ownBlock ≠ none := by
  cases v.ownBlock with
  | none => exact .inl rfl
  | some b => exact .inr (by simp)
/-- Behind an append: what is no cells lies as it lay. -/
theorem row_app {W w1 : World} {n₀ : Nat} {e : TypeId} {size : Nat} {v : Value} {k : Nat} {xs : List Value} {tmp : Obj} (hrow : W.ownsRow n₀ e size v k xs) (hgrow : (W.alloc tmp).grownBy w1 v.ownBlock) : KeepsOthers W w1 :=
  (KeepsOthers.alloc W tmp).trans (KeepsOthers.of_grownBy hgrow fun j o ej hj => by
    rcases (hrow.alloc tmp).2 with ⟨rfl, _⟩ | ⟨g, cap, cur, rfl, _, hgb, _⟩
    · simp [Value.ownBlock] at ej
    · obtain rfl : g = j := by simpa [Value.ownBlock] using ej
      rw [hgb] at hj
      cases hj
      rfl)
theorem keeps_below {W W' : World} (B : Nat) (hb : Below W.heap.size W W') : KeepsFrom B W W' := ⟨hb.size, fun k o _ hk _ => (hb.block k (Array.getElem?_eq_some_iff.1 hk).1).trans hk⟩
theorem parseI_own (w : World) (B : Nat) (hB : w.heap.size ≤ B) : OwnFrom B (parseI w) := fun pre X Y row hs hg hr => by
  obtain ⟨h1, h2, h3, h4, ⟨v, h5, h6⟩, h7⟩ := hs
  have hr2 := fun r e => (hr r e).2
  exact ⟨h1, boxed_turn h2 hg hr2, boxed_turn h3 hg hr2, Nat.le_trans h4 hg.size, ⟨v, boxed_turn h5 hg hr2, row_turn h6 hg hr2⟩, ownFrom_below (β := Unit) (Nat.le_refl _) hB () X Y row h7 hg hr⟩
theorem parseX_own (w : World) (B : Nat) (hB : w.heap.size ≤ B) (c : Code) : OwnFrom B (parseX w c) := fun pre X Y row hs hg hr => by
  obtain ⟨h1, h2, h3, h4, h7⟩ := hs
  have hr2 := fun r e => (hr r e).2
  exact ⟨h1, h2, boxed_turn h3 hg hr2, boxed_turn h4 hg hr2, ownFrom_below (β := Unit) (Nat.le_refl _) hB () X Y row h7 hg hr⟩
theorem parseI_set (w : World) (pre : List { s : ByteArray // s.size ≤ 1000000 }) (A : World) (v : Value) (h : parseI w pre A) : parseI w pre (A.setCell ⟨w.heap.size + 3, 0, none⟩ v) := by
  obtain ⟨h1, h2, h3, h4, ⟨v', h5, h6⟩, h7⟩ := h
  exact ⟨h1, h2.other (by omega) v, h3.other (by omega) v, Nat.le_trans h4 (grownBy_setCell' A _ v).size, ⟨v', h5.other (by omega) v, h6.kept (grownBy_setCell' A _ v) (.inr (row_above h6 (by omega)))⟩, h7.setCell (p := ⟨w.heap.size + 3, 0, none⟩) (by simp) v⟩
theorem parseInfo : (Tryz.prog.info? 3).map (fun i => (i.zero, i.size, i.bytes)) = some (some (.int .i64 0), 1, 8) := by kernel_rfl
set_option maxHeartbeats 8000000 in
set_option maxRecDepth 100000 in
theorem oid_Parse.calls (k : Nat) (a0 : ByteArray) (r1 : List Int) (r2 : Bool) (w : World) (HT_ : Aside0 (TB w)) (h : oid_Parse.f k a0 = some (r1, r2)) :
    Calls Tryz.prog 26 #[.string a0] w fun e w' => ∃ v0_ : Value, e = .returned (.tuple #[v0_, .bool r2]) ∧ Kd.R (Kd.int .i64) 3 w' w.heap.size (fun _ => True) v0_ r1 ∧ Below w.heap.size w w' := by
  have H := Aside0.mk h
  clear h
  have hsz : a0.size ≤ 1000000 := by
    have h := H.out
    unfold oid_Parse.f at h
    by_cases hc : a0.size ≤ 1000000
    · exact hc
    · rw [if_neg hc] at h; cases h
  refine callsIn_wide.1 (callsIn_of_wp_marks (F := Fence.wide) (n := 3) Tryz.func26 rfl trivial ?_ rfl)
  refine wpIn_mono (wpIn_wide.2 ?_) (parsePost_to Tryz.f26 _)
  simp only [Tryz.ntmps26, List.size_toArray, List.length_cons, List.length_nil, Nat.reduceAdd, Nat.reduceSub, Array.replicate_succ, Array.replicate_zero, List.push_toArray, List.append_toArray, List.nil_append, List.cons_append]
  go_upto_region 2 with fail
  iterate 6 (try (first | go_values | go_skip | go_guarded | go_step | go_upon))
  refine (SplitSeq_calls _ _ _).mono ?_
  rintro e w' ⟨rfl, rfl⟩
  dsimp only
  iterate 4 (try (first | go_values | go_skip | go_guarded | go_step | go_upon | go_back))
  refine wp_block ?_
  refine (wpIn_wide (n := 3)).1 ?_
  simp only [World.size_alloc, Nat.add_assoc, Nat.reduceAdd]
  obtain ⟨W0, hW0⟩ : ∃ W0, ((((((w.alloc (.cells #[.slice none 0 0] 22)).alloc (.cells #[.bool false] 4)).alloc (.cells #[.slice none 0 0] 22)).alloc (.cells #[.string a0] 9)).alloc (.cells #[.string ⟨#[46]⟩] 9)).alloc (.cells #[.int .i64 0] 3)) = W0 := ⟨_, rfl⟩
  rw [hW0]
  have hsz0 : W0.heap.size = w.heap.size + 6 := by rw [← hW0]; simp
  have g0 : Boxed W0 w.heap.size 22 (.slice none 0 0) := by rw [← hW0]; exact (((((Boxed.new w 22 _).alloc _).alloc _).alloc _).alloc _).alloc _
  have g1 : Boxed W0 (w.heap.size + 1) 4 (.bool false) := by rw [← hW0]; exact parse_at (by simp) ((((Boxed.new (w.alloc (.cells #[.slice none 0 0] 22)) 4 _).alloc _).alloc _).alloc _ |>.alloc _)
  have g2 : Boxed W0 (w.heap.size + 2) 22 (.slice none 0 0) := by rw [← hW0]; exact parse_at (by simp) (((Boxed.new ((w.alloc (.cells #[.slice none 0 0] 22)).alloc (.cells #[.bool false] 4)) 22 _).alloc _).alloc _ |>.alloc _)
  have g3 : Boxed W0 (w.heap.size + 3) 9 (.string a0) := by rw [← hW0]; exact parse_at (by simp) ((Boxed.new (((w.alloc (.cells #[.slice none 0 0] 22)).alloc (.cells #[.bool false] 4)).alloc (.cells #[.slice none 0 0] 22)) 9 _).alloc _ |>.alloc _)
  have g4 : Boxed W0 (w.heap.size + 4) 9 (.string ⟨#[46]⟩) := by rw [← hW0]; exact parse_at (by simp) (Boxed.new ((((w.alloc (.cells #[.slice none 0 0] 22)).alloc (.cells #[.bool false] 4)).alloc (.cells #[.slice none 0 0] 22)).alloc (.cells #[.string a0] 9)) 9 _ |>.alloc _)
  have g5 : Boxed W0 (w.heap.size + 5) 3 (.int .i64 0) := by rw [← hW0]; exact parse_at (by simp) (Boxed.new (((((w.alloc (.cells #[.slice none 0 0] 22)).alloc (.cells #[.bool false] 4)).alloc (.cells #[.slice none 0 0] 22)).alloc (.cells #[.string a0] 9)).alloc (.cells #[.string ⟨#[46]⟩] 9)) 3 _)
  have gB : Below w.heap.size w W0 := by rw [← hW0]; exact (((((((Below.refl _ w).alloc (Nat.le_refl _) _).alloc (by simp) _).alloc (by simp; omega) _).alloc (by simp; omega) _).alloc (by simp; omega) _).alloc (by simp; omega) _)
  clear hW0
  refine wpIn_rangeFunc_box (α := { s : ByteArray // s.size ≤ 1000000 }) (encs := fun x => #[.string x.1]) (Kp := spK (w.heap.size + 4) (w.heap.size + 3) (w.heap.size + 5)) (S := fun xs => xs.map (fun x => x.1.data.toList) = dots a0.data.toList) (Sp := fun pre => pre.map (fun x => x.1.data.toList) <+: dots a0.data.toList) (N := 1000002) (Bs := w.heap.size + 3) rfl (by omega) (gf := 64)
    (lb := #[.pointer (some ⟨w.heap.size + 4, 0, none⟩), .pointer (some ⟨w.heap.size + 3, 0, none⟩), .pointer (some ⟨w.heap.size + 5, 0, none⟩)]) rfl trivial (enters_of Tryz.func64 (by kernel_rfl) rfl) (by omega)
    (fun l J Jx W hW hJs hY h0 => splitSeq1_in (3 - 1) (by omega) l _ _ _ a0 hsz (by omega) (by omega) J Jx hJs hY W ((hW.block _ g4.lt).trans g4) ((hW.block _ g3.lt).trans g3) ((hW.block _ g5.lt).trans g5) h0)
    (fun h k b t v hb hx => k b t v hb (h b t v hb hx)) (fun W l o o' _ ho h1 _ b t v hb hx => boxed_turn hx (grownBy_putObj' W l o') (fun r e => by cases e; exact ⟨o, ho, h1⟩)) (fun _ => rfl)
    (parseI w) (parseX w) (parseI_own w _ (by omega)) (parseI_set w) (fun c => parseX_own w _ (by omega) c) ⟨by simp, g0, g1, by omega, ⟨_, g2, World.ownsRow_nil _ _ _ _⟩, gB⟩
    (fun x => { tmps := #[.string a0, undef, .pointer (some ⟨w.heap.size, 0, none⟩), .pointer (some ⟨w.heap.size + 1, 0, none⟩), .pointer (some ⟨w.heap.size + 2, 0, none⟩), .string x.1, undef, undef, .string a0,
      .func (.func 64) #[] #[.pointer (some ⟨w.heap.size + 4, 0, none⟩), .pointer (some ⟨w.heap.size + 3, 0, none⟩), .pointer (some ⟨w.heap.size + 5, 0, none⟩)], .string x.1, undef, undef, undef, undef, undef, undef, undef, undef, undef, undef, undef, undef, undef, undef, undef], defers := [] }) ?assign ?body ?done ?stop
  case assign =>
    intro l x W K hK
    gi_wp2
    exact hK
  case body =>
    rintro l pre x W ⟨h1, b0, b1, b3, ⟨v, b2, hrow⟩, hB⟩ hlt
    have hu : digits_Unnum.f x.1 = some (digits_Unnum.of x.1) := by
      unfold digits_Unnum.f
      rw [if_pos (by have := x.2; omega)]
    have HTB : Aside0 (TB W) := ⟨TB.below HT_.out hB⟩
    cases hp : digits_Unnum.of x.1 with
    | mk pn pb =>
      rw [hp] at hu
      have HU := Aside0.mk hu
      have HI := Aside0.mk h1
      clear hu h1
      cases pb with
      | false =>
        have HX := Aside0.mk (And.intro b0 (And.intro b1 hB))
        clear b2 b3 hrow hB
        gi_wp2_with (refine ⟨trivial, ?_⟩; gi_at_call 37; refine (CallsIn.inRound l (callsIn_wide.2 (digits_Unnum.calls x.1 pn false W HTB HU.out))).mono ?_; rintro e w9 ⟨rfl, hb⟩; have c0 : Boxed w9 _ _ _ := (hb.block _ b0.lt).trans b0; have c1 : Boxed w9 _ _ _ := (hb.block _ b1.lt).trans b1; have d0 := c0.cell; have d1 := c1.cell; have e0 := c0.frozen; have e1 := (c1.other (by omega) (.slice none 0 0) : Boxed (w9.setCell ⟨w.heap.size, 0, none⟩ _) _ _ _).frozen; have HC := Aside0.mk (And.intro c0 (And.intro c1 hb)); clear c0 c1 hb)
        obtain ⟨b0, b1, hB⟩ := HX.out
        obtain ⟨c0, c1, hb⟩ := HC.out
        refine ⟨(keeps_below _ hb).trans (((KeepsOthers.setCell _ _ _).trans (KeepsOthers.setCell _ _ _)).from _), rfl, ⟨x, by simp, by unfold partP; rw [hp]⟩, (c0.set _).other (by omega) _, (c1.other (by omega) _).set _, ((hB.trans (hb.mono hB.size)).setCell (p := ⟨w.heap.size, 0, none⟩) (Nat.le_refl _) _).setCell (p := ⟨w.heap.size + 1, 0, none⟩) (by simp) _⟩
      | true =>
        have hml : pre.length + 1 ≤ maxLen := by unfold maxLen; omega
        obtain ⟨i0, hi, hz0, hz1, hz2⟩ := info_parts parseInfo
        gi_wp2_with (first | (refine ⟨trivial, ?_⟩; gi_at_call 37; refine (CallsIn.inRound l (callsIn_wide.2 (digits_Unnum.calls x.1 pn true W HTB HU.out))).mono ?_; rintro e w9 ⟨rfl, hb⟩; have c2 : Boxed w9 (w.heap.size + 2) 22 v := (hb.block _ b2.lt).trans b2; have d2 := c2.cell; have hrow9 : w9.ownsRow (w.heap.size + 6) 3 1 v pre.length (pre.map fun x => Value.int .i64 (partP x).1) := hrow.kept (grown_of_below hb none) (row_turn_none hrow); have hs9 : w.heap.size + 6 ≤ w9.heap.size := Nat.le_trans b3 hb.size) | (gi_at_builtin; refine wpListIn_append_own _ rfl _ _ 22 rfl (w.heap.size + 6) 3 i0 (.int .i64 0) 1 8 Tryz.underlying22 hi hz0 hz1 hz2 rfl (by decide) _ _ _ rfl (hrow9.alloc _) ⟨w9.heap.size, 0, none⟩ 1 1 [.int .i64 pn] rfl rfl (cell_one_new _ _ _) (by simp [Value.oneCell']) hml (by omega) (by simp; omega) ?_; intro v' w1 hown' hgrow _; obtain ⟨g', cap', rfl⟩ := ownsRow_succ hown'; have hgr : (w9.alloc (.cells #[.int .i64 pn] 3)).grownBy w1 v.ownBlock := hgrow; clear hgrow; have hv3 : Boxed w1 (w.heap.size + 2) 22 v := (c2.alloc _).kept hgr (row_above hrow9 (by omega)).symm; have hc1 := hv3.cell; have hf1 := hv3.frozen))
        have mv : ∀ b t v2, b < w.heap.size + 6 → b ≠ w.heap.size + 2 → Boxed W b t v2 → Boxed (w1.setCell ⟨w.heap.size + 2, 0, none⟩ (.slice (some ⟨g', 0, none⟩) (pre.length + 1) cap')) b t v2 := fun b t v2 h1 h2 hx =>
          Boxed.other ((Boxed.alloc (show Boxed w9 b t v2 from (hb.block _ hx.lt).trans hx) _).kept hgr (row_above hrow9 h1).symm) h2 _
        refine ⟨(keeps_below _ hb).trans (((row_app hrow9 hgr).trans (KeepsOthers.setCell _ _ _)).from _), fun b t v2 hbx hx => mv b t v2 (by omega) (by omega) hx, ⟨?_, mv _ _ _ (by omega) (by omega) b0, mv _ _ _ (by omega) (by omega) b1, ?_, ⟨_, hv3.set _, ?_⟩, ?_⟩⟩
        · intro y hy
          rcases List.mem_append.1 hy with h | h
          · exact HI.out y h
          · rw [List.mem_singleton] at h
            subst h
            unfold partP
            rw [hp]
        · have e1 := hgr.size
          have e2 := (grownBy_setCell' w1 (w.heap.size + 2) (.slice (some ⟨g', 0, none⟩) (pre.length + 1) cap')).size
          rw [World.size_alloc] at e1
          omega
        · have e := hown'.kept (grownBy_setCell' w1 (w.heap.size + 2) (.slice (some ⟨g', 0, none⟩) (pre.length + 1) cap')) (.inr (row_above hown' (by omega)))
          have e3 : (partP x).1 = pn := by unfold partP; rw [hp]
          rw [List.length_append, List.map_append, List.map_cons, List.map_nil, e3]
          exact e
        · exact (((((hB.trans (hb.mono hB.size)).alloc (by omega) _).grown hgr (by simp; omega) (fun j ej => by
            rcases hrow9.2 with ⟨rfl, _⟩ | ⟨g2, cap2, cur2, rfl, hg2, _, _⟩
            · simp [Value.ownBlock] at ej
            · obtain rfl : g2 = j := by simpa [Value.ownBlock] using ej
              omega))).setCell (p := ⟨w.heap.size + 2, 0, none⟩) (by simp) _)
  case stop =>
    rintro D c pre W hD hSp ⟨rfl, ⟨x, hx, hxf⟩, b0, b1, hB⟩ hK
    have hn : parseP (dots a0.data.toList) = none := by
      obtain ⟨r, hr⟩ := hSp
      unfold parseP
      rw [if_neg]
      intro hall
      have := List.all_eq_true.1 hall x.1.data.toList (by rw [← hr]; exact List.mem_append_left _ (List.mem_map_of_mem hx))
      unfold partP at hxf
      rw [show (⟨x.1.data.toList.toArray⟩ : ByteArray) = x.1 from by simp] at this
      rw [hxf] at this
      cases this
    have h := H.out
    unfold oid_Parse.f at h
    rw [if_pos hsz, hn] at h
    cases h
    have d0 := b0.cell
    have d1 := b1.cell
    have HK := Aside0.mk hK
    have HX := Aside0.mk (And.intro b0 (And.intro b1 hB))
    clear b0 b1 hB hK
    refine wpIn_ret ?_
    refine ⟨by simp, .inl ⟨_, _, rfl, run_takeDeferred HK.out, ?_⟩⟩
    obtain ⟨b0, b1, hB⟩ := HX.out
    have hr := fun r (e : some D = some r) => (by cases e; exact ⟨_, HK.out, rfl⟩ : ∃ o : Obj, W.heap[r]? = some o ∧ o.isCells = false)
    exact ⟨_, parse_results _ _ rfl rfl (boxed_turn b0 (grownBy_putObj' W D _) hr).cell (boxed_turn b1 (grownBy_putObj' W D _) hr).cell, _, rfl, Kd.R_nil _ _ _ _ _, hB.grown (grownBy_putObj' W D _) hB.size (fun j e => by cases e; omega)⟩
  case done =>
    rintro D ys W hD hS ⟨h1, b0, b1, b3, ⟨v, b2, hrow⟩, hB⟩ hK
    obtain ⟨arcs, harcs⟩ : ∃ arcs : List Int, arcs = ys.map fun x => (partP x).1 := ⟨_, rfl⟩
    have hn : parseP (dots a0.data.toList) = some arcs := by
      unfold parseP
      rw [← hS, if_pos, harcs, List.map_map]
      · rfl
      · rw [List.all_map, List.all_eq_true]
        exact fun y hy => h1 y hy
    have hpos : 0 < arcs.length := by
      rw [harcs, List.length_map]
      rcases ys with _ | ⟨y, ys⟩
      · exact absurd hS.symm (dots_ne _)
      · simp
    have h := H.out
    unfold oid_Parse.f at h
    rw [if_pos hsz, hn] at h
    obtain ⟨t, ht, h⟩ := Option.bind_eq_some_iff.1 h
    have hrow2 : W.ownsRow (w.heap.size + 6) 3 1 v arcs.length (encs (Value.int .i64) arcs) := by
      rw [harcs, List.length_map]
      have e : encs (Value.int .i64) (ys.map fun x => (partP x).1) = ys.map fun x => Value.int .i64 (partP x).1 := by simp [encs]
      rw [e]
      exact hrow
    have ho : Kd.R (Kd.int .i64) 3 W (w.heap.size + 6) (fun _ => True) v arcs := Kd.R_of_own hrow2 (fun _ _ => trivial)
    obtain ⟨g, cap, rfl, hg1, hg2, _⟩ := Kd.R_form ho hpos
    have HO := Aside0.mk ho
    have HT := Aside0.mk ht
    have HG := Aside0.mk hg1
    have d0 := b0.cell
    have d1 := b1.cell
    have d2 := b2.cell
    have e0 := b0.frozen
    have HK := Aside0.mk hK
    have HX := Aside0.mk (And.intro b0 (And.intro b1 hB))
    have HD := Aside0.mk hD
    have HB2 := Aside0.mk b2
    have HR2 := Aside0.mk hrow2
    clear ho ht hg1 b0 b1 b2 hB hK hrow hrow2 hD hS h1 hn harcs
    cases t with
    | true =>
      rw [if_pos rfl] at h
      simp only [Option.some.injEq, Prod.mk.injEq] at h
      obtain ⟨h2, rfl⟩ := h
      subst h2
      go_wp2_with (go_at_call 31; refine (oid_Right.calls k _ _ _ true _ (Kd.R_reads' HO.out).2.2 (Kd.R_reads' HO.out).2.1 HT.out).mono ?_; rintro e w9 ⟨rfl, hw9⟩; have hb : Below W.heap.size W w9 := (by obtain ⟨nd, rfl⟩ := hw9; repeat (first | exact Below.refl _ _ | apply pw_below_drewN)); clear hw9; have c0 : Boxed w9 _ _ _ := (hb.block _ HX.out.1.lt).trans HX.out.1; have c1 : Boxed w9 _ _ _ := (hb.block _ HX.out.2.1.lt).trans HX.out.2.1; have c2 : Boxed w9 _ _ _ := (hb.block _ HB2.out.lt).trans HB2.out; have d0 := c0.cell; have d1 := c1.cell; have d2 := c2.cell; have e0 := c0.frozen; have e1 := (c1.other (by omega) (.slice (some ⟨g, 0, none⟩) arcs.length cap) : Boxed (w9.setCell ⟨w.heap.size, 0, none⟩ _) _ _ _).frozen; have HC := Aside0.mk (And.intro c0 (And.intro c1 hb)); clear c0 c1 c2 hb)
      obtain ⟨c0, c1, hb⟩ := HC.out
      obtain ⟨W2, hW2⟩ : ∃ W2, ((w9.setCell ⟨w.heap.size, 0, none⟩ (.slice (some ⟨g, 0, none⟩) arcs.length cap)).setCell ⟨w.heap.size + 1, 0, none⟩ (.bool true)) = W2 := ⟨_, rfl⟩
      have hd : w.heap.size + 6 ≤ D := by have := HD.out; omega
      have hk2 : W2.heap[D]? = some (.deferred (some [])) := by
        rw [← hW2, setCell_at _ _ _ _ (by omega), setCell_at _ _ _ _ (by omega)]
        exact (hb.block D (Array.getElem?_eq_some_iff.1 HK.out).1).trans HK.out
      have f0 : Boxed W2 w.heap.size 22 (.slice (some ⟨g, 0, none⟩) arcs.length cap) := by rw [← hW2]; exact (c0.set _).other (by omega) _
      have f1 : Boxed W2 (w.heap.size + 1) 4 (.bool true) := by rw [← hW2]; exact (c1.other (by omega) _).set _
      have hB2 : Below w.heap.size w W2 := by rw [← hW2]; exact ((HX.out.2.2.trans (hb.mono HX.out.2.2.size)).setCell (p := ⟨w.heap.size, 0, none⟩) (Nat.le_refl _) _).setCell (p := ⟨w.heap.size + 1, 0, none⟩) (by simp) _
      have fr : W2.ownsRow (w.heap.size + 6) 3 1 (.slice (some ⟨g, 0, none⟩) arcs.length cap) arcs.length (encs (Value.int .i64) arcs) := by
        rw [← hW2]
        have q0 := HR2.out.kept (grown_of_below hb none) (row_turn_none HR2.out)
        have q1 := q0.kept (grownBy_setCell' w9 w.heap.size (.slice (some ⟨g, 0, none⟩) arcs.length cap)) (.inr (row_above q0 (by omega)))
        exact q1.kept (grownBy_setCell' _ (w.heap.size + 1) (.bool true)) (.inr (row_above q1 (by omega)))
      rw [hW2]
      clear hW2
      have hr := fun r (e : some D = some r) => (by cases e; exact ⟨_, hk2, rfl⟩ : ∃ o : Obj, W2.heap[r]? = some o ∧ o.isCells = false)
      refine ⟨by simp, .inl ⟨_, _, rfl, run_takeDeferred hk2, ?_⟩⟩
      exact ⟨_, parse_results _ _ rfl rfl (boxed_turn f0 (grownBy_putObj' W2 D _) hr).cell (boxed_turn f1 (grownBy_putObj' W2 D _) hr).cell, _, rfl, Kd.R_lower (Kd.R_of_own (ownsRow_putObj fr _ hk2 rfl) (fun _ _ => trivial)) (Nat.le_add_right _ 6), hB2.grown (grownBy_putObj' W2 D _) hB2.size (fun j e => by cases e; omega)⟩
    | false =>
      rw [if_neg (by decide)] at h
      cases h
      go_wp2_with (go_at_call 31; refine (oid_Right.calls k _ _ _ false _ (Kd.R_reads' HO.out).2.2 (Kd.R_reads' HO.out).2.1 HT.out).mono ?_; rintro e w9 ⟨rfl, hw9⟩; have hb : Below W.heap.size W w9 := (by obtain ⟨nd, rfl⟩ := hw9; repeat (first | exact Below.refl _ _ | apply pw_below_drewN)); clear hw9; have c0 : Boxed w9 _ _ _ := (hb.block _ HX.out.1.lt).trans HX.out.1; have c1 : Boxed w9 _ _ _ := (hb.block _ HX.out.2.1.lt).trans HX.out.2.1; have c2 : Boxed w9 _ _ _ := (hb.block _ HB2.out.lt).trans HB2.out; have d0 := c0.cell; have d1 := c1.cell; have d2 := c2.cell; have e0 := c0.frozen; have e1 := (c1.other (by omega) (.slice none 0 0) : Boxed (w9.setCell ⟨w.heap.size, 0, none⟩ _) _ _ _).frozen; have HC := Aside0.mk (And.intro c0 (And.intro c1 hb)); clear c0 c1 c2 hb)
      obtain ⟨c0, c1, hb⟩ := HC.out
      obtain ⟨W2, hW2⟩ : ∃ W2, ((w9.setCell ⟨w.heap.size, 0, none⟩ (.slice none 0 0)).setCell ⟨w.heap.size + 1, 0, none⟩ (.bool false)) = W2 := ⟨_, rfl⟩
      have hd : w.heap.size + 6 ≤ D := by have := HD.out; omega
      have hk2 : W2.heap[D]? = some (.deferred (some [])) := by
        rw [← hW2, setCell_at _ _ _ _ (by omega), setCell_at _ _ _ _ (by omega)]
        exact (hb.block D (Array.getElem?_eq_some_iff.1 HK.out).1).trans HK.out
      have f0 : Boxed W2 w.heap.size 22 (.slice none 0 0) := by rw [← hW2]; exact (c0.set _).other (by omega) _
      have f1 : Boxed W2 (w.heap.size + 1) 4 (.bool false) := by rw [← hW2]; exact (c1.other (by omega) _).set _
      have hB2 : Below w.heap.size w W2 := by rw [← hW2]; exact ((HX.out.2.2.trans (hb.mono HX.out.2.2.size)).setCell (p := ⟨w.heap.size, 0, none⟩) (Nat.le_refl _) _).setCell (p := ⟨w.heap.size + 1, 0, none⟩) (by simp) _
      rw [hW2]
      clear hW2
      have hr := fun r (e : some D = some r) => (by cases e; exact ⟨_, hk2, rfl⟩ : ∃ o : Obj, W2.heap[r]? = some o ∧ o.isCells = false)
      refine ⟨by simp, .inl ⟨_, _, rfl, run_takeDeferred hk2, ?_⟩⟩
      exact ⟨_, parse_results _ _ rfl rfl (boxed_turn f0 (grownBy_putObj' W2 D _) hr).cell (boxed_turn f1 (grownBy_putObj' W2 D _) hr).cell, _, rfl, Kd.R_nil _ _ _ _ _, hB2.grown (grownBy_putObj' W2 D _) hB2.size (fun j e => by cases e; omega)⟩
end

/-! ### curve_Arcs: function 14 -/
def curve_Arcs.f (k : Nat) (a0 : Int) : Option (List Int) := (curve_line.f a0).bind fun bt166 => ((oid_Parse.f k bt166.2.1).bind fun bt170 => (some bt170.1))
theorem curve_Arcs.mono : ∀ a0 k, LeO (curve_Arcs.f k a0) (curve_Arcs.f (k + 1) a0) := by
  intro a0 k
  unfold curve_Arcs.f
  repeat' first
      | (with_reducible exact oid_Parse.mono _ _)
      | (with_reducible exact LeO.refl _)
      | (with_reducible exact LeO.none _)
      | (with_reducible refine LeO.ite ?_ ?_)
      | (with_reducible refine LeO.bind ?_ (fun _ => ?_))
      | exact oid_Parse.mono _ _
      | exact LeO.none _
      | refine LeO.ite ?_ ?_
      | refine LeO.bind ?_ (fun _ => ?_)
set_option maxHeartbeats 8000000 in
set_option maxRecDepth 100000 in
theorem curve_Arcs.calls (k : Nat) (a0 : Int) (r : List Int) (w : World) (HT_ : Aside0 (TB w)) (h : curve_Arcs.f k a0 = some r) :
    Calls Tryz.prog 14 #[.int .i64 a0] w fun e w' => ∃ v0_ : Value, e = .returned (v0_) ∧ Kd.R (Kd.int .i64) 3 w' w.heap.size (fun _ => True) v0_ r ∧ Below w.heap.size w w' := by
  have HB := Aside0.mk (Below.refl w.heap.size w)
  have H : ((curve_line.f a0).bind fun bt166 => ((oid_Parse.f k bt166.2.1).bind fun bt170 => (some bt170.1))) = some r := h
  clear h
  replace H := Option.bind_eq_some_iff.mp H
  obtain ⟨⟨t166, t167, t168, t169⟩, A20, H⟩ := H
  replace H : ((oid_Parse.f k t167).bind fun bt170 => (some bt170.1)) = some r := H
  have A2 := Aside0.mk A20
  clear A20
  replace H := Option.bind_eq_some_iff.mp H
  obtain ⟨⟨t170, t171⟩, A30, H⟩ := H
  replace H : (some t170) = some r := H
  have A3 := Aside0.mk A30
  clear A30
  obtain rfl := Option.some.inj H
  go_enter Tryz.func14, Tryz.ntmps14
  go_wp2_with (first | ((with_reducible refine gate_callee (f := 25) rfl ?_); refine goesL_ (some 7) rfl rfl Tryz.func25 (by kernel_rfl) rfl #[.int .i64 a0] rfl (by (try simp only [List.map_toArray, List.map_cons, List.map_nil]); first | done | rfl | (simp only [List.length_drop, List.length_take]; rfl) | exact congrArg (fun z => #[Value.int .i64 z]) (w64 (by omega) (by omega)).symm) ?_; (with_reducible refine (curve_line.calls a0 t166 t167 t168 t169 _ A2.out).mono ?_); rintro e w4 ⟨rfl, hb⟩; refine ⟨_, rfl, ?_⟩; have n0_ := Aside0.mk (below_step (by repeat (first | (with_reducible first | exact HB.out | apply below_alloc | apply pw_below_drewN | apply below_drew1) | exact HB.out)) hb); clear HB; have HB := n0_; clear n0_; (try clear hb); (try clear hb2); (try clear hk); (try clear hi)) | ((with_reducible refine gate_callee (f := 26) rfl ?_); refine goesL_ (some 9) rfl rfl Tryz.func26 (by kernel_rfl) rfl #[.string t167] rfl (by (try simp only [List.map_toArray, List.map_cons, List.map_nil]); first | done | rfl | (simp only [List.length_drop, List.length_take]; rfl) | exact congrArg (fun z => #[Value.int .i64 z]) (w64 (by omega) (by omega)).symm) ?_; (with_reducible refine (oid_Parse.calls k t167 t170 t171 _ ?tb_ A3.out).mono ?_); (case tb_ => exact ⟨TB.below HT_.out (by repeat (first | (with_reducible first | exact HB.out | apply below_alloc | apply pw_below_drewN | apply below_drew1) | exact HB.out | exact Below.refl _ _))⟩); rintro e w5 ⟨v172, rfl, ho0, hb⟩; refine ⟨_, rfl, ?_⟩; have n0_ := Aside0.mk (Kd.R_lower ho0 (below_size (by repeat (first | (with_reducible first | exact HB.out | apply below_alloc | apply pw_below_drewN | apply below_drew1) | exact HB.out)))); have n1_ := Aside0.mk (below_step (by repeat (first | (with_reducible first | exact HB.out | apply below_alloc | apply pw_below_drewN | apply below_drew1) | exact HB.out)) hb); clear HB; have HO173 := n0_; have HB := n1_; clear n0_ n1_; (try clear hb); (try clear hb2); (try clear hk); (try clear hi); (try clear ho0)))
  go_ret
  exact ⟨_, by first | rfl | (simp [errW_none, errW_some] <;> rfl) | (simp [*, errW_none, errW_some] <;> rfl), by (with_reducible repeat (first | apply Kd.R_alloc | apply Kd.R_drewN | apply Kd.R_drew)); exact HO173.out, by repeat (first | (with_reducible first | exact HB.out | apply below_alloc | apply pw_below_drewN | apply below_drew1) | exact HB.out)⟩

/-! ### clavigerref02_Value: function 39 -/
def clavigerref02_Value.l0 : Nat → Int → Int → Option (Int)
  | 0, _, _ => none
  | k + 1, x0, x3 => if x3 < 16 then (if 0 ≤ x3 then (if (bt (⟨#[48, 49, 50, 51, 52, 53, 54, 55, 56, 57, 65, 66, 67, 68, 69, 70]⟩ : ByteArray) x3) = x0 then (some x3) else (clavigerref02_Value.l0 k x0 (wrap64 (x3 + 1)))) else (none)) else (some (-1))
def clavigerref02_Value.f (k : Nat) (a0 : Int) : Option (Int) := clavigerref02_Value.l0 k a0 0
theorem clavigerref02_Value.mono_l : ∀ k, (∀ y0 y1, LeO (clavigerref02_Value.l0 k y0 y1) (clavigerref02_Value.l0 (k + 1) y0 y1))
  | 0 => fun _ _ r h => by simp [clavigerref02_Value.l0] at h
  | k + 1 => by
    have ih0 := clavigerref02_Value.mono_l k
    · intro y0 y1
      unfold clavigerref02_Value.l0
      repeat' first
      | (with_reducible exact ih0 _ _)
      | (with_reducible exact LeO.refl _)
      | (with_reducible exact LeO.none _)
      | (with_reducible refine LeO.ite ?_ ?_)
      | (with_reducible refine LeO.bind ?_ (fun _ => ?_))
      | exact ih0 _ _
      | exact LeO.none _
      | refine LeO.ite ?_ ?_
      | refine LeO.bind ?_ (fun _ => ?_)
theorem clavigerref02_Value.mono : ∀ a0 k, LeO (clavigerref02_Value.f k a0) (clavigerref02_Value.f (k + 1) a0) := by
  intro a0 k
  have ih0 := clavigerref02_Value.mono_l k
  unfold clavigerref02_Value.f
  repeat' first
      | (with_reducible exact ih0 _ _)
      | (with_reducible exact LeO.refl _)
      | (with_reducible exact LeO.none _)
      | (with_reducible refine LeO.ite ?_ ?_)
      | (with_reducible refine LeO.bind ?_ (fun _ => ?_))
      | exact ih0 _ _
      | exact LeO.none _
      | refine LeO.ite ?_ ?_
      | refine LeO.bind ?_ (fun _ => ?_)
set_option maxHeartbeats 8000000 in
set_option maxRecDepth 100000 in
theorem clavigerref02_Value.calls (k : Nat) (a0 : Int) (r : Int) (w : World) (h : clavigerref02_Value.f k a0 = some r) :
    Calls Tryz.prog 39 #[.int .u8 a0] w fun e w' => e = .returned (.int .i64 r) ∧ Drawn0 w w' := by
  have H : (clavigerref02_Value.l0 k a0 0) = some r := h
  clear h
  have H' := Aside0.mk H
  clear H
  go_enter Tryz.func39, Tryz.ntmps39
  go_wp2
  go_loopg [3] k (fun kq v3 w' => ∃ (x3_1 : Int), v3 = .int .i64 x3_1 ∧ Aside0 (clavigerref02_Value.l0 kq a0 x3_1 = some r) ∧ Aside0 (kq ≤ k) ∧ Drawn0 w w')
  case atStart => exact ⟨(0), (by first | rfl | (simp; done) | (simp [*]; done)), H', ⟨Nat.le_refl _⟩, by repeat (first | exact Drawn0.refl _ | apply Drawn0.step)⟩
  case round =>
    clear H'
    obtain ⟨x3_1, rfl, HA, HK1, ⟨m1, rfl⟩⟩ := hrel
    cases gk with
    | zero => exact absurd HA.out (by simp [clavigerref02_Value.l0])
    | succ k1 =>
      have H := HA.out
      clear HA
      simp only [clavigerref02_Value.l0] at H
      by_cases c2 : x3_1 < 16
      · rw [if_pos c2] at H
        have c2b0 : decide (x3_1 < 16) = true := decide_eq_true c2
        clear c2
        by_cases c3 : 0 ≤ x3_1
        · rw [if_pos c3] at H
          have c3b0 : decide (0 ≤ x3_1) = true := decide_eq_true c3
          clear c3
          by_cases c5 : (bt (⟨#[48, 49, 50, 51, 52, 53, 54, 55, 56, 57, 65, 66, 67, 68, 69, 70]⟩ : ByteArray) x3_1) = a0
          · rw [if_pos c5] at H
            have c5b0 : ((bt (⟨#[48, 49, 50, 51, 52, 53, 54, 55, 56, 57, 65, 66, 67, 68, 69, 70]⟩ : ByteArray) x3_1) == a0) = true := beq_iff_eq.mpr c5
            have c5b1 : ((bt (⟨#[48, 49, 50, 51, 52, 53, 54, 55, 56, 57, 65, 66, 67, 68, 69, 70]⟩ : ByteArray) x3_1) != a0) = false := bne_eq_false_iff_eq.mpr c5
            clear c5
            obtain rfl := Option.some.inj H
            have p4 : 0 ≤ (x3_1 : Int) := of_decide_eq_true (by first | (with_reducible assumption) | assumption)
            have q4 : x3_1 < (16 : Int) := of_decide_eq_true (by first | (with_reducible assumption) | assumption)
            have hx4 := bt_at (⟨#[48, 49, 50, 51, 52, 53, 54, 55, 56, 57, 65, 66, 67, 68, 69, 70]⟩ : ByteArray) x3_1
            replace p4 := eq_true p4
            replace q4 := eq_true q4
            go_wp2
            go_ret
            exact ⟨by first | rfl | (simp; done) | (simp [*]; done), by repeat (first | exact Drawn0.refl _ | apply Drawn0.step)⟩
          · rw [if_neg c5] at H
            have c5b0 : ((bt (⟨#[48, 49, 50, 51, 52, 53, 54, 55, 56, 57, 65, 66, 67, 68, 69, 70]⟩ : ByteArray) x3_1) == a0) = false := beq_eq_false_iff_ne.mpr c5
            have c5b1 : ((bt (⟨#[48, 49, 50, 51, 52, 53, 54, 55, 56, 57, 65, 66, 67, 68, 69, 70]⟩ : ByteArray) x3_1) != a0) = true := bne_iff_ne.mpr c5
            have H' := Aside0.mk H
            clear H
            have p4 : 0 ≤ (x3_1 : Int) := of_decide_eq_true (by first | (with_reducible assumption) | assumption)
            have q4 : x3_1 < (16 : Int) := of_decide_eq_true (by first | (with_reducible assumption) | assumption)
            have hx4 := bt_at (⟨#[48, 49, 50, 51, 52, 53, 54, 55, 56, 57, 65, 66, 67, 68, 69, 70]⟩ : ByteArray) x3_1
            replace p4 := eq_true p4
            replace q4 := eq_true q4
            go_wp2
            go_roundg k1
            case measure => have := HK1.out; omega
            case rel => exact ⟨(wrap64 (x3_1 + 1)), (by first | rfl | (simp; done) | (simp [*]; done)), H', ⟨by have := HK1.out; omega⟩, by repeat (first | exact Drawn0.refl _ | apply Drawn0.step)⟩
        · rw [if_neg c3] at H
          exact absurd H (by simp)
      · rw [if_neg c2] at H
        have c2b0 : decide (x3_1 < 16) = false := decide_eq_false c2
        clear c2
        obtain rfl := Option.some.inj H
        go_wp2
        go_ret
        exact ⟨by first | rfl | (simp; done) | (simp [*]; done), by repeat (first | exact Drawn0.refl _ | apply Drawn0.step)⟩

end Go.Proofs.YtlmldmeclgfoeaaGreatDoor.PCurveTells
