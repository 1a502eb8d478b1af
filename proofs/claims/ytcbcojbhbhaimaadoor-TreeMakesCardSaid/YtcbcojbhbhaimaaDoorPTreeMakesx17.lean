-- laid by a program out of the translation and of templates; not trusted: Lean checks it
import Derived.Test.YtcbcojbhbhaimaaDoorPTreeMakesx0
import Derived.Test.YtcbcojbhbhaimaaDoorPTreeMakesx16
namespace Go.Proofs.YtcbcojbhbhaimaaDoor.PTreeMakes
open Go.RowKit Go.Proofs.YtcbcojbhbhaimaaDoorW.PrintWords Go.Proofs.YtcbcojbhbhaimaaDoorW.PrintLast Go.Proofs.YtcbcojbhbhaimaaDoorW.PrintMore
attribute [local go_sem high] c_add c_eql c_neq
attribute [local go_sem] f_store_c f_store_f f_add f_toint f_fold_eq f_fold_ne f_fold_lt f_fold_gt f_fold_le f_fold_ge
attribute [local go_sem] str_leq str_gtr str_geq max2_int min2_int max_two min_two max_three min_three max_four min_four   -- for this text's walks alone
set_option linter.unusedVariables false
set_option linter.unusedSimpArgs false

/-! ### clavigerplain_Same: function 16 -/
def clavigerplain_Same.l0 : Nat → List (S41) → List (S41) → Int → Option (Bool)
 | 0, _, _, _ => none
 | k + 1, x0, x1, x5 => if x5 < (x0.length : Int) then (if 0 ≤ x5 then (if x5 < (x1.length : Int) then (if ((rd_T41 x0 x5).f0) = ((rd_T41 x1 x5).f0) then (if ((rd_T41 x0 x5).f1) = ((rd_T41 x1 x5).f1) then (if (((rd_T41 x0 x5).f2) != ((rd_T41 x1 x5).f2)) = true then (some false) else (if ((rd_T41 x0 x5).f3).toList = ((rd_T41 x1 x5).f3).toList then ((clavigerplain_Ints.f k ((rd_T41 x0 x5).f4) ((rd_T41 x1 x5).f4)).bind fun t388 => (if t388 = true then (clavigerplain_Same.l0 k x0 x1 (wrap64 (x5 + 1))) else (some false))) else (some false))) else (some false)) else (some false)) else (none)) else (none)) else (some true)
def clavigerplain_Same.f (k : Nat) (l0 : List (S41)) (l1 : List (S41)) : Option (Bool) := if (l0.length : Int) = (l1.length : Int) then (clavigerplain_Same.l0 k l0 l1 0) else (some false)
theorem clavigerplain_Same.mono_l : ∀ k, (∀ y0 y1 y2, LeO (clavigerplain_Same.l0 k y0 y1 y2) (clavigerplain_Same.l0 (k + 1) y0 y1 y2))
 | 0 => fun _ _ _ r h => by simp [clavigerplain_Same.l0] at h
 | k + 1 => by
  have ih0 := clavigerplain_Same.mono_l k
  ·intro y0 y1 y2
   unfold clavigerplain_Same.l0
   repeat' first
   | (with_reducible exact ih0 _ _ _)
   | (with_reducible exact clavigerplain_Ints.mono _ _ _)
   | (with_reducible exact LeO.refl _)
   | (with_reducible exact LeO.none _)
   | (with_reducible refine LeO.ite ?_ ?_)
   | (with_reducible refine LeO.bind ?_ (fun _ => ?_))
   | exact ih0 _ _ _
   | exact clavigerplain_Ints.mono _ _ _
   | exact LeO.none _
   | refine LeO.ite ?_ ?_
   | refine LeO.bind ?_ (fun _ => ?_)
theorem clavigerplain_Same.mono : ∀ a0 a1 k, LeO (clavigerplain_Same.f k a0 a1) (clavigerplain_Same.f (k + 1) a0 a1) := by
 intro a0 a1 k
 have ih0 := clavigerplain_Same.mono_l k
 unfold clavigerplain_Same.f
 repeat' first
  | (with_reducible exact ih0 _ _ _)
  | (with_reducible exact clavigerplain_Ints.mono _ _ _)
  | (with_reducible exact LeO.refl _)
  | (with_reducible exact LeO.none _)
  | (with_reducible refine LeO.ite ?_ ?_)
  | (with_reducible refine LeO.bind ?_ (fun _ => ?_))
  | exact ih0 _ _ _
  | exact clavigerplain_Ints.mono _ _ _
  | exact LeO.none _
  | refine LeO.ite ?_ ?_
  | refine LeO.bind ?_ (fun _ => ?_)
def clavigerplain_Same.T6 : Bool × List (List Nat × List Nat) := (true, [([], []), ([], []), ([0, 1], [0, 1]), ([2], [2]), ([], []), ([], []), ([4, 5], [4, 5]), ([6], [6]), ([], []), ([], []), ([8, 3, 0, 1, 2, 3, 8, 9], [3, 8]), ([9, 7, 10, 0, 1, 2, 3, 4, 5, 6, 7, 8, 9, 10], [7, 9])])
def clavigerplain_Same.B6 : List Nat := [0, 0, 3, 7, 0, 0, 48, 112, 0, 0, 783, 2047]
theorem clavigerplain_Same.tab6 : rtab .any (opsOf Tryd.f16 6) = clavigerplain_Same.T6 := by kernel_rfl
theorem clavigerplain_Same.bits6 : waitsOk clavigerplain_Same.T6.2 clavigerplain_Same.B6 = true := by kernel_rfl
set_option maxHeartbeats 8000000 in
set_option maxRecDepth 100000 in
theorem clavigerplain_Same.calls (k : Nat) (A0 : Option Addr) (c0 : Nat) (l0 : List (S41)) (A1 : Option Addr) (c1 : Nat) (l1 : List (S41)) (r : Bool) (w : World) (hr0 : Kd.C k41 w A0 l0.length l0) (hc0 : l0.length ≤ c0) (hr1 : Kd.C k41 w A1 l1.length l1) (hc1 : l1.length ≤ c1) (h : clavigerplain_Same.f k l0 l1 = some r) :
 Calls Tryd.prog 16 #[.slice A0 l0.length c0, .slice A1 l1.length c1] w fun e w' => e = .returned (.bool r) ∧ Below w.heap.size w w' := by
 have hu41 := Tryd.underlying41
 have HR0 := Aside0.mk hr0
 have HC0 := Aside0.mk hc0
 clear hr0 hc0
 have HR1 := Aside0.mk hr1
 have HC1 := Aside0.mk hc1
 clear hr1 hc1
 have HB := Aside0.mk (Below.refl w.heap.size w)
 have H : (if (l0.length : Int) = (l1.length : Int) then (clavigerplain_Same.l0 k l0 l1 0) else (some false)) = some r := h
 clear h
 by_cases c3 : (l0.length : Int) = (l1.length : Int)
 case neg =>
  rw [if_neg c3] at H
  have c3b0 : ((l0.length : Int) == (l1.length : Int)) = false := beq_eq_false_iff_ne.mpr c3
  have c3b1 : ((l0.length : Int) != (l1.length : Int)) = true := bne_iff_ne.mpr c3
  have c3b2 : (l0.length == l1.length) = false := by first | simpa using c3 | (simp at c3 ⊢; omega)
  obtain rfl := Option.some.inj H
  go_enter Tryd.func16, Tryd.ntmps16
  go_wp2
  go_ret
  exact ⟨rse, blw⟩
 rw [if_pos c3] at H
 have c3b0 : ((l0.length : Int) == (l1.length : Int)) = true := beq_iff_eq.mpr c3
 have c3b1 : ((l0.length : Int) != (l1.length : Int)) = false := bne_eq_false_iff_eq.mpr c3
 have c3b2 : (l0.length == l1.length) = true := by first | simpa using c3 | (simp at c3 ⊢; omega)
 clear c3
 have H' := Aside0.mk H
 clear H
 go_enter Tryd.func16, Tryd.ntmps16
 go_wp2
 go_loopg [5] k (fun kq v5 w' => ∃ (x5_1 : Int), v5 = .int .i64 x5_1 ∧ Aside0 (clavigerplain_Same.l0 kq l0 l1 x5_1 = some r) ∧ Aside0 (kq ≤ k) ∧ Aside0 (Below w.heap.size w w'))
 case atStart => exact ⟨(0), rsd, H', ⟨Nat.le_refl _⟩, ⟨blw⟩⟩
 case round =>
  clear H'
  try clear c1
  try clear c3
  try clear c3b0
  try clear c3b1
  try clear c3b2
  obtain ⟨x5_1, rfl, HA, HK1, HB⟩ := hrel
  cases gk with
  | zero => exact absurd HA.out (by simp [clavigerplain_Same.l0])
  | succ k1 =>
   have H := HA.out
   clear HA
   simp only [clavigerplain_Same.l0] at H
   by_cases c4 : x5_1 < (l0.length : Int)
   case neg =>
    rw [if_neg c4] at H
    have c4b0 : decide (x5_1 < (l0.length : Int)) = false := decide_eq_false c4
    clear c4
    obtain rfl := Option.some.inj H
    go_wp2
    go_ret
    exact ⟨rse, blw⟩
   rw [if_pos c4] at H
   have c4b0 : decide (x5_1 < (l0.length : Int)) = true := decide_eq_true c4
   clear c4
   by_cases c5 : 0 ≤ x5_1
   case neg =>
    rw [if_neg c5] at H
    exact absurd H (by simp)
   rw [if_pos c5] at H
   have c5b0 : decide (0 ≤ x5_1) = true := decide_eq_true c5
   clear c5
   by_cases c6 : x5_1 < (l1.length : Int)
   case neg =>
    rw [if_neg c6] at H
    exact absurd H (by simp)
   rw [if_pos c6] at H
   have c6b0 : decide (x5_1 < (l1.length : Int)) = true := decide_eq_true c6
   clear c6
   try go_wp2
   have n0_ := Aside0.mk (below_drew1 HB.out)
   clear HB
   have HB := n0_
   clear n0_
   have p384 : 0 ≤ (x5_1 : Int) := odt
   have q384 : x5_1 < (l0.length : Int) := odt
   obtain ⟨ad384, A384_4, c384_4, e384, hx384_0, hx384_1, hx384_2, hx384_3, hx384_4, hl384_4, hi384_4⟩ := at_T41 HR0.out x5_1 p384 q384
   have hw384_4 := hx384_4
   have hw384_3 := hx384_3
   have hw384_2 := hx384_2
   have hw384_1 := hx384_1
   have hw384_0 := hx384_0
   cases e384
   replace hx384_0 := cellB hx384_0
   replace hx384_1 := cellB hx384_1
   replace hx384_2 := cellB hx384_2
   replace hx384_3 := cellB hx384_3
   replace hx384_4 := cellB hx384_4
   have HR384_4 := Aside0.mk hi384_4
   have HC384_4 := Aside0.mk hl384_4
   clear hi384_4 hl384_4
   replace p384 := eq_true p384
   replace q384 := eq_true q384
   have p385 : 0 ≤ (x5_1 : Int) := odt
   have q385 : x5_1 < (l1.length : Int) := odt
   obtain ⟨ad385, A385_4, c385_4, e385, hx385_0, hx385_1, hx385_2, hx385_3, hx385_4, hl385_4, hi385_4⟩ := at_T41 HR1.out x5_1 p385 q385
   have hw385_4 := hx385_4
   have hw385_3 := hx385_3
   have hw385_2 := hx385_2
   have hw385_1 := hx385_1
   have hw385_0 := hx385_0
   cases e385
   replace hx385_0 := cellB hx385_0
   replace hx385_1 := cellB hx385_1
   replace hx385_2 := cellB hx385_2
   replace hx385_3 := cellB hx385_3
   replace hx385_4 := cellB hx385_4
   have HR385_4 := Aside0.mk hi385_4
   have HC385_4 := Aside0.mk hl385_4
   clear hi385_4 hl385_4
   replace p385 := eq_true p385
   replace q385 := eq_true q385
   refine start_ (n := 12) (S := fun w' => w'.cell? (ad384.add ((x5_1).toNat * 5)) = some (.int .i64 ((rd_T41 l0 x5_1).f0)) ∧ w'.cell? ⟨(ad384.add ((x5_1).toNat * 5)).block, (ad384.add ((x5_1).toNat * 5)).off + 1, none⟩ = some (.int .i64 ((rd_T41 l0 x5_1).f1)) ∧ w'.cell? ⟨(ad384.add ((x5_1).toNat * 5)).block, (ad384.add ((x5_1).toNat * 5)).off + 2, none⟩ = some (.bool ((rd_T41 l0 x5_1).f2)) ∧ w'.cell? ⟨(ad384.add ((x5_1).toNat * 5)).block, (ad384.add ((x5_1).toNat * 5)).off + 3, none⟩ = some (.string ((rd_T41 l0 x5_1).f3)) ∧ w'.cell? ⟨(ad384.add ((x5_1).toNat * 5)).block, (ad384.add ((x5_1).toNat * 5)).off + 4, none⟩ = some (.slice A384_4 ((rd_T41 l0 x5_1).f4).length c384_4) ∧ w'.cell? (ad385.add ((x5_1).toNat * 5)) = some (.int .i64 ((rd_T41 l1 x5_1).f0)) ∧ w'.cell? ⟨(ad385.add ((x5_1).toNat * 5)).block, (ad385.add ((x5_1).toNat * 5)).off + 1, none⟩ = some (.int .i64 ((rd_T41 l1 x5_1).f1)) ∧ w'.cell? ⟨(ad385.add ((x5_1).toNat * 5)).block, (ad385.add ((x5_1).toNat * 5)).off + 2, none⟩ = some (.bool ((rd_T41 l1 x5_1).f2)) ∧ w'.cell? ⟨(ad385.add ((x5_1).toNat * 5)).block, (ad385.add ((x5_1).toNat * 5)).off + 3, none⟩ = some (.string ((rd_T41 l1 x5_1).f3)) ∧ w'.cell? ⟨(ad385.add ((x5_1).toNat * 5)).block, (ad385.add ((x5_1).toNat * 5)).off + 4, none⟩ = some (.slice A385_4 ((rd_T41 l1 x5_1).f4).length c385_4)) (ds := []) #[false, false, false, false, false, false, false, false, false, false, false, false] (by kernel_rfl) rfl rfl ⟨(cellB hw384_0), (cellB hw384_1), (cellB hw384_2), (cellB hw384_3), (cellB hw384_4), (cellB hw385_0), (cellB hw385_1), (cellB hw385_2), (cellB hw385_3), (cellB hw385_4)⟩ (fun hHeld => ?_); refine with_tabW clavigerplain_Same.tab6 clavigerplain_Same.bits6 (fun HG_ HW_ => ?_)
   generalize wr.drew = w10 at HB HR384_4 HR385_4 hx384_0 hx384_1 hx384_2 hx384_3 hx384_4 hx385_0 hx385_1 hx385_2 hx385_3 hx385_4 hHeld ⊢
   refine pu 0 (some 19) ?_
   refine pu 1 (some 20) ?_
   refine pu 2 (some 21) ?_
   refine pu 4 (some 23) ?_
   refine pu 5 (some 24) ?_
   refine pu 6 (some 25) ?_
   refine take_ (i := 3) (N := some 22) (v := ?_) (a' := ?_) #[true, true, true, true, true, true, true, false, false, false, false, false] rfl rfl (take_ofW HG_.out HW_.out (by kernel_rfl)) (fun _ _ _ h => h) (Or.inl ⟨by rfl, ?_⟩) hHeld ?_ ?_
   rotate_left
   ·rintro w' ⟨s0, s1, s2, s3, s4, s5, s6, s7, s8, s9⟩
    go_simp
    with_reducible rfl
   rotate_left
   ·simp only [Act.put, List.setIfInBounds_toArray, List.set_cons_zero, List.set_cons_succ, i64_w, i32_w]
    rfl
   refine take_ (i := 7) (N := some 26) (v := ?_) (a' := ?_) #[true, true, true, true, true, true, true, true, false, false, false, false] rfl rfl (take_ofW HG_.out HW_.out (by kernel_rfl)) (fun _ _ _ h => h) (Or.inl ⟨by rfl, ?_⟩) hHeld ?_ ?_
   rotate_left
   ·rintro w' ⟨s0, s1, s2, s3, s4, s5, s6, s7, s8, s9⟩
    go_simp
    with_reducible rfl
   rotate_left
   ·simp only [Act.put, List.setIfInBounds_toArray, List.set_cons_zero, List.set_cons_succ, i64_w, i32_w]
    rfl
   refine join_ (σ := Nat × Nat) 2 #[true, true, true, true, true, true, true, true, true, true, false, false] (fun s_ => [(6, .pointer (some ⟨s_.1, 0, none⟩)), (7, .pointer (some ⟨s_.2, 0, none⟩))]) (fun s_ w' => (w'.cell? (ad384.add ((x5_1).toNat * 5)) = some (.int .i64 ((rd_T41 l0 x5_1).f0)) ∧ w'.cell? ⟨(ad384.add ((x5_1).toNat * 5)).block, (ad384.add ((x5_1).toNat * 5)).off + 1, none⟩ = some (.int .i64 ((rd_T41 l0 x5_1).f1)) ∧ w'.cell? ⟨(ad384.add ((x5_1).toNat * 5)).block, (ad384.add ((x5_1).toNat * 5)).off + 2, none⟩ = some (.bool ((rd_T41 l0 x5_1).f2)) ∧ w'.cell? ⟨(ad384.add ((x5_1).toNat * 5)).block, (ad384.add ((x5_1).toNat * 5)).off + 3, none⟩ = some (.string ((rd_T41 l0 x5_1).f3)) ∧ w'.cell? ⟨(ad384.add ((x5_1).toNat * 5)).block, (ad384.add ((x5_1).toNat * 5)).off + 4, none⟩ = some (.slice A384_4 ((rd_T41 l0 x5_1).f4).length c384_4) ∧ w'.cell? (ad385.add ((x5_1).toNat * 5)) = some (.int .i64 ((rd_T41 l1 x5_1).f0)) ∧ w'.cell? ⟨(ad385.add ((x5_1).toNat * 5)).block, (ad385.add ((x5_1).toNat * 5)).off + 1, none⟩ = some (.int .i64 ((rd_T41 l1 x5_1).f1)) ∧ w'.cell? ⟨(ad385.add ((x5_1).toNat * 5)).block, (ad385.add ((x5_1).toNat * 5)).off + 2, none⟩ = some (.bool ((rd_T41 l1 x5_1).f2)) ∧ w'.cell? ⟨(ad385.add ((x5_1).toNat * 5)).block, (ad385.add ((x5_1).toNat * 5)).off + 3, none⟩ = some (.string ((rd_T41 l1 x5_1).f3)) ∧ w'.cell? ⟨(ad385.add ((x5_1).toNat * 5)).block, (ad385.add ((x5_1).toNat * 5)).off + 4, none⟩ = some (.slice A385_4 ((rd_T41 l1 x5_1).f4).length c385_4)) ∧ (w'.heap[s_.1]? = some (.cells #[.int .i64 0, .int .i64 0, .bool false, .string (⟨#[]⟩ : ByteArray), .slice none 0 0] 41 (0, 0))) ∧ (w'.heap[s_.2]? = some (.cells #[.int .i64 0, .int .i64 0, .bool false, .string (⟨#[]⟩ : ByteArray), .slice none 0 0] 41 (0, 0))) ∧ (w.heap.size ≤ s_.1) ∧ (w.heap.size ≤ s_.1) ∧ (s_.2 ≠ s_.1) ∧ (s_.1 ≠ s_.2) ∧ (w.heap.size ≤ s_.2) ∧ (w.heap.size ≤ s_.2) ∧ (Below w.heap.size w w')) ?_ ?_
   rotate_left
   ·intro hCont
    refine two_ (i := 8) (j := 9) (Ni := some 6) (Nj := some 7) #[true, true, true, true, true, true, true, true, true, false, false, false] #[true, true, true, true, true, true, true, true, false, true, false, false] rfl rfl rfl rfl (two_of HG_.out (by kernel_rfl)) (by decide) (by decide) (fun K hK => ?_) (fun K hK => ?_)
    ·skip
     refine box_step ?hg (N := 6) ?hd (cs := #[.int .i64 0, .int .i64 0, .bool false, .string (⟨#[]⟩ : ByteArray), .slice none 0 0]) (t := 41) ?hr ?_; (case hd => rfl); (case hg => rfl); (case hr => first | (go_simp; done) | (go_simp; rfl))
     intro gb386 hg w11 hbox hb
     have n0_ := Aside0.mk (below_step blw hb)
     have n1_ := Aside0.mk (hbox)
     have n2_ := Aside0.mk ((by rw [hg]; exact (below_size blw) : w.heap.size ≤ gb386))
     have n3_ := Aside0.mk ((by rw [hg]; exact (below_size blw) : w.heap.size ≤ gb386))
     clear HB
     have HB := n0_
     have BK386 := n1_
     have GW386 := n2_
     have GE386 := n3_
     clear n0_ n1_ n2_ n3_
     clear hb hbox hg
     refine hK.out _ _ ⟨(cellB hw384_0), (cellB hw384_1), (cellB hw384_2), (cellB hw384_3), (cellB hw384_4), (cellB hw385_0), (cellB hw385_1), (cellB hw385_2), (cellB hw385_3), (cellB hw385_4)⟩ (fun hHeld => ?_)
     clear hK K
     refine norm_ (a' := ?_) ?_ ?_
     rotate_left
     ·show Act.put _ (some 6) _ = _
      simp only [Act.put, List.setIfInBounds_toArray, List.set_cons_zero, List.set_cons_succ, i64_w, i32_w]
      rfl
     refine one_ (i := 9) (N := some 7) #[true, true, true, true, true, true, true, true, true, true, false, false] rfl rfl (one_of HG_.out (by kernel_rfl)) (by decide) (fun K hK => ?_)
     refine box_step ?hg (N := 7) ?hd (cs := #[.int .i64 0, .int .i64 0, .bool false, .string (⟨#[]⟩ : ByteArray), .slice none 0 0]) (t := 41) ?hr ?_; (case hd => rfl); (case hg => rfl); (case hr => first | (go_simp; done) | (go_simp; rfl))
     intro gb387 hg w12 hbox hb
     have n0_ := Aside0.mk (blk_below (g := gb386) (o := .cells #[.int .i64 0, .int .i64 0, .bool false, .string (⟨#[]⟩ : ByteArray), .slice none 0 0] 41 (0, 0)) (by (with_reducible repeat (first | refine blk_drewN ?_ _ | refine blk_drew ?_ | refine blk_alloc ?_ _)); exact BK386.out) hb)
     have n1_ := Aside0.mk (below_step (by repeat (first | (with_reducible first | exact HB.out | apply below_alloc | apply pw_below_drewN | apply below_drew1 | refine below_set ?_ GE386.out) | exact HB.out)) hb)
     have n2_ := Aside0.mk (hbox)
     have n3_ := Aside0.mk ((by rw [hg]; exact (below_size (by repeat (first | (with_reducible first | exact HB.out | apply below_alloc | apply pw_below_drewN | apply below_drew1 | refine below_set ?_ GE386.out) | exact HB.out))) : w.heap.size ≤ gb387))
     have n4_ := Aside0.mk ((by rw [hg]; exact (below_size (by repeat (first | (with_reducible first | exact HB.out | apply below_alloc | apply pw_below_drewN | apply below_drew1 | refine below_set ?_ GE386.out) | exact HB.out))) : w.heap.size ≤ gb387))
     have n5_ := Aside0.mk ((by rw [hg]; exact Nat.ne_of_lt (blk_lt (g := gb386) (o := .cells #[.int .i64 0, .int .i64 0, .bool false, .string (⟨#[]⟩ : ByteArray), .slice none 0 0] 41 (0, 0)) (by (with_reducible repeat (first | refine blk_drewN ?_ _ | refine blk_drew ?_ | refine blk_alloc ?_ _)); exact BK386.out)) : gb386 ≠ gb387))
     have n6_ := Aside0.mk ((by rw [hg]; exact Nat.ne_of_gt (blk_lt (g := gb386) (o := .cells #[.int .i64 0, .int .i64 0, .bool false, .string (⟨#[]⟩ : ByteArray), .slice none 0 0] 41 (0, 0)) (by (with_reducible repeat (first | refine blk_drewN ?_ _ | refine blk_drew ?_ | refine blk_alloc ?_ _)); exact BK386.out)) : gb387 ≠ gb386))
     clear BK386
     clear HB
     have BK386 := n0_
     have HB := n1_
     have BK387 := n2_
     have GW387 := n3_
     have GE387 := n4_
     have NB386_387 := n5_
     have NB387_386 := n6_
     clear n0_ n1_ n2_ n3_ n4_ n5_ n6_
     clear hb hbox hg
     refine hK.out _ _ ⟨(cellB hw384_0), (cellB hw384_1), (cellB hw384_2), (cellB hw384_3), (cellB hw384_4), (cellB hw385_0), (cellB hw385_1), (cellB hw385_2), (cellB hw385_3), (cellB hw385_4)⟩ (fun hHeld => ?_)
     clear hK K
     refine norm_ (a' := ?_) ?_ ?_
     rotate_left
     ·show Act.put _ (some 7) _ = _
      simp only [Act.put, List.setIfInBounds_toArray, List.set_cons_zero, List.set_cons_succ, i64_w, i32_w]
      rfl
     exact norm_ (by simp only [putAll, Act.put, List.setIfInBounds_toArray, List.set_cons_zero, List.set_cons_succ]) (hCont (gb386, gb387) _ ⟨hHeld, (by (with_reducible repeat (first | refine blk_drewN ?_ _ | refine blk_drew ?_ | refine blk_alloc ?_ _)); exact BK386.out), (by (with_reducible repeat (first | refine blk_drewN ?_ _ | refine blk_drew ?_ | refine blk_alloc ?_ _)); exact BK387.out), GW386.out, GE386.out, NB387_386.out, NB386_387.out, GW387.out, GE387.out, (by repeat (first | (with_reducible first | exact HB.out | apply below_alloc | apply pw_below_drewN | apply below_drew1 | refine below_set ?_ GE386.out | refine below_set ?_ GE387.out) | exact HB.out))⟩)
    ·skip
     refine box_step ?hg (N := 7) ?hd (cs := #[.int .i64 0, .int .i64 0, .bool false, .string (⟨#[]⟩ : ByteArray), .slice none 0 0]) (t := 41) ?hr ?_; (case hd => rfl); (case hg => rfl); (case hr => first | (go_simp; done) | (go_simp; rfl))
     intro gb387 hg w11 hbox hb
     have n0_ := Aside0.mk (below_step blw hb)
     have n1_ := Aside0.mk (hbox)
     have n2_ := Aside0.mk ((by rw [hg]; exact (below_size blw) : w.heap.size ≤ gb387))
     have n3_ := Aside0.mk ((by rw [hg]; exact (below_size blw) : w.heap.size ≤ gb387))
     clear HB
     have HB := n0_
     have BK387 := n1_
     have GW387 := n2_
     have GE387 := n3_
     clear n0_ n1_ n2_ n3_
     clear hb hbox hg
     refine hK.out _ _ ⟨(cellB hw384_0), (cellB hw384_1), (cellB hw384_2), (cellB hw384_3), (cellB hw384_4), (cellB hw385_0), (cellB hw385_1), (cellB hw385_2), (cellB hw385_3), (cellB hw385_4)⟩ (fun hHeld => ?_)
     clear hK K
     refine norm_ (a' := ?_) ?_ ?_
     rotate_left
     ·show Act.put _ (some 7) _ = _
      simp only [Act.put, List.setIfInBounds_toArray, List.set_cons_zero, List.set_cons_succ, i64_w, i32_w]
      rfl
     refine one_ (i := 8) (N := some 6) #[true, true, true, true, true, true, true, true, true, true, false, false] rfl rfl (one_of HG_.out (by kernel_rfl)) (by decide) (fun K hK => ?_)
     refine box_step ?hg (N := 6) ?hd (cs := #[.int .i64 0, .int .i64 0, .bool false, .string (⟨#[]⟩ : ByteArray), .slice none 0 0]) (t := 41) ?hr ?_; (case hd => rfl); (case hg => rfl); (case hr => first | (go_simp; done) | (go_simp; rfl))
     intro gb386 hg w12 hbox hb
     have n0_ := Aside0.mk (blk_below (g := gb387) (o := .cells #[.int .i64 0, .int .i64 0, .bool false, .string (⟨#[]⟩ : ByteArray), .slice none 0 0] 41 (0, 0)) (by (with_reducible repeat (first | refine blk_drewN ?_ _ | refine blk_drew ?_ | refine blk_alloc ?_ _)); exact BK387.out) hb)
     have n1_ := Aside0.mk (below_step (by repeat (first | (with_reducible first | exact HB.out | apply below_alloc | apply pw_below_drewN | apply below_drew1 | refine below_set ?_ GE387.out) | exact HB.out)) hb)
     have n2_ := Aside0.mk (hbox)
     have n3_ := Aside0.mk ((by rw [hg]; exact (below_size (by repeat (first | (with_reducible first | exact HB.out | apply below_alloc | apply pw_below_drewN | apply below_drew1 | refine below_set ?_ GE387.out) | exact HB.out))) : w.heap.size ≤ gb386))
     have n4_ := Aside0.mk ((by rw [hg]; exact (below_size (by repeat (first | (with_reducible first | exact HB.out | apply below_alloc | apply pw_below_drewN | apply below_drew1 | refine below_set ?_ GE387.out) | exact HB.out))) : w.heap.size ≤ gb386))
     have n5_ := Aside0.mk ((by rw [hg]; exact Nat.ne_of_lt (blk_lt (g := gb387) (o := .cells #[.int .i64 0, .int .i64 0, .bool false, .string (⟨#[]⟩ : ByteArray), .slice none 0 0] 41 (0, 0)) (by (with_reducible repeat (first | refine blk_drewN ?_ _ | refine blk_drew ?_ | refine blk_alloc ?_ _)); exact BK387.out)) : gb387 ≠ gb386))
     have n6_ := Aside0.mk ((by rw [hg]; exact Nat.ne_of_gt (blk_lt (g := gb387) (o := .cells #[.int .i64 0, .int .i64 0, .bool false, .string (⟨#[]⟩ : ByteArray), .slice none 0 0] 41 (0, 0)) (by (with_reducible repeat (first | refine blk_drewN ?_ _ | refine blk_drew ?_ | refine blk_alloc ?_ _)); exact BK387.out)) : gb386 ≠ gb387))
     clear BK387
     clear HB
     have BK387 := n0_
     have HB := n1_
     have BK386 := n2_
     have GW386 := n3_
     have GE386 := n4_
     have NB387_386 := n5_
     have NB386_387 := n6_
     clear n0_ n1_ n2_ n3_ n4_ n5_ n6_
     clear hb hbox hg
     refine hK.out _ _ ⟨(cellB hw384_0), (cellB hw384_1), (cellB hw384_2), (cellB hw384_3), (cellB hw384_4), (cellB hw385_0), (cellB hw385_1), (cellB hw385_2), (cellB hw385_3), (cellB hw385_4)⟩ (fun hHeld => ?_)
     clear hK K
     refine norm_ (a' := ?_) ?_ ?_
     rotate_left
     ·show Act.put _ (some 6) _ = _
      simp only [Act.put, List.setIfInBounds_toArray, List.set_cons_zero, List.set_cons_succ, i64_w, i32_w]
      rfl
     exact norm_ (by simp only [putAll, Act.put, List.setIfInBounds_toArray, List.set_cons_zero, List.set_cons_succ]) (hCont (gb386, gb387) _ ⟨hHeld, (by (with_reducible repeat (first | refine blk_drewN ?_ _ | refine blk_drew ?_ | refine blk_alloc ?_ _)); exact BK386.out), (by (with_reducible repeat (first | refine blk_drewN ?_ _ | refine blk_drew ?_ | refine blk_alloc ?_ _)); exact BK387.out), GW386.out, GE386.out, NB387_386.out, NB386_387.out, GW387.out, GE387.out, (by repeat (first | (with_reducible first | exact HB.out | apply below_alloc | apply pw_below_drewN | apply below_drew1 | refine below_set ?_ GE387.out | refine below_set ?_ GE386.out) | exact HB.out))⟩)
   rintro ⟨gb386, gb387⟩ w13 ⟨hS_, h0_, h1_, h2_, h3_, h4_, h5_, h6_, h7_, h8_⟩
   have n0_ : Aside0 (w13.heap[gb386]? = some (.cells #[.int .i64 0, .int .i64 0, .bool false, .string (⟨#[]⟩ : ByteArray), .slice none 0 0] 41 (0, 0))) := ⟨h0_⟩
   have n1_ : Aside0 (w13.heap[gb387]? = some (.cells #[.int .i64 0, .int .i64 0, .bool false, .string (⟨#[]⟩ : ByteArray), .slice none 0 0] 41 (0, 0))) := ⟨h1_⟩
   have n2_ : Aside0 (w.heap.size ≤ gb386) := ⟨h2_⟩
   have n3_ : Aside0 (w.heap.size ≤ gb386) := ⟨h3_⟩
   have n4_ : Aside0 (gb387 ≠ gb386) := ⟨h4_⟩
   have n5_ : Aside0 (gb386 ≠ gb387) := ⟨h5_⟩
   have n6_ : Aside0 (w.heap.size ≤ gb387) := ⟨h6_⟩
   have n7_ : Aside0 (w.heap.size ≤ gb387) := ⟨h7_⟩
   have n8_ : Aside0 (Below w.heap.size w w13) := ⟨h8_⟩
   clear HB
   clear h0_ h1_ h2_ h3_ h4_ h5_ h6_ h7_ h8_
   have BK386 := n0_
   have BK387 := n1_
   have GW386 := n2_
   have GE386 := n3_
   have NB387_386 := n4_
   have NB386_387 := n5_
   have GW387 := n6_
   have GE387 := n7_
   have HB := n8_
   clear n0_ n1_ n2_ n3_ n4_ n5_ n6_ n7_ n8_
   have hHeld : w13.cell? (ad384.add ((x5_1).toNat * 5)) = some (.int .i64 ((rd_T41 l0 x5_1).f0)) ∧ w13.cell? ⟨(ad384.add ((x5_1).toNat * 5)).block, (ad384.add ((x5_1).toNat * 5)).off + 1, none⟩ = some (.int .i64 ((rd_T41 l0 x5_1).f1)) ∧ w13.cell? ⟨(ad384.add ((x5_1).toNat * 5)).block, (ad384.add ((x5_1).toNat * 5)).off + 2, none⟩ = some (.bool ((rd_T41 l0 x5_1).f2)) ∧ w13.cell? ⟨(ad384.add ((x5_1).toNat * 5)).block, (ad384.add ((x5_1).toNat * 5)).off + 3, none⟩ = some (.string ((rd_T41 l0 x5_1).f3)) ∧ w13.cell? ⟨(ad384.add ((x5_1).toNat * 5)).block, (ad384.add ((x5_1).toNat * 5)).off + 4, none⟩ = some (.slice A384_4 ((rd_T41 l0 x5_1).f4).length c384_4) ∧ w13.cell? (ad385.add ((x5_1).toNat * 5)) = some (.int .i64 ((rd_T41 l1 x5_1).f0)) ∧ w13.cell? ⟨(ad385.add ((x5_1).toNat * 5)).block, (ad385.add ((x5_1).toNat * 5)).off + 1, none⟩ = some (.int .i64 ((rd_T41 l1 x5_1).f1)) ∧ w13.cell? ⟨(ad385.add ((x5_1).toNat * 5)).block, (ad385.add ((x5_1).toNat * 5)).off + 2, none⟩ = some (.bool ((rd_T41 l1 x5_1).f2)) ∧ w13.cell? ⟨(ad385.add ((x5_1).toNat * 5)).block, (ad385.add ((x5_1).toNat * 5)).off + 3, none⟩ = some (.string ((rd_T41 l1 x5_1).f3)) ∧ w13.cell? ⟨(ad385.add ((x5_1).toNat * 5)).block, (ad385.add ((x5_1).toNat * 5)).off + 4, none⟩ = some (.slice A385_4 ((rd_T41 l1 x5_1).f4).length c385_4) := hS_
   refine norm_ (a' := ?_) ?_ ?_
   rotate_left
   ·simp only [putAll, Act.put, List.setIfInBounds_toArray, List.set_cons_zero, List.set_cons_succ]
    rfl
   refine one_ (i := 10) (N := none) #[true, true, true, true, true, true, true, true, true, true, true, false] rfl rfl (one_of HG_.out (by kernel_rfl)) (by decide) (fun K hK => ?_)
   have hs14 : w13.cell? ⟨gb386, 0, none⟩ = some (.int .i64 0) := (blk_cell BK386.out 0).trans rfl
   have hfs14 := blk_frozen BK386.out 0
   have hns14_1 := NB387_386.out
   have hms14_1 := NB386_387.out
   have hs15 : w13.cell? ⟨gb386, 1, none⟩ = some (.int .i64 0) := (blk_cell BK386.out 1).trans rfl
   have hfs15 := blk_frozen BK386.out 1
   have hns15_1 := NB387_386.out
   have hms15_1 := NB386_387.out
   have hs16 : w13.cell? ⟨gb386, 2, none⟩ = some (.bool false) := (blk_cell BK386.out 2).trans rfl
   have hfs16 := blk_frozen BK386.out 2
   have hns16_1 := NB387_386.out
   have hms16_1 := NB386_387.out
   have hs17 : w13.cell? ⟨gb386, 3, none⟩ = some (.string (⟨#[]⟩ : ByteArray)) := (blk_cell BK386.out 3).trans rfl
   have hfs17 := blk_frozen BK386.out 3
   have hns17_1 := NB387_386.out
   have hms17_1 := NB386_387.out
   have hs18 : w13.cell? ⟨gb386, 4, none⟩ = some (.slice none 0 0) := (blk_cell BK386.out 4).trans rfl
   have hfs18 := blk_frozen BK386.out 4
   have hns18_1 := NB387_386.out
   have hms18_1 := NB386_387.out
   refine skip_ (w1 := ?_) (by rfl) rfl ?_ ?_
   rotate_left
   ·go_simp
    rfl
   refine hK.out _ _ ⟨((cell_far (p := ⟨gb386, _, none⟩) (farb hw384_0 GW386.out) _).trans (((cell_far (p := ⟨gb386, _, none⟩) (farb hw384_0 GW386.out) _).trans (((cell_far (p := ⟨gb386, _, none⟩) (farb hw384_0 GW386.out) _).trans (((cell_far (p := ⟨gb386, _, none⟩) (farb hw384_0 GW386.out) _).trans (((cell_far (p := ⟨gb386, _, none⟩) (farb hw384_0 GW386.out) _).trans (hHeld.1)))))))))), ((cell_far (p := ⟨gb386, _, none⟩) (farb hw384_1 GW386.out) _).trans (((cell_far (p := ⟨gb386, _, none⟩) (farb hw384_1 GW386.out) _).trans (((cell_far (p := ⟨gb386, _, none⟩) (farb hw384_1 GW386.out) _).trans (((cell_far (p := ⟨gb386, _, none⟩) (farb hw384_1 GW386.out) _).trans (((cell_far (p := ⟨gb386, _, none⟩) (farb hw384_1 GW386.out) _).trans (hHeld.2.1)))))))))), ((cell_far (p := ⟨gb386, _, none⟩) (farb hw384_2 GW386.out) _).trans (((cell_far (p := ⟨gb386, _, none⟩) (farb hw384_2 GW386.out) _).trans (((cell_far (p := ⟨gb386, _, none⟩) (farb hw384_2 GW386.out) _).trans (((cell_far (p := ⟨gb386, _, none⟩) (farb hw384_2 GW386.out) _).trans (((cell_far (p := ⟨gb386, _, none⟩) (farb hw384_2 GW386.out) _).trans (hHeld.2.2.1)))))))))), ((cell_far (p := ⟨gb386, _, none⟩) (farb hw384_3 GW386.out) _).trans (((cell_far (p := ⟨gb386, _, none⟩) (farb hw384_3 GW386.out) _).trans (((cell_far (p := ⟨gb386, _, none⟩) (farb hw384_3 GW386.out) _).trans (((cell_far (p := ⟨gb386, _, none⟩) (farb hw384_3 GW386.out) _).trans (((cell_far (p := ⟨gb386, _, none⟩) (farb hw384_3 GW386.out) _).trans (hHeld.2.2.2.1)))))))))), ((cell_far (p := ⟨gb386, _, none⟩) (farb hw384_4 GW386.out) _).trans (((cell_far (p := ⟨gb386, _, none⟩) (farb hw384_4 GW386.out) _).trans (((cell_far (p := ⟨gb386, _, none⟩) (farb hw384_4 GW386.out) _).trans (((cell_far (p := ⟨gb386, _, none⟩) (farb hw384_4 GW386.out) _).trans (((cell_far (p := ⟨gb386, _, none⟩) (farb hw384_4 GW386.out) _).trans (hHeld.2.2.2.2.1)))))))))), ((cell_far (p := ⟨gb386, _, none⟩) (farb hw385_0 GW386.out) _).trans (((cell_far (p := ⟨gb386, _, none⟩) (farb hw385_0 GW386.out) _).trans (((cell_far (p := ⟨gb386, _, none⟩) (farb hw385_0 GW386.out) _).trans (((cell_far (p := ⟨gb386, _, none⟩) (farb hw385_0 GW386.out) _).trans (((cell_far (p := ⟨gb386, _, none⟩) (farb hw385_0 GW386.out) _).trans (hHeld.2.2.2.2.2.1)))))))))), ((cell_far (p := ⟨gb386, _, none⟩) (farb hw385_1 GW386.out) _).trans (((cell_far (p := ⟨gb386, _, none⟩) (farb hw385_1 GW386.out) _).trans (((cell_far (p := ⟨gb386, _, none⟩) (farb hw385_1 GW386.out) _).trans (((cell_far (p := ⟨gb386, _, none⟩) (farb hw385_1 GW386.out) _).trans (((cell_far (p := ⟨gb386, _, none⟩) (farb hw385_1 GW386.out) _).trans (hHeld.2.2.2.2.2.2.1)))))))))), ((cell_far (p := ⟨gb386, _, none⟩) (farb hw385_2 GW386.out) _).trans (((cell_far (p := ⟨gb386, _, none⟩) (farb hw385_2 GW386.out) _).trans (((cell_far (p := ⟨gb386, _, none⟩) (farb hw385_2 GW386.out) _).trans (((cell_far (p := ⟨gb386, _, none⟩) (farb hw385_2 GW386.out) _).trans (((cell_far (p := ⟨gb386, _, none⟩) (farb hw385_2 GW386.out) _).trans (hHeld.2.2.2.2.2.2.2.1)))))))))), ((cell_far (p := ⟨gb386, _, none⟩) (farb hw385_3 GW386.out) _).trans (((cell_far (p := ⟨gb386, _, none⟩) (farb hw385_3 GW386.out) _).trans (((cell_far (p := ⟨gb386, _, none⟩) (farb hw385_3 GW386.out) _).trans (((cell_far (p := ⟨gb386, _, none⟩) (farb hw385_3 GW386.out) _).trans (((cell_far (p := ⟨gb386, _, none⟩) (farb hw385_3 GW386.out) _).trans (hHeld.2.2.2.2.2.2.2.2.1)))))))))), ((cell_far (p := ⟨gb386, _, none⟩) (farb hw385_4 GW386.out) _).trans (((cell_far (p := ⟨gb386, _, none⟩) (farb hw385_4 GW386.out) _).trans (((cell_far (p := ⟨gb386, _, none⟩) (farb hw385_4 GW386.out) _).trans (((cell_far (p := ⟨gb386, _, none⟩) (farb hw385_4 GW386.out) _).trans (((cell_far (p := ⟨gb386, _, none⟩) (farb hw385_4 GW386.out) _).trans (hHeld.2.2.2.2.2.2.2.2.2))))))))))⟩ (fun hHeld => ?_)
   clear hK K
   refine one_ (i := 11) (N := none) #[true, true, true, true, true, true, true, true, true, true, true, true] rfl rfl (one_of HG_.out (by kernel_rfl)) (by decide) (fun K hK => ?_)
   have hs19 : w13.cell? ⟨gb387, 0, none⟩ = some (.int .i64 0) := (blk_cell BK387.out 0).trans rfl
   have hfs19 := blk_frozen BK387.out 0
   have hns19_0 := NB386_387.out
   have hms19_0 := NB387_386.out
   have hs20 : w13.cell? ⟨gb387, 1, none⟩ = some (.int .i64 0) := (blk_cell BK387.out 1).trans rfl
   have hfs20 := blk_frozen BK387.out 1
   have hns20_0 := NB386_387.out
   have hms20_0 := NB387_386.out
   have hs21 : w13.cell? ⟨gb387, 2, none⟩ = some (.bool false) := (blk_cell BK387.out 2).trans rfl
   have hfs21 := blk_frozen BK387.out 2
   have hns21_0 := NB386_387.out
   have hms21_0 := NB387_386.out
   have hs22 : w13.cell? ⟨gb387, 3, none⟩ = some (.string (⟨#[]⟩ : ByteArray)) := (blk_cell BK387.out 3).trans rfl
   have hfs22 := blk_frozen BK387.out 3
   have hns22_0 := NB386_387.out
   have hms22_0 := NB387_386.out
   have hs23 : w13.cell? ⟨gb387, 4, none⟩ = some (.slice none 0 0) := (blk_cell BK387.out 4).trans rfl
   have hfs23 := blk_frozen BK387.out 4
   have hns23_0 := NB386_387.out
   have hms23_0 := NB387_386.out
   refine skip_ (w1 := ?_) (by rfl) rfl ?_ ?_
   rotate_left
   ·go_simp
    rfl
   refine hK.out _ _ ⟨((cell_far (p := ⟨gb387, _, none⟩) (farb hw384_0 GW387.out) _).trans (((cell_far (p := ⟨gb387, _, none⟩) (farb hw384_0 GW387.out) _).trans (((cell_far (p := ⟨gb387, _, none⟩) (farb hw384_0 GW387.out) _).trans (((cell_far (p := ⟨gb387, _, none⟩) (farb hw384_0 GW387.out) _).trans (((cell_far (p := ⟨gb387, _, none⟩) (farb hw384_0 GW387.out) _).trans (hHeld.1)))))))))), ((cell_far (p := ⟨gb387, _, none⟩) (farb hw384_1 GW387.out) _).trans (((cell_far (p := ⟨gb387, _, none⟩) (farb hw384_1 GW387.out) _).trans (((cell_far (p := ⟨gb387, _, none⟩) (farb hw384_1 GW387.out) _).trans (((cell_far (p := ⟨gb387, _, none⟩) (farb hw384_1 GW387.out) _).trans (((cell_far (p := ⟨gb387, _, none⟩) (farb hw384_1 GW387.out) _).trans (hHeld.2.1)))))))))), ((cell_far (p := ⟨gb387, _, none⟩) (farb hw384_2 GW387.out) _).trans (((cell_far (p := ⟨gb387, _, none⟩) (farb hw384_2 GW387.out) _).trans (((cell_far (p := ⟨gb387, _, none⟩) (farb hw384_2 GW387.out) _).trans (((cell_far (p := ⟨gb387, _, none⟩) (farb hw384_2 GW387.out) _).trans (((cell_far (p := ⟨gb387, _, none⟩) (farb hw384_2 GW387.out) _).trans (hHeld.2.2.1)))))))))), ((cell_far (p := ⟨gb387, _, none⟩) (farb hw384_3 GW387.out) _).trans (((cell_far (p := ⟨gb387, _, none⟩) (farb hw384_3 GW387.out) _).trans (((cell_far (p := ⟨gb387, _, none⟩) (farb hw384_3 GW387.out) _).trans (((cell_far (p := ⟨gb387, _, none⟩) (farb hw384_3 GW387.out) _).trans (((cell_far (p := ⟨gb387, _, none⟩) (farb hw384_3 GW387.out) _).trans (hHeld.2.2.2.1)))))))))), ((cell_far (p := ⟨gb387, _, none⟩) (farb hw384_4 GW387.out) _).trans (((cell_far (p := ⟨gb387, _, none⟩) (farb hw384_4 GW387.out) _).trans (((cell_far (p := ⟨gb387, _, none⟩) (farb hw384_4 GW387.out) _).trans (((cell_far (p := ⟨gb387, _, none⟩) (farb hw384_4 GW387.out) _).trans (((cell_far (p := ⟨gb387, _, none⟩) (farb hw384_4 GW387.out) _).trans (hHeld.2.2.2.2.1)))))))))), ((cell_far (p := ⟨gb387, _, none⟩) (farb hw385_0 GW387.out) _).trans (((cell_far (p := ⟨gb387, _, none⟩) (farb hw385_0 GW387.out) _).trans (((cell_far (p := ⟨gb387, _, none⟩) (farb hw385_0 GW387.out) _).trans (((cell_far (p := ⟨gb387, _, none⟩) (farb hw385_0 GW387.out) _).trans (((cell_far (p := ⟨gb387, _, none⟩) (farb hw385_0 GW387.out) _).trans (hHeld.2.2.2.2.2.1)))))))))), ((cell_far (p := ⟨gb387, _, none⟩) (farb hw385_1 GW387.out) _).trans (((cell_far (p := ⟨gb387, _, none⟩) (farb hw385_1 GW387.out) _).trans (((cell_far (p := ⟨gb387, _, none⟩) (farb hw385_1 GW387.out) _).trans (((cell_far (p := ⟨gb387, _, none⟩) (farb hw385_1 GW387.out) _).trans (((cell_far (p := ⟨gb387, _, none⟩) (farb hw385_1 GW387.out) _).trans (hHeld.2.2.2.2.2.2.1)))))))))), ((cell_far (p := ⟨gb387, _, none⟩) (farb hw385_2 GW387.out) _).trans (((cell_far (p := ⟨gb387, _, none⟩) (farb hw385_2 GW387.out) _).trans (((cell_far (p := ⟨gb387, _, none⟩) (farb hw385_2 GW387.out) _).trans (((cell_far (p := ⟨gb387, _, none⟩) (farb hw385_2 GW387.out) _).trans (((cell_far (p := ⟨gb387, _, none⟩) (farb hw385_2 GW387.out) _).trans (hHeld.2.2.2.2.2.2.2.1)))))))))), ((cell_far (p := ⟨gb387, _, none⟩) (farb hw385_3 GW387.out) _).trans (((cell_far (p := ⟨gb387, _, none⟩) (farb hw385_3 GW387.out) _).trans (((cell_far (p := ⟨gb387, _, none⟩) (farb hw385_3 GW387.out) _).trans (((cell_far (p := ⟨gb387, _, none⟩) (farb hw385_3 GW387.out) _).trans (((cell_far (p := ⟨gb387, _, none⟩) (farb hw385_3 GW387.out) _).trans (hHeld.2.2.2.2.2.2.2.2.1)))))))))), ((cell_far (p := ⟨gb387, _, none⟩) (farb hw385_4 GW387.out) _).trans (((cell_far (p := ⟨gb387, _, none⟩) (farb hw385_4 GW387.out) _).trans (((cell_far (p := ⟨gb387, _, none⟩) (farb hw385_4 GW387.out) _).trans (((cell_far (p := ⟨gb387, _, none⟩) (farb hw385_4 GW387.out) _).trans (((cell_far (p := ⟨gb387, _, none⟩) (farb hw385_4 GW387.out) _).trans (hHeld.2.2.2.2.2.2.2.2.2))))))))))⟩ (fun hHeld => ?_)
   clear hK K
   refine done_ (done_of HG_.out (by kernel_rfl)) ?_
   have hnb24 := NB386_387.out
   have hnc24 := NB387_386.out
   have hcz25_0 : w13.cell? ⟨gb386, 0, none⟩ = some (.int .i64 0) := (blk_cell BK386.out 0).trans rfl
   have hcz25_1 : w13.cell? ⟨gb386, 1, none⟩ = some (.int .i64 0) := (blk_cell BK386.out 1).trans rfl
   have hcz25_2 : w13.cell? ⟨gb386, 2, none⟩ = some (.bool false) := (blk_cell BK386.out 2).trans rfl
   have hcz25_3 : w13.cell? ⟨gb386, 3, none⟩ = some (.string (⟨#[]⟩ : ByteArray)) := (blk_cell BK386.out 3).trans rfl
   have hcz25_4 : w13.cell? ⟨gb386, 4, none⟩ = some (.slice none 0 0) := (blk_cell BK386.out 4).trans rfl
   have hfz25_0 := blk_frozen BK386.out 0
   have hfz25_1 := blk_frozen BK386.out 1
   have hfz25_2 := blk_frozen BK386.out 2
   have hfz25_3 := blk_frozen BK386.out 3
   have hfz25_4 := blk_frozen BK386.out 4
   have hcz26_0 : w13.cell? ⟨gb387, 0, none⟩ = some (.int .i64 0) := (blk_cell BK387.out 0).trans rfl
   have hcz26_1 : w13.cell? ⟨gb387, 1, none⟩ = some (.int .i64 0) := (blk_cell BK387.out 1).trans rfl
   have hcz26_2 : w13.cell? ⟨gb387, 2, none⟩ = some (.bool false) := (blk_cell BK387.out 2).trans rfl
   have hcz26_3 : w13.cell? ⟨gb387, 3, none⟩ = some (.string (⟨#[]⟩ : ByteArray)) := (blk_cell BK387.out 3).trans rfl
   have hcz26_4 : w13.cell? ⟨gb387, 4, none⟩ = some (.slice none 0 0) := (blk_cell BK387.out 4).trans rfl
   have hfz26_0 := blk_frozen BK387.out 0
   have hfz26_1 := blk_frozen BK387.out 1
   have hfz26_2 := blk_frozen BK387.out 2
   have hfz26_3 := blk_frozen BK387.out 3
   have hfz26_4 := blk_frozen BK387.out 4
   by_cases c7 : ((rd_T41 l0 x5_1).f0) = ((rd_T41 l1 x5_1).f0)
   case neg =>
    rw [if_neg c7] at H
    have c7b0 : (((rd_T41 l0 x5_1).f0) == ((rd_T41 l1 x5_1).f0)) = false := beq_eq_false_iff_ne.mpr c7
    have c7b1 : (((rd_T41 l0 x5_1).f0) != ((rd_T41 l1 x5_1).f0)) = true := bne_iff_ne.mpr c7
    obtain rfl := Option.some.inj H
    try go_wp2
    go_ret
    exact ⟨rse, by repeat (first | (with_reducible first | exact HB.out | apply below_alloc | apply pw_below_drewN | apply below_drew1 | refine below_set ?_ GE386.out | refine below_set ?_ GE387.out) | exact HB.out)⟩
   rw [if_pos c7] at H
   have c7b0 : (((rd_T41 l0 x5_1).f0) == ((rd_T41 l1 x5_1).f0)) = true := beq_iff_eq.mpr c7
   have c7b1 : (((rd_T41 l0 x5_1).f0) != ((rd_T41 l1 x5_1).f0)) = false := bne_eq_false_iff_eq.mpr c7
   clear c7
   by_cases c8 : ((rd_T41 l0 x5_1).f1) = ((rd_T41 l1 x5_1).f1)
   case neg =>
    rw [if_neg c8] at H
    have c8b0 : (((rd_T41 l0 x5_1).f1) == ((rd_T41 l1 x5_1).f1)) = false := beq_eq_false_iff_ne.mpr c8
    have c8b1 : (((rd_T41 l0 x5_1).f1) != ((rd_T41 l1 x5_1).f1)) = true := bne_iff_ne.mpr c8
    obtain rfl := Option.some.inj H
    try go_wp2
    go_ret
    exact ⟨rse, by repeat (first | (with_reducible first | exact HB.out | apply below_alloc | apply pw_below_drewN | apply below_drew1 | refine below_set ?_ GE386.out | refine below_set ?_ GE387.out) | exact HB.out)⟩
   rw [if_pos c8] at H
   have c8b0 : (((rd_T41 l0 x5_1).f1) == ((rd_T41 l1 x5_1).f1)) = true := beq_iff_eq.mpr c8
   have c8b1 : (((rd_T41 l0 x5_1).f1) != ((rd_T41 l1 x5_1).f1)) = false := bne_eq_false_iff_eq.mpr c8
   clear c8
   by_cases c9 : (((rd_T41 l0 x5_1).f2) != ((rd_T41 l1 x5_1).f2)) = true
   case pos =>
    rw [if_pos c9] at H
    have c9b0 : (((rd_T41 l0 x5_1).f2) != ((rd_T41 l1 x5_1).f2)) = true := c9
    (try (have c9b1 : decide (((rd_T41 l0 x5_1).f2) = ((rd_T41 l1 x5_1).f2)) = false := by simpa using c9))
    (try (have c9b2 : (((rd_T41 l0 x5_1).f2) == ((rd_T41 l1 x5_1).f2)) = false := by simpa using c9))
    (try (have c9b3 : ¬ (((rd_T41 l0 x5_1).f2) = ((rd_T41 l1 x5_1).f2)) := by simpa using c9))
    clear c9
    obtain rfl := Option.some.inj H
    try go_wp2
    go_ret
    exact ⟨rse, by repeat (first | (with_reducible first | exact HB.out | apply below_alloc | apply pw_below_drewN | apply below_drew1 | refine below_set ?_ GE386.out | refine below_set ?_ GE387.out) | exact HB.out)⟩
   rw [if_neg c9] at H
   have c9b0 : (((rd_T41 l0 x5_1).f2) != ((rd_T41 l1 x5_1).f2)) = false := by simpa using c9
   (try (have c9b1 : decide (((rd_T41 l0 x5_1).f2) = ((rd_T41 l1 x5_1).f2)) = true := by simpa using c9))
   (try (have c9b2 : (((rd_T41 l0 x5_1).f2) == ((rd_T41 l1 x5_1).f2)) = true := by simpa using c9))
   clear c9
   by_cases c27 : ((rd_T41 l0 x5_1).f3).toList = ((rd_T41 l1 x5_1).f3).toList
   case neg =>
    rw [if_neg c27] at H
    have c27b0 : (((rd_T41 l0 x5_1).f3).toList == ((rd_T41 l1 x5_1).f3).toList) = false := beq_eq_false_iff_ne.mpr c27
    have c27b1 : (((rd_T41 l0 x5_1).f3).toList != ((rd_T41 l1 x5_1).f3).toList) = true := bne_iff_ne.mpr c27
    obtain rfl := Option.some.inj H
    try go_wp2
    go_ret
    exact ⟨rse, by repeat (first | (with_reducible first | exact HB.out | apply below_alloc | apply pw_below_drewN | apply below_drew1 | refine below_set ?_ GE386.out | refine below_set ?_ GE387.out) | exact HB.out)⟩
   rw [if_pos c27] at H
   have c27b0 : (((rd_T41 l0 x5_1).f3).toList == ((rd_T41 l1 x5_1).f3).toList) = true := beq_iff_eq.mpr c27
   have c27b1 : (((rd_T41 l0 x5_1).f3).toList != ((rd_T41 l1 x5_1).f3).toList) = false := bne_eq_false_iff_eq.mpr c27
   clear c27
   replace H := Option.bind_eq_some_iff.mp H
   obtain ⟨t388, A280, H⟩ := H
   replace H : (if t388 = true then (clavigerplain_Same.l0 k1 l0 l1 (wrap64 (x5_1 + 1))) else (some false)) = some r := H
   have A28 := Aside0.mk A280
   clear A280
   by_cases c29 : t388 = true
   case neg =>
    replace c29 := Bool.eq_false_iff.mpr c29
    subst c29
    have H1 : (some false) = some r := by rw [if_neg (show ¬ (false = true) by decide)] at H; exact H
    clear H
    have H := H1
    clear H1
    obtain rfl := Option.some.inj H
    try go_wp2_with (first | (go_at_call 31; (with_reducible refine (clavigerplain_Ints.calls k1 _ _ ((rd_T41 l0 x5_1).f4) _ _ ((rd_T41 l1 x5_1).f4) false _ ?side1 ?side2 ?side3 ?side4 A28.out).mono ?_); (case side1 => exact Kd.C_below HR384_4.out (by repeat (first | (with_reducible first | exact HB.out | apply below_alloc | apply pw_below_drewN | apply below_drew1 | refine below_set ?_ GE386.out | refine below_set ?_ GE387.out) | exact HB.out))); (case side2 => exact HC384_4.out); (case side3 => exact Kd.C_below HR385_4.out (by repeat (first | (with_reducible first | exact HB.out | apply below_alloc | apply pw_below_drewN | apply below_drew1 | refine below_set ?_ GE386.out | refine below_set ?_ GE387.out) | exact HB.out))); (case side4 => exact HC385_4.out); rintro e w' ⟨rfl, ⟨nd, rfl⟩⟩))
    go_ret
    exact ⟨rse, by repeat (first | (with_reducible first | exact HB.out | apply below_alloc | apply pw_below_drewN | apply below_drew1 | refine below_set ?_ GE386.out | refine below_set ?_ GE387.out) | exact HB.out)⟩
   subst c29
   have H1 : (clavigerplain_Same.l0 k1 l0 l1 (wrap64 (x5_1 + 1))) = some r := by rw [if_pos rfl] at H; exact H
   clear H
   have H := H1
   clear H1
   have H' := Aside0.mk H
   clear H
   try go_wp2_with (first | (go_at_call 31; (with_reducible refine (clavigerplain_Ints.calls k1 _ _ ((rd_T41 l0 x5_1).f4) _ _ ((rd_T41 l1 x5_1).f4) true _ ?side1 ?side2 ?side3 ?side4 A28.out).mono ?_); (case side1 => exact Kd.C_below HR384_4.out (by repeat (first | (with_reducible first | exact HB.out | apply below_alloc | apply pw_below_drewN | apply below_drew1 | refine below_set ?_ GE386.out | refine below_set ?_ GE387.out) | exact HB.out))); (case side2 => exact HC384_4.out); (case side3 => exact Kd.C_below HR385_4.out (by repeat (first | (with_reducible first | exact HB.out | apply below_alloc | apply pw_below_drewN | apply below_drew1 | refine below_set ?_ GE386.out | refine below_set ?_ GE387.out) | exact HB.out))); (case side4 => exact HC385_4.out); rintro e w' ⟨rfl, ⟨nd, rfl⟩⟩))
   go_roundg k1
   case measure => have := HK1.out; omega
   case rel => exact ⟨(wrap64 (x5_1 + 1)), rsd, H', ⟨by have := HK1.out; omega⟩, ⟨by repeat (first | (with_reducible first | exact HB.out | apply below_alloc | apply pw_below_drewN | apply below_drew1 | refine below_set ?_ GE386.out | refine below_set ?_ GE387.out) | exact HB.out)⟩⟩

/-! ### clavigerref20_moved: function 34 -/
def clavigerref20_moved.l0 : Nat → List Int → Int → List Int → Int → Option (List Int)
 | 0, _, _, _, _ => none
 | k + 1, x0, x1, x5, x6 => if x6 < (x0.length : Int) then (if 0 ≤ x6 then (if x5.length < 17592186044416 then (clavigerref20_moved.l0 k x0 x1 (x5 ++ [wrap64 ((rd x0 x6) + x1)]) (wrap64 (x6 + 1))) else (none)) else (none)) else (some x5)
def clavigerref20_moved.f (k : Nat) (l0 : List Int) (a1 : Int) : Option (List Int) := clavigerref20_moved.l0 k l0 a1 ([] : List Int) 0
theorem clavigerref20_moved.mono_l : ∀ k, (∀ y0 y1 y2 y3, LeO (clavigerref20_moved.l0 k y0 y1 y2 y3) (clavigerref20_moved.l0 (k + 1) y0 y1 y2 y3))
 | 0 => fun _ _ _ _ r h => by simp [clavigerref20_moved.l0] at h
 | k + 1 => by
  have ih0 := clavigerref20_moved.mono_l k
  ·intro y0 y1 y2 y3
   unfold clavigerref20_moved.l0
   repeat' first
   | (with_reducible exact ih0 _ _ _ _)
   | (with_reducible exact LeO.refl _)
   | (with_reducible exact LeO.none _)
   | (with_reducible refine LeO.ite ?_ ?_)
   | (with_reducible refine LeO.bind ?_ (fun _ => ?_))
   | exact ih0 _ _ _ _
   | exact LeO.none _
   | refine LeO.ite ?_ ?_
   | refine LeO.bind ?_ (fun _ => ?_)
theorem clavigerref20_moved.mono : ∀ a0 a1 k, LeO (clavigerref20_moved.f k a0 a1) (clavigerref20_moved.f (k + 1) a0 a1) := by
 intro a0 a1 k
 have ih0 := clavigerref20_moved.mono_l k
 unfold clavigerref20_moved.f
 repeat' first
  | (with_reducible exact ih0 _ _ _ _)
  | (with_reducible exact LeO.refl _)
  | (with_reducible exact LeO.none _)
  | (with_reducible refine LeO.ite ?_ ?_)
  | (with_reducible refine LeO.bind ?_ (fun _ => ?_))
  | exact ih0 _ _ _ _
  | exact LeO.none _
  | refine LeO.ite ?_ ?_
  | refine LeO.bind ?_ (fun _ => ?_)
set_option maxHeartbeats 8000000 in
set_option maxRecDepth 100000 in
theorem clavigerref20_moved.calls (k : Nat) (A0 : Option Addr) (c0 : Nat) (l0 : List Int) (a1 : Int) (r : List Int) (w : World) (hr0 : Kd.C (Kd.int .i64) w A0 l0.length l0) (hc0 : l0.length ≤ c0) (h : clavigerref20_moved.f k l0 a1 = some r) :
 Calls Tryd.prog 34 #[.slice A0 l0.length c0, .int .i64 a1] w fun e w' => ∃ v0_ : Value, e = .returned (v0_) ∧ Kd.R (Kd.int .i64) 3 w' w.heap.size (fun _ => True) v0_ r ∧ Below w.heap.size w w' := by
 have HR0 := Aside0.mk hr0
 have HC0 := Aside0.mk hc0
 clear hr0 hc0
 have HB := Aside0.mk (Below.refl w.heap.size w)
 have H : (clavigerref20_moved.l0 k l0 a1 ([] : List Int) 0) = some r := h
 clear h
 have H' := Aside0.mk H
 clear H
 go_enter Tryd.func34, Tryd.ntmps34
 go_wp2
 go_loopg [5, 6] k (fun kq v5 v6 w' => ∃ (x5_1 : List Int) (x6_1 : Int), v6 = .int .i64 x6_1 ∧ Aside0 (clavigerref20_moved.l0 kq l0 a1 x5_1 x6_1 = some r) ∧ Aside0 (kq ≤ k) ∧ Aside0 (Kd.R (Kd.int .i64) 3 w' w.heap.size (fun _ => True) v5 x5_1) ∧ Aside0 (Below w.heap.size w w'))
 case atStart => exact ⟨(([] : List Int)), (0), rsd, H', ⟨Nat.le_refl _⟩, ⟨by first | exact Kd.R_nil _ _ _ _ _ | exact Kd.N_nil _ _ _ _ _ | exact Kd.V_nil _ _ _ _ _ | exact Kd.Q_nil _ _ _ _ _ | exact Kd.S_nil _ _ _ _ _⟩, ⟨blw⟩⟩
 case round =>
  clear H'
  obtain ⟨x5_1, x6_1, rfl, HA, HK1, HO_5, HB⟩ := hrel
  cases gk with
  | zero => exact absurd HA.out (by simp [clavigerref20_moved.l0])
  | succ k1 =>
   have H := HA.out
   clear HA
   simp only [clavigerref20_moved.l0] at H
   by_cases c3 : x6_1 < (l0.length : Int)
   case neg =>
    rw [if_neg c3] at H
    have c3b0 : decide (x6_1 < (l0.length : Int)) = false := decide_eq_false c3
    clear c3
    obtain rfl := Option.some.inj H
    go_wp2
    go_ret
    exact ⟨_, rse, by (with_reducible repeat (first | apply Kd.R_alloc | apply Kd.R_drewN | apply Kd.R_drew)); exact HO_5.out, blw⟩
   rw [if_pos c3] at H
   have c3b0 : decide (x6_1 < (l0.length : Int)) = true := decide_eq_true c3
   clear c3
   by_cases c4 : 0 ≤ x6_1
   case neg =>
    rw [if_neg c4] at H
    exact absurd H (by simp)
   rw [if_pos c4] at H
   have c4b0 : decide (0 ≤ x6_1) = true := decide_eq_true c4
   clear c4
   by_cases c5 : x5_1.length < 17592186044416
   case neg =>
    rw [if_neg c5] at H
    exact absurd H (by simp)
   rw [if_pos c5] at H
   have LMc5 := Aside0.mk c5
   clear c5
   obtain ⟨y390, hy390⟩ : ∃ y_ : List Int, y_ = (x5_1 ++ [wrap64 ((rd l0 x6_1) + a1)]) := ⟨_, rfl⟩
   replace H : (clavigerref20_moved.l0 k1 l0 a1 y390 (wrap64 (x6_1 + 1))) = some r := by first | (rw [hy390]; with_reducible exact H) | (have H2_ := (Option.bind_some _ _).symm.trans H; rw [hy390]; with_reducible exact H2_) | (have H2_ := (Option.bind_some _ _).symm.trans H; with_reducible exact H2_) | with_reducible exact H | (rw [hy390]; exact H) | exact H
   have Ny390 := Aside0.mk hy390
   clear hy390
   have H' := Aside0.mk H
   clear H
   have p389 : 0 ≤ (x6_1 : Int) := odt
   have q389 : x6_1 < (l0.length : Int) := odt
   obtain ⟨ad389, e389, hx389_0⟩ := Kd.at_int HR0.out x6_1 p389 q389
   cases e389
   replace hx389_0 := cellB hx389_0
   replace p389 := eq_true p389
   replace q389 := eq_true q389
   go_wp2_with (first | ((with_reducible refine gate_builtin (b := .append) (xs := #[.tmp 13, .tmp 20]) rfl ?_); at_builtin; refine Kd.R_append (Kd.int .i64) (w0 := w) w.heap.size rfl (.tmp 13) (.tmp 20) 39 3 (.int .i64 0) 8 rfl Tryd.underlying39 info3 rfl (by decide) (by omega) u5 x5_1 (wrap64 ((rd l0 x6_1) + a1)) [.int .i64 (wrap64 ((rd l0 x6_1) + a1))] (fun _ => True) (fun _ => False) rfl rfl ?aP (fun _ hk => hk.elim) ?aF ?aO ?aB ?aS ?aL ?_; (case aP => exact rfl); (case aB => exact blw); (case aF => exact (fun _ _ => trivial)); (case aO => exact (by (with_reducible repeat (first | apply Kd.R_alloc | apply Kd.R_drewN | apply Kd.R_drew)); exact HO_5.out)); (case aS => exact (below_size blw)); (case aL => have := LMc5.out; omega); intro v391 w6 ho hb hg hat; rw [← Ny390.out] at ho; have n0_ := Aside0.mk (hb); have n1_ := Aside0.mk (ho); clear HB; clear HO_5; have HB := n0_; have HO392 := n1_; clear n0_ n1_; clear ho hb hg hat))
   go_roundg k1
   case measure => have := HK1.out; omega
   case rel => exact ⟨(y390), (wrap64 (x6_1 + 1)), rsd, H', ⟨by have := HK1.out; omega⟩, ⟨by (with_reducible repeat (first | apply Kd.R_alloc | apply Kd.R_drewN | apply Kd.R_drew)); exact HO392.out⟩, ⟨blw⟩⟩

end Go.Proofs.YtcbcojbhbhaimaaDoor.PTreeMakes
