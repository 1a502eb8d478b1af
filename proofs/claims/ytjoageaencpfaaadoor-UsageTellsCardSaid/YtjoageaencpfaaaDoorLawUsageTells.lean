-- laid by a program out of the translation and of templates; not trusted: Lean checks it
import Derived.Test.YtjoageaencpfaaaDoorRows
import Derived.Test.YtjoageaencpfaaaDoorPUsageTellsx8
import Derived.Test.YtjoageaencpfaaaDoorPureUsageTells
import Derived.WalkKit
import Derived.ProofKit
import Derived.OpenShut
import Derived.ShutString
import Derived.ChangeOld
import Derived.Below
import Derived.SizedLaws
import Derived.Test.YtjoageaencpfaaaDoorTie
import Derived.Test.YtjoageaencpfaaaDoorCards
import Derived.LaidMore
import Derived.Lay
import Derived.SevenTiedAt
import Derived.Test.YtjoageaencpfaaaDoorWOpen
namespace Go.Proofs.YtjoageaencpfaaaDoor.usageTells
open Go.ChangeShapes Go.WideShapes Go.ChangeAt Go.RowKit
open Go.ChangeMaps (open_string shut_string)
set_option linter.unusedVariables false
theorem own : ownKnob Tryd.prog.godebug = none := by kernel_rfl
open Go.Proofs.YtjoageaencpfaaaDoor.PUsageTells Go.Proofs.YtjoageaencpfaaaDoorW.PrintWords
theorem laidOut : laidOutB Tryd.prog = true := by kernel_rfl
theorem opens52 : Opens Tryd.prog 52 k52 okS52 := (Opens.struct Tryd.underlying52 (by kernel_rfl) (OpensF.cons (by kernel_rfl) (by kernel_rfl) (Opens.int Tryd.underlying3) (OpensF.last (by kernel_rfl) (by kernel_rfl) (Opens.string Tryd.underlying9))) (fun x : S52 => (x.f0, x.f1)) (fun p => ⟨p.1, p.2⟩) (fun _ => rfl)).imp (fun _ h => h)
theorem opens24 : Opens Tryd.prog 24 k24 okS24 := (Opens.struct Tryd.underlying24 (by kernel_rfl) (OpensF.cons (by kernel_rfl) (by kernel_rfl) (Opens.string Tryd.underlying9) (OpensF.cons (by kernel_rfl) (by kernel_rfl) (Opens.string Tryd.underlying9) (OpensF.cons (by kernel_rfl) (by kernel_rfl) (Opens.string Tryd.underlying9) (OpensF.last (by kernel_rfl) (by kernel_rfl) (Opens.string Tryd.underlying9))))) (fun x : S24 => (x.f0, x.f1, x.f2, x.f3)) (fun p => ⟨p.1, p.2.1, p.2.2.1, p.2.2.2⟩) (fun _ => rfl)).imp (fun _ h => h)
theorem opens26 : Opens Tryd.prog 26 k26 okS26 := (Opens.struct Tryd.underlying26 (by kernel_rfl) (OpensF.cons (by kernel_rfl) (by kernel_rfl) (Opens.int Tryd.underlying3) (OpensF.cons (by kernel_rfl) (by kernel_rfl) (Opens.string Tryd.underlying9) (OpensF.cons (by kernel_rfl) (by kernel_rfl) (Opens.slice Tryd.underlying22 (by kernel_rfl) opens52) (OpensF.last (by kernel_rfl) (by kernel_rfl) opens24)))) (fun x : S26 => (x.f0, x.f1, x.f2, x.f3)) (fun p => ⟨p.1, p.2.1, p.2.2.1, p.2.2.2⟩) (fun _ => rfl)).imp (fun _ h => h)
set_option maxRecDepth 100000 in
theorem lifted (os : Os) (started : os.Started) (H : Type) (enc : TypeId × Value → H) :
    ReturnsInHanded {} Tryd.checked os 3 .any (fun w args => (Rows.usageTellsSpec.pre enc Tryd.prog Tryd.f3 Rows.usageTellsRow.domain false w args ∧ laidMetH Tryd.prog Rows.usageTellsRow.laid w) ∧ sizedMet enc Tryd.prog Tryd.f3 (OpenSpec.ofChange Rows.usageTellsSpec) false w args)
      (Rows.usageTellsSpec.post enc Tryd.prog Tryd.f3 false true false false) := by
  refine returnsInHanded_of_change_and (C := Tryd.checked) (X := fun w _ => laidMetH Tryd.prog Rows.usageTellsRow.laid w) (fun _ _ _ hh h => h.of_heap hh) own started (by kernel_rfl) Tryd.func3
    (ChangeSpec.witness_shaped (enc := enc) (C := Tryd.checked) (os := os) (X := fun w _ => laidMetH Tryd.prog Rows.usageTellsRow.laid w) false (World.laidAll Tryd.prog os Rows.usageTellsRow.laid) #[.agg #[.int .i64 0, .string ByteArray.empty, .slice none 0 0, .string ByteArray.empty, .string ByteArray.empty, .string ByteArray.empty, .string ByteArray.empty], .string ByteArray.empty, .bool false] 8 (World.laidAll_os _ _ _)
      (World.shaped_of_ZipB (by kernel_rfl) (by kernel_rfl)) (by kernel_rfl) (by kernel_rfl) (by kernel_rfl)
      (by rw [MakeChecks.laidMetH_plain _ _ _ (by kernel_rfl)]; exact laidMet_laidAll _ (by kernel_rfl) (by kernel_rfl))) ?_
  intro W base args ds gs before hval0 hW hcnd hsz0 hL _
  have hsz : (DataW.weightsEach Tryd.prog (Tryd.f3.params.toList ++ Rows.usageTellsSpec.plain.varTypes Tryd.prog) (ds ++ gs)).all (· ≤ reachBytes) = true := hsz0
  have hval : ∀ (j : Nat) t v, Tryd.f3.params[j]? = some t → args[j]? = some v → Value.okWide Tryd.prog W .any base t v := hval0
  have hW' := hW
  obtain ⟨p, q, hA0, hV, rfl, hfz, hnd⟩ := hW
  have hA : DataW.TrodAll enc Tryd.prog W 0 (fun _ => true) true Tryd.f3.params.toList args.toList ds p := hA0
  rw [Tryd.params3] at hA hval hsz
  obtain ⟨v0, vs0, d0, ds0, p0, q0, hargs, rfl, rfl, h0, r0⟩ := trodAll_cons hA
  obtain ⟨v1, vs1, d1, ds1, p1, q1, rfl, rfl, rfl, h1, r1⟩ := trodAll_cons r0
  obtain ⟨v2, vs2, d2, ds2, p2, q2, rfl, rfl, rfl, h2, r2⟩ := trodAll_cons r1
  obtain ⟨rfl, rfl, rfl⟩ := trodAll_nil r2
  obtain rfl : args = #[v0, v1, v2] := by cases args; simp_all
  obtain ⟨rfl, rfl⟩ := trodVars_none hV
  have k0 := h0
  have lt0 : ∀ x ∈ p0, x.block < W.heap.size := by obtain ⟨m, hm⟩ := k0; exact DataW.trod_lt m _ _ _ hm
  obtain ⟨cs0, rfl, hsz0⟩ := okWide_struct Tryd.underlying26 (hval 0 26 v0 rfl rfl)
  obtain ⟨⟨a0_0, a0_1, l0_2, ⟨a0_3, a0_4, a0_5, a0_6⟩⟩, hK0, g0⟩ := Opens.get opens26 h0
  obtain ⟨u0_1, t0_1, e0, h0_1, r0_1⟩ := hK0
  obtain rfl : u0_1 = [.int .i64 a0_0] := h0_1
  obtain ⟨u0_2, t0_2, rfl, h0_2, r0_2⟩ := r0_1
  obtain rfl : u0_2 = [.string a0_1] := h0_2
  obtain ⟨u0_3, t0_3, rfl, h0_3, r0_3⟩ := r0_2
  obtain ⟨A0_2, c0_2, rfl, hc0_2, hr0_2⟩ := h0_3
  obtain ⟨u0_4, t0_4, rfl, h0_4, r0_4⟩ := r0_3
  obtain rfl : u0_4 = [.string a0_3] := h0_4
  obtain ⟨u0_5, t0_5, rfl, h0_5, r0_5⟩ := r0_4
  obtain rfl : u0_5 = [.string a0_4] := h0_5
  obtain ⟨u0_6, t0_6, rfl, h0_6, r0_6⟩ := r0_5
  obtain rfl : u0_6 = [.string a0_5] := h0_6
  obtain rfl : t0_6 = [.string a0_6] := r0_6
  obtain rfl : cs0 = #[.int .i64 a0_0, .string a0_1, .slice A0_2 l0_2.length c0_2, .string a0_3, .string a0_4, .string a0_5, .string a0_6] := by apply Array.toList_inj.1; simpa [Value.cells] using e0
  obtain ⟨a1, rfl, rfl, rfl, y1⟩ := open_string Tryd.underlying9 (hval 1 9 v1 rfl rfl) h1
  have w1 : a1.size ≤ 140737488351232 := by
    have z := sized_string hsz (j := 1) (t := 9) rfl rfl
    rw [Array.length_toList] at z
    exact z
  obtain ⟨a2, rfl, rfl, rfl⟩ := open_bool Tryd.underlying4 (hval 2 4 v2 rfl rfl) h2
  clear hA0 hval0 hsz0 hsz
  refine (PUsageTells.clavigerlaw41_UsageTells.walk Pure.UsageTells a0_0 a0_1 A0_2 c0_2 l0_2 a0_3 a0_4 a0_5 a0_6 a1 a2 W hr0_2 hc0_2 g0 w1 ⟨TB.of hL⟩).mono fun e W' ⟨he, bel⟩ => ?_
  subst he
  exact ⟨_, rfl, _, _, _, [], _, [], hW', trodAll_mk1 (shut_bool Tryd.underlying4 _), (trodAll_cons_mk (Below.trod laidOut (by kernel_rfl) (of_decide_eq_true (by kernel_rfl)) k0 bel lt0) (trodAll_cons_mk (shut_string Tryd.underlying9 y1) (trodAll_cons_mk (shut_bool Tryd.underlying4 _) trodAll_mk0))), rfl, bel.frame _, fun h => by cases h⟩
theorem over : Rows.usageTellsRow.holds Tryd.pinned (OpenSpec.ofChange Rows.usageTellsSpec) :=
  OpenClaim.holds_of_wide 3 Tryd.f3 rfl rfl rfl rfl rfl rfl rfl ⟨rfl, rfl, rfl, rfl, rfl⟩ rfl rfl rfl rfl rfl (by kernel_rfl) Tryd.func3 (by kernel_rfl)
    (of_decide_eq_true (by kernel_rfl)) (by unfold Func.isWrapper; first | (rw [if_pos (by decide +kernel)]; kernel_rfl) | (rw [if_neg (by decide +kernel)]; exact ⟨rfl, rfl⟩))
    (fun os started H enc _ => lifted os started H enc)
theorem card : Rows.UsageTellsCardSaid :=
  Claim7.holds_tied_plain_at .later [] [.listed, .data] true (true, "4443d5e3c9586367f64a94e370e45223906ce940c89b9ec9daea0ffe08196dc4") false over (fun _ h => by cases h) (by kernel_rfl) (fun _ h => by cases h) usageTells_row_tie rfl ⟨rfl, rfl⟩ (by kernel_rfl) rfl
    (fun f fn hf hfn => by
      obtain rfl : f = 3 := Option.some.inj ((show Tryd.prog.funcNamed "claviger/clavigerlaw41.UsageTells" = some 3 by kernel_rfl).symm.trans hf) |>.symm
      obtain rfl : fn = Tryd.f3 := (Option.some.inj (Tryd.func3.symm.trans hfn)).symm
      exact ⟨by kernel_rfl, fun j t ht => by
        rw [Tryd.params3] at ht
        have hm : t ∈ ([26, 9, 4] : List TypeId) := by simpa using Array.mem_of_getElem? ht
        have hall : (([26, 9, 4] : List TypeId).all fun u => !Tryd.prog.wantsStandIn u) = true := by kernel_rfl
        exact (show Tryd.prog.wantsStandIn t = false by simpa using List.all_eq_true.1 hall t hm)⟩)
    (by kernel_rfl)
theorem proved : Rows.UsageTellsCardSaid := card
#print axioms proved
end Go.Proofs.YtjoageaencpfaaaDoor.usageTells
namespace Go.Proofs.YtjoageaencpfaaaDoor
/-- The row, under a short name, for the claim. -/
theorem usageTells_holds : Rows.UsageTellsCardSaid := usageTells.proved
end Go.Proofs.YtjoageaencpfaaaDoor
