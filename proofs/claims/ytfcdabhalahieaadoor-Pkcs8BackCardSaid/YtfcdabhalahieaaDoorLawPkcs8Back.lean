/- What is written is read as it was; what is read is written so again (P26.3), for arcs and parameters of up to 60 numbers, a key and attributes of up to 500 bytes each, and bytes of up to 1000. Conditions: none beyond the given statement's. -/
import Derived.Test.YtfcdabhalahieaaDoorRows
import Derived.Test.YtfcdabhalahieaaDoorTPkcs8Back1
import Derived.Test.YtfcdabhalahieaaDoorPurePkcs8Back
import Derived.Test.YtfcdabhalahieaaDoorTie
import Derived.Test.YtfcdabhalahieaaDoorCards
import Derived.WalkKit
import Derived.ProofKit
import Derived.OpenShut
import Derived.ShutString
import Derived.ChangeOld
import Derived.Below
import Derived.SizedLaws
import Derived.LaidMore
import Derived.Lay
import Derived.SevenTiedAt
import Derived.MakeChecks
namespace Go.Proofs.YtfcdabhalahieaaDoor.pkcs8Back
open Go.ChangeShapes Go.WideShapes Go.ChangeAt Go.RowKit Go.Rf Go.Rf.T
open Go.ChangeMaps (open_string shut_string)
set_option linter.unusedVariables false
theorem own : ownKnob Tryd.prog.godebug = none := by kernel_rfl
theorem laidOut : laidOutB Tryd.prog = true := by kernel_rfl
theorem op24 : OpL Tryd.prog 24 4 (fun s : S24 => (v24 0 s).cells) ok24 := OpL.struct Tryd.underlying24 (by kernel_rfl) (OpF.cons (by kernel_rfl) (by kernel_rfl) (OpL.slice Tryd.underlying22 (by kernel_rfl) (OpL.int Tryd.underlying3) I (fun _ => rfl)) (OpF.cons (by kernel_rfl) (by kernel_rfl) (OpL.slice Tryd.underlying22 (by kernel_rfl) (OpL.int Tryd.underlying3) I (fun _ => rfl)) (OpF.cons (by kernel_rfl) (by kernel_rfl) (OpL.string Tryd.underlying9) (OpF.last (by kernel_rfl) (by kernel_rfl) (OpL.string Tryd.underlying9))))) (fun p => ⟨p.1, p.2.1, p.2.2.1, p.2.2.2⟩) _ ok24 (fun _ => rfl) (fun p h => by unfold ok24; exact h)
set_option maxRecDepth 100000 in
theorem lifted (os : Os) (started : os.Started) (H : Type) (enc : TypeId × Value → H) :
    ReturnsInHanded {} Tryd.checked os 3 .any (fun w args => (Rows.pkcs8BackSpec.pre enc Tryd.prog Tryd.f3 Rows.pkcs8BackRow.domain false w args ∧ laidMetH Tryd.prog Rows.pkcs8BackRow.laid w) ∧ sizedMet enc Tryd.prog Tryd.f3 (OpenSpec.ofChange Rows.pkcs8BackSpec) false w args)
      (Rows.pkcs8BackSpec.post enc Tryd.prog Tryd.f3 false true false false) := by
  refine returnsInHanded_of_change_and (C := Tryd.checked) (X := fun w _ => laidMetH Tryd.prog Rows.pkcs8BackRow.laid w) (fun _ _ _ hh h => h.of_heap hh) own started (by kernel_rfl) Tryd.func3
    (ChangeSpec.witness_shaped (enc := enc) (C := Tryd.checked) (os := os) (X := fun w _ => laidMetH Tryd.prog Rows.pkcs8BackRow.laid w) false (World.laidAll Tryd.prog os Rows.pkcs8BackRow.laid) #[.agg #[.slice none 0 0, .slice none 0 0, .string ByteArray.empty, .string ByteArray.empty], .string ByteArray.empty] 8 (World.laidAll_os _ _ _)
      (World.shaped_of_ZipB (by kernel_rfl) (by kernel_rfl)) (by kernel_rfl) (by kernel_rfl) (by kernel_rfl)
      (by rw [MakeChecks.laidMetH_plain _ _ _ (by kernel_rfl)]; exact laidMet_laidAll _ (by kernel_rfl) (by kernel_rfl))) ?_
  intro W base args ds gs before hval0 hW hcnd hsz0 hL _
  have hsz : (DataW.weightsEach Tryd.prog (Tryd.f3.params.toList ++ Rows.pkcs8BackSpec.plain.varTypes Tryd.prog) (ds ++ gs)).all (· ≤ reachBytes) = true := hsz0
  have hval : ∀ (j : Nat) t v, Tryd.f3.params[j]? = some t → args[j]? = some v → Value.okWide Tryd.prog W .any base t v := hval0
  have hW' := hW
  obtain ⟨p, q, hA0, hV, rfl, hfz, hnd⟩ := hW
  have hA : DataW.TrodAll enc Tryd.prog W 0 (fun _ => true) true Tryd.f3.params.toList args.toList ds p := hA0
  rw [Tryd.params3] at hA hval hsz
  obtain ⟨v0, vs0, d0, ds0, p0, q0, hargs, rfl, rfl, h0, r0⟩ := trodAll_cons hA
  obtain ⟨v1, vs1, d1, ds1, p1, q1, rfl, rfl, rfl, h1, r1⟩ := trodAll_cons r0
  obtain ⟨rfl, rfl, rfl⟩ := trodAll_nil r1
  obtain rfl : args = #[v0, v1] := by cases args; simp_all
  obtain ⟨rfl, rfl⟩ := trodVars_none hV
  have k0 := h0
  have lt0 : ∀ x ∈ p0, x.block < W.heap.size := by obtain ⟨m, hm⟩ := k0; exact DataW.trod_lt m _ _ _ hm
  obtain ⟨cs0, rfl, hsz0⟩ := okWide_struct Tryd.underlying24 (hval 0 24 v0 rfl rfl)
  obtain ⟨s0, R0, g0⟩ := OpL.get op24 h0
  obtain ⟨a1, rfl, rfl, rfl, y1⟩ := open_string Tryd.underlying9 (hval 1 9 v1 rfl rfl) h1
  have w1 : a1.size ≤ 140737488351232 := by
    have z := sized_string hsz (j := 1) (t := 9) rfl rfl
    rw [Array.length_toList] at z
    exact z
  clear hA0 hval0 hsz0 hsz
  obtain ⟨k, hk⟩ := Pure.Pkcs8Back s0.f0 s0.f1 s0.f2 s0.f3 a1 g0 w1
  refine (Con.law (clavigerlaw26_Pkcs8Back.con hk) (w := W) (vs := [_, _]) ⟨W, hL, fun b hb => ⟨hb, rfl⟩⟩ (.cons (A := []) (Rep.ofCells R0) (.cons (A := []) (.lit _) .nil))).mono fun e W' ⟨he, bel⟩ => ?_
  subst he
  exact ⟨_, rfl, _, _, _, [], _, [], hW', trodAll_mk1 (shut_bool Tryd.underlying4 _), (trodAll_cons_mk (Below.trod laidOut (by kernel_rfl) (of_decide_eq_true (by kernel_rfl)) k0 bel lt0) (trodAll_cons_mk (shut_string Tryd.underlying9 y1) trodAll_mk0)), rfl, bel.frame _, fun h => by cases h⟩
theorem over : Rows.pkcs8BackRow.holds Tryd.pinned (OpenSpec.ofChange Rows.pkcs8BackSpec) :=
  OpenClaim.holds_of_wide 3 Tryd.f3 rfl rfl rfl rfl rfl rfl rfl ⟨rfl, rfl, rfl, rfl, rfl⟩ rfl rfl rfl rfl rfl (by kernel_rfl) Tryd.func3 (by kernel_rfl)
    (of_decide_eq_true (by kernel_rfl)) (by unfold Func.isWrapper; first | (rw [if_pos (by decide +kernel)]; kernel_rfl) | (rw [if_neg (by decide +kernel)]; exact ⟨rfl, rfl⟩))
    (fun os started H enc _ => lifted os started H enc)
theorem card : Rows.Pkcs8BackCardSaid :=
  Claim7.holds_tied_plain_at .later [] [.data, .pinned] true (true, "b0b8671b3f42420c54d1b9735ec680c10bea17166aa7bde09e30899f1af0cbc8") false over (fun _ h => by cases h) (by kernel_rfl) (fun _ h => by cases h) pkcs8Back_row_tie rfl ⟨rfl, rfl⟩ (by kernel_rfl) rfl
    (fun f fn hf hfn => by
      obtain rfl : f = 3 := Option.some.inj ((show Tryd.prog.funcNamed "claviger/clavigerlaw26.Pkcs8Back" = some 3 by kernel_rfl).symm.trans hf) |>.symm
      obtain rfl : fn = Tryd.f3 := (Option.some.inj (Tryd.func3.symm.trans hfn)).symm
      exact ⟨by kernel_rfl, fun j t ht => by
        rw [Tryd.params3] at ht
        have hm : t ∈ ([24, 9] : List TypeId) := by simpa using Array.mem_of_getElem? ht
        have hall : (([24, 9] : List TypeId).all fun u => !Tryd.prog.wantsStandIn u) = true := by kernel_rfl
        exact (show Tryd.prog.wantsStandIn t = false by simpa using List.all_eq_true.1 hall t hm)⟩)
    (by kernel_rfl)
theorem proved : Rows.Pkcs8BackCardSaid := card
#print axioms proved
end Go.Proofs.YtfcdabhalahieaaDoor.pkcs8Back
namespace Go.Proofs.YtfcdabhalahieaaDoor
/-- The row, under a short name, for the claim. -/
theorem pkcs8Back_holds : Rows.Pkcs8BackCardSaid := pkcs8Back.proved
end Go.Proofs.YtfcdabhalahieaaDoor
