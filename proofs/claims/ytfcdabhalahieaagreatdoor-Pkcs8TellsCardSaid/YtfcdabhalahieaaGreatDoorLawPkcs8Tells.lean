/- A key's element is written, and read, by the program as by the document, for arcs and parameters of up to 60 numbers, a key and attributes of up to 500 bytes each, and bytes of up to 1000. Conditions: none beyond the given statement's. -/
import Derived.Test.YtfcdabhalahieaaGreatDoorRows
import Derived.Test.YtfcdabhalahieaaGreatDoorTPkcs8Tells1
import Derived.Test.YtfcdabhalahieaaGreatDoorPurePkcs8Tells
import Derived.Test.YtfcdabhalahieaaGreatDoorTie
import Derived.Test.YtfcdabhalahieaaGreatDoorCards
import Derived.WalkKit
import Derived.ProofKit
import Derived.OpenShut
import Derived.ShutString
import Derived.ChangeOld
import Derived.Below
import Derived.SizedLaws
import Derived.LaidMore
import Derived.Lay
import Derived.SevenTiedAt
import Derived.MakeChecks
namespace Go.Proofs.YtfcdabhalahieaaGreatDoor.SQ
open Go.ChangeShapes Go.WideShapes Go.ChangeAt Go.RowKit Go.Rf Go.Rf.T
open Go.ChangeMaps (open_string shut_string)
set_option linter.unusedVariables false
theorem own : ownKnob Tryz.prog.godebug = none := by kernel_rfl
theorem laidOut : laidOutB Tryz.prog = true := by kernel_rfl
theorem ajV : iX Tryz.prog 24 4 (fun s : Fb => (v24 0 s).cells) Dx := iX.struct Tryz.underlying24 (by kernel_rfl) (p9.cons (by kernel_rfl) (by kernel_rfl) (iX.slice Tryz.underlying22 (by kernel_rfl) (iX.int Tryz.underlying3) I (fun _ => rfl)) (p9.cons (by kernel_rfl) (by kernel_rfl) (iX.slice Tryz.underlying22 (by kernel_rfl) (iX.int Tryz.underlying3) I (fun _ => rfl)) (p9.cons (by kernel_rfl) (by kernel_rfl) (iX.string Tryz.underlying9) (p9.last (by kernel_rfl) (by kernel_rfl) (iX.string Tryz.underlying9))))) (fun p => ⟨p.1, p.2.1, p.2.2.1, p.2.2.2⟩) _ Dx (fun _ => rfl) (fun p h => by unfold Dx; exact h)
set_option maxRecDepth 100000 in
theorem lifted (os : Os) (started : os.Started) (H : Type) (enc : TypeId × Value → H) :
    ReturnsInHanded {} Tryz.checked os 3 .any (fun w args => (Rows.pkcs8TellsSpec.pre enc Tryz.prog Tryz.f3 Rows.pkcs8TellsRow.domain false w args ∧ laidMetH Tryz.prog Rows.pkcs8TellsRow.laid w) ∧ sizedMet enc Tryz.prog Tryz.f3 (OpenSpec.ofChange Rows.pkcs8TellsSpec) false w args)
      (Rows.pkcs8TellsSpec.post enc Tryz.prog Tryz.f3 false true false false) := by
  refine returnsInHanded_of_change_and (C := Tryz.checked) (X := fun w _ => laidMetH Tryz.prog Rows.pkcs8TellsRow.laid w) (fun _ _ _ hh h => h.of_heap hh) own started (by kernel_rfl) Tryz.func3
    (ChangeSpec.witness_shaped (enc := enc) (C := Tryz.checked) (os := os) (X := fun w _ => laidMetH Tryz.prog Rows.pkcs8TellsRow.laid w) false (World.laidAll Tryz.prog os Rows.pkcs8TellsRow.laid) #[.agg #[.slice none 0 0, .slice none 0 0, .string ByteArray.empty, .string ByteArray.empty], .string ByteArray.empty] 8 (World.laidAll_os _ _ _)
      (World.shaped_of_ZipB (by kernel_rfl) (by kernel_rfl)) (by kernel_rfl) (by kernel_rfl) (by kernel_rfl)
      (by rw [MakeChecks.laidMetH_plain _ _ _ (by kernel_rfl)]; exact laidMet_laidAll _ (by kernel_rfl) (by kernel_rfl))) ?_
  intro W base args ds gs before hval0 hW hcnd hsz0 hL _
  have hsz : (DataW.weightsEach Tryz.prog (Tryz.f3.params.toList ++ Rows.pkcs8TellsSpec.plain.varTypes Tryz.prog) (ds ++ gs)).all (· ≤ reachBytes) = true := hsz0
  have hval : ∀ (j : Nat) t v, Tryz.f3.params[j]? = some t → args[j]? = some v → Value.okWide Tryz.prog W .any base t v := hval0
  have hW' := hW
  obtain ⟨p, q, oh, hV, rfl, hfz, hnd⟩ := hW
  have hA : DataW.TrodAll enc Tryz.prog W 0 (fun _ => true) true Tryz.f3.params.toList args.toList ds p := oh
  rw [Tryz.params3] at hA hval hsz
  obtain ⟨v0, QV, d0, ds0, p0, q0, hargs, rfl, rfl, h0, r0⟩ := trodAll_cons hA
  obtain ⟨v1, vs1, d1, ds1, p1, q1, rfl, rfl, rfl, h1, r1⟩ := trodAll_cons r0
  obtain ⟨rfl, rfl, rfl⟩ := trodAll_nil r1
  obtain rfl : args = #[v0, v1] := by cases args; simp_all
  obtain ⟨rfl, rfl⟩ := trodVars_none hV
  have k0 := h0
  have lt0 : ∀ x ∈ p0, x.block < W.heap.size := by obtain ⟨m, hm⟩ := k0; exact DataW.trod_lt m _ _ _ hm
  obtain ⟨cs0, rfl, hsz0⟩ := okWide_struct Tryz.underlying24 (hval 0 24 v0 rfl rfl)
  obtain ⟨s0, R0, g0⟩ := iX.get ajV h0
  obtain ⟨a1, rfl, rfl, rfl, y1⟩ := open_string Tryz.underlying9 (hval 1 9 v1 rfl rfl) h1
  have w1 : a1.size ≤ 140737488351232 := by
    have z := sized_string hsz (j := 1) (t := 9) rfl rfl
    rw [Array.length_toList] at z
    exact z
  clear oh hval0 hsz0 hsz
  obtain ⟨k, hk⟩ := Pure.Pkcs8Tells s0.f0 s0.f1 s0.f2 s0.f3 a1 g0 w1
  refine (aW.law (kP.az hk) (w := W) (vs := [_, _]) ⟨W, hL, fun b hb => ⟨hb, rfl⟩⟩ (.cons (A := []) (aS.acu R0) (.cons (A := []) (.lit _) .nil))).mono fun e W' ⟨he, YP⟩ => ?_
  subst he
  exact ⟨_, rfl, _, _, _, [], _, [], hW', trodAll_mk1 (shut_bool Tryz.underlying4 _), (trodAll_cons_mk (Below.trod laidOut (by kernel_rfl) (of_decide_eq_true (by kernel_rfl)) k0 YP lt0) (trodAll_cons_mk (shut_string Tryz.underlying9 y1) trodAll_mk0)), rfl, YP.frame _, fun h => by cases h⟩
theorem over : Rows.pkcs8TellsRow.holds Tryz.pinned (OpenSpec.ofChange Rows.pkcs8TellsSpec) :=
  OpenClaim.holds_of_wide 3 Tryz.f3 rfl rfl rfl rfl rfl rfl rfl ⟨rfl, rfl, rfl, rfl, rfl⟩ rfl rfl rfl rfl rfl (by kernel_rfl) Tryz.func3 (by kernel_rfl)
    (of_decide_eq_true (by kernel_rfl)) (by unfold Func.isWrapper; first | (rw [if_pos (by decide +kernel)]; kernel_rfl) | (rw [if_neg (by decide +kernel)]; exact ⟨rfl, rfl⟩))
    (fun os started H enc _ => lifted os started H enc)
theorem card : Rows.Pkcs8TellsCardSaid :=
  Claim7.holds_tied_plain_at .later [] [.data, .pinned] true (true, "851941027782f9d27a68878c3b5ccee7dd5637526c02a8a168fa8c138ff3c779") false over (fun _ h => by cases h) (by kernel_rfl) (fun _ h => by cases h) pkcs8Tells_row_tie rfl ⟨rfl, rfl⟩ (by kernel_rfl) rfl
    (fun f fn hf hfn => by
      obtain rfl : f = 3 := Option.some.inj ((show Tryz.prog.funcNamed "claviger/clavigerlaw26.Pkcs8Tells" = some 3 by kernel_rfl).symm.trans hf) |>.symm
      obtain rfl : fn = Tryz.f3 := (Option.some.inj (Tryz.func3.symm.trans hfn)).symm
      exact ⟨by kernel_rfl, fun j t ht => by
        rw [Tryz.params3] at ht
        have hm : t ∈ ([24, 9] : List TypeId) := by simpa using Array.mem_of_getElem? ht
        have hall : (([24, 9] : List TypeId).all fun u => !Tryz.prog.wantsStandIn u) = true := by kernel_rfl
        exact (show Tryz.prog.wantsStandIn t = false by simpa using List.all_eq_true.1 hall t hm)⟩)
    (by kernel_rfl)
theorem proved : Rows.Pkcs8TellsCardSaid := card
#print axioms proved
end Go.Proofs.YtfcdabhalahieaaGreatDoor.SQ
namespace Go.Proofs.YtfcdabhalahieaaGreatDoor
/-- The row, under a short name, for the claim. -/
theorem pkcs8Tells_holds : Rows.Pkcs8TellsCardSaid := SQ.proved
end Go.Proofs.YtfcdabhalahieaaGreatDoor
