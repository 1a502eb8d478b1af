/- Whatever the record: each word that its header says may be done, and no other; what may leave an untrusted place may leave a trusted one (P41.4). -/
import Derived.Test.YtjoageaencpfaaaDoorPUsageGoesx
namespace Go.Proofs.YtjoageaencpfaaaDoor.Pure
open Go.RowKit Go.Proofs.YtjoageaencpfaaaDoor.PUsageGoes Go.Proofs.YtjoageaencpfaaaDoorW.PrintWords Go.Proofs.YtjoageaencpfaaaDoorW.PrintLast
set_option linter.unusedVariables false
set_option linter.unusedSimpArgs false
/-- The number of bytes. -/
def getN (l : List Int) : Int := l.foldl (fun n b => n * 256 + b) 0
theorem getN_snoc (l : List Int) (x : Int) : getN (l ++ [x]) = getN l * 256 + x := by simp [getN]
theorem getN_take {l : List Int} (i : Nat) (h : i < l.length) : getN (l.take (i + 1)) = getN (l.take i) * 256 + l[i] := by
  rw [List.take_succ_eq_append_getElem h, getN_snoc]
theorem getN_bd (n : Nat) : ∀ l : List Int, OkB l → l.length ≤ n → 0 ≤ getN l ∧ getN l < 256 ^ n := by
  induction n with
  | zero => intro l h hn; obtain rfl := List.eq_nil_of_length_eq_zero (Nat.le_zero.1 hn); simp [getN]
  | succ n ih =>
    intro l h hn
    have hp : (0 : Int) < 256 ^ n := Int.pow_pos (by decide)
    by_cases e : l = []
    · subst e
      rw [Int.pow_succ]
      simp only [getN, List.foldl_nil]
      omega
    · obtain ⟨m, x, rfl⟩ : ∃ m x, l = m ++ [x] := ⟨l.dropLast, l.getLast e, (List.dropLast_concat_getLast e).symm⟩
      have h1 := ih m (fun y hy => h y (List.mem_append_left _ hy)) (by simp at hn; omega)
      have h2 := h x (by simp)
      rw [getN_snoc, Int.pow_succ]
      omega
theorem getN_lt7 (l : List Int) (h : OkB l) (hn : l.length ≤ 7) : 0 ≤ getN l ∧ getN l < 72057594037927936 := getN_bd 7 l h hn
theorem slices_Equal_refl (L : List ByteArray) (h : L.length ≤ 9223372036854775806) : Ev (fun k => slices_Equal_string_string.f k L L) true := by
  unfold slices_Equal_string_string.f
  refine Ev.ifp rfl ?_
  have loop : ∀ d i : Nat, i ≤ L.length → L.length - i = d → Ev (fun k => slices_Equal_string_string.l0 k L L (L.length : Int) (i : Int)) true := by
    intro d
    induction d with
    | zero =>
      intro i hi hd
      refine Ev.step (fun k => by rw [slices_Equal_string_string.l0]) ?_
      exact Ev.ifn (by omega) (Ev.now _)
    | succ d ih =>
      intro i hi hd
      refine Ev.step (fun k => by rw [slices_Equal_string_string.l0]) ?_
      rw [w64 (by omega) (by omega)]
      exact Ev.ifp (by omega) (Ev.ifp (by omega) (Ev.ifp (by omega) (Ev.ifp (by omega) (Ev.ifp rfl (ih (i + 1) (by omega) (by omega))))))
  exact loop _ 0 (by omega) rfl
theorem two_some41 (a : ByteArray) : ∃ t, table_two.f a = some t := by
  unfold table_two.f
  split
  · rename_i h
    split
    · exact ⟨_, rfl⟩
    · split
      · exact ⟨_, rfl⟩
      · rw [if_pos (by omega)]
        split
        · exact ⟨_, rfl⟩
        · exact ⟨_, rfl⟩
  · exact ⟨_, rfl⟩
def sEnc : ByteArray := ⟨#[101, 110, 99, 114, 121, 112, 116]⟩
def sDec : ByteArray := ⟨#[100, 101, 99, 114, 121, 112, 116]⟩
def sGen : ByteArray := ⟨#[103, 101, 110, 101, 114, 97, 116, 101]⟩
def sVer : ByteArray := ⟨#[118, 101, 114, 105, 102, 121]⟩
def sSig : ByteArray := ⟨#[115, 105, 103, 110]⟩
def sDer : ByteArray := ⟨#[100, 101, 114, 105, 118, 101]⟩
def sWrap : ByteArray := ⟨#[119, 114, 97, 112]⟩
def sUnw : ByteArray := ⟨#[117, 110, 119, 114, 97, 112]⟩
def ops41 : List ByteArray := [sEnc, sDec, sGen, sVer, sSig, sDer, sWrap, sUnw]
theorem ops_is : usage_Ops.f = some ops41 := by kernel_rfl
theorem said_all {Q : ByteArray → Prop} (h1 : Q sEnc) (h2 : Q sDec) (h3 : Q sGen) (h4 : Q sVer) (h5 : Q sSig) (h6 : Q sDer) (r : Int) : ∀ y ∈ saidR r, Q y := by
  by_cases e1 : r = 69
  · subst e1; rw [show saidR 69 = [sEnc] from rfl]; simpa using h1
  by_cases e2 : r = 68
  · subst e2; rw [show saidR 68 = [sDec] from rfl]; simpa using h2
  by_cases e3 : r = 66
  · subst e3; rw [show saidR 66 = [sEnc, sDec] from rfl]; simpa using ⟨h1, h2⟩
  by_cases e4 : r = 71
  · subst e4; rw [show saidR 71 = [sGen] from rfl]; simpa using h3
  by_cases e5 : r = 86
  · subst e5; rw [show saidR 86 = [sVer] from rfl]; simpa using h4
  by_cases e6 : r = 67
  · subst e6; rw [show saidR 67 = [sGen, sVer] from rfl]; simpa using ⟨h3, h4⟩
  by_cases e7 : r = 83
  · subst e7; rw [show saidR 83 = [sSig] from rfl]; simpa using h5
  by_cases e8 : r = 84
  · subst e8; rw [show saidR 84 = [sDec, sSig] from rfl]; simpa using ⟨h2, h5⟩
  by_cases e9 : r = 88
  · subst e9; rw [show saidR 88 = [sDer] from rfl]; simpa using h6
  have : saidR r = [] := by
    unfold saidR usage_said.f
    rw [if_neg e1, if_neg e2, if_neg e3, if_neg e4, if_neg e5, if_neg e6, if_neg e7, if_neg e8, if_neg e9]
    rfl
  rw [this]
  intro y hy
  cases hy
theorem allSaid_all {Q : ByteArray → Prop} (h1 : Q sEnc) (h2 : Q sDec) (h3 : Q sGen) (h4 : Q sVer) (h5 : Q sSig) (h6 : Q sDer) (m : ByteArray) : ∀ y ∈ allSaid m, Q y := by
  intro y hy
  obtain ⟨b, _, hb⟩ := List.mem_flatMap.1 hy
  exact said_all h1 h2 h3 h4 h5 h6 _ y hb
theorem opsIn_flat (m op : ByteArray) : Go.Proofs.YtjoageaencpfaaaDoor.PUsageGoes.opsIn (allSaid m) op = m.data.toList.any fun b => Go.Proofs.YtjoageaencpfaaaDoor.PUsageGoes.opsIn (saidR (runeOf b)) op := by
  unfold Go.Proofs.YtjoageaencpfaaaDoor.PUsageGoes.opsIn allSaid
  rw [List.any_flatMap]
def modesT (a : ByteArray) : ByteArray := (table_Modes.f a).getD ⟨#[]⟩
theorem modes_of {a m : ByteArray} (h : table_Modes.f a = some m) : modesT a = m := by unfold modesT; rw [h]; rfl
theorem modes_41 (a : ByteArray) : table_Modes.f a = some (modesT a) ∧ plainText (modesT a) = true := by
  have key : ∀ m : ByteArray, table_Modes.f a = some m → plainText m = true → table_Modes.f a = some (modesT a) ∧ plainText (modesT a) = true := by
    intro m h hp
    rw [modes_of h]
    exact ⟨h, hp⟩
  have lit : ∀ u l m : ByteArray, table_of.f a = some (u, l, m) → plainText m = true → table_Modes.f a = some (modesT a) ∧ plainText (modesT a) = true := by
    intro u l m h hp
    refine key m ?_ hp
    unfold table_Modes.f
    rw [h]
    rfl
  by_cases h0 : a = ⟨#[66, 48]⟩
  · subst h0; exact lit ⟨#[66, 48]⟩ ⟨#[65, 84]⟩ ⟨#[78, 88]⟩ (by kernel_rfl) (by kernel_rfl)
  by_cases h1 : a = ⟨#[68, 48]⟩
  · subst h1; exact lit ⟨#[68, 48]⟩ ⟨#[65, 84]⟩ ⟨#[66, 68, 69, 78]⟩ (by kernel_rfl) (by kernel_rfl)
  by_cases h2 : a = ⟨#[68, 49]⟩
  · subst h2; exact lit ⟨#[68, 49]⟩ ⟨#[69]⟩ ⟨#[66, 68, 69, 78]⟩ (by kernel_rfl) (by kernel_rfl)
  by_cases h3 : a = ⟨#[75, 48]⟩
  · subst h3; exact lit ⟨#[75, 48]⟩ ⟨#[65, 84]⟩ ⟨#[66, 68, 69, 78]⟩ (by kernel_rfl) (by kernel_rfl)
  by_cases h4 : a = ⟨#[75, 49]⟩
  · subst h4; exact lit ⟨#[75, 49]⟩ ⟨#[65, 84]⟩ ⟨#[66, 68, 69, 78]⟩ (by kernel_rfl) (by kernel_rfl)
  by_cases h5 : a = ⟨#[77, 51]⟩
  · subst h5; exact lit ⟨#[77, 51]⟩ ⟨#[84]⟩ ⟨#[67, 71, 78, 86]⟩ (by kernel_rfl) (by kernel_rfl)
  by_cases h6 : a = ⟨#[77, 54]⟩
  · subst h6; exact lit ⟨#[77, 54]⟩ ⟨#[65, 84]⟩ ⟨#[67, 71, 78, 86]⟩ (by kernel_rfl) (by kernel_rfl)
  by_cases h7 : a = ⟨#[77, 55]⟩
  · subst h7; exact lit ⟨#[77, 55]⟩ ⟨#[72]⟩ ⟨#[67, 71, 78, 86]⟩ (by kernel_rfl) (by kernel_rfl)
  by_cases h8 : a = ⟨#[80, 48]⟩
  · subst h8; exact lit ⟨#[80, 48]⟩ ⟨#[65, 84]⟩ ⟨#[66, 68, 69, 78]⟩ (by kernel_rfl) (by kernel_rfl)
  by_cases h9 : a = ⟨#[83, 48]⟩
  · subst h9; exact lit ⟨#[83, 48]⟩ ⟨#[69]⟩ ⟨#[78, 83, 84, 86]⟩ (by kernel_rfl) (by kernel_rfl)
  obtain ⟨t, ht⟩ := two_some41 a
  have hof : table_of.f a = (table_two.f a).bind fun t => if t = true then some (a, ⟨#[65, 69, 72, 84]⟩, ⟨#[66, 67, 68, 69, 71, 78, 83, 84, 86, 88]⟩) else some (⟨#[]⟩, ⟨#[]⟩, ⟨#[]⟩) := by
    unfold table_of.f
    rw [if_neg h0, if_neg h1, if_neg h2, if_neg h3, if_neg h4, if_neg h5, if_neg h6, if_neg h7, if_neg h8, if_neg h9]
  cases t
  · exact lit ⟨#[]⟩ ⟨#[]⟩ ⟨#[]⟩ (by rw [hof, ht]; rfl) (by kernel_rfl)
  · exact lit a ⟨#[65, 69, 72, 84]⟩ ⟨#[66, 67, 68, 69, 71, 78, 83, 84, 86, 88]⟩ (by rw [hof, ht]; rfl) (by kernel_rfl)
/-- What a header's mode says, ahead of the renaming. -/
def T41 (a0 a1 : ByteArray) : List ByteArray := if a1.toList = [78] then allSaid (modesT a0) else if (a1.size : Int) = 1 then allSaid a1 else []
def K41 (a0 : ByteArray) : Prop := a0.toList = [75, 48] ∨ a0.toList = [75, 49]
instance (a0 : ByteArray) : Decidable (K41 a0) := by unfold K41; infer_instance
def in41 (a0 a1 op : ByteArray) : Bool := Go.Proofs.YtjoageaencpfaaaDoor.PUsageGoes.opsIn (if K41 a0 then (T41 a0 a1).map renR else T41 a0 a1) op
theorem plain_one {a : ByteArray} (h : (a.size : Int) = 1) : plainText a = true := by
  have h1 : a.size = 1 := by omega
  unfold plainText
  simp [h1]
theorem of_is (a0 a1 a2 a3 : ByteArray) : usage_Of.f a0 a1 a2 a3 = some (ops41.filter (in41 a0 a1)) := by
  have hg : ∀ m, plainText m = true → T41 a0 a1 = allSaid m → usage_Of.g a0 m = some (ops41.filter (in41 a0 a1)) := by
    intro m hp hT
    unfold usage_Of.g
    rw [if_pos hp, ops_is]
    simp only [Option.bind_some]
    rw [if_pos (by decide)]
    congr 2
    funext x
    unfold in41
    rw [hT]
    rfl
  unfold usage_Of.f
  by_cases h1 : a1.toList = [78]
  · rw [if_pos h1, (modes_41 a0).1]
    exact hg _ (modes_41 a0).2 (by unfold T41; rw [if_pos h1])
  · rw [if_neg h1]
    by_cases h2 : (a1.size : Int) = 1
    · rw [if_pos h2]
      exact hg a1 (plain_one h2) (by unfold T41; rw [if_neg h1, if_pos h2])
    · rw [if_neg h2]
      have hT : T41 a0 a1 = [] := by unfold T41; rw [if_neg h1, if_neg h2]
      congr 1
      symm
      rw [List.filter_eq_nil_iff]
      intro x _
      unfold in41
      rw [hT]
      simp [Go.Proofs.YtjoageaencpfaaaDoor.PUsageGoes.opsIn]
theorem contains_is (l : List ByteArray) (x : ByteArray) (hl : l.length ≤ 1000000) : Ev (fun k => slices_Contains_string_string.f k l x) (Go.Proofs.YtjoageaencpfaaaDoor.PUsageGoes.opsIn l x) :=
  Ev.of (slices_Contains_string_string.mono _ _) (contains_in l x hl)
theorem of_len (a0 a1 : ByteArray) : (ops41.filter (in41 a0 a1)).length ≤ 8 := List.length_filter_le _ _
def bare41 (a3 a4 a5 a6 : ByteArray) : Bool := a3.toList == [] && (a4.toList == [] && (a5.toList == [] && a6.toList == []))
theorem bare_cases (a3 a4 a5 a6 : ByteArray) : bare41 a3 a4 a5 a6 = true ↔ (a3.toList = [] ∧ a4.toList = [] ∧ a5.toList = [] ∧ a6.toList = []) := by
  unfold bare41
  simp only [Bool.and_eq_true, beq_iff_eq]
theorem bare_if {α : Type} {X Y : Nat → Option α} {r : α} (a3 a4 a5 a6 : ByteArray) (h1 : bare41 a3 a4 a5 a6 = true → Ev X r) (h2 : ¬ bare41 a3 a4 a5 a6 = true → Ev Y r) :
    Ev (fun k => if a3.toList = ([] : List UInt8) then (if a4.toList = ([] : List UInt8) then (if a5.toList = ([] : List UInt8) then (if a6.toList = ([] : List UInt8) then X k else Y k) else Y k) else Y k) else Y k) r := by
  rw [bare_cases] at h1 h2
  by_cases e3 : a3.toList = []
  · refine Ev.ifp e3 ?_
    by_cases e4 : a4.toList = []
    · refine Ev.ifp e4 ?_
      by_cases e5 : a5.toList = []
      · refine Ev.ifp e5 ?_
        by_cases e6 : a6.toList = []
        · exact Ev.ifp e6 (h1 ⟨e3, e4, e5, e6⟩)
        · exact Ev.ifn e6 (h2 (fun h => e6 h.2.2.2))
      · exact Ev.ifn e5 (h2 (fun h => e5 h.2.2.1))
    · exact Ev.ifn e4 (h2 (fun h => e4 h.2.1))
  · exact Ev.ifn e3 (h2 (fun h => e3 h.1))
theorem record_bare_is (x0 : Int) (x1 : ByteArray) (x2 : List S52) (a3 a4 a5 a6 : ByteArray) : record_Bare.f x0 x1 x2 a3 a4 a5 a6 = some (bare41 a3 a4 a5 a6) := by
  unfold record_Bare.f bare41
  by_cases e3 : a3.toList = []
  · rw [if_pos e3]
    by_cases e4 : a4.toList = []
    · rw [if_pos e4]
      by_cases e5 : a5.toList = []
      · rw [if_pos e5]
        by_cases e6 : a6.toList = []
        · rw [if_pos e6]; simp [e3, e4, e5, e6]
        · rw [if_neg e6]; simp [e3, e4, e5, e6]
      · rw [if_neg e5]; simp [e3, e4, e5]
    · rw [if_neg e4]; simp [e3, e4]
  · rw [if_neg e3]; simp [e3]
def may41 (a3 a4 a5 a6 op : ByteArray) : Int := if Go.Proofs.YtjoageaencpfaaaDoor.PUsageGoes.opsIn ops41 op = true then (if bare41 a3 a4 a5 a6 = true then 0 else if Go.Proofs.YtjoageaencpfaaaDoor.PUsageGoes.opsIn (ops41.filter (in41 a3 a4)) op = true then 0 else 14) else 1
theorem may_is (x0 : Int) (x1 : ByteArray) (x2 : List S52) (a3 a4 a5 a6 op : ByteArray) : Ev (fun k => usage_May.f k x0 x1 x2 a3 a4 a5 a6 op) (may41 a3 a4 a5 a6 op) := by
  refine Ev.congr (fun k => by rw [usage_May.f]) ?_
  refine Ev.bindc ops_is ?_
  refine Ev.bind (contains_is ops41 op (by decide)) ?_
  unfold may41
  by_cases h1 : Go.Proofs.YtjoageaencpfaaaDoor.PUsageGoes.opsIn ops41 op = true
  · refine Ev.eq ?_ (if_pos h1).symm
    refine Ev.ifp h1 ?_
    refine Ev.bindc (record_bare_is x0 x1 x2 a3 a4 a5 a6) ?_
    by_cases h2 : bare41 a3 a4 a5 a6 = true
    · refine Ev.eq ?_ (if_pos h2).symm
      exact Ev.ifp h2 (Ev.now _)
    · refine Ev.eq ?_ (if_neg h2).symm
      refine Ev.ifn h2 ?_
      refine Ev.bindc (of_is a3 a4 a5 a6) ?_
      refine Ev.bind (contains_is _ op (Nat.le_trans (of_len a3 a4) (by decide))) ?_
      exact Ev.ite (fun _ => Ev.now _) (fun _ => Ev.now _)
  · refine Ev.eq ?_ (if_neg h1).symm
    exact Ev.ifn h1 (Ev.now _)
theorem awake41 : Ev (fun k => clavigerlaw41_awake.f k) true := Ev.of clavigerlaw41_awake.mono (k := 12) (by kernel_rfl)
def getL (l : List S52) (tag : Int) : ByteArray × Bool := match l.find? (fun x => x.f0 == tag) with
  | some x => (x.f1, true)
  | none => (⟨#[]⟩, false)
theorem get_is (l : List S52) (tag : Int) (hl : l.length ≤ 9223372036854775806) : attr_Get.f l tag = some (getL l tag) := by
  unfold attr_Get.f getL
  rw [if_pos hl]
  unfold attr_idx
  by_cases h : l.findIdx (fun x => x.f0 == tag) < l.length
  · rw [if_pos h, if_neg (by omega)]
    have hf : l.find? (fun x => x.f0 == tag) = some (l[l.findIdx (fun x => x.f0 == tag)]) := by
      rw [List.find?_eq_some_iff_getElem]
      refine ⟨List.findIdx_getElem (w := h), _, h, rfl, fun j hj => ?_⟩
      have := List.not_of_lt_findIdx hj
      simpa using this
    rw [hf, rd_attr2 _ _ (by omega) (by simpa using h)]
    rfl
  · rw [if_neg h, if_pos (by omega)]
    have hf : l.find? (fun x => x.f0 == tag) = none := by
      rw [List.find?_eq_none]
      intro x hx hp
      exact h (List.findIdx_lt_length_of_exists ⟨x, hx, hp⟩)
    rw [hf]
def export41 (l : List S52) (a3 a4 a5 a6 : ByteArray) : ByteArray := if bare41 a3 a4 a5 a6 = true then (if ((getL l 65535).1.size : Int) = 6 then (getL l 65535).1.extract 5 (getL l 65535).1.size else (getL l 1).1) else a6
theorem export_is (x0 : Int) (x1 : ByteArray) (l : List S52) (a3 a4 a5 a6 : ByteArray) (hl : l.length ≤ 9223372036854775806) : usage_Export.f x0 x1 l a3 a4 a5 a6 = some (export41 l a3 a4 a5 a6) := by
  unfold usage_Export.f export41
  rw [record_bare_is x0 x1 l a3 a4 a5 a6]
  simp only [Option.bind_some]
  by_cases h : bare41 a3 a4 a5 a6 = true
  · rw [if_pos h, if_pos h, get_is l _ hl, get_is l _ hl]
    simp only [Option.bind_some]
    by_cases h2 : ((getL l 65535).1.size : Int) = 6
    · rw [if_pos h2, if_pos h2, if_pos (by omega)]
    · rw [if_neg h2, if_neg h2]
  · rw [if_neg h, if_neg h]
def leaves41 (e : ByteArray) (t : Bool) : Int := if e.toList = [69] then (if t = true then 0 else 14) else if e.toList = [78] then 14 else 0
theorem leaves_is (x0 : Int) (x1 : ByteArray) (l : List S52) (a3 a4 a5 a6 : ByteArray) (t : Bool) (hl : l.length ≤ 9223372036854775806) : usage_Leaves.f x0 x1 l a3 a4 a5 a6 t = some (leaves41 (export41 l a3 a4 a5 a6) t) := by
  unfold usage_Leaves.f
  rw [export_is x0 x1 l a3 a4 a5 a6 hl]
  simp only [Option.bind_some]
  unfold leaves41
  split
  · split <;> rfl
  · split <;> rfl
theorem few_is (l : List S52) (hl : l.length ≤ 9223372036854775807) : ∃ t, Ev (fun k => clavigerplain_Few.f k l 40) t ∧ (t = true → l.length ≤ 40) := by
  have loop : ∀ d i : Nat, i + d = l.length → ∃ t, Ev (fun k => clavigerplain_Few.l0 k l (i : Int)) t := by
    intro d
    induction d with
    | zero =>
      intro i hd
      exact ⟨true, Ev.step (fun k => by rw [clavigerplain_Few.l0]) (Ev.ifn (by omega) (Ev.now _))⟩
    | succ d ih =>
      intro i hd
      have hw : wrap64 ((i : Int) + 1) = ((i + 1 : Nat) : Int) := (w64 (by omega) (by omega)).trans (by omega)
      by_cases h : ((rd_T52 l (i : Int)).f1.size : Int) > 300
      · exact ⟨false, Ev.step (fun k => by rw [clavigerplain_Few.l0]) (Ev.ifp (by omega) (Ev.ifp (by omega) (Ev.ifp h (Ev.now _))))⟩
      · obtain ⟨t, ht⟩ := ih (i + 1) (by omega)
        rw [← hw] at ht
        exact ⟨t, Ev.step (fun k => by rw [clavigerplain_Few.l0]) (Ev.ifp (by omega) (Ev.ifp (by omega) (Ev.ifn h ht)))⟩
  by_cases h : (l.length : Int) > 40
  · exact ⟨false, Ev.congr (fun k => by rw [clavigerplain_Few.f]) (Ev.ifp h (Ev.now _)), fun e => by cases e⟩
  · obtain ⟨t, ht0⟩ := loop l.length 0 (by omega)
    have ht : Ev (fun k => clavigerplain_Few.l0 k l 0) t := ht0
    exact ⟨t, Ev.congr (fun k => by rw [clavigerplain_Few.f]) (Ev.ifn h ht), fun _ => by omega⟩
theorem head_some (a b c d : ByteArray) : ∃ t, clavigerplain_Head.f a b c d = some t := by
  unfold clavigerplain_Head.f
  split
  · split
    · split
      · exact ⟨_, rfl⟩
      · exact ⟨_, rfl⟩
    · exact ⟨_, rfl⟩
  · exact ⟨_, rfl⟩
theorem record_is (x0 : Int) (x1 : ByteArray) (l : List S52) (a3 a4 a5 a6 : ByteArray) (hl : l.length ≤ 9223372036854775807) : ∃ t, Ev (fun k => clavigerplain_Record.f k x0 x1 l a3 a4 a5 a6) t ∧ (t = true → l.length ≤ 40) := by
  by_cases h : (x1.size : Int) ≤ 100
  · obtain ⟨t, ht, hk⟩ := few_is l hl
    obtain ⟨u, hu⟩ := head_some a3 a4 a5 a6
    cases t with
    | true =>
      refine ⟨u, ?_, fun _ => hk rfl⟩
      refine Ev.congr (fun k => by rw [clavigerplain_Record.f]) ?_
      refine Ev.ifp h (Ev.bind ht ?_)
      refine Ev.ifp rfl ?_
      exact Ev.bindc hu (Ev.now _)
    | false =>
      refine ⟨false, ?_, fun e => by cases e⟩
      refine Ev.congr (fun k => by rw [clavigerplain_Record.f]) ?_
      refine Ev.ifp h (Ev.bind ht ?_)
      exact Ev.ifn (show ¬ (false = true) by decide) (Ev.now _)
  · exact ⟨false, Ev.congr (fun k => by rw [clavigerplain_Record.f]) (Ev.ifn h (Ev.now _)), fun e => by cases e⟩
theorem UsageGoes : clavigerlaw41_UsageGoes.Pure := by
  intro x0 x1 l a3 a4 a5 a6 hok
  have hl : l.length ≤ 9223372036854775807 := hok.2.2.1.1
  obtain ⟨t, ht, hk⟩ := record_is x0 x1 l a3 a4 a5 a6 hl
  refine Ev.rounds ?_
  refine Ev.congr (fun k => by rw [clavigerlaw41_UsageGoes.f]) ?_
  refine Ev.bind ht ?_
  cases t with
  | false => exact Ev.ifn (by decide) (Ev.bind awake41 (Ev.now _))
  | true =>
    have h40 : l.length ≤ 9223372036854775806 := Nat.le_trans (hk rfl) (by decide)
    refine Ev.ifp rfl ?_
    refine Ev.bindc (of_is a3 a4 a5 a6) (Ev.bindc ops_is ?_)
    have hin : ∀ op ∈ ops41, Go.Proofs.YtjoageaencpfaaaDoor.PUsageGoes.opsIn ops41 op = true := by
      intro op h
      exact List.any_eq_true.2 ⟨op, h, by simp⟩
    have loop : ∀ d i : Nat, i + d = 8 → Ev (fun k => clavigerlaw41_UsageGoes.l0 k (ops41.filter (in41 a3 a4)) ops41 (ops41.length : Int) (i : Int) x0 x1 l a3 a4 a5 a6) true := by
      intro d
      induction d with
      | zero =>
        intro i hd
        refine Ev.step (fun k => by rw [clavigerlaw41_UsageGoes.l0]) ?_
        refine Ev.ifn (by have : ops41.length = 8 := rfl; omega) ?_
        refine Ev.bindc (leaves_is x0 x1 l a3 a4 a5 a6 false h40) ?_
        by_cases h0 : leaves41 (export41 l a3 a4 a5 a6) false = 0
        · refine Ev.ifp h0 (Ev.bindc (leaves_is x0 x1 l a3 a4 a5 a6 true h40) ?_)
          refine Ev.ifp ?_ (Ev.bind awake41 (Ev.now _))
          unfold leaves41 at h0 ⊢
          by_cases e1 : (export41 l a3 a4 a5 a6).toList = [69]
          · rw [if_pos e1]; rfl
          · rw [if_neg e1] at h0 ⊢
            exact h0
        · exact Ev.ifn h0 (Ev.bind awake41 (Ev.now _))
      | succ d ih =>
        intro i hd
        have h8 : ops41.length = 8 := rfl
        have hlt : i < ops41.length := by omega
        refine Ev.step (fun k => by rw [clavigerlaw41_UsageGoes.l0]) ?_
        refine Ev.ifp (by omega) (Ev.ifp (by omega) (Ev.ifp (by omega) ?_))
        have hw : wrap64 ((i : Int) + 1) = ((i + 1 : Nat) : Int) := (w64 (by omega) (by omega)).trans (by omega)
        rw [rdOf_get _ _ hlt]
        have hmem := hin _ (List.getElem_mem hlt)
        have hm : may41 a3 a4 a5 a6 ops41[i] = if bare41 a3 a4 a5 a6 = true then 0 else if Go.Proofs.YtjoageaencpfaaaDoor.PUsageGoes.opsIn (ops41.filter (in41 a3 a4)) ops41[i] = true then 0 else 14 := by
          unfold may41
          rw [if_pos hmem]
        have hnext : ∀ b : Bool, may41 a3 a4 a5 a6 ops41[i] = (if b = true then 0 else 14) → Ev (fun k => clavigerlaw41_UsageGoes.j1 k (ops41.filter (in41 a3 a4)) ops41[i] 14 ops41 (ops41.length : Int) (i : Int) b x0 x1 l a3 a4 a5 a6) true := by
          intro b hb
          refine Ev.step (fun k => by rw [clavigerlaw41_UsageGoes.j1]) ?_
          rw [hw]
          cases b with
          | true => exact Ev.ifp rfl (Ev.bind (may_is x0 x1 l a3 a4 a5 a6 _) (Ev.ifp hb (ih (i + 1) (by omega))))
          | false => exact Ev.ifn (by decide) (Ev.bind (may_is x0 x1 l a3 a4 a5 a6 _) (Ev.ifp hb (ih (i + 1) (by omega))))
        refine bare_if a3 a4 a5 a6 (fun hb => ?_) (fun hb => ?_)
        · refine hnext true ?_
          rw [hm, if_pos hb]
          rfl
        · refine Ev.bind (contains_is _ _ (Nat.le_trans (of_len a3 a4) (by decide))) (hnext _ ?_)
          rw [hm, if_neg hb]
    exact loop 8 0 rfl
end Go.Proofs.YtjoageaencpfaaaDoor.Pure
