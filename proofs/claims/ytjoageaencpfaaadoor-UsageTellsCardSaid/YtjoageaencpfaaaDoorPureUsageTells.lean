/- Whatever the record (40 attributes of up to 300 bytes), the word and the trust: what may be done, how the key may leave, and whether, are as the document's reference says (P41.1 to P41.3). -/
import Derived.Test.YtjoageaencpfaaaDoorPUsageTellsx
namespace Go.Proofs.YtjoageaencpfaaaDoor.Pure
open Go.RowKit Go.Proofs.YtjoageaencpfaaaDoor.PUsageTells Go.Proofs.YtjoageaencpfaaaDoorW.PrintWords Go.Proofs.YtjoageaencpfaaaDoorW.PrintLast
set_option linter.unusedVariables false
set_option linter.unusedSimpArgs false
/-- The number of bytes. -/
def getN (l : List Int) : Int := l.foldl (fun n b => n * 256 + b) 0
theorem getN_snoc (l : List Int) (x : Int) : getN (l ++ [x]) = getN l * 256 + x := by simp [getN]
theorem getN_take {l : List Int} (i : Nat) (h : i < l.length) : getN (l.take (i + 1)) = getN (l.take i) * 256 + l[i] := by
  rw [List.take_succ_eq_append_getElem h, getN_snoc]
theorem getN_bd (n : Nat) : ∀ l : List Int, OkB l → l.length ≤ n → 0 ≤ getN l ∧ getN l < 256 ^ n := by
  induction n with
  | zero => intro l h hn; obtain rfl := List.eq_nil_of_length_eq_zero (Nat.le_zero.1 hn); simp [getN]
  | succ n ih =>
    intro l h hn
    have hp : (0 : Int) < 256 ^ n := Int.pow_pos (by decide)
    by_cases e : l = []
    · subst e
      rw [Int.pow_succ]
      simp only [getN, List.foldl_nil]
      omega
    · obtain ⟨m, x, rfl⟩ : ∃ m x, l = m ++ [x] := ⟨l.dropLast, l.getLast e, (List.dropLast_concat_getLast e).symm⟩
      have h1 := ih m (fun y hy => h y (List.mem_append_left _ hy)) (by simp at hn; omega)
      have h2 := h x (by simp)
      rw [getN_snoc, Int.pow_succ]
      omega
theorem getN_lt7 (l : List Int) (h : OkB l) (hn : l.length ≤ 7) : 0 ≤ getN l ∧ getN l < 72057594037927936 := getN_bd 7 l h hn
theorem slices_Equal_refl (L : List ByteArray) (h : L.length ≤ 9223372036854775806) : Ev (fun k => slices_Equal_string_string.f k L L) true := by
  unfold slices_Equal_string_string.f
  refine Ev.ifp rfl ?_
  have loop : ∀ d i : Nat, i ≤ L.length → L.length - i = d → Ev (fun k => slices_Equal_string_string.l0 k L L (L.length : Int) (i : Int)) true := by
    intro d
    induction d with
    | zero =>
      intro i hi hd
      refine Ev.step (fun k => by rw [slices_Equal_string_string.l0]) ?_
      exact Ev.ifn (by omega) (Ev.now _)
    | succ d ih =>
      intro i hi hd
      refine Ev.step (fun k => by rw [slices_Equal_string_string.l0]) ?_
      rw [w64 (by omega) (by omega)]
      exact Ev.ifp (by omega) (Ev.ifp (by omega) (Ev.ifp (by omega) (Ev.ifp (by omega) (Ev.ifp rfl (ih (i + 1) (by omega) (by omega))))))
  exact loop _ 0 (by omega) rfl
theorem size_two {a : ByteArray} (h : a.size = 2) : ∃ c d : UInt8, a = ⟨#[c, d]⟩ := by
  obtain ⟨⟨l⟩⟩ := a
  match l, (show l.length = 2 from h) with
  | [c, d], _ => exact ⟨c, d, rfl⟩
theorem sz2 (c d : UInt8) : ((⟨#[c, d]⟩ : ByteArray).size : Int) = 2 := rfl
theorem two_is (c d : UInt8) : table_two.f ⟨#[c, d]⟩ = some (decide (49 ≤ c.toNat ∧ c.toNat ≤ 57 ∧ 48 ≤ d.toNat ∧ d.toNat ≤ 57)) := by
  unfold table_two.f
  rw [sz2, if_pos rfl, if_pos (show (1 : Int) < 2 by decide), show bt (⟨#[c, d]⟩ : ByteArray) 1 = (d.toNat : Int) from rfl]
  have e : (⟨#[c, d]⟩ : ByteArray).toList = [c, d] := by rw [toList_data]
  rw [e]
  simp only [Op.bytesLess, Bool.or_eq_true, Bool.and_eq_true, decide_eq_true_eq, beq_iff_eq, UInt8.lt_iff_toNat_lt, ← UInt8.toNat_inj, Bool.and_false, Bool.or_false, Bool.false_eq_true, and_false, or_false]
  have n49 : (49 : UInt8).toNat = 49 := rfl
  have n48 : (48 : UInt8).toNat = 48 := rfl
  have n57 : (57 : UInt8).toNat = 57 := rfl
  rw [n49, n48, n57]
  by_cases h1 : c.toNat < 49 ∨ c.toNat = 49 ∧ d.toNat < 48
  · rw [if_pos h1, decide_eq_false (by omega)]
  · rw [if_neg h1]
    by_cases h2 : 57 < c.toNat ∨ 57 = c.toNat ∧ 57 < d.toNat
    · rw [if_pos h2, decide_eq_false (by omega)]
    · rw [if_neg h2]
      by_cases h3 : (d.toNat : Int) ≥ 48
      · rw [if_pos h3]
        congr 1
        exact decide_eq_decide.2 (by omega)
      · rw [if_neg h3, decide_eq_false (by omega)]
theorem own_two (a : ByteArray) {t : Bool} (h : table_two.f a = some t) : clavigerref30_own.f a = some t := by
  by_cases h2 : a.size = 2
  · obtain ⟨c, d, rfl⟩ := size_two h2
    rw [two_is] at h
    rw [← h]
    unfold clavigerref30_own.f
    rw [sz2, if_pos rfl, if_pos (show (0 : Int) < 2 by decide), if_pos (show (1 : Int) < 2 by decide), show bt (⟨#[c, d]⟩ : ByteArray) 1 = (d.toNat : Int) from rfl, show bt (⟨#[c, d]⟩ : ByteArray) 0 = (c.toNat : Int) from rfl]
    by_cases h1 : (c.toNat : Int) ≥ 49
    · rw [if_pos h1]
      by_cases h3 : (c.toNat : Int) ≤ 57
      · rw [if_pos h3]
        by_cases h4 : (d.toNat : Int) ≥ 48
        · rw [if_pos h4]
          congr 1
          exact decide_eq_decide.2 (by omega)
        · rw [if_neg h4, decide_eq_false (by omega)]
      · rw [if_neg h3, decide_eq_false (by omega)]
    · rw [if_neg h1, decide_eq_false (by omega)]
  · unfold table_two.f at h
    rw [if_neg (by omega)] at h
    unfold clavigerref30_own.f
    rw [if_neg (by omega)]
    exact h
theorem two_some41 (a : ByteArray) : ∃ t, table_two.f a = some t := by
  unfold table_two.f
  split
  · rename_i h
    split
    · exact ⟨_, rfl⟩
    · split
      · exact ⟨_, rfl⟩
      · rw [if_pos (by omega)]
        split
        · exact ⟨_, rfl⟩
        · exact ⟨_, rfl⟩
  · exact ⟨_, rfl⟩
def sEnc : ByteArray := ⟨#[101, 110, 99, 114, 121, 112, 116]⟩
def sDec : ByteArray := ⟨#[100, 101, 99, 114, 121, 112, 116]⟩
def sGen : ByteArray := ⟨#[103, 101, 110, 101, 114, 97, 116, 101]⟩
def sVer : ByteArray := ⟨#[118, 101, 114, 105, 102, 121]⟩
def sSig : ByteArray := ⟨#[115, 105, 103, 110]⟩
def sDer : ByteArray := ⟨#[100, 101, 114, 105, 118, 101]⟩
def sWrap : ByteArray := ⟨#[119, 114, 97, 112]⟩
def sUnw : ByteArray := ⟨#[117, 110, 119, 114, 97, 112]⟩
def ops41 : List ByteArray := [sEnc, sDec, sGen, sVer, sSig, sDer, sWrap, sUnw]
theorem ops_is : usage_Ops.f = some ops41 := by kernel_rfl
theorem said_all {Q : ByteArray → Prop} (h1 : Q sEnc) (h2 : Q sDec) (h3 : Q sGen) (h4 : Q sVer) (h5 : Q sSig) (h6 : Q sDer) (r : Int) : ∀ y ∈ saidR r, Q y := by
  by_cases e1 : r = 69
  · subst e1; rw [show saidR 69 = [sEnc] from rfl]; simpa using h1
  by_cases e2 : r = 68
  · subst e2; rw [show saidR 68 = [sDec] from rfl]; simpa using h2
  by_cases e3 : r = 66
  · subst e3; rw [show saidR 66 = [sEnc, sDec] from rfl]; simpa using ⟨h1, h2⟩
  by_cases e4 : r = 71
  · subst e4; rw [show saidR 71 = [sGen] from rfl]; simpa using h3
  by_cases e5 : r = 86
  · subst e5; rw [show saidR 86 = [sVer] from rfl]; simpa using h4
  by_cases e6 : r = 67
  · subst e6; rw [show saidR 67 = [sGen, sVer] from rfl]; simpa using ⟨h3, h4⟩
  by_cases e7 : r = 83
  · subst e7; rw [show saidR 83 = [sSig] from rfl]; simpa using h5
  by_cases e8 : r = 84
  · subst e8; rw [show saidR 84 = [sDec, sSig] from rfl]; simpa using ⟨h2, h5⟩
  by_cases e9 : r = 88
  · subst e9; rw [show saidR 88 = [sDer] from rfl]; simpa using h6
  have : saidR r = [] := by
    unfold saidR usage_said.f
    rw [if_neg e1, if_neg e2, if_neg e3, if_neg e4, if_neg e5, if_neg e6, if_neg e7, if_neg e8, if_neg e9]
    rfl
  rw [this]
  intro y hy
  cases hy
theorem allSaid_all {Q : ByteArray → Prop} (h1 : Q sEnc) (h2 : Q sDec) (h3 : Q sGen) (h4 : Q sVer) (h5 : Q sSig) (h6 : Q sDer) (m : ByteArray) : ∀ y ∈ allSaid m, Q y := by
  intro y hy
  obtain ⟨b, _, hb⟩ := List.mem_flatMap.1 hy
  exact said_all h1 h2 h3 h4 h5 h6 _ y hb
theorem opsIn_flat (m op : ByteArray) : Go.Proofs.YtjoageaencpfaaaDoor.PUsageTells.opsIn (allSaid m) op = m.data.toList.any fun b => Go.Proofs.YtjoageaencpfaaaDoor.PUsageTells.opsIn (saidR (runeOf b)) op := by
  unfold Go.Proofs.YtjoageaencpfaaaDoor.PUsageTells.opsIn allSaid
  rw [List.any_flatMap]
def modesT (a : ByteArray) : ByteArray := (table_Modes.f a).getD ⟨#[]⟩
theorem modes_of {a m : ByteArray} (h : table_Modes.f a = some m) : modesT a = m := by unfold modesT; rw [h]; rfl
theorem modes_41 (a : ByteArray) : table_Modes.f a = some (modesT a) ∧ plainText (modesT a) = true := by
  have key : ∀ m : ByteArray, table_Modes.f a = some m → plainText m = true → table_Modes.f a = some (modesT a) ∧ plainText (modesT a) = true := by
    intro m h hp
    rw [modes_of h]
    exact ⟨h, hp⟩
  have lit : ∀ u l m : ByteArray, table_of.f a = some (u, l, m) → plainText m = true → table_Modes.f a = some (modesT a) ∧ plainText (modesT a) = true := by
    intro u l m h hp
    refine key m ?_ hp
    unfold table_Modes.f
    rw [h]
    rfl
  by_cases h0 : a = ⟨#[66, 48]⟩
  · subst h0; exact lit ⟨#[66, 48]⟩ ⟨#[65, 84]⟩ ⟨#[78, 88]⟩ (by kernel_rfl) (by kernel_rfl)
  by_cases h1 : a = ⟨#[68, 48]⟩
  · subst h1; exact lit ⟨#[68, 48]⟩ ⟨#[65, 84]⟩ ⟨#[66, 68, 69, 78]⟩ (by kernel_rfl) (by kernel_rfl)
  by_cases h2 : a = ⟨#[68, 49]⟩
  · subst h2; exact lit ⟨#[68, 49]⟩ ⟨#[69]⟩ ⟨#[66, 68, 69, 78]⟩ (by kernel_rfl) (by kernel_rfl)
  by_cases h3 : a = ⟨#[75, 48]⟩
  · subst h3; exact lit ⟨#[75, 48]⟩ ⟨#[65, 84]⟩ ⟨#[66, 68, 69, 78]⟩ (by kernel_rfl) (by kernel_rfl)
  by_cases h4 : a = ⟨#[75, 49]⟩
  · subst h4; exact lit ⟨#[75, 49]⟩ ⟨#[65, 84]⟩ ⟨#[66, 68, 69, 78]⟩ (by kernel_rfl) (by kernel_rfl)
  by_cases h5 : a = ⟨#[77, 51]⟩
  · subst h5; exact lit ⟨#[77, 51]⟩ ⟨#[84]⟩ ⟨#[67, 71, 78, 86]⟩ (by kernel_rfl) (by kernel_rfl)
  by_cases h6 : a = ⟨#[77, 54]⟩
  · subst h6; exact lit ⟨#[77, 54]⟩ ⟨#[65, 84]⟩ ⟨#[67, 71, 78, 86]⟩ (by kernel_rfl) (by kernel_rfl)
  by_cases h7 : a = ⟨#[77, 55]⟩
  · subst h7; exact lit ⟨#[77, 55]⟩ ⟨#[72]⟩ ⟨#[67, 71, 78, 86]⟩ (by kernel_rfl) (by kernel_rfl)
  by_cases h8 : a = ⟨#[80, 48]⟩
  · subst h8; exact lit ⟨#[80, 48]⟩ ⟨#[65, 84]⟩ ⟨#[66, 68, 69, 78]⟩ (by kernel_rfl) (by kernel_rfl)
  by_cases h9 : a = ⟨#[83, 48]⟩
  · subst h9; exact lit ⟨#[83, 48]⟩ ⟨#[69]⟩ ⟨#[78, 83, 84, 86]⟩ (by kernel_rfl) (by kernel_rfl)
  obtain ⟨t, ht⟩ := two_some41 a
  have hof : table_of.f a = (table_two.f a).bind fun t => if t = true then some (a, ⟨#[65, 69, 72, 84]⟩, ⟨#[66, 67, 68, 69, 71, 78, 83, 84, 86, 88]⟩) else some (⟨#[]⟩, ⟨#[]⟩, ⟨#[]⟩) := by
    unfold table_of.f
    rw [if_neg h0, if_neg h1, if_neg h2, if_neg h3, if_neg h4, if_neg h5, if_neg h6, if_neg h7, if_neg h8, if_neg h9]
  cases t
  · exact lit ⟨#[]⟩ ⟨#[]⟩ ⟨#[]⟩ (by rw [hof, ht]; rfl) (by kernel_rfl)
  · exact lit a ⟨#[65, 69, 72, 84]⟩ ⟨#[66, 67, 68, 69, 71, 78, 83, 84, 86, 88]⟩ (by rw [hof, ht]; rfl) (by kernel_rfl)
/-- What a header's mode says, ahead of the renaming. -/
def T41 (a0 a1 : ByteArray) : List ByteArray := if a1.toList = [78] then allSaid (modesT a0) else if (a1.size : Int) = 1 then allSaid a1 else []
def K41 (a0 : ByteArray) : Prop := a0.toList = [75, 48] ∨ a0.toList = [75, 49]
instance (a0 : ByteArray) : Decidable (K41 a0) := by unfold K41; infer_instance
def in41 (a0 a1 op : ByteArray) : Bool := Go.Proofs.YtjoageaencpfaaaDoor.PUsageTells.opsIn (if K41 a0 then (T41 a0 a1).map renR else T41 a0 a1) op
theorem plain_one {a : ByteArray} (h : (a.size : Int) = 1) : plainText a = true := by
  have h1 : a.size = 1 := by omega
  unfold plainText
  simp [h1]
theorem of_is (a0 a1 a2 a3 : ByteArray) : usage_Of.f a0 a1 a2 a3 = some (ops41.filter (in41 a0 a1)) := by
  have hg : ∀ m, plainText m = true → T41 a0 a1 = allSaid m → usage_Of.g a0 m = some (ops41.filter (in41 a0 a1)) := by
    intro m hp hT
    unfold usage_Of.g
    rw [if_pos hp, ops_is]
    simp only [Option.bind_some]
    rw [if_pos (by decide)]
    congr 2
    funext x
    unfold in41
    rw [hT]
    rfl
  unfold usage_Of.f
  by_cases h1 : a1.toList = [78]
  · rw [if_pos h1, (modes_41 a0).1]
    exact hg _ (modes_41 a0).2 (by unfold T41; rw [if_pos h1])
  · rw [if_neg h1]
    by_cases h2 : (a1.size : Int) = 1
    · rw [if_pos h2]
      exact hg a1 (plain_one h2) (by unfold T41; rw [if_neg h1, if_pos h2])
    · rw [if_neg h2]
      have hT : T41 a0 a1 = [] := by unfold T41; rw [if_neg h1, if_neg h2]
      congr 1
      symm
      rw [List.filter_eq_nil_iff]
      intro x _
      unfold in41
      rw [hT]
      simp [Go.Proofs.YtjoageaencpfaaaDoor.PUsageTells.opsIn]
theorem contains_is (l : List ByteArray) (x : ByteArray) (hl : l.length ≤ 1000000) : Ev (fun k => slices_Contains_string_string.f k l x) (Go.Proofs.YtjoageaencpfaaaDoor.PUsageTells.opsIn l x) :=
  Ev.of (slices_Contains_string_string.mono _ _) (contains_in l x hl)
theorem of_len (a0 a1 : ByteArray) : (ops41.filter (in41 a0 a1)).length ≤ 8 := List.length_filter_le _ _
def bare41 (a3 a4 a5 a6 : ByteArray) : Bool := a3.toList == [] && (a4.toList == [] && (a5.toList == [] && a6.toList == []))
theorem bare_cases (a3 a4 a5 a6 : ByteArray) : bare41 a3 a4 a5 a6 = true ↔ (a3.toList = [] ∧ a4.toList = [] ∧ a5.toList = [] ∧ a6.toList = []) := by
  unfold bare41
  simp only [Bool.and_eq_true, beq_iff_eq]
theorem bare_if {α : Type} {X Y : Nat → Option α} {r : α} (a3 a4 a5 a6 : ByteArray) (h1 : bare41 a3 a4 a5 a6 = true → Ev X r) (h2 : ¬ bare41 a3 a4 a5 a6 = true → Ev Y r) :
    Ev (fun k => if a3.toList = ([] : List UInt8) then (if a4.toList = ([] : List UInt8) then (if a5.toList = ([] : List UInt8) then (if a6.toList = ([] : List UInt8) then X k else Y k) else Y k) else Y k) else Y k) r := by
  rw [bare_cases] at h1 h2
  by_cases e3 : a3.toList = []
  · refine Ev.ifp e3 ?_
    by_cases e4 : a4.toList = []
    · refine Ev.ifp e4 ?_
      by_cases e5 : a5.toList = []
      · refine Ev.ifp e5 ?_
        by_cases e6 : a6.toList = []
        · exact Ev.ifp e6 (h1 ⟨e3, e4, e5, e6⟩)
        · exact Ev.ifn e6 (h2 (fun h => e6 h.2.2.2))
      · exact Ev.ifn e5 (h2 (fun h => e5 h.2.2.1))
    · exact Ev.ifn e4 (h2 (fun h => e4 h.2.1))
  · exact Ev.ifn e3 (h2 (fun h => e3 h.1))
theorem record_bare_is (x0 : Int) (x1 : ByteArray) (x2 : List S52) (a3 a4 a5 a6 : ByteArray) : record_Bare.f x0 x1 x2 a3 a4 a5 a6 = some (bare41 a3 a4 a5 a6) := by
  unfold record_Bare.f bare41
  by_cases e3 : a3.toList = []
  · rw [if_pos e3]
    by_cases e4 : a4.toList = []
    · rw [if_pos e4]
      by_cases e5 : a5.toList = []
      · rw [if_pos e5]
        by_cases e6 : a6.toList = []
        · rw [if_pos e6]; simp [e3, e4, e5, e6]
        · rw [if_neg e6]; simp [e3, e4, e5, e6]
      · rw [if_neg e5]; simp [e3, e4, e5]
    · rw [if_neg e4]; simp [e3, e4]
  · rw [if_neg e3]; simp [e3]
def may41 (a3 a4 a5 a6 op : ByteArray) : Int := if Go.Proofs.YtjoageaencpfaaaDoor.PUsageTells.opsIn ops41 op = true then (if bare41 a3 a4 a5 a6 = true then 0 else if Go.Proofs.YtjoageaencpfaaaDoor.PUsageTells.opsIn (ops41.filter (in41 a3 a4)) op = true then 0 else 14) else 1
theorem may_is (x0 : Int) (x1 : ByteArray) (x2 : List S52) (a3 a4 a5 a6 op : ByteArray) : Ev (fun k => usage_May.f k x0 x1 x2 a3 a4 a5 a6 op) (may41 a3 a4 a5 a6 op) := by
  refine Ev.congr (fun k => by rw [usage_May.f]) ?_
  refine Ev.bindc ops_is ?_
  refine Ev.bind (contains_is ops41 op (by decide)) ?_
  unfold may41
  by_cases h1 : Go.Proofs.YtjoageaencpfaaaDoor.PUsageTells.opsIn ops41 op = true
  · refine Ev.eq ?_ (if_pos h1).symm
    refine Ev.ifp h1 ?_
    refine Ev.bindc (record_bare_is x0 x1 x2 a3 a4 a5 a6) ?_
    by_cases h2 : bare41 a3 a4 a5 a6 = true
    · refine Ev.eq ?_ (if_pos h2).symm
      exact Ev.ifp h2 (Ev.now _)
    · refine Ev.eq ?_ (if_neg h2).symm
      refine Ev.ifn h2 ?_
      refine Ev.bindc (of_is a3 a4 a5 a6) ?_
      refine Ev.bind (contains_is _ op (Nat.le_trans (of_len a3 a4) (by decide))) ?_
      exact Ev.ite (fun _ => Ev.now _) (fun _ => Ev.now _)
  · refine Ev.eq ?_ (if_neg h1).symm
    exact Ev.ifn h1 (Ev.now _)
theorem awake41 : Ev (fun k => clavigerlaw41_awake.f k) true := Ev.of clavigerlaw41_awake.mono (k := 12) (by kernel_rfl)
def getL (l : List S52) (tag : Int) : ByteArray × Bool := match l.find? (fun x => x.f0 == tag) with
  | some x => (x.f1, true)
  | none => (⟨#[]⟩, false)
theorem get_is (l : List S52) (tag : Int) (hl : l.length ≤ 9223372036854775806) : attr_Get.f l tag = some (getL l tag) := by
  unfold attr_Get.f getL
  rw [if_pos hl]
  unfold attr_idx
  by_cases h : l.findIdx (fun x => x.f0 == tag) < l.length
  · rw [if_pos h, if_neg (by omega)]
    have hf : l.find? (fun x => x.f0 == tag) = some (l[l.findIdx (fun x => x.f0 == tag)]) := by
      rw [List.find?_eq_some_iff_getElem]
      refine ⟨List.findIdx_getElem (w := h), _, h, rfl, fun j hj => ?_⟩
      have := List.not_of_lt_findIdx hj
      simpa using this
    rw [hf, rd_attr2 _ _ (by omega) (by simpa using h)]
    rfl
  · rw [if_neg h, if_pos (by omega)]
    have hf : l.find? (fun x => x.f0 == tag) = none := by
      rw [List.find?_eq_none]
      intro x hx hp
      exact h (List.findIdx_lt_length_of_exists ⟨x, hx, hp⟩)
    rw [hf]
def export41 (l : List S52) (a3 a4 a5 a6 : ByteArray) : ByteArray := if bare41 a3 a4 a5 a6 = true then (if ((getL l 65535).1.size : Int) = 6 then (getL l 65535).1.extract 5 (getL l 65535).1.size else (getL l 1).1) else a6
theorem export_is (x0 : Int) (x1 : ByteArray) (l : List S52) (a3 a4 a5 a6 : ByteArray) (hl : l.length ≤ 9223372036854775806) : usage_Export.f x0 x1 l a3 a4 a5 a6 = some (export41 l a3 a4 a5 a6) := by
  unfold usage_Export.f export41
  rw [record_bare_is x0 x1 l a3 a4 a5 a6]
  simp only [Option.bind_some]
  by_cases h : bare41 a3 a4 a5 a6 = true
  · rw [if_pos h, if_pos h, get_is l _ hl, get_is l _ hl]
    simp only [Option.bind_some]
    by_cases h2 : ((getL l 65535).1.size : Int) = 6
    · rw [if_pos h2, if_pos h2, if_pos (by omega)]
    · rw [if_neg h2, if_neg h2]
  · rw [if_neg h, if_neg h]
def leaves41 (e : ByteArray) (t : Bool) : Int := if e.toList = [69] then (if t = true then 0 else 14) else if e.toList = [78] then 14 else 0
theorem leaves_is (x0 : Int) (x1 : ByteArray) (l : List S52) (a3 a4 a5 a6 : ByteArray) (t : Bool) (hl : l.length ≤ 9223372036854775806) : usage_Leaves.f x0 x1 l a3 a4 a5 a6 t = some (leaves41 (export41 l a3 a4 a5 a6) t) := by
  unfold usage_Leaves.f
  rw [export_is x0 x1 l a3 a4 a5 a6 hl]
  simp only [Option.bind_some]
  unfold leaves41
  split
  · split <;> rfl
  · split <;> rfl
theorem ref_get_is (l : List S52) (tag : Int) (hl : l.length ≤ 9223372036854775806) : Ev (fun k => clavigerref24_Get.f k l tag) (getL l tag) := by
  have loop : ∀ d i : Nat, i + d = l.length → Ev (fun k => clavigerref24_Get.l0 k l tag (i : Int)) (getL (l.drop i) tag) := by
    intro d
    induction d with
    | zero =>
      intro i hd
      refine Ev.step (fun k => by rw [clavigerref24_Get.l0]) ?_
      refine Ev.ifn (by omega) ((Ev.now _).eq ?_)
      rw [List.drop_eq_nil_of_le (by omega)]
      rfl
    | succ d ih =>
      intro i hd
      have hlt : i < l.length := by omega
      refine Ev.step (fun k => by rw [clavigerref24_Get.l0]) ?_
      refine Ev.ifp (by omega) (Ev.ifp (by omega) ?_)
      have hrd : rd_T52 l (i : Int) = l[i] := rd_attr l i hlt
      rw [hrd, List.drop_eq_getElem_cons hlt]
      by_cases h : l[i].f0 = tag
      · refine Ev.ifp h ((Ev.now _).eq ?_)
        unfold getL
        rw [List.find?_cons_of_pos (by simpa using h)]
      · refine Ev.ifn h ?_
        rw [w64 (by omega) (by omega)]
        refine (ih (i + 1) (by omega)).eq ?_
        unfold getL
        rw [List.find?_cons_of_neg (by simpa using h)]
  exact loop l.length 0 (by omega)
theorem ref_export_is (x0 : Int) (x1 : ByteArray) (l : List S52) (a3 a4 a5 a6 : ByteArray) (hl : l.length ≤ 9223372036854775806) : Ev (fun k => clavigerref41_Export.f k x0 x1 l a3 a4 a5 a6) (export41 l a3 a4 a5 a6) := by
  refine Ev.congr (fun k => by rw [clavigerref41_Export.f]) ?_
  unfold export41
  refine bare_if a3 a4 a5 a6 (fun h => ?_) (fun h => ?_)
  · refine Ev.eq ?_ (if_pos h).symm
    refine Ev.bind (ref_get_is l _ hl) ?_
    by_cases h2 : ((getL l 65535).1.size : Int) = 6
    · refine Ev.eq ?_ (if_pos h2).symm
      exact Ev.ifp h2 (Ev.ifp (by omega) (Ev.now _))
    · refine Ev.eq ?_ (if_neg h2).symm
      exact Ev.ifn h2 (Ev.bind (ref_get_is l _ hl) (Ev.now _))
  · exact (Ev.now _).eq (if_neg h).symm
theorem ref_leaves_is (x0 : Int) (x1 : ByteArray) (l : List S52) (a3 a4 a5 a6 : ByteArray) (t : Bool) (hl : l.length ≤ 9223372036854775806) : Ev (fun k => clavigerref41_Leaves.f k x0 x1 l a3 a4 a5 a6 t) (leaves41 (export41 l a3 a4 a5 a6) t) := by
  have he := ref_export_is x0 x1 l a3 a4 a5 a6 hl
  refine Ev.congr (fun k => by rw [clavigerref41_Leaves.f]) ?_
  unfold leaves41
  generalize export41 l a3 a4 a5 a6 = e at he ⊢
  refine Ev.bind he ?_
  by_cases h1 : e.toList = [78]
  · refine Ev.ifp h1 ((Ev.now _).eq ?_)
    rw [if_neg (by rw [h1]; decide), if_pos h1]
  · refine Ev.ifn h1 ?_
    refine Ev.bind he ?_
    by_cases h2 : e.toList = [69]
    · refine Ev.ifp h2 ?_
      refine Ev.eq ?_ (if_pos h2).symm
      exact Ev.ite (fun _ => Ev.now _) (fun _ => Ev.now _)
    · refine Ev.ifn h2 ((Ev.now _).eq ?_)
      rw [if_neg h2, if_neg h1]
theorem one_list (b : UInt8) : (⟨#[b]⟩ : ByteArray).toList = [b] := by rw [toList_data]
theorem says_is (b : UInt8) (op : ByteArray) : clavigerref41_says.f ⟨#[b]⟩ op = some (Go.Proofs.YtjoageaencpfaaaDoor.PUsageTells.opsIn (saidR (runeOf b)) op) := by
  unfold clavigerref41_says.f Go.Proofs.YtjoageaencpfaaaDoor.PUsageTells.opsIn
  rw [one_list]
  have l1 : sEnc.toList = [101, 110, 99, 114, 121, 112, 116] := by rw [toList_data]; rfl
  have l2 : sDec.toList = [100, 101, 99, 114, 121, 112, 116] := by rw [toList_data]; rfl
  have l3 : sGen.toList = [103, 101, 110, 101, 114, 97, 116, 101] := by rw [toList_data]; rfl
  have l4 : sVer.toList = [118, 101, 114, 105, 102, 121] := by rw [toList_data]; rfl
  have l5 : sSig.toList = [115, 105, 103, 110] := by rw [toList_data]; rfl
  have l6 : sDer.toList = [100, 101, 114, 105, 118, 101] := by rw [toList_data]; rfl
  generalize op.toList = p
  by_cases e1 : b = 69
  · subst e1
    rw [show saidR (runeOf 69) = [sEnc] from rfl]
    simp only [List.any_cons, List.any_nil, Bool.or_false, l1]
    (repeat' split) <;> simp_all
  by_cases e2 : b = 68
  · subst e2
    rw [show saidR (runeOf 68) = [sDec] from rfl]
    simp only [List.any_cons, List.any_nil, Bool.or_false, l2]
    (repeat' split) <;> simp_all
  by_cases e3 : b = 66
  · subst e3
    rw [show saidR (runeOf 66) = [sEnc, sDec] from rfl]
    simp only [List.any_cons, List.any_nil, Bool.or_false, l1, l2]
    (repeat' split) <;> simp_all
  by_cases e4 : b = 71
  · subst e4
    rw [show saidR (runeOf 71) = [sGen] from rfl]
    simp only [List.any_cons, List.any_nil, Bool.or_false, l3]
    (repeat' split) <;> simp_all
  by_cases e5 : b = 86
  · subst e5
    rw [show saidR (runeOf 86) = [sVer] from rfl]
    simp only [List.any_cons, List.any_nil, Bool.or_false, l4]
    (repeat' split) <;> simp_all
  by_cases e6 : b = 67
  · subst e6
    rw [show saidR (runeOf 67) = [sGen, sVer] from rfl]
    simp only [List.any_cons, List.any_nil, Bool.or_false, l3, l4]
    (repeat' split) <;> simp_all
  by_cases e7 : b = 83
  · subst e7
    rw [show saidR (runeOf 83) = [sSig] from rfl]
    simp only [List.any_cons, List.any_nil, Bool.or_false, l5]
    (repeat' split) <;> simp_all
  by_cases e8 : b = 84
  · subst e8
    rw [show saidR (runeOf 84) = [sDec, sSig] from rfl]
    simp only [List.any_cons, List.any_nil, Bool.or_false, l2, l5]
    (repeat' split) <;> simp_all
  by_cases e9 : b = 88
  · subst e9
    rw [show saidR (runeOf 88) = [sDer] from rfl]
    simp only [List.any_cons, List.any_nil, Bool.or_false, l6]
    (repeat' split) <;> simp_all
  have hz : saidR (runeOf b) = [] := by
    have f : ∀ n : UInt8, n.toNat < 128 → ¬ b = n → ¬ runeOf b = (n.toNat : Int) := by
      intro n hn hb e
      unfold runeOf runeN at e
      split at e
      · exact hb (UInt8.toNat_inj.1 (by omega))
      · omega
    unfold saidR usage_said.f
    rw [if_neg (show ¬ runeOf b = 69 from f 69 (by decide) e1), if_neg (show ¬ runeOf b = 68 from f 68 (by decide) e2), if_neg (show ¬ runeOf b = 66 from f 66 (by decide) e3), if_neg (show ¬ runeOf b = 71 from f 71 (by decide) e4), if_neg (show ¬ runeOf b = 86 from f 86 (by decide) e5), if_neg (show ¬ runeOf b = 67 from f 67 (by decide) e6), if_neg (show ¬ runeOf b = 83 from f 83 (by decide) e7), if_neg (show ¬ runeOf b = 84 from f 84 (by decide) e8), if_neg (show ¬ runeOf b = 88 from f 88 (by decide) e9)]
    rfl
  rw [hz]
  have g : ∀ n : UInt8, ¬ b = n → ([b] == [n]) = false := by
    intro n hn
    simpa using hn
  have g2 : ∀ n : UInt8, ¬ b = n → ¬ ([b] : List UInt8) = [n] := by
    intro n hn
    simpa using hn
  rw [if_neg (g2 69 e1), if_neg (g2 68 e2), if_neg (g2 66 e3), if_neg (g2 71 e4), if_neg (g2 86 e5), if_neg (g2 83 e7), g 66 e3, g 84 e8, g 67 e6, g 88 e9]
  simp
theorem says_not (a op : ByteArray) (h : ¬ (a.size : Int) = 1) : clavigerref41_says.f a op = some false := by
  have g2 : ∀ n : UInt8, ¬ a.toList = [n] := by
    intro n e
    have h1 := congrArg List.length e
    rw [toList_data] at h1
    have h2 : a.data.toList.length = a.size := data_length a
    simp only [List.length_cons, List.length_nil] at h1
    omega
  have g : ∀ n : UInt8, (a.toList == [n]) = false := fun n => beq_eq_false_iff_ne.2 (g2 n)
  unfold clavigerref41_says.f
  rw [if_neg (g2 69), if_neg (g2 68), if_neg (g2 66), if_neg (g2 71), if_neg (g2 86), if_neg (g2 83), g 66, g 84, g 67, g 88]
  simp
theorem str_ne41 {a : ByteArray} {m : List UInt8} (h : ¬ a = ⟨m.toArray⟩) : ¬ a.toList = m := by
  intro e
  refine h ?_
  rw [toList_data] at e
  cases a; simp only at e; subst e; simp
theorem str_beq41 {a : ByteArray} {m : List UInt8} (h : ¬ a = ⟨m.toArray⟩) : (a.toList == m) = false := beq_eq_false_iff_ne.2 (str_ne41 h)
theorem ref_modes_41 (a : ByteArray) : Ev (fun k => clavigerref30_Modes.f k a) (modesT a) := by
  have lit : ∀ m : ByteArray, table_Modes.f a = some m → Ev (fun k => clavigerref30_Modes.f k a) m → Ev (fun k => clavigerref30_Modes.f k a) (modesT a) := by
    intro m h he
    rw [modes_of h]
    exact he
  by_cases h0 : a = ⟨#[66, 48]⟩
  · subst h0; exact lit ⟨#[78, 88]⟩ (by kernel_rfl) (Ev.of (clavigerref30_Modes.mono _) (k := 9) (by kernel_rfl))
  by_cases h1 : a = ⟨#[68, 48]⟩
  · subst h1; exact lit ⟨#[66, 68, 69, 78]⟩ (by kernel_rfl) (Ev.of (clavigerref30_Modes.mono _) (k := 9) (by kernel_rfl))
  by_cases h2 : a = ⟨#[68, 49]⟩
  · subst h2; exact lit ⟨#[66, 68, 69, 78]⟩ (by kernel_rfl) (Ev.of (clavigerref30_Modes.mono _) (k := 9) (by kernel_rfl))
  by_cases h3 : a = ⟨#[75, 48]⟩
  · subst h3; exact lit ⟨#[66, 68, 69, 78]⟩ (by kernel_rfl) (Ev.of (clavigerref30_Modes.mono _) (k := 9) (by kernel_rfl))
  by_cases h4 : a = ⟨#[75, 49]⟩
  · subst h4; exact lit ⟨#[66, 68, 69, 78]⟩ (by kernel_rfl) (Ev.of (clavigerref30_Modes.mono _) (k := 9) (by kernel_rfl))
  by_cases h5 : a = ⟨#[77, 51]⟩
  · subst h5; exact lit ⟨#[67, 71, 78, 86]⟩ (by kernel_rfl) (Ev.of (clavigerref30_Modes.mono _) (k := 9) (by kernel_rfl))
  by_cases h6 : a = ⟨#[77, 54]⟩
  · subst h6; exact lit ⟨#[67, 71, 78, 86]⟩ (by kernel_rfl) (Ev.of (clavigerref30_Modes.mono _) (k := 9) (by kernel_rfl))
  by_cases h7 : a = ⟨#[77, 55]⟩
  · subst h7; exact lit ⟨#[67, 71, 78, 86]⟩ (by kernel_rfl) (Ev.of (clavigerref30_Modes.mono _) (k := 9) (by kernel_rfl))
  by_cases h8 : a = ⟨#[80, 48]⟩
  · subst h8; exact lit ⟨#[66, 68, 69, 78]⟩ (by kernel_rfl) (Ev.of (clavigerref30_Modes.mono _) (k := 9) (by kernel_rfl))
  by_cases h9 : a = ⟨#[83, 48]⟩
  · subst h9; exact lit ⟨#[78, 83, 84, 86]⟩ (by kernel_rfl) (Ev.of (clavigerref30_Modes.mono _) (k := 9) (by kernel_rfl))
  obtain ⟨t, ht⟩ := two_some41 a
  have ho := own_two a ht
  have hof : table_of.f a = (table_two.f a).bind fun t => if t = true then some (a, ⟨#[65, 69, 72, 84]⟩, ⟨#[66, 67, 68, 69, 71, 78, 83, 84, 86, 88]⟩) else some (⟨#[]⟩, ⟨#[]⟩, ⟨#[]⟩) := by
    unfold table_of.f
    rw [if_neg h0, if_neg h1, if_neg h2, if_neg h3, if_neg h4, if_neg h5, if_neg h6, if_neg h7, if_neg h8, if_neg h9]
  have hm : ∀ x, (if t = true then some (⟨#[66, 67, 68, 69, 71, 78, 83, 84, 86, 88]⟩ : ByteArray) else some ⟨#[]⟩) = some x → Ev (fun k => clavigerref30_Modes.f k a) x := by
    intro x hx
    unfold clavigerref30_Modes.f
    refine Ev.ifn (str_ne41 h0) ?_
    refine Ev.ifn (str_ne41 h1) ?_
    refine Ev.ifn (str_ne41 h2) ?_
    refine Ev.ifn (str_ne41 h3) ?_
    refine Ev.ifn (str_ne41 h4) ?_
    rw [str_beq41 h8]
    refine Ev.step (fun k => by rw [clavigerref30_Modes.j0]) ?_
    refine Ev.ifn (by decide) ?_
    refine Ev.ifn (str_ne41 h5) ?_
    refine Ev.ifn (str_ne41 h6) ?_
    rw [str_beq41 h7]
    refine Ev.step (fun k => by rw [clavigerref30_Modes.j1]) ?_
    refine Ev.ifn (by decide) ?_
    refine Ev.ifn (str_ne41 h9) ?_
    refine Ev.bindc ho ?_
    exact Ev.const hx
  cases t
  · exact lit ⟨#[]⟩ (by unfold table_Modes.f; rw [hof, ht]; rfl) (hm _ rfl)
  · exact lit ⟨#[66, 67, 68, 69, 71, 78, 83, 84, 86, 88]⟩ (by unfold table_Modes.f; rw [hof, ht]; rfl) (hm _ rfl)
theorem extract_one41 (m : ByteArray) (i : Nat) (h : i < m.size) : m.extract i (i + 1) = ⟨#[m.data[i]'h]⟩ := by
  have e : (m.extract i (i + 1)).data = #[m.data[i]'h] := by
    rw [ByteArray.data_extract]
    apply Array.ext
    · simp; have : m.data.size = m.size := rfl; omega
    · intro j h1 h2
      have : j = 0 := by simp at h2; omega
      subst this
      simp
  rcases hh : m.extract i (i + 1) with ⟨d⟩
  rw [hh] at e
  simp only at e
  rw [e]
theorem ref_letters (op m : ByteArray) (hm : m.size ≤ 1000) : ∀ d i : Nat, i + d = m.size → Ev (fun k => clavigerref41_may.l0 k op m (i : Int)) ((m.data.toList.drop i).any fun b => Go.Proofs.YtjoageaencpfaaaDoor.PUsageTells.opsIn (saidR (runeOf b)) op) := by
  intro d
  have hl : m.data.toList.length = m.size := data_length m
  induction d with
  | zero =>
    intro i hd
    refine Ev.step (fun k => by rw [clavigerref41_may.l0]) ?_
    refine Ev.ifn (by omega) ((Ev.now _).eq ?_)
    rw [List.drop_eq_nil_of_le (by omega)]
    rfl
  | succ d ih =>
    intro i hd
    have hlt : i < m.size := by omega
    refine Ev.step (fun k => by rw [clavigerref41_may.l0]) ?_
    have hw : wrap64 ((i : Int) + 1) = ((i + 1 : Nat) : Int) := (w64 (by omega) (by omega)).trans (by omega)
    rw [hw]
    refine Ev.ifp (by omega) (Ev.ifp (by omega) (Ev.ifp (by omega) (Ev.ifp (by omega) ?_)))
    simp only [Int.toNat_natCast]
    rw [extract_one41 m i hlt]
    refine Ev.bindc (says_is _ op) ?_
    rw [List.drop_eq_getElem_cons (by omega), List.any_cons]
    have e : m.data.toList[i]'(by omega) = m.data[i]'hlt := by simp
    rw [e]
    by_cases h : Go.Proofs.YtjoageaencpfaaaDoor.PUsageTells.opsIn (saidR (runeOf (m.data[i]'hlt))) op = true
    · refine Ev.ifp h ((Ev.now _).eq ?_)
      rw [h]
      rfl
    · refine Ev.ifn h ?_
      refine (ih (i + 1) (by omega)).eq ?_
      rw [Bool.eq_false_iff.2 h, Bool.false_or]
theorem plain_size {m : ByteArray} (h : plainText m = true) : m.size ≤ 1000 := by
  simp only [plainText, Bool.and_eq_true, decide_eq_true_eq] at h
  exact h.1
theorem ref_j2 (op a0 a1 a2 a3 : ByteArray) : Ev (fun k => clavigerref41_may.j2 k op a0 a1 a2 a3) (Go.Proofs.YtjoageaencpfaaaDoor.PUsageTells.opsIn (T41 a0 a1) op) := by
  refine Ev.step (fun k => by rw [clavigerref41_may.j2]) ?_
  unfold T41
  by_cases h1 : a1.toList = [78]
  · refine Ev.ifp h1 ?_
    refine Ev.bind (ref_modes_41 a0) ?_
    refine (ref_letters op (modesT a0) (plain_size (modes_41 a0).2) _ 0 (Nat.zero_add _)).eq ?_
    rw [if_pos h1, opsIn_flat]
    rfl
  · refine Ev.ifn h1 ?_
    by_cases h2 : (a1.size : Int) = 1
    · obtain ⟨c, rfl⟩ := one_byte (by omega : a1.size = 1)
      refine Ev.bindc (says_is c op) ((Ev.now _).eq ?_)
      rw [if_neg h1, if_pos h2, opsIn_flat]
      simp
    · refine Ev.bindc (says_not a1 op h2) ((Ev.now _).eq ?_)
      rw [if_neg h1, if_neg h2]
      rfl
def mayR (a0 a1 op : ByteArray) : Bool := if K41 a0 then (if op.toList = sEnc.toList ∨ op.toList = sDec.toList then false else if op.toList = sWrap.toList then Go.Proofs.YtjoageaencpfaaaDoor.PUsageTells.opsIn (T41 a0 a1) sEnc else if op.toList = sUnw.toList then Go.Proofs.YtjoageaencpfaaaDoor.PUsageTells.opsIn (T41 a0 a1) sDec else Go.Proofs.YtjoageaencpfaaaDoor.PUsageTells.opsIn (T41 a0 a1) op) else Go.Proofs.YtjoageaencpfaaaDoor.PUsageTells.opsIn (T41 a0 a1) op
theorem ref_may_is (a0 a1 a2 a3 op : ByteArray) : Ev (fun k => clavigerref41_may.f k a0 a1 a2 a3 op) (mayR a0 a1 op) := by
  have l1 : sEnc.toList = [101, 110, 99, 114, 121, 112, 116] := by rw [toList_data]; rfl
  have l2 : sDec.toList = [100, 101, 99, 114, 121, 112, 116] := by rw [toList_data]; rfl
  have l3 : sWrap.toList = [119, 114, 97, 112] := by rw [toList_data]; rfl
  have l4 : sUnw.toList = [117, 110, 119, 114, 97, 112] := by rw [toList_data]; rfl
  have hK : K41 a0 → Ev (fun k => clavigerref41_may.j0 k op true a0 a1 a2 a3) (mayR a0 a1 op) := by
    intro hk
    refine Ev.step (fun k => by rw [clavigerref41_may.j0]) ?_
    refine Ev.ifp rfl ?_
    unfold mayR
    refine Ev.eq ?_ (if_pos hk).symm
    rw [l1, l2, l3, l4]
    by_cases h1 : op.toList = [101, 110, 99, 114, 121, 112, 116]
    · refine Ev.ifp h1 ?_
      refine Ev.step (fun k => by rw [clavigerref41_may.j1]) ?_
      refine Ev.ifp (by rw [h1]; rfl) ((Ev.now _).eq ?_)
      rw [if_pos (Or.inl h1)]
    · refine Ev.ifn h1 ?_
      refine Ev.step (fun k => by rw [clavigerref41_may.j1]) ?_
      by_cases h2 : op.toList = [100, 101, 99, 114, 121, 112, 116]
      · refine Ev.ifp (by rw [h2]; rfl) ((Ev.now _).eq ?_)
        rw [if_pos (Or.inr h2)]
      · refine Ev.ifn (by simpa using h2) ?_
        refine Ev.eq ?_ (if_neg (by rintro (h | h); exact h1 h; exact h2 h)).symm
        by_cases h3 : op.toList = [119, 114, 97, 112]
        · refine Ev.eq ?_ (if_pos h3).symm
          exact Ev.ifp h3 (ref_j2 _ a0 a1 a2 a3)
        · refine Ev.eq ?_ (if_neg h3).symm
          refine Ev.ifn h3 ?_
          by_cases h4 : op.toList = [117, 110, 119, 114, 97, 112]
          · refine Ev.eq ?_ (if_pos h4).symm
            exact Ev.ifp h4 (ref_j2 _ a0 a1 a2 a3)
          · refine Ev.eq ?_ (if_neg h4).symm
            exact Ev.ifn h4 (ref_j2 _ a0 a1 a2 a3)
  refine Ev.congr (fun k => by rw [clavigerref41_may.f]) ?_
  by_cases h1 : a0.toList = [75, 48]
  · exact Ev.ifp h1 (hK (Or.inl h1))
  · refine Ev.ifn h1 ?_
    by_cases h2 : a0.toList = [75, 49]
    · rw [show (a0.toList == ([75, 49] : List UInt8)) = true from beq_iff_eq.2 h2]
      exact hK (Or.inr h2)
    · rw [show (a0.toList == ([75, 49] : List UInt8)) = false from beq_eq_false_iff_ne.2 h2]
      refine Ev.step (fun k => by rw [clavigerref41_may.j0]) ?_
      refine Ev.ifn (by decide) ?_
      refine (ref_j2 op a0 a1 a2 a3).eq ?_
      unfold mayR
      rw [if_neg (by rintro (h | h); exact h1 h; exact h2 h)]
theorem any_congr41 {T : List ByteArray} {f g : ByteArray → Bool} (h : ∀ y ∈ T, f y = g y) : T.any f = T.any g := by
  induction T with
  | nil => rfl
  | cons y T ih =>
    rw [List.any_cons, List.any_cons, h y (by simp), ih (fun z hz => h z (by simp [hz]))]
theorem T41_all {Q : ByteArray → Prop} (h1 : Q sEnc) (h2 : Q sDec) (h3 : Q sGen) (h4 : Q sVer) (h5 : Q sSig) (h6 : Q sDer) (a0 a1 : ByteArray) : ∀ y ∈ T41 a0 a1, Q y := by
  unfold T41
  split
  · exact allSaid_all h1 h2 h3 h4 h5 h6 _
  · split
    · exact allSaid_all h1 h2 h3 h4 h5 h6 _
    · intro y hy
      cases hy
theorem in_both (a0 a1 : ByteArray) : ∀ op ∈ ops41, in41 a0 a1 op = mayR a0 a1 op := by
  intro op hop
  unfold in41 mayR
  by_cases hk : K41 a0
  · rw [if_pos hk, if_pos hk]
    have e : Go.Proofs.YtjoageaencpfaaaDoor.PUsageTells.opsIn ((T41 a0 a1).map renR) op = (T41 a0 a1).any fun y => op.toList == (renR y).toList := by
      unfold Go.Proofs.YtjoageaencpfaaaDoor.PUsageTells.opsIn
      rw [List.any_map]
      rfl
    rw [e]
    have r1 : renR sEnc = sWrap := by kernel_rfl
    have r2 : renR sDec = sUnw := by kernel_rfl
    have r3 : renR sGen = sGen := by kernel_rfl
    have r4 : renR sVer = sVer := by kernel_rfl
    have r5 : renR sSig = sSig := by kernel_rfl
    have r6 : renR sDer = sDer := by kernel_rfl
    have none_ : ∀ f : ByteArray → Bool, (∀ y ∈ T41 a0 a1, f y = false) → (T41 a0 a1).any f = false := by
      intro f hf
      rw [any_congr41 (g := fun _ => false) hf]
      simp
    simp only [ops41, List.mem_cons, List.not_mem_nil, or_false] at hop
    rcases hop with rfl | rfl | rfl | rfl | rfl | rfl | rfl | rfl
    · rw [if_pos (Or.inl rfl)]
      exact none_ _ (T41_all (by rw [r1]; kernel_rfl) (by rw [r2]; kernel_rfl) (by rw [r3]; kernel_rfl) (by rw [r4]; kernel_rfl) (by rw [r5]; kernel_rfl) (by rw [r6]; kernel_rfl) a0 a1)
    · rw [if_pos (Or.inr rfl)]
      exact none_ _ (T41_all (by rw [r1]; kernel_rfl) (by rw [r2]; kernel_rfl) (by rw [r3]; kernel_rfl) (by rw [r4]; kernel_rfl) (by rw [r5]; kernel_rfl) (by rw [r6]; kernel_rfl) a0 a1)
    · rw [if_neg (by decide +kernel), if_neg (by decide +kernel), if_neg (by decide +kernel)]
      exact any_congr41 (T41_all (by rw [r1]; kernel_rfl) (by rw [r2]; kernel_rfl) (by rw [r3]) (by rw [r4]) (by rw [r5]) (by rw [r6]) a0 a1)
    · rw [if_neg (by decide +kernel), if_neg (by decide +kernel), if_neg (by decide +kernel)]
      exact any_congr41 (T41_all (by rw [r1]; kernel_rfl) (by rw [r2]; kernel_rfl) (by rw [r3]) (by rw [r4]) (by rw [r5]) (by rw [r6]) a0 a1)
    · rw [if_neg (by decide +kernel), if_neg (by decide +kernel), if_neg (by decide +kernel)]
      exact any_congr41 (T41_all (by rw [r1]; kernel_rfl) (by rw [r2]; kernel_rfl) (by rw [r3]) (by rw [r4]) (by rw [r5]) (by rw [r6]) a0 a1)
    · rw [if_neg (by decide +kernel), if_neg (by decide +kernel), if_neg (by decide +kernel)]
      exact any_congr41 (T41_all (by rw [r1]; kernel_rfl) (by rw [r2]; kernel_rfl) (by rw [r3]) (by rw [r4]) (by rw [r5]) (by rw [r6]) a0 a1)
    · rw [if_neg (by decide +kernel), if_pos rfl]
      exact any_congr41 (T41_all (by rw [r1]; kernel_rfl) (by rw [r2]; kernel_rfl) (by rw [r3]; kernel_rfl) (by rw [r4]; kernel_rfl) (by rw [r5]; kernel_rfl) (by rw [r6]; kernel_rfl) a0 a1)
    · rw [if_neg (by decide +kernel), if_neg (by decide +kernel), if_pos rfl]
      exact any_congr41 (T41_all (by rw [r1]; kernel_rfl) (by rw [r2]; kernel_rfl) (by rw [r3]; kernel_rfl) (by rw [r4]; kernel_rfl) (by rw [r5]; kernel_rfl) (by rw [r6]; kernel_rfl) a0 a1)
  · rw [if_neg hk, if_neg hk]
theorem ref_of_loop (a0 a1 a2 a3 : ByteArray) (L : List ByteArray) (hL : L.length ≤ 1000) : ∀ (d i : Nat) (acc : List ByteArray), i + d = L.length → acc.length ≤ i →
    Ev (fun k => clavigerref41_Of.l0 k acc L (i : Int) a0 a1 a2 a3) (acc ++ (L.drop i).filter (mayR a0 a1)) := by
  intro d
  induction d with
  | zero =>
    intro i acc hd ha
    refine Ev.step (fun k => by rw [clavigerref41_Of.l0]) ?_
    refine Ev.ifn (by omega) ((Ev.now _).eq ?_)
    rw [List.drop_eq_nil_of_le (by omega)]
    simp
  | succ d ih =>
    intro i acc hd ha
    have hlt : i < L.length := by omega
    refine Ev.step (fun k => by rw [clavigerref41_Of.l0]) ?_
    have hw : wrap64 ((i : Int) + 1) = ((i + 1 : Nat) : Int) := (w64 (by omega) (by omega)).trans (by omega)
    rw [hw, rdOf_get _ _ hlt, List.drop_eq_getElem_cons hlt]
    refine Ev.ifp (by omega) (Ev.ifp (by omega) ?_)
    refine Ev.bind (ref_may_is a0 a1 a2 a3 _) ?_
    by_cases h : mayR a0 a1 L[i] = true
    · refine Ev.ifp h (Ev.ifp (by omega) ?_)
      refine (ih (i + 1) (acc ++ [L[i]]) (by omega) (by simp; omega)).eq ?_
      rw [List.filter_cons_of_pos h]
      simp
    · refine Ev.ifn h ?_
      refine (ih (i + 1) acc (by omega) (by omega)).eq ?_
      rw [List.filter_cons_of_neg h]
theorem ref_ops_is : clavigerref41_Ops.f = some ops41 := rfl
theorem ref_of_is (a0 a1 a2 a3 : ByteArray) : Ev (fun k => clavigerref41_Of.f k a0 a1 a2 a3) (ops41.filter (in41 a0 a1)) := by
  refine Ev.congr (fun k => by rw [clavigerref41_Of.f]) ?_
  refine Ev.bindc ref_ops_is ?_
  refine (ref_of_loop a0 a1 a2 a3 ops41 (by decide) _ 0 [] (Nat.zero_add _) (by simp)).eq ?_
  rw [List.drop_zero, List.nil_append]
  exact List.filter_congr (fun op h => (in_both a0 a1 op h).symm)
theorem ref_in_is (a : ByteArray) (L : List ByteArray) (hL : L.length ≤ 1000) : Ev (fun k => clavigerref41_in.f k a L) (Go.Proofs.YtjoageaencpfaaaDoor.PUsageTells.opsIn L a) := by
  have loop : ∀ d i : Nat, i + d = L.length → Ev (fun k => clavigerref41_in.l0 k a L (i : Int)) (Go.Proofs.YtjoageaencpfaaaDoor.PUsageTells.opsIn (L.drop i) a) := by
    intro d
    induction d with
    | zero =>
      intro i hd
      refine Ev.step (fun k => by rw [clavigerref41_in.l0]) ?_
      refine Ev.ifn (by omega) ((Ev.now _).eq ?_)
      rw [List.drop_eq_nil_of_le (by omega)]
      rfl
    | succ d ih =>
      intro i hd
      have hlt : i < L.length := by omega
      refine Ev.step (fun k => by rw [clavigerref41_in.l0]) ?_
      have hw : wrap64 ((i : Int) + 1) = ((i + 1 : Nat) : Int) := (w64 (by omega) (by omega)).trans (by omega)
      rw [hw, rdOf_get _ _ hlt, List.drop_eq_getElem_cons hlt]
      refine Ev.ifp (by omega) (Ev.ifp (by omega) ?_)
      by_cases h : L[i].toList = a.toList
      · refine Ev.ifp h ((Ev.now _).eq ?_)
        simp only [Go.Proofs.YtjoageaencpfaaaDoor.PUsageTells.opsIn, List.any_cons, h, beq_self_eq_true, Bool.true_or]
      · refine Ev.ifn h ?_
        refine (ih (i + 1) (by omega)).eq ?_
        simp only [Go.Proofs.YtjoageaencpfaaaDoor.PUsageTells.opsIn, List.any_cons, beq_eq_false_iff_ne.mpr (Ne.symm h), Bool.false_or]
  exact loop L.length 0 (Nat.zero_add _)
theorem ref_may_says (x0 : Int) (x1 : ByteArray) (x2 : List S52) (a3 a4 a5 a6 op : ByteArray) : Ev (fun k => clavigerref41_May.f k x0 x1 x2 a3 a4 a5 a6 op) (may41 a3 a4 a5 a6 op) := by
  refine Ev.congr (fun k => by rw [clavigerref41_May.f]) ?_
  refine Ev.bindc ref_ops_is ?_
  refine Ev.bind (ref_in_is op ops41 (by decide)) ?_
  unfold may41
  by_cases h1 : Go.Proofs.YtjoageaencpfaaaDoor.PUsageTells.opsIn ops41 op = true
  · refine Ev.eq ?_ (if_pos h1).symm
    refine Ev.ifp h1 ?_
    refine bare_if a3 a4 a5 a6 (fun h2 => ?_) (fun h2 => ?_)
    · exact (Ev.now _).eq (if_pos h2).symm
    · refine Ev.eq ?_ (if_neg h2).symm
      refine Ev.bind (ref_of_is a3 a4 a5 a6) ?_
      refine Ev.bind (ref_in_is op _ (Nat.le_trans (of_len a3 a4) (by decide))) ?_
      exact Ev.ite (fun _ => Ev.now _) (fun _ => Ev.now _)
  · refine Ev.eq ?_ (if_neg h1).symm
    exact Ev.ifn h1 (Ev.now _)
theorem few_is (l : List S52) (hl : l.length ≤ 9223372036854775807) : ∃ t, Ev (fun k => clavigerplain_Few.f k l 40) t ∧ (t = true → l.length ≤ 40) := by
  have loop : ∀ d i : Nat, i + d = l.length → ∃ t, Ev (fun k => clavigerplain_Few.l0 k l (i : Int)) t := by
    intro d
    induction d with
    | zero =>
      intro i hd
      exact ⟨true, Ev.step (fun k => by rw [clavigerplain_Few.l0]) (Ev.ifn (by omega) (Ev.now _))⟩
    | succ d ih =>
      intro i hd
      have hw : wrap64 ((i : Int) + 1) = ((i + 1 : Nat) : Int) := (w64 (by omega) (by omega)).trans (by omega)
      by_cases h : ((rd_T52 l (i : Int)).f1.size : Int) > 300
      · exact ⟨false, Ev.step (fun k => by rw [clavigerplain_Few.l0]) (Ev.ifp (by omega) (Ev.ifp (by omega) (Ev.ifp h (Ev.now _))))⟩
      · obtain ⟨t, ht⟩ := ih (i + 1) (by omega)
        rw [← hw] at ht
        exact ⟨t, Ev.step (fun k => by rw [clavigerplain_Few.l0]) (Ev.ifp (by omega) (Ev.ifp (by omega) (Ev.ifn h ht)))⟩
  by_cases h : (l.length : Int) > 40
  · exact ⟨false, Ev.congr (fun k => by rw [clavigerplain_Few.f]) (Ev.ifp h (Ev.now _)), fun e => by cases e⟩
  · obtain ⟨t, ht0⟩ := loop l.length 0 (by omega)
    have ht : Ev (fun k => clavigerplain_Few.l0 k l 0) t := ht0
    exact ⟨t, Ev.congr (fun k => by rw [clavigerplain_Few.f]) (Ev.ifn h ht), fun _ => by omega⟩
theorem head_some (a b c d : ByteArray) : ∃ t, clavigerplain_Head.f a b c d = some t := by
  unfold clavigerplain_Head.f
  split
  · split
    · split
      · exact ⟨_, rfl⟩
      · exact ⟨_, rfl⟩
    · exact ⟨_, rfl⟩
  · exact ⟨_, rfl⟩
theorem record_is (x0 : Int) (x1 : ByteArray) (l : List S52) (a3 a4 a5 a6 : ByteArray) (hl : l.length ≤ 9223372036854775807) : ∃ t, Ev (fun k => clavigerplain_Record.f k x0 x1 l a3 a4 a5 a6) t ∧ (t = true → l.length ≤ 40) := by
  by_cases h : (x1.size : Int) ≤ 100
  · obtain ⟨t, ht, hk⟩ := few_is l hl
    obtain ⟨u, hu⟩ := head_some a3 a4 a5 a6
    cases t with
    | true =>
      refine ⟨u, ?_, fun _ => hk rfl⟩
      refine Ev.congr (fun k => by rw [clavigerplain_Record.f]) ?_
      refine Ev.ifp h (Ev.bind ht ?_)
      refine Ev.ifp rfl ?_
      exact Ev.bindc hu (Ev.now _)
    | false =>
      refine ⟨false, ?_, fun e => by cases e⟩
      refine Ev.congr (fun k => by rw [clavigerplain_Record.f]) ?_
      refine Ev.ifp h (Ev.bind ht ?_)
      exact Ev.ifn (show ¬ (false = true) by decide) (Ev.now _)
  · exact ⟨false, Ev.congr (fun k => by rw [clavigerplain_Record.f]) (Ev.ifn h (Ev.now _)), fun e => by cases e⟩
theorem UsageTells : clavigerlaw41_UsageTells.Pure := by
  intro x0 x1 l a3 a4 a5 a6 op tr hok hop
  have hl : l.length ≤ 9223372036854775807 := hok.2.2.1.1
  obtain ⟨t, ht, hk⟩ := record_is x0 x1 l a3 a4 a5 a6 hl
  refine Ev.rounds ?_
  refine Ev.congr (fun k => by rw [clavigerlaw41_UsageTells.f]) ?_
  refine Ev.bind ht ?_
  have hj : ∀ b : Bool, (b = false → l.length ≤ 40) → Ev (fun k => clavigerlaw41_UsageTells.j0 k op tr b x0 x1 l a3 a4 a5 a6) true := by
    intro b hb
    refine Ev.step (fun k => by rw [clavigerlaw41_UsageTells.j0]) ?_
    cases b with
    | true => exact Ev.ifp rfl (Ev.bind awake41 (Ev.now _))
    | false =>
      have h40 : l.length ≤ 9223372036854775806 := Nat.le_trans (hb rfl) (by decide)
      refine Ev.ifn (by decide) ?_
      refine Ev.bindc (of_is a3 a4 a5 a6) (Ev.bind (ref_of_is a3 a4 a5 a6) (Ev.bind (slices_Equal_refl _ (Nat.le_trans (of_len a3 a4) (by decide))) (Ev.ifp rfl ?_)))
      refine Ev.bindc ops_is (Ev.bindc ref_ops_is (Ev.bind (slices_Equal_refl _ (by decide)) (Ev.ifp rfl ?_)))
      refine Ev.bind (may_is x0 x1 l a3 a4 a5 a6 op) (Ev.bind (ref_may_says x0 x1 l a3 a4 a5 a6 op) (Ev.ifp rfl ?_))
      refine Ev.bindc (export_is x0 x1 l a3 a4 a5 a6 h40) (Ev.bind (ref_export_is x0 x1 l a3 a4 a5 a6 h40) (Ev.ifp rfl ?_))
      refine Ev.bindc (leaves_is x0 x1 l a3 a4 a5 a6 tr h40) (Ev.bind (ref_leaves_is x0 x1 l a3 a4 a5 a6 tr h40) (Ev.ifp rfl ?_))
      exact Ev.bind awake41 (Ev.now _)
  cases t with
  | true =>
    refine Ev.ifp rfl (hj _ (fun _ => hk rfl))
  | false => exact Ev.ifn (by decide) (hj true (fun e => by cases e))
end Go.Proofs.YtjoageaencpfaaaDoor.Pure
