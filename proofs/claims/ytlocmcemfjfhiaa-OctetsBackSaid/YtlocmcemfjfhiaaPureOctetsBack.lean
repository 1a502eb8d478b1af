/- Whatever the number, the bytes (two strings of up to 500 each) and the size: Get of Put is the number, the pieces joined are the bytes, and the exclusive or taken twice is the bytes again (P1.4). -/
import Derived.Test.YtlocmcemfjfhiaaPOctetsBackx
namespace Go.Proofs.Ytlocmcemfjfhiaa.Pure
open Go.RowKit Go.Proofs.Ytlocmcemfjfhiaa.POctetsBack Go.Proofs.YtlocmcemfjfhiaaW.PrintWords Go.Proofs.YtlocmcemfjfhiaaW.PrintLast
set_option linter.unusedVariables false
set_option linter.unusedSimpArgs false
/-- The number of bytes. -/
def getN (l : List Int) : Int := l.foldl (fun n b => n * 256 + b) 0
theorem getN_snoc (l : List Int) (x : Int) : getN (l ++ [x]) = getN l * 256 + x := by simp [getN]
theorem getN_take {l : List Int} (i : Nat) (h : i < l.length) : getN (l.take (i + 1)) = getN (l.take i) * 256 + l[i] := by
  rw [List.take_succ_eq_append_getElem h, getN_snoc]
theorem getN_bd (n : Nat) : ∀ l : List Int, OkB l → l.length ≤ n → 0 ≤ getN l ∧ getN l < 256 ^ n := by
  induction n with
  | zero => intro l h hn; obtain rfl := List.eq_nil_of_length_eq_zero (Nat.le_zero.1 hn); simp [getN]
  | succ n ih =>
    intro l h hn
    have hp : (0 : Int) < 256 ^ n := Int.pow_pos (by decide)
    by_cases e : l = []
    · subst e
      rw [Int.pow_succ]
      simp only [getN, List.foldl_nil]
      omega
    · obtain ⟨m, x, rfl⟩ : ∃ m x, l = m ++ [x] := ⟨l.dropLast, l.getLast e, (List.dropLast_concat_getLast e).symm⟩
      have h1 := ih m (fun y hy => h y (List.mem_append_left _ hy)) (by simp at hn; omega)
      have h2 := h x (by simp)
      rw [getN_snoc, Int.pow_succ]
      omega
theorem getN_lt7 (l : List Int) (h : OkB l) (hn : l.length ≤ 7) : 0 ≤ getN l ∧ getN l < 72057594037927936 := getN_bd 7 l h hn
theorem octets_Get_loop (l : List Int) (hl : OkB l) (h8 : l.length ≤ 8) (d : Nat) : ∀ i : Nat, i ≤ l.length → l.length - i = d →
    Ev (fun k => octets_Get.l0 k (strOfNums l) (getN (l.take i)) (l.length : Int) (i : Int)) (getN l, true) := by
  induction d with
  | zero =>
    intro i hi hd
    obtain rfl : i = l.length := by omega
    refine Ev.step (f := fun _ => some (getN l, true)) (fun k => ?_) (Ev.now _)
    simp only [octets_Get.l0]
    rw [if_neg (by omega), List.take_length]
  | succ d ih =>
    intro i hi hd
    have hlt : i < l.length := by omega
    refine Ev.step (fun k => ?_) (ih (i + 1) (by omega) (by omega))
    have hb := hl.get i hlt
    have hg := getN_lt7 (l.take i) (hl.take i) (by rw [List.length_take]; omega)
    simp only [octets_Get.l0]
    rw [if_pos (by omega), if_pos (by omega), if_pos (by rw [nums_size]; omega), nums_bt hl i hlt, wu64 (by omega) (by omega), wu64 (by omega) (by omega), w64 (by omega) (by omega), or_u64 8 (by omega) (by omega) (by omega) (by omega) (by omega) (by decide), getN_take i hlt]
    simp only [Int.natCast_add, Int.natCast_one]
theorem octets_Get_yes (l : List Int) (hl : OkB l) (h1 : 1 ≤ l.length) (h8 : l.length ≤ 8) : Ev (fun k => octets_Get.f k (strOfNums l)) (getN l, true) := by
  have h := octets_Get_loop l hl h8 _ 0 (by omega) rfl
  refine Ev.congr (f := fun k => octets_Get.j0 k (strOfNums l) false) (fun k => ?_) ?_
  · simp only [octets_Get.f]
    rw [nums_sizeI, if_neg (by omega), decide_eq_false (by omega)]
  · refine Ev.step (fun k => ?_) h
    simp only [octets_Get.j0]
    rw [if_neg (by decide), nums_sizeI]
    rfl
theorem octets_Get_no (l : List Int) (h : l.length = 0 ∨ 8 < l.length) : Ev (fun k => octets_Get.f k (strOfNums l)) (0, false) := by
  refine Ev.congr (f := fun k => octets_Get.j0 k (strOfNums l) true) (fun k => ?_) ?_
  · simp only [octets_Get.f]
    rw [nums_sizeI]
    rcases h with h | h
    · rw [if_pos (by omega)]
    · rw [if_neg (by omega), decide_eq_true (by omega)]
  · refine Ev.step (f := fun _ => some (0, false)) (fun k => ?_) (Ev.now _)
    simp only [octets_Get.j0]
    simp only [if_true]
theorem putNums_ok (n : Int) : OkB (putNums n) := by
  intro x hx
  simp only [putNums, List.mem_cons, List.not_mem_nil, or_false] at hx
  omega
/-- The low bytes of a number. -/
def lowB (n : Int) : Nat → List Int
  | 0 => []
  | w + 1 => (n / 256 ^ w % 256) :: lowB n w
theorem lowB_ok (n : Int) (w : Nat) : OkB (lowB n w) := by
  induction w with
  | zero => exact OkB.nil
  | succ w ih => exact OkB.cons (by omega) (by omega) ih
theorem lowB_length (n : Int) (w : Nat) : (lowB n w).length = w := by
  induction w with
  | zero => rfl
  | succ w ih => simp [lowB, ih]
theorem putNums_drop (n : Int) (w : Nat) (h : w ≤ 8) : (putNums n).drop (8 - w) = lowB n w := by
  have : w = 0 ∨ w = 1 ∨ w = 2 ∨ w = 3 ∨ w = 4 ∨ w = 5 ∨ w = 6 ∨ w = 7 ∨ w = 8 := by omega
  rcases this with rfl | rfl | rfl | rfl | rfl | rfl | rfl | rfl | rfl <;> simp [putNums, lowB]
theorem octets_Put_eq (n : Int) (w : Int) : octets_Put.f n w = some (strOfNums (if 1 ≤ w ∧ w ≤ 8 then lowB n w.toNat else [])) := by
  unfold octets_Put.f
  by_cases h1 : w < 1
  · rw [if_pos h1, if_neg (by omega)]; rfl
  · by_cases h2 : w > 8
    · rw [if_neg h1, if_pos h2, if_neg (by omega)]; rfl
    · rw [if_neg h1, if_neg h2, if_pos (by omega), putNums_drop n w.toNat (by omega)]
/-- The exclusive or of two bytes. -/
def xor8 (x y : Int) : Int := Go.bits .xor .u8 x y
theorem xor8_nat (a b : Nat) (ha : a < 256) (hb : b < 256) : xor8 (a : Int) (b : Int) = ((a ^^^ b : Nat) : Int) ∧ a ^^^ b < 256 := by
  have h := Nat.xor_lt_two_pow (n := 8) ha hb
  have ha' : a % 2 ^ IntKind.u8.bits = a := Nat.mod_eq_of_lt ha
  have hb' : b % 2 ^ IntKind.u8.bits = b := Nat.mod_eq_of_lt hb
  refine ⟨?_, h⟩
  unfold xor8
  simp only [bits, BitVec.ofInt_natCast, BitVec.toNat_xor, BitVec.toNat_ofNat, ha', hb']
  rw [wu8_mod]
  omega
theorem xor8_ok {x y : Int} (h0 : 0 ≤ x) (h1 : x < 256) (k0 : 0 ≤ y) (k1 : y < 256) : 0 ≤ xor8 x y ∧ xor8 x y < 256 := by
  obtain ⟨a, rfl⟩ := Int.eq_ofNat_of_zero_le h0
  obtain ⟨b, rfl⟩ := Int.eq_ofNat_of_zero_le k0
  have := xor8_nat a b (by omega) (by omega)
  rw [this.1]
  have := this.2
  omega
theorem xor8_twice {x y : Int} (h0 : 0 ≤ x) (h1 : x < 256) (k0 : 0 ≤ y) (k1 : y < 256) : xor8 (xor8 x y) y = x := by
  obtain ⟨a, rfl⟩ := Int.eq_ofNat_of_zero_le h0
  obtain ⟨b, rfl⟩ := Int.eq_ofNat_of_zero_le k0
  have h := xor8_nat a b (by omega) (by omega)
  rw [h.1, (xor8_nat (a ^^^ b) b h.2 (by omega)).1, Nat.xor_assoc, Nat.xor_self, Nat.xor_zero]
/-- The exclusive or of two lists. -/
def xorL (a b : List Int) : List Int := List.zipWith xor8 a b
theorem xorL_length (a b : List Int) : (xorL a b).length = min a.length b.length := by simp [xorL]
theorem xorL_ok {a b : List Int} (ha : OkB a) (hb : OkB b) : OkB (xorL a b) := by
  intro x hx
  obtain ⟨i, hi, rfl⟩ := List.getElem_of_mem hx
  rw [xorL_length] at hi
  simp only [xorL, List.getElem_zipWith]
  have h1 := ha.get i (by omega)
  have h2 := hb.get i (by omega)
  exact xor8_ok h1.1 h1.2 h2.1 h2.2
theorem set_mid {α : Type} (A B : List α) (x y : α) (n : Nat) (h : A.length = n) : (A ++ x :: B).set n y = A ++ y :: B := by
  subst h
  simp
theorem octets_Xor_loop (l m : List Int) (hl : OkB l) (hm : OkB m) (n : Nat) (hn : n = min l.length m.length) (hb : n ≤ 9223372036854775806) (d : Nat) : ∀ i : Nat, i ≤ n → n - i = d →
    Ev (fun k => octets_Xor.l0 k (strOfNums m) ((xorL l m).take i ++ (l.take n).drop i) (n : Int) (i : Int)) (strOfNums (xorL l m)) := by
  have hx : (xorL l m).length = n := by rw [xorL_length]; omega
  induction d with
  | zero =>
    intro i hi hd
    obtain rfl : i = n := by omega
    refine Ev.step (f := fun _ => some _) (fun k => ?_) (Ev.now _)
    simp only [octets_Xor.l0]
    rw [if_neg (by omega), List.take_of_length_le (by omega), List.drop_eq_nil_of_le (by rw [List.length_take]; omega), List.append_nil]
  | succ d ih =>
    intro i hi hd
    have hil : i < (l.take n).length := by rw [List.length_take]; omega
    have hta : ((xorL l m).take i).length = i := by rw [List.length_take]; omega
    refine Ev.step (fun k => ?_) (ih (i + 1) (by omega) (by omega))
    simp only [octets_Xor.l0]
    rw [if_pos (by omega), if_pos (by omega), if_pos (by rw [List.length_append, List.length_drop]; omega), if_pos (by rw [nums_size]; omega), w64 (by omega) (by omega)]
    rw [List.drop_eq_getElem_cons hil, rd_get i (by rw [List.length_append, List.length_cons]; omega), nums_bt hm i (by omega)]
    rw [List.getElem_append_right (by omega)]
    simp only [hta, Nat.sub_self, List.getElem_cons_zero, Int.toNat_natCast]
    rw [set_mid _ _ _ _ i hta, List.take_succ_eq_append_getElem (by omega : i < (xorL l m).length)]
    simp only [List.append_assoc, List.singleton_append, List.getElem_take, xorL, List.getElem_zipWith, xor8, Int.natCast_add, Int.natCast_one]
theorem copyOver_long {l m : List Int} (h : l.length ≤ m.length) : copyOver l m = m.take l.length := by
  unfold copyOver
  rw [List.drop_eq_nil_of_le h, List.append_nil]
theorem octets_Xor_eq (l m : List Int) (hl : OkB l) (hm : OkB m) (hb : min l.length m.length ≤ 140737488355328) : Ev (fun k => octets_Xor.f k (strOfNums l) (strOfNums m)) (strOfNums (xorL l m)) := by
  have e : mn ((strOfNums l).size : Int) ((strOfNums m).size : Int) = ((min l.length m.length : Nat) : Int) := by rw [nums_sizeI, nums_sizeI]; unfold mn; split <;> omega
  unfold octets_Xor.f
  rw [e, Int.toNat_natCast]
  refine Ev.ifp (by omega) (Ev.ifp (by omega) (Ev.bindc rfl ?_))
  have h := octets_Xor_loop l m hl hm _ rfl (by omega) _ 0 (by omega) rfl
  rw [bytesOf_nums hl, copyOver_long (by rw [List.length_replicate]; omega), List.length_replicate]
  simp only [List.take_zero, List.nil_append, List.drop_zero, Int.natCast_zero] at h
  rw [show ((List.take (min l.length m.length) l).length : Int) = ((min l.length m.length : Nat) : Int) by rw [List.length_take]; omega]
  exact h
theorem join_nil (xs : List (List UInt8)) : Lib.join xs [] = xs.flatten := by
  unfold Lib.join List.intercalate
  induction xs with
  | nil => rfl
  | cons x xs ih =>
    cases xs with
    | nil => rfl
    | cons y ys => simp only [List.intersperse_cons_cons, List.flatten_cons, List.nil_append]; rw [ih]; simp
theorem octets_Join_eq (L : List (List Int)) (hn : L.length ≤ 140737488355328) (hs : L.flatten.length ≤ 140737488355328) : octets_Join.f (L.map strOfNums) = some (strOfNums L.flatten) := by
  have e : Lib.join ((L.map strOfNums).map (·.data.toList)) (⟨#[]⟩ : ByteArray).data.toList = (strOfNums L.flatten).data.toList := by
    rw [show (⟨#[]⟩ : ByteArray).data.toList = [] from rfl, join_nil, strOfNums_data]
    simp only [List.map_map]
    rw [List.map_flatten, List.map_congr_left (fun x _ => rfl)]
    rfl
  unfold octets_Join.f strings_Join.f
  rw [if_pos (by rw [List.length_map]; exact hn), e, if_pos (by rw [strOfNums_data, List.length_map]; exact hs)]
  simp only [Option.bind_some]
/-- A list in pieces of n. -/
def chunksF (n : Nat) : Nat → List Int → List (List Int)
  | 0, l => [l]
  | f + 1, l => if n < l.length then l.take n :: chunksF n f (l.drop n) else [l]
theorem chunksF_flatten (n f : Nat) (l : List Int) : (chunksF n f l).flatten = l := by
  induction f generalizing l with
  | zero => simp [chunksF]
  | succ f ih =>
    unfold chunksF
    split
    · rw [List.flatten_cons, ih, List.take_append_drop]
    · simp
theorem chunksF_length (n : Nat) (hn : 1 ≤ n) (f : Nat) (l : List Int) : (chunksF n f l).length ≤ l.length + 1 := by
  induction f generalizing l with
  | zero => simp [chunksF]
  | succ f ih =>
    unfold chunksF
    split
    · have := ih (l.drop n)
      rw [List.length_drop] at this
      simp only [List.length_cons]
      omega
    · simp
theorem chunksF_ok (n f : Nat) {l : List Int} (h : OkB l) : ∀ c ∈ chunksF n f l, OkB c := by
  induction f generalizing l with
  | zero => intro c hc; simp [chunksF] at hc; subst hc; exact h
  | succ f ih =>
    intro c hc
    unfold chunksF at hc
    split at hc
    · rcases List.mem_cons.1 hc with rfl | hc
      · exact h.take n
      · exact ih (h.drop n) c hc
    · simp at hc; subst hc; exact h
theorem octets_Pieces_loop (n : Nat) (hn : 1 ≤ n) (f : Nat) : ∀ (l : List Int) (L : List (List Int)), l.length ≤ f → L.length + l.length < 8796093022208 →
    Ev (fun k => octets_Pieces.l0 k (strOfNums l) (n : Int) (L.map strOfNums)) ((L ++ chunksF n f l).map strOfNums) := by
  induction f with
  | zero =>
    intro l L hf hb
    refine Ev.step (f := fun _ => some _) (fun k => ?_) (Ev.now _)
    simp only [octets_Pieces.l0]
    rw [nums_sizeI, if_neg (by omega), List.length_map, if_pos (by omega)]
    simp [chunksF]
  | succ f ih =>
    intro l L hf hb
    by_cases h : n < l.length
    · refine Ev.step (fun k => ?_) ((ih (l.drop n) (L ++ [l.take n]) (by rw [List.length_drop]; omega) (by rw [List.length_append, List.length_drop]; simp; omega)).eq ?_)
      · simp only [octets_Pieces.l0]
        rw [nums_sizeI, if_pos (by omega), if_pos (by omega), if_pos (by omega), List.length_map, if_pos (by omega), Int.toNat_natCast, str_extract, str_extract, nums_size]
        rw [List.drop_zero, Nat.sub_zero, List.take_of_length_le (l := l.drop n) (by rw [List.length_drop]; omega)]
        simp
      · rw [chunksF, if_pos h]; simp
    · refine Ev.step (f := fun _ => some _) (fun k => ?_) (Ev.now _)
      simp only [octets_Pieces.l0]
      rw [nums_sizeI, if_neg (by omega), List.length_map, if_pos (by omega), chunksF, if_neg h]
      simp
theorem octets_Pieces_yes (l : List Int) (n : Int) (h1 : 1 ≤ n) (hn : n ≤ 9223372036854775807) (h0 : l ≠ []) (hb : l.length < 8796093022208) : Ev (fun k => octets_Pieces.f k (strOfNums l) n) ((chunksF n.toNat l.length l).map strOfNums) := by
  obtain ⟨m, rfl⟩ := Int.eq_ofNat_of_zero_le (show 0 ≤ n by omega)
  have hloop := octets_Pieces_loop m (by omega) l.length l [] (Nat.le_refl _) (by simpa using hb)
  have hq : ((l.length : Int) / (m : Int)) ≤ (l.length : Int) := Int.ediv_le_self _ (by omega)
  have hq0 : 0 ≤ ((l.length : Int) / (m : Int)) := Int.ediv_nonneg (by omega) (by omega)
  refine Ev.congr (f := fun k => octets_Pieces.j0 k (strOfNums l) (m : Int) false) (fun k => ?_) (Ev.step (fun k => ?_) hloop)
  · simp only [octets_Pieces.f]
    rw [if_neg (by omega)]
    congr 1
    rw [beq_eq_false_iff_ne]
    exact fun h => h0 ((nums_toList_nil l).1 h)
  · simp only [octets_Pieces.j0]
    rw [if_neg (by decide), if_neg (by omega), nums_sizeI, w64 (x := (l.length : Int) / (m : Int)) (by omega) (by omega), w64 (by omega) (by omega), if_pos (by omega), if_pos (by omega)]
    simp
theorem octets_Pieces_no (l : List Int) (n : Int) (h : n < 1 ∨ l = []) : Ev (fun k => octets_Pieces.f k (strOfNums l) n) [] := by
  refine Ev.congr (f := fun k => octets_Pieces.j0 k (strOfNums l) n true) (fun k => ?_) (Ev.step (f := fun _ => some []) (fun k => ?_) (Ev.now _))
  · simp only [octets_Pieces.f]
    by_cases h1 : n < 1
    · rw [if_pos h1]
    · rw [if_neg h1]
      congr 1
      rw [beq_iff_eq]
      exact (nums_toList_nil l).2 (h.resolve_left h1)
  · simp only [octets_Pieces.j0]
    simp only [if_true]
theorem awake01 : Ev (fun k => clavigerlaw01_awake.f k) true := Ev.of (clavigerlaw01_awake.mono) (k := 40) (by kernel_rfl)
theorem xorL_twice (a b : List Int) (ha : OkB a) (hb : OkB b) : xorL (xorL a b) b = a.take (min a.length b.length) := by
  apply List.ext_getElem
  · rw [xorL_length, xorL_length, List.length_take]; omega
  · intro i h1 h2
    rw [xorL_length, xorL_length] at h1
    have p := ha.get i (by omega)
    have q := hb.get i (by omega)
    simp only [xorL, List.getElem_zipWith, List.getElem_take]
    exact xor8_twice p.1 p.2 q.1 q.2
theorem getN_lowB8 (n : Int) (h0 : 0 ≤ n) (h1 : n < 18446744073709551616) : getN (lowB n 8) = n := by
  simp only [lowB, getN, List.foldl_cons, List.foldl_nil, Int.reducePow]
  omega
theorem OctetsBack : clavigerlaw01_OctetsBack.Pure := by
  intro a0 a1 a2 a3 h0 h1 h2 h3
  obtain ⟨l, hl, rfl⟩ := str_nums a1
  obtain ⟨m, hm, rfl⟩ := str_nums a2
  have hn := lit_u64 h0
  have h3' := lit_i64 h3
  refine Ev.rounds ?_
  by_cases hbig : 500 < l.length ∨ 500 < m.length
  · refine Ev.congr (f := fun k => clavigerlaw01_OctetsBack.j0 k a0 (strOfNums l) (strOfNums m) a3 true) (fun k => ?_) (Ev.step (f := fun k => (clavigerlaw01_awake.f k).bind fun t => some t) (fun k => ?_) (Ev.bind awake01 (Ev.now _)))
    · simp only [clavigerlaw01_OctetsBack.f]
      rw [nums_sizeI, nums_sizeI]
      by_cases h : 500 < l.length
      · rw [if_pos (by omega)]
      · rw [if_neg (by omega), decide_eq_true (by omega)]
    · simp only [clavigerlaw01_OctetsBack.j0, if_true]
  have j2 : Ev (fun k => clavigerlaw01_OctetsBack.j2 k (strOfNums l) (strOfNums m) false) true := by
    have e : mn ((strOfNums l).size : Int) ((strOfNums m).size : Int) = ((min l.length m.length : Nat) : Int) := by rw [nums_sizeI, nums_sizeI]; unfold mn; split <;> omega
    refine Ev.step (fun k => by rw [clavigerlaw01_OctetsBack.j2]) ?_
    rw [e, nums_sizeI, Int.toNat_natCast, str_extract]
    refine Ev.ifn (by decide) (Ev.bind (octets_Xor_eq l m hl hm (by omega)) (Ev.bind (octets_Xor_eq (xorL l m) m (xorL_ok hl hm) hm (by rw [xorL_length]; omega)) ?_))
    refine Ev.ifp (by omega) (Ev.ifp (by omega) (Ev.ifp ?_ (Ev.bind awake01 (Ev.now _))))
    rw [nums_toList (xorL_ok (xorL_ok hl hm) hm) ((hl.drop 0).take _), xorL_twice l m hl hm, List.drop_zero, Nat.sub_zero]
  have j1 : Ev (fun k => clavigerlaw01_OctetsBack.j1 k (strOfNums l) (strOfNums m) a3 false) true := by
    refine Ev.step (fun k => by rw [clavigerlaw01_OctetsBack.j1]) (Ev.ifn (by decide) ?_)
    refine (Ev.ite (r := true) (s := true) (fun hp => ?_) (fun _ => j2)).eq (by simp)
    have fin : ∀ L : List (List Int), L.flatten = l → L.length ≤ 140737488355328 →
        Ev (fun k => (octets_Join.f (L.map strOfNums)).bind fun t140 => clavigerlaw01_OctetsBack.j2 k (strOfNums l) (strOfNums m) (t140.toList != (strOfNums l).toList)) true := by
      intro L hL hlen
      refine Ev.bindc (octets_Join_eq L hlen (by rw [hL]; omega)) ?_
      rw [hL, bne_self_eq_false]
      exact j2
    by_cases he : l = []
    · subst he
      exact Ev.bind (octets_Pieces_no [] a3 (.inr rfl)) (fin [] rfl (by simp))
    · have hc := chunksF_length a3.toNat (by omega) l.length l
      exact Ev.bind (octets_Pieces_yes l a3 (by omega) (by omega) he (by omega)) (fin _ (chunksF_flatten _ _ _) (by omega))
  refine Ev.congr (f := fun k => clavigerlaw01_OctetsBack.j0 k a0 (strOfNums l) (strOfNums m) a3 false) (fun k => ?_) ?_
  · simp only [clavigerlaw01_OctetsBack.f]
    rw [nums_sizeI, nums_sizeI, if_neg (by omega), decide_eq_false (by omega)]
  refine Ev.step (fun k => by rw [clavigerlaw01_OctetsBack.j0]) (Ev.ifn (by decide) ?_)
  refine Ev.bindc (octets_Put_eq a0 8) (Ev.bind (octets_Get_yes (lowB a0 8) (lowB_ok a0 8) (by rw [lowB_length]; decide) (by rw [lowB_length]; decide)) ?_)
  rw [getN_lowB8 a0 hn.1 hn.2]
  exact Ev.ifp rfl j1
end Go.Proofs.Ytlocmcemfjfhiaa.Pure
