-- laid by a program out of the translation and of templates; not trusted: Lean checks it
import Derived.Test.YtjelhckfncffpaaPSetofOrderx0
import Derived.Test.YtjelhckfncffpaaPSetofOrderx1
import Derived.Lib.OwnBridge
import Derived.Sort.KeysCollected
import Derived.Sort.LotA
import Derived.Sort.OwnSorted
import Derived.Test.YtjelhckfncffpaaShelf
namespace Go.Proofs.Ytjelhckfncffpaa.PSetofOrder
open Go.RowKit Go.Proofs.YtjelhckfncffpaaW.PrintWords Go.Proofs.YtjelhckfncffpaaW.PrintLast Go.Proofs.YtjelhckfncffpaaW.PrintMore
attribute [local go_sem high] c_add c_eql c_neq
attribute [local go_sem] str_leq str_gtr str_geq max2_int min2_int max_two min_two max_three min_three max_four min_four   -- for this text's walks alone
set_option linter.unusedVariables false
set_option linter.unusedSimpArgs false

/-! ### setof_Sort: function 12 (a text given by hand: setof.tmpl) -/
-- @import Derived.Test.YtjelhckfncffpaaShelf
-- @import Derived.Sort.OwnSorted
-- @import Derived.Sort.KeysCollected
-- @import Derived.Lib.OwnBridge
-- @import Derived.Sort.LotA
/-! the order -/
theorem cmpB_zeros : ∀ (b : List UInt8), Lib.compareBytes (List.replicate b.length 0) b = 0 ∨ Lib.compareBytes (List.replicate b.length 0) b = -1
  | [] => Or.inl rfl
  | y :: b => by
    rw [List.length_cons, List.replicate_succ, Lib.compareBytes]
    by_cases h : (0 : UInt8) < y
    · rw [if_pos h]; exact Or.inr rfl
    · rw [if_neg h, if_neg (by simp)]
      exact cmpB_zeros b
theorem cmpB_zeros2 : ∀ (a : List UInt8), Lib.compareBytes a (List.replicate a.length 0) = 0 ∨ Lib.compareBytes a (List.replicate a.length 0) = 1
  | [] => Or.inl rfl
  | x :: a => by
    rw [List.length_cons, List.replicate_succ, Lib.compareBytes, if_neg (by simp)]
    by_cases h : (0 : UInt8) < x
    · rw [if_pos h]; exact Or.inr rfl
    · rw [if_neg h]
      exact cmpB_zeros2 a
def lenCmp (a b : List UInt8) : Int := if a.length < b.length then -1 else if b.length < a.length then 1 else 0
def orElse0 (x y : Int) : Int := if x = 0 then y else x
theorem cmpB_pad : ∀ (a b : List UInt8), orElse0 (Lib.compareBytes (a ++ List.replicate (max a.length b.length - a.length) 0) (b ++ List.replicate (max a.length b.length - b.length) 0)) (lenCmp a b) = Lib.compareBytes a b
  | [], [] => rfl
  | [], y :: b => by
    have e : max ([] : List UInt8).length (y :: b).length - ([] : List UInt8).length = (y :: b).length := by simp
    have e2 : max ([] : List UInt8).length (y :: b).length - (y :: b).length = 0 := by simp
    rw [e, e2, List.nil_append, List.replicate_zero, List.append_nil]
    have hl : lenCmp [] (y :: b) = -1 := by simp [lenCmp]
    rcases cmpB_zeros (y :: b) with h | h <;> rw [h, hl] <;> rfl
  | x :: a, [] => by
    have e : max (x :: a).length ([] : List UInt8).length - (x :: a).length = 0 := by simp
    have e2 : max (x :: a).length ([] : List UInt8).length - ([] : List UInt8).length = (x :: a).length := by simp
    rw [e, e2, List.nil_append, List.replicate_zero, List.append_nil]
    have hl : lenCmp (x :: a) [] = 1 := by simp [lenCmp]
    rcases cmpB_zeros2 (x :: a) with h | h <;> rw [h, hl] <;> rfl
  | x :: a, y :: b => by
    have e : max (x :: a).length (y :: b).length - (x :: a).length = max a.length b.length - a.length := by simp only [List.length_cons]; omega
    have e2 : max (x :: a).length (y :: b).length - (y :: b).length = max a.length b.length - b.length := by simp only [List.length_cons]; omega
    have hl : lenCmp (x :: a) (y :: b) = lenCmp a b := by simp [lenCmp]
    rw [e, e2, List.cons_append, List.cons_append, hl, Lib.compareBytes, Lib.compareBytes]
    by_cases h1 : x < y
    · rw [if_pos h1, if_pos h1]; rfl
    · rw [if_neg h1, if_neg h1]
      by_cases h2 : y < x
      · rw [if_pos h2, if_pos h2]; rfl
      · rw [if_neg h2, if_neg h2]
        exact cmpB_pad a b
theorem cmpB_lt : ∀ (a b : List UInt8), decide (Lib.compareBytes a b < 0) = decide (a < b)
  | [], [] => by decide
  | [], y :: b => by simp [Lib.compareBytes]
  | x :: a, [] => by simp [Lib.compareBytes]
  | x :: a, y :: b => by
    have ih := cmpB_lt a b
    rw [Lib.compareBytes]
    by_cases h1 : x < y
    · rw [if_pos h1]
      simp [List.cons_lt_cons_iff, h1]
    · rw [if_neg h1]
      by_cases h2 : y < x
      · rw [if_pos h2]
        have h3 : ¬ x = y := fun e => by subst e; exact absurd h2 (by simp)
        simp [List.cons_lt_cons_iff, h1, h3]
      · rw [if_neg h2]
        have h3 : x = y := by
          have h4 := UInt8.not_lt.1 h1
          have h5 := UInt8.not_lt.1 h2
          exact UInt8.le_antisymm h5 h4
        subst h3
        rw [ih]
        simp [List.cons_lt_cons_iff]
theorem or_two (x y : Int) : cmp_Or_int.f 3 [x, y] = some (orElse0 x y) := by
  have w1 : wrap64 (0 + 1) = 1 := w64 (by omega) (by omega)
  have w2 : wrap64 (1 + 1) = 2 := w64 (by omega) (by omega)
  unfold cmp_Or_int.f orElse0
  rw [show (([x, y] : List Int).length : Int) = 2 from rfl]
  unfold cmp_Or_int.l0
  rw [if_pos (by decide), if_pos (by decide), if_pos (show (0 : Int) < (([x, y] : List Int).length : Int) by simp), show rd [x, y] 0 = x from rfl, w1]
  by_cases h : x = 0
  · rw [if_pos h, if_pos h]
    unfold cmp_Or_int.l0
    rw [if_pos (by decide), if_pos (by decide), if_pos (show (1 : Int) < (([x, y] : List Int).length : Int) by simp), show rd [x, y] 1 = y from rfl, w2]
    by_cases h2 : y = 0
    · rw [if_pos h2]
      unfold cmp_Or_int.l0
      rw [if_neg (by decide), h2]
    · rw [if_neg h2]
  · rw [if_neg h, if_neg h]
theorem drewN_grow (w : World) (os : Array Obj) : ∀ n, (Sort.grow w os).drewN n = Sort.grow (w.drewN n) os
  | 0 => rfl
  | n + 1 => by
    have ih := drewN_grow w os n
    show ((Sort.grow w os).drewN n).drew = Sort.grow ((w.drewN n).drew) os
    rw [ih]
    rfl
def zerosS (n : Int) : ByteArray := if n < 1 then ⟨#[]⟩ else if n > 65552 then ⟨#[]⟩ else strOfNums (List.replicate n.toNat 0)
set_option maxHeartbeats 8000000 in
set_option maxRecDepth 100000 in
theorem zeros_exact (n : Int) (w : World) : Calls Try.prog 24 #[.int .i64 n] w fun e w' => e = .returned (.string (zerosS n)) ∧ ∃ os, w' = Sort.grow w os := by
  unfold zerosS
  by_cases c2 : n < 1
  · rw [if_pos c2]
    have c2b0 : decide (n < 1) = true := decide_eq_true c2
    clear c2
    go_enter Try.func24, Try.ntmps24
    go_wp2
    go_ret
    exact ⟨rfl, #[], (Sort.grow_empty w).symm⟩
  · rw [if_neg c2]
    have c2b0 : decide (n < 1) = false := decide_eq_false c2
    by_cases c3 : n > 65552
    · rw [if_pos c3]
      have c3b0 : decide (65552 < n) = true := decide_eq_true c3
      clear c2 c3
      go_enter Try.func24, Try.ntmps24
      go_wp2
      go_ret
      exact ⟨rfl, #[], (Sort.grow_empty w).symm⟩
    · rw [if_neg c3]
      have c3b0 : decide (65552 < n) = false := decide_eq_false c3
      obtain ⟨m, rfl⟩ := Int.eq_ofNat_of_zero_le (by omega : 0 ≤ n)
      have hm : m ≤ 65552 := by omega
      have hmk := print_make (P := Try.prog) 55 5 .u8 1 Try.underlying55 info5 (by decide) m (by omega) w
      have hcv := own_string (P := Try.prog) Try.underlying55 Try.underlying5 Try.underlying9 (own_made w 0 5 .u8 m (Nat.zero_le _) (by omega))
      obtain ⟨o, ho⟩ : ∃ o, o = Obj.cells (madeCells #[Value.int .u8 0] m) 5 := ⟨_, rfl⟩
      rw [← ho] at hmk hcv
      rw [Int.toNat_natCast]
      generalize List.replicate m (0 : Int) = z at hcv ⊢
      clear c2 c3 hm ho
      go_enter Try.func24, Try.ntmps24
      go_wp2
      go_ret
      exact ⟨rfl, #[o], Sort.alloc_eq_grow w o⟩
theorem zerosS_data (k : Nat) (h : k ≤ 65552) : (zerosS (k : Int)).data.toList = List.replicate k 0 := by
  unfold zerosS
  by_cases h1 : (k : Int) < 1
  · obtain rfl : k = 0 := by omega
    rw [if_pos h1]
    rfl
  · rw [if_neg h1, if_neg (by omega)]
    simp [strOfNums]
theorem two_reads (W : World) (x y : Int) (e g : Nat) (hg : g = W.heap.size) : Kd.C (Kd.int .i64) (W.alloc (.cells #[.int .i64 x, .int .i64 y] e)) (some ⟨g, 0, none⟩) ([x, y] : List Int).length [x, y] := by
  subst hg
  refine ⟨rfl, by simp, fun _ => ⟨_, rfl, fun j p hj => ⟨[.int .i64 p], rfl, rfl, fun i u hu => ?_⟩⟩⟩
  have hi : i = 0 := by
    rcases i with _ | i
    · rfl
    · simp at hu
  subst hi
  have hu2 : u = .int .i64 p := by simpa using hu.symm
  subst hu2
  match j, hj with
  | 0, hj =>
    have : p = x := by simpa using hj.symm
    subst this
    show (W.alloc _).cell? ⟨W.heap.size, 0, none⟩ = _
    rw [World.cell?_alloc_new]
    rfl
  | 1, hj =>
    have : p = y := by simpa using hj.symm
    subst this
    show (W.alloc _).cell? ⟨W.heap.size, 1, none⟩ = _
    rw [World.cell?_alloc_new]
    rfl
def cmpR (a b : ByteArray) : Int := Lib.compareBytes a.data.toList b.data.toList
set_option maxHeartbeats 8000000 in
set_option maxRecDepth 100000 in
theorem compare_exact (a b : ByteArray) (ha : a.size ≤ 60000) (hb : b.size ≤ 60000) (w : World) :
    Calls Try.prog 19 #[.string a, .string b] w fun e w' => e = .returned (.int .i64 (cmpR a b)) ∧ ∃ q os, w' = Sort.grow (w.drewN q) os := by
  obtain ⟨ji3, hji3⟩ : ∃ j_ : Int, (mx (a.size : Int) (b.size : Int)) = j_ := ⟨_, rfl⟩
  have hji3_ : (if (a.size : Int) < (b.size : Int) then (b.size : Int) else (a.size : Int)) = ji3 := hji3
  have hji3n : (if a.size < b.size then (b.size : Int) else (a.size : Int)) = ji3 := by have hh_ := hji3_; first | (simp only [Int.ofNat_lt] at hh_; exact hh_) | (split at hh_ <;> split <;> omega)
  have hmx : ji3 = ((max a.size b.size : Nat) : Int) := by rw [← hji3n]; split <;> omega
  have e1 : wrap64 (ji3 - (a.size : Int)) = ((max a.size b.size - a.size : Nat) : Int) := (w64 (by omega) (by omega)).trans (by omega)
  have e2 : wrap64 (ji3 - (b.size : Int)) = ((max a.size b.size - b.size : Nat) : Int) := (w64 (by omega) (by omega)).trans (by omega)
  obtain ⟨t108, ht1⟩ : ∃ t, t = zerosS (wrap64 (ji3 - (a.size : Int))) := ⟨_, rfl⟩
  obtain ⟨t109, ht2⟩ : ∃ t, t = zerosS (wrap64 (ji3 - (b.size : Int))) := ⟨_, rfl⟩
  have d1 : t108.data.toList = List.replicate (max a.size b.size - a.size) 0 := by rw [ht1, e1]; exact zerosS_data _ (by omega)
  have d2 : t109.data.toList = List.replicate (max a.size b.size - b.size) 0 := by rw [ht2, e2]; exact zerosS_data _ (by omega)
  have s1 : t108.size = max a.size b.size - a.size := by rw [← data_length, d1, List.length_replicate]
  have s2 : t109.size = max a.size b.size - b.size := by rw [← data_length, d2, List.length_replicate]
  have c5 : a.size + t108.size ≤ 9223372036854775807 := by omega
  have c7 : b.size + t109.size ≤ 9223372036854775807 := by omega
  have c5b0 := eq_true c5
  have c5b1 : decide (a.size + t108.size ≤ 9223372036854775807) = true := decide_eq_true c5
  have c5b2 : (9223372036854775807 < a.size + t108.size) = False := eq_false (Nat.not_lt.2 c5)
  have c7b0 := eq_true c7
  have c7b1 : decide (b.size + t109.size ≤ 9223372036854775807) = true := decide_eq_true c7
  have c7b2 : (9223372036854775807 < b.size + t109.size) = False := eq_false (Nat.not_lt.2 c7)
  have HV : Aside0 (orElse0 (Lib.compareBytes (a ++ t108).data.toList (b ++ t109).data.toList) (Lib.compareInt (a.size : Int) (b.size : Int)) = cmpR a b) := ⟨by
    rw [str_data_append, str_data_append, d1, d2]
    have h := cmpB_pad a.data.toList b.data.toList
    rw [data_length, data_length] at h
    unfold cmpR
    rw [← h]
    congr 1
    unfold lenCmp
    rw [data_length, data_length]
    unfold Lib.compareInt
    simp only [Int.ofNat_lt, gt_iff_lt]⟩
  have HT1 := Aside0.mk ht1
  have HT2 := Aside0.mk ht2
  clear ht1 ht2 d1 d2 s1 s2 e1 e2 hmx c5 c7 ha hb
  obtain ⟨t110, ht110⟩ : ∃ t, t = Lib.compareBytes (a ++ t108).data.toList (b ++ t109).data.toList := ⟨_, rfl⟩
  obtain ⟨t111, ht111⟩ : ∃ t : Int, t = Lib.compareInt (a.size : Int) (b.size : Int) := ⟨_, rfl⟩
  have HT3 := Aside0.mk ht110
  have HT4 := Aside0.mk ht111
  clear ht110 ht111
  go_enter Try.func19, Try.ntmps19
  go_wp2_with (first | ((with_reducible refine gate_callee (f := 24) rfl ?_); refine goesL_ (some 18) rfl rfl Try.func24 (by kernel_rfl) rfl #[.int .i64 (wrap64 ((ji3) - (a.size : Int)))] rfl (by (try simp only [List.map_toArray, List.map_cons, List.map_nil]); first | done | (simp only [hji3]; rfl) | rfl) ?_; refine (zeros_exact _ _).mono ?_; rintro e w' ⟨rfl, os1, rfl⟩; rw [← HT1.out]; refine ⟨_, rfl, ?_⟩) | ((with_reducible refine gate_callee (f := 24) rfl ?_); refine goesL_ (some 25) rfl rfl Try.func24 (by kernel_rfl) rfl #[.int .i64 (wrap64 ((ji3) - (b.size : Int)))] rfl (by (try simp only [List.map_toArray, List.map_cons, List.map_nil]); first | done | (simp only [hji3]; rfl) | rfl) ?_; refine (zeros_exact _ _).mono ?_; rintro e w' ⟨rfl, os2, rfl⟩; rw [← HT2.out]; refine ⟨_, rfl, ?_⟩) | ((with_reducible refine gate_callee (f := 26) rfl ?_); refine goesL_ (some 29) rfl rfl Try.func26 (by kernel_rfl) rfl #[.string (a ++ t108), .string (b ++ t109)] rfl (by (try simp only [List.map_toArray, List.map_cons, List.map_nil]); first | done | rfl) ?_; refine (Try.strings_Compare (a ++ t108) (b ++ t109) _).mono ?_; rintro e w' ⟨rfl, rfl⟩; rw [← HT3.out]; refine ⟨_, rfl, ?_⟩) | ((with_reducible refine gate_callee (f := 27) rfl ?_); refine goesL_ (some 34) rfl rfl Try.func27 (by kernel_rfl) rfl #[.int .i64 (a.size : Int), .int .i64 (b.size : Int)] rfl (by (try simp only [List.map_toArray, List.map_cons, List.map_nil]); first | done | rfl) ?_; refine (Try.cmp_Compare_int (a.size : Int) (b.size : Int) _).mono ?_; rintro e w' ⟨rfl, rfl⟩; rw [← HT4.out]; refine ⟨_, rfl, ?_⟩) | (go_at_call 25; refine (cmp_Or_int.calls 3 _ _ [t110, t111] (orElse0 t110 t111) _ ?hC_ (Nat.le_refl _) (or_two _ _)).mono ?_; (case hC_ => exact two_reads _ _ _ _ _ (by simp [Sort.grow, Nat.add_assoc])); rintro e w' ⟨rfl, ⟨nd, rfl⟩⟩))
  go_ret
  refine ⟨by rw [← HV.out, HT3.out, HT4.out]; rfl, nd, os1 ++ (os2 ++ #[.cells #[.int .i64 t110, .int .i64 t111] 3]), ?_⟩
  rw [Sort.alloc_eq_grow, Sort.grow_grow, Sort.grow_grow, drewN_grow]
def encT (x : List UInt8) : Value := .string ⟨(x.take 60000).toArray⟩
theorem encT_one : OneCell encT := fun _ => rfl
def cfT (x y : List UInt8) : Int := Lib.compareBytes (x.take 60000) (y.take 60000)
theorem ltT (x y : List UInt8) : ltOf cfT x y = Sort.ltStr (x.take 60000) (y.take 60000) := by
  unfold ltOf cfT Sort.ltStr
  exact cmpB_lt _ _
theorem swoT : Sort.SWO (ltOf cfT) :=
  ⟨fun x => by rw [ltT]; exact Sort.swo_ltStr.irrefl _, fun x y z h1 h2 => by rw [ltT] at *; exact Sort.swo_ltStr.trans _ _ _ h1 h2, fun x y z h1 h2 => by rw [ltT] at *; exact Sort.swo_ltStr.ntrans _ _ _ h1 h2⟩
theorem laysT (blk off size : Nat) (w : World) : CmpLays1 Try.prog 19 #[] encT cfT blk off size w := by
  intro m os dk _ x y
  have h := compare_exact ⟨(x.take 60000).toArray⟩ ⟨(y.take 60000).toArray⟩ (by show ((x.take 60000).toArray).size ≤ 60000; simp; omega) (by show ((y.take 60000).toArray).size ≤ 60000; simp; omega) (sortWorld encT w blk off m dk os)
  have e : cmpR ⟨(x.take 60000).toArray⟩ ⟨(y.take 60000).toArray⟩ = cfT x y := rfl
  rw [e] at h
  exact h
theorem sorted_unique (l : List (List UInt8)) (hl : ∀ x ∈ l, x.length ≤ 60000) (d' : Array (List UInt8)) (hp : Sort.PermIn 0 l.length l.toArray d') (hs : Sort.SortedIn (ltOf cfT) 0 l.length d') : d'.toList = l.mergeSort leB := by
  obtain ⟨h1, _, h3⟩ := hp
  have hsz : d'.size = l.length := by simpa using h1
  have hperm : d'.toList.Perm l := by
    have e1 : d'.extract 0 l.length = d' := by rw [← hsz]; simp
    have e2 : (l.toArray).extract 0 l.length = l.toArray := by
      have : l.length = l.toArray.size := by simp
      rw [this]; simp
    rw [e1, e2] at h3
    simpa using h3
  have tr : ∀ a b c : List UInt8, leB a b = true → leB b c = true → leB a c = true := fun a b c h1 h2 => by simp only [leB, decide_eq_true_eq] at *; exact List.le_trans h1 h2
  have tot : ∀ a b : List UInt8, (leB a b || leB b a) = true := fun a b => by simp only [leB, Bool.or_eq_true, decide_eq_true_eq]; exact List.le_total a b
  refine List.Perm.eq_of_pairwise (le := fun a b => leB a b = true) (fun a b _ _ h1 h2 => ?_) ?_ (List.pairwise_mergeSort tr tot l) (hperm.trans (List.mergeSort_perm l leB).symm)
  · simp only [leB, decide_eq_true_eq] at h1 h2
    exact List.le_antisymm h1 h2
  · rw [List.pairwise_iff_getElem]
    intro i j hi hj hij
    have hi2 : i < d'.size := by simpa using hi
    have hj2 : j < d'.size := by simpa using hj
    have h := hs i j (Nat.zero_le _) hij (by omega)
    rw [ltT, getElem!_pos d' j hj2, getElem!_pos d' i hi2] at h
    have m1 : d'[i] ∈ l := hperm.mem_iff.1 (by simp)
    have m2 : d'[j] ∈ l := hperm.mem_iff.1 (by simp)
    rw [List.take_of_length_le (hl _ m1), List.take_of_length_le (hl _ m2)] at h
    simp only [Sort.ltStr, decide_eq_false_iff_not] at h
    simp only [leB, decide_eq_true_eq, Array.getElem_toList]
    exact List.not_lt.1 h
theorem below_grow' (W : World) (os : Array Obj) : Below W.heap.size W (Sort.grow W os) :=
  ⟨rfl, rfl, rfl, by simp [Sort.grow], fun k hk => by simp [Sort.grow, Array.getElem?_append, hk]⟩
theorem map_encT (l : List (List UInt8)) (h : ∀ x ∈ l, x.length ≤ 60000) : l.map encT = (l.map fun b => (⟨b.toArray⟩ : ByteArray)).map Value.string := by
  rw [List.map_map]
  apply List.map_congr_left
  intro x hx
  show Value.string ⟨(x.take 60000).toArray⟩ = Value.string ⟨x.toArray⟩
  rw [List.take_of_length_le (h x hx)]
def sortB (l : List ByteArray) : List ByteArray := ((l.map fun s => s.data.toList).mergeSort leB).map fun b => (⟨b.toArray⟩ : ByteArray)
def setof_Sort.f (l0 : List ByteArray) : Option (List ByteArray) := if l0.length ≤ 1000000 ∧ (l0.all fun s => decide (s.size ≤ 60000)) = true then some (sortB l0) else none
set_option maxHeartbeats 8000000 in
set_option maxRecDepth 100000 in
theorem setof_Sort.calls (A0 : Option Addr) (c0 : Nat) (l0 r : List ByteArray) (w : World) (hr0 : Kd.C Kd.string w A0 l0.length l0) (hc0 : l0.length ≤ c0) (h : setof_Sort.f l0 = some r) :
    Calls Try.prog 12 #[.slice A0 l0.length c0] w fun e w' => ∃ v0_ : Value, e = .returned v0_ ∧ Kd.R Kd.string 9 w' w.heap.size (fun _ => True) v0_ r ∧ Below w.heap.size w w' := by
  unfold setof_Sort.f at h
  by_cases hl : l0.length ≤ 1000000 ∧ (l0.all fun s => decide (s.size ≤ 60000)) = true
  case neg => rw [if_neg hl] at h; cases h
  rw [if_pos hl] at h
  obtain rfl := Option.some.inj h
  obtain ⟨hl1, hl2⟩ := hl
  have hsz : ∀ s ∈ l0, s.size ≤ 60000 := fun s hs => by simpa using List.all_eq_true.1 hl2 s hs
  obtain ⟨L, hL⟩ : ∃ L : List (List UInt8), L = l0.map fun s => s.data.toList := ⟨_, rfl⟩
  have hLl : L.length = l0.length := by rw [hL]; simp
  have hLs : ∀ x ∈ L, x.length ≤ 60000 := by
    intro x hx
    rw [hL] at hx
    obtain ⟨s, hs, rfl⟩ := List.mem_map.1 hx
    rw [data_length]
    exact hsz s hs
  have hm : L.map encT = l0.map Value.string := by
    rw [map_encT L hLs, hL]
    simp [List.map_map, Function.comp_def]
  have hSs : ∀ x ∈ L.mergeSort leB, x.length ≤ 60000 := fun x hx => hLs x ((List.mergeSort_perm L leB).mem_iff.1 hx)
  have hr : sortB l0 = (L.mergeSort leB).map fun b => (⟨b.toArray⟩ : ByteArray) := by unfold sortB; rw [hL]
  have hclone : slices_Clone_string_string.f l0 = some l0 := by unfold slices_Clone_string_string.f; rw [if_pos (by omega)]
  have HC := Aside0.mk (And.intro hr0 (And.intro hc0 hclone))
  have HF := Aside0.mk (And.intro hm (And.intro hLs (And.intro hSs (And.intro hr hLl))))
  have HL1 := Aside0.mk hl1
  clear hr0 hc0 hclone hm hLs hSs hr hl1 hl2 hsz h hL hLl
  go_enter Try.func12, Try.ntmps12
  go_upto_region 2 with (first | (go_at_call 16; refine (slices_Clone_string_string.calls A0 c0 l0 l0 _ HC.out.1 HC.out.2.1 HC.out.2.2).mono ?_; rintro e w1 ⟨v, rfl, ho, hb⟩))
  obtain ⟨Av, cv, ev⟩ := Kd.R_slice ho
  subst ev
  have HO := Aside0.mk ho
  have HB := Aside0.mk hb
  clear ho hb
  by_cases h0 : l0.length = 0
  · have HZ := Aside0.mk h0
    rw [h0]
    go_wp2_with (go_at_call 21; refine (AnyF.slices_SortFunc_none (ρ := Try.laysSlF6_f21_ren) { Try.laysSlF6_f21 with } Av cv _ _).mono ?_; rintro e w2 ⟨rfl, rfl⟩)
    go_ret
    obtain rfl : l0 = [] := List.eq_nil_of_length_eq_zero HZ.out
    have e0 : sortB ([] : List ByteArray) = [] := by simp [sortB]
    refine ⟨_, rfl, ?_, HB.out⟩
    rw [e0]
    exact HO.out
  · obtain ⟨gv, cap, e2, hge, hlt, _⟩ := Kd.R_form HO.out (by omega)
    injection e2 with e2a e2b e2c
    subst e2a
    subst e2c
    have hown : w1.ownsRow w.heap.size 9 1 (.slice (some ⟨gv, 0, none⟩) l0.length cv) l0.length (L.map encT) := by
      rw [HF.out.1]
      exact Kd.own_of_R HO.out
    obtain ⟨g2, cap2, e3, _, _, _, _, hl3, hH⟩ := Lib.holds_of_ownsRow hown (by simp)
    injection e3 with e3a _ e3c
    injection e3a with e3a
    injection e3a with e3a
    subst e3a
    subst e3c
    have hsz : L.toArray.size < 4611686018427387904 := by
      rw [List.size_toArray, HF.out.2.2.2.2]
      exact Nat.lt_of_le_of_lt HL1.out (by decide)
    have hsort := Try.slices_SortFunc encT encT_one cfT swoT 19 #[] gv 0 cv L.toArray w1 (enters_of Try.func19 (by kernel_rfl) rfl) (laysT gv 0 L.toArray.size w1) hH hlt hsz
    simp only [List.size_toArray] at hsort
    have HS : Aside0 (Calls Try.prog 21 #[.slice (some ⟨gv, 0, none⟩) l0.length cv, .func (.func 19) #[] #[]] w1 fun e w' => e = .returned (.tuple #[]) ∧ ∃ d' n os, Sort.PermIn 0 L.length L.toArray d' ∧ Sort.SortedIn (ltOf cfT) 0 L.length d' ∧ w' = sortWorld encT w1 gv 0 n d' os) := ⟨by rw [← HF.out.2.2.2.2]; exact hsort⟩
    have HW := Aside0.mk (And.intro hown (And.intro hge hlt))
    clear hsort hown hge hlt hH h0
    go_wp2_with (go_at_call 21; refine HS.out.mono ?_; rintro e w2 ⟨rfl, d', n, os, hperm, hsorted, rfl⟩)
    go_ret
    have hd := sorted_unique L HF.out.2.1 d' hperm hsorted
    have hd2 : d' = (L.mergeSort leB).toArray := by rw [← hd]
    have hlen : (L.mergeSort leB).length = L.length := List.length_mergeSort L
    have hu := Lib.ownsRow_putRow (q := n) (k := l0.length) HW.out.1 (ys := L.mergeSort leB) (by rw [hlen, HF.out.2.2.2.2]) (Nat.le_refl _)
    rw [List.take_of_length_le (by rw [hlen, HF.out.2.2.2.2]; exact Nat.le_refl _), map_encT _ HF.out.2.2.1, ← HF.out.2.2.2.1] at hu
    have hlr : (sortB l0).length = l0.length := by rw [HF.out.2.2.2.1, List.length_map, hlen, HF.out.2.2.2.2]
    refine ⟨_, rfl, ?_, ?_⟩
    · rw [hd2]
      refine Kd.R_below (Kd.R_of_own (enc := Value.string) ?_ (fun _ _ => trivial)) (below_grow' _ _)
      rw [hlr]
      exact hu
    · rw [hd2]
      exact (Lib.below_putRow HB.out HW.out.2.1).trans ((below_grow' _ _).mono (by simpa using HB.out.size))

/-! ### setof_Rises: function 14 -/
def setof_Rises.l0 : Nat → List ByteArray → Int → Int → Option (Bool)
  | 0, _, _, _ => none
  | k + 1, x0, x5, x6 => if x6 < x5 then (if x6 > 0 then (if 0 ≤ (wrap64 (x6 - 1)) then (if (wrap64 (x6 - 1)) < (x0.length : Int) then (if 0 ≤ x6 then (if x6 < (x0.length : Int) then ((setof_compare.f k (rdOf ByteArray.empty x0 (wrap64 (x6 - 1))) (rdOf ByteArray.empty x0 x6)).bind fun t121 => (if t121 ≥ 0 then (some false) else (setof_Rises.l0 k x0 x5 (wrap64 (x6 + 1))))) else (none)) else (none)) else (none)) else (none)) else (setof_Rises.l0 k x0 x5 (wrap64 (x6 + 1)))) else (some true)
def setof_Rises.f (k : Nat) (l0 : List ByteArray) : Option (Bool) := setof_Rises.l0 k l0 (l0.length : Int) 0
theorem setof_Rises.mono_l : ∀ k, (∀ y0 y1 y2, LeO (setof_Rises.l0 k y0 y1 y2) (setof_Rises.l0 (k + 1) y0 y1 y2))
  | 0 => fun _ _ _ r h => by simp [setof_Rises.l0] at h
  | k + 1 => by
    have ih0 := setof_Rises.mono_l k
    · intro y0 y1 y2
      unfold setof_Rises.l0
      repeat' first
      | (with_reducible exact ih0 _ _ _)
      | (with_reducible exact setof_compare.mono _ _ _)
      | (with_reducible exact LeO.refl _)
      | (with_reducible exact LeO.none _)
      | (with_reducible refine LeO.ite ?_ ?_)
      | (with_reducible refine LeO.bind ?_ (fun _ => ?_))
      | exact ih0 _ _ _
      | exact setof_compare.mono _ _ _
      | exact LeO.none _
      | refine LeO.ite ?_ ?_
      | refine LeO.bind ?_ (fun _ => ?_)
theorem setof_Rises.mono : ∀ a0 k, LeO (setof_Rises.f k a0) (setof_Rises.f (k + 1) a0) := by
  intro a0 k
  have ih0 := setof_Rises.mono_l k
  unfold setof_Rises.f
  repeat' first
      | (with_reducible exact ih0 _ _ _)
      | (with_reducible exact setof_compare.mono _ _ _)
      | (with_reducible exact LeO.refl _)
      | (with_reducible exact LeO.none _)
      | (with_reducible refine LeO.ite ?_ ?_)
      | (with_reducible refine LeO.bind ?_ (fun _ => ?_))
      | exact ih0 _ _ _
      | exact setof_compare.mono _ _ _
      | exact LeO.none _
      | refine LeO.ite ?_ ?_
      | refine LeO.bind ?_ (fun _ => ?_)
def setof_Rises.T4 : Bool × List (List Nat × List Nat) := (true, [([], []), ([0], [0]), ([1], [1]), ([2], [2]), ([2], [2]), ([4, 2], [2, 4]), ([3, 5, 2], [2, 3, 5]), ([6, 2], [2, 6]), ([2], [2]), ([2], [2]), ([8, 9, 2], [2, 8, 9]), ([10, 2], [2, 10]), ([7, 11, 2, 2], [2, 7, 11]), ([12, 2], [2, 12]), ([2, 13], [2, 13])])
def setof_Rises.B4 : List Nat := [0, 1, 3, 7, 7, 23, 63, 127, 7, 7, 775, 1799, 4095, 8191, 16383]
theorem setof_Rises.tab4 : rtab .any (opsOf Try.f14 4) = setof_Rises.T4 := by kernel_rfl
theorem setof_Rises.bits4 : waitsOk setof_Rises.T4.2 setof_Rises.B4 = true := by kernel_rfl
set_option maxHeartbeats 8000000 in
set_option maxRecDepth 100000 in
theorem setof_Rises.calls (k : Nat) (A0 : Option Addr) (c0 : Nat) (l0 : List ByteArray) (r : Bool) (w : World) (hr0 : Kd.C Kd.string w A0 l0.length l0) (hc0 : l0.length ≤ c0) (h : setof_Rises.f k l0 = some r) :
    Calls Try.prog 14 #[.slice A0 l0.length c0] w fun e w' => e = .returned (.bool r) ∧ Below w.heap.size w w' := by
  have HR0 := Aside0.mk hr0
  have HC0 := Aside0.mk hc0
  clear hr0 hc0
  have HB := Aside0.mk (Below.refl w.heap.size w)
  have H : (setof_Rises.l0 k l0 (l0.length : Int) 0) = some r := h
  clear h
  have H' := Aside0.mk H
  clear H
  go_enter Try.func14, Try.ntmps14
  go_wp2
  go_loopg [6] k (fun kq v6 w' => ∃ (x6_1 : Int), v6 = .int .i64 x6_1 ∧ Aside0 (setof_Rises.l0 kq l0 (l0.length : Int) x6_1 = some r) ∧ Aside0 (kq ≤ k) ∧ Aside0 (Below w.heap.size w w'))
  case atStart => exact ⟨(0), (by first | rfl | (simp; done) | (simp [*]; done)), H', ⟨Nat.le_refl _⟩, ⟨by repeat (first | (with_reducible first | exact HB.out | apply below_alloc | apply pw_below_drewN | apply below_drew1) | exact HB.out)⟩⟩
  case round =>
    clear H'
    try clear c1
    obtain ⟨x6_1, rfl, HA, HK1, HB⟩ := hrel
    cases gk with
    | zero => exact absurd HA.out (by simp [setof_Rises.l0])
    | succ k1 =>
      have H := HA.out
      clear HA
      simp only [setof_Rises.l0] at H
      by_cases c2 : x6_1 < (l0.length : Int)
      · rw [if_pos c2] at H
        have c2b0 : decide (x6_1 < (l0.length : Int)) = true := decide_eq_true c2
        clear c2
        by_cases c3 : x6_1 > 0
        · rw [if_pos c3] at H
          have c3b0 : decide (0 < x6_1) = true := decide_eq_true c3
          clear c3
          obtain ⟨ji4, hji4⟩ : ∃ j_ : Int, (wrap64 (x6_1 - 1)) = j_ := ⟨_, rfl⟩
          replace H : (if 0 ≤ (ji4) then (if (ji4) < (l0.length : Int) then (if 0 ≤ x6_1 then (if x6_1 < (l0.length : Int) then ((setof_compare.f k1 (rdOf ByteArray.empty l0 (ji4)) (rdOf ByteArray.empty l0 x6_1)).bind fun t121 => (if t121 ≥ 0 then (some false) else (setof_Rises.l0 k1 l0 (l0.length : Int) (wrap64 (x6_1 + 1))))) else (none)) else (none)) else (none)) else (none)) = some r := by first | (rw [hji4] at H; exact H) | (simp only [hji4] at H ⊢; exact H)
          have hji4w : (IntKind.i64.wrap (x6_1 - 1)) = ji4 := (i64_w _).trans hji4
          by_cases c5 : 0 ≤ (ji4)
          · rw [if_pos c5] at H
            have c5b0 : decide (0 ≤ (ji4)) = true := decide_eq_true c5
            clear c5
            by_cases c6 : (ji4) < (l0.length : Int)
            · rw [if_pos c6] at H
              have c6b0 : decide ((ji4) < (l0.length : Int)) = true := decide_eq_true c6
              clear c6
              by_cases c7 : 0 ≤ x6_1
              · rw [if_pos c7] at H
                have c7b0 : decide (0 ≤ x6_1) = true := decide_eq_true c7
                clear c7
                by_cases c8 : x6_1 < (l0.length : Int)
                · rw [if_pos c8] at H
                  have c8b0 : decide (x6_1 < (l0.length : Int)) = true := decide_eq_true c8
                  clear c8
                  replace H := Option.bind_eq_some_iff.mp H
                  obtain ⟨t121, A90, H⟩ := H
                  replace H : (if t121 ≥ 0 then (some false) else (setof_Rises.l0 k1 l0 (l0.length : Int) (wrap64 (x6_1 + 1)))) = some r := H
                  have A9 := Aside0.mk A90
                  clear A90
                  by_cases c10 : t121 ≥ 0
                  · rw [if_pos c10] at H
                    have c10b0 : decide (0 ≤ t121) = true := decide_eq_true c10
                    clear c10
                    obtain rfl := Option.some.inj H
                    try go_wp2
                    have n0_ := Aside0.mk (below_drew1 HB.out)
                    clear HB
                    have HB := n0_
                    clear n0_
                    have p119 : 0 ≤ ((ji4) : Int) := of_decide_eq_true (by first | (with_reducible assumption) | assumption)
                    have q119 : (ji4) < (l0.length : Int) := of_decide_eq_true (by first | (with_reducible assumption) | assumption)
                    obtain ⟨ad119, e119, hx119_0⟩ := Kd.at_string HR0.out (ji4) p119 q119
                    have hw119_0 := hx119_0
                    cases e119
                    replace hx119_0 := (HB.out.cell (World.block_lt_of_cell? w _ hx119_0)).trans hx119_0
                    replace p119 := eq_true p119
                    replace q119 := eq_true q119
                    have p120 : 0 ≤ (x6_1 : Int) := of_decide_eq_true (by first | (with_reducible assumption) | assumption)
                    have q120 : x6_1 < (l0.length : Int) := of_decide_eq_true (by first | (with_reducible assumption) | assumption)
                    obtain ⟨ad120, e120, hx120_0⟩ := Kd.at_string HR0.out x6_1 p120 q120
                    have hw120_0 := hx120_0
                    obtain rfl : ad119 = ad120 := (by injection e120)
                    replace hx120_0 := (HB.out.cell (World.block_lt_of_cell? w _ hx120_0)).trans hx120_0
                    replace p120 := eq_true p120
                    replace q120 := eq_true q120
                    refine start_ (n := 15) (S := fun w' => w'.cell? (ad119.add ((ji4)).toNat) = some (.string (rdOf ByteArray.empty l0 (ji4))) ∧ w'.cell? (ad119.add (x6_1).toNat) = some (.string (rdOf ByteArray.empty l0 x6_1))) (ds := []) #[false, false, false, false, false, false, false, false, false, false, false, false, false, false, false] (by kernel_rfl) rfl rfl ⟨((HB.out.cell (World.block_lt_of_cell? w _ hw119_0)).trans hw119_0), ((HB.out.cell (World.block_lt_of_cell? w _ hw120_0)).trans hw120_0)⟩ (fun hHeld => ?_); refine with_tabW setof_Rises.tab4 setof_Rises.bits4 (fun HG_ HW_ => ?_)
                    generalize wr.drew = w11 at HB hx119_0 hx120_0 hHeld ⊢
                    refine pure_ (i := 0) (N := some 9) (v := ?_) (a' := ?_) #[true, false, false, false, false, false, false, false, false, false, false, false, false, false, false] rfl rfl (any_of HG_.out (by kernel_rfl)) (fun _ _ _ h => h) (Or.inl ⟨by rfl, ?_⟩) ?_ ?_
                    rotate_left
                    · intro w'
                      go_simp
                      with_reducible rfl
                    rotate_left
                    · simp only [Act.put, List.setIfInBounds_toArray, List.set_cons_zero, List.set_cons_succ, i64_w, i32_w]
                      rfl
                    refine pure_ (i := 1) (N := some 10) (v := ?_) (a' := ?_) #[true, true, false, false, false, false, false, false, false, false, false, false, false, false, false] rfl rfl (any_of HG_.out (by kernel_rfl)) (fun _ _ _ h => h) (Or.inl ⟨by rfl, ?_⟩) ?_ ?_
                    rotate_left
                    · intro w'
                      go_simp
                      with_reducible rfl
                    rotate_left
                    · simp only [Act.put, List.setIfInBounds_toArray, List.set_cons_zero, List.set_cons_succ, i64_w, i32_w]
                      rfl
                    refine pure_ (i := 2) (N := some 11) (v := ?_) (a' := ?_) #[true, true, true, false, false, false, false, false, false, false, false, false, false, false, false] rfl rfl (any_of HG_.out (by kernel_rfl)) (fun _ _ _ h => h) (Or.inl ⟨by rfl, ?_⟩) ?_ ?_
                    rotate_left
                    · intro w'
                      go_simp
                      with_reducible rfl
                    rotate_left
                    · simp only [Act.put, List.setIfInBounds_toArray, List.set_cons_zero, List.set_cons_succ, i64_w, i32_w]
                      rfl
                    refine pure_ (i := 3) (N := some 12) (v := ?_) (a' := ?_) #[true, true, true, true, false, false, false, false, false, false, false, false, false, false, false] rfl rfl (any_of HG_.out (by kernel_rfl)) (fun _ _ _ h => h) (Or.inl ⟨by rfl, ?_⟩) ?_ ?_
                    rotate_left
                    · intro w'
                      go_simp
                      with_reducible rfl
                    rotate_left
                    · simp only [Act.put, List.setIfInBounds_toArray, List.set_cons_zero, List.set_cons_succ, i64_w, i32_w]
                      rfl
                    refine pure_ (i := 4) (N := some 13) (v := ?_) (a' := ?_) #[true, true, true, true, true, false, false, false, false, false, false, false, false, false, false] rfl rfl (any_of HG_.out (by kernel_rfl)) (fun _ _ _ h => h) (Or.inl ⟨by rfl, ?_⟩) ?_ ?_
                    rotate_left
                    · intro w'
                      go_simp
                      with_reducible rfl
                    rotate_left
                    · simp only [Act.put, List.setIfInBounds_toArray, List.set_cons_zero, List.set_cons_succ, i64_w, i32_w]
                      rfl
                    refine pure_ (i := 5) (N := some 14) (v := ?_) (a' := ?_) #[true, true, true, true, true, true, false, false, false, false, false, false, false, false, false] rfl rfl (any_of HG_.out (by kernel_rfl)) (fun _ _ _ h => h) (Or.inl ⟨by rfl, ?_⟩) ?_ ?_
                    rotate_left
                    · intro w'
                      go_simp
                      with_reducible rfl
                    rotate_left
                    · simp only [Act.put, List.setIfInBounds_toArray, List.set_cons_zero, List.set_cons_succ, i64_w, i32_w]
                      rfl
                    refine pure_ (i := 6) (N := some 15) (v := ?_) (a' := ?_) #[true, true, true, true, true, true, true, false, false, false, false, false, false, false, false] rfl rfl (any_of HG_.out (by kernel_rfl)) (fun _ _ _ h => h) (Or.inl ⟨by rfl, ?_⟩) ?_ ?_
                    rotate_left
                    · intro w'
                      go_simp
                      with_reducible rfl
                    rotate_left
                    · simp only [Act.put, List.setIfInBounds_toArray, List.set_cons_zero, List.set_cons_succ, i64_w, i32_w]
                      rfl
                    refine pure_ (i := 8) (N := some 17) (v := ?_) (a' := ?_) #[true, true, true, true, true, true, true, false, true, false, false, false, false, false, false] rfl rfl (any_of HG_.out (by kernel_rfl)) (fun _ _ _ h => h) (Or.inl ⟨by rfl, ?_⟩) ?_ ?_
                    rotate_left
                    · intro w'
                      go_simp
                      with_reducible rfl
                    rotate_left
                    · simp only [Act.put, List.setIfInBounds_toArray, List.set_cons_zero, List.set_cons_succ, i64_w, i32_w]
                      rfl
                    refine pure_ (i := 9) (N := some 18) (v := ?_) (a' := ?_) #[true, true, true, true, true, true, true, false, true, true, false, false, false, false, false] rfl rfl (any_of HG_.out (by kernel_rfl)) (fun _ _ _ h => h) (Or.inl ⟨by rfl, ?_⟩) ?_ ?_
                    rotate_left
                    · intro w'
                      go_simp
                      with_reducible rfl
                    rotate_left
                    · simp only [Act.put, List.setIfInBounds_toArray, List.set_cons_zero, List.set_cons_succ, i64_w, i32_w]
                      rfl
                    refine pure_ (i := 10) (N := some 19) (v := ?_) (a' := ?_) #[true, true, true, true, true, true, true, false, true, true, true, false, false, false, false] rfl rfl (any_of HG_.out (by kernel_rfl)) (fun _ _ _ h => h) (Or.inl ⟨by rfl, ?_⟩) ?_ ?_
                    rotate_left
                    · intro w'
                      go_simp
                      with_reducible rfl
                    rotate_left
                    · simp only [Act.put, List.setIfInBounds_toArray, List.set_cons_zero, List.set_cons_succ, i64_w, i32_w]
                      rfl
                    refine take_ (i := 7) (N := some 16) (v := ?_) (a' := ?_) #[true, true, true, true, true, true, true, true, true, true, true, false, false, false, false] rfl rfl (take_ofW HG_.out HW_.out (by kernel_rfl)) (fun _ _ _ h => h) (Or.inl ⟨by rfl, ?_⟩) hHeld ?_ ?_
                    rotate_left
                    · rintro w' ⟨s0, s1⟩
                      go_simp
                      with_reducible rfl
                    rotate_left
                    · simp only [Act.put, List.setIfInBounds_toArray, List.set_cons_zero, List.set_cons_succ, i64_w, i32_w]
                      rfl
                    refine take_ (i := 11) (N := some 20) (v := ?_) (a' := ?_) #[true, true, true, true, true, true, true, true, true, true, true, true, false, false, false] rfl rfl (take_ofW HG_.out HW_.out (by kernel_rfl)) (fun _ _ _ h => h) (Or.inl ⟨by rfl, ?_⟩) hHeld ?_ ?_
                    rotate_left
                    · rintro w' ⟨s0, s1⟩
                      go_simp
                      with_reducible rfl
                    rotate_left
                    · simp only [Act.put, List.setIfInBounds_toArray, List.set_cons_zero, List.set_cons_succ, i64_w, i32_w]
                      rfl
                    refine one_ (i := 12) (N := some 21) #[true, true, true, true, true, true, true, true, true, true, true, true, true, false, false] rfl rfl (one_of HG_.out (by kernel_rfl)) (by decide) (fun K hK => ?_)
                    refine goes_ Try.func19 (by kernel_rfl) rfl #[.string (rdOf ByteArray.empty l0 (ji4)), .string (rdOf ByteArray.empty l0 x6_1)] (by rfl) rfl rfl (by (try simp only [List.map_toArray, List.map_cons, List.map_nil]); first | done | (simp only [hji4]; rfl) | rfl | (simp only [List.length_drop, List.length_take]; rfl) | exact congrArg (fun z => #[Value.int .i64 z]) (w64 (by omega) (by omega)).symm) ?_
                    with_reducible refine (setof_compare.calls k1 (rdOf ByteArray.empty l0 (ji4)) (rdOf ByteArray.empty l0 x6_1) t121 _ A9.out).mono ?_
                    rintro e w12 ⟨rfl, hb⟩
                    refine ⟨_, rfl, ?_⟩
                    have n0_ := Aside0.mk (below_step (by repeat (first | (with_reducible first | exact HB.out | apply below_alloc | apply pw_below_drewN | apply below_drew1) | exact HB.out)) hb)
                    clear HB
                    have HB := n0_
                    clear n0_
                    (try clear hb)
                    (try clear hb2)
                    (try clear hk)
                    (try clear hi)
                    refine hK.out _ _ ⟨((HB.out.cell (World.block_lt_of_cell? w _ hw119_0)).trans hw119_0), ((HB.out.cell (World.block_lt_of_cell? w _ hw120_0)).trans hw120_0)⟩ (fun hHeld => ?_)
                    clear hK K
                    refine norm_ (a' := ?_) ?_ ?_
                    rotate_left
                    · show Act.put _ (some 21) _ = _
                      simp only [Act.put, List.setIfInBounds_toArray, List.set_cons_zero, List.set_cons_succ, i64_w, i32_w]
                      rfl
                    refine pure_ (i := 13) (N := some 22) (v := ?_) (a' := ?_) #[true, true, true, true, true, true, true, true, true, true, true, true, true, true, false] rfl rfl (any_of HG_.out (by kernel_rfl)) (fun _ _ _ h => h) (Or.inl ⟨by rfl, ?_⟩) ?_ ?_
                    rotate_left
                    · intro w'
                      go_simp
                      with_reducible rfl
                    rotate_left
                    · simp only [Act.put, List.setIfInBounds_toArray, List.set_cons_zero, List.set_cons_succ, i64_w, i32_w]
                      rfl
                    refine pure_ (i := 14) (N := some 23) (v := ?_) (a' := ?_) #[true, true, true, true, true, true, true, true, true, true, true, true, true, true, true] rfl rfl (any_of HG_.out (by kernel_rfl)) (fun _ _ _ h => h) (Or.inl ⟨by rfl, ?_⟩) ?_ ?_
                    rotate_left
                    · intro w'
                      go_simp
                      with_reducible rfl
                    rotate_left
                    · simp only [Act.put, List.setIfInBounds_toArray, List.set_cons_zero, List.set_cons_succ, i64_w, i32_w]
                      rfl
                    refine done_ (done_of HG_.out (by kernel_rfl)) ?_
                    try go_wp2
                    go_ret
                    exact ⟨by first | rfl | (simp [errW_none, errW_some] <;> rfl) | (simp only [← hji4]; first | rfl | (simp [errW_none, errW_some] <;> rfl)) | (simp [*, errW_none, errW_some] <;> rfl), by repeat (first | (with_reducible first | exact HB.out | apply below_alloc | apply pw_below_drewN | apply below_drew1) | exact HB.out)⟩
                  · rw [if_neg c10] at H
                    have c10b0 : decide (0 ≤ t121) = false := decide_eq_false c10
                    clear c10
                    have H' := Aside0.mk H
                    clear H
                    try go_wp2
                    have n0_ := Aside0.mk (below_drew1 HB.out)
                    clear HB
                    have HB := n0_
                    clear n0_
                    have p119 : 0 ≤ ((ji4) : Int) := of_decide_eq_true (by first | (with_reducible assumption) | assumption)
                    have q119 : (ji4) < (l0.length : Int) := of_decide_eq_true (by first | (with_reducible assumption) | assumption)
                    obtain ⟨ad119, e119, hx119_0⟩ := Kd.at_string HR0.out (ji4) p119 q119
                    have hw119_0 := hx119_0
                    cases e119
                    replace hx119_0 := (HB.out.cell (World.block_lt_of_cell? w _ hx119_0)).trans hx119_0
                    replace p119 := eq_true p119
                    replace q119 := eq_true q119
                    have p120 : 0 ≤ (x6_1 : Int) := of_decide_eq_true (by first | (with_reducible assumption) | assumption)
                    have q120 : x6_1 < (l0.length : Int) := of_decide_eq_true (by first | (with_reducible assumption) | assumption)
                    obtain ⟨ad120, e120, hx120_0⟩ := Kd.at_string HR0.out x6_1 p120 q120
                    have hw120_0 := hx120_0
                    obtain rfl : ad119 = ad120 := (by injection e120)
                    replace hx120_0 := (HB.out.cell (World.block_lt_of_cell? w _ hx120_0)).trans hx120_0
                    replace p120 := eq_true p120
                    replace q120 := eq_true q120
                    refine start_ (n := 15) (S := fun w' => w'.cell? (ad119.add ((ji4)).toNat) = some (.string (rdOf ByteArray.empty l0 (ji4))) ∧ w'.cell? (ad119.add (x6_1).toNat) = some (.string (rdOf ByteArray.empty l0 x6_1))) (ds := []) #[false, false, false, false, false, false, false, false, false, false, false, false, false, false, false] (by kernel_rfl) rfl rfl ⟨((HB.out.cell (World.block_lt_of_cell? w _ hw119_0)).trans hw119_0), ((HB.out.cell (World.block_lt_of_cell? w _ hw120_0)).trans hw120_0)⟩ (fun hHeld => ?_); refine with_tabW setof_Rises.tab4 setof_Rises.bits4 (fun HG_ HW_ => ?_)
                    generalize wr.drew = w13 at HB hx119_0 hx120_0 hHeld ⊢
                    refine pure_ (i := 0) (N := some 9) (v := ?_) (a' := ?_) #[true, false, false, false, false, false, false, false, false, false, false, false, false, false, false] rfl rfl (any_of HG_.out (by kernel_rfl)) (fun _ _ _ h => h) (Or.inl ⟨by rfl, ?_⟩) ?_ ?_
                    rotate_left
                    · intro w'
                      go_simp
                      with_reducible rfl
                    rotate_left
                    · simp only [Act.put, List.setIfInBounds_toArray, List.set_cons_zero, List.set_cons_succ, i64_w, i32_w]
                      rfl
                    refine pure_ (i := 1) (N := some 10) (v := ?_) (a' := ?_) #[true, true, false, false, false, false, false, false, false, false, false, false, false, false, false] rfl rfl (any_of HG_.out (by kernel_rfl)) (fun _ _ _ h => h) (Or.inl ⟨by rfl, ?_⟩) ?_ ?_
                    rotate_left
                    · intro w'
                      go_simp
                      with_reducible rfl
                    rotate_left
                    · simp only [Act.put, List.setIfInBounds_toArray, List.set_cons_zero, List.set_cons_succ, i64_w, i32_w]
                      rfl
                    refine pure_ (i := 2) (N := some 11) (v := ?_) (a' := ?_) #[true, true, true, false, false, false, false, false, false, false, false, false, false, false, false] rfl rfl (any_of HG_.out (by kernel_rfl)) (fun _ _ _ h => h) (Or.inl ⟨by rfl, ?_⟩) ?_ ?_
                    rotate_left
                    · intro w'
                      go_simp
                      with_reducible rfl
                    rotate_left
                    · simp only [Act.put, List.setIfInBounds_toArray, List.set_cons_zero, List.set_cons_succ, i64_w, i32_w]
                      rfl
                    refine pure_ (i := 3) (N := some 12) (v := ?_) (a' := ?_) #[true, true, true, true, false, false, false, false, false, false, false, false, false, false, false] rfl rfl (any_of HG_.out (by kernel_rfl)) (fun _ _ _ h => h) (Or.inl ⟨by rfl, ?_⟩) ?_ ?_
                    rotate_left
                    · intro w'
                      go_simp
                      with_reducible rfl
                    rotate_left
                    · simp only [Act.put, List.setIfInBounds_toArray, List.set_cons_zero, List.set_cons_succ, i64_w, i32_w]
                      rfl
                    refine pure_ (i := 4) (N := some 13) (v := ?_) (a' := ?_) #[true, true, true, true, true, false, false, false, false, false, false, false, false, false, false] rfl rfl (any_of HG_.out (by kernel_rfl)) (fun _ _ _ h => h) (Or.inl ⟨by rfl, ?_⟩) ?_ ?_
                    rotate_left
                    · intro w'
                      go_simp
                      with_reducible rfl
                    rotate_left
                    · simp only [Act.put, List.setIfInBounds_toArray, List.set_cons_zero, List.set_cons_succ, i64_w, i32_w]
                      rfl
                    refine pure_ (i := 5) (N := some 14) (v := ?_) (a' := ?_) #[true, true, true, true, true, true, false, false, false, false, false, false, false, false, false] rfl rfl (any_of HG_.out (by kernel_rfl)) (fun _ _ _ h => h) (Or.inl ⟨by rfl, ?_⟩) ?_ ?_
                    rotate_left
                    · intro w'
                      go_simp
                      with_reducible rfl
                    rotate_left
                    · simp only [Act.put, List.setIfInBounds_toArray, List.set_cons_zero, List.set_cons_succ, i64_w, i32_w]
                      rfl
                    refine pure_ (i := 6) (N := some 15) (v := ?_) (a' := ?_) #[true, true, true, true, true, true, true, false, false, false, false, false, false, false, false] rfl rfl (any_of HG_.out (by kernel_rfl)) (fun _ _ _ h => h) (Or.inl ⟨by rfl, ?_⟩) ?_ ?_
                    rotate_left
                    · intro w'
                      go_simp
                      with_reducible rfl
                    rotate_left
                    · simp only [Act.put, List.setIfInBounds_toArray, List.set_cons_zero, List.set_cons_succ, i64_w, i32_w]
                      rfl
                    refine pure_ (i := 8) (N := some 17) (v := ?_) (a' := ?_) #[true, true, true, true, true, true, true, false, true, false, false, false, false, false, false] rfl rfl (any_of HG_.out (by kernel_rfl)) (fun _ _ _ h => h) (Or.inl ⟨by rfl, ?_⟩) ?_ ?_
                    rotate_left
                    · intro w'
                      go_simp
                      with_reducible rfl
                    rotate_left
                    · simp only [Act.put, List.setIfInBounds_toArray, List.set_cons_zero, List.set_cons_succ, i64_w, i32_w]
                      rfl
                    refine pure_ (i := 9) (N := some 18) (v := ?_) (a' := ?_) #[true, true, true, true, true, true, true, false, true, true, false, false, false, false, false] rfl rfl (any_of HG_.out (by kernel_rfl)) (fun _ _ _ h => h) (Or.inl ⟨by rfl, ?_⟩) ?_ ?_
                    rotate_left
                    · intro w'
                      go_simp
                      with_reducible rfl
                    rotate_left
                    · simp only [Act.put, List.setIfInBounds_toArray, List.set_cons_zero, List.set_cons_succ, i64_w, i32_w]
                      rfl
                    refine pure_ (i := 10) (N := some 19) (v := ?_) (a' := ?_) #[true, true, true, true, true, true, true, false, true, true, true, false, false, false, false] rfl rfl (any_of HG_.out (by kernel_rfl)) (fun _ _ _ h => h) (Or.inl ⟨by rfl, ?_⟩) ?_ ?_
                    rotate_left
                    · intro w'
                      go_simp
                      with_reducible rfl
                    rotate_left
                    · simp only [Act.put, List.setIfInBounds_toArray, List.set_cons_zero, List.set_cons_succ, i64_w, i32_w]
                      rfl
                    refine take_ (i := 7) (N := some 16) (v := ?_) (a' := ?_) #[true, true, true, true, true, true, true, true, true, true, true, false, false, false, false] rfl rfl (take_ofW HG_.out HW_.out (by kernel_rfl)) (fun _ _ _ h => h) (Or.inl ⟨by rfl, ?_⟩) hHeld ?_ ?_
                    rotate_left
                    · rintro w' ⟨s0, s1⟩
                      go_simp
                      with_reducible rfl
                    rotate_left
                    · simp only [Act.put, List.setIfInBounds_toArray, List.set_cons_zero, List.set_cons_succ, i64_w, i32_w]
                      rfl
                    refine take_ (i := 11) (N := some 20) (v := ?_) (a' := ?_) #[true, true, true, true, true, true, true, true, true, true, true, true, false, false, false] rfl rfl (take_ofW HG_.out HW_.out (by kernel_rfl)) (fun _ _ _ h => h) (Or.inl ⟨by rfl, ?_⟩) hHeld ?_ ?_
                    rotate_left
                    · rintro w' ⟨s0, s1⟩
                      go_simp
                      with_reducible rfl
                    rotate_left
                    · simp only [Act.put, List.setIfInBounds_toArray, List.set_cons_zero, List.set_cons_succ, i64_w, i32_w]
                      rfl
                    refine one_ (i := 12) (N := some 21) #[true, true, true, true, true, true, true, true, true, true, true, true, true, false, false] rfl rfl (one_of HG_.out (by kernel_rfl)) (by decide) (fun K hK => ?_)
                    refine goes_ Try.func19 (by kernel_rfl) rfl #[.string (rdOf ByteArray.empty l0 (ji4)), .string (rdOf ByteArray.empty l0 x6_1)] (by rfl) rfl rfl (by (try simp only [List.map_toArray, List.map_cons, List.map_nil]); first | done | (simp only [hji4]; rfl) | rfl | (simp only [List.length_drop, List.length_take]; rfl) | exact congrArg (fun z => #[Value.int .i64 z]) (w64 (by omega) (by omega)).symm) ?_
                    with_reducible refine (setof_compare.calls k1 (rdOf ByteArray.empty l0 (ji4)) (rdOf ByteArray.empty l0 x6_1) t121 _ A9.out).mono ?_
                    rintro e w14 ⟨rfl, hb⟩
                    refine ⟨_, rfl, ?_⟩
                    have n0_ := Aside0.mk (below_step (by repeat (first | (with_reducible first | exact HB.out | apply below_alloc | apply pw_below_drewN | apply below_drew1) | exact HB.out)) hb)
                    clear HB
                    have HB := n0_
                    clear n0_
                    (try clear hb)
                    (try clear hb2)
                    (try clear hk)
                    (try clear hi)
                    refine hK.out _ _ ⟨((HB.out.cell (World.block_lt_of_cell? w _ hw119_0)).trans hw119_0), ((HB.out.cell (World.block_lt_of_cell? w _ hw120_0)).trans hw120_0)⟩ (fun hHeld => ?_)
                    clear hK K
                    refine norm_ (a' := ?_) ?_ ?_
                    rotate_left
                    · show Act.put _ (some 21) _ = _
                      simp only [Act.put, List.setIfInBounds_toArray, List.set_cons_zero, List.set_cons_succ, i64_w, i32_w]
                      rfl
                    refine pure_ (i := 13) (N := some 22) (v := ?_) (a' := ?_) #[true, true, true, true, true, true, true, true, true, true, true, true, true, true, false] rfl rfl (any_of HG_.out (by kernel_rfl)) (fun _ _ _ h => h) (Or.inl ⟨by rfl, ?_⟩) ?_ ?_
                    rotate_left
                    · intro w'
                      go_simp
                      with_reducible rfl
                    rotate_left
                    · simp only [Act.put, List.setIfInBounds_toArray, List.set_cons_zero, List.set_cons_succ, i64_w, i32_w]
                      rfl
                    refine pure_ (i := 14) (N := some 23) (v := ?_) (a' := ?_) #[true, true, true, true, true, true, true, true, true, true, true, true, true, true, true] rfl rfl (any_of HG_.out (by kernel_rfl)) (fun _ _ _ h => h) (Or.inl ⟨by rfl, ?_⟩) ?_ ?_
                    rotate_left
                    · intro w'
                      go_simp
                      with_reducible rfl
                    rotate_left
                    · simp only [Act.put, List.setIfInBounds_toArray, List.set_cons_zero, List.set_cons_succ, i64_w, i32_w]
                      rfl
                    refine done_ (done_of HG_.out (by kernel_rfl)) ?_
                    try go_wp2
                    go_roundg k1
                    case measure => have := HK1.out; omega
                    case rel => exact ⟨(wrap64 (x6_1 + 1)), (by first | rfl | (simp; done) | (simp [*]; done)), H', ⟨by have := HK1.out; omega⟩, ⟨by repeat (first | (with_reducible first | exact HB.out | apply below_alloc | apply pw_below_drewN | apply below_drew1) | exact HB.out)⟩⟩
                · rw [if_neg c8] at H
                  exact absurd H (by simp)
              · rw [if_neg c7] at H
                exact absurd H (by simp)
            · rw [if_neg c6] at H
              exact absurd H (by simp)
          · rw [if_neg c5] at H
            exact absurd H (by simp)
        · rw [if_neg c3] at H
          have c3b0 : decide (0 < x6_1) = false := decide_eq_false c3
          clear c3
          have H' := Aside0.mk H
          clear H
          try go_wp2
          have n0_ := Aside0.mk (below_drew1 HB.out)
          clear HB
          have HB := n0_
          clear n0_
          refine start_ (n := 15) (S := fun w' => True) (ds := []) #[false, false, false, false, false, false, false, false, false, false, false, false, false, false, false] (by kernel_rfl) rfl rfl trivial (fun hHeld => ?_); refine with_tabW setof_Rises.tab4 setof_Rises.bits4 (fun HG_ HW_ => ?_)
          generalize wr.drew = w15 at HB hHeld ⊢
          refine pure_ (i := 0) (N := some 9) (v := ?_) (a' := ?_) #[true, false, false, false, false, false, false, false, false, false, false, false, false, false, false] rfl rfl (any_of HG_.out (by kernel_rfl)) (fun _ _ _ h => h) (Or.inl ⟨by rfl, ?_⟩) ?_ ?_
          rotate_left
          · intro w'
            go_simp
            with_reducible rfl
          rotate_left
          · simp only [Act.put, List.setIfInBounds_toArray, List.set_cons_zero, List.set_cons_succ, i64_w, i32_w]
            rfl
          refine pure_ (i := 1) (N := some 10) (v := ?_) (a' := ?_) #[true, true, false, false, false, false, false, false, false, false, false, false, false, false, false] rfl rfl (any_of HG_.out (by kernel_rfl)) (fun _ _ _ h => h) (Or.inl ⟨by rfl, ?_⟩) ?_ ?_
          rotate_left
          · intro w'
            go_simp
            with_reducible rfl
          rotate_left
          · simp only [Act.put, List.setIfInBounds_toArray, List.set_cons_zero, List.set_cons_succ, i64_w, i32_w]
            rfl
          refine pure_ (i := 2) (N := some 11) (v := ?_) (a' := ?_) #[true, true, true, false, false, false, false, false, false, false, false, false, false, false, false] rfl rfl (any_of HG_.out (by kernel_rfl)) (fun _ _ _ h => h) (Or.inl ⟨by rfl, ?_⟩) ?_ ?_
          rotate_left
          · intro w'
            go_simp
            with_reducible rfl
          rotate_left
          · simp only [Act.put, List.setIfInBounds_toArray, List.set_cons_zero, List.set_cons_succ, i64_w, i32_w]
            rfl
          refine pure_ (i := 3) (N := some 12) (v := undef) (a' := ?_) #[true, true, true, true, false, false, false, false, false, false, false, false, false, false, false] rfl rfl (any_of HG_.out (by kernel_rfl)) (fun _ _ _ h => h) (Or.inr ⟨by rfl, rfl⟩) ?_ ?_
          rotate_left
          · simp only [Act.put, List.setIfInBounds_toArray, List.set_cons_zero, List.set_cons_succ, i64_w, i32_w]
            rfl
          refine pure_ (i := 4) (N := some 13) (v := undef) (a' := ?_) #[true, true, true, true, true, false, false, false, false, false, false, false, false, false, false] rfl rfl (any_of HG_.out (by kernel_rfl)) (fun _ _ _ h => h) (Or.inr ⟨by rfl, rfl⟩) ?_ ?_
          rotate_left
          · simp only [Act.put, List.setIfInBounds_toArray, List.set_cons_zero, List.set_cons_succ, i64_w, i32_w]
            rfl
          refine pure_ (i := 5) (N := some 14) (v := undef) (a' := ?_) #[true, true, true, true, true, true, false, false, false, false, false, false, false, false, false] rfl rfl (any_of HG_.out (by kernel_rfl)) (fun _ _ _ h => h) (Or.inr ⟨by rfl, rfl⟩) ?_ ?_
          rotate_left
          · simp only [Act.put, List.setIfInBounds_toArray, List.set_cons_zero, List.set_cons_succ, i64_w, i32_w]
            rfl
          refine pure_ (i := 6) (N := some 15) (v := undef) (a' := ?_) #[true, true, true, true, true, true, true, false, false, false, false, false, false, false, false] rfl rfl (any_of HG_.out (by kernel_rfl)) (fun _ _ _ h => h) (Or.inr ⟨by rfl, rfl⟩) ?_ ?_
          rotate_left
          · simp only [Act.put, List.setIfInBounds_toArray, List.set_cons_zero, List.set_cons_succ, i64_w, i32_w]
            rfl
          refine pure_ (i := 7) (N := some 16) (v := undef) (a' := ?_) #[true, true, true, true, true, true, true, true, false, false, false, false, false, false, false] rfl rfl (any_of HG_.out (by kernel_rfl)) (fun _ _ _ h => h) (Or.inr ⟨by rfl, rfl⟩) ?_ ?_
          rotate_left
          · simp only [Act.put, List.setIfInBounds_toArray, List.set_cons_zero, List.set_cons_succ, i64_w, i32_w]
            rfl
          refine pure_ (i := 8) (N := some 17) (v := undef) (a' := ?_) #[true, true, true, true, true, true, true, true, true, false, false, false, false, false, false] rfl rfl (any_of HG_.out (by kernel_rfl)) (fun _ _ _ h => h) (Or.inr ⟨by rfl, rfl⟩) ?_ ?_
          rotate_left
          · simp only [Act.put, List.setIfInBounds_toArray, List.set_cons_zero, List.set_cons_succ, i64_w, i32_w]
            rfl
          refine pure_ (i := 9) (N := some 18) (v := undef) (a' := ?_) #[true, true, true, true, true, true, true, true, true, true, false, false, false, false, false] rfl rfl (any_of HG_.out (by kernel_rfl)) (fun _ _ _ h => h) (Or.inr ⟨by rfl, rfl⟩) ?_ ?_
          rotate_left
          · simp only [Act.put, List.setIfInBounds_toArray, List.set_cons_zero, List.set_cons_succ, i64_w, i32_w]
            rfl
          refine pure_ (i := 10) (N := some 19) (v := undef) (a' := ?_) #[true, true, true, true, true, true, true, true, true, true, true, false, false, false, false] rfl rfl (any_of HG_.out (by kernel_rfl)) (fun _ _ _ h => h) (Or.inr ⟨by rfl, rfl⟩) ?_ ?_
          rotate_left
          · simp only [Act.put, List.setIfInBounds_toArray, List.set_cons_zero, List.set_cons_succ, i64_w, i32_w]
            rfl
          refine pure_ (i := 11) (N := some 20) (v := undef) (a' := ?_) #[true, true, true, true, true, true, true, true, true, true, true, true, false, false, false] rfl rfl (any_of HG_.out (by kernel_rfl)) (fun _ _ _ h => h) (Or.inr ⟨by rfl, rfl⟩) ?_ ?_
          rotate_left
          · simp only [Act.put, List.setIfInBounds_toArray, List.set_cons_zero, List.set_cons_succ, i64_w, i32_w]
            rfl
          refine pure_ (i := 12) (N := some 21) (v := undef) (a' := ?_) #[true, true, true, true, true, true, true, true, true, true, true, true, true, false, false] rfl rfl (any_of HG_.out (by kernel_rfl)) (fun _ _ _ h => h) (Or.inr ⟨by rfl, rfl⟩) ?_ ?_
          rotate_left
          · simp only [Act.put, List.setIfInBounds_toArray, List.set_cons_zero, List.set_cons_succ, i64_w, i32_w]
            rfl
          refine pure_ (i := 13) (N := some 22) (v := undef) (a' := ?_) #[true, true, true, true, true, true, true, true, true, true, true, true, true, true, false] rfl rfl (any_of HG_.out (by kernel_rfl)) (fun _ _ _ h => h) (Or.inr ⟨by rfl, rfl⟩) ?_ ?_
          rotate_left
          · simp only [Act.put, List.setIfInBounds_toArray, List.set_cons_zero, List.set_cons_succ, i64_w, i32_w]
            rfl
          refine pure_ (i := 14) (N := some 23) (v := ?_) (a' := ?_) #[true, true, true, true, true, true, true, true, true, true, true, true, true, true, true] rfl rfl (any_of HG_.out (by kernel_rfl)) (fun _ _ _ h => h) (Or.inl ⟨by rfl, ?_⟩) ?_ ?_
          rotate_left
          · intro w'
            go_simp
            with_reducible rfl
          rotate_left
          · simp only [Act.put, List.setIfInBounds_toArray, List.set_cons_zero, List.set_cons_succ, i64_w, i32_w]
            rfl
          refine done_ (done_of HG_.out (by kernel_rfl)) ?_
          try go_wp2
          go_roundg k1
          case measure => have := HK1.out; omega
          case rel => exact ⟨(wrap64 (x6_1 + 1)), (by first | rfl | (simp; done) | (simp [*]; done)), H', ⟨by have := HK1.out; omega⟩, ⟨by repeat (first | (with_reducible first | exact HB.out | apply below_alloc | apply pw_below_drewN | apply below_drew1) | exact HB.out)⟩⟩
      · rw [if_neg c2] at H
        have c2b0 : decide (x6_1 < (l0.length : Int)) = false := decide_eq_false c2
        clear c2
        obtain rfl := Option.some.inj H
        go_wp2
        go_ret
        exact ⟨by first | rfl | (simp [errW_none, errW_some] <;> rfl) | (simp [*, errW_none, errW_some] <;> rfl), by repeat (first | (with_reducible first | exact HB.out | apply below_alloc | apply pw_below_drewN | apply below_drew1) | exact HB.out)⟩

end Go.Proofs.Ytjelhckfncffpaa.PSetofOrder
