-- laid by a program out of the translation and of templates; not trusted: Lean checks it
import Derived.Test.YtcbcojbhbhaimaaDoorWX
import Derived.Lib.Strings
namespace Go.Proofs.YtcbcojbhbhaimaaDoorW.PrintWords
set_option linter.unusedVariables false
set_option linter.unusedSimpArgs false
open Go.RowKit
def OkB (l : List Int) : Prop := ∀ x ∈ l, 0 ≤ x ∧ x < 256
theorem OkB.nil : OkB [] := by intro x hx; cases hx
theorem OkB.cons {x : Int} {l : List Int} (h0 : 0 ≤ x) (h1 : x < 256) (h : OkB l) : OkB (x :: l) := by
 intro y hy
 rcases List.mem_cons.1 hy with rfl | hy
 ·exact ⟨h0, h1⟩
 ·exact h y hy
theorem OkB.head {x : Int} {l : List Int} (h : OkB (x :: l)) : 0 ≤ x ∧ x < 256 := h x (List.mem_cons_self ..)
theorem OkB.tail {x : Int} {l : List Int} (h : OkB (x :: l)) : OkB l := fun y hy => h y (List.mem_cons_of_mem _ hy)
theorem OkB.append {l m : List Int} (h : OkB l) (k : OkB m) : OkB (l ++ m) := by
 intro y hy
 rcases List.mem_append.1 hy with hy | hy
 ·exact h y hy
 ·exact k y hy
theorem OkB.take {l : List Int} (h : OkB l) (n : Nat) : OkB (l.take n) := fun y hy => h y (List.mem_of_mem_take hy)
theorem OkB.drop {l : List Int} (h : OkB l) (n : Nat) : OkB (l.drop n) := fun y hy => h y (List.mem_of_mem_drop hy)
theorem OkB.get {l : List Int} (h : OkB l) (i : Nat) (hi : i < l.length) : 0 ≤ l[i] ∧ l[i] < 256 := h _ (List.getElem_mem hi)
theorem OkB.replicate (n : Nat) : OkB (List.replicate n 0) := by
 intro y hy
 obtain rfl := (List.mem_replicate.1 hy).2
 omega
theorem OkB.set {l : List Int} (h : OkB l) (i : Nat) {x : Int} (h0 : 0 ≤ x) (h1 : x < 256) : OkB (l.set i x) := by
 intro y hy
 rcases List.mem_or_eq_of_mem_set hy with hy | rfl
 ·exact h y hy
 ·exact ⟨h0, h1⟩
theorem OkB.reverse {l : List Int} (h : OkB l) : OkB l.reverse := fun y hy => h y (List.mem_reverse.1 hy)
theorem OkB.one {x : Int} (h0 : 0 ≤ x) (h1 : x < 256) : OkB [x] := OkB.cons h0 h1 OkB.nil
theorem toList_loop (s : ByteArray) (n : Nat) : ∀ (i : Nat) (r : List UInt8), s.size - i = n → ByteArray.toList.loop s i r = r.reverse ++ s.data.toList.drop i := by
 induction n with
 | zero =>
  intro i r h
  rw [ByteArray.toList.loop, if_neg (by omega)]
  rw [List.drop_eq_nil_of_le (by rw [Array.length_toList]; show s.size ≤ i; omega)]; simp
 | succ n ih =>
  intro i r h
  have hlt : i < s.size := by omega
  have hlt' : i < s.data.toList.length := by rw [Array.length_toList]; exact hlt
  rw [ByteArray.toList.loop, if_pos hlt, ih (i + 1) _ (by omega), List.reverse_cons, List.append_assoc, List.drop_eq_getElem_cons hlt']
  have hg : s.get! i = s.data.toList[i] := by
   have hd : i < s.data.size := hlt
   cases s with
   | mk d => simp only [ByteArray.get!]; rw [getElem!_pos d i hd]; simp
  rw [hg]
  rfl
theorem toList_data (s : ByteArray) : s.toList = s.data.toList := by
 unfold ByteArray.toList
 rw [toList_loop s _ 0 [] rfl]
 simp
theorem bytesOf_ok (s : ByteArray) : OkB (bytesOf s) := by
 intro x hx
 simp only [bytesOf, List.mem_map] at hx
 obtain ⟨b, _, rfl⟩ := hx
 have := b.toNat_lt
 omega
theorem strOfNums_bytesOf (s : ByteArray) : strOfNums (bytesOf s) = s := by
 cases s with
 | mk d =>
  simp only [strOfNums, bytesOf, List.map_map]
  have : ((fun n : Int => UInt8.ofNat n.toNat) ∘ fun b : UInt8 => (b.toNat : Int)) = id := by
   funext b
   simp
  rw [this]
  simp
theorem str_nums (s : ByteArray) : ∃ l, OkB l ∧ s = strOfNums l := ⟨bytesOf s, bytesOf_ok s, (strOfNums_bytesOf s).symm⟩
theorem bytesOf_nums {l : List Int} (h : OkB l) : bytesOf (strOfNums l) = l := by
 simp only [strOfNums, bytesOf, List.map_map]
 induction l with
 | nil => rfl
 | cons x l ih =>
  have h1 := h.head
  have := ih h.tail
  simp only [List.map_cons, Function.comp] at this ⊢
  rw [this]
  congr 1
  rw [UInt8.toNat_ofNat']
  omega
theorem nums_size (l : List Int) : (strOfNums l).size = l.length := strOfNums_size l
theorem nums_sizeI (l : List Int) : ((strOfNums l).size : Int) = (l.length : Int) := by rw [strOfNums_size]
theorem nums_inj {l m : List Int} (hl : OkB l) (hm : OkB m) : strOfNums l = strOfNums m ↔ l = m := by
 constructor
 ·intro h
  have := congrArg bytesOf h
  rwa [bytesOf_nums hl, bytesOf_nums hm] at this
 ·rintro rfl
  rfl
theorem nums_toList {l m : List Int} (hl : OkB l) (hm : OkB m) : (strOfNums l).toList = (strOfNums m).toList ↔ l = m := by
 rw [toList_data, toList_data, ← nums_inj hl hm]
 constructor
 ·intro h
  have h2 : (strOfNums l).data = (strOfNums m).data := by rw [← Array.toList_inj]; exact h
  cases hx : strOfNums l
  cases hy : strOfNums m
  rw [hx, hy] at h2
  simp only at h2
  rw [h2]
 ·intro h
  rw [h]
theorem nums_toList_nil (l : List Int) : (strOfNums l).toList = [] ↔ l = [] := by
 rw [toList_data, strOfNums_data]
 simp
theorem str_data_append (a b : ByteArray) : (a ++ b).data.toList = a.data.toList ++ b.data.toList := by
 rw [ByteArray.data_append]
 simp
theorem str_append (l m : List Int) : strOfNums l ++ strOfNums m = strOfNums (l ++ m) := by
 have h : (strOfNums l ++ strOfNums m).data.toList = (strOfNums (l ++ m)).data.toList := by
  rw [str_data_append, strOfNums_data, strOfNums_data, strOfNums_data, List.map_append]
 cases hx : (strOfNums l ++ strOfNums m)
 cases hy : strOfNums (l ++ m)
 rw [hx, hy] at h
 simp only at h
 rw [Array.toList_inj] at h
 rw [h]
theorem str_extract (l : List Int) (a b : Nat) : (strOfNums l).extract a b = strOfNums ((l.drop a).take (b - a)) := by
 have h : ((strOfNums l).extract a b).data.toList = (strOfNums ((l.drop a).take (b - a))).data.toList := by
  rw [Lib.extract_data, strOfNums_data, strOfNums_data, List.map_take, List.map_drop]
 cases hx : ((strOfNums l).extract a b)
 cases hy : strOfNums ((l.drop a).take (b - a))
 rw [hx, hy] at h
 simp only at h
 rw [Array.toList_inj] at h
 rw [h]
theorem nums_nil : (⟨#[]⟩ : ByteArray) = strOfNums [] := rfl
theorem nums_bt {l : List Int} (hl : OkB l) (i : Nat) (h : i < l.length) : bt (strOfNums l) (i : Int) = l[i] := by
 rw [← rd_bytesOf, bytesOf_nums hl]
 simp [rd, List.getD_eq_getElem?_getD, h]
theorem rd_get {l : List Int} (i : Nat) (h : i < l.length) : rd l (i : Int) = l[i] := by
 simp [rd, List.getD_eq_getElem?_getD, h]
theorem rdOf_get {α : Type} (d : α) {l : List α} (i : Nat) (h : i < l.length) : rdOf d l (i : Int) = l[i] := by
 simp [rdOf, List.getD_eq_getElem?_getD, h]
theorem w64 {x : Int} (h0 : -9223372036854775808 ≤ x) (h1 : x ≤ 9223372036854775807) : wrap64 x = x := by unfold wrap64; omega
theorem wu64 {x : Int} (h0 : 0 ≤ x) (h1 : x < 18446744073709551616) : IntKind.u64.wrap x = x := by
 simp only [IntKind.wrap, IntKind.bits, IntKind.signed]; simp; omega
theorem Ev.bindc {α β : Type} {g : Option α} {f : Nat → α → Option β} {a : α} {r : β} (h : g = some a) (k : Ev (fun n => f n a) r) : Ev (fun n => g.bind (f n)) r := by
 subst h
 exact k
theorem Ev.ifp {α : Type} {c : Prop} [Decidable c] {f g : Nat → Option α} {r : α} (h : c) (k : Ev f r) : Ev (fun n => if c then f n else g n) r := by
 simp only [if_pos h]
 exact k
theorem Ev.ifn {α : Type} {c : Prop} [Decidable c] {f g : Nat → Option α} {r : α} (h : ¬ c) (k : Ev g r) : Ev (fun n => if c then f n else g n) r := by
 simp only [if_neg h]
 exact k
theorem Ev.ite {α : Type} {c : Prop} [Decidable c] {f g : Nat → Option α} {r s : α} (k : c → Ev f r) (k' : ¬ c → Ev g s) : Ev (fun n => if c then f n else g n) (if c then r else s) := by
 by_cases h : c
 ·simp only [if_pos h]; exact k h
 ·simp only [if_neg h]; exact k' h
theorem Ev.eq {α : Type} {g : Nat → Option α} {r s : α} (h : Ev g r) (e : r = s) : Ev g s := e ▸ h
theorem Ev.const {α : Type} {g : Option α} {r : α} (h : g = some r) : Ev (fun _ => g) r := ⟨0, fun _ _ => h⟩
end Go.Proofs.YtcbcojbhbhaimaaDoorW.PrintWords
