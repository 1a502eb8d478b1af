-- laid by a program out of the translation and of templates; not trusted: Lean checks it
import Derived.Test.YtcbcojbhbhaimaaDoorWB
import Derived.ChangeArms
import Derived.DataReads
namespace Go.Proofs.YtcbcojbhbhaimaaDoorW.PrintWords
set_option linter.unusedVariables false
open Go.RowKit Go.ChangeShapes Go.WideShapes
def Opens {α : Type} (P : Program) (t : TypeId) (d : Kd α) (G : α → Prop) : Prop :=
 ∀ (H : Type) (enc : TypeId × Value → H) (w : World) (base : Nat) (spare : Nat → Bool) (held : Bool) (fuel : Nat) (cs : List Value) (x : DataW H × List MemPlace),
  DataW.trod enc P w base spare held fuel t cs = some x → ∃ a, d.K w a cs ∧ G a
theorem Opens.imp {α : Type} {P : Program} {t : TypeId} {d : Kd α} {G G' : α → Prop} (h : Opens P t d G) (hg : ∀ a, G a → G' a) : Opens P t d G' := by
 intro H enc w base spare held fuel cs x hx
 obtain ⟨a, ha, hq⟩ := h H enc w base spare held fuel cs x hx
 exact ⟨a, ha, hg a hq⟩
theorem Opens.int {P : Program} {t : TypeId} {k : IntKind} (ht : P.underlying t = some (.int k)) : Opens P t (Kd.int k) (fun n => (Lit.int k n).wf = true) := by
 intro H enc w base spare held fuel cs x hx
 obtain ⟨n, rfl, _, hw⟩ := DataW.trod_int ht hx
 exact ⟨n, rfl, hw⟩
theorem Opens.bool {P : Program} {t : TypeId} (ht : P.underlying t = some .bool) : Opens P t Kd.bool (fun _ => True) := by
 intro H enc w base spare held fuel cs x hx
 obtain ⟨n, rfl, _⟩ := DataW.trod_bool ht hx
 exact ⟨n, rfl, trivial⟩
theorem Opens.string {P : Program} {t : TypeId} (ht : P.underlying t = some .string) : Opens P t Kd.string (fun s => s.size ≤ maxLen) := by
 intro H enc w base spare held fuel cs x hx
 obtain ⟨s, rfl, _, hw⟩ := DataW.trod_string ht hx
 exact ⟨s, rfl, hw⟩
theorem mapM_cells (w : World) (a : Addr) : ∀ (l : List Nat) (cs : List Value), l.mapM (fun i => w.cell? (a.add i)) = some cs → cs.length = l.length ∧ ∀ (i j : Nat) u, l[i]? = some j → cs[i]? = some u → w.cell? (a.add j) = some u
 | [], cs, h => by
  simp at h
  subst h
  exact ⟨rfl, fun i j u h => by simp at h⟩
 | p :: l, cs, h => by
  rw [List.mapM_cons] at h
  cases hc : w.cell? (a.add p) with
  | none => simp [hc] at h
  | some v =>
   cases hr : l.mapM (fun i => w.cell? (a.add i)) with
   | none => simp [hc, hr] at h
   | some cs' =>
    simp [hc, hr] at h
    subst h
    obtain ⟨hl, hf⟩ := mapM_cells w a l cs' hr
    refine ⟨by simp [hl], fun i j u hi hu => ?_⟩
    cases i with
    | zero =>
     simp at hi hu
     subst hi
     subst hu
     exact hc
    | succ i => exact hf i j u (by simpa using hi) (by simpa using hu)
theorem cells_read {w : World} {base : Nat} {a : Addr} {n : Nat} {cs : List Value} (h : w.cells? base a n = some cs) : cs.length = n ∧ ∀ (i : Nat) u, cs[i]? = some u → w.cell? (a.add i) = some u := by
 unfold World.cells? at h
 split at h
 ·obtain ⟨hl, hf⟩ := mapM_cells w a _ cs h
  rw [List.length_range] at hl
  refine ⟨hl, fun i u hu => hf i i u ?_ hu⟩
  have : i < n := by rw [← hl]; exact (List.getElem?_eq_some_iff.1 hu).1
  rw [List.getElem?_range this]
 ·cases h
theorem add_add_ (a : Addr) (m i : Nat) : (a.add m).add i = a.add (m + i) := by
 unfold Addr.add
 by_cases h1 : m = 0
 ·subst h1; simp
 ·by_cases h2 : i = 0
  ·subst h2; simp [h1]
  ·simp [h1, h2, Nat.add_assoc]
theorem exists_list {α : Type} {n : Nat} {Q : Nat → α → Prop} (h : ∀ i, i < n → ∃ a, Q i a) : ∃ l : List α, l.length = n ∧ ∀ (i : Nat) a, l[i]? = some a → Q i a := by
 induction n with
 | zero => exact ⟨[], rfl, fun i a h => by simp at h⟩
 | succ n ih =>
  obtain ⟨l, hl, hq⟩ := ih (fun i hi => h i (by omega))
  obtain ⟨a, ha⟩ := h n (by omega)
  refine ⟨l ++ [a], by simp [hl], fun i b hb => ?_⟩
  by_cases hi : i < n
  ·rw [List.getElem?_append_left (by omega)] at hb
   exact hq i b hb
  ·have hlt := (List.getElem?_eq_some_iff.1 hb).1
   simp at hlt
   obtain rfl : i = n := by omega
   rw [List.getElem?_append_right (by omega)] at hb
   simp [hl] at hb
   subst hb
   exact ha
theorem Opens.slice {α : Type} {P : Program} {t e : TypeId} {d : Kd α} {G : α → Prop} (ht : P.underlying t = some (.slice e)) (hc : P.cellsOf e = d.sz) (h : Opens P e d G) :
 Opens P t (Kd.slice e d) (fun l => l.length ≤ maxLen ∧ ∀ a ∈ l, G a) := by
 intro H enc w base spare held fuel cs x hx
 rcases DataW.trod_slice ht hx with ⟨rfl, _⟩ | ⟨a, len, cap, elems, rest, n, rfl, rfl, _, _, hl, hm, hlen, hel, _⟩
 ·exact ⟨[], ⟨none, 0, rfl, Nat.le_refl _, Kd.C_nil _ _⟩, by simp, fun a ha => by cases ha⟩
 ·have each : ∀ i, i < len → ∃ b, (∃ c, c.length = d.sz ∧ d.K w b c ∧ ∀ j u, c[j]? = some u → w.cell? (a.add (i * d.sz + j)) = some u) ∧ G b := by
   intro i hi
   have h1 := hel i hi
   rw [List.getElem?_eq_getElem (by omega : i < elems.length), Option.bind_eq_some_iff, hc] at h1
   obtain ⟨c, hcs, hy⟩ := h1
   obtain ⟨b, hb, hg⟩ := h H enc w base spare held n c _ hy
   obtain ⟨hcl, hcc⟩ := cells_read hcs
   exact ⟨b, ⟨c, hcl, hb, fun j u hu => by rw [← add_add_]; exact hcc j u hu⟩, hg⟩
  obtain ⟨l, hll, hq⟩ := exists_list each
  refine ⟨l, ⟨some a, cap, by rw [hll], by omega, rfl, by unfold maxLen at hm; omega, fun hp => ⟨a, rfl, fun j p hj => (hq j p hj).1⟩⟩, by omega, fun b hb => ?_⟩
  obtain ⟨i, hi⟩ := List.getElem?_of_mem hb
  exact (hq i b hi).2
def OpensF {α : Type} (P : Program) (fs : List Field) (off : Nat) (d : Kd α) (G : α → Prop) : Prop :=
 ∀ (H : Type) (enc : TypeId × Value → H) (w : World) (base : Nat) (spare : Nat → Bool) (held : Bool) (n : Nat) (cs : List Value),
  off + d.sz ≤ cs.length → (∀ f ∈ fs, ∃ y, DataW.trod enc P w base spare held n f.type ((cs.drop f.offset).take (P.cellsOf f.type)) = some y) → ∃ a, d.K w a ((cs.drop off).take d.sz) ∧ G a
theorem OpensF.last {α : Type} {P : Program} {f : Field} {off : Nat} {d : Kd α} {G : α → Prop} (ho : f.offset = off) (hc : P.cellsOf f.type = d.sz) (h : Opens P f.type d G) : OpensF P [f] off d G := by
 intro H enc w base spare held n cs hl hf
 obtain ⟨y, hy⟩ := hf f (by simp)
 rw [ho, hc] at hy
 exact h H enc w base spare held n _ y hy
theorem OpensF.cons {α β : Type} {P : Program} {f : Field} {fs : List Field} {off : Nat} {d : Kd α} {e : Kd β} {G : α → Prop} {G' : β → Prop} (ho : f.offset = off) (hc : P.cellsOf f.type = d.sz) (h : Opens P f.type d G) (hr : OpensF P fs (off + d.sz) e G') :
 OpensF P (f :: fs) off (Kd.pair d e) (fun p => G p.1 ∧ G' p.2) := by
 intro H enc w base spare held n cs hl hf
 have hl' : off + (d.sz + e.sz) ≤ cs.length := hl
 obtain ⟨y, hy⟩ := hf f (by simp)
 rw [ho, hc] at hy
 obtain ⟨a, ha, hg⟩ := h H enc w base spare held n _ y hy
 obtain ⟨b, hb, hg'⟩ := hr H enc w base spare held n cs (by omega) (fun g hg => hf g (by simp [hg]))
 refine ⟨(a, b), ⟨_, _, ?_, ha, hb⟩, hg, hg'⟩
 show (cs.drop off).take (d.sz + e.sz) = _
 rw [List.take_add, List.drop_drop]
theorem Opens.struct {α β : Type} {P : Program} {t : TypeId} {fs : Array Field} {d : Kd α} {G : α → Prop} (ht : P.underlying t = some (.struct fs)) (hc : P.cellsOf t = d.sz) (h : OpensF P fs.toList 0 d G) (f : β → α) (g : α → β) (hfg : ∀ a, f (g a) = a) :
 Opens P t (Kd.iso d f) (fun b => G (f b)) := by
 intro H enc w base spare held fuel cs x hx
 obtain ⟨xs, n, _, _, hl, hlen, hf⟩ := DataW.trod_struct ht hx
 obtain ⟨a, ha, hg⟩ := h H enc w base spare held n cs (by omega) (fun q hq => by
  obtain ⟨i, hi⟩ := List.getElem?_of_mem hq
  have hi' : fs[i]? = some q := by simpa using hi
  have hlt : i < xs.length := by
   have := (List.getElem?_eq_some_iff.1 hi).1
   simp at this
   omega
  exact ⟨xs[i], by rw [hf i q hi', List.getElem?_eq_getElem hlt]⟩)
 rw [List.drop_zero, List.take_of_length_le (by omega)] at ha
 exact ⟨g a, by show d.K w (f (g a)) cs; rw [hfg]; exact ha, by show G (f (g a)); rw [hfg]; exact hg⟩
theorem Opens.get {α : Type} {P : Program} {t : TypeId} {d : Kd α} {G : α → Prop} (h : Opens P t d G) {H : Type} {enc : TypeId × Value → H} {w : World} {base : Nat} {spare : Nat → Bool} {held : Bool} {v : Value} {x : DataW H} {ps : List MemPlace}
 (hx : DataW.Trod enc P w base spare held t v x ps) : ∃ a, d.K w a v.cells.toList ∧ G a := by
 obtain ⟨fuel, hf⟩ := hx
 exact h H enc w base spare held fuel _ _ hf
end Go.Proofs.YtcbcojbhbhaimaaDoorW.PrintWords
