import Derived.Laws.OwnMore
import Derived.Below
import Derived.KernelRfl
import Derived.LoopN
import Derived.Scope
import Derived.WalkKit
import Derived.Laws.FloatArith
import Derived.Laws.ComplexArith
import Derived.Deep.MidRow
import Derived.Laws.BytesArg
import Derived.Laws.IdiomStrings
import Derived.Conc.MuLone
import Derived.Laws.RangeAny
import Derived.Laws.StructEq
import Derived.ScopeJumps
import Derived.OrdersHeld
import Derived.StillTail
import Derived.RangeFuncLeaves
import Derived.ChangeArms
import Derived.DataReads
import Derived.Laws.BitsLemmas
import Derived.Lib.Strings
set_option linter.unusedSectionVars false
set_option linter.unusedSimpArgs false
set_option linter.unusedVariables false
namespace Go.Rf
open Go.RowKit
section
inductive V where
 | lit (v:Value)
 | row (o:Option TypeId) (sz:Nat) (es:List V)
 | agg (cs:List V)
 | tup (cs:List V)
 | pt (cs:List V)
 | iface (t:TypeId) (d:V)
 | any
 | nil (e sz:Nat)
 | kb (b:Bool)
 | clo (f:FuncId) (cs:List V)
 deriving Inhabited
def V.cells:V→List V
 | .agg cs=>cs
 | d=>[d]
abbrev Pub:=Nat→Prop
def Away (fz:Nat × Nat) (n:Nat):Prop:=fz.2=0∨n≤fz.1
def OwnR (w:World) (base:Nat) (e:TypeId) (size:Nat) (v:Value) (n:Nat) (xs:List Value):Prop :=
 xs.length=n*size ∧
 ((v=.slice none 0 0∧n=0) ∨
  ∃ g cap cur,v=.slice (some ⟨g,0,none⟩) n cap∧base≤g∧(∃ fz,w.heap[g]? = some (.cells cur e fz)∧Away fz cur.size)∧n≤cap∧cap≤maxLen∧cur.size=cap*size∧cur.toList.take (n*size)=xs)
theorem OwnR.of {w:World} {base e size n:Nat} {v:Value} {xs:List Value} (h:w.ownsRow base e size v n xs):OwnR w base e size v n xs:=by
 refine ⟨h.1,?_⟩
 rcases h.2 with h | ⟨g,cap,cur,a,b,c,d⟩
 ·exact .inl h
 ·exact .inr ⟨g,cap,cur,a,b,⟨(0,0),c,.inl rfl⟩,d⟩
theorem OwnR.nil (w:World) (base e size:Nat):OwnR w base e size (.slice none 0 0) 0 []:=.of (World.ownsRow_nil w base e size)
theorem OwnR.cells {w:World} {base e size n:Nat} {v:Value} {xs:List Value} (h:OwnR w base e size v n xs) {g:Nat} (hg:v.ownBlock=some g):∀ j u,xs[j]? = some u→w.cell? ((⟨g,0,none⟩:Addr).add j)=some u:=by
 intro j u hu
 rcases h.2 with ⟨rfl,_⟩ | ⟨g',cap,cur,rfl,_,⟨fz,hgg,_⟩,_,_,_,htake⟩
 ·simp [Value.ownBlock] at hg
 ·simp [Value.ownBlock] at hg
  subst hg
  have hadd:(⟨g',0,none⟩:Addr).add j=⟨g',j,none⟩:=by unfold Addr.add;split<;>simp_all
  rw [hadd,cell_of_row w g' j cur e fz hgg]
  rw [← htake,List.getElem?_take] at hu
  split at hu
  ·simpa using hu
  ·cases hu
theorem OwnR.cellAt {w:World} {base e size n g cap:Nat} {xs:List Value} (h:OwnR w base e size (.slice (some ⟨g,0,none⟩) n cap) n xs) (j:Nat) (hj:j < n*size):w.cell? ⟨g,j,none⟩=xs[j]?:=by
 have hl:j < xs.length:=by rw [h.1];exact hj
 have:=h.cells (g:=g) rfl j xs[j] (List.getElem?_eq_getElem hl)
 have hadd:(⟨g,0,none⟩:Addr).add j=⟨g,j,none⟩:=by unfold Addr.add;split<;>simp_all
 rw [hadd] at this
 rw [this,List.getElem?_eq_getElem hl]
mutual
inductive Rep (p:Pub) (w:World):Value→V→List Nat→Prop
 | lit (u:Value):Rep p w u (.lit u) []
 | any (u:Value):Rep p w u .any []
 | nil (e sz:Nat):Rep p w (.slice none 0 0) (.nil e sz) []
 | kb (b:Bool):Rep p w (.bool b) (.kb b) []
 | shared {sz:Nat} {es:List V} {ao:Option Addr} {cap:Nat} {xs:List Value}:es.length≤cap→(∀ e∈es,e.cells.length=sz)→RepL p w xs (es.flatMap V.cells) []→(∀ u∈xs,u.oneCell'=true) →
  (∀ j u,xs[j]? = some u→∃ b o,ao=some ⟨b,o,none⟩∧p b∧w.cell? ⟨b,o+j,none⟩=some u)→Rep p w (.slice ao es.length cap) (.row none sz es) []
 | own {e sz:Nat} {es:List V} {v:Value} {xs:List Value} {A:List Nat}:(∀ e∈es,e.cells.length=sz)→RepL p w xs (es.flatMap V.cells) A→(∀ u∈xs,u.oneCell'=true) →
  OwnR w 0 e sz v es.length xs→Rep p w v (.row (some e) sz es) (v.ownBlock.toList++A)
 | agg {vs:List Value} {cs:List V} {T:List Nat}:RepL p w vs cs T→Rep p w (.agg vs.toArray) (.agg cs) T
 | tup {vs:List Value} {cs:List V} {T:List Nat}:RepL p w vs cs T→Rep p w (.tuple vs.toArray) (.tup cs) T
 | pt {b o:Nat} {cs:List V} {xs:List Value}:RepL p w xs cs []→(∀ u∈xs,u.oneCell'=true)→p b→(∀ j u,xs[j]? = some u→w.cell? ⟨b,o+j,none⟩=some u) →
  Rep p w (.pointer (some ⟨b,o,none⟩)) (.pt cs) []
 | iface {t:TypeId} {v:Value} {d:V} {T:List Nat}:Rep p w v d T→Rep p w (.iface t v) (.iface t d) T
 | clo {f:FuncId} {vs:List Value} {cs:List V}:RepL p w vs cs []→Rep p w (.func (.func f) #[] vs.toArray) (.clo f cs) []
inductive RepL (p:Pub) (w:World):List Value→List V→List Nat→Prop
 | nil:RepL p w [] [] []
 | cons {v:Value} {d:V} {vs:List Value} {ds:List V} {A B:List Nat}:Rep p w v d A→RepL p w vs ds B→RepL p w (v :: vs) (d :: ds) (A++B)
end
structure Keeps (p p':Pub) (w w':World):Prop where
 pub:∀ b,p b→p' b
 same:∀ b,p b→w'.heap[b]? = w.heap[b]?
theorem cell?_same {w w':World} {b o:Nat} (h:w'.heap[b]? = w.heap[b]?):w'.cell? ⟨b,o,none⟩=w.cell? ⟨b,o,none⟩:=World.cell?_of_block (w:=w) h
theorem ownsRow_same {w w':World} {base e size n:Nat} {v:Value} {xs:List Value} (h:OwnR w base e size v n xs) (hs:∀ b∈v.ownBlock.toList,w'.heap[b]? = w.heap[b]?):OwnR w' base e size v n xs:=by
 obtain ⟨h1,h2⟩:=h
 refine ⟨h1,?_⟩
 rcases h2 with h2 | ⟨g,cap,cur,hv,hg,hh,r⟩
 ·exact .inl h2
 ·refine .inr ⟨g,cap,cur,hv,hg,?_,r⟩
  rw [hs g (by subst hv;simp [Value.ownBlock])];exact hh
mutual
theorem Rep.keep {p p':Pub} {w w':World} {v:Value} {d:V} {T:List Nat} (k:Keeps p p' w w'):Rep p w v d T→(∀ b∈T,w'.heap[b]? = w.heap[b]?)→Rep p' w' v d T
 | .lit u,_=>.lit u
 | .any u,_=>.any u
 | .nil e sz,_=>.nil e sz
 | .kb b,_=>.kb b
 | .shared h0 h1 h2 h3 h4,_=>.shared h0 h1 (h2.keep k (fun _ h=>by cases h)) h3 (fun j u hj=>let ⟨b,o,e1,e2,e3⟩:=h4 j u hj;⟨b,o,e1,k.pub _ e2,(cell?_same (k.same _ e2)).trans e3⟩)
 | .own h1 h2 h3 h4,hT=>.own h1 (h2.keep k (fun b hb=>hT b (List.mem_append_right _ hb))) h3 (ownsRow_same h4 (fun b hb=>hT b (List.mem_append_left _ hb)))
 | .agg h,hT=>.agg (h.keep k hT)
 | .tup h,hT=>.tup (h.keep k hT)
 | .pt h1 h2 h3 h4,_=>.pt (h1.keep k (fun _ h=>by cases h)) h2 (k.pub _ h3) (fun j u hj=>(cell?_same (k.same _ h3)).trans (h4 j u hj))
 | .iface h,hT=>.iface (h.keep k hT)
 | .clo h,_=>.clo (h.keep k (fun _ h=>by cases h))
theorem RepL.keep {p p':Pub} {w w':World} {vs:List Value} {ds:List V} {T:List Nat} (k:Keeps p p' w w'):RepL p w vs ds T→(∀ b∈T,w'.heap[b]? = w.heap[b]?)→RepL p' w' vs ds T
 | .nil,_=>.nil
 | .cons h1 h2,hT=>.cons (h1.keep k (fun b hb=>hT b (List.mem_append_left _ hb))) (h2.keep k (fun b hb=>hT b (List.mem_append_right _ hb)))
end
theorem Keeps.refl (p:Pub) (w:World):Keeps p p w w:=⟨fun _ h=>h,fun _ _=>rfl⟩
theorem Keeps.trans {p1 p2 p3:Pub} {w1 w2 w3:World} (h:Keeps p1 p2 w1 w2) (k:Keeps p2 p3 w2 w3):Keeps p1 p3 w1 w3 :=
 ⟨fun b hb=>k.pub _ (h.pub _ hb),fun b hb=>(k.same b (h.pub b hb)).trans (h.same b hb)⟩
mutual
def V.shr:V→V
 | .row _ sz es=>.row none sz (shrL es)
 | .agg cs=>.agg (shrL cs)
 | .tup cs=>.tup (shrL cs)
 | .iface t d=>.iface t d.shr
 | .lit v=>.lit v
 | .pt cs=>.pt cs
 | .any=>.any
 | .nil e sz=>.nil e sz
 | .kb b=>.kb b
 | .clo f cs=>.clo f cs
def shrL:List V→List V
 | []=>[]
 | d :: ds=>d.shr :: shrL ds
end
theorem shrL_eq:∀ l:List V,shrL l=l.map V.shr
 | []=>by simp [shrL]
 | d :: ds=>by simp [shrL,shrL_eq ds]
theorem V.shr_cells (d:V):d.shr.cells=d.cells.map V.shr:=by cases d<;>simp [V.shr,V.cells,shrL_eq]
theorem flat_shr (es:List V):(shrL es).flatMap V.cells=shrL (es.flatMap V.cells):=by
 rw [shrL_eq,shrL_eq]
 induction es with
 | nil=>rfl
 | cons e es ih=>simp only [List.map_cons,List.flatMap_cons,List.map_append,ih,V.shr_cells]
def Pub.share (p:Pub) (T:List Nat):Pub:=fun b=>p b∨b∈T
theorem Keeps.share (p:Pub) (w:World) (T:List Nat):Keeps p (p.share T) w w:=⟨fun _ h=>.inl h,fun _ _=>rfl⟩
theorem RepL.app {p:Pub} {w:World}:∀ {vs us:List Value} {cs ds:List V} {A B:List Nat},RepL p w vs cs A→RepL p w us ds B→RepL p w (vs++us) (cs++ds) (A++B)
 | _,_,_,_,_,_,.nil,h=>h
 | _,_,_,_,_,_,.cons h1 h2,h=>by rw [List.append_assoc];exact .cons h1 (h2.app h)
mutual
theorem Rep.share {p:Pub} {w:World} {S:List Nat} {v:Value} {d:V} {T:List Nat}:Rep p w v d T→(∀ b∈T,b∈S)→Rep (p.share S) w v d.shr []
 | .lit u,_=>.lit u
 | .any u,_=>.any u
 | .nil e sz,_=>.nil e sz
 | .kb b,_=>.kb b
 | .shared (sz:=sz) (es:=es) (xs:=xs) h0 h1 h2 h3 h4,hT=>by
  have k:=h2.share (S:=S) (fun _ h=>by cases h)
  have hl:es.length=(shrL es).length:=by simp [shrL_eq]
  rw [V.shr,hl]
  exact .shared (by rw [← hl];exact h0) (by simp only [shrL_eq,List.mem_map];rintro e ⟨e',he,rfl⟩;rw [V.shr_cells,List.length_map];exact h1 e' he) (by rw [flat_shr];exact k) h3
   (fun j u hj=>let ⟨b,o,e1,e2,e3⟩:=h4 j u hj;⟨b,o,e1,.inl e2,e3⟩)
 | .own (e:=e) (sz:=sz) (es:=es) (v:=v) (xs:=xs) (A:=A) h1 h2 h3 h4,hT=>by
  have k:=h2.share (S:=S) (fun b hb=>hT b (List.mem_append_right _ hb))
  have hl:es.length=(shrL es).length:=by simp [shrL_eq]
  have h5:=h4
  obtain ⟨hx,h6⟩:=h4
  rcases h6 with ⟨rfl,hn⟩ | ⟨gb,cap,cur,rfl,hg,hh,r⟩
  ·have hes:es=[]:=List.eq_nil_of_length_eq_zero hn
   subst hes
   have hx0:xs=[]:=List.eq_nil_of_length_eq_zero (by simpa using hx)
   subst hx0
   exact .shared (es:=[]) (xs:=[]) (Nat.zero_le _) (by simp) .nil (by simp) (by simp)
  ·rw [V.shr,hl]
   refine .shared (by rw [← hl];exact r.1) (by simp only [shrL_eq,List.mem_map];rintro e ⟨e',he,rfl⟩;rw [V.shr_cells,List.length_map];exact h1 e' he) (by rw [flat_shr];exact k) h3 ?_
   intro j u hj
   refine ⟨gb,0,rfl,.inr (hT gb (by simp [Value.ownBlock])),?_⟩
   have hjl:j < xs.length:=by
    rcases Nat.lt_or_ge j xs.length with h | h
    ·exact h
    ·rw [List.getElem?_eq_none h] at hj;cases hj
   rw [Nat.zero_add,h5.cellAt j (by rw [← hx];exact hjl)]
   exact hj
 | .agg h,hT=>by rw [V.shr];exact .agg (h.share hT)
 | .tup h,hT=>by rw [V.shr];exact .tup (h.share hT)
 | .pt h1 h2 h3 h4,_=>.pt (h1.keep (Keeps.share p w S) (fun _ h=>by cases h)) h2 (.inl h3) h4
 | .iface h,hT=>.iface (h.share hT)
 | .clo h,_=>.clo (h.keep (Keeps.share p w S) (fun _ h=>by cases h))
theorem RepL.share {p:Pub} {w:World} {S:List Nat} {vs:List Value} {ds:List V} {T:List Nat}:RepL p w vs ds T→(∀ b∈T,b∈S)→RepL (p.share S) w vs (shrL ds) []
 | .nil,_=>.nil
 | .cons h1 h2,hT=>RepL.cons (A:=[]) (B:=[]) (h1.share (fun b hb=>hT b (List.mem_append_left _ hb))) (h2.share (fun b hb=>hT b (List.mem_append_right _ hb)))
end
theorem RepL.length {p:Pub} {w:World}:∀ {vs:List Value} {ds:List V} {T:List Nat},RepL p w vs ds T→vs.length=ds.length
 | _,_,_,.nil=>rfl
 | _,_,_,.cons _ h=>by simp [h.length]
mutual
inductive Fit:V→V→Prop
 | refl (d:V):Fit d d
 | nilO (e sz:Nat):Fit (.nil e sz) (.row (some e) sz [])
 | nilS (e sz sz':Nat):Fit (.nil e sz) (.row none sz' [])
 | agg {cs ds:List V}:FitL cs ds→Fit (.agg cs) (.agg ds)
 | tup {cs ds:List V}:FitL cs ds→Fit (.tup cs) (.tup ds)
 | row {o:Option TypeId} {sz:Nat} {es es':List V}:FitL es es'→Fit (.row o sz es) (.row o sz es')
inductive FitL:List V→List V→Prop
 | nil:FitL [] []
 | cons {c d:V} {cs ds:List V}:Fit c d→FitL cs ds→FitL (c :: cs) (d :: ds)
end
theorem FitL.refl:∀ l:List V,FitL l l
 | []=>.nil
 | c :: cs=>.cons (.refl c) (FitL.refl cs)
theorem FitL.eq {l m:List V} (h:l=m):FitL l m:=h ▸ FitL.refl l
theorem FitL.app:∀ {a b c d:List V},FitL a b→FitL c d→FitL (a++c) (b++d)
 | _,_,_,_,.nil,h=>h
 | _,_,_,_,.cons f g,h=>.cons f (g.app h)
theorem FitL.length:∀ {a b:List V},FitL a b→a.length=b.length
 | _,_,.nil=>rfl
 | _,_,.cons _ g=>by simp [g.length]
theorem Fit.cells {c d:V} (h:Fit c d):FitL c.cells d.cells:=by
 cases h with
 | refl=>exact FitL.refl _
 | nilO e sz=>exact .cons (.nilO e sz) .nil
 | nilS e sz sz'=>exact .cons (.nilS e sz sz') .nil
 | agg f=>exact f
 | tup f=>exact .cons (.tup f) .nil
 | row f=>exact .cons (.row f) .nil
theorem FitL.flat:∀ {a b:List V},FitL a b→FitL (a.flatMap V.cells) (b.flatMap V.cells)
 | _,_,.nil=>.nil
 | _,_,.cons f g=>by simp only [List.flatMap_cons];exact f.cells.app g.flat
theorem FitL.sizes {sz:Nat}:∀ {a b:List V},FitL a b→(∀ e∈a,e.cells.length=sz)→∀ e∈b,e.cells.length=sz
 | _,_,.nil,h=>h
 | _,_,.cons f g,h=>by
  intro e he
  rcases List.mem_cons.1 he with rfl | he
  ·rw [← f.cells.length];exact h _ (by simp)
  ·exact g.sizes (fun e he=>h e (by simp [he])) e he
theorem RepL.split {p:Pub} {w:World}:∀ {cs ds:List V} {vs:List Value} {T:List Nat},RepL p w vs (cs++ds) T→∃ us ws A B,vs=us++ws∧T=A++B∧RepL p w us cs A∧RepL p w ws ds B
 | [],ds,vs,T,h=>⟨[],vs,[],T,rfl,rfl,.nil,h⟩
 | c :: cs,ds,_,_,.cons (v:=v) (A:=A) h1 h2=>by
  obtain ⟨us,ws,A',B',e1,e2,h3,h4⟩:=RepL.split h2
  exact ⟨v :: us,ws,A++A',B',by rw [e1];rfl,by rw [e2,List.append_assoc],.cons h1 h3,h4⟩
theorem Rep.rowMap {p:Pub} {w:World} {v:Value} {o:Option TypeId} {sz:Nat} {es es':List V} {T:List Nat} (hl:es.length=es'.length) (hs:(∀ e∈es,e.cells.length=sz)→∀ e∈es',e.cells.length=sz)
 (hc:∀ xs T,RepL p w xs (es.flatMap V.cells) T→RepL p w xs (es'.flatMap V.cells) T) (h:Rep p w v (.row o sz es) T):Rep p w v (.row o sz es') T:=by
 cases h with
 | shared h0 h1 h2 h3 h4=>rw [hl] at h0 ⊢;exact .shared h0 (hs h1) (hc _ _ h2) h3 h4
 | own h1 h2 h3 h4=>rw [hl] at h4;exact .own (hs h1) (hc _ _ h2) h3 h4
theorem Rep.fitO {p:Pub} {w:World} {v:Value} {e sz:Nat} {T:List Nat} (h:Rep p w v (.nil e sz) T):Rep p w v (.row (some e) sz []) T:=by
 cases h
 exact Rep.own (A:=[]) (xs:=[]) (v:=.slice none 0 0) (by simp) .nil (by simp) (OwnR.nil w 0 e sz)
theorem Rep.fitS {p:Pub} {w:World} {v:Value} {e sz sz':Nat} {T:List Nat} (h:Rep p w v (.nil e sz) T):Rep p w v (.row none sz' []) T:=by
 cases h
 exact .shared (es:=[]) (xs:=[]) (Nat.zero_le _) (by simp) .nil (by simp) (by simp)
mutual
theorem Rep.fit {p:Pub} {w:World} {v:Value} {d d':V} {T:List Nat} (h:Rep p w v d T):Fit d d'→Rep p w v d' T
 | .refl _=>h
 | .nilO e sz=>h.fitO
 | .nilS e sz sz'=>h.fitS
 | .agg f=>by
  cases h with | agg h=>exact .agg (h.fit f)
 | .tup f=>by
  cases h with | tup h=>exact .tup (h.fit f)
 | .row f=>h.rowMap f.length f.sizes (fun _ _ h=>h.fitF f)
theorem RepL.fit {p:Pub} {w:World} {vs:List Value} {ds ds':List V} {T:List Nat} (h:RepL p w vs ds T):FitL ds ds'→RepL p w vs ds' T
 | .nil=>h
 | .cons f g=>by
  cases h with | cons h1 h2=>exact .cons (h1.fit f) (h2.fit g)
theorem RepL.fitC {p:Pub} {w:World} {vs:List Value} {d d':V} {T:List Nat} (h:RepL p w vs d.cells T):Fit d d'→RepL p w vs d'.cells T
 | .refl _=>h
 | .nilO e sz=>by cases h with | cons h1 h2=>exact .cons h1.fitO h2
 | .nilS e sz sz'=>by cases h with | cons h1 h2=>exact .cons h1.fitS h2
 | .agg f=>RepL.fit h f
 | .tup f=>by
  cases h with | cons h1 h2=>cases h1 with | tup h1=>exact .cons (.tup (h1.fit f)) h2
 | .row f=>by
  cases h with | cons h1 h2=>exact .cons (h1.rowMap f.length f.sizes (fun _ _ h=>h.fitF f)) h2
theorem RepL.fitF {p:Pub} {w:World} {vs:List Value} {ds ds':List V} {T:List Nat} (h:RepL p w vs (ds.flatMap V.cells) T):FitL ds ds'→RepL p w vs (ds'.flatMap V.cells) T
 | .nil=>h
 | .cons f g=>by
  rw [List.flatMap_cons] at h ⊢
  obtain ⟨us,ws,A,B,rfl,rfl,h1,h2⟩:=h.split
  exact (h1.fitC f).app (h2.fitF g)
end
end
section
inductive Root where
 | t (x:Nat)
 | b (id c:Nat)
 deriving DecidableEq,Inhabited
inductive Pl where
 | top (r:Root)
 | elt (r:Root) (sz i j:Nat)
 deriving Inhabited
def Pl.root:Pl→Root
 | .top r=>r
 | .elt r _ _ _=>r
inductive D where
 | v (x:V)
 | ptr (id off:Nat)
 | agg (cs:List D)
 | tup (cs:List D)
 | fn (f:FuncId) (cap:List D)
 deriving Inhabited
inductive X where
 | d (x:D)
 | al (p:Pl)
 | pa (r:Root) (sz i j:Nat)
 | dead
 deriving Inhabited
inductive Box where
 | cells (cs:List D)
 | iter (s:ByteArray) (pos:Nat)
 | gone
 deriving Inhabited
structure St where
 env:List (Nat × X)
 box:List Box
 deriving Inhabited
structure G where
 pub:Pub
 own:Nat→Option (Nat ⊕ Nat)
 n:Nat
 loc:Nat→Nat
 TE:Nat→List Nat
 TB:Nat→List Nat
def Root.holder:Root→Nat ⊕ Nat
 | .t x=>.inl x
 | .b id _=>.inr id
mutual
inductive RepD (g:G) (w:World):Value→D→List Nat→Prop
 | v {u:Value} {x:V} {T:List Nat}:Rep g.pub w u x T→RepD g w u (.v x) T
 | ptr {id off:Nat}:id < g.n→RepD g w (.pointer (some ⟨g.loc id,off,none⟩)) (.ptr id off) []
 | agg {vs:List Value} {cs:List D} {T:List Nat}:RepDL g w vs cs T→RepD g w (.agg vs.toArray) (.agg cs) T
 | tup {vs:List Value} {cs:List D} {T:List Nat}:RepDL g w vs cs T→RepD g w (.tuple vs.toArray) (.tup cs) T
 | fn {f:FuncId} {vs:List Value} {cs:List D} {T:List Nat}:RepDL g w vs cs T→RepD g w (.func (.func f) #[] vs.toArray) (.fn f cs) T
inductive RepDL (g:G) (w:World):List Value→List D→List Nat→Prop
 | nil:RepDL g w [] [] []
 | cons {v:Value} {d:D} {vs:List Value} {ds:List D} {A B:List Nat}:RepD g w v d A→RepDL g w vs ds B→RepDL g w (v :: vs) (d :: ds) (A++B)
end
structure KeepsG (g g':G) (w w':World):Prop where
 pub:∀ b,g.pub b→g'.pub b
 n:g.n≤g'.n
 loc:∀ i,i < g.n→g'.loc i=g.loc i
 same:∀ b,g.pub b→w'.heap[b]? = w.heap[b]?
theorem KeepsG.k {g g':G} {w w':World} (h:KeepsG g g' w w'):Keeps g.pub g'.pub w w':=⟨h.pub,h.same⟩
mutual
theorem RepD.keep {g g':G} {w w':World} {v:Value} {d:D} {T:List Nat} (k:KeepsG g g' w w'):RepD g w v d T→(∀ b∈T,w'.heap[b]? = w.heap[b]?)→RepD g' w' v d T
 | .v h,hT=>.v (h.keep k.k hT)
 | .ptr h,_=>by rw [← k.loc _ h];exact .ptr (Nat.lt_of_lt_of_le h k.n)
 | .agg h,hT=>.agg (h.keep k hT)
 | .tup h,hT=>.tup (h.keep k hT)
 | .fn h,hT=>.fn (h.keep k hT)
theorem RepDL.keep {g g':G} {w w':World} {vs:List Value} {ds:List D} {T:List Nat} (k:KeepsG g g' w w'):RepDL g w vs ds T→(∀ b∈T,w'.heap[b]? = w.heap[b]?)→RepDL g' w' vs ds T
 | .nil,_=>.nil
 | .cons h1 h2,hT=>.cons (h1.keep k (fun b hb=>hT b (List.mem_append_left _ hb))) (h2.keep k (fun b hb=>hT b (List.mem_append_right _ hb)))
end
mutual
def D.shr:D→D
 | .v x=>.v x.shr
 | .agg cs=>.agg (shrDL cs)
 | .tup cs=>.tup (shrDL cs)
 | .fn f b=>.fn f (shrDL b)
 | .ptr i o=>.ptr i o
def shrDL:List D→List D
 | []=>[]
 | d :: ds=>d.shr :: shrDL ds
end
def pvR (g:G) (a:Act) (w:World):Root→Option Value
 | .t x=>a.tmps[x]?
 | .b id c=>if id < g.n∧g.own (g.loc id)=some (.inr id) then w.cell? ⟨g.loc id,c,none⟩ else none
def pv (g:G) (a:Act) (w:World):Pl→Option Value
 | .top r=>pvR g a w r
 | .elt r sz i j=>match (pvR g a w r).bind Value.ownBlock with
  | some b=>if g.own b=some r.holder then w.cell? ⟨b,i*sz+j,none⟩ else none
  | none=>none
def XRep (g:G) (a:Act) (w:World) (v:Value) (x:X) (T:List Nat):Prop :=
 match x with
 | .d d=>RepD g w v d T
 | .al p=>T=[]∧pv g a w p=some v
 | .pa r sz i j=>T=[]∧∃ b,(pvR g a w r).bind Value.ownBlock=some b∧g.own b=some r.holder∧v=.pointer (some ⟨b,i*sz+j,none⟩)
 | .dead=>True
def BRep (g:G) (w:World) (l:Nat) (b:Box) (T:List Nat):Prop :=
 match b with
 | .cells cs=>∃ cur e A,T=l :: A∧w.heap[l]? = some (.cells cur e (0,0))∧RepDL g w cur.toList cs A∧∀ u∈cur.toList,u.oneCell'=true
 | .iter s pos=>T=[l]∧w.heap[l]? = some (.stringIter s pos)
 | .gone=>T=[]
def look:List (Nat × X)→Nat→Option X
 | [],_=>none
 | (k,x) :: l,t=>match Nat.beq t k with
  | true=>some x
  | false=>look l t
def X.kill (r:Root→Bool):X→X
 | .al p=>match r p.root with
  | true=>.dead
  | false=>.al p
 | .pa q sz i j=>match r q with
  | true=>.dead
  | false=>.pa q sz i j
 | x=>x
def kill (r:Root→Bool):List (Nat × X)→List (Nat × X)
 | []=>[]
 | (k,x) :: l=>(k,x.kill r) :: kill r l
def isT (d:Nat):Root→Bool
 | .t x=>Nat.beq x d
 | .b _ _=>false
def isB (i:Nat):Root→Bool
 | .t _=>false
 | .b id _=>Nat.beq id i
def putE (l:List (Nat × X)) (d:Nat) (x:X):List (Nat × X):=(d,x) :: kill (isT d) l
class Tabs where
 t:Pub→World→Prop
 s:∀ {p p':Pub} {w w':World},Keeps p p' w w'→t p w→t p' w'
variable [Tabs]
structure Ctx where
 W:World
 p0:Pub
 Fz:Nat→Prop
 N:Nat
 L:List Nat:=[]
structure SRep (C:Ctx) (g:G) (st:St) (a:Act) (w:World):Prop where
 defers:a.defers=[]
 tmps:a.tmps.size=C.N
 os:w.os=C.W.os
 tape:w.tape=C.W.tape
 output:w.output=C.W.output
 size:C.W.heap.size≤w.heap.size
 frame:∀ b,b < C.W.heap.size→¬ C.Fz b→w.heap[b]? = C.W.heap[b]?
 pub:∀ b,g.pub b→C.p0 b∨C.W.heap.size≤b∨C.Fz b
 publt:∀ b,g.pub b→b < w.heap.size
 n:g.n=st.box.length
 env:∀ t x,look st.env t=some x→t < C.N∧XRep g a w (a.tmps.getD t undef) x (g.TE t)∧(∀ b∈g.TE t,g.own b=some (.inl t))
 nodE:∀ t,(g.TE t).Nodup
 box:∀ id b,st.box[id]? = some b→BRep g w (g.loc id) b (g.TB id)∧(∀ b∈g.TB id,g.own b=some (.inr id))
 nodB:∀ id,(g.TB id).Nodup
 own:∀ b h,g.own b=some h→(C.W.heap.size≤b∨C.Fz b)∧b < w.heap.size∧¬ g.pub b
 lent:∀ i l,C.L[i]? = some l→i < g.n∧g.loc i=l
 tab:Tabs.t g.pub w
theorem look_kill (r:Root→Bool):∀ (l:List (Nat × X)) (t:Nat),look (kill r l) t=(look l t).map (X.kill r)
 | [],_=>rfl
 | (k,x) :: l,t=>by
  simp only [kill,look]
  cases Nat.beq t k with
  | true=>rfl
  | false=>exact look_kill r l t
theorem look_put (l:List (Nat × X)) (d:Nat) (x:X) (t:Nat):look (putE l d x) t=if t=d then some x else (look l t).map (X.kill (isT d)):=by
 simp only [putE,look,look_kill]
 by_cases h:t=d
 ·subst h;simp
 ·cases hb:Nat.beq t d with
  | true=>exact absurd (Nat.eq_of_beq_eq_true hb) h
  | false=>rw [if_neg h]
def X.rootH:X→Option (Nat ⊕ Nat)
 | .al p=>some p.root.holder
 | .pa r _ _ _=>some r.holder
 | _=>none
section
variable {g g':G} {a a':Act} {w w':World}
structure Same (g g':G) (a a':Act) (w w':World) (h:Nat ⊕ Nat):Prop where
 own:∀ b,g.own b=some h→g'.own b=some h∧w'.heap[b]? = w.heap[b]?
 tmp:∀ t,h=.inl t→a'.tmps[t]? = a.tmps[t]?
 te:∀ t,h=.inl t→g'.TE t=g.TE t
 tb:∀ i,h=.inr i→g'.TB i=g.TB i
theorem pvR_same (k:KeepsG g g' w w') (r:Root) (v:Value) (s:Same g g' a a' w w' r.holder) (h:pvR g a w r=some v):pvR g' a' w' r=some v:=by
 cases r with
 | t x=>simp only [pvR] at h ⊢;rw [s.tmp x rfl];exact h
 | b id c =>
  simp only [pvR] at h ⊢
  by_cases hi:id < g.n∧g.own (g.loc id)=some (.inr id)
  ·rw [if_pos hi] at h
   have:=s.own _ hi.2
   rw [k.loc id hi.1,if_pos ⟨Nat.lt_of_lt_of_le hi.1 k.n,this.1⟩,cell?_same this.2]
   exact h
  ·rw [if_neg hi] at h;cases h
theorem XRep.same (k:KeepsG g g' w w') {v:Value} {x:X} {T:List Nat} (hr:∀ h,x.rootH=some h→Same g g' a a' w w' h) (hT:∀ b∈T,w'.heap[b]? = w.heap[b]?) (h:XRep g a w v x T):XRep g' a' w' v x T:=by
 cases x with
 | d d=>exact RepD.keep k h hT
 | al p =>
  refine ⟨h.1,?_⟩
  have s:Same g g' a a' w w' p.root.holder:=hr _ rfl
  have h:=h.2
  cases p with
  | top r=>exact pvR_same k r v s h
  | elt r sz i j =>
   simp only [Pl.root] at s
   simp only [pv] at h ⊢
   cases hv:pvR g a w r with
   | none=>rw [hv] at h;cases h
   | some u =>
    rw [hv] at h
    rw [pvR_same k r u s hv]
    simp only [Option.bind_some] at h ⊢
    cases hb:u.ownBlock with
    | none=>rw [hb] at h;cases h
    | some b =>
     rw [hb] at h
     simp only at h ⊢
     by_cases ho:g.own b=some r.holder
     ·rw [if_pos ho] at h
      have:=s.own b ho
      rw [if_pos this.1,cell?_same this.2];exact h
     ·rw [if_neg ho] at h;cases h
 | pa r sz i j =>
  obtain ⟨h1,b,hb,ho,hv⟩:=h
  have s:=hr _ rfl
  refine ⟨h1,b,?_,(s.own b ho).1,hv⟩
  cases hu:pvR g a w r with
  | none=>rw [hu] at hb;cases hb
  | some u=>rw [hu] at hb;rw [pvR_same k r u s hu];exact hb
 | dead=>exact h
theorem BRep.same (k:KeepsG g g' w w') {l:Nat} {b:Box} {T:List Nat} (hT:∀ b∈T,w'.heap[b]? = w.heap[b]?) (h:BRep g w l b T):BRep g' w' l b T:=by
 cases b with
 | cells cs =>
  obtain ⟨cur,e,A,rfl,hh,hr,h1⟩:=h
  exact ⟨cur,e,A,rfl,(hT l (by simp)).trans hh,hr.keep k (fun b hb=>hT b (by simp [hb])),h1⟩
 | iter s pos=>exact ⟨h.1,(hT l (by rw [h.1];simp)).trans h.2⟩
 | gone=>exact h
end
theorem SRep.change {C:Ctx} {g g':G} {st st':St} {a a':Act} {w w':World} (S:SRep C g st a w) (chg:Nat ⊕ Nat→Prop)
 (hdef:a'.defers=[]) (htm:a'.tmps.size=C.N) (hos:w'.os=w.os) (htape:w'.tape=w.tape) (hout:w'.output=w.output) (hsize:w.heap.size≤w'.heap.size)
 (hpub:∀ b,g.pub b→g'.pub b) (hpub':∀ b,g'.pub b→g.pub b∨w.heap.size≤b∨∃ h,g.own b=some h) (hpubt:∀ b,g'.pub b→b < w'.heap.size)
 (hn:g'.n=st'.box.length) (hnn:g.n≤g'.n) (hloc:∀ i,i < g.n→g'.loc i=g.loc i)
 (hheap:∀ b,b < w.heap.size→(g.pub b∨(∃ h,g.own b=some h∧¬ chg h)∨(b < C.W.heap.size∧¬ C.Fz b))→w'.heap[b]? = w.heap[b]?)
 (hown:∀ b h,g.own b=some h→¬ chg h→g'.own b=some h)
 (htmp:∀ t,¬ chg (.inl t)→a'.tmps[t]? = a.tmps[t]?∧g'.TE t=g.TE t)
 (hbx:∀ i,¬ chg (.inr i)→g'.TB i=g.TB i∧st'.box[i]? = st.box[i]?)
 (henv:∀ t x,look st'.env t=some x→(¬ chg (.inl t)∧(look st.env t=some x∧(∀ h,x.rootH=some h→¬ chg h)∨x=.dead∧∃ y,look st.env t=some y))∨(t < C.N∧XRep g' a' w' (a'.tmps.getD t undef) x (g'.TE t)∧(∀ b∈g'.TE t,g'.own b=some (.inl t))))
 (hbox:∀ id b,st'.box[id]? = some b→chg (.inr id)→BRep g' w' (g'.loc id) b (g'.TB id)∧(∀ b∈g'.TB id,g'.own b=some (.inr id)))
 (hnodE:∀ t,chg (.inl t)→(g'.TE t).Nodup) (hnodB:∀ i,chg (.inr i)→(g'.TB i).Nodup)
 (hownv:∀ b h,g'.own b=some h→(g.own b=some h∧¬ g'.pub b)∨(((∃ h',g.own b=some h')∨w.heap.size≤b∨(C.W.heap.size≤b∨C.Fz b))∧b < w'.heap.size∧¬ g'.pub b)) :
 SRep C g' st' a' w':=by
 have psame:∀ b,g.pub b→w'.heap[b]? = w.heap[b]?:=fun b hb=>hheap b (S.publt b hb) (.inl hb)
 have k:KeepsG g g' w w':=⟨hpub,hnn,hloc,psame⟩
 have osame:∀ b h,g.own b=some h→¬ chg h→w'.heap[b]? = w.heap[b]?:=fun b h ho hc=>hheap b (S.own b h ho).2.1 (.inr (.inl ⟨h,ho,hc⟩))
 have same:∀ h,¬ chg h→Same g g' a a' w w' h:=by
  intro h hc
  refine ⟨fun b ho=>⟨hown b h ho hc,osame b h ho hc⟩,fun t e=>?_,fun t e=>?_,fun i e=>?_⟩
  ·subst e;exact (htmp t hc).1
  ·subst e;exact (htmp t hc).2
  ·subst e;exact (hbx i hc).1
 refine ⟨hdef,htm,hos.trans S.os,htape.trans S.tape,hout.trans S.output,Nat.le_trans S.size hsize,?_,?_,hpubt,hn,?_,?_,?_,?_,?_,fun i l h=>⟨Nat.lt_of_lt_of_le (S.lent i l h).1 hnn,(hloc i (S.lent i l h).1).trans (S.lent i l h).2⟩,Tabs.s k.k S.tab⟩
 ·intro b hb hf
  rw [← S.frame b hb hf]
  exact hheap b (Nat.lt_of_lt_of_le hb S.size) (.inr (.inr ⟨hb,hf⟩))
 ·intro b hb
  rcases hpub' b hb with h | h | ⟨h,ho⟩
  ·exact S.pub b h
  ·exact .inr (.inl (Nat.le_trans S.size h))
  ·exact .inr (S.own b h ho).1
 ·intro t x hx
  rcases henv t x hx with ⟨hc,h | h⟩ | h
  ·obtain ⟨h1,h2,h3⟩:=S.env t x h.1
   obtain ⟨e1,e2⟩:=htmp t hc
   have e3:a'.tmps.getD t undef=a.tmps.getD t undef:=by simp only [Array.getD_eq_getD_getElem?,e1]
   rw [e2,e3]
   exact ⟨h1,XRep.same k (fun r hr=>same r (h.2 r hr)) (fun b hb=>osame b _ (h3 b hb) hc) h2,fun b hb=>hown b _ (h3 b hb) hc⟩
  ·obtain ⟨rfl,y,hy⟩:=h
   obtain ⟨h1,h2,h3⟩:=S.env t y hy
   exact ⟨h1,trivial,fun b hb=>hown b _ (h3 b (by rw [← (htmp t hc).2];exact hb)) hc⟩
  ·exact h
 ·intro t
  by_cases hc:chg (.inl t)
  ·exact hnodE t hc
  ·rw [(htmp t hc).2];exact S.nodE t
 ·intro id b hb
  by_cases hc:chg (.inr id)
  ·exact hbox id b hb hc
  ·obtain ⟨e1,e2⟩:=hbx id hc
   rw [e2] at hb
   obtain ⟨h1,h2⟩:=S.box id b hb
   have hid:id < g.n:=by
    rw [S.n]
    rcases Nat.lt_or_ge id st.box.length with h | h
    ·exact h
    ·rw [List.getElem?_eq_none h] at hb;cases hb
   rw [e1,hloc id hid]
   exact ⟨BRep.same k (fun c hc'=>osame c _ (h2 c hc') hc) h1,fun c hc'=>hown c _ (h2 c hc') hc⟩
 ·intro i
  by_cases hc:chg (.inr i)
  ·exact hnodB i hc
  ·rw [(hbx i hc).1];exact S.nodB i
 ·intro b h ho
  rcases hownv b h ho with ⟨h1,h2⟩ | ⟨h1,h2,h3⟩
  ·exact ⟨(S.own b h h1).1,Nat.lt_of_lt_of_le (S.own b h h1).2.1 hsize,h2⟩
  ·refine ⟨?_,h2,h3⟩
   rcases h1 with ⟨h',h1⟩ | h1 | h1
   ·exact (S.own b h' h1).1
   ·exact .inl (Nat.le_trans S.size h1)
   ·exact h1
end
section
variable [Tabs]
inductive All:List Prop→Prop
 | nil:All []
 | cons {p:Prop} {l:List Prop}:p→All l→All (p :: l)
theorem All.left:∀ {l m:List Prop},All (l++m)→All l
 | [],_,_=>.nil
 | _ :: _,_,.cons h t=>.cons h t.left
theorem All.right:∀ {l m:List Prop},All (l++m)→All m
 | [],_,h=>h
 | _ :: _,_,.cons h t=>All.right t
def pureRun {α:Type} (P:Program):Sem α→Option α
 | .pure a=>some a
 | .program k=>pureRun P (k P)
 | _=>none
theorem pureRun_run {α:Type} {P:Program} {s:Sem α} {a:α} (h:pureRun P s=some a) (w:World):s.run P w=.ok a w:=by
 induction s with
 | pure b=>simp only [pureRun,Option.some.injEq] at h;subst h;rfl
 | program k ih=>exact ih P h
 | _=>simp [pureRun] at h
structure E where
 hs:List V
 ob:List Prop
 st:St
 rw:List (Nat × Value):=[]
 fx:List (Nat × V):=[]
def V.noOwn:V→Bool
 | .row (some _) _ _=>false
 | .agg cs=>go cs
 | .tup cs=>go cs
 | .iface _ d=>d.noOwn
 | _=>true
where go:List V→Bool
 | []=>true
 | c :: cs=>match c.noOwn with
  | true=>go cs
  | false=>false
mutual
theorem Rep.noOwn {p:Pub} {w:World} {v:Value} {d:V} {T:List Nat}:Rep p w v d T→d.noOwn=true→T=[]
 | .lit _,_=>rfl
 | .any _,_=>rfl
 | .nil _ _,_=>rfl
 | .kb _,_=>rfl
 | .shared ..,_=>rfl
 | .own ..,h=>by simp [V.noOwn] at h
 | .agg h,hn=>h.noOwn (by simpa [V.noOwn] using hn)
 | .tup h,hn=>h.noOwn (by simpa [V.noOwn] using hn)
 | .pt ..,_=>rfl
 | .iface h,hn=>h.noOwn (by simpa [V.noOwn] using hn)
 | .clo _,_=>rfl
theorem RepL.noOwn {p:Pub} {w:World} {vs:List Value} {ds:List V} {T:List Nat}:RepL p w vs ds T→V.noOwn.go ds=true→T=[]
 | .nil,_=>rfl
 | .cons (d:=d) h1 h2,hn=>by
  simp only [V.noOwn.go] at hn
  cases hc:d.noOwn with
  | false=>rw [hc] at hn;cases hn
  | true=>rw [hc] at hn;rw [h1.noOwn hc,h2.noOwn hn];rfl
end
def Good (P:Program) (C:Ctx) (c:Code) (Q:Exit→St→Prop) (st:St):Prop :=
 ∀ g a w,SRep C g st a w→c.wp P (fun e a w=>∃ g st,SRep C g st a w∧Q e st) a w
def thenS (K:St→Prop) (Q:Exit→St→Prop):Exit→St→Prop
 | .normal,st=>K st
 | e,st=>Q e st
def blockS (id:Nat) (Q:Exit→St→Prop):Exit→St→Prop
 | .exit id',st=>if id'=id then Q .normal st else Q (.exit id') st
 | e,st=>Q e st
section
variable {P:Program} {C:Ctx} {Q:Exit→St→Prop} {st:St}
theorem Good.skip (h:Q .normal st):Good P C .skip Q st:=fun g a w S=>wp_skip ⟨g,st,S,h⟩
theorem Good.exit {i:Nat} (h:Q (.exit i) st):Good P C (.exit i) Q st:=fun g a w S=>wp_exit ⟨g,st,S,h⟩
theorem Good.goto {l:Nat} (h:Q (.goto l) st):Good P C (.goto l) Q st:=fun g a w S=>wp_goto ⟨g,st,S,h⟩
theorem Good.ret (h:Q .ret st):Good P C .ret Q st:=fun g a w S=>wp_ret ⟨g,st,S,h⟩
theorem Good.seq {x y:Code} (h:Good P C x (thenS (Good P C y Q) Q) st):Good P C (.seq x y) Q st:=fun g a w S =>
 wp_seq (wp_mono (h g a w S) fun e a w ⟨g',st',S',h'⟩=>by
  cases e with
  | normal=>exact h' g' a w S'
  | _=>exact ⟨g',st',S',h'⟩)
theorem Good.block {i:Nat} {x:Code} (h:Good P C x (blockS i Q) st):Good P C (.block i x) Q st:=fun g a w S =>
 wp_block (wp_mono (h g a w S) fun e a w ⟨g',st',S',h'⟩=>by
  cases e with
  | exit j =>
   simp only [Exit.inBlock,blockS] at h' ⊢
   by_cases hj:j=i
   ·rw [if_pos hj] at h' ⊢;exact ⟨g',st',S',h'⟩
   ·rw [if_neg hj] at h' ⊢;exact ⟨g',st',S',h'⟩
  | _=>exact ⟨g',st',S',h'⟩)
theorem Good.mono {x:Code} {Q':Exit→St→Prop} (h:Good P C x Q st) (hq:∀ e st,Q e st→Q' e st):Good P C x Q' st:=fun g a w S =>
 wp_mono (h g a w S) fun e a w ⟨g',st',S',h'⟩=>⟨g',st',S',hq _ _ h'⟩
def litB:St→Operand→Option Bool
 | st,.tmp t=>match look st.env t with
  | some (.d (.v (.lit (.bool b))))=>some b
  | some (.d (.v (.kb b)))=>some b
  | _=>none
 | _,.const (.bool b)=>some b
 | _,_=>none
theorem RepD.lit {g:G} {w:World} {u v:Value} {T:List Nat} (h:RepD g w u (.v (.lit v)) T):u=v:=by
 cases h with
 | v h=>cases h with | lit=>rfl
theorem RepD.kb {g:G} {w:World} {u:Value} {b:Bool} {T:List Nat} (h:RepD g w u (.v (.kb b)) T):u=.bool b:=by
 cases h with
 | v h=>cases h with | kb=>rfl
theorem litB_eval {g:G} {a:Act} {w:World} (S:SRep C g st a w) {c:Operand} {b:Bool} (h:litB st c=some b):a.eval c=.bool b:=by
 cases c with
 | tmp t =>
  simp only [litB] at h
  split at h
  ·rename_i b' hx
   obtain ⟨h1,h2,h3⟩:=S.env t _ hx
   cases h
   exact RepD.lit h2
  ·rename_i b' hx
   obtain ⟨h1,h2,h3⟩:=S.env t _ hx
   cases h
   exact RepD.kb h2
  ·cases h
 | const v=>cases v<;>simp [litB] at h;subst h;rfl
 | _=>simp [litB] at h
theorem Good.cond {c:Operand} {x y:Code} (b:Bool) (hb:litB st c=some b) (h:Good P C (if b then x else y) Q st):Good P C (.cond c x y) Q st:=fun g a w S =>
 wp_cond (litB_eval S hb) (h g a w S)
theorem Good.condT {c:Operand} {x y:Code} {b:Bool} (ht:b=true) (hb:litB st c=some b) (h:Good P C x Q st):Good P C (.cond c x y) Q st:=.cond b hb (by rw [ht];exact h)
theorem Good.condF {c:Operand} {x y:Code} {b:Bool} (ht:b=false) (hb:litB st c=some b) (h:Good P C y Q st):Good P C (.cond c x y) Q st:=.cond b hb (by rw [ht];exact h)
def Rounds (P:Program) (C:Ctx) (c:Code) (Q:Exit→St→Prop):Nat→St→Prop
 | 0,_=>False
 | n+1,st=>Good P C c (thenS (Rounds P C c Q n) Q) st
theorem Good.loop {x:Code} (n:Nat) (h:Rounds P C x Q n st):Good P C (.loop x) Q st:=fun g a w S=>by
 refine wp_loop_rounds n ?_
 revert st g a w
 induction n with
 | zero=>intro st h g a w S;exact h.elim
 | succ n ih =>
  intro st h g a w S
  refine wp_mono (h g a w S) fun e a w ⟨g',st',S',h'⟩=>?_
  cases e with
  | normal=>exact ih h' g' a w S'
  | _=>exact ⟨g',st',S',h'⟩
end
def G.put (g:G) (d:Nat) (T:List Nat) (p:Pub):G :=
 { g with pub:=fun b=>g.pub b∨p b,own:=fun b=>if b∈T then some (.inl d) else if g.own b=some (.inl d) then none else g.own b,TE:=fun t=>if t=d then T else g.TE t }
structure Calm (w w':World):Prop where
 os:w'.os=w.os
 tape:w'.tape=w.tape
 output:w'.output=w.output
 size:w.heap.size≤w'.heap.size
 same:∀ b,b < w.heap.size→w'.heap[b]? = w.heap[b]?
theorem Calm.refl (w:World):Calm w w:=⟨rfl,rfl,rfl,Nat.le_refl _,fun _ _=>rfl⟩
theorem Calm.of {w w':World} (h:w.grownBy w' none):Calm w w':=⟨h.os,h.tape,h.output,h.size,fun b hb=>h.block b hb (by simp)⟩
theorem Calm.alloc (w:World) (o:Obj):Calm w (w.alloc o):=⟨rfl,rfl,rfl,by show w.heap.size≤(w.heap.push o).size;rw [Array.size_push];omega,fun b hb=>by show (w.heap.push o)[b]? = _;rw [Array.getElem?_push_lt hb,Array.getElem?_eq_getElem hb]⟩
theorem Calm.drew (w:World):Calm w w.drew:=⟨rfl,rfl,rfl,Nat.le_refl _,fun _ _=>rfl⟩
def St.put (st:St) (d:Nat) (x:X):St:={ st with env:=putE st.env d x }
theorem Act.put_some (a:Act) (d:Nat) (v:Value):a.put (some d) v={ a with tmps:=a.tmps.setIfInBounds d v }:=rfl
theorem isT_iff (d:Nat) (r:Root):isT d r=true↔r.holder=.inl d:=by
 cases r with
 | t x =>
  simp only [isT,Root.holder,Sum.inl.injEq]
  exact ⟨fun h=>Nat.eq_of_beq_eq_true h,fun h=>by rw [h];exact Nat.beq_refl d⟩
 | b i c=>simp [isT,Root.holder]
theorem X.kill_cases (r:Root→Bool) (x:X):x.kill r=.dead∨(x.kill r=x∧match x with | .al p=>r p.root=false | .pa q _ _ _=>r q=false | _=>True):=by
 cases x with
 | al p=>simp only [X.kill];cases h:r p.root<;>simp
 | pa q sz i j=>simp only [X.kill];cases h:r q<;>simp
 | d d=>exact .inr ⟨rfl,trivial⟩
 | dead=>exact .inl rfl
theorem X.kill_rootH {d:Nat} {x:X} (h:x.kill (isT d)=x) (hd:x≠.dead):∀ r,x.rootH=some r→r≠.inl d:=by
 intro r hr e
 subst e
 cases x with
 | al p =>
  simp only [X.rootH,Option.some.injEq] at hr
  have:=(isT_iff d p.root).2 hr
  simp [X.kill,this] at h
 | pa q sz i j =>
  simp only [X.rootH,Option.some.injEq] at hr
  have:=(isT_iff d q).2 hr
  simp [X.kill,this] at h
 | d d=>simp [X.rootH] at hr
 | dead=>exact hd rfl
section
variable {C:Ctx} {g:G} {st:St} {a:Act} {w w':World}
theorem SRep.put (S:SRep C g st a w) (k:Calm w w') {d:Nat} (hd:d < C.N) {v:Value} {x:X} {T:List Nat} {p:Pub}
 (hp:∀ b,p b→w.heap.size≤b∧b < w'.heap.size) (hT:T.Nodup) (hTf:∀ b∈T,w.heap.size≤b∧b < w'.heap.size∧¬ p b)
 (hx:XRep (g.put d T p) (a.put (some d) v) w' v x T):SRep C (g.put d T p) (st.put d x) (a.put (some d) v) w':=by
 have notT:∀ b h,g.own b=some h→b∉T:=fun b h ho hb=>by have:=(S.own b h ho).2.1;have:=(hTf b hb).1;omega
 refine S.change (fun h=>h=.inl d) S.defers ?_ k.os k.tape k.output k.size (fun b hb=>.inl hb) ?_ ?_ S.n (Nat.le_refl _) (fun _ _=>rfl) (fun b hb _=>k.same b hb) ?_ ?_ ?_ ?_ ?_ ?_ ?_ ?_
 ·simp [Act.put_some,S.tmps]
 ·rintro b (hb | hb)
  ·exact .inl hb
  ·exact .inr (.inl (hp b hb).1)
 ·rintro b (hb | hb)
  ·exact Nat.lt_of_lt_of_le (S.publt b hb) k.size
  ·exact (hp b hb).2
 ·intro b h ho hc
  simp only [G.put]
  rw [if_neg (notT b h ho),if_neg (by rw [ho];intro e;exact hc (Option.some.inj e)),ho]
 ·intro t ht
  have ht':t≠d:=fun e=>ht (by rw [e])
  refine ⟨?_,by simp [G.put,ht']⟩
  rw [Act.put_some]
  simp only [Array.getElem?_setIfInBounds]
  rw [if_neg (fun e=>ht' e.symm)]
 ·intro i hi;exact ⟨rfl,rfl⟩
 ·intro t y hy
  rw [St.put,look_put] at hy
  by_cases ht:t=d
  ·subst ht
   rw [if_pos rfl] at hy
   cases hy
   refine .inr ⟨hd,?_,fun b hb=>?_⟩
   ·have e:(a.put (some t) v).tmps.getD t undef=v:=by
     rw [Act.put_some,Array.getD_eq_getD_getElem?]
     simp [show t < a.tmps.size by rw [S.tmps];exact hd]
    rw [e,show (g.put t T p).TE t=T by simp [G.put]]
    exact hx
   ·have hb':b∈T:=by simpa [G.put] using hb
    simp [G.put,hb']
  ·rw [if_neg ht] at hy
   refine .inl ⟨fun e=>ht (Sum.inl.inj e),?_⟩
   cases hl:look st.env t with
   | none=>rw [hl] at hy;cases hy
   | some z =>
    rw [hl] at hy
    simp only [Option.map_some,Option.some.injEq] at hy
    by_cases hdd:y=.dead
    ·exact .inr ⟨hdd,z,rfl⟩
    ·rcases X.kill_cases (isT d) z with h | ⟨h,h2⟩
     ·exact (hdd (by rw [← hy,h])).elim
     ·rw [h] at hy
      subst hy
      exact .inl ⟨rfl,X.kill_rootH h hdd⟩
 ·intro id b _ hc;cases hc
 ·intro t ht
  cases ht
  simpa [G.put] using hT
 ·intro i hi;cases hi
 ·intro b h ho
  simp only [G.put] at ho
  by_cases hb:b∈T
  ·rw [if_pos hb] at ho
   refine .inr ⟨.inr (.inl (hTf b hb).1),(hTf b hb).2.1,?_⟩
   rintro (hg | hg)
   ·have:=S.publt b hg;have:=(hTf b hb).1;omega
   ·exact (hTf b hb).2.2 hg
  ·rw [if_neg hb] at ho
   by_cases ho':g.own b=some (.inl d)
   ·rw [if_pos ho'] at ho;cases ho
   ·rw [if_neg ho'] at ho
    refine .inl ⟨ho,?_⟩
    rintro (hg | hg)
    ·exact (S.own b h ho).2.2 hg
    ·have:=(hp b hg).1;have:=(S.own b h ho).2.1;omega
theorem KeepsG.put (S:SRep C g st a w) (k:Calm w w') (d:Nat) (T:List Nat) (p:Pub):KeepsG g (g.put d T p) w w' :=
 ⟨fun b hb=>.inl hb,Nat.le_refl _,fun _ _=>rfl,fun b hb=>k.same b (S.publt b hb)⟩
theorem SRep.put0 (S:SRep C g st a w) (k:Calm w w') {d:Nat} (hd:d < C.N) {v:Value} {D:D} (hx:RepD g w v D []) :
 SRep C (g.put d [] fun _=>False) (st.put d (.d D)) (a.put (some d) v) w' :=
 S.put k hd (fun _ h=>h.elim) List.nodup_nil (fun _ h=>by cases h) (hx.keep (KeepsG.put S k d [] _) (fun _ h=>by cases h))
theorem SRep.putA (S:SRep C g st a w) {d:Nat} (hd:d < C.N) {v:Value} {x:X} (hk:x.kill (isT d)=x) (hdd:x≠.dead) (hT:XRep g a w v x []) (hnd:∀ D,x≠.d D) :
 SRep C (g.put d [] fun _=>False) (st.put d x) (a.put (some d) v) w:=by
 refine S.put (Calm.refl w) hd (fun _ h=>h.elim) List.nodup_nil (fun _ h=>by cases h) ?_
 refine XRep.same (KeepsG.put S (Calm.refl w) d [] _) (fun h hr=>?_) (fun _ h=>by cases h) hT
 have hne:=X.kill_rootH hk hdd h hr
 refine ⟨fun b ho=>⟨?_,rfl⟩,fun t e=>?_,fun t e=>?_,fun i e=>rfl⟩
 ·simp only [G.put,List.not_mem_nil,if_false]
  rw [if_neg (by rw [ho];intro e;exact hne (Option.some.inj e)),ho]
 ·subst e
  rw [Act.put_some]
  simp only [Array.getElem?_setIfInBounds]
  rw [if_neg (fun e=>hne (by rw [e]))]
 ·subst e
  have:t≠d:=fun e=>hne (by rw [e])
  simp [G.put,this]
end
def X.killE (r:Root→Bool):X→X
 | .al (.elt q sz i j)=>match r q with
  | true=>.dead
  | false=>.al (.elt q sz i j)
 | .pa q sz i j=>match r q with
  | true=>.dead
  | false=>.pa q sz i j
 | x=>x
def killE (r:Root→Bool):List (Nat × X)→List (Nat × X)
 | []=>[]
 | (k,x) :: l=>(k,x.killE r) :: killE r l
theorem look_killE (r:Root→Bool):∀ (l:List (Nat × X)) (t:Nat),look (killE r l) t=(look l t).map (X.killE r)
 | [],_=>rfl
 | (k,x) :: l,t=>by
  simp only [killE,look]
  cases Nat.beq t k with
  | true=>rfl
  | false=>exact look_killE r l t
def St.setT (st:St) (t:Nat) (x:X):St:={ st with env:=(t,x) :: killE (isT t) st.env }
mutual
theorem RepD.share {g g':G} {w:World} {v:Value} {d:D} {T S:List Nat} (hp:g'.pub=g.pub.share S) (hn:g.n≤g'.n) (hl:∀ i,i < g.n→g'.loc i=g.loc i):RepD g w v d T→(∀ b∈T,b∈S)→RepD g' w v d.shr []
 | .v h,hT=>by rw [D.shr];exact .v (by rw [hp];exact h.share hT)
 | .ptr h,_=>by rw [← hl _ h];exact .ptr (Nat.lt_of_lt_of_le h hn)
 | .agg h,hT=>by rw [D.shr];exact .agg (h.share hp hn hl hT)
 | .tup h,hT=>by rw [D.shr];exact .tup (h.share hp hn hl hT)
 | .fn h,hT=>by rw [D.shr];exact .fn (h.share hp hn hl hT)
theorem RepDL.share {g g':G} {w:World} {vs:List Value} {ds:List D} {T S:List Nat} (hp:g'.pub=g.pub.share S) (hn:g.n≤g'.n) (hl:∀ i,i < g.n→g'.loc i=g.loc i):RepDL g w vs ds T→(∀ b∈T,b∈S)→RepDL g' w vs (shrDL ds) []
 | .nil,_=>.nil
 | .cons h1 h2,hT=>RepDL.cons (A:=[]) (B:=[]) (h1.share hp hn hl (fun b hb=>hT b (List.mem_append_left _ hb))) (h2.share hp hn hl (fun b hb=>hT b (List.mem_append_right _ hb)))
end
def G.shareT (g:G) (t:Nat):G :=
 { g with pub:=g.pub.share (g.TE t),own:=fun b=>if b∈g.TE t then none else g.own b,TE:=fun s=>if s=t then [] else g.TE s }
section
variable {C:Ctx} {g:G} {st:St} {a:Act} {w w':World}
theorem isT_killE_rootH {d:Nat} {x:X} (h:x.killE (isT d)=x):(∀ r,x.rootH=some r→r≠.inl d)∨x=.al (.top (.t d)):=by
 cases x with
 | al p =>
  cases p with
  | top r =>
   by_cases hr:r=.t d
   ·subst hr;exact .inr rfl
   ·refine .inl fun q hq e=>?_
    subst e
    simp only [X.rootH,Pl.root,Option.some.injEq] at hq
    cases r with
    | t y=>simp only [Root.holder,Sum.inl.injEq] at hq;exact hr (by rw [hq])
    | b i c=>simp [Root.holder] at hq
  | elt r sz i j =>
   refine .inl fun q hq e=>?_
   subst e
   simp only [X.rootH,Pl.root,Option.some.injEq] at hq
   have:=(isT_iff d r).2 hq
   simp [X.killE,this] at h
 | pa q sz i j =>
  refine .inl fun q' hq e=>?_
  subst e
  simp only [X.rootH,Option.some.injEq] at hq
  have:=(isT_iff d q).2 hq
  simp [X.killE,this] at h
 | d d'=>exact .inl fun r hr=>by simp [X.rootH] at hr
 | dead=>exact .inl fun r hr=>by simp [X.rootH] at hr
theorem X.killE_cases (r:Root→Bool) (x:X):x.killE r=.dead∨x.killE r=x:=by
 cases x with
 | al p =>
  cases p with
  | top q=>exact .inr rfl
  | elt q sz i j=>simp only [X.killE];cases h:r q<;>simp
 | pa q sz i j=>simp only [X.killE];cases h:r q<;>simp
 | d d=>exact .inr rfl
 | dead=>exact .inl rfl
theorem SRep.shareT (S:SRep C g st a w) {t:Nat} {d:D} (ht:look st.env t=some (.d d)):KeepsG g (g.shareT t) w w∧SRep C (g.shareT t) (st.setT t (.d d.shr)) a w:=by
 have k:KeepsG g (g.shareT t) w w:=⟨fun b hb=>.inl hb,Nat.le_refl _,fun _ _=>rfl,fun _ _=>rfl⟩
 refine ⟨k,?_⟩
 obtain ⟨htN,htx,hto⟩:=S.env t _ ht
 have hm:∀ b h,g.own b=some h→h≠.inl t→b∉g.TE t:=fun b h ho hn hb=>hn (by rw [hto b hb] at ho;exact (Option.some.inj ho).symm)
 refine S.change (fun h=>h=.inl t) S.defers S.tmps rfl rfl rfl (Nat.le_refl _) (fun b hb=>.inl hb) ?_ ?_ S.n (Nat.le_refl _) (fun _ _=>rfl) (fun _ _ _=>rfl) ?_ ?_ ?_ ?_ ?_ ?_ ?_ ?_
 ·rintro b (hb | hb)
  ·exact .inl hb
  ·exact .inr (.inr ⟨_,hto b hb⟩)
 ·rintro b (hb | hb)
  ·exact S.publt b hb
  ·exact (S.own b _ (hto b hb)).2.1
 ·intro b h ho hc
  simp only [G.shareT]
  rw [if_neg (hm b h ho hc),ho]
 ·intro s hs
  have:s≠t:=fun e=>hs (by rw [e])
  exact ⟨rfl,by simp [G.shareT,this]⟩
 ·intro i _;exact ⟨rfl,rfl⟩
 ·intro s y hy
  simp only [St.setT,look] at hy
  cases hb:Nat.beq s t with
  | true =>
   have:=Nat.eq_of_beq_eq_true hb
   subst this
   rw [hb] at hy
   cases hy
   refine .inr ⟨htN,?_,fun b hb'=>?_⟩
   ·have e:(g.shareT s).TE s=[]:=by simp [G.shareT]
    rw [e]
    exact RepD.share (g:=g) rfl (Nat.le_refl _) (fun _ _=>rfl) htx (fun _ h=>h)
   ·simp [G.shareT] at hb'
  | false =>
   have hst:s≠t:=fun e=>by rw [e,Nat.beq_refl] at hb;cases hb
   rw [hb] at hy
   simp only [look_killE] at hy
   cases hl:look st.env s with
   | none=>rw [hl] at hy;cases hy
   | some z =>
    rw [hl] at hy
    simp only [Option.map_some,Option.some.injEq] at hy
    rcases X.killE_cases (isT t) z with h | h
    ·exact .inl ⟨fun e=>hst (Sum.inl.inj e),.inr ⟨by rw [← hy,h],z,rfl⟩⟩
    ·rw [h] at hy
     subst hy
     rcases isT_killE_rootH h with hr | rfl
     ·exact .inl ⟨fun e=>hst (Sum.inl.inj e),.inl ⟨rfl,hr⟩⟩
     ·obtain ⟨h1,h2,h3⟩:=S.env s _ hl
      obtain ⟨h4,h5⟩:=h2
      refine .inr ⟨h1,⟨?_,h5⟩,?_⟩
      ·simp [G.shareT,hst,h4]
      ·simp [G.shareT,hst,h4]
 ·intro id b _ hc;cases hc
 ·intro s hs;cases hs;simp [G.shareT]
 ·intro i hi;cases hi
 ·intro b h ho
  simp only [G.shareT] at ho
  by_cases hb:b∈g.TE t
  ·rw [if_pos hb] at ho;cases ho
  ·rw [if_neg hb] at ho
   refine .inl ⟨ho,?_⟩
   rintro (h1 | h1)
   ·exact (S.own b h ho).2.2 h1
   ·exact hb h1
def G.move (g:G) (s d:Nat):G :=
 { g with own:=fun b=>if b∈g.TE s then some (.inl d) else if g.own b=some (.inl d) then none else if g.own b=some (.inl s) then none else g.own b,TE:=fun t=>if t=d then g.TE s else if t=s then [] else g.TE t }
theorem kill2 (s d:Nat) (l:List (Nat × X)) (t:Nat) (ht:t≠d) (hs:t≠s) (x:X):look ((d,x) :: (s,X.dead) :: kill (isT d) (kill (isT s) l)) t=(look l t).map (fun z=>(z.kill (isT s)).kill (isT d)):=by
 simp only [look,look_kill]
 have h1:Nat.beq t d=false:=by cases h:Nat.beq t d with
  | true=>exact absurd (Nat.eq_of_beq_eq_true h) ht
  | false=>rfl
 have h2:Nat.beq t s=false:=by cases h:Nat.beq t s with
  | true=>exact absurd (Nat.eq_of_beq_eq_true h) hs
  | false=>rfl
 rw [h1,h2]
 simp [Option.map_map,Function.comp_def]
theorem SRep.move (S:SRep C g st a w) {s d:Nat} (hsd:s≠d) (hd:d < C.N) {D:D} (hs:look st.env s=some (.d D)) :
 SRep C (g.move s d) { st with env:=(d,.d D) :: (s,.dead) :: kill (isT d) (kill (isT s) st.env) } (a.put (some d) (a.tmps.getD s undef)) w:=by
 obtain ⟨hsN,hsx,hso⟩:=S.env s _ hs
 have k:KeepsG g (g.move s d) w w:=⟨fun b hb=>hb,Nat.le_refl _,fun _ _=>rfl,fun _ _=>rfl⟩
 refine S.change (fun h=>h=.inl s∨h=.inl d) S.defers ?_ rfl rfl rfl (Nat.le_refl _) (fun b hb=>hb) (fun b hb=>.inl hb) (fun b hb=>S.publt b hb) S.n (Nat.le_refl _) (fun _ _=>rfl) (fun _ _ _=>rfl) ?_ ?_ ?_ ?_ ?_ ?_ ?_ ?_
 ·simp [Act.put_some,S.tmps]
 ·intro b h ho hc
  simp only [G.move]
  rw [if_neg (fun hb=>hc (.inl (by rw [hso b hb] at ho;exact (Option.some.inj ho).symm))),if_neg (by rw [ho];intro e;exact hc (.inr (Option.some.inj e))),if_neg (by rw [ho];intro e;exact hc (.inl (Option.some.inj e))),ho]
 ·intro t ht
  have h1:t≠d:=fun e=>ht (.inr (by rw [e]))
  have h2:t≠s:=fun e=>ht (.inl (by rw [e]))
  refine ⟨?_,by simp [G.move,h1,h2]⟩
  rw [Act.put_some]
  simp only [Array.getElem?_setIfInBounds]
  rw [if_neg (fun e=>h1 e.symm)]
 ·intro i _;exact ⟨rfl,rfl⟩
 ·intro t y hy
  by_cases ht:t=d
  ·subst ht
   simp only [look,Nat.beq_refl] at hy
   cases hy
   refine .inr ⟨hd,?_,fun b hb=>?_⟩
   ·have e:(a.put (some t) (a.tmps.getD s undef)).tmps.getD t undef=a.tmps.getD s undef:=by
     rw [Act.put_some,Array.getD_eq_getD_getElem?]
     simp [show t < a.tmps.size by rw [S.tmps];exact hd]
    rw [e,show (g.move s t).TE t=g.TE s by simp [G.move]]
    exact RepD.keep k hsx (fun _ _=>rfl)
   ·have:b∈g.TE s:=by simpa [G.move] using hb
    simp [G.move,this]
  ·by_cases hts:t=s
   ·subst hts
    have h1:Nat.beq t d=false:=by cases h:Nat.beq t d with
     | true=>exact absurd (Nat.eq_of_beq_eq_true h) ht
     | false=>rfl
    simp only [look,h1,Nat.beq_refl] at hy
    cases hy
    refine .inr ⟨hsN,trivial,fun b hb=>?_⟩
    simp [G.move,ht] at hb
   ·rw [kill2 s d st.env t ht hts] at hy
    refine .inl ⟨fun e=>by rcases e with e | e<;>cases e<;>contradiction,?_⟩
    cases hl:look st.env t with
    | none=>rw [hl] at hy;cases hy
    | some z =>
     rw [hl] at hy
     simp only [Option.map_some,Option.some.injEq] at hy
     by_cases hdd:y=.dead
     ·exact .inr ⟨hdd,z,rfl⟩
     ·rcases X.kill_cases (isT s) z with h | ⟨h,h2⟩
      ·rw [h] at hy;exact (hdd (by rw [← hy];rfl)).elim
      ·rw [h] at hy
       rcases X.kill_cases (isT d) z with h3 | ⟨h3,h4⟩
       ·exact (hdd (by rw [← hy,h3])).elim
       ·rw [h3] at hy
        subst hy
        refine .inl ⟨rfl,fun r hr e=>?_⟩
        rcases e with e | e
        ·exact X.kill_rootH h hdd r hr e
        ·exact X.kill_rootH h3 hdd r hr e
 ·intro id b _ hc;rcases hc with hc | hc<;>cases hc
 ·intro t ht
  rcases ht with ht | ht<;>cases ht
  ·simp only [G.move];rw [if_neg hsd];simp
  ·simpa [G.move] using S.nodE s
 ·intro i hi;rcases hi with hi | hi<;>cases hi
 ·intro b h ho
  simp only [G.move] at ho
  by_cases hb:b∈g.TE s
  ·exact .inr ⟨.inl ⟨_,hso b hb⟩,(S.own b _ (hso b hb)).2.1,(S.own b _ (hso b hb)).2.2⟩
  ·rw [if_neg hb] at ho
   split at ho
   ·cases ho
   ·split at ho
    ·cases ho
    ·exact .inl ⟨ho,(S.own b h ho).2.2⟩
end
abbrev M (α:Type):=E→Option (α × E)
def need (p:Prop) (e:E):E:={ e with ob:=e.ob++[p] }
def hint (e:E):Option (V × E):=match e.hs with
 | h :: hs=>some (h,{ e with hs:=hs })
 | []=>none
def valT (t:Nat) (e:E):Option (V × E):=match look e.st.env t with
 | some (.d (.v u))=>match u.noOwn with
  | true=>some (u,e)
  | false=>match hint e with
   | some (h,e)=>some (h,need (u.shr=h) { e with st:=e.st.setT t (.d (.v h)) })
   | none=>none
 | _=>none
def val (x:Operand) (e:E):Option (V × E):=match x with
 | .const v=>some (.lit v,e)
 | .global g=>some (.lit (.pointer (some ⟨g,0,none⟩)),e)
 | .func f=>some (.clo f [],e)
 | .tmp t=>match look e.st.env t with
  | some (.al (.top (.t s)))=>valT s e
  | _=>valT t e
theorem All.snoc {l:List Prop} {p:Prop} (h:All (l++[p])):All l∧p:=⟨h.left,by cases (All.right h) with | cons h _=>exact h⟩
section
variable {P:Program} {C:Ctx}
theorem RepD.inv {g:G} {w:World} {u:Value} {x:V} {T:List Nat} (h:RepD g w u (.v x) T):Rep g.pub w u x T:=by cases h with | v h=>exact h
def ValOk (C:Ctx) (x:Operand) (e:E) (u:V) (e':E):Prop :=
 All e'.ob→All e.ob∧∀ g a w,SRep C g e.st a w→∃ g',KeepsG g g' w w∧SRep C g' e'.st a w∧Rep g'.pub w (a.eval x) u []
theorem KeepsG.refl (g:G) (w:World):KeepsG g g w w:=⟨fun _ h=>h,Nat.le_refl _,fun _ _=>rfl,fun _ _=>rfl⟩
theorem KeepsG.trans {g1 g2 g3:G} {w1 w2 w3:World} (h:KeepsG g1 g2 w1 w2) (k:KeepsG g2 g3 w2 w3):KeepsG g1 g3 w1 w3 :=
 ⟨fun b hb=>k.pub _ (h.pub _ hb),Nat.le_trans h.n k.n,fun i hi=>(k.loc i (Nat.lt_of_lt_of_le hi h.n)).trans (h.loc i hi),fun b hb=>(k.same b (h.pub b hb)).trans (h.same b hb)⟩
theorem hint_eq {e e1:E} {h:V} (hh:hint e=some (h,e1)):e1.ob=e.ob∧e1.st=e.st:=by
 unfold hint at hh
 split at hh
 ·cases hh;exact ⟨rfl,rfl⟩
 ·cases hh
theorem valT_ok {t:Nat} {e e':E} {u:V} (h:valT t e=some (u,e')):All e'.ob→All e.ob∧∀ g a w,SRep C g e.st a w→∃ g',KeepsG g g' w w∧SRep C g' e'.st a w∧Rep g'.pub w (a.tmps.getD t undef) u []∧t < C.N:=by
 intro hob
 unfold valT at h
 split at h
 ·rename_i x hx
  cases hn:x.noOwn with
  | true =>
   rw [hn] at h
   cases h
   refine ⟨hob,fun g a w S=>?_⟩
   obtain ⟨h1,h2,h3⟩:=S.env t _ hx
   refine ⟨g,KeepsG.refl g w,S,?_,h1⟩
   have h2:=RepD.inv h2
   have:=h2.noOwn hn
   rw [this] at h2;exact h2
  | false =>
   rw [hn] at h
   cases hh:hint e with
   | none=>rw [hh] at h;cases h
   | some r =>
    obtain ⟨y,e1⟩:=r
    rw [hh] at h
    obtain ⟨h1,h2⟩:=hint_eq hh
    simp only [Option.some.injEq,Prod.mk.injEq] at h
    obtain ⟨rfl,rfl⟩:=h
    obtain ⟨ha,hy⟩:=All.snoc (l:=e1.ob) hob
    refine ⟨h1 ▸ ha,fun g a w S=>?_⟩
    obtain ⟨k,S'⟩:=S.shareT hx
    refine ⟨g.shareT t,k,?_,?_,(S.env t _ hx).1⟩
    ·show SRep C _ (e1.st.setT t (.d (.v y))) a w
     rw [h2,← hy];exact S'
    ·obtain ⟨_,h3,_⟩:=S'.env t (.d (D.v x).shr) (by simp [St.setT,look])
     rw [show (g.shareT t).TE t=[] by simp [G.shareT]] at h3
     have h3:=RepD.inv (x:=x.shr) h3
     rw [hy] at h3
     exact h3
 ·cases h
theorem getD_of_getElem? {ts:Array Value} {t:Nat} {v:Value} (h:ts[t]? = some v):ts.getD t undef=v:=by
 rw [Array.getD_eq_getD_getElem?,h];rfl
theorem val_ok {x:Operand} {e e':E} {u:V} (h:val x e=some (u,e')):ValOk C x e u e':=by
 intro hob
 cases x with
 | const v=>cases h;exact ⟨hob,fun g a w S=>⟨g,KeepsG.refl g w,S,.lit v⟩⟩
 | global v=>cases h;exact ⟨hob,fun g a w S=>⟨g,KeepsG.refl g w,S,.lit _⟩⟩
 | func v=>cases h;exact ⟨hob,fun g a w S=>⟨g,KeepsG.refl g w,S,.clo .nil⟩⟩
 | tmp t =>
  simp only [val] at h
  split at h
  ·rename_i s hs
   obtain ⟨h1,h2⟩:=valT_ok (C:=C) h hob
   refine ⟨h1,fun g a w S=>?_⟩
   obtain ⟨g',k,S',r,hsN⟩:=h2 g a w S
   refine ⟨g',k,S',?_⟩
   obtain ⟨_,⟨_,h4⟩,_⟩:=S.env t _ hs
   have e1:=getD_of_getElem? h4
   show Rep _ w (a.tmps.getD t undef) u []
   simp only [pv,pvR] at h4
   rw [e1] at r
   exact r
  ·obtain ⟨h1,h2⟩:=valT_ok (C:=C) h hob
   refine ⟨h1,fun g a w S=>?_⟩
   obtain ⟨g',k,S',r,_⟩:=h2 g a w S
   exact ⟨g',k,S',r⟩
def vals:List Operand→E→Option (List V × E)
 | [],e=>some ([],e)
 | x :: xs,e=>match val x e with
  | none=>none
  | some (u,e)=>match vals xs e with
   | none=>none
   | some (us,e)=>some (u :: us,e)
theorem vals_ok:∀ {xs:List Operand} {e e':E} {us:List V},vals xs e=some (us,e')→All e'.ob→All e.ob∧∀ g a w,SRep C g e.st a w→∃ g',KeepsG g g' w w∧SRep C g' e'.st a w∧RepL g'.pub w (xs.map a.eval) us []
 | [],e,e',us,h,hob=>by cases h;exact ⟨hob,fun g a w S=>⟨g,KeepsG.refl g w,S,.nil⟩⟩
 | x :: xs,e,e',us,h,hob=>by
  simp only [vals] at h
  cases h1:val x e with
  | none=>rw [h1] at h;cases h
  | some r =>
   obtain ⟨u,e1⟩:=r
   rw [h1] at h
   simp only at h
   cases h2:vals xs e1 with
   | none=>rw [h2] at h;cases h
   | some r2 =>
    obtain ⟨vs,e2⟩:=r2
    rw [h2] at h
    cases h
    obtain ⟨a1,k2⟩:=vals_ok h2 hob
    obtain ⟨a0,k1⟩:=val_ok (C:=C) h1 a1
    refine ⟨a0,fun g a w S=>?_⟩
    obtain ⟨g1,kk1,S1,r1⟩:=k1 g a w S
    obtain ⟨g2,kk2,S2,r2⟩:=k2 g1 a w S1
    exact ⟨g2,kk1.trans kk2,S2,RepL.cons (A:=[]) (B:=[]) (r1.keep kk2.k (fun _ h=>by cases h)) r2⟩
def calmT (P:Program) (t:TypeId):Bool:=match P.underlying t with
 | some (.pointer _) | some (.func _ _ _) | none=>false
 | _=>true
def calmK (P:Program):Op→Bool
 | .store _ _ _=>false
 | .next _ _=>false
 | .call c=>match c.callee with
  | .builtin .append | .builtin .copy=>false
  | .value (.func n)=>match P.funcs[n]? with
   | some fn=>fn.params.toList.all (calmT P)
   | none=>false
  | .value _=>false
  | _=>true
 | _=>true
def OpOk (P:Program) (C:Ctx) (o:Oper) (e e':E):Prop :=
 All e'.ob→All e.ob∧∀ g a w,SRep C g e.st a w→∀ (next:Act→World→Prop) (Q:Exit→Act→World→Prop),(∀ g' a' w',SRep C g' e'.st a' w'→(calmK P o.op=true→Calm w w')→next a' w')→o.wp P a w next Q
def dstOf (N:Nat) (o:Oper):Option Nat:=match o.dst with
 | some d=>match Nat.ble (d+1) N with
  | true=>some d
  | false=>none
 | none=>none
theorem dstOf_eq {N d:Nat} {o:Oper} (h:dstOf N o=some d):o.dst=some d∧d < N:=by
 unfold dstOf at h
 cases hd:o.dst with
 | none=>rw [hd] at h;cases h
 | some x =>
  rw [hd] at h
  cases hb:Nat.ble (x+1) N with
  | false=>simp only [hb] at h;cases h
  | true=>simp only [hb] at h;cases h;exact ⟨rfl,Nat.le_of_ble_eq_true hb⟩
theorem wp_of_run {o:Oper} {a:Act} {w w':World} {v:Value} {next:Act→World→Prop} {Q:Exit→Act→World→Prop} (h:(execOp a.eval o).run P w=.ok (.value v) w') (hn:next (a.put o.dst v) w'):o.wp P a w next Q:=by
 unfold Oper.wp
 rw [h];exact hn
def E.put (e:E) (d:Nat) (u:V):E:={ e with st:=e.st.put d (.d (.v u)) }
theorem OpOk.of {o:Oper} {xs:List Operand} {e e1 e':E} {us:List V} {u:V} {d:Nat} (hd:dstOf C.N o=some d) (hv:vals xs e=some (us,e1))
 (h':e'.st=e1.st.put d (.d (.v u))) (hob:All e'.ob→All e1.ob)
 (hrun:All e'.ob→∀ (ρ:Operand→Value) (w:World) (p:Pub),RepL p w (xs.map ρ) us []→∃ v w',(execOp ρ o).run P w=.ok (.value v) w'∧Calm w w'∧∃ q:Pub,(∀ b,q b→w.heap.size≤b∧b < w'.heap.size)∧Rep (fun b=>p b∨q b) w' v u []):OpOk P C o e e':=by
 intro hA
 obtain ⟨hdd,hdN⟩:=dstOf_eq hd
 obtain ⟨h0,k⟩:=vals_ok (C:=C) hv (hob hA)
 refine ⟨h0,fun g a w S next Q hn=>?_⟩
 obtain ⟨g1,kk,S1,r⟩:=k g a w S
 obtain ⟨v,w',hr,hc,q,hq,hR⟩:=hrun hA a.eval w g1.pub r
 refine wp_of_run hr ?_
 have:=S1.put (d:=d) (v:=v) (x:=.d (.v u)) (T:=[]) (p:=q) hc hdN hq List.nodup_nil (fun _ h=>by cases h) (.v hR)
 rw [hdd]
 refine hn _ _ _ (?_:SRep C (g1.put d [] q) e'.st _ _) (fun _=>hc)
 rw [h']
 exact this
theorem Rep.pubW {p:Pub} {w w':World} {v:Value} {u:V} (q:Pub) (hq:∀ b,p b→w'.heap[b]? = w.heap[b]?) (h:Rep p w v u []):Rep (fun b=>p b∨q b) w' v u [] :=
 h.keep ⟨fun b hb=>.inl hb,hq⟩ (fun _ h=>by cases h)
theorem OpOk.of0 {o:Oper} {xs:List Operand} {e e1 e':E} {us:List V} {u:V} {d:Nat} (hd:dstOf C.N o=some d) (hv:vals xs e=some (us,e1))
 (h':e'.st=e1.st.put d (.d (.v u))) (hob:All e'.ob→All e1.ob)
 (hrun:All e'.ob→∀ (ρ:Operand→Value) (w:World) (p:Pub),RepL p w (xs.map ρ) us []→∃ v,(execOp ρ o).run P w=.ok (.value v) w∧Rep p w v u []):OpOk P C o e e' :=
 OpOk.of hd hv h' hob fun hA ρ w p r=>let ⟨v,h1,h2⟩:=hrun hA ρ w p r;⟨v,w,h1,Calm.refl w,fun _=>False,fun _ h=>h.elim,h2.pubW _ (fun _ _=>rfl)⟩
end
def lits:List V→Option (List Value)
 | []=>some []
 | .lit v :: l=>match lits l with
  | some vs=>some (v :: vs)
  | none=>none
 | .kb b :: l=>match lits l with
  | some vs=>some (.bool b :: vs)
  | none=>none
 | _=>none
theorem lits_rep {p:Pub} {w:World}:∀ {us:List V} {vs xs:List Value},lits us=some vs→RepL p w xs us []→xs=vs
 | [],vs,xs,h,r=>by cases h;cases r;rfl
 | u :: us,vs,xs,h,r=>by
  cases u with
  | lit v =>
   simp only [lits] at h
   cases h1:lits us with
   | none=>rw [h1] at h;cases h
   | some ws =>
    rw [h1] at h
    cases h
    generalize hT:([]:List Nat)=T at r
    cases r with
    | cons r1 r2 =>
     cases r1
     have e:=lits_rep h1 (by
      rename_i A B
      have:=(List.append_eq_nil_iff.1 hT.symm).2
      rw [this] at r2;exact r2)
     rw [e]
  | kb v =>
   simp only [lits] at h
   cases h1:lits us with
   | none=>rw [h1] at h;cases h
   | some ws =>
    rw [h1] at h
    cases h
    generalize hT:([]:List Nat)=T at r
    cases r with
    | cons r1 r2 =>
     cases r1
     have e:=lits_rep h1 (by
      rename_i A B
      have:=(List.append_eq_nil_iff.1 hT.symm).2
      rw [this] at r2;exact r2)
     rw [e]
  | _=>simp [lits] at h
section
variable {P:Program} {C:Ctx}
def lookV:List (Nat × Value)→Nat→Option Value
 | [],_=>none
 | (k,v) :: l,d=>match Nat.beq d k with
  | true=>some v
  | false=>lookV l d
def evLit (N:Nat) (o:Oper) (xs:List Operand) (f:List Value→Option (Value × List Prop)) (e:E):Option E :=
 match dstOf N o with
 | none=>none
 | some d=>match vals xs e with
  | none=>none
  | some (us,e)=>match lits us with
   | none=>none
   | some vs=>match f vs with
    | none=>none
    | some (v,obs)=>match lookV e.rw d with
     | none=>some (({ e with ob:=e.ob++obs }:E).put d (.lit v))
     | some u=>some (({ e with ob:=e.ob++obs++[v=u] }:E).put d (.lit u))
theorem evLit_ok {o:Oper} {xs:List Operand} {f:List Value→Option (Value × List Prop)} {e e':E} (h:evLit C.N o xs f e=some e')
 (hf:∀ vs v obs,f vs=some (v,obs)→All obs→∀ (ρ:Operand→Value) (w:World),xs.map ρ=vs→(execOp ρ o).run P w=.ok (.value v) w):OpOk P C o e e':=by
 unfold evLit at h
 split at h
 ·cases h
 rename_i d hd
 split at h
 ·cases h
 rename_i us e1 hv
 split at h
 ·cases h
 rename_i vs hl
 split at h
 ·cases h
 rename_i v obs hfv
 split at h
 ·cases h
  exact OpOk.of0 hd hv rfl (fun h=>All.left h) fun hA ρ w p r=>⟨v,hf vs v obs hfv (All.right hA) ρ w (lits_rep hl r),.lit v⟩
 ·rename_i u _
  cases h
  refine OpOk.of0 hd hv rfl (fun h=>All.left (All.left h)) fun hA ρ w p r=>⟨u,?_,.lit u⟩
  have e:v=u:=by cases All.right hA with | cons h _=>exact h
  rw [← e]
  exact hf vs v obs hfv (All.right (All.left hA)) ρ w (lits_rep hl r)
def wrapK (k:IntKind) (n:Int):Int:=match k with
 | .i64=>wrap64 n
 | .i32=>wrap32 n
 | .u8=>n % 256
 | .u32=>n % 4294967296
 | k=>k.wrap n
theorem wrapK_eq (k:IntKind) (n:Int):wrapK k n=k.wrap n:=by
 cases k<;>simp only [wrapK]
 ·rw [wrap32];simp only [IntKind.wrap,IntKind.bits,IntKind.signed];simp;omega
 ·rw [wrap64,IntKind.wrap_i64]
 ·simp [IntKind.wrap,IntKind.bits,IntKind.signed]
 ·simp [IntKind.wrap,IntKind.bits,IntKind.signed]
def mn (a b:Int):Int:=if b < a then b else a
def shl (k:IntKind) (x y:Int):Int:=k.wrap (x*2 ^ min y.toNat k.bits)
def shr (k:IntKind) (x y:Int):Int:=x / 2 ^ min y.toNat k.bits
def intR (op:BinOp) (k:IntKind) (y:Operand) (m n:Int):Option (Value × List Prop):=match op with
 | .add=>some (.int k (wrapK k (m+n)),[])
 | .sub=>some (.int k (wrapK k (m - n)),[])
 | .mul=>some (.int k (wrapK k (m*n)),[])
 | .quo=>some (.int k (wrapK k (m.tdiv n)),[n≠0])
 | .rem=>some (.int k (m.tmod n),[n≠0])
 | .and=>some (.int k (bits .and k m n),[])
 | .or=>some (.int k (bits .or k m n),[])
 | .xor=>some (.int k (bits .xor k m n),[])
 | .andNot=>some (.int k (bits .andNot k m n),[])
 | .eql=>some (.bool (m == n),[])
 | .neq=>some (.bool (m != n),[])
 | .lss=>some (.bool (m < n),[])
 | .leq=>some (.bool (m≤n),[])
 | .gtr=>some (.bool (m > n),[])
 | .geq=>some (.bool (m≥n),[])
 | _=>none
def shfR (op:BinOp) (k:IntKind) (y:Operand) (m n:Int):Option (Value × List Prop):=match op with
 | .shl=>match y with
  | .const _=>some (.int k (wrapK k (m*2 ^ min n.toNat k.bits)),[0≤n])
  | _=>some (.int k (shl k m n),[0≤n])
 | .shr=>some (.int k (shr k m n),[0≤n])
 | _=>none
theorem intR_run {P:Program} {op:BinOp} {t:TypeId} {k:IntKind} {y:Operand} {m n:Int} {v:Value} {obs:List Prop} (h:intR op k y m n=some (v,obs)) (hA:All obs) (w:World):(binOp op t (.int k m) (.int k n)).run P w=.ok v w:=by
 cases op<;>simp only [intR,reduceCtorEq] at h<;>cases h<;>first
  | (simp [binOp,Op.intArith,wrapK_eq];done)
  | (cases hA with | cons hA _=>simp [binOp,Op.intDiv,hA,wrapK_eq])
  | (simp [binOp,Op.intBits,bits];done)
  | (simp [binOp,Op.intCmp];done)
theorem shfR_run {P:Program} {op:BinOp} {t:TypeId} {k k':IntKind} {y:Operand} {m n:Int} {v:Value} {obs:List Prop} (h:shfR op k y m n=some (v,obs)) (hA:All obs) (w:World):(binOp op t (.int k m) (.int k' n)).run P w=.ok v w:=by
 cases op<;>simp only [shfR,reduceCtorEq] at h
 ·split at h<;>cases h<;>cases hA with | cons hA _=>simp [binOp,Op.shift,Int.not_lt.2 hA,wrapK_eq,shl]
 ·cases h
  cases hA with
  | cons hA _ =>
   have hp:(0:Int)≤2 ^ min n.toNat k.bits:=Int.pow_nonneg (by decide)
   simp [binOp,Op.shift,Int.not_lt.2 hA,shr,Int.fdiv_eq_ediv_of_nonneg _ hp]
def fok (x y:Nat):Bool:=(floatBits .add .f64 x y).isSome
def fadd (x y:Nat):Nat:=(floatBits .add .f64 x y).getD 0
def fsok (x y:Nat):Bool:=(floatBits .sub .f64 x y).isSome
def fsub (x y:Nat):Nat:=(floatBits .sub .f64 x y).getD 0
def feq (x y:Nat):Bool:=FloatKind.f64.format.order x y == some .eq
def flt (x y:Nat):Bool:=FloatKind.f64.format.order x y == some .lt
def fgt (x y:Nat):Bool:=FloatKind.f64.format.order x y == some .gt
def fle (x y:Nat):Bool:=flt x y || feq x y
def fge (x y:Nat):Bool:=fgt x y || feq x y
def fint (x:Nat):Int:=(floatToIntVal .f64 x .i64).getD 0
def fiok (x:Nat):Bool:=(floatToIntVal .f64 x .i64).isSome
theorem getD_is {α:Type} {o:Option α} {d:α} (h:o.isSome=true):o=some (o.getD d):=by
 cases o with
 | none=>cases h
 | some x=>rfl
def floatR (op:BinOp) (a b:Nat):Option (Value × List Prop):=match op with
 | .lss=>some (.bool (flt a b),[])
 | .leq=>some (.bool (fle a b),[])
 | .gtr=>some (.bool (fgt a b),[])
 | .geq=>some (.bool (fge a b),[])
 | .eql=>some (.bool (feq a b),[])
 | .neq=>some (.bool (!feq a b),[])
 | .add=>some (.float .f64 (fadd a b),[fok a b=true])
 | .sub=>some (.float .f64 (fsub a b),[fsok a b=true])
 | _=>none
def cplxR (op:BinOp) (a b c d:Nat):Option (Value × List Prop):=match op with
 | .eql=>some (.bool (feq a c && feq b d),[])
 | .neq=>some (.bool (!(feq a c && feq b d)),[])
 | .add=>some (.complex .f64 (fadd a c) (fadd b d),[fok a c=true,fok b d=true])
 | _=>none
theorem floatR_run {P:Program} {op:BinOp} {t:TypeId} {a b:Nat} {v:Value} {obs:List Prop} (h:floatR op a b=some (v,obs)) (hA:All obs) (w:World):(binOp op t (.float .f64 a) (.float .f64 b)).run P w=.ok v w:=by
 cases op<;>simp only [floatR,reduceCtorEq] at h<;>cases h<;>first
  | (cases hA with | cons hA _=>exact run_float_arith w _ t .f64 a b _ (getD_is hA))
  | (simp [binOp,Op.floatCmp,flt,fgt,feq,fle,fge,bne];done)
theorem cplxR_run {P:Program} {op:BinOp} {t:TypeId} {a b c d:Nat} {v:Value} {obs:List Prop} (h:cplxR op a b c d=some (v,obs)) (hA:All obs) (w:World):(binOp op t (.complex .f64 a b) (.complex .f64 c d)).run P w=.ok v w:=by
 cases op<;>simp only [cplxR,reduceCtorEq] at h<;>cases h<;>first
  | (cases hA with
   | cons h1 hA=>cases hA with
    | cons h2 _ =>
     have e1:floatBits .add .f64 a c=some (fadd a c):=getD_is h1
     have e2:floatBits .add .f64 b d=some (fadd b d):=getD_is h2
     exact run_complex_sum w .add (Or.inl rfl) t .f64 a b c d _ _ (by simp [cSumBits,e1,e2]))
  | (simp [binOp,Op.complexOp,Op.Complex.cmp,Op.floatCmp,feq,asBool];done)
def isSh:BinOp→Bool
 | .shl=>true
 | .shr=>true
 | _=>false
def binR (P:Program) (op:BinOp) (t:TypeId) (x y:Operand):List Value→Option (Value × List Prop)
 | [.string s,.string u]=>match op with
  | .add=>some (.string (s++u),[s.size+u.size≤9223372036854775807])
  | _=>(pureRun P (binOp op t (.string s) (.string u))).map fun v=>(v,[])
 | [.int k m,.int k' n]=>match isSh op with
  | true=>shfR op k y m n
  | false=>match k == k' with
   | true=>intR op k y m n
   | false=>none
 | [.bool a,.bool b]=>(pureRun P (binOp op t (.bool a) (.bool b))).map fun v=>(v,[])
 | [.float .f64 a,.float .f64 b]=>floatR op a b
 | [.complex .f64 a b,.complex .f64 c d]=>cplxR op a b c d
 | _=>none
theorem guard_run (P:Program) (w:World) (op:BinOp) (t:TypeId) (x y:Operand) {a b:Value} (h:(∃ s u,a=.string s∧b=.string u)∨(∃ k m k' n,a=.int k m∧b=.int k' n)∨(∃ p q,a=.bool p∧b=.bool q)∨(∃ k m k' n,a=.float k m∧b=.float k' n)∨∃ k m n k' m' n',a=.complex k m n∧b=.complex k' m' n') :
 (eqGuard op t x y a b).run P w=.ok () w:=by
 rcases h with ⟨s,u,rfl,rfl⟩ | ⟨k,m,k',n,rfl,rfl⟩ | ⟨p,q,rfl,rfl⟩ | ⟨k,m,k',n,rfl,rfl⟩ | ⟨k,m,n,k',m',n',rfl,rfl⟩<;>cases op<;>simp [eqGuard]
theorem binR_ok {op:BinOp} {t ty:TypeId} {x y:Operand} {vs:List Value} {v:Value} {obs:List Prop} {o:Oper} (ho:o.op=.binOp op t x y ty) (h:binR P op t x y vs=some (v,obs)) (hA:All obs)
 (ρ:Operand→Value) (w:World) (hρ:[x,y].map ρ=vs):(execOp ρ o).run P w=.ok (.value v) w:=by
 have key:∀ a b,ρ x=a→ρ y=b→((∃ s u,a=.string s∧b=.string u)∨(∃ k m k' n,a=.int k m∧b=.int k' n)∨(∃ p q,a=.bool p∧b=.bool q)∨(∃ k m k' n,a=.float k m∧b=.float k' n)∨∃ k m n k' m' n',a=.complex k m n∧b=.complex k' m' n')→(binOp op t a b).run P w=.ok v w→(execOp ρ o).run P w=.ok (.value v) w:=by
  intro a b ha hb hg hr
  unfold execOp
  simp only [ho,Sem.run_bind,ha,hb,guard_run P w op t x y hg,Result.andThen_ok,hr,Sem.run_pure]
 have pk:∀ a b,(pureRun P (binOp op t a b)).map (fun v=>(v,([]:List Prop)))=some (v,obs)→(binOp op t a b).run P w=.ok v w:=by
  intro a b hh
  cases hp:pureRun P (binOp op t a b) with
  | none=>rw [hp] at hh;cases hh
  | some u=>rw [hp] at hh;cases hh;exact pureRun_run hp w
 unfold binR at h
 split at h
 ·rename_i s u
  simp only [List.map_cons,List.map_nil,List.cons.injEq,and_true] at hρ
  refine key _ _ hρ.1 hρ.2 (.inl ⟨s,u,rfl,rfl⟩) ?_
  split at h
  ·cases h
   cases hA with
   | cons hA _ =>
    simp only [binOp,Op.stringOp]
    rw [if_neg]
    ·rfl
    ·simp only [IntKind.max,IntKind.signed,IntKind.bits];omega
  ·exact pk _ _ h
 ·rename_i k m k' n
  simp only [List.map_cons,List.map_nil,List.cons.injEq,and_true] at hρ
  refine key _ _ hρ.1 hρ.2 (.inr (.inl ⟨k,m,k',n,rfl,rfl⟩)) ?_
  split at h
  ·exact shfR_run h hA w
  ·split at h
   ·rename_i hk
    have hk:=eq_of_beq hk
    subst hk
    exact intR_run h hA w
   ·cases h
 ·rename_i p q
  simp only [List.map_cons,List.map_nil,List.cons.injEq,and_true] at hρ
  exact key _ _ hρ.1 hρ.2 (.inr (.inr (.inl ⟨p,q,rfl,rfl⟩))) (pk _ _ h)
 ·rename_i m n
  simp only [List.map_cons,List.map_nil,List.cons.injEq,and_true] at hρ
  exact key _ _ hρ.1 hρ.2 (.inr (.inr (.inr (.inl ⟨_,m,_,n,rfl,rfl⟩)))) (floatR_run h hA w)
 ·simp only [List.map_cons,List.map_nil,List.cons.injEq,and_true] at hρ
  exact key _ _ hρ.1 hρ.2 (.inr (.inr (.inr (.inr ⟨_,_,_,_,_,_,rfl,rfl⟩)))) (cplxR_run h hA w)
 ·cases h
end
section
variable {P:Program} {C:Ctx}
def pure1 (P:Program) (s:Sem Value):Option (Value × List Prop):=match pureRun P s with
 | some v=>some (v,[])
 | none=>none
theorem pure1_run {s:Sem Value} {v:Value} {obs:List Prop} (h:pure1 P s=some (v,obs)) (w:World):s.run P w=.ok v w:=by
 unfold pure1 at h
 cases hp:pureRun P s with
 | none=>rw [hp] at h;cases h
 | some u=>rw [hp] at h;cases h;exact pureRun_run hp w
def unR (P:Program) (op:UnOp):List Value→Option (Value × List Prop)
 | [a]=>pure1 P (Op.unary op a)
 | _=>none
theorem unR_ok {op:UnOp} {t:TypeId} {x:Operand} {vs:List Value} {v:Value} {obs:List Prop} {o:Oper} (ho:o.op=.unOp op t x) (h:unR P op vs=some (v,obs))
 (ρ:Operand→Value) (w:World) (hρ:[x].map ρ=vs):(execOp ρ o).run P w=.ok (.value v) w:=by
 subst hρ
 have:=pure1_run (P:=P) h w
 unfold execOp
 simp only [ho,Sem.run_bind,this,Result.andThen_ok,Sem.run_pure]
def convR (P:Program) (s d:TypeId):List Value→Option (Value × List Prop)
 | [.int k' n]=>match P.underlying s,P.underlying d with
  | some _,some (.int k)=>some (.int k (wrapK k n),[])
  | _,_=>pure1 P (convert s d (.int k' n))
 | [.float .f64 b]=>match P.underlying s,P.underlying d with
  | some _,some (.int .i64)=>some (.int .i64 (fint b),[fiok b=true])
  | _,_=>pure1 P (convert s d (.float .f64 b))
 | [a]=>pure1 P (convert s d a)
 | _=>none
theorem convR_ok {s d:TypeId} {x:Operand} {vs:List Value} {v:Value} {obs:List Prop} {o:Oper} (ho:o.op=.convert s d x) (h:convR P s d vs=some (v,obs)) (hA:All obs)
 (ρ:Operand→Value) (w:World) (hρ:[x].map ρ=vs):(execOp ρ o).run P w=.ok (.value v) w:=by
 subst hρ
 have key:(convert s d (ρ x)).run P w=.ok v w:=by
  simp only [List.map_cons,List.map_nil] at h
  unfold convR at h
  split at h
  ·rename_i k' n hl
   have hx:ρ x=.int k' n:=(List.cons.inj hl).1
   rw [hx]
   split at h
   ·rename_i ts k h1 h2
    simp only [Option.some.injEq,Prod.mk.injEq] at h
    obtain ⟨rfl,_⟩:=h
    unfold convert
    simp only [Sem.run_bind,run_underlying h1,run_underlying h2,Result.andThen_ok,wrapK_eq]
    cases ts<;>rfl
   ·exact pure1_run (P:=P) h w
  ·rename_i b hl
   have hx:ρ x=.float .f64 b:=(List.cons.inj hl).1
   rw [hx]
   split at h
   ·rename_i ts h1 h2
    cases h
    cases hA with
    | cons hA _=>exact run_convert_float_int w s d .f64 .i64 b _ (by rw [h1];rfl) h2 (getD_is hA)
   ·exact pure1_run (P:=P) h w
  ·rename_i a _ _ hl
   have hx:ρ x=a:=(List.cons.inj hl).1
   rw [hx]
   exact pure1_run (P:=P) h w
  ·cases h
 unfold execOp
 simp only [ho,Sem.run_bind,key,Result.andThen_ok,Sem.run_pure]
def pickR:List Value→Option (Value × List Prop)
 | [.bool c,a,b]=>some (match c with | true=>a | false=>b,[])
 | _=>none
theorem pickR_ok {c x y:Operand} {vs:List Value} {v:Value} {obs:List Prop} {o:Oper} (ho:o.op=.pick c x y) (h:pickR vs=some (v,obs))
 (ρ:Operand→Value) (w:World) (hρ:[c,x,y].map ρ=vs):(execOp ρ o).run P w=.ok (.value v) w:=by
 unfold pickR at h
 split at h
 ·rename_i c' a b
  cases h
  simp only [List.map_cons,List.map_nil,List.cons.injEq,and_true] at hρ
  obtain ⟨h1,h2,h3⟩:=hρ
  unfold execOp
  simp only [ho,Sem.run_bind,h1,h2,h3,asBool,Sem.run_pure,Result.andThen_ok]
  cases c'<;>rfl
 ·cases h
def bltR (P:Program) (b:Builtin) (ts:Array TypeId) (ty:TypeId) (vs:List Value):Option (Value × List Prop) :=
 match b with
 | .len=>pure1 P (Builtin.len_ ts ty vs.toArray)
 | .max=>pure1 P (Builtin.max_ ts ty vs.toArray)
 | .min=>pure1 P (Builtin.min_ ts ty vs.toArray)
 | .complex=>pure1 P (Builtin.complex_ ts ty vs.toArray)
 | .real=>pure1 P (Builtin.real_ ts ty vs.toArray)
 | .imag=>pure1 P (Builtin.imag_ ts ty vs.toArray)
 | _=>none
theorem bltR_ok {b:Builtin} {c:Call} {vs:List Value} {v:Value} {obs:List Prop} {o:Oper} (ho:o.op=.call c) (hc:c.callee=.builtin b) (h:bltR P b c.argTypes o.type vs=some (v,obs))
 (ρ:Operand→Value) (w:World) (hρ:c.args.toList.map ρ=vs):(execOp ρ o).run P w=.ok (.value v) w:=by
 have e:(c.args.map ρ)=vs.toArray:=by rw [← hρ];apply Array.ext';rw [Array.toList_map]
 unfold bltR at h
 unfold execOp
 simp only [ho,resolve,hc,e,Sem.run_bind,Sem.run_pure,Result.andThen_ok,invoke]
 split at h
 all_goals try (cases h;done)
 all_goals (have:=pure1_run (P:=P) h w;simp only [builtin,Sem.run_bind,this,Result.andThen_ok,Sem.run_pure])
def bt (s:ByteArray) (i:Int):Int:=if h:i.toNat < s.size then ((s[i.toNat]'h).toNat:Int) else 0
def ixR (P:Program) (t:TypeId):List Value→Option (Value × List Prop)
 | [.string s,.int k i]=>match P.underlying t with
  | some .string=>some (.int .u8 (bt s i),[0≤i,i < (s.size:Int)])
  | _=>none
 | _=>none
theorem ixR_ok {t:TypeId} {x y:Operand} {vs:List Value} {v:Value} {obs:List Prop} {o:Oper} (ho:o.op=.index t x y) (h:ixR P t vs=some (v,obs)) (hA:All obs)
 (ρ:Operand→Value) (w:World) (hρ:[x,y].map ρ=vs):(execOp ρ o).run P w=.ok (.value v) w:=by
 unfold ixR at h
 split at h
 ·rename_i s k i
  split at h
  ·rename_i hu
   cases h
   simp only [List.map_cons,List.map_nil,List.cons.injEq,and_true] at hρ
   obtain ⟨h1,h2⟩:=hρ
   cases hA with
   | cons a1 hA=>cases hA with
    | cons a2 _ =>
     have hi:i.toNat < s.data.toList.length:=by
      have:s.size=s.data.toList.length:=(Array.length_toList (xs:=s.data)).symm
      omega
     have e:s[i.toNat]? = some (s.data.toList[i.toNat]'hi):=by
      have hs:i.toNat < s.size:=Nat.lt_of_lt_of_eq hi (Array.length_toList (xs:=s.data))
      rw [getElem?_pos s i.toNat hs]
      rfl
     have hs':i.toNat < s.size:=Nat.lt_of_lt_of_eq hi (Array.length_toList (xs:=s.data))
     have eb:bt s i=((s.data.toList[i.toNat]'hi).toNat:Int):=by simp only [bt];rw [dif_pos hs'];rfl
     unfold execOp
     simp only [ho,h1,h2,Instr.index,asIntOf,Sem.run_bind,Sem.run_pure,Result.andThen_ok,run_underlying hu,a1,if_true,e,eb]
  ·cases h
 ·cases h
end
section
variable {P:Program} {C:Ctx}
theorem run_sliceBound (P:Program) (w:World) (k:IntKind) (i:Int) (y:Nat) (code:BoundsCode) (h0:0≤i) (h1:i≤(y:Int)):(Instr.sliceBound (.int k i) y code).run P w=.ok i.toNat w:=by
 simp only [Instr.sliceBound,asIntOf,Sem.run_bind,Sem.run_pure,Result.andThen_ok]
 rw [if_pos ⟨h0,h1⟩];rfl
def cutR (n:Nat):Bool→Bool→List Value→Option (Nat × Nat × List Prop)
 | false,false,[]=>some (0,n,[])
 | true,false,[.int _ l]=>some (l.toNat,n,[0≤l,l≤(n:Int)])
 | false,true,[.int _ h]=>some (0,h.toNat,[0≤h,h≤(n:Int)])
 | true,true,[.int _ l,.int _ h]=>some (l.toNat,h.toNat,[0≤l,l≤h,h≤(n:Int)])
 | _,_,_=>none
theorem cutR_le {n:Nat} {lo hi:Bool} {vs:List Value} {l h:Nat} {obs:List Prop} (hc:cutR n lo hi vs=some (l,h,obs)) (hA:All obs):l≤h∧h≤n:=by
 unfold cutR at hc
 split at hc
 ·cases hc;omega
 ·cases hc;cases hA with | cons a hA=>cases hA with | cons b _=>omega
 ·cases hc;cases hA with | cons a hA=>cases hA with | cons b _=>omega
 ·cases hc;cases hA with | cons a hA=>cases hA with | cons b hA=>cases hA with | cons c _=>omega
 ·cases hc
theorem cutR_run {n cap:Nat} {lo hi:Option Operand} {ρ:Operand→Value} {vs:List Value} {l h:Nat} {obs:List Prop} (w:World) (isS:Bool) (hcap:n≤cap)
 (hρ:(lo.toList++hi.toList).map ρ=vs) (hc:cutR n lo.isSome hi.isSome vs=some (l,h,obs)) (hA:All obs) :
 (Instr.sliceBounds isS n cap (lo.map ρ) (hi.map ρ) none).run P w=.ok (l,h,cap) w:=by
 cases lo with
 | none =>
  cases hi with
  | none =>
   simp only [Option.toList,List.append_nil,List.map_nil] at hρ
   subst hρ
   simp only [Option.isSome,cutR] at hc
   cases hc
   simp [Instr.sliceBounds]
  | some y =>
   simp only [Option.toList,List.nil_append,List.map_cons,List.map_nil] at hρ
   subst hρ
   simp only [Option.isSome] at hc
   cases e:ρ y<;>simp only [e,cutR,reduceCtorEq] at hc
   cases hc
   cases hA with | cons a hA=>cases hA with | cons b _ =>
   simp only [Instr.sliceBounds,Option.map_some,Option.map_none,e,Sem.run_bind,Sem.run_pure,Result.andThen_ok]
   rw [run_sliceBound P w _ _ cap _ a (by omega)]
   rfl
 | some x =>
  cases hi with
  | none =>
   simp only [Option.toList,List.append_nil,List.map_cons,List.map_nil] at hρ
   subst hρ
   simp only [Option.isSome] at hc
   cases e:ρ x<;>simp only [e,cutR,reduceCtorEq] at hc
   cases hc
   cases hA with | cons a hA=>cases hA with | cons b _ =>
   simp only [Instr.sliceBounds,Option.map_some,Option.map_none,e,Sem.run_bind,Sem.run_pure,Result.andThen_ok,Option.isSome,Bool.false_eq_true,if_false]
   rw [run_sliceBound P w _ _ n _ a (by omega)]
   rfl
  | some y =>
   simp only [Option.toList,List.cons_append,List.nil_append,List.map_cons,List.map_nil] at hρ
   subst hρ
   simp only [Option.isSome] at hc
   cases e1:ρ x<;>simp only [e1,cutR,reduceCtorEq] at hc
   cases e2:ρ y<;>simp only [e2,cutR,reduceCtorEq] at hc
   cases hc
   cases hA with | cons a hA=>cases hA with | cons b hA=>cases hA with | cons c _ =>
   simp only [Instr.sliceBounds,Option.map_some,Option.map_none,e1,e2,Sem.run_bind,Sem.run_pure,Result.andThen_ok,Option.isSome,Bool.false_eq_true,if_false]
   rw [run_sliceBound P w _ _ cap _ (by omega) (by omega)]
   simp only [Result.andThen_ok]
   rw [run_sliceBound P w _ _ _ _ a (by omega)]
   rfl
def slR (P:Program) (t:TypeId) (lo hi:Bool):List Value→Option (Value × List Prop)
 | .string s :: vs=>match P.underlying t with
  | some .string=>match cutR s.size lo hi vs with
   | some (l,h,obs)=>some (.string (s.extract l h),obs)
   | none=>none
  | _=>none
 | _=>none
theorem slR_ok {t:TypeId} {x:Operand} {lo hi:Option Operand} {vs:List Value} {v:Value} {obs:List Prop} {o:Oper} (ho:o.op=.slice t x lo hi none) (h:slR P t lo.isSome hi.isSome vs=some (v,obs)) (hA:All obs)
 (ρ:Operand→Value) (w:World) (hρ:(x :: (lo.toList++hi.toList)).map ρ=vs):(execOp ρ o).run P w=.ok (.value v) w:=by
 unfold slR at h
 split at h
 ·rename_i s us
  split at h
  ·rename_i hu
   split at h
   ·rename_i l hh obs' hc
    cases h
    simp only [List.map_cons,List.cons.injEq] at hρ
    obtain ⟨h1,h2⟩:=hρ
    have:=cutR_run (P:=P) (cap:=s.size) w false (Nat.le_refl _) h2 hc hA
    unfold execOp
    simp only [ho,h1,Instr.sliceAt,Instr.slice,Sem.run_bind,run_underlying hu,Option.map_none,Result.andThen_ok,Option.isSome,Bool.false_eq_true,if_false,this,Sem.run_pure]
   ·cases h
  ·cases h
 ·cases h
end
def rootVal (st:St):Root→Option V
 | .t s=>match look st.env s with
  | some (.d (.v u))=>some u
  | _=>none
 | .b id c=>match st.box[id]? with
  | some (.cells cs)=>match cs[c]? with
   | some (.v u)=>some u
   | _=>none
  | _=>none
def peek (st:St):Operand→Option (Root × V)
 | .tmp t=>match look st.env t with
  | some (.al (.top r))=>match rootVal st r with
   | some u=>some (r,u)
   | none=>none
  | some (.d (.v u))=>some (.t t,u)
  | _=>none
 | _=>none
section
variable {P:Program} {C:Ctx} {g:G} {st:St} {a:Act} {w:World}
theorem RepDL.get {g:G} {w:World}:∀ {vs:List Value} {ds:List D} {T:List Nat} {c:Nat} {d:D},RepDL g w vs ds T→ds[c]? = some d→∃ v Tc,vs[c]? = some v∧RepD g w v d Tc∧(∀ b∈Tc,b∈T)∧(T.Nodup→Tc.Nodup)
 | _,_,_,_,_,.nil,h=>by simp at h
 | _,_,_,0,d,.cons (A:=A) (B:=B) h1 h2,h=>by
  simp only [List.getElem?_cons_zero,Option.some.injEq] at h
  subst h
  exact ⟨_,A,rfl,h1,fun b hb=>List.mem_append_left _ hb,fun hn=>(List.nodup_append.1 hn).1⟩
 | _,_,_,c+1,d,.cons (A:=A) (B:=B) h1 h2,h=>by
  simp only [List.getElem?_cons_succ] at h
  obtain ⟨v,Tc,e1,e2,e3,e4⟩:=h2.get h
  exact ⟨v,Tc,by simpa using e1,e2,fun b hb=>List.mem_append_right _ (e3 b hb),fun hn=>e4 (List.nodup_append.1 hn).2.1⟩
theorem rootVal_ok (S:SRep C g st a w) {r:Root} {u:V} (h:rootVal st r=some u):∃ v T,pvR g a w r=some v∧Rep g.pub w v u T∧(∀ b∈T,g.own b=some r.holder)∧T.Nodup:=by
 cases r with
 | t s =>
  simp only [rootVal] at h
  split at h
  ·rename_i x hx
   cases h
   obtain ⟨h1,h2,h3⟩:=S.env s _ hx
   refine ⟨a.tmps.getD s undef,g.TE s,?_,RepD.inv h2,h3,S.nodE s⟩
   have:s < a.tmps.size:=by rw [S.tmps];exact h1
   simp [pvR,Array.getD_eq_getD_getElem?,this]
  ·cases h
 | b id c =>
  simp only [rootVal] at h
  split at h
  ·rename_i cs hb
   split at h
   ·rename_i x hx
    cases h
    obtain ⟨⟨cur,e,A,hT,hh,hr,h1⟩,h2⟩:=S.box id _ hb
    obtain ⟨v,Tc,e1,e2,e3,e4⟩:=hr.get hx
    refine ⟨v,Tc,?_,RepD.inv e2,fun b hb=>h2 b (by rw [hT];simp [e3 b hb]),e4 ?_⟩
    ·have hid:id < g.n:=by
      rw [S.n]
      rcases Nat.lt_or_ge id st.box.length with h | h
      ·exact h
      ·rw [List.getElem?_eq_none h] at hb;cases hb
     simp only [pvR]
     rw [if_pos ⟨hid,h2 _ (by rw [hT];simp)⟩]
     simp only [World.cell?,hh]
     simpa using e1
    ·have:=S.nodB id
     rw [hT] at this
     exact (List.nodup_cons.1 this).2
   ·cases h
  ·cases h
theorem peek_ok (S:SRep C g st a w) {x:Operand} {r:Root} {u:V} (h:peek st x=some (r,u)):∃ T,pvR g a w r=some (a.eval x)∧Rep g.pub w (a.eval x) u T∧(∀ b∈T,g.own b=some r.holder)∧T.Nodup:=by
 cases x with
 | tmp t =>
  simp only [peek] at h
  split at h
  ·rename_i q hq
   split at h
   ·rename_i u' hu
    cases h
    obtain ⟨v,T,h1,h2,h3⟩:=rootVal_ok S hu
    obtain ⟨_,⟨_,h4⟩,_⟩:=S.env t _ hq
    simp only [pv] at h4
    have:v=a.eval (.tmp t):=by
     rw [h4] at h1
     exact (Option.some.inj h1).symm
    rw [← this]
    exact ⟨T,h1,h2,h3⟩
   ·cases h
  ·rename_i u' hu
   cases h
   obtain ⟨v,T,h1,h2,h3⟩:=rootVal_ok S (r:=.t t) (u:=u) (by simp [rootVal,hu])
   have e:a.eval (.tmp t)=v:=by
    simp only [pvR] at h1
    exact getD_of_getElem? h1
   rw [e]
   exact ⟨T,h1,h2,h3⟩
  ·cases h
 | _=>simp [peek] at h
theorem Rep.row_inv {p:Pub} {w:World} {v:Value} {o:Option TypeId} {sz:Nat} {es:List V} {T:List Nat} (h:Rep p w v (.row o sz es) T):∃ ao cap,v=.slice ao es.length cap:=by
 cases h with
 | shared=>exact ⟨_,_,rfl⟩
 | own h1 h2 h3 h4 =>
  rcases h4.2 with ⟨rfl,hn⟩ | ⟨b,cap,cur,rfl,_⟩
  ·exact ⟨none,0,by rw [hn]⟩
  ·exact ⟨_,cap,rfl⟩
def evLen (P:Program) (N:Nat) (o:Oper) (ts:Array TypeId) (x:Operand) (e:E):Option E :=
 match dstOf N o with
 | none=>none
 | some d=>match peek e.st x with
  | some (_,.row _ _ es)=>match ts[0]? with
   | some t=>match P.underlying t with
    | some (.slice _)=>match hint e with
     | some (.lit (.int .i64 n),e)=>some ((need ((es.length:Int)=n) e).put d (.lit (.int .i64 n)))
     | _=>none
    | _=>none
   | none=>none
  | _=>none
theorem OpOk.lit {o:Oper} {e e1:E} {d:Nat} {v:Value} {obs:List Prop} (hd:dstOf C.N o=some d) (h1:e1.ob=e.ob∧e1.st=e.st)
 (hrun:All obs→∀ g a w,SRep C g e.st a w→(execOp a.eval o).run P w=.ok (.value v) w):OpOk P C o e (({ e1 with ob:=e1.ob++obs }:E).put d (.lit v)):=by
 intro hA
 obtain ⟨hdd,hdN⟩:=dstOf_eq hd
 have hA:All (e1.ob++obs):=hA
 refine ⟨h1.1 ▸ hA.left,fun g a w S next Q hk=>?_⟩
 refine wp_of_run (hrun hA.right g a w S) ?_
 rw [hdd]
 have:=S.put0 (Calm.refl w) hdN (v:=v) (D:=.v (.lit v)) (.v (.lit _))
 refine hk (g.put d [] fun _=>False) _ _ ?_ (fun _=>Calm.refl w)
 show SRep C _ (e1.st.put d _) _ _
 rw [h1.2]
 exact this
theorem evLen_ok {o:Oper} {c:Call} {x:Operand} {e e':E} (ho:o.op=.call c) (hc:c.callee=.builtin .len) (ha:c.args = #[x]) (h:evLen P C.N o c.argTypes x e=some e'):OpOk P C o e e':=by
 unfold evLen at h
 split at h
 ·cases h
 rename_i d hd
 split at h
 ·rename_i r ow sz es hp
  split at h
  ·rename_i t ht
   split at h
   ·rename_i el hu
    split at h
    ·rename_i n e1 hh
     cases h
     refine OpOk.lit (obs:=[(es.length:Int)=n]) hd (hint_eq hh) fun hA g a w S=>?_
     have hn:(es.length:Int)=n:=by cases hA with | cons h _=>exact h
     obtain ⟨T,_,hr,_⟩:=peek_ok S hp
     obtain ⟨ao,cap,hv⟩:=hr.row_inv
     unfold execOp
     simp only [ho,resolve,hc,ha,Sem.run_bind,Sem.run_pure,Result.andThen_ok,invoke,builtin,List.map_toArray,List.map_cons,List.map_nil,hv,Builtin.len_,ht,List.getElem?_toArray,List.getElem?_cons_zero,run_underlying hu,goInt,hn]
    ·cases h
   ·cases h
  ·cases h
 ·cases h
end
theorem Rep.lit_inv {p:Pub} {w:World} {v u:Value} {T:List Nat} (h:Rep p w v (.lit u) T):v=u:=by cases h;rfl
theorem RepL.cut {p:Pub} {w:World}:∀ (n:Nat) {xs:List Value} {cs:List V} {T:List Nat},RepL p w xs cs T→∃ A B,T=A++B∧RepL p w (xs.take n) (cs.take n) A∧RepL p w (xs.drop n) (cs.drop n) B
 | 0,xs,cs,T,h=>⟨[],T,rfl,by simpa using RepL.nil,by simpa using h⟩
 | n+1,_,_,_,.nil=>⟨[],[],rfl,by simpa using RepL.nil,by simpa using RepL.nil⟩
 | n+1,_,_,_,.cons (A:=A) h1 h2=>by
  obtain ⟨A',B',rfl,h3,h4⟩:=h2.cut n
  exact ⟨A++A',B',by simp,by simpa using .cons h1 h3,by simpa using h4⟩
theorem RepL.elem {p:Pub} {w:World} {sz:Nat}:∀ {es:List V} {xs:List Value} {T:List Nat} {i:Nat} {el:V},(∀ e∈es,e.cells.length=sz)→RepL p w xs (es.flatMap V.cells) T→es[i]? = some el →
 ∃ T1 A T2,T=T1++(A++T2)∧RepL p w ((xs.drop (i*sz)).take sz) el.cells A
 | [],_,_,i,el,_,_,h=>by simp at h
 | e :: es,xs,T,i,el,hs,hr,h=>by
  have hz:e.cells.length=sz:=hs e (by simp)
  obtain ⟨A,B,rfl,h1,h2⟩:=hr.cut sz
  have e1:((e :: es).flatMap V.cells).take sz=e.cells:=by rw [List.flatMap_cons,← hz,List.take_left]
  have e2:((e :: es).flatMap V.cells).drop sz=es.flatMap V.cells:=by rw [List.flatMap_cons,← hz,List.drop_left]
  rw [e1] at h1
  rw [e2] at h2
  cases i with
  | zero =>
   simp only [List.getElem?_cons_zero,Option.some.injEq] at h
   subst h
   exact ⟨[],A,B,by simp,by simpa using h1⟩
  | succ i =>
   simp only [List.getElem?_cons_succ] at h
   obtain ⟨T1,A',T2,rfl,h3⟩:=RepL.elem (fun e he=>hs e (by simp [he])) h2 h
   refine ⟨A++T1,A',T2,by simp,?_⟩
   rw [List.drop_drop] at h3
   rw [show (i+1)*sz=sz+i*sz by rw [Nat.add_mul,Nat.one_mul,Nat.add_comm]]
   exact h3
theorem rangeAt_seg {w:World} {b o:Nat} {xs:List Value} (h:w.rangeAt b o xs) (i n:Nat):w.rangeAt b (o+i) ((xs.drop i).take n):=by
 intro j v hj
 rw [List.getElem?_take] at hj
 split at hj
 ·rw [List.getElem?_drop] at hj
  have:=h _ _ hj
  rwa [show o+i+j=o+(i+j) by omega]
 ·cases hj
def rowT (P:Program) (t:TypeId):Option Bool:=match P.underlying t with
 | some (.struct _)=>some true
 | some (.array _ _)=>some true
 | some _=>some false
 | none=>none
def sizeT (P:Program) (t:TypeId):Option Nat:=match P.info? t with
 | some i=>some i.size
 | none=>none
def partV (P:Program) (t:TypeId) (cs:List V):Option V:=match rowT P t with
 | some true=>match sizeT P t with
  | some n=>match Nat.ble n cs.length with
   | true=>some (.agg (cs.take n))
   | false=>none
  | none=>none
 | some false=>match cs with
  | c :: _=>match c with
   | .agg _=>none
   | c=>some c
  | []=>none
 | none=>none
theorem isAgg_run {P:Program} {t:TypeId} {b:Bool} (h:rowT P t=some b) (w:World):(isAgg t).run P w=.ok b w:=by
 unfold rowT at h
 unfold isAgg
 split at h<;>first | (rename_i hu;cases h;rw [Sem.run_bind,run_underlying hu w];rfl) | skip
 ·rename_i d h1 h2 hu
  cases h
  rw [Sem.run_bind,run_underlying hu w]
  cases d<;>simp_all
 ·cases h
theorem loadPart {P:Program} {w:World} {p:Pub} {t:TypeId} {b o:Nat} {xs:List Value} {cs:List V} {u:V} {T:List Nat} (hr:w.rangeAt b o xs) (h:RepL p w xs cs T) (hp:partV P t cs=some u) :
 ∃ v A B,(Instr.loadAt t (.pointer (some ⟨b,o,none⟩))).run P w=.ok v w∧T=A++B∧Rep p w v u A:=by
 unfold partV at hp
 split at hp
 ·rename_i ht
  split at hp
  ·rename_i n hn
   split at hp
   ·rename_i hle
    cases hp
    have hle:=Nat.le_of_ble_eq_true hle
    obtain ⟨A,B,hT,h1,h2⟩:=h.cut n
    have hl:(xs.take n).length=n:=by rw [List.length_take,h.length];omega
    have hg:=isAgg_run ht w
    unfold sizeT at hn
    cases hi:P.info? t with
    | none=>rw [hi] at hn;cases hn
    | some i =>
     rw [hi] at hn
     cases hn
     have hc:=run_loadCells_list (P:=P) w ⟨b,o,none⟩ (xs.take i.size) (fun j v hj=>by
      rw [Addr.add_mid]
      exact hr j v (by rw [List.getElem?_take] at hj;split at hj;exact hj;cases hj))
     rw [hl] at hc
     refine ⟨.agg (xs.take i.size).toArray,A,B,?_,hT,.agg h1⟩
     simp only [Instr.loadAt,Instr.sureAddr,loadVar,Sem.run_bind,Sem.run_pure,Result.andThen_ok,hg,if_true,sizeOf,typeInfo,run_program,hi,hc]
   ·cases hp
  ·cases hp
 ·rename_i ht
  split at hp
  ·rename_i c cs'
   split at hp
   ·cases hp
   ·cases hp
    cases h with
    | cons h1 h2 =>
     rename_i v vs A B
     have hg:=isAgg_run ht w
     refine ⟨v,A,B,?_,rfl,h1⟩
     have hc:=hr 0 v rfl
     simp only [Nat.add_zero] at hc
     simp only [Instr.loadAt,Instr.sureAddr,loadVar,Sem.run_bind,Sem.run_pure,Result.andThen_ok,hg,Bool.false_eq_true,if_false,run_load,hc]
  ·cases hp
 ·cases hp
section
variable {P:Program} {C:Ctx}
def evIaddr (P:Program) (N:Nat) (o:Oper) (t:TypeId) (x i:Operand) (e:E):Option E :=
 match dstOf N o with
 | none=>none
 | some d=>match P.underlying t with
  | some (.slice el)=>match val i e with
   | some (.lit (.int _ n),e)=>match peek e.st x with
    | some (r,.row ow sz es)=>match sizeT P el with
     | some s=>match (Nat.beq s sz && Nat.ble 1 s) with
      | true=>match ow with
       | none=>match hint e with
        | some (h,e)=>some ((need (es[n.toNat]? = some h) (need (0≤n) e)).put d (.pt h.cells))
        | none=>none
       | some _=>match (X.pa r sz n.toNat 0).kill (isT d) with
        | .dead=>none
        | _=>some { (need (n < (es.length:Int)) (need (0≤n) e)) with st:=e.st.put d (.pa r sz n.toNat 0) }
      | false=>none
     | none=>none
    | _=>none
   | _=>none
  | _=>none
theorem shared_inv {p:Pub} {w:World} {v:Value} {sz:Nat} {es:List V} {T:List Nat} (h:Rep p w v (.row none sz es) T):∃ ao cap xs,(v=.slice ao es.length cap∧es.length≤cap)∧(∀ e∈es,e.cells.length=sz)∧RepL p w xs (es.flatMap V.cells) []∧(∀ u∈xs,u.oneCell'=true) ∧
 (∀ j u,xs[j]? = some u→∃ b o,ao=some ⟨b,o,none⟩∧p b∧w.cell? ⟨b,o+j,none⟩=some u):=by
 cases h with
 | shared h0 h1 h2 h3 h4=>exact ⟨_,_,_,⟨rfl,h0⟩,h1,h2,h3,h4⟩
theorem own_inv {p:Pub} {w:World} {v:Value} {e sz:Nat} {es:List V} {T:List Nat} (h:Rep p w v (.row (some e) sz es) T):∃ xs A,T=v.ownBlock.toList++A∧(∀ e∈es,e.cells.length=sz)∧RepL p w xs (es.flatMap V.cells) A∧(∀ u∈xs,u.oneCell'=true)∧OwnR w 0 e sz v es.length xs:=by
 cases h with
 | own h1 h2 h3 h4=>exact ⟨_,_,rfl,h1,h2,h3,h4⟩
theorem flat_len {sz:Nat}:∀ {es:List V},(∀ e∈es,e.cells.length=sz)→(es.flatMap V.cells).length=es.length*sz
 | [],_=>by simp
 | e :: es,h=>by
  rw [List.flatMap_cons,List.length_append,h e (by simp),flat_len (fun e he=>h e (by simp [he])),List.length_cons,Nat.add_mul,Nat.one_mul,Nat.add_comm]
theorem indexAt_run {P:Program} {t el:TypeId} {ad:Addr} {len cap s:Nat} {k:IntKind} {i:Int} (hu:P.underlying t=some (.slice el)) (hs:sizeT P el=some s) (h0:0≤i) (h1:i < (len:Int)) (w:World) :
 (Instr.indexAt t (.slice (some ad) len cap) (.int k i)).run P w=.ok (.pointer (some (ad.add (i.toNat*s)))) w:=by
 unfold sizeT at hs
 cases hi:P.info? el with
 | none=>rw [hi] at hs;cases hs
 | some inf =>
  rw [hi] at hs
  cases hs
  simp [Instr.indexAt,asIntOf,run_underlying hu,h0,h1,sizeOf,typeInfo,hi]
theorem evIaddr_ok {o:Oper} {t:TypeId} {x i:Operand} {e e':E} (ho:o.op=.indexAddr t x i) (h:evIaddr P C.N o t x i e=some e'):OpOk P C o e e':=by
 unfold evIaddr at h
 split at h
 ·cases h
 rename_i d hd
 split at h
 ·rename_i el hu
  split at h
  ·rename_i k n e1 hv
   split at h
   ·rename_i r ow sz es hp
    split at h
    ·rename_i s hs
     split at h
     ·rename_i hsz
      rw [Bool.and_eq_true] at hsz
      obtain ⟨hsz,hz1⟩:=hsz
      have hz1:=Nat.le_of_ble_eq_true hz1
      have hsz:=Nat.eq_of_beq_eq_true hsz
      subst hsz
      obtain ⟨hdd,hdN⟩:=dstOf_eq hd
      split at h
      ·split at h
       ·rename_i hel e2 hh
        cases h
        intro hA
        obtain ⟨hA,hb⟩:=All.snoc hA
        obtain ⟨hA,ha⟩:=All.snoc hA
        obtain ⟨q1,q2⟩:=hint_eq hh
        obtain ⟨h0,kv⟩:=val_ok (C:=C) hv (q1 ▸ hA)
        refine ⟨h0,fun g a w S next Q hk=>?_⟩
        obtain ⟨g1,k1,S1,r1⟩:=kv g a w S
        obtain ⟨T,_,hr,_⟩:=peek_ok S1 hp
        obtain ⟨ao,cap,xs,⟨hx,_⟩,hc,hl,h1,hcell⟩:=shared_inv hr
        have hilt:n.toNat < es.length:=by
         rcases Nat.lt_or_ge n.toNat es.length with h | h
         ·exact h
         ·rw [List.getElem?_eq_none h] at hb;cases hb
        obtain ⟨T1,A,T2,hT,hseg⟩:=RepL.elem hc hl hb
        have hA':A=[]:=(List.append_eq_nil_iff.1 (List.append_eq_nil_iff.1 hT.symm).2).1
        subst hA'
        have hcl:hel.cells.length=s:=hc hel (List.mem_of_getElem? hb)
        ·have hz:s≠0:=by omega
         have hxl:xs.length=es.length*s:=by rw [hl.length,flat_len hc]
         have hj:n.toNat*s < xs.length:=by rw [hxl];exact (Nat.mul_lt_mul_right (Nat.pos_of_ne_zero hz)).2 hilt
         obtain ⟨b,ofs,rfl,hpub,_⟩:=hcell _ _ (List.getElem?_eq_getElem hj)
         have hrange:w.rangeAt b ofs xs:=fun j v hj=>by
          obtain ⟨b',o',e',_,hc'⟩:=hcell j v hj
          cases e'
          exact hc'
         have hi:a.eval i=.int k n:=r1.lit_inv
         refine wp_of_run (v:=.pointer (some ⟨b,ofs+n.toNat*s,none⟩)) (w':=w) ?_ ?_
         ·unfold execOp
          simp only [ho,hx,hi,Sem.run_bind]
          rw [indexAt_run hu hs ha (by omega) w,Addr.add_mid]
          rfl
         ·rw [hdd]
          have:=S1.put0 (Calm.refl w) hdN (v:=.pointer (some ⟨b,ofs+n.toNat*s,none⟩)) (D:=.v (.pt hel.cells))
           (.v (.pt hseg (fun u hu=>h1 u (List.mem_of_mem_drop (List.mem_of_mem_take hu))) hpub (rangeAt_seg hrange _ _)))
          refine hk (g1.put d [] fun _=>False) _ _ ?_ (fun _=>Calm.refl w)
          show SRep C _ (e2.st.put d _) _ _
          rw [q2]
          exact this
       ·cases h
      ·rename_i et
       split at h
       ·cases h
       ·rename_i hkill
        cases h
        intro hA
        obtain ⟨hA,hb⟩:=All.snoc hA
        obtain ⟨hA,ha⟩:=All.snoc hA
        obtain ⟨h0,kv⟩:=val_ok (C:=C) hv hA
        refine ⟨h0,fun g a w S next Q hk=>?_⟩
        obtain ⟨g1,k1,S1,r1⟩:=kv g a w S
        obtain ⟨T,hpv,hr,hown,_⟩:=peek_ok S1 hp
        obtain ⟨xs,A,hT,hc,hl,h1,how⟩:=own_inv hr
        have hi:a.eval i=.int k n:=r1.lit_inv
        rcases how.2 with ⟨hv0,hn⟩ | ⟨b,cap,cur,hv0,_,hg,_⟩
        ·omega
        ·refine wp_of_run (v:=.pointer (some ⟨b,n.toNat*s,none⟩)) (w':=w) ?_ ?_
         ·unfold execOp
          simp only [ho,hv0,hi,Sem.run_bind]
          rw [indexAt_run hu hs ha hb w,Addr.add_mid,Nat.zero_add]
          rfl
         ·rw [hdd]
          have hkx:(X.pa r s n.toNat 0).kill (isT d)=.pa r s n.toNat 0:=by
           rcases X.kill_cases (isT d) (X.pa r s n.toNat 0) with h | h
           ·exact (hkill h).elim
           ·exact h.1
          have:=S1.putA (v:=.pointer (some ⟨b,n.toNat*s,none⟩)) hdN hkx (by simp) ⟨rfl,b,by rw [hpv,hv0];rfl,hown b (by rw [hT,hv0];simp [Value.ownBlock]),by simp⟩ (by simp)
          exact hk (g1.put d [] fun _=>False) _ _ this (fun _=>Calm.refl w)
     ·cases h
    ·cases h
   ·cases h
  ·cases h
 ·cases h
end
def V.one:V→Bool
 | .lit v=>v.oneCell'
 | .row _ _ _=>true
 | .pt _=>true
 | .iface _ _=>true
 | .nil _ _=>true
 | .kb _=>true
 | .clo _ _=>true
 | _=>false
def allOne:List V→Bool
 | []=>true
 | c :: cs=>match c.one with
  | true=>allOne cs
  | false=>false
def V.flatOk:V→Bool
 | .agg cs=>allOne cs
 | d=>d.one
theorem Rep.one {p:Pub} {w:World} {v:Value} {d:V} {T:List Nat} (h:Rep p w v d T) (h1:d.one=true):v.oneCell'=true:=by
 cases h with
 | lit u=>exact h1
 | own a b c how=>rcases how.2 with ⟨rfl,_⟩ | ⟨_,_,_,rfl,_⟩<;>rfl
 | shared=>rfl
 | pt=>rfl
 | iface=>rfl
 | nil=>rfl
 | kb=>rfl
 | clo=>rfl
 | _=>simp [V.one] at h1
theorem RepL.one {p:Pub} {w:World}:∀ {vs:List Value} {ds:List V} {T:List Nat},RepL p w vs ds T→allOne ds=true→∀ u∈vs,u.oneCell'=true
 | _,_,_,.nil,_=>by simp
 | _,_,_,.cons (d:=d) h1 h2,h=>by
  simp only [allOne] at h
  cases hd:d.one with
  | false=>rw [hd] at h;cases h
  | true =>
   rw [hd] at h
   intro u hu
   rcases List.mem_cons.1 hu with rfl | hu
   ·exact h1.one hd
   ·exact h2.one h u hu
theorem cells_one {v:Value} (h:v.oneCell'=true):v.cells = #[v]:=by cases v<;>simp_all [Value.cells,Value.oneCell']
theorem Rep.flat {p:Pub} {w:World} {v:Value} {d:V} {T:List Nat} (h:Rep p w v d T) (hf:d.flatOk=true):RepL p w v.cells.toList d.cells T∧allOne d.cells=true:=by
 by_cases ha:∃ cs,d=.agg cs
 ·obtain ⟨cs,rfl⟩:=ha
  cases h with
  | agg h=>exact ⟨by simpa [Value.cells,V.cells] using h,hf⟩
 ·have hc:d.cells=[d]:=by
   cases d<;>first | rfl | exact (ha ⟨_,rfl⟩).elim
  have h1:d.one=true:=by
   cases d<;>first | exact hf | exact (ha ⟨_,rfl⟩).elim
  rw [hc,cells_one (h.one h1)]
  refine ⟨?_,by simp [allOne,h1]⟩
  have:=RepL.cons h (RepL.nil (p:=p) (w:=w))
  simpa using this
def eqLit:Value→Value→Bool
 | .int k a,.int k' b=>k == k' && a == b
 | .bool a,.bool b=>a == b
 | .string a,.string b=>a.data.toList == b.data.toList
 | .float k a,.float k' b=>k == k' && a == b
 | .complex k a b,.complex k' c d=>k == k' && a == c && b == d
 | .pointer none,.pointer none=>true
 | .nilFunc,.nilFunc=>true
 | .nilIface,.nilIface=>true
 | .map none,.map none=>true
 | _,_=>false
theorem eqLit_eq {a b:Value} (h:eqLit a b=true):a=b:=by
 unfold eqLit at h
 split at h<;>simp_all
 ·rename_i x y
  cases x;cases y
  simp at h
  congr
theorem eqLit_one {a b:Value} (h:eqLit a b=true):a.oneCell'=true:=by
 unfold eqLit at h
 split at h<;>simp_all [Value.oneCell']
def chkZ:List Value→List V→Bool
 | [],[]=>true
 | v :: vs,d :: ds=>match d with
  | .lit u=>match eqLit v u with
   | true=>chkZ vs ds
   | false=>false
  | .nil _ _=>match v with
   | .slice none 0 0=>chkZ vs ds
   | _=>false
  | _=>false
 | _,_=>false
theorem chkZ_ok {p:Pub} {w:World}:∀ {vs:List Value} {ds:List V},chkZ vs ds=true→RepL p w vs ds []∧allOne ds=true
 | [],[],_=>⟨.nil,rfl⟩
 | [],_ :: _,h=>by simp [chkZ] at h
 | _ :: _,[],h=>by simp [chkZ] at h
 | v :: vs,d :: ds,h=>by
  unfold chkZ at h
  split at h
  ·rename_i u
   cases he:eqLit v u with
   | false=>rw [he] at h;cases h
   | true =>
    rw [he] at h
    obtain ⟨h1,h2⟩:=chkZ_ok (p:=p) (w:=w) h
    have:=eqLit_one he
    have e:=eqLit_eq he
    subst e
    exact ⟨RepL.cons (A:=[]) (B:=[]) (.lit v) h1,by simp [allOne,V.one,this,h2]⟩
  ·rename_i e sz
   split at h
   ·obtain ⟨h1,h2⟩:=chkZ_ok (p:=p) (w:=w) h
    exact ⟨RepL.cons (A:=[]) (B:=[]) (.nil e sz) h1,by simp [allOne,V.one,h2]⟩
   ·cases h
  ·cases h
def goZ (f:TypeId→Option (List V)):List Field→Option (List V)
 | []=>some []
 | x :: fs=>match f x.type with
  | some z=>match goZ f fs with
   | some r=>some (z++r)
   | none=>none
  | none=>none
def zeroL (P:Program):Nat→TypeId→Option (List V)
 | 0=>fun _=>none
 | n+1=>fun t=>match P.underlying t with
  | some (.struct fs)=>goZ (zeroL P n) fs.toList
  | some (.array k e)=>match zeroL P n e with
   | some z=>some (List.replicate k z).flatten
   | none=>none
  | some (.slice e)=>match sizeT P e with
   | some s=>some [.nil e s]
   | none=>none
  | some _=>match P.info? t with
   | some i=>match i.zero with
    | some v=>some [.lit v]
    | none=>none
   | none=>none
  | none=>none
def zeroV (P:Program) (t:TypeId):Option (List V):=match zeroL P 12 t with
 | some zs=>match P.info? t with
  | some i=>match i.zero with
   | some z=>match chkZ z.cells.toList zs with
    | true=>some zs
    | false=>none
   | none=>none
  | none=>none
 | none=>none
theorem zeroV_ok {P:Program} {t:TypeId} {zs:List V} (h:zeroV P t=some zs):∃ i z,P.info? t=some i∧i.zero=some z∧allOne zs=true∧∀ (p:Pub) (w:World),RepL p w z.cells.toList zs []:=by
 unfold zeroV at h
 split at h
 ·rename_i zs' hz
  split at h
  ·rename_i i hi
   split at h
   ·rename_i z hz'
    split at h
    ·rename_i hc
     cases h
     exact ⟨i,z,hi,hz',(chkZ_ok (p:=fun _=>False) (w:=default) hc).2,fun p w=>(chkZ_ok hc).1⟩
    ·cases h
   ·cases h
  ·cases h
 ·cases h
def fillV (place:Nat→Option (Nat × Nat)) (cells:List V):List (Nat × V)→Option (List V)
 | []=>some cells
 | (i,v) :: rest=>match place i with
  | none=>none
  | some (off,size)=>match v.flatOk && Nat.beq v.cells.length size && Nat.ble (off+v.cells.length) cells.length with
   | true=>fillV place (cells.take off++v.cells++cells.drop (off+v.cells.length)) rest
   | false=>none
theorem fold_set:∀ (l:List Value) (off k:Nat) (cs:Array Value),off+k+l.length≤cs.size →
 ((l.zipIdx k).foldl (fun (cs:Array Value) (x:Value × Nat)=>cs.setIfInBounds (off+x.2) x.1) cs).toList=cs.toList.take (off+k)++l++cs.toList.drop (off+k+l.length)
 | [],off,k,cs,h=>by simp
 | v :: l,off,k,cs,h=>by
  simp only [List.length_cons] at h
  simp only [List.zipIdx_cons,List.foldl_cons]
  rw [fold_set l off (k+1) (cs.setIfInBounds (off+k) v) (by simp;omega)]
  have e:=list_seg_step cs.toList (off+k) v l (by simp;omega)
  simpa [Array.toList_setIfInBounds,Nat.add_assoc] using e
theorem RepL.splice {p:Pub} {w:World} {xs:List Value} {cs:List V} {ys:List Value} {ds:List V} (h:RepL p w xs cs []) (h':RepL p w ys ds []) (off:Nat) :
 RepL p w (xs.take off++ys++xs.drop (off+ys.length)) (cs.take off++ds++cs.drop (off+ds.length)) []:=by
 obtain ⟨A,B,hT,h1,_⟩:=h.cut off
 obtain ⟨A',B',hT',_,h2⟩:=h.cut (off+ys.length)
 have e1:=(List.append_eq_nil_iff.1 hT.symm).1
 have e2:=(List.append_eq_nil_iff.1 hT'.symm).2
 subst e1
 subst e2
 have:=(h1.app h').app h2
 rw [← h'.length]
 simpa using this
theorem allOne_append:∀ {a b:List V},allOne (a++b)=true↔allOne a=true∧allOne b=true
 | [],b=>by simp [allOne]
 | c :: a,b=>by
  simp only [List.cons_append,allOne]
  cases c.one with
  | true=>exact allOne_append
  | false=>simp
theorem allOne_take:∀ {a:List V} (n:Nat),allOne a=true→allOne (a.take n)=true
 | a,n,h=>by rw [← List.take_append_drop n a,allOne_append] at h;exact h.1
theorem allOne_drop:∀ {a:List V} (n:Nat),allOne a=true→allOne (a.drop n)=true
 | a,n,h=>by rw [← List.take_append_drop n a,allOne_append] at h;exact h.2
theorem fillV_ok {p:Pub} {w:World} {place:Nat→Option (Nat × Nat)}:∀ {ps:List (Nat × V)} {cells:List V} {out:List V} {vs:List Value} {xs:Array Value},
 fillV place cells ps=some out→RepL p w vs (ps.map (·.2)) []→RepL p w xs.toList cells []→allOne cells=true →
 ∃ ys,Instr.fill place xs ((ps.map (·.1)).zip vs)=some ys∧RepL p w ys.toList out []∧allOne out=true
 | [],cells,out,vs,xs,h,hv,hx,h1=>by
  cases h
  exact ⟨xs,by simp [Instr.fill],hx,h1⟩
 | (i,v) :: ps,cells,out,vs,xs,h,hv,hx,h1=>by
  unfold fillV at h
  split at h
  ·cases h
  ·rename_i off size hp
   split at h
   ·rename_i hc
    rw [Bool.and_eq_true,Bool.and_eq_true] at hc
    obtain ⟨⟨c1,c2⟩,c3⟩:=hc
    have c2:=Nat.eq_of_beq_eq_true c2
    have c3:=Nat.le_of_ble_eq_true c3
    generalize hT:([]:List Nat)=T at hv
    cases hv with
    | cons r1 r2 =>
     rename_i u us A B
     have e1:=(List.append_eq_nil_iff.1 hT.symm).1
     have e2:=(List.append_eq_nil_iff.1 hT.symm).2
     subst e1
     subst e2
     obtain ⟨r3,r4⟩:=r1.flat c1
     have hl:u.cells.size=v.cells.length:=by rw [← r3.length,Array.length_toList]
     have hxl:xs.size=cells.length:=by rw [← hx.length,Array.length_toList]
     have hsp:=hx.splice r3 off
     have hf:=fold_set u.cells.toList off 0 xs (by simp;omega)
     simp only [Nat.add_zero,Array.length_toList] at hf
     have hsp':RepL p w (u.cells.zipIdx.foldl (fun cs (c,j)=>cs.setIfInBounds (off+j) c) xs).toList (cells.take off++v.cells++cells.drop (off+v.cells.length)) []:=by
      have e:(u.cells.zipIdx.foldl (fun cs (c,j)=>cs.setIfInBounds (off+j) c) xs)=((u.cells.toList.zipIdx 0).foldl (fun (cs:Array Value) (x:Value × Nat)=>cs.setIfInBounds (off+x.2) x.1) xs):=by
       rw [← Array.foldl_toList,Array.toList_zipIdx]
      rw [e,hf]
      simpa using hsp
     obtain ⟨ys,g1,g2,g3⟩:=fillV_ok (place:=place) h r2 hsp' (by rw [allOne_append,allOne_append];exact ⟨⟨allOne_take _ h1,r4⟩,allOne_drop _ h1⟩)
     refine ⟨ys,?_,g2,g3⟩
     simp only [List.map_cons,List.zip_cons_cons,Instr.fill,hp]
     rw [if_neg]
     ·exact g1
     ·simp;omega
   ·cases h
section
variable {P:Program} {C:Ctx}
theorem OpOk.xa {o:Oper} {e e1:E} {d:Nat} {x:X} (hd:dstOf C.N o=some d) (h1:All e1.ob→All e.ob) (hk:x.kill (isT d)=x) (hdd:x≠.dead) (hnd:∀ D,x≠.d D)
 (hrun:All e1.ob→∀ g a w,SRep C g e.st a w→∃ v g',SRep C g' e1.st a w∧(execOp a.eval o).run P w=.ok (.value v) w∧XRep g' a w v x []):OpOk P C o e { e1 with st:=e1.st.put d x }:=by
 intro hA
 obtain ⟨hdd',hdN⟩:=dstOf_eq hd
 refine ⟨h1 hA,fun g a w S next Q hn=>?_⟩
 obtain ⟨v,g',S',hr,hx⟩:=hrun hA g a w S
 refine wp_of_run hr ?_
 rw [hdd']
 exact hn _ _ _ (S'.putA hdN hk hdd hx hnd) (fun _=>Calm.refl w)
theorem OpOk.vv {o:Oper} {e e1:E} {d:Nat} {u:V} (hd:dstOf C.N o=some d) (h1:All e1.ob→All e.ob)
 (hrun:All e1.ob→∀ g a w,SRep C g e.st a w→∃ v g',SRep C g' e1.st a w∧(execOp a.eval o).run P w=.ok (.value v) w∧Rep g'.pub w v u []):OpOk P C o e (e1.put d u):=by
 intro hA
 obtain ⟨hdd',hdN⟩:=dstOf_eq hd
 refine ⟨h1 hA,fun g a w S next Q hn=>?_⟩
 obtain ⟨v,g',S',hr,hx⟩:=hrun hA g a w S
 refine wp_of_run hr ?_
 rw [hdd']
 exact hn _ _ _ (S'.put0 (Calm.refl w) hdN (.v hx)) (fun _=>Calm.refl w)
def foff (P:Program) (s:TypeId) (f:Nat):Option (Nat × TypeId):=match P.underlying s with
 | some (.struct fs)=>match fs[f]? with
  | some fd=>match sizeT P fd.type with
   | some (_+1)=>some (fd.offset,fd.type)
   | _=>none
  | none=>none
 | _=>none
theorem fieldAt_run {s:TypeId} {f off:Nat} {ft:TypeId} (h:foff P s f=some (off,ft)) (w:World) (b o:Nat):(Instr.fieldAt s (.pointer (some ⟨b,o,none⟩)) f).run P w=.ok (.pointer (some ⟨b,o+off,none⟩)) w:=by
 unfold foff at h
 split at h
 ·rename_i fs hu
  split at h
  ·rename_i fd hf
   split at h
   ·rename_i n hs
    cases h
    unfold sizeT at hs
    cases hi:P.info? fd.type with
    | none=>rw [hi] at hs;cases hs
    | some i =>
     rw [hi] at hs
     have hs:i.size=n+1:=Option.some.inj hs
     simp only [Instr.fieldAt,Sem.run_bind,run_underlying hu,Result.andThen_ok,hf,Instr.sureAddr,Sem.run_pure,fieldPlace,sizeOf,typeInfo,run_program,hi,hs]
     simp [Addr.add_mid]
   ·cases h
  ·cases h
 ·cases h
def evFaddr (P:Program) (N:Nat) (o:Oper) (s:TypeId) (x:Operand) (f:Nat) (e:E):Option E :=
 match dstOf N o with
 | none=>none
 | some d=>match foff P s f with
  | none=>none
  | some (off,_)=>match x with
   | .tmp t=>match look e.st.env t with
    | some (.d (.v (.pt cs)))=>some (e.put d (.pt (cs.drop off)))
    | some (.d (.ptr id o'))=>some { e with st:=e.st.put d (.d (.ptr id (o'+off))) }
    | some (.pa r sz i j)=>match (X.pa r sz i (j+off)).kill (isT d) with
     | .dead=>none
     | _=>some { e with st:=e.st.put d (.pa r sz i (j+off)) }
    | _=>none
   | _=>none
theorem evFaddr_ok {o:Oper} {s:TypeId} {x:Operand} {f:Nat} {e e':E} (ho:o.op=.fieldAddr s x f) (h:evFaddr P C.N o s x f e=some e'):OpOk P C o e e':=by
 unfold evFaddr at h
 split at h
 ·cases h
 rename_i d hd
 split at h
 ·cases h
 rename_i off ft hf
 split at h
 ·rename_i t
  have run:∀ {a:Act} {w:World} {b q:Nat},a.eval (.tmp t)=.pointer (some ⟨b,q,none⟩)→(execOp a.eval o).run P w=.ok (.value (.pointer (some ⟨b,q+off,none⟩))) w:=by
   intro a w b q hx
   unfold execOp
   simp only [ho,hx,Sem.run_bind,fieldAt_run hf w b q,Result.andThen_ok,Sem.run_pure]
  split at h
  ·rename_i cs hl
   cases h
   refine OpOk.vv hd id fun _ g a w S=>?_
   obtain ⟨_,h2,_⟩:=S.env t _ hl
   have h2:=RepD.inv h2
   generalize hv:a.tmps.getD t undef=v at h2
   generalize hT:g.TE t=T at h2
   cases h2 with
   | pt r1 r2 r3 r4 =>
    rename_i b q xs
    obtain ⟨A,B,hAB,_,r5⟩:=r1.cut off
    have hB:=(List.append_eq_nil_iff.1 hAB.symm).2
    subst hB
    refine ⟨_,g,S,run hv,.pt r5 (fun u hu=>r2 u (List.mem_of_mem_drop hu)) r3 fun j u hj=>?_⟩
    rw [List.getElem?_drop] at hj
    have:=r4 _ _ hj
    rwa [show q+off+j=q+(off+j) by omega]
  ·rename_i id o' hl
   cases h
   intro hA
   obtain ⟨hdd,hdN⟩:=dstOf_eq hd
   refine ⟨hA,fun g a w S next Q hn=>?_⟩
   obtain ⟨_,h2,_⟩:=S.env t _ hl
   generalize hv:a.tmps.getD t undef=v at h2
   generalize hT:g.TE t=T at h2
   cases h2 with
   | ptr hid =>
    refine wp_of_run (run hv) ?_
    rw [hdd]
    exact hn _ _ _ (S.put0 (Calm.refl w) hdN (.ptr hid)) (fun _=>Calm.refl w)
  ·rename_i r sz i j hl
   split at h
   ·cases h
   ·rename_i hkill
    cases h
    have hkx:(X.pa r sz i (j+off)).kill (isT d)=.pa r sz i (j+off):=by
     rcases X.kill_cases (isT d) (X.pa r sz i (j+off)) with h | h
     ·exact (hkill h).elim
     ·exact h.1
    refine OpOk.xa hd id hkx (by simp) (by simp) fun _ g a w S=>?_
    obtain ⟨_,⟨_,b,h3,h4,h5⟩,_⟩:=S.env t _ hl
    exact ⟨_,g,S,run h5,rfl,b,h3,h4,by rw [Nat.add_assoc]⟩
  ·cases h
 ·cases h
def evLoad (P:Program) (N:Nat) (o:Oper) (t:TypeId) (x:Operand) (e:E):Option E :=
 match dstOf N o with
 | none=>none
 | some d=>match x with
  | .tmp s=>match look e.st.env s with
   | some (.d (.v (.pt cs)))=>match partV P t cs with
    | some u=>some (e.put d u)
    | none=>none
   | some (.pa r sz i j)=>match rootVal e.st r with
    | some (.row (some _) sz' es)=>match Nat.beq sz sz' with
     | true=>match hint e with
      | some (h,e)=>match partV P t (h.cells.drop j) with
       | some u=>match u.noOwn with
        | true=>some ((need (es[i]? = some h) e).put d u)
        | false=>match u,(X.al (.elt r sz i j)).kill (isT d) with
         | .row _ _ _,.al _=>some { (need (es[i]? = some h) e) with st:=e.st.put d (.al (.elt r sz i j)) }
         | _,_=>none
       | none=>none
      | none=>none
     | false=>none
    | _=>none
   | _=>none
  | _=>none
theorem evLoad_ok {o:Oper} {t:TypeId} {x:Operand} {e e':E} (ho:o.op=.load t x) (h:evLoad P C.N o t x e=some e'):OpOk P C o e e':=by
 unfold evLoad at h
 split at h
 ·cases h
 rename_i d hd
 split at h
 ·rename_i s
  split at h
  ·rename_i cs hl
   split at h
   ·rename_i u hp
    cases h
    refine OpOk.vv hd id fun _ g a w S=>?_
    obtain ⟨_,h2,_⟩:=S.env s _ hl
    have h2:=RepD.inv h2
    generalize hv:a.tmps.getD s undef=v at h2
    generalize hT:g.TE s=T at h2
    cases h2 with
    | pt r1 r2 r3 r4 =>
     rename_i b q xs
     obtain ⟨v,A,B,hr,hAB,hR⟩:=loadPart (P:=P) (t:=t) (b:=b) (o:=q) (xs:=xs) (fun j u hj=>r4 j u hj) r1 hp
     have hA:=(List.append_eq_nil_iff.1 hAB.symm).1
     subst hA
     refine ⟨v,g,S,?_,hR⟩
     unfold execOp
     simp only [ho,Act.eval,hv,Sem.run_bind,hr,Result.andThen_ok,Sem.run_pure]
   ·cases h
  ·rename_i r sz i j hl
   split at h
   ·rename_i et sz' es hrv
    split at h
    ·rename_i hb
     have hb:=Nat.eq_of_beq_eq_true hb
     subst hb
     split at h
     ·rename_i hel e1 hh
      obtain ⟨q1,q2⟩:=hint_eq hh
      split at h
      ·rename_i u hp
       have main:∀ g a w,SRep C g e.st a w→es[i]? = some hel→∃ v A b,(execOp a.eval o).run P w=.ok (.value v) w∧Rep g.pub w v u A∧(pvR g a w r).bind Value.ownBlock=some b∧g.own b=some r.holder∧(u.one=true→w.cell? ⟨b,i*sz+j,none⟩=some v):=by
        intro g a w S hel'
        obtain ⟨_,⟨_,b,h3,h4,h5⟩,_⟩:=S.env s _ hl
        obtain ⟨rv,T,hpv,hr,hown,_⟩:=rootVal_ok S hrv
        obtain ⟨xs,A,hT,hc,hl',h1,how⟩:=own_inv hr
        obtain ⟨T1,A1,T2,hT',hseg⟩:=RepL.elem hc hl' hel'
        obtain ⟨A2,B2,hA2,_,hseg2⟩:=hseg.cut j
        rw [hpv] at h3
        simp only [Option.bind_some] at h3
        have how':=how
        rcases how.2 with ⟨hv0,hn⟩ | ⟨b',cap,cur,hv0,_,hg,_⟩
        ·rw [hv0] at h3;simp [Value.ownBlock] at h3
        ·rw [hv0] at h3
         simp only [Value.ownBlock,Option.some.injEq] at h3
         subst h3
         subst hv0
         have hrange:w.rangeAt b' 0 xs:=fun k v hk=>by
          have hk':k < es.length*sz:=by
           rw [← how.1]
           rcases Nat.lt_or_ge k xs.length with h | h
           ·exact h
           ·rw [List.getElem?_eq_none h] at hk;cases hk
          rw [Nat.zero_add,how'.cellAt k hk',hk]
         have hrange2:w.rangeAt b' (i*sz+j) (((xs.drop (i*sz)).take sz).drop j):=by
          have h0:=rangeAt_seg hrange (i*sz) sz
          intro k v hk
          rw [List.getElem?_drop] at hk
          have:=h0 _ _ hk
          rwa [show 0+i*sz+(j+k)=i*sz+j+k by omega] at this
         obtain ⟨v,A3,B3,hrun,_,hR⟩:=loadPart (P:=P) hrange2 hseg2 hp
         refine ⟨v,A3,b',?_,hR,by rw [hpv];rfl,h4,fun hone=>?_⟩
         ·unfold execOp
          simp only [ho,Act.eval,h5,Sem.run_bind,hrun,Result.andThen_ok,Sem.run_pure]
         ·unfold partV at hp
          split at hp
          ·split at hp
           ·split at hp
            ·cases hp;simp [V.one] at hone
            ·cases hp
           ·cases hp
          ·rename_i ht
           split at hp
           ·rename_i c cs' hcs
            split at hp
            ·cases hp
            ·cases hp
             rw [hcs] at hseg2
             generalize hxx:((xs.drop (i*sz)).take sz).drop j=ys at hseg2 hrange2
             cases hseg2 with
             | @cons v' _ vs' _ A4 B4 p1 p2 =>
              have hc0:=hrange2 0 v' rfl
              simp only [Nat.add_zero] at hc0
              rw [hc0]
              have hg:=isAgg_run ht w
              simp only [Instr.loadAt,Instr.sureAddr,loadVar,Sem.run_bind,Sem.run_pure,Result.andThen_ok,hg,Bool.false_eq_true,if_false,run_load,hc0] at hrun
              cases hrun
              rfl
           ·cases hp
          ·cases hp
       split at h
       ·rename_i hno
        cases h
        intro hA
        obtain ⟨hA,ha⟩:=All.snoc (l:=e1.ob) hA
        obtain ⟨hdd,hdN⟩:=dstOf_eq hd
        refine ⟨q1 ▸ hA,fun g a w S next Q hn=>?_⟩
        obtain ⟨v,A,b,hr,hR,_⟩:=main g a w S ha
        have:=hR.noOwn hno
        subst this
        refine wp_of_run hr ?_
        rw [hdd]
        refine hn (g.put d [] fun _=>False) _ _ ?_ (fun _=>Calm.refl w)
        show SRep C _ (e1.st.put d _) _ _
        rw [q2]
        exact S.put0 (Calm.refl w) hdN (.v hR)
       ·split at h
        ·rename_i rw1 rw2 rw3 p hkk
         cases h
         intro hA
         obtain ⟨hA,ha⟩:=All.snoc (l:=e1.ob) hA
         obtain ⟨hdd,hdN⟩:=dstOf_eq hd
         refine ⟨q1 ▸ hA,fun g a w S next Q hn=>?_⟩
         obtain ⟨v,A,b,hr,hR,hpv,hown,hcell⟩:=main g a w S ha
         refine wp_of_run hr ?_
         rw [hdd]
         have hkx:(X.al (.elt r sz i j)).kill (isT d)=.al (.elt r sz i j):=by
          rcases X.kill_cases (isT d) (X.al (.elt r sz i j)) with h | h
          ·rw [h] at p;cases p
          ·exact h.1
         refine hn (g.put d [] fun _=>False) _ _ ?_ (fun _=>Calm.refl w)
         show SRep C _ (e1.st.put d _) _ _
         rw [q2]
         refine S.putA hdN hkx (by simp) ⟨rfl,?_⟩ (by simp)
         simp only [pv]
         rw [hpv]
         simp only
         rw [if_pos hown]
         exact hcell rfl
        ·cases h
      ·cases h
     ·cases h
    ·cases h
   ·cases h
  ·cases h
 ·cases h
end
section
variable {P:Program} {C:Ctx}
theorem RepL.cons_inv {p:Pub} {w:World} {vs:List Value} {d:V} {ds:List V} (h:RepL p w vs (d :: ds) []):∃ v us,vs=v :: us∧Rep p w v d []∧RepL p w us ds []:=by
 generalize hT:([]:List Nat)=T at h
 cases h with
 | @cons v _ us _ A B h1 h2 =>
  have hA:=(List.append_eq_nil_iff.1 hT.symm).1
  have hB:=(List.append_eq_nil_iff.1 hT.symm).2
  subst hA
  subst hB
  exact ⟨v,us,rfl,h1,h2⟩
theorem Rep.agg_inv {p:Pub} {w:World} {v:Value} {cs:List V} {T:List Nat} (h:Rep p w v (.agg cs) T):∃ xs:List Value,v=.agg xs.toArray∧RepL p w xs cs T:=by
 cases h with | agg h=>exact ⟨_,rfl,h⟩
theorem Rep.tup_inv {p:Pub} {w:World} {v:Value} {cs:List V} {T:List Nat} (h:Rep p w v (.tup cs) T):∃ xs:List Value,v=.tuple xs.toArray∧RepL p w xs cs T:=by
 cases h with | tup h=>exact ⟨_,rfl,h⟩
def evField (P:Program) (N:Nat) (o:Oper) (t:TypeId) (x:Operand) (f:Nat) (e:E):Option E :=
 match dstOf N o with
 | none=>none
 | some d=>match foff P t f with
  | none=>none
  | some (off,ft)=>match val x e with
   | some (.agg cs,e)=>match partV P ft (cs.drop off) with
    | some u=>some (e.put d u)
    | none=>none
   | _=>none
theorem part_run {p:Pub} {w:World} {t:TypeId} {xs:List Value} {cs:List V} {u:V} {off:Nat} (h:RepL p w xs cs []) (hp:partV P t (cs.drop off)=some u):∃ v,(part t xs.toArray off).run P w=.ok v w∧Rep p w v u []:=by
 obtain ⟨A,B,hT,_,h2⟩:=h.cut off
 have hB:=(List.append_eq_nil_iff.1 hT.symm).2
 subst hB
 unfold partV at hp
 split at hp
 ·rename_i ht
  split at hp
  ·rename_i n hn
   split at hp
   ·rename_i hle
    cases hp
    obtain ⟨A,B,hT,h3,_⟩:=h2.cut n
    have hA:=(List.append_eq_nil_iff.1 hT.symm).1
    subst hA
    have hg:=isAgg_run ht w
    unfold sizeT at hn
    cases hi:P.info? t with
    | none=>rw [hi] at hn;cases hn
    | some i =>
     rw [hi] at hn
     cases hn
     refine ⟨.agg ((xs.drop off).take i.size).toArray,?_,.agg h3⟩
     simp only [part,Sem.run_bind,hg,Result.andThen_ok,if_true,sizeOf,typeInfo,run_program,hi,Sem.run_pure]
     congr 2
     apply Array.ext'
     simp [List.extract_eq_take_drop]
   ·cases hp
  ·cases hp
 ·rename_i ht
  split at hp
  ·rename_i c cs' hcs
   split at hp
   ·cases hp
   ·cases hp
    rw [hcs] at h2
    obtain ⟨v,vs,hys,p1,_⟩:=h2.cons_inv
    refine ⟨v,?_,p1⟩
    have hg:=isAgg_run ht w
    have hx:xs[off]? = some v:=by
     have:=congrArg (fun l=>l[0]?) hys
     simpa [List.getElem?_drop] using this
    simp [part,Sem.run_bind,hg,hx]
  ·cases hp
 ·cases hp
theorem evField_ok {o:Oper} {t:TypeId} {x:Operand} {f:Nat} {e e':E} (ho:o.op=.field t x f) (h:evField P C.N o t x f e=some e'):OpOk P C o e e':=by
 unfold evField at h
 split at h
 ·cases h
 rename_i d hd
 split at h
 ·cases h
 rename_i off ft hf
 split at h
 ·rename_i cs e1 hv
  split at h
  ·rename_i u hp
   cases h
   refine OpOk.of0 (xs:=[x]) (us:=[.agg cs]) (e1:=e1) hd (by simp [vals,hv]) rfl id fun _ ρ w p r=>?_
   ·obtain ⟨v,vs,hvs,r1,_⟩:=r.cons_inv
    have hx:ρ x=v:=(List.cons.inj hvs).1
    ·obtain ⟨xs,rfl,r2⟩:=r1.agg_inv
     clear r1
     have r1:=r2
     obtain ⟨v,hr,hR⟩:=part_run (P:=P) r1 hp
     refine ⟨v,?_,hR⟩
     unfold foff at hf
     split at hf
     ·rename_i fs hu
      split at hf
      ·rename_i fd hfd
       split at hf
       ·cases hf
        unfold execOp
        simp only [ho,hx,Instr.field,Sem.run_bind,run_underlying hu,Result.andThen_ok,hfd,asAgg,Sem.run_pure,hr]
       ·cases hf
      ·cases hf
     ·cases hf
  ·cases h
 ·cases h
def evExtract (N:Nat) (o:Oper) (x:Operand) (i:Nat) (e:E):Option E :=
 match dstOf N o with
 | none=>none
 | some d=>match val x e with
  | some (.tup us,e)=>match us[i]? with
   | some u=>some (e.put d u)
   | none=>none
  | _=>none
theorem RepL.get {p:Pub} {w:World}:∀ {vs:List Value} {ds:List V} {T:List Nat} {c:Nat} {d:V},RepL p w vs ds T→ds[c]? = some d→∃ v A,vs[c]? = some v∧Rep p w v d A∧(∀ b∈A,b∈T)
 | _,_,_,_,_,.nil,h=>by simp at h
 | _,_,_,0,d,.cons (A:=A) (B:=B) h1 h2,h=>by
  simp only [List.getElem?_cons_zero,Option.some.injEq] at h
  subst h
  exact ⟨_,A,rfl,h1,fun b hb=>List.mem_append_left _ hb⟩
 | _,_,_,c+1,d,.cons (A:=A) (B:=B) h1 h2,h=>by
  simp only [List.getElem?_cons_succ] at h
  obtain ⟨v,Tc,e1,e2,e3⟩:=h2.get h
  exact ⟨v,Tc,by simpa using e1,e2,fun b hb=>List.mem_append_right _ (e3 b hb)⟩
theorem evExtract_ok {o:Oper} {x:Operand} {i:Nat} {e e':E} (ho:o.op=.extract x i) (h:evExtract C.N o x i e=some e'):OpOk P C o e e':=by
 unfold evExtract at h
 split at h
 ·cases h
 rename_i d hd
 split at h
 ·rename_i us e1 hv
  split at h
  ·rename_i u hp
   cases h
   refine OpOk.of0 (xs:=[x]) (us:=[.tup us]) (e1:=e1) hd (by simp [vals,hv]) rfl id fun _ ρ w p r=>?_
   ·obtain ⟨v,vs,hvs,r1,_⟩:=r.cons_inv
    have hx:ρ x=v:=(List.cons.inj hvs).1
    ·obtain ⟨xs,rfl,r2⟩:=r1.tup_inv
     clear r1
     have r1:=r2
     obtain ⟨v,A,h1,h2,h3⟩:=r1.get hp
     have hA:A=[]:=List.eq_nil_iff_forall_not_mem.2 fun b hb=>by cases h3 b hb
     subst hA
     refine ⟨v,?_,h2⟩
     unfold execOp
     simp only [ho,hx,Instr.extract,List.getElem?_toArray,h1,Sem.run_bind,Sem.run_pure,Result.andThen_ok]
  ·cases h
 ·cases h
def placeB (P:Program) (t:TypeId):Option (Nat→Option (Nat × Nat)):=match P.underlying t with
 | some (.array _ e)=>match P.info? e with
  | some ie=>some fun i=>some (i*ie.size,ie.size)
  | none=>none
 | some (.struct fields)=>match fields.toList.mapM (fun f=>(P.info? f.type).map fun i=>(f.offset,i.size)) with
  | some places=>some (places.toArray[·]?)
  | none=>none
 | _=>none
def evBuild (P:Program) (N:Nat) (o:Oper) (t:TypeId) (parts:List (Nat × Operand)) (e:E):Option E :=
 match dstOf N o with
 | none=>none
 | some d=>match zeroV P t,placeB P t with
  | some z,some pl=>match vals (parts.map (·.2)) e with
   | some (us,e)=>match fillV pl z ((parts.map (·.1)).zip us) with
    | some cs=>some (e.put d (.agg cs))
    | none=>none
   | none=>none
  | _,_=>none
theorem vals_length:∀ {xs:List Operand} {e e':E} {us:List V},vals xs e=some (us,e')→us.length=xs.length
 | [],_,_,_,h=>by cases h;rfl
 | x :: xs,e,e',us,h=>by
  simp only [vals] at h
  split at h
  ·cases h
  ·split at h
   ·cases h
   ·rename_i h2
    cases h
    simp [vals_length h2]
theorem evBuild_ok {o:Oper} {t:TypeId} {parts:Array (Nat × Operand)} {e e':E} (ho:o.op=.build t parts) (h:evBuild P C.N o t parts.toList e=some e'):OpOk P C o e e':=by
 unfold evBuild at h
 split at h
 ·cases h
 rename_i d hd
 split at h
 ·rename_i z pl hz hpl
  split at h
  ·rename_i us e1 hv
   split at h
   ·rename_i cs hf
    cases h
    refine OpOk.of0 hd hv rfl id fun _ ρ w p r=>?_
    obtain ⟨it,zv,hit,hzv,h1,hzr⟩:=zeroV_ok hz
    have hlen:=vals_length hv
    have e2:(((parts.toList.map (·.1)).zip us).map (·.2))=us:=by
     rw [List.map_snd_zip];simp [hlen]
    have e3:(((parts.toList.map (·.1)).zip us).map (·.1))=parts.toList.map (·.1):=by
     rw [List.map_fst_zip];simp [hlen]
    obtain ⟨ys,g1,g2,g3⟩:=fillV_ok (p:=p) (w:=w) (xs:=zv.cells) hf (by rw [e2];exact r) (hzr p w) h1
    rw [e3] at g1
    refine ⟨.agg ys,?_,by simpa using Rep.agg g2⟩
    have hb:P.built t (parts.map fun (i,x)=>(i,ρ x)).toList=some ys:=by
     have e4:(parts.map fun (i,x)=>(i,ρ x)).toList=(parts.toList.map (·.1)).zip ((parts.toList.map (·.2)).map ρ):=by
      rw [Array.toList_map]
      generalize parts.toList=l
      induction l with
      | nil=>rfl
      | cons a l ih=>simp [ih]
     rw [e4]
     unfold placeB at hpl
     unfold Program.built
     rw [hit]
     split at hpl
     ·rename_i n el hu
      rw [hu]
      simp only [hzv]
      split at hpl
      ·rename_i ie hie
       cases hpl
       rw [hie]
       exact g1
      ·cases hpl
     ·rename_i fs hu
      rw [hu]
      simp only [hzv]
      split at hpl
      ·rename_i places hpp
       cases hpl
       rw [hpp]
       exact g1
      ·cases hpl
     ·cases hpl
    unfold execOp
    simp only [ho,Sem.run_bind,run_build w t _ ys hb,Result.andThen_ok,Sem.run_pure]
   ·cases h
  ·cases h
 ·cases h
end
section
variable {P:Program} {C:Ctx}
theorem OpOk.new {o:Oper} {xs:List Operand} {e e1 e':E} {us:List V} {u:V} {d:Nat} (hd:dstOf C.N o=some d) (hv:vals xs e=some (us,e1))
 (h':e'.st=e1.st.put d (.d (.v u))) (hob:All e'.ob→All e1.ob)
 (hrun:All e'.ob→∀ (ρ:Operand→Value) (w:World) (p:Pub),(∀ b,p b→b < w.heap.size)→RepL p w (xs.map ρ) us []→∃ v w' T,(execOp ρ o).run P w=.ok (.value v) w'∧Calm w w'∧Rep p w' v u T∧T.Nodup∧∀ b∈T,w.heap.size≤b∧b < w'.heap.size):OpOk P C o e e':=by
 intro hA
 obtain ⟨hdd,hdN⟩:=dstOf_eq hd
 obtain ⟨h0,k⟩:=vals_ok (C:=C) hv (hob hA)
 refine ⟨h0,fun g a w S next Q hn=>?_⟩
 obtain ⟨g1,kk,S1,r⟩:=k g a w S
 obtain ⟨v,w',T,hr,hc,hR,hT,hTf⟩:=hrun hA a.eval w g1.pub S1.publt r
 refine wp_of_run hr ?_
 have:=S1.put (d:=d) (v:=v) (x:=.d (.v u)) (T:=T) (p:=fun _=>False) hc hdN (fun _ h=>h.elim) hT (fun b hb=>⟨(hTf b hb).1,(hTf b hb).2,fun h=>h⟩) (.v (hR.keep ⟨fun b hb=>.inl hb,fun _ _=>rfl⟩ (fun _ _=>rfl)))
 rw [hdd]
 refine hn (g1.put d T fun _=>False) _ _ ?_ (fun _=>hc)
 rw [h']
 exact this
theorem fill_all {size:Nat}:∀ (vs:List Value) (k:Nat) (xs:Array Value),(∀ v∈vs,v.cells.size=size)→(k+vs.length)*size≤xs.size →
 ∃ ys,Instr.fill (fun i=>some (i*size,size)) xs ((List.range' k vs.length).zip vs)=some ys∧ys.toList=xs.toList.take (k*size)++vs.flatMap (fun v=>v.cells.toList)++xs.toList.drop ((k+vs.length)*size)
 | [],k,xs,_,_=>⟨xs,by simp [Instr.fill],by simp⟩
 | v :: vs,k,xs,h,hl=>by
  have hv:=h v (by simp)
  simp only [List.length_cons] at hl
  have hk:k*size+size≤xs.size:=by
   have:(k+1)*size≤(k+(vs.length+1))*size:=Nat.mul_le_mul_right _ (by omega)
   rw [Nat.add_mul,Nat.one_mul] at this
   omega
  have hf:=fold_set v.cells.toList (k*size) 0 xs (by simp;omega)
  simp only [Nat.add_zero,Array.length_toList,hv] at hf
  have e:(v.cells.zipIdx.foldl (fun cs (c,j)=>cs.setIfInBounds (k*size+j) c) xs)=((v.cells.toList.zipIdx 0).foldl (fun (cs:Array Value) (x:Value × Nat)=>cs.setIfInBounds (k*size+x.2) x.1) xs):=by
   rw [← Array.foldl_toList,Array.toList_zipIdx]
  generalize hz:(v.cells.zipIdx.foldl (fun cs (c,j)=>cs.setIfInBounds (k*size+j) c) xs)=zs at e
  rw [← e] at hf
  have hzl:zs.size=xs.size:=by
   rw [← Array.length_toList,hf]
   simp [hv]
   omega
  obtain ⟨ys,g1,g2⟩:=fill_all vs (k+1) zs (fun v hv=>h v (by simp [hv])) (by rw [hzl,show k+1+vs.length=k+(vs.length+1) by omega];exact hl)
  refine ⟨ys,?_,?_⟩
  ·simp only [List.length_cons,List.range'_succ,List.zip_cons_cons,Instr.fill]
   rw [if_neg (by simp [hv];omega)]
   simp only at hz ⊢
   rw [hz]
   exact g1
  ·rw [g2,hf]
   have e1:(k+1)*size=k*size+size:=by rw [Nat.add_mul,Nat.one_mul]
   have e2:(k+1+vs.length)*size=k*size+size+vs.length*size:=by rw [Nat.add_mul,e1]
   have e3:(k+(v :: vs).length)*size=k*size+size+vs.length*size:=by simp only [List.length_cons,Nat.add_mul,Nat.one_mul];omega
   have hlt:(xs.toList.take (k*size)).length=k*size:=by simp;omega
   rw [e1,e2,e3]
   simp only [List.flatMap_cons]
   have t1:(xs.toList.take (k*size)++v.cells.toList++xs.toList.drop (k*size+size)).take (k*size+size)=xs.toList.take (k*size)++v.cells.toList:=by
    have:(xs.toList.take (k*size)++v.cells.toList).length=k*size+size:=by rw [List.length_append,hlt,Array.length_toList,hv]
    rw [← this,List.take_left]
   have t2:(xs.toList.take (k*size)++v.cells.toList++xs.toList.drop (k*size+size)).drop (k*size+size+vs.length*size)=xs.toList.drop (k*size+size+vs.length*size):=by
    have:(xs.toList.take (k*size)++v.cells.toList).length=k*size+size:=by rw [List.length_append,hlt,Array.length_toList,hv]
    rw [List.drop_append,this,List.drop_of_length_le (by omega),List.nil_append,List.drop_drop]
    congr 1
    omega
   rw [t1,t2]
   simp
def allFlat (sz:Nat):List V→Bool
 | []=>true
 | u :: us=>match u.flatOk && Nat.beq u.cells.length sz with
  | true=>allFlat sz us
  | false=>false
theorem allFlat_ok {p:Pub} {w:World} {sz:Nat}:∀ {us:List V} {vs:List Value},allFlat sz us=true→RepL p w vs us []→(∀ u∈us,u.cells.length=sz)∧(∀ v∈vs,v.cells.size=sz)∧RepL p w (vs.flatMap fun v=>v.cells.toList) (us.flatMap V.cells) []∧∀ x∈(vs.flatMap fun v=>v.cells.toList),x.oneCell'=true
 | [],vs,_,r=>by
  have hl:vs=[]:=List.eq_nil_of_length_eq_zero (by simpa using r.length)
  subst hl
  exact ⟨by simp,by simp,.nil,by simp⟩
 | u :: us,vs,h,r=>by
  unfold allFlat at h
  split at h
  ·rename_i hc
   rw [Bool.and_eq_true] at hc
   have c2:=Nat.eq_of_beq_eq_true hc.2
   obtain ⟨v,ws,rfl,r1,r2⟩:=r.cons_inv
   obtain ⟨r3,r4⟩:=r1.flat hc.1
   obtain ⟨h1,h2,h3,h4⟩:=allFlat_ok h r2
   have hvs:v.cells.size=sz:=by rw [← Array.length_toList,r3.length,c2]
   refine ⟨?_,?_,?_,?_⟩
   ·intro x hx;rcases List.mem_cons.1 hx with rfl | hx;exact c2;exact h1 x hx
   ·intro x hx;rcases List.mem_cons.1 hx with rfl | hx;exact hvs;exact h2 x hx
   ·have:=r3.app h3;simpa using this
   ·intro x hx
    simp only [List.flatMap_cons,List.mem_append] at hx
    rcases hx with hx | hx
    ·exact r3.one r4 x hx
    ·exact h4 x hx
  ·cases h
def idxs:Nat→List Nat→Bool
 | _,[]=>true
 | k,i :: is=>match Nat.beq i k with
  | true=>idxs (k+1) is
  | false=>false
theorem idxs_ok:∀ {l:List Nat} {k:Nat},idxs k l=true→l=List.range' k l.length
 | [],_,_=>by simp
 | i :: is,k,h=>by
  unfold idxs at h
  split at h
  ·rename_i hi
   have:=Nat.eq_of_beq_eq_true hi
   subst this
   simp only [List.length_cons,List.range'_succ]
   rw [← idxs_ok h]
  ·cases h
def evBslice (P:Program) (N:Nat) (o:Oper) (t:TypeId) (len:Nat) (parts:List (Nat × Operand)) (e:E):Option E :=
 match dstOf N o with
 | none=>none
 | some d=>match P.underlying t with
  | some (.slice el)=>match sizeT P el,zeroV P el with
   | some sz,some _=>match vals (parts.map (·.2)) e with
    | some (us,e)=>match allFlat sz us && idxs 0 (parts.map (·.1)) && Nat.beq parts.length len && Nat.ble (len*sz) 16777216 && Nat.ble len maxLen with
     | true=>some (e.put d (.row (some el) sz us))
     | false=>none
    | none=>none
   | _,_=>none
  | _=>none
theorem evBslice_ok {o:Oper} {t:TypeId} {len:Nat} {parts:Array (Nat × Operand)} {e e':E} (ho:o.op=.buildSlice t len parts) (h:evBslice P C.N o t len parts.toList e=some e'):OpOk P C o e e':=by
 unfold evBslice at h
 split at h
 ·cases h
 rename_i d hd
 split at h
 ·rename_i el hu
  split at h
  ·rename_i sz zs hs hz
   split at h
   ·rename_i us e1 hv
    split at h
    ·rename_i hc
     cases h
     simp only [Bool.and_eq_true] at hc
     obtain ⟨⟨⟨⟨c1,c2⟩,c3⟩,c4⟩,c5⟩:=hc
     have c3:=Nat.eq_of_beq_eq_true c3
     have c4:=Nat.le_of_ble_eq_true c4
     have c5:=Nat.le_of_ble_eq_true c5
     refine OpOk.new hd hv rfl id fun _ ρ w p hp r=>?_
     obtain ⟨h1,h2,h3,h4⟩:=allFlat_ok c1 r
     have hlen:=vals_length hv
     obtain ⟨it,zv,hit,hzv,_,hzr⟩:=zeroV_ok hz
     unfold sizeT at hs
     rw [hit] at hs
     have hs:it.size=sz:=Option.some.inj hs
     have hvl:((parts.toList.map (·.2)).map ρ).length=len:=by simp;rw [← c3];simp
     let z0:Array Value:=if len*sz=0 then #[] else zv.cells
     let xs:Array Value:=(Array.range (len*sz)).map (z0[· % z0.size]!)
     have hxs:xs.size=len*sz:=by simp [xs]
     obtain ⟨ys,g1,g2⟩:=fill_all (size:=sz) ((parts.toList.map (·.2)).map ρ) 0 xs h2 (by rw [hvl,hxs,Nat.zero_add];exact Nat.le_refl _)
     have e0:parts.toList.map (·.1)=List.range' 0 ((parts.toList.map (·.2)).map ρ).length:=by
      have:=idxs_ok c2
      rw [this];congr 1;simp
     have hys:ys.toList=((parts.toList.map (·.2)).map ρ).flatMap fun v=>v.cells.toList:=by
      rw [g2]
      simp only [Nat.zero_mul,List.take_zero,List.nil_append,Nat.zero_add,hvl]
      rw [List.drop_of_length_le (by rw [Array.length_toList,hxs];exact Nat.le_refl _),List.append_nil]
     have hyl:ys.size=us.length*sz:=by
      rw [← Array.length_toList,hys,h3.length,flat_len h1]
     have hul:us.length=len:=by rw [hlen];simp;rw [← c3];simp
     refine ⟨.slice (some ⟨w.heap.size,0,none⟩) len len,w.alloc (.cells ys el),[w.heap.size],?_,Calm.of (World.grownBy_alloc w _ none),?_,by simp,?_⟩
     ·have hb:(Instr.buildSlice t len (parts.map fun (i,x)=>(i,ρ x))).run P w=.ok (.slice (some ⟨w.heap.size,0,none⟩) len len) (w.alloc (.cells ys el)):=by
       have e4:(parts.map fun (i,x)=>(i,ρ x)).toList=(parts.toList.map (·.1)).zip ((parts.toList.map (·.2)).map ρ):=by
        rw [Array.toList_map]
        generalize parts.toList=l
        induction l with
        | nil=>rfl
        | cons a l ih=>simp [ih]
       rw [e0] at e4
       by_cases hzero:len*sz=0
       ·have hz0:z0 = #[]:=by simp [z0,hzero]
        simp only [xs,hz0] at g1
        simp only [Instr.buildSlice,Sem.run_bind,run_underlying hu,Result.andThen_ok,sizeOf,typeInfo,run_program,hit,Sem.run_pure,hs]
        rw [if_neg (by omega),if_pos hzero]
        simp only [Sem.run_pure,Result.andThen_ok,e4,g1,newRow,Sem.run_bind,run_newObj,World.alloc_eq]
       ·have hz0:z0=zv.cells:=by simp only [z0];rw [if_neg hzero]
        simp only [xs,hz0] at g1
        simp only [Instr.buildSlice,Sem.run_bind,run_underlying hu,Result.andThen_ok,sizeOf,typeInfo,run_program,hit,Sem.run_pure,hs]
        rw [if_neg (by omega),if_neg hzero]
        simp only [Sem.run_bind,zeroValue,typeInfo,run_program,hit,hzv,Sem.run_pure,Result.andThen_ok,e4,g1,newRow,run_newObj,World.alloc_eq]
      unfold execOp
      simp only [ho,Sem.run_bind,hb,Result.andThen_ok,Sem.run_pure]
     ·have how:=World.ownsRow_lit (base:=0) (e:=el) (size:=sz) w ys len (Nat.zero_le _) c5 (by rw [hyl,hul])
      have:=Rep.own (p:=p) (w:=w.alloc (.cells ys el)) (A:=[]) (v:=.slice (some ⟨w.heap.size,0,none⟩) len len) h1 ((hys ▸ h3).keep ⟨fun _ h=>h,fun b hb=>(Calm.of (World.grownBy_alloc w (.cells ys el) none)).same b (hp b hb)⟩ (fun _ h=>by cases h)) (by rw [hys];exact h4) (by rw [hul];exact .of how)
      simpa [Value.ownBlock] using this
     ·intro b hb
      simp only [List.mem_singleton] at hb
      subst hb
      simp
    ·cases h
   ·cases h
  ·cases h
 ·cases h
end
section
variable {P:Program}
structure Src (P:Program) (tx:TypeId) (size m:Nat) (news:List Value) (x:Value) (w:World):Prop where
 len:(Builtin.lenOf x).run P w=.ok m w
 cells:(Builtin.firstCells size m x).run P w=.ok news.toArray w
 cells':(Builtin.firstCells size m x).run P w.drew=.ok news.toArray w.drew
 num:news.length=m*size
 one:∀ u∈news,u.oneCell'=true
 ty:∃ dx,P.underlying tx=some dx∧∀ k,dx≠.int k
theorem run_storeCells_fz (g o:Nat) (t:TypeId) (fz:Nat × Nat):∀ (vs:List Value) (i:Nat) (cur:Array Value) (w:World),w.heap[g]? = some (.cells cur t fz)→Away fz cur.size→o+i+vs.length≤cur.size→(∀ v∈vs,v.oneCell'=true) →
 (storeCells ⟨g,o,none⟩ vs i).run P w=.ok () (w.setRow g (cur.toList.take (o+i)++vs++cur.toList.drop (o+i+vs.length)).toArray)
 | [],i,cur,w,hg,_,_,_=>by
  simp only [storeCells,List.append_nil,List.length_nil,Nat.add_zero,List.take_append_drop,Array.toArray_toList]
  rw [setRow_self w g cur t fz hg]
  rfl
 | v :: rest,i,cur,w,hg,haw,hl,h1=>by
  have hi:o+i < cur.size:=by simp at hl;omega
  have hadd:(⟨g,o,none⟩:Addr).add i=⟨g,o+i,none⟩:=by unfold Addr.add;split<;>simp_all
  have hcell:w.cell? ⟨g,o+i,none⟩=some cur[o+i]:=by simp [World.cell?,hg,hi]
  have hfro:w.frozen? ⟨g,o+i,none⟩=false:=by
   obtain ⟨f1,f2⟩:=fz
   simp only [World.frozen?,hg,Bool.and_eq_false_iff,decide_eq_false_iff_not]
   rcases haw with h | h
   ·simp only at h;omega
   ·simp only at h;omega
  have hst:(store ((⟨g,o,none⟩:Addr).add i) v).run P w=.ok () (w.setRow g (cur.setIfInBounds (o+i) v)):=by
   rw [hadd,run_store P w _ v _ (h1 v (by simp)),hcell]
   simp [hfro,setCell_eq_setRow w g (o+i) cur t fz v hg]
  have ih:=run_storeCells_fz g o t fz rest (i+1) (cur.setIfInBounds (o+i) v) (w.setRow g (cur.setIfInBounds (o+i) v)) (setRow_heap w g cur _ t _ hg) (by simpa using haw) (by simp at hl ⊢;omega) (fun x hx=>h1 x (by simp [hx]))
  simp only [storeCells,Sem.run_bind,hst,Result.andThen_ok,ih,setRow_setRow]
  congr 3
  have e:=list_seg_step cur.toList (o+i) v rest (by simp at hl ⊢;omega)
  simpa [Array.toList_setIfInBounds,Nat.add_assoc] using e
theorem append_run (w:World) (t tx ty e:TypeId) (i:TypeInfo) (z:Value) (size bytes:Nat) (ht:P.underlying t=some (.slice e)) (hi:P.info? e=some i) (hz:i.zero=some z)
 (hsize:i.size=size) (hby:i.bytes=bytes) (hzs:z.cells.size=size) (v:Value) (n:Nat) (xs:List Value) (hown:OwnR w 0 e size v n xs)
 (x:Value) (m:Nat) (news:List Value) (S:Src P tx size m news x w) (h63:n+m≤maxLen) (hbytes:(n+m)*bytes≤140737488355328) :
 ∃ v' w',(Builtin.append_ #[t,tx] ty #[v,x]).run P w=.ok v' w'∧OwnR w' 0 e size v' (n+m) (xs++news)∧w.grownBy w' v.ownBlock∧(∀ b,v'.ownBlock=some b→(v.ownBlock=some b∨b=w.heap.size)∧b < w'.heap.size):=by
 subst hsize
 subst hby
 obtain ⟨dx,hdx,hnint⟩:=S.ty
 have hzeros:(match dx with | .int _=>true | _=>false)=false:=by
  cases dx<;>first | rfl | exact ((hnint _) rfl).elim
 have hlen:(xs++news).length=(n+m)*i.size:=by rw [List.length_append,hown.1,S.num,Nat.add_mul]
 have hsmall:n+m≤9223372036854775807:=by simp only [maxLen] at h63;omega
 have grown:∀ (old:Nat),old < n+m→∀ (row:Option Nat),
  OwnR (w.drew.alloc (.cells (xs.toArray++news.toArray++Builtin.zeroCells z.cells (grownCap w (n+m) old e - (n+m))) e)) 0 e i.size
   (.slice (some ⟨w.heap.size,0,none⟩) (n+m) (grownCap w (n+m) old e)) (n+m) (xs++news) ∧
  w.grownBy (w.drew.alloc (.cells (xs.toArray++news.toArray++Builtin.zeroCells z.cells (grownCap w (n+m) old e - (n+m))) e)) row:=by
  intro old ho row
  have hge:=grownCap_ge w (n+m) old e
  have hcm:grownCap w (n+m) old e≤maxLen:=grownCap_le_maxLen w (n+m) old e h63
  refine ⟨.of ⟨hlen,.inr ⟨w.heap.size,_,_,rfl,Nat.zero_le _,Go.heap_alloc_new w.drew _,hge,hcm,?_,?_⟩⟩,⟨rfl,rfl,rfl,by simp,fun k hk _=>Below.heap_alloc w.drew _ k hk⟩⟩
  ·simp only [Array.size_append,List.size_toArray,size_zeroCells,hzs,hown.1,S.num,← Nat.add_mul]
   congr 1
   omega
  ·simp only [Array.toList_append,List.append_assoc]
   rw [← List.append_assoc,← hlen]
   exact List.take_left
 have hfirst:∀ cap (b:Option Addr),(∀ a,b=some a→∀ j v,xs[j]? = some v→w.cell? (a.add j)=some v)→(b=none→xs=[])→(Builtin.firstCells i.size n (.slice b n cap)).run P w.drew=.ok xs.toArray w.drew:=by
  intro cap b hb hn
  cases b with
  | none=>rw [hn rfl];simp [Builtin.firstCells]
  | some a=>exact run_firstCells_some (P:=P) w.drew i.size n a n cap xs hown.1 (by simpa using hb a rfl)
 have grow:∀ (b:Option Addr) (cap:Nat),cap < n+m→(∀ a,b=some a→∀ j v,xs[j]? = some v→w.cell? (a.add j)=some v)→(b=none→xs=[]) →
  (Builtin.append_ #[t,tx] ty #[.slice b n cap,x]).run P w=.ok (.slice (some ⟨w.heap.size,0,none⟩) (n+m) (grownCap w (n+m) cap e)) (w.drew.alloc (.cells (xs.toArray++news.toArray++Builtin.zeroCells z.cells (grownCap w (n+m) cap e - (n+m))) e)):=by
  intro b cap hc hb hn
  have h1:¬ (n+m≤cap):=by omega
  have h63':¬ (9223372036854775807 < ((n:Int)+(m:Int))):=by omega
  have hfit:=growslice_fits hc hbytes
  have h48':¬ (281474976710656 < Builtin.nextslicecap (n+m) cap*i.bytes):=by omega
  simp [Builtin.append_,run_underlying ht,run_underlying hdx,hzeros,sizeOf,typeInfo,zeroValue,hi,hz,S.len,h1,h63',h48',Question.forced,hfirst cap b hb hn,S.cells',newRow,grownCap]
  congr 2
  apply Array.ext'
  simp [List.append_assoc]
 rcases hown.2 with ⟨rfl,rfl⟩ | ⟨g,cap,cur,rfl,hbg,⟨fz,hg,haw⟩,hnc,hcm,hcs,htake⟩
 ·have hx:xs=[]:=List.eq_nil_of_length_eq_zero (by simpa using hown.1)
  by_cases hm:m=0
  ·subst hm
   have hn:news=[]:=List.eq_nil_of_length_eq_zero (by simpa using S.num)
   subst hn
   subst hx
   refine ⟨.slice none 0 0,w,?_,OwnR.nil w 0 e i.size,⟨rfl,rfl,rfl,Nat.le_refl _,fun _ _ _=>rfl⟩,by simp [Value.ownBlock]⟩
   simp [Builtin.append_,run_underlying ht,run_underlying hdx,hzeros,sizeOf,typeInfo,hi,S.len,S.cells]
  ·have hgr:=grown 0 (by omega) (Value.ownBlock (.slice none 0 0))
   refine ⟨_,_,grow none 0 (by omega) (by simp) (fun _=>hx),hgr.1,hgr.2,?_⟩
   simp [Value.ownBlock]
 ·by_cases hroom:n+m≤cap
  ·have hfit:n*i.size+news.length≤cur.size:=by rw [S.num,hcs,← Nat.add_mul];exact Nat.mul_le_mul_right _ hroom
   have hst:=run_storeCells_fz (P:=P) g (n*i.size) e fz news 0 cur w hg haw (by simpa using hfit) S.one
   simp only [Nat.add_zero] at hst
   refine ⟨_,w.setRow g (cur.toList.take (n*i.size)++news++cur.toList.drop (n*i.size+news.length)).toArray,?_,⟨hlen,.inr ⟨g,cap,_,rfl,hbg,⟨fz,setRow_heap w g cur _ e _ hg,?_⟩,hroom,hcm,?_,?_⟩⟩,⟨rfl,rfl,rfl,by simp,fun k _ hk=>setRow_other w g k _ (fun e=>hk (by simp [Value.ownBlock,e]))⟩,?_⟩
   ·simp [Builtin.append_,run_underlying ht,run_underlying hdx,hzeros,sizeOf,typeInfo,hi,S.len,hroom,S.cells,Addr.add_lit,hst]
   ·rcases haw with h | h
    ·exact .inl h
    ·refine .inr ?_
     simp only [List.size_toArray,List.length_append,List.length_take,List.length_drop,Array.length_toList]
     omega
   ·simp only [List.size_toArray,List.length_append,List.length_take,List.length_drop,Array.length_toList]
    omega
   ·rw [htake,← hlen]
    exact List.take_left
   ·intro b hb
    simp only [Value.ownBlock,Option.some.injEq] at hb
    subst hb
    have:g < w.heap.size:=by
     rcases Nat.lt_or_ge g w.heap.size with h | h
     ·exact h
     ·rw [Array.getElem?_eq_none h] at hg;cases hg
    exact ⟨.inl rfl,by simpa using this⟩
  ·have holds:∀ j u,xs[j]? = some u→w.cell? ((⟨g,0,none⟩:Addr).add j)=some u:=hown.cells (g:=g) rfl
   have hgr:=grown cap (by omega) (Value.ownBlock (.slice (some ⟨g,0,none⟩) n cap))
   refine ⟨_,_,grow (some ⟨g,0,none⟩) cap (by omega) (fun a ha=>by cases ha;exact holds) (by simp),hgr.1,hgr.2,?_⟩
   simp [Value.ownBlock]
theorem Src.slice {w:World} {tx ex:TypeId} {size m cap:Nat} {news:List Value} {ao:Option Addr} (hu:P.underlying tx=some (.slice ex)) (hl:news.length=m*size) (h1:∀ u∈news,u.oneCell'=true)
 (hc:∀ j v,news[j]? = some v→∃ a,ao=some a∧w.cell? (a.add j)=some v) (hn:ao=none→m=0):Src P tx size m news (.slice ao m cap) w:=by
 refine ⟨by simp [Builtin.lenOf],?_,?_,hl,h1,⟨_,hu,by simp⟩⟩
 ·cases ao with
  | none =>
   have:=hn rfl
   subst this
   have:news=[]:=List.eq_nil_of_length_eq_zero (by simpa using hl)
   subst this
   simp [Builtin.firstCells]
  | some a=>exact run_firstCells_some (P:=P) w size m a m cap news hl (fun j v hj=>by obtain ⟨a',e,h⟩:=hc j v hj;cases e;exact h)
 ·cases ao with
  | none =>
   have:=hn rfl
   subst this
   have:news=[]:=List.eq_nil_of_length_eq_zero (by simpa using hl)
   subst this
   simp [Builtin.firstCells]
  | some a=>exact run_firstCells_some (P:=P) w.drew size m a m cap news hl (fun j v hj=>by obtain ⟨a',e,h⟩:=hc j v hj;cases e;simpa using h)
def bytesV (s:ByteArray):List V:=s.data.toList.map fun b=>.lit (.int .u8 b.toNat)
def bytesC (s:ByteArray):List Value:=s.data.toList.map fun b=>.int .u8 b.toNat
theorem bytes_rep (p:Pub) (w:World) (s:ByteArray):RepL p w (bytesC s) (bytesV s) []:=by
 unfold bytesC bytesV
 generalize s.data.toList=l
 induction l with
 | nil=>exact .nil
 | cons b l ih=>exact RepL.cons (A:=[]) (B:=[]) (.lit _) ih
theorem Src.string {w:World} {tx:TypeId} (hu:P.underlying tx=some .string) (s:ByteArray):Src P tx 1 s.size (bytesC s) (.string s) w:=by
 have hx:∀ w,(Builtin.firstCells 1 s.size (.string s)).run P w=.ok (bytesC s).toArray w:=by
  intro w
  simp only [Builtin.firstCells,Sem.run_pure]
  congr 1
  apply Array.ext'
  have:(s.extract 0 s.size)=s:=ByteArray.extract_zero_size
  rw [this]
  simp [bytesC]
 refine ⟨by simp [Builtin.lenOf],hx w,hx _,by rw [bytesC,List.length_map,Array.length_toList,Nat.mul_one];rfl,fun u hu=>?_,⟨_,hu,by simp⟩⟩
 simp only [bytesC,List.mem_map] at hu
 obtain ⟨b,_,rfl⟩:=hu
 rfl
end
theorem RepDL.set {g:G} {w:World}:∀ {vs:List Value} {ds:List D} {T:List Nat} {c:Nat} {d:D},RepDL g w vs ds T→ds[c]? = some d →
 ∃ v T1 Tc T2,vs[c]? = some v∧T=T1++(Tc++T2)∧RepD g w v d Tc∧∀ d' v' T',RepD g w v' d' T'→RepDL g w (vs.set c v') (ds.set c d') (T1++(T'++T2))
 | _,_,_,_,_,.nil,h=>by simp at h
 | _,_,_,0,d,.cons (v:=v) (A:=A) (B:=B) h1 h2,h=>by
  simp only [List.getElem?_cons_zero,Option.some.injEq] at h
  subst h
  exact ⟨v,[],A,B,rfl,rfl,h1,fun d' v' T' h'=>(RepDL.cons h' h2:RepDL g w _ _ (T'++B))⟩
 | _,_,_,c+1,d,.cons (A:=A) (B:=B) h1 h2,h=>by
  simp only [List.getElem?_cons_succ] at h
  obtain ⟨v,T1,Tc,T2,e1,e2,e3,e4⟩:=h2.set h
  subst e2
  refine ⟨v,A++T1,Tc,T2,by simpa using e1,by simp,e3,fun d' v' T' h'=>?_⟩
  have:=RepDL.cons h1 (e4 d' v' T' h')
  simpa using this
def isR (r:Root):Root→Bool:=match r with
 | .t x=>isT x
 | .b i _=>isB i
theorem isB_iff (d:Nat) (r:Root):isB d r=true↔r.holder=.inr d:=by
 cases r with
 | t x=>simp [isB,Root.holder]
 | b i c =>
  simp only [isB,Root.holder,Sum.inr.injEq]
  exact ⟨fun h=>Nat.eq_of_beq_eq_true h,fun h=>by rw [h];exact Nat.beq_refl d⟩
theorem isR_iff (q r:Root):isR q r=true↔r.holder=q.holder:=by
 cases q with
 | t x=>exact isT_iff x r
 | b i c=>exact isB_iff i r
theorem X.killR_rootH {q:Root} {x:X} (h:x.kill (isR q)=x) (hd:x≠.dead):∀ r,x.rootH=some r→r≠q.holder:=by
 intro r hr e
 subst e
 cases x with
 | al p =>
  simp only [X.rootH,Option.some.injEq] at hr
  have:=(isR_iff q p.root).2 hr
  simp [X.kill,this] at h
 | pa p sz i j =>
  simp only [X.rootH,Option.some.injEq] at hr
  have:=(isR_iff q p).2 hr
  simp [X.kill,this] at h
 | d d=>simp [X.rootH] at hr
 | dead=>exact hd rfl
def St.wipe (st:St):Root→St
 | .t s=>{ st with env:=(s,.dead) :: kill (isT s) st.env }
 | .b id c=>match st.box[id]? with
  | some (.cells cs)=>{ env:=kill (isB id) st.env,box:=st.box.set id (.cells (cs.set c (.v .any))) }
  | _=>st
def G.wipe (g:G) (h:Nat ⊕ Nat) (T':List Nat):G :=
 { g with own:=fun b=>if g.own b=some h∧b∉T' then none else g.own b,TE:=fun t=>if h=.inl t then T' else g.TE t,TB:=fun i=>if h=.inr i then T' else g.TB i }
section
variable {C:Ctx} {g:G} {st:St} {a:Act} {w w':World}
theorem SRep.take (S:SRep C g st a w) {r:Root} {u:V} (hu:rootVal st r=some u):∃ v T T',pvR g a w r=some v∧Rep g.pub w v u T∧T.Nodup∧(∀ b∈T,g.own b=some r.holder∧b∉T')∧(∀ b∈T',g.own b=some r.holder) ∧
 KeepsG g (g.wipe r.holder T') w w∧SRep C (g.wipe r.holder T') (st.wipe r) a w:=by
 cases r with
 | t s =>
  simp only [rootVal] at hu
  split at hu
  ·rename_i x hx
   cases hu
   obtain ⟨h1,h2,h3⟩:=S.env s _ hx
   refine ⟨a.tmps.getD s undef,g.TE s,[],?_,RepD.inv h2,S.nodE s,fun b hb=>⟨h3 b hb,by simp⟩,by simp,⟨fun _ h=>h,Nat.le_refl _,fun _ _=>rfl,fun _ _=>rfl⟩,?_⟩
   ·have:s < a.tmps.size:=by rw [S.tmps];exact h1
    simp [pvR,Array.getD_eq_getD_getElem?,this]
   show SRep C (g.wipe (.inl s) []) _ _ _
   refine S.change (fun h=>h=.inl s) S.defers S.tmps rfl rfl rfl (Nat.le_refl _) (fun _ h=>h) (fun _ h=>.inl h) S.publt S.n (Nat.le_refl _) (fun _ _=>rfl) (fun _ _ _=>rfl) ?_ ?_ ?_ ?_ ?_ ?_ ?_ ?_
   ·intro b h ho hc
    simp only [G.wipe]
    rw [if_neg (by rw [ho];rintro ⟨e,_⟩;exact hc (Option.some.inj e)),ho]
   ·intro t ht
    refine ⟨rfl,?_⟩
    simp only [G.wipe]
    rw [if_neg (fun e=>ht (by rw [Sum.inl.inj e]))]
   ·intro i hi;exact ⟨by simp [G.wipe],rfl⟩
   ·intro t y hy
    simp only [St.wipe,look] at hy
    cases hb:Nat.beq t s with
    | true =>
     have:=Nat.eq_of_beq_eq_true hb
     subst this
     rw [hb] at hy
     cases hy
     exact .inr ⟨h1,trivial,by simp [G.wipe]⟩
    | false =>
     have hts:t≠s:=fun e=>by rw [e,Nat.beq_refl] at hb;cases hb
     rw [hb] at hy
     simp only [look_kill] at hy
     refine .inl ⟨fun e=>hts (Sum.inl.inj e),?_⟩
     cases hl:look st.env t with
     | none=>rw [hl] at hy;cases hy
     | some z =>
      rw [hl] at hy
      simp only [Option.map_some,Option.some.injEq] at hy
      by_cases hdd:y=.dead
      ·exact .inr ⟨hdd,z,rfl⟩
      ·rcases X.kill_cases (isT s) z with h | ⟨h,_⟩
       ·exact (hdd (by rw [← hy,h])).elim
       ·rw [h] at hy
        subst hy
        exact .inl ⟨rfl,X.kill_rootH h hdd⟩
   ·intro id b _ hc;cases hc
   ·intro t ht;cases ht;simp [G.wipe]
   ·intro i hi;cases hi
   ·intro b h ho
    simp only [G.wipe] at ho
    split at ho
    ·cases ho
    ·exact .inl ⟨ho,(S.own b h ho).2.2⟩
  ·cases hu
 | b id c =>
  simp only [rootVal] at hu
  split at hu
  ·rename_i cs hb
   split at hu
   ·rename_i x hx
    cases hu
    obtain ⟨⟨cur,e,A,hT,hh,hr,h1⟩,h2⟩:=S.box id _ hb
    have hid:id < st.box.length:=by
     rcases Nat.lt_or_ge id st.box.length with h | h
     ·exact h
     ·rw [List.getElem?_eq_none h] at hb;cases hb
    obtain ⟨v,T1,Tc,T2,e1,e2,e3,e4⟩:=hr.set hx
    have hn:=S.nodB id
    rw [hT,e2] at hn
    have hn2:(T1++(Tc++T2)).Nodup:=(List.nodup_cons.1 hn).2
    have hTc:Tc.Nodup:=(List.nodup_append.1 (List.nodup_append.1 hn2).2.1).1
    have hmem:∀ b,b∈Tc→b∉(g.loc id :: (T1++T2)):=by
     intro b hb hb'
     rcases List.mem_cons.1 hb' with rfl | hb'
     ·exact (List.nodup_cons.1 hn).1 (by simp [hb])
     ·rcases List.mem_append.1 hb' with hb' | hb'
      ·exact (List.nodup_append.1 hn2).2.2 b hb' b (by simp [hb]) rfl
      ·exact (List.nodup_append.1 (List.nodup_append.1 hn2).2.1).2.2 b hb b hb' rfl
    have ho:∀ b,b∈g.TB id→g.own b=some (.inr id):=h2
    have hsub:∀ b∈(g.loc id :: (T1++T2)),b∈g.TB id:=by
     intro b hb
     rw [hT,e2]
     simp only [List.mem_cons,List.mem_append] at hb ⊢
     rcases hb with h | h | h
     ·exact .inl h
     ·exact .inr (.inl h)
     ·exact .inr (.inr (.inr h))
    have k:KeepsG g (g.wipe (.inr id) (g.loc id :: (T1++T2))) w w:=⟨fun _ h=>h,Nat.le_refl _,fun _ _=>rfl,fun _ _=>rfl⟩
    refine ⟨v,Tc,g.loc id :: (T1++T2),?_,RepD.inv e3,hTc,fun b hb=>⟨ho b (by rw [hT,e2];simp [hb]),hmem b hb⟩,fun b hb=>ho b (hsub b hb),k,?_⟩
    ·simp only [pvR]
     rw [if_pos ⟨by rw [S.n];exact hid,ho _ (by rw [hT];simp)⟩]
     simp only [World.cell?,hh]
     simpa using e1
    have hw:st.wipe (.b id c)={ env:=kill (isB id) st.env,box:=st.box.set id (.cells (cs.set c (.v .any))) }:=by simp only [St.wipe,hb]
    rw [hw]
    show SRep C (g.wipe (.inr id) (g.loc id :: (T1++T2))) _ _ _
    refine S.change (fun h=>h=.inr id) S.defers S.tmps rfl rfl rfl (Nat.le_refl _) (fun _ h=>h) (fun _ h=>.inl h) S.publt (by simpa [G.wipe] using S.n) (Nat.le_refl _) (fun _ _=>rfl) (fun _ _ _=>rfl) ?_ ?_ ?_ ?_ ?_ ?_ ?_ ?_
    ·intro b h ho' hc
     simp only [G.wipe]
     rw [if_neg (by rw [ho'];rintro ⟨e,_⟩;exact hc (Option.some.inj e)),ho']
    ·intro t ht;exact ⟨rfl,by simp [G.wipe]⟩
    ·intro i hi
     have hi':i≠id:=fun e=>hi (by rw [e])
     refine ⟨?_,?_⟩
     ·simp only [G.wipe]
      rw [if_neg (fun e=>hi' (Sum.inr.inj e).symm)]
     ·rw [List.getElem?_set_ne (fun e=>hi' e.symm)]
    ·intro t y hy
     simp only [look_kill] at hy
     refine .inl ⟨(fun e=>by cases e),?_⟩
     cases hl:look st.env t with
     | none=>rw [hl] at hy;cases hy
     | some z =>
      rw [hl] at hy
      simp only [Option.map_some,Option.some.injEq] at hy
      by_cases hdd:y=.dead
      ·exact .inr ⟨hdd,z,rfl⟩
      ·rcases X.kill_cases (isB id) z with h | ⟨h,_⟩
       ·exact (hdd (by rw [← hy,h])).elim
       ·rw [h] at hy
        subst hy
        exact .inl ⟨rfl,X.killR_rootH (q:=.b id c) h hdd⟩
    ·intro i b hb' hc
     cases hc
     rw [List.getElem?_set_self hid] at hb'
     cases hb'
     have etb:(g.wipe (.inr id) (g.loc id :: (T1++T2))).TB id=g.loc id :: (T1++T2):=by simp [G.wipe]
     refine ⟨⟨cur,e,T1++T2,etb,hh,?_,h1⟩,?_⟩
     ·have:=(e4 (.v .any) v [] (.v (.any v)))
      have hset:cur.toList.set c v=cur.toList:=by
       apply List.ext_getElem?
       intro j
       by_cases hj:c=j
       ·subst hj
        rw [List.getElem?_set_self']
        rw [e1];rfl
       ·rw [List.getElem?_set_ne hj]
      rw [hset] at this
      exact this.keep k (fun _ _=>rfl)
     ·intro b hb'
      rw [etb] at hb'
      simp only [G.wipe]
      rw [if_neg (fun h=>h.2 hb')]
      exact ho b (hsub b hb')
    ·intro t ht;cases ht
    ·intro i hi
     cases hi
     simp only [G.wipe,if_true]
     refine List.nodup_cons.2 ⟨fun h=>(List.nodup_cons.1 hn).1 ?_,?_⟩
     ·simp only [List.mem_append] at h ⊢
      rcases h with h | h
      ·exact .inl h
      ·exact .inr (.inr h)
     ·have h3:=(List.nodup_append.1 hn2)
      exact List.nodup_append.2 ⟨h3.1,(List.nodup_append.1 h3.2.1).2.1,fun x hx y hy=>h3.2.2 x hx y (by simp [hy])⟩
    ·intro b h ho'
     simp only [G.wipe] at ho'
     split at ho'
     ·cases ho'
     ·exact .inl ⟨ho',(S.own b h ho').2.2⟩
   ·cases hu
  ·cases hu
theorem SRep.putF (S:SRep C g st a w) {row:Option Nat} (hg:w.grownBy w' row) (hrow:∀ b,row=some b→g.own b=none∧¬ g.pub b∧(C.W.heap.size≤b∨C.Fz b)) {d:Nat} (hd:d < C.N) {v:Value} {u:V} {T:List Nat}
 (hT:T.Nodup) (hTf:∀ b∈T,g.own b=none∧¬ g.pub b∧(C.W.heap.size≤b∨C.Fz b)∧b < w'.heap.size) (hx:Rep g.pub w' v u T) :
 SRep C (g.put d T fun _=>False) (st.put d (.d (.v u))) (a.put (some d) v) w':=by
 have notT:∀ b h,g.own b=some h→b∉T:=fun b h ho hb=>by have:=(hTf b hb).1;rw [this] at ho;cases ho
 have same:∀ b,b < w.heap.size→(g.pub b∨(∃ h,g.own b=some h)∨(b < C.W.heap.size∧¬ C.Fz b))→w'.heap[b]? = w.heap[b]?:=by
  intro b hb h
  refine hg.block b hb (fun e=>?_)
  obtain ⟨h1,h2,h3⟩:=hrow b e.symm
  rcases h with h | ⟨h',h⟩ | ⟨h4,h5⟩
  ·exact h2 h
  ·rw [h1] at h;cases h
  ·rcases h3 with h3 | h3
   ·omega
   ·exact h5 h3
 have k:KeepsG g (g.put d T fun _=>False) w w':=⟨fun b hb=>.inl hb,Nat.le_refl _,fun _ _=>rfl,fun b hb=>same b (S.publt b hb) (.inl hb)⟩
 refine S.change (fun h=>h=.inl d) S.defers ?_ hg.os hg.tape hg.output hg.size (fun b hb=>.inl hb) ?_ ?_ S.n (Nat.le_refl _) (fun _ _=>rfl) ?_ ?_ ?_ ?_ ?_ ?_ ?_ ?_ ?_
 ·simp [Act.put_some,S.tmps]
 ·rintro b (hb | hb)
  ·exact .inl hb
  ·exact hb.elim
 ·rintro b (hb | hb)
  ·exact Nat.lt_of_lt_of_le (S.publt b hb) hg.size
  ·exact hb.elim
 ·rintro b hb (h | ⟨h,h1,_⟩ | h)
  ·exact same b hb (.inl h)
  ·exact same b hb (.inr (.inl ⟨h,h1⟩))
  ·exact same b hb (.inr (.inr h))
 ·intro b h ho hc
  simp only [G.put]
  rw [if_neg (notT b h ho),if_neg (by rw [ho];intro e;exact hc (Option.some.inj e)),ho]
 ·intro t ht
  have ht':t≠d:=fun e=>ht (by rw [e])
  refine ⟨?_,by simp [G.put,ht']⟩
  rw [Act.put_some]
  simp only [Array.getElem?_setIfInBounds]
  rw [if_neg (fun e=>ht' e.symm)]
 ·intro i hi;exact ⟨rfl,rfl⟩
 ·intro t y hy
  rw [St.put,look_put] at hy
  by_cases ht:t=d
  ·subst ht
   rw [if_pos rfl] at hy
   cases hy
   refine .inr ⟨hd,?_,fun b hb=>?_⟩
   ·have e:(a.put (some t) v).tmps.getD t undef=v:=by
     rw [Act.put_some,Array.getD_eq_getD_getElem?]
     simp [show t < a.tmps.size by rw [S.tmps];exact hd]
    rw [e,show (g.put t T fun _=>False).TE t=T by simp [G.put]]
    exact .v (hx.keep ⟨fun b hb=>.inl hb,fun _ _=>rfl⟩ (fun _ _=>rfl))
   ·have hb':b∈T:=by simpa [G.put] using hb
    simp [G.put,hb']
  ·rw [if_neg ht] at hy
   refine .inl ⟨fun e=>ht (Sum.inl.inj e),?_⟩
   cases hl:look st.env t with
   | none=>rw [hl] at hy;cases hy
   | some z =>
    rw [hl] at hy
    simp only [Option.map_some,Option.some.injEq] at hy
    by_cases hdd:y=.dead
    ·exact .inr ⟨hdd,z,rfl⟩
    ·rcases X.kill_cases (isT d) z with h | ⟨h,h2⟩
     ·exact (hdd (by rw [← hy,h])).elim
     ·rw [h] at hy
      subst hy
      exact .inl ⟨rfl,X.kill_rootH h hdd⟩
 ·intro id b _ hc;cases hc
 ·intro t ht
  cases ht
  simpa [G.put] using hT
 ·intro i hi;cases hi
 ·intro b h ho
  simp only [G.put] at ho
  by_cases hb:b∈T
  ·rw [if_pos hb] at ho
   obtain ⟨h1,h2,h3,h4⟩:=hTf b hb
   refine .inr ⟨.inr (.inr h3),h4,?_⟩
   rintro (hp | hp)
   ·exact h2 hp
   ·exact hp
  ·rw [if_neg hb] at ho
   by_cases ho':g.own b=some (.inl d)
   ·rw [if_pos ho'] at ho;cases ho
   ·rw [if_neg ho'] at ho
    refine .inl ⟨ho,?_⟩
    rintro (hp | hp)
    ·exact (S.own b h ho).2.2 hp
    ·exact hp
end
end
end Go.Rf
