import Derived.Laws.OwnMore
import Derived.Below
import Derived.KernelRfl
import Derived.LoopN
import Derived.Scope
import Derived.WalkKit
import Derived.Laws.FloatArith
import Derived.Laws.ComplexArith
import Derived.Deep.MidRow
import Derived.Laws.BytesArg
import Derived.Laws.IdiomStrings
import Derived.Conc.MuLone
import Derived.Laws.RangeAny
import Derived.Laws.StructEq
import Derived.ScopeJumps
import Derived.OrdersHeld
import Derived.StillTail
import Derived.RangeFuncLeaves
import Derived.ChangeArms
import Derived.DataReads
import Derived.Laws.BitsLemmas
import Derived.Lib.Strings
set_option linter.unusedSectionVars false
set_option linter.unusedSimpArgs false
set_option linter.unusedVariables false
section
namespace Go.Rf
open Go.RowKit
set_option linter.unusedVariables false
inductive V where
 | lit (v:Value)
 | row (o:Option TypeId) (sz:Nat) (es:List V)
 | agg (cs:List V)
 | aC (cs:List V)
 | pt (cs:List V)
 | iface (t:TypeId) (d:V)
 | any
 | nil (e sz:Nat)
 | kb (b:Bool)
 | gX (f:FuncId) (cs:List V)
 deriving Inhabited
def V.cells:V→List V
 | .agg cs=>cs
 | d=>[d]
abbrev bB:=Nat→Prop
mutual
inductive aS (p:bB) (w:World):Value→V→List Nat→Prop
 | lit (u:Value):aS p w u (.lit u) []
 | any (u:Value):aS p w u .any []
 | nil (e sz:Nat):aS p w (.slice none 0 0) (.nil e sz) []
 | kb (b:Bool):aS p w (.bool b) (.kb b) []
 | shared {sz:Nat} {es:List V} {ao:Option Addr} {cap:Nat} {xs:List Value}:es.length≤cap→(∀ e∈es,e.cells.length=sz)→aN p w xs (es.flatMap V.cells) []→(∀ u∈xs,u.oneCell'=true) →
  (∀ j u,xs[j]? = some u→∃ b o,ao=some ⟨b,o,none⟩∧p b∧w.cell? ⟨b,o+j,none⟩=some u)→aS p w (.slice ao es.length cap) (.row none sz es) []
 | own {e sz:Nat} {es:List V} {v:Value} {xs:List Value} {A:List Nat}:(∀ e∈es,e.cells.length=sz)→aN p w xs (es.flatMap V.cells) A→(∀ u∈xs,u.oneCell'=true) →
  w.ownsRow 0 e sz v es.length xs→aS p w v (.row (some e) sz es) (v.ownBlock.toList++A)
 | agg {vs:List Value} {cs:List V} {T:List Nat}:aN p w vs cs T→aS p w (.agg vs.toArray) (.agg cs) T
 | aC {vs:List Value} {cs:List V} {T:List Nat}:aN p w vs cs T→aS p w (.tuple vs.toArray) (.aC cs) T
 | pt {b o:Nat} {cs:List V} {xs:List Value}:aN p w xs cs []→(∀ u∈xs,u.oneCell'=true)→p b→(∀ j u,xs[j]? = some u→w.cell? ⟨b,o+j,none⟩=some u) →
  aS p w (.pointer (some ⟨b,o,none⟩)) (.pt cs) []
 | iface {t:TypeId} {v:Value} {d:V} {T:List Nat}:aS p w v d T→aS p w (.iface t v) (.iface t d) T
 | gX {f:FuncId} {vs:List Value} {cs:List V}:aN p w vs cs []→aS p w (.func (.func f) #[] vs.toArray) (.gX f cs) []
inductive aN (p:bB) (w:World):List Value→List V→List Nat→Prop
 | nil:aN p w [] [] []
 | cons {v:Value} {d:V} {vs:List Value} {ds:List V} {A B:List Nat}:aS p w v d A→aN p w vs ds B→aN p w (v :: vs) (d :: ds) (A++B)
end
structure l9 (p p':bB) (w w':World):Prop where
 aM:∀ b,p b→p' b
 same:∀ b,p b→w'.heap[b]? = w.heap[b]?
theorem uY {w w':World} {b o:Nat} (h:w'.heap[b]? = w.heap[b]?):w'.cell? ⟨b,o,none⟩=w.cell? ⟨b,o,none⟩:=World.cell?_of_block (w:=w) h
theorem Zg {w w':World} {base e size n:Nat} {v:Value} {xs:List Value} (h:w.ownsRow base e size v n xs) (hs:∀ b∈v.ownBlock.toList,w'.heap[b]? = w.heap[b]?):w'.ownsRow base e size v n xs:=by
 obtain ⟨h1,h2⟩:=h
 refine ⟨h1,?_⟩
 rcases h2 with h2 | ⟨g,cap,cur,hv,hg,hh,r⟩
 ·exact .inl h2
 ·refine .inr ⟨g,cap,cur,hv,hg,?_,r⟩
  rw [hs g (by subst hv;simp [Value.ownBlock])];exact hh
mutual
theorem aS.keep {p p':bB} {w w':World} {v:Value} {d:V} {T:List Nat} (k:l9 p p' w w'):aS p w v d T→(∀ b∈T,w'.heap[b]? = w.heap[b]?)→aS p' w' v d T
 | .lit u,_=>.lit u
 | .any u,_=>.any u
 | .nil e sz,_=>.nil e sz
 | .kb b,_=>.kb b
 | .shared h0 h1 h2 h3 h4,_=>.shared h0 h1 (h2.keep k (fun _ h=>by cases h)) h3 (fun j u hj=>let ⟨b,o,e1,e2,e3⟩:=h4 j u hj;⟨b,o,e1,k.aM _ e2,(uY (k.same _ e2)).trans e3⟩)
 | .own h1 h2 h3 h4,hT=>.own h1 (h2.keep k (fun b hb=>hT b (List.mem_append_right _ hb))) h3 (Zg h4 (fun b hb=>hT b (List.mem_append_left _ hb)))
 | .agg h,hT=>.agg (h.keep k hT)
 | .aC h,hT=>.aC (h.keep k hT)
 | .pt h1 h2 h3 h4,_=>.pt (h1.keep k (fun _ h=>by cases h)) h2 (k.aM _ h3) (fun j u hj=>(uY (k.same _ h3)).trans (h4 j u hj))
 | .iface h,hT=>.iface (h.keep k hT)
 | .gX h,_=>.gX (h.keep k (fun _ h=>by cases h))
theorem aN.keep {p p':bB} {w w':World} {vs:List Value} {ds:List V} {T:List Nat} (k:l9 p p' w w'):aN p w vs ds T→(∀ b∈T,w'.heap[b]? = w.heap[b]?)→aN p' w' vs ds T
 | .nil,_=>.nil
 | .cons h1 h2,hT=>.cons (h1.keep k (fun b hb=>hT b (List.mem_append_left _ hb))) (h2.keep k (fun b hb=>hT b (List.mem_append_right _ hb)))
end
theorem l9.refl (p:bB) (w:World):l9 p p w w:=⟨fun _ h=>h,fun _ _=>rfl⟩
theorem l9.trans {p1 p2 p3:bB} {w1 w2 w3:World} (h:l9 p1 p2 w1 w2) (k:l9 p2 p3 w2 w3):l9 p1 p3 w1 w3 :=
 ⟨fun b hb=>k.aM _ (h.aM _ hb),fun b hb=>(k.same b (h.aM b hb)).trans (h.same b hb)⟩
mutual
def V.shr:V→V
 | .row _ sz es=>.row none sz (aZ es)
 | .agg cs=>.agg (aZ cs)
 | .aC cs=>.aC (aZ cs)
 | .iface t d=>.iface t d.shr
 | .lit v=>.lit v
 | .pt cs=>.pt cs
 | .any=>.any
 | .nil e sz=>.nil e sz
 | .kb b=>.kb b
 | .gX f cs=>.gX f cs
def aZ:List V→List V
 | []=>[]
 | d :: ds=>d.shr :: aZ ds
end
theorem qi:∀ l:List V,aZ l=l.map V.shr
 | []=>by simp [aZ]
 | d :: ds=>by simp [aZ,qi ds]
theorem V.F7 (d:V):d.shr.cells=d.cells.map V.shr:=by cases d<;>simp [V.shr,V.cells,qi]
theorem TG (es:List V):(aZ es).flatMap V.cells=aZ (es.flatMap V.cells):=by
 rw [qi,qi]
 induction es with
 | nil=>rfl
 | cons e es ih=>simp only [List.map_cons,List.flatMap_cons,List.map_append,ih,V.F7]
def bB.share (p:bB) (T:List Nat):bB:=fun b=>p b∨b∈T
theorem l9.share (p:bB) (w:World) (T:List Nat):l9 p (p.share T) w w:=⟨fun _ h=>.inl h,fun _ _=>rfl⟩
theorem aN.app {p:bB} {w:World}:∀ {vs us:List Value} {cs ds:List V} {A B:List Nat},aN p w vs cs A→aN p w us ds B→aN p w (vs++us) (cs++ds) (A++B)
 | _,_,_,_,_,_,.nil,h=>h
 | _,_,_,_,_,_,.cons h1 h2,h=>by rw [List.append_assoc];exact .cons h1 (h2.app h)
mutual
theorem aS.share {p:bB} {w:World} {S:List Nat} {v:Value} {d:V} {T:List Nat}:aS p w v d T→(∀ b∈T,b∈S)→aS (p.share S) w v d.shr []
 | .lit u,_=>.lit u
 | .any u,_=>.any u
 | .nil e sz,_=>.nil e sz
 | .kb b,_=>.kb b
 | .shared (sz:=sz) (es:=es) (xs:=xs) h0 h1 h2 h3 h4,hT=>by
  have k:=h2.share (S:=S) (fun _ h=>by cases h)
  have hl:es.length=(aZ es).length:=by simp [qi]
  rw [V.shr,hl]
  exact .shared (by rw [← hl];exact h0) (by simp only [qi,List.mem_map];rintro e ⟨e',he,rfl⟩;rw [V.F7,List.length_map];exact h1 e' he) (by rw [TG];exact k) h3
   (fun j u hj=>let ⟨b,o,e1,e2,e3⟩:=h4 j u hj;⟨b,o,e1,.inl e2,e3⟩)
 | .own (e:=e) (sz:=sz) (es:=es) (v:=v) (xs:=xs) (A:=A) h1 h2 h3 h4,hT=>by
  have k:=h2.share (S:=S) (fun b hb=>hT b (List.mem_append_right _ hb))
  have hl:es.length=(aZ es).length:=by simp [qi]
  have h5:=h4
  obtain ⟨hx,h6⟩:=h4
  rcases h6 with ⟨rfl,hn⟩ | ⟨gb,cap,cur,rfl,hg,hh,r⟩
  ·have hes:es=[]:=List.eq_nil_of_length_eq_zero hn
   subst hes
   have hx0:xs=[]:=List.eq_nil_of_length_eq_zero (by simpa using hx)
   subst hx0
   exact .shared (es:=[]) (xs:=[]) (Nat.zero_le _) (by simp) .nil (by simp) (by simp)
  ·rw [V.shr,hl]
   refine .shared (by rw [← hl];exact r.1) (by simp only [qi,List.mem_map];rintro e ⟨e',he,rfl⟩;rw [V.F7,List.length_map];exact h1 e' he) (by rw [TG];exact k) h3 ?_
   intro j u hj
   refine ⟨gb,0,rfl,.inr (hT gb (by simp [Value.ownBlock])),?_⟩
   have hjl:j < xs.length:=by
    rcases Nat.lt_or_ge j xs.length with h | h
    ·exact h
    ·rw [List.getElem?_eq_none h] at hj;cases hj
   rw [Nat.zero_add,h5.cellAt j (by rw [← hx];exact hjl)]
   exact hj
 | .agg h,hT=>by rw [V.shr];exact .agg (h.share hT)
 | .aC h,hT=>by rw [V.shr];exact .aC (h.share hT)
 | .pt h1 h2 h3 h4,_=>.pt (h1.keep (l9.share p w S) (fun _ h=>by cases h)) h2 (.inl h3) h4
 | .iface h,hT=>.iface (h.share hT)
 | .gX h,_=>.gX (h.keep (l9.share p w S) (fun _ h=>by cases h))
theorem aN.share {p:bB} {w:World} {S:List Nat} {vs:List Value} {ds:List V} {T:List Nat}:aN p w vs ds T→(∀ b∈T,b∈S)→aN (p.share S) w vs (aZ ds) []
 | .nil,_=>.nil
 | .cons h1 h2,hT=>aN.cons (A:=[]) (B:=[]) (h1.share (fun b hb=>hT b (List.mem_append_left _ hb))) (h2.share (fun b hb=>hT b (List.mem_append_right _ hb)))
end
theorem aN.length {p:bB} {w:World}:∀ {vs:List Value} {ds:List V} {T:List Nat},aN p w vs ds T→vs.length=ds.length
 | _,_,_,.nil=>rfl
 | _,_,_,.cons _ h=>by simp [h.length]
mutual
inductive Fit:V→V→Prop
 | refl (d:V):Fit d d
 | fP (e sz:Nat):Fit (.nil e sz) (.row (some e) sz [])
 | dP (e sz je:Nat):Fit (.nil e sz) (.row none je [])
 | agg {cs ds:List V}:dH cs ds→Fit (.agg cs) (.agg ds)
 | aC {cs ds:List V}:dH cs ds→Fit (.aC cs) (.aC ds)
 | row {o:Option TypeId} {sz:Nat} {es es':List V}:dH es es'→Fit (.row o sz es) (.row o sz es')
inductive dH:List V→List V→Prop
 | nil:dH [] []
 | cons {c d:V} {cs ds:List V}:Fit c d→dH cs ds→dH (c :: cs) (d :: ds)
end
theorem dH.refl:∀ l:List V,dH l l
 | []=>.nil
 | c :: cs=>.cons (.refl c) (dH.refl cs)
theorem dH.eq {l m:List V} (h:l=m):dH l m:=h ▸ dH.refl l
theorem dH.app:∀ {a b c d:List V},dH a b→dH c d→dH (a++c) (b++d)
 | _,_,_,_,.nil,h=>h
 | _,_,_,_,.cons f g,h=>.cons f (g.app h)
theorem dH.length:∀ {a b:List V},dH a b→a.length=b.length
 | _,_,.nil=>rfl
 | _,_,.cons _ g=>by simp [g.length]
theorem Fit.cells {c d:V} (h:Fit c d):dH c.cells d.cells:=by
 cases h with
 | refl=>exact dH.refl _
 | fP e sz=>exact .cons (.fP e sz) .nil
 | dP e sz je=>exact .cons (.dP e sz je) .nil
 | agg f=>exact f
 | aC f=>exact .cons (.aC f) .nil
 | row f=>exact .cons (.row f) .nil
theorem dH.flat:∀ {a b:List V},dH a b→dH (a.flatMap V.cells) (b.flatMap V.cells)
 | _,_,.nil=>.nil
 | _,_,.cons f g=>by simp only [List.flatMap_cons];exact f.cells.app g.flat
theorem dH.sizes {sz:Nat}:∀ {a b:List V},dH a b→(∀ e∈a,e.cells.length=sz)→∀ e∈b,e.cells.length=sz
 | _,_,.nil,h=>h
 | _,_,.cons f g,h=>by
  intro e he
  rcases List.mem_cons.1 he with rfl | he
  ·rw [← f.cells.length];exact h _ (by simp)
  ·exact g.sizes (fun e he=>h e (by simp [he])) e he
theorem aN.split {p:bB} {w:World}:∀ {cs ds:List V} {vs:List Value} {T:List Nat},aN p w vs (cs++ds) T→∃ us ws A B,vs=us++ws∧T=A++B∧aN p w us cs A∧aN p w ws ds B
 | [],ds,vs,T,h=>⟨[],vs,[],T,rfl,rfl,.nil,h⟩
 | c :: cs,ds,_,_,.cons (v:=v) (A:=A) h1 h2=>by
  obtain ⟨us,ws,A',B',e1,e2,h3,h4⟩:=aN.split h2
  exact ⟨v :: us,ws,A++A',B',by rw [e1];rfl,by rw [e2,List.append_assoc],.cons h1 h3,h4⟩
theorem aS.U7 {p:bB} {w:World} {v:Value} {o:Option TypeId} {sz:Nat} {es es':List V} {T:List Nat} (hl:es.length=es'.length) (hs:(∀ e∈es,e.cells.length=sz)→∀ e∈es',e.cells.length=sz)
 (hc:∀ xs T,aN p w xs (es.flatMap V.cells) T→aN p w xs (es'.flatMap V.cells) T) (h:aS p w v (.row o sz es) T):aS p w v (.row o sz es') T:=by
 cases h with
 | shared h0 h1 h2 h3 h4=>rw [hl] at h0 ⊢;exact .shared h0 (hs h1) (hc _ _ h2) h3 h4
 | own h1 h2 h3 h4=>rw [hl] at h4;exact .own (hs h1) (hc _ _ h2) h3 h4
theorem aS.WC {p:bB} {w:World} {v:Value} {e sz:Nat} {T:List Nat} (h:aS p w v (.nil e sz) T):aS p w v (.row (some e) sz []) T:=by
 cases h
 exact aS.own (A:=[]) (xs:=[]) (v:=.slice none 0 0) (by simp) .nil (by simp) (World.ownsRow_nil w 0 e sz)
theorem aS.WE {p:bB} {w:World} {v:Value} {e sz je:Nat} {T:List Nat} (h:aS p w v (.nil e sz) T):aS p w v (.row none je []) T:=by
 cases h
 exact .shared (es:=[]) (xs:=[]) (Nat.zero_le _) (by simp) .nil (by simp) (by simp)
mutual
theorem aS.fit {p:bB} {w:World} {v:Value} {d d':V} {T:List Nat} (h:aS p w v d T):Fit d d'→aS p w v d' T
 | .refl _=>h
 | .fP e sz=>h.WC
 | .dP e sz je=>h.WE
 | .agg f=>by
  cases h with | agg h=>exact .agg (h.fit f)
 | .aC f=>by
  cases h with | aC h=>exact .aC (h.fit f)
 | .row f=>h.U7 f.length f.sizes (fun _ _ h=>h.KN f)
theorem aN.fit {p:bB} {w:World} {vs:List Value} {ds ds':List V} {T:List Nat} (h:aN p w vs ds T):dH ds ds'→aN p w vs ds' T
 | .nil=>h
 | .cons f g=>by
  cases h with | cons h1 h2=>exact .cons (h1.fit f) (h2.fit g)
theorem aN.afV {p:bB} {w:World} {vs:List Value} {d d':V} {T:List Nat} (h:aN p w vs d.cells T):Fit d d'→aN p w vs d'.cells T
 | .refl _=>h
 | .fP e sz=>by cases h with | cons h1 h2=>exact .cons h1.WC h2
 | .dP e sz je=>by cases h with | cons h1 h2=>exact .cons h1.WE h2
 | .agg f=>aN.fit h f
 | .aC f=>by
  cases h with | cons h1 h2=>cases h1 with | aC h1=>exact .cons (.aC (h1.fit f)) h2
 | .row f=>by
  cases h with | cons h1 h2=>exact .cons (h1.U7 f.length f.sizes (fun _ _ h=>h.KN f)) h2
theorem aN.KN {p:bB} {w:World} {vs:List Value} {ds ds':List V} {T:List Nat} (h:aN p w vs (ds.flatMap V.cells) T):dH ds ds'→aN p w vs (ds'.flatMap V.cells) T
 | .nil=>h
 | .cons f g=>by
  rw [List.flatMap_cons] at h ⊢
  obtain ⟨us,ws,A,B,rfl,rfl,h1,h2⟩:=h.split
  exact (h1.afV f).app (h2.KN g)
end
end Go.Rf
end
section
namespace Go.Rf
open Go.RowKit
set_option linter.unusedVariables false
inductive Root where
 | t (x:Nat)
 | b (id c:Nat)
 deriving DecidableEq,Inhabited
inductive Pl where
 | top (r:Root)
 | jf (r:Root) (sz i j:Nat)
 deriving Inhabited
def Pl.root:Pl→Root
 | .top r=>r
 | .jf r _ _ _=>r
inductive D where
 | v (x:V)
 | ptr (id off:Nat)
 | agg (cs:List D)
 | aC (cs:List D)
 | fn (f:FuncId) (cap:List D)
 deriving Inhabited
inductive X where
 | d (x:D)
 | al (p:Pl)
 | pa (r:Root) (sz i j:Nat)
 | dead
 deriving Inhabited
inductive gM where
 | cells (cs:List D)
 | iter (s:ByteArray) (pos:Nat)
 | gone
 deriving Inhabited
structure St where
 env:List (Nat × X)
 box:List gM
 deriving Inhabited
structure G where
 aM:bB
 own:Nat→Option (Nat ⊕ Nat)
 n:Nat
 loc:Nat→Nat
 TE:Nat→List Nat
 TB:Nat→List Nat
def Root.holder:Root→Nat ⊕ Nat
 | .t x=>.inl x
 | .b id _=>.inr id
mutual
inductive aV (g:G) (w:World):Value→D→List Nat→Prop
 | v {u:Value} {x:V} {T:List Nat}:aS g.aM w u x T→aV g w u (.v x) T
 | ptr {id off:Nat}:id < g.n→aV g w (.pointer (some ⟨g.loc id,off,none⟩)) (.ptr id off) []
 | agg {vs:List Value} {cs:List D} {T:List Nat}:cK g w vs cs T→aV g w (.agg vs.toArray) (.agg cs) T
 | aC {vs:List Value} {cs:List D} {T:List Nat}:cK g w vs cs T→aV g w (.tuple vs.toArray) (.aC cs) T
 | fn {f:FuncId} {vs:List Value} {cs:List D} {T:List Nat}:cK g w vs cs T→aV g w (.func (.func f) #[] vs.toArray) (.fn f cs) T
inductive cK (g:G) (w:World):List Value→List D→List Nat→Prop
 | nil:cK g w [] [] []
 | cons {v:Value} {d:D} {vs:List Value} {ds:List D} {A B:List Nat}:aV g w v d A→cK g w vs ds B→cK g w (v :: vs) (d :: ds) (A++B)
end
structure dG (g g':G) (w w':World):Prop where
 aM:∀ b,g.aM b→g'.aM b
 n:g.n≤g'.n
 loc:∀ i,i < g.n→g'.loc i=g.loc i
 same:∀ b,g.aM b→w'.heap[b]? = w.heap[b]?
theorem dG.k {g g':G} {w w':World} (h:dG g g' w w'):l9 g.aM g'.aM w w':=⟨h.aM,h.same⟩
mutual
theorem aV.keep {g g':G} {w w':World} {v:Value} {d:D} {T:List Nat} (k:dG g g' w w'):aV g w v d T→(∀ b∈T,w'.heap[b]? = w.heap[b]?)→aV g' w' v d T
 | .v h,hT=>.v (h.keep k.k hT)
 | .ptr h,_=>by rw [← k.loc _ h];exact .ptr (Nat.lt_of_lt_of_le h k.n)
 | .agg h,hT=>.agg (h.keep k hT)
 | .aC h,hT=>.aC (h.keep k hT)
 | .fn h,hT=>.fn (h.keep k hT)
theorem cK.keep {g g':G} {w w':World} {vs:List Value} {ds:List D} {T:List Nat} (k:dG g g' w w'):cK g w vs ds T→(∀ b∈T,w'.heap[b]? = w.heap[b]?)→cK g' w' vs ds T
 | .nil,_=>.nil
 | .cons h1 h2,hT=>.cons (h1.keep k (fun b hb=>hT b (List.mem_append_left _ hb))) (h2.keep k (fun b hb=>hT b (List.mem_append_right _ hb)))
end
mutual
def D.shr:D→D
 | .v x=>.v x.shr
 | .agg cs=>.agg (yf cs)
 | .aC cs=>.aC (yf cs)
 | .fn f b=>.fn f (yf b)
 | .ptr i o=>.ptr i o
def yf:List D→List D
 | []=>[]
 | d :: ds=>d.shr :: yf ds
end
def dY (g:G) (a:Act) (w:World):Root→Option Value
 | .t x=>a.tmps[x]?
 | .b id c=>if id < g.n∧g.own (g.loc id)=some (.inr id) then w.cell? ⟨g.loc id,c,none⟩ else none
def pv (g:G) (a:Act) (w:World):Pl→Option Value
 | .top r=>dY g a w r
 | .jf r sz i j=>match (dY g a w r).bind Value.ownBlock with
  | some b=>if g.own b=some r.holder then w.cell? ⟨b,i*sz+j,none⟩ else none
  | none=>none
def ko (g:G) (a:Act) (w:World) (v:Value) (x:X) (T:List Nat):Prop :=
 match x with
 | .d d=>aV g w v d T
 | .al p=>T=[]∧pv g a w p=some v
 | .pa r sz i j=>T=[]∧∃ b,(dY g a w r).bind Value.ownBlock=some b∧g.own b=some r.holder∧v=.pointer (some ⟨b,i*sz+j,none⟩)
 | .dead=>True
def lL (g:G) (w:World) (l:Nat) (b:gM) (T:List Nat):Prop :=
 match b with
 | .cells cs=>∃ cur e A,T=l :: A∧w.heap[l]? = some (.cells cur e (0,0))∧cK g w cur.toList cs A∧∀ u∈cur.toList,u.oneCell'=true
 | .iter s pos=>T=[l]∧w.heap[l]? = some (.stringIter s pos)
 | .gone=>T=[]
def look:List (Nat × X)→Nat→Option X
 | [],_=>none
 | (k,x) :: l,t=>match Nat.beq t k with
  | true=>some x
  | false=>look l t
def X.kill (r:Root→Bool):X→X
 | .al p=>match r p.root with
  | true=>.dead
  | false=>.al p
 | .pa q sz i j=>match r q with
  | true=>.dead
  | false=>.pa q sz i j
 | x=>x
def kill (r:Root→Bool):List (Nat × X)→List (Nat × X)
 | []=>[]
 | (k,x) :: l=>(k,x.kill r) :: kill r l
def di (d:Nat):Root→Bool
 | .t x=>Nat.beq x d
 | .b _ _=>false
def jN (i:Nat):Root→Bool
 | .t _=>false
 | .b id _=>Nat.beq id i
def vR (l:List (Nat × X)) (d:Nat) (x:X):List (Nat × X):=(d,x) :: kill (di d) l
class cO where
 t:bB→World→Prop
 s:∀ {p p':bB} {w w':World},l9 p p' w w'→t p w→t p' w'
variable [cO]
structure Ctx where
 W:World
 p0:bB
 Fz:Nat→Prop
 N:Nat
 L:List Nat:=[]
structure aI (C:Ctx) (g:G) (st:St) (a:Act) (w:World):Prop where
 defers:a.defers=[]
 tmps:a.tmps.size=C.N
 os:w.os=C.W.os
 tape:w.tape=C.W.tape
 output:w.output=C.W.output
 size:C.W.heap.size≤w.heap.size
 frame:∀ b,b < C.W.heap.size→¬ C.Fz b→w.heap[b]? = C.W.heap[b]?
 aM:∀ b,g.aM b→C.p0 b∨C.W.heap.size≤b∨C.Fz b
 dJ:∀ b,g.aM b→b < w.heap.size
 n:g.n=st.box.length
 env:∀ t x,look st.env t=some x→t < C.N∧ko g a w (a.tmps.getD t undef) x (g.TE t)∧(∀ b∈g.TE t,g.own b=some (.inl t))
 nU:∀ t,(g.TE t).Nodup
 box:∀ id b,st.box[id]? = some b→lL g w (g.loc id) b (g.TB id)∧(∀ b∈g.TB id,g.own b=some (.inr id))
 mK:∀ id,(g.TB id).Nodup
 own:∀ b h,g.own b=some h→(C.W.heap.size≤b∨C.Fz b)∧b < w.heap.size∧¬ g.aM b
 kY:∀ i l,C.L[i]? = some l→i < g.n∧g.loc i=l
 tab:cO.t g.aM w
theorem mX (r:Root→Bool):∀ (l:List (Nat × X)) (t:Nat),look (kill r l) t=(look l t).map (X.kill r)
 | [],_=>rfl
 | (k,x) :: l,t=>by
  simp only [kill,look]
  cases Nat.beq t k with
  | true=>rfl
  | false=>exact mX r l t
theorem TH (l:List (Nat × X)) (d:Nat) (x:X) (t:Nat):look (vR l d x) t=if t=d then some x else (look l t).map (X.kill (di d)):=by
 simp only [vR,look,mX]
 by_cases h:t=d
 ·subst h;simp
 ·cases hb:Nat.beq t d with
  | true=>exact absurd (Nat.eq_of_beq_eq_true hb) h
  | false=>rw [if_neg h]
def X.gp:X→Option (Nat ⊕ Nat)
 | .al p=>some p.root.holder
 | .pa r _ _ _=>some r.holder
 | _=>none
section
variable {g g':G} {a a':Act} {w w':World}
structure Same (g g':G) (a a':Act) (w w':World) (h:Nat ⊕ Nat):Prop where
 own:∀ b,g.own b=some h→g'.own b=some h∧w'.heap[b]? = w.heap[b]?
 tmp:∀ t,h=.inl t→a'.tmps[t]? = a.tmps[t]?
 te:∀ t,h=.inl t→g'.TE t=g.TE t
 tb:∀ i,h=.inr i→g'.TB i=g.TB i
theorem Gz (k:dG g g' w w') (r:Root) (v:Value) (s:Same g g' a a' w w' r.holder) (h:dY g a w r=some v):dY g' a' w' r=some v:=by
 cases r with
 | t x=>simp only [dY] at h ⊢;rw [s.tmp x rfl];exact h
 | b id c =>
  simp only [dY] at h ⊢
  by_cases hi:id < g.n∧g.own (g.loc id)=some (.inr id)
  ·rw [if_pos hi] at h
   have:=s.own _ hi.2
   rw [k.loc id hi.1,if_pos ⟨Nat.lt_of_lt_of_le hi.1 k.n,this.1⟩,uY this.2]
   exact h
  ·rw [if_neg hi] at h;cases h
theorem ko.same (k:dG g g' w w') {v:Value} {x:X} {T:List Nat} (hr:∀ h,x.gp=some h→Same g g' a a' w w' h) (hT:∀ b∈T,w'.heap[b]? = w.heap[b]?) (h:ko g a w v x T):ko g' a' w' v x T:=by
 cases x with
 | d d=>exact aV.keep k h hT
 | al p =>
  refine ⟨h.1,?_⟩
  have s:Same g g' a a' w w' p.root.holder:=hr _ rfl
  have h:=h.2
  cases p with
  | top r=>exact Gz k r v s h
  | jf r sz i j =>
   simp only [Pl.root] at s
   simp only [pv] at h ⊢
   cases hv:dY g a w r with
   | none=>rw [hv] at h;cases h
   | some u =>
    rw [hv] at h
    rw [Gz k r u s hv]
    simp only [Option.bind_some] at h ⊢
    cases hb:u.ownBlock with
    | none=>rw [hb] at h;cases h
    | some b =>
     rw [hb] at h
     simp only at h ⊢
     by_cases ho:g.own b=some r.holder
     ·rw [if_pos ho] at h
      have:=s.own b ho
      rw [if_pos this.1,uY this.2];exact h
     ·rw [if_neg ho] at h;cases h
 | pa r sz i j =>
  obtain ⟨h1,b,hb,ho,hv⟩:=h
  have s:=hr _ rfl
  refine ⟨h1,b,?_,(s.own b ho).1,hv⟩
  cases hu:dY g a w r with
  | none=>rw [hu] at hb;cases hb
  | some u=>rw [hu] at hb;rw [Gz k r u s hu];exact hb
 | dead=>exact h
theorem lL.same (k:dG g g' w w') {l:Nat} {b:gM} {T:List Nat} (hT:∀ b∈T,w'.heap[b]? = w.heap[b]?) (h:lL g w l b T):lL g' w' l b T:=by
 cases b with
 | cells cs =>
  obtain ⟨cur,e,A,rfl,hh,hr,h1⟩:=h
  exact ⟨cur,e,A,rfl,(hT l (by simp)).trans hh,hr.keep k (fun b hb=>hT b (by simp [hb])),h1⟩
 | iter s pos=>exact ⟨h.1,(hT l (by rw [h.1];simp)).trans h.2⟩
 | gone=>exact h
end
theorem aI.change {C:Ctx} {g g':G} {st st':St} {a a':Act} {w w':World} (S:aI C g st a w) (gY:Nat ⊕ Nat→Prop)
 (hdef:a'.defers=[]) (wV:a'.tmps.size=C.N) (hos:w'.os=w.os) (adR:w'.tape=w.tape) (hout:w'.output=w.output) (hsize:w.heap.size≤w'.heap.size)
 (zh:∀ b,g.aM b→g'.aM b) (Vx:∀ b,g'.aM b→g.aM b∨w.heap.size≤b∨∃ h,g.own b=some h) (adS:∀ b,g'.aM b→b < w'.heap.size)
 (hn:g'.n=st'.box.length) (hnn:g.n≤g'.n) (hloc:∀ i,i < g.n→g'.loc i=g.loc i)
 (hheap:∀ b,b < w.heap.size→(g.aM b∨(∃ h,g.own b=some h∧¬ gY h)∨(b < C.W.heap.size∧¬ C.Fz b))→w'.heap[b]? = w.heap[b]?)
 (hown:∀ b h,g.own b=some h→¬ gY h→g'.own b=some h)
 (zi:∀ t,¬ gY (.inl t)→a'.tmps[t]? = a.tmps[t]?∧g'.TE t=g.TE t)
 (hbx:∀ i,¬ gY (.inr i)→g'.TB i=g.TB i∧st'.box[i]? = st.box[i]?)
 (KO:∀ t x,look st'.env t=some x→(¬ gY (.inl t)∧(look st.env t=some x∧(∀ h,x.gp=some h→¬ gY h)∨x=.dead∧∃ y,look st.env t=some y))∨(t < C.N∧ko g' a' w' (a'.tmps.getD t undef) x (g'.TE t)∧(∀ b∈g'.TE t,g'.own b=some (.inl t))))
 (afW:∀ id b,st'.box[id]? = some b→gY (.inr id)→lL g' w' (g'.loc id) b (g'.TB id)∧(∀ b∈g'.TB id,g'.own b=some (.inr id)))
 (adT:∀ t,gY (.inl t)→(g'.TE t).Nodup) (adU:∀ i,gY (.inr i)→(g'.TB i).Nodup)
 (adV:∀ b h,g'.own b=some h→(g.own b=some h∧¬ g'.aM b)∨(((∃ h',g.own b=some h')∨w.heap.size≤b∨(C.W.heap.size≤b∨C.Fz b))∧b < w'.heap.size∧¬ g'.aM b)) :
 aI C g' st' a' w':=by
 have adW:∀ b,g.aM b→w'.heap[b]? = w.heap[b]?:=fun b hb=>hheap b (S.dJ b hb) (.inl hb)
 have k:dG g g' w w':=⟨zh,hnn,hloc,adW⟩
 have I6:∀ b h,g.own b=some h→¬ gY h→w'.heap[b]? = w.heap[b]?:=fun b h ho hc=>hheap b (S.own b h ho).2.1 (.inr (.inl ⟨h,ho,hc⟩))
 have same:∀ h,¬ gY h→Same g g' a a' w w' h:=by
  intro h hc
  refine ⟨fun b ho=>⟨hown b h ho hc,I6 b h ho hc⟩,fun t e=>?_,fun t e=>?_,fun i e=>?_⟩
  ·subst e;exact (zi t hc).1
  ·subst e;exact (zi t hc).2
  ·subst e;exact (hbx i hc).1
 refine ⟨hdef,wV,hos.trans S.os,adR.trans S.tape,hout.trans S.output,Nat.le_trans S.size hsize,?_,?_,adS,hn,?_,?_,?_,?_,?_,fun i l h=>⟨Nat.lt_of_lt_of_le (S.kY i l h).1 hnn,(hloc i (S.kY i l h).1).trans (S.kY i l h).2⟩,cO.s k.k S.tab⟩
 ·intro b hb hf
  rw [← S.frame b hb hf]
  exact hheap b (Nat.lt_of_lt_of_le hb S.size) (.inr (.inr ⟨hb,hf⟩))
 ·intro b hb
  rcases Vx b hb with h | h | ⟨h,ho⟩
  ·exact S.aM b h
  ·exact .inr (.inl (Nat.le_trans S.size h))
  ·exact .inr (S.own b h ho).1
 ·intro t x hx
  rcases KO t x hx with ⟨hc,h | h⟩ | h
  ·obtain ⟨h1,h2,h3⟩:=S.env t x h.1
   obtain ⟨e1,e2⟩:=zi t hc
   have e3:a'.tmps.getD t undef=a.tmps.getD t undef:=by simp only [Array.getD_eq_getD_getElem?,e1]
   rw [e2,e3]
   exact ⟨h1,ko.same k (fun r hr=>same r (h.2 r hr)) (fun b hb=>I6 b _ (h3 b hb) hc) h2,fun b hb=>hown b _ (h3 b hb) hc⟩
  ·obtain ⟨rfl,y,hy⟩:=h
   obtain ⟨h1,h2,h3⟩:=S.env t y hy
   exact ⟨h1,trivial,fun b hb=>hown b _ (h3 b (by rw [← (zi t hc).2];exact hb)) hc⟩
  ·exact h
 ·intro t
  by_cases hc:gY (.inl t)
  ·exact adT t hc
  ·rw [(zi t hc).2];exact S.nU t
 ·intro id b hb
  by_cases hc:gY (.inr id)
  ·exact afW id b hb hc
  ·obtain ⟨e1,e2⟩:=hbx id hc
   rw [e2] at hb
   obtain ⟨h1,h2⟩:=S.box id b hb
   have hid:id < g.n:=by
    rw [S.n]
    rcases Nat.lt_or_ge id st.box.length with h | h
    ·exact h
    ·rw [List.getElem?_eq_none h] at hb;cases hb
   rw [e1,hloc id hid]
   exact ⟨lL.same k (fun c hc'=>I6 c _ (h2 c hc') hc) h1,fun c hc'=>hown c _ (h2 c hc') hc⟩
 ·intro i
  by_cases hc:gY (.inr i)
  ·exact adU i hc
  ·rw [(hbx i hc).1];exact S.mK i
 ·intro b h ho
  rcases adV b h ho with ⟨h1,h2⟩ | ⟨h1,h2,h3⟩
  ·exact ⟨(S.own b h h1).1,Nat.lt_of_lt_of_le (S.own b h h1).2.1 hsize,h2⟩
  ·refine ⟨?_,h2,h3⟩
   rcases h1 with ⟨h',h1⟩ | h1 | h1
   ·exact (S.own b h' h1).1
   ·exact .inl (Nat.le_trans S.size h1)
   ·exact h1
end Go.Rf
end
section
namespace Go.Rf
open Go.RowKit
set_option linter.unusedVariables false
variable [cO]
inductive All:List Prop→Prop
 | nil:All []
 | cons {p:Prop} {l:List Prop}:p→All l→All (p :: l)
theorem All.left:∀ {l m:List Prop},All (l++m)→All l
 | [],_,_=>.nil
 | _ :: _,_,.cons h t=>.cons h t.left
theorem All.right:∀ {l m:List Prop},All (l++m)→All m
 | [],_,h=>h
 | _ :: _,_,.cons h t=>All.right t
def pF {α:Type} (P:Program):Sem α→Option α
 | .pure a=>some a
 | .program k=>pF P (k P)
 | _=>none
theorem R3 {α:Type} {P:Program} {s:Sem α} {a:α} (h:pF P s=some a) (w:World):s.run P w=.ok a w:=by
 induction s with
 | pure b=>simp only [pF,Option.some.injEq] at h;subst h;rfl
 | program k ih=>exact ih P h
 | _=>simp [pF] at h
structure E where
 hs:List V
 ob:List Prop
 st:St
 rw:List (Nat × Value):=[]
 fx:List (Nat × V):=[]
def V.bM:V→Bool
 | .row (some _) _ _=>false
 | .agg cs=>go cs
 | .aC cs=>go cs
 | .iface _ d=>d.bM
 | _=>true
where go:List V→Bool
 | []=>true
 | c :: cs=>match c.bM with
  | true=>go cs
  | false=>false
mutual
theorem aS.bM {p:bB} {w:World} {v:Value} {d:V} {T:List Nat}:aS p w v d T→d.bM=true→T=[]
 | .lit _,_=>rfl
 | .any _,_=>rfl
 | .nil _ _,_=>rfl
 | .kb _,_=>rfl
 | .shared ..,_=>rfl
 | .own ..,h=>by simp [V.bM] at h
 | .agg h,hn=>h.bM (by simpa [V.bM] using hn)
 | .aC h,hn=>h.bM (by simpa [V.bM] using hn)
 | .pt ..,_=>rfl
 | .iface h,hn=>h.bM (by simpa [V.bM] using hn)
 | .gX _,_=>rfl
theorem aN.bM {p:bB} {w:World} {vs:List Value} {ds:List V} {T:List Nat}:aN p w vs ds T→V.bM.go ds=true→T=[]
 | .nil,_=>rfl
 | .cons (d:=d) h1 h2,hn=>by
  simp only [V.bM.go] at hn
  cases hc:d.bM with
  | false=>rw [hc] at hn;cases hn
  | true=>rw [hc] at hn;rw [h1.bM hc,h2.bM hn];rfl
end
def Good (P:Program) (C:Ctx) (c:Code) (Q:Exit→St→Prop) (st:St):Prop :=
 ∀ g a w,aI C g st a w→c.wp P (fun e a w=>∃ g st,aI C g st a w∧Q e st) a w
def thenS (K:St→Prop) (Q:Exit→St→Prop):Exit→St→Prop
 | .normal,st=>K st
 | e,st=>Q e st
def Iz (id:Nat) (Q:Exit→St→Prop):Exit→St→Prop
 | .exit id',st=>if id'=id then Q .normal st else Q (.exit id') st
 | e,st=>Q e st
section
variable {P:Program} {C:Ctx} {Q:Exit→St→Prop} {st:St}
theorem Good.skip (h:Q .normal st):Good P C .skip Q st:=fun g a w S=>wp_skip ⟨g,st,S,h⟩
theorem Good.label {l:Nat} (h:Q .normal st):Good P C (.label l) Q st:=fun g a w S=>wp_label ⟨g,st,S,h⟩
theorem Good.exit {i:Nat} (h:Q (.exit i) st):Good P C (.exit i) Q st:=fun g a w S=>wp_exit ⟨g,st,S,h⟩
theorem Good.goto {l:Nat} (h:Q (.goto l) st):Good P C (.goto l) Q st:=fun g a w S=>wp_goto ⟨g,st,S,h⟩
theorem Good.ret (h:Q .ret st):Good P C .ret Q st:=fun g a w S=>wp_ret ⟨g,st,S,h⟩
theorem Good.seq {x y:Code} (h:Good P C x (thenS (Good P C y Q) Q) st):Good P C (.seq x y) Q st:=fun g a w S =>
 wp_seq (wp_mono (h g a w S) fun e a w ⟨g',st',S',h'⟩=>by
  cases e with
  | normal=>exact h' g' a w S'
  | _=>exact ⟨g',st',S',h'⟩)
theorem Good.block {i:Nat} {x:Code} (h:Good P C x (Iz i Q) st):Good P C (.block i x) Q st:=fun g a w S =>
 wp_block (wp_mono (h g a w S) fun e a w ⟨g',st',S',h'⟩=>by
  cases e with
  | exit j =>
   simp only [Exit.inBlock,Iz] at h' ⊢
   by_cases hj:j=i
   ·rw [if_pos hj] at h' ⊢;exact ⟨g',st',S',h'⟩
   ·rw [if_neg hj] at h' ⊢;exact ⟨g',st',S',h'⟩
  | _=>exact ⟨g',st',S',h'⟩)
theorem Good.mono {x:Code} {Q':Exit→St→Prop} (h:Good P C x Q st) (hq:∀ e st,Q e st→Q' e st):Good P C x Q' st:=fun g a w S =>
 wp_mono (h g a w S) fun e a w ⟨g',st',S',h'⟩=>⟨g',st',S',hq _ _ h'⟩
def qC:St→Operand→Option Bool
 | st,.tmp t=>match look st.env t with
  | some (.d (.v (.lit (.bool b))))=>some b
  | some (.d (.v (.kb b)))=>some b
  | _=>none
 | _,.const (.bool b)=>some b
 | _,_=>none
theorem aV.lit {g:G} {w:World} {u v:Value} {T:List Nat} (h:aV g w u (.v (.lit v)) T):u=v:=by
 cases h with
 | v h=>cases h with | lit=>rfl
theorem aV.kb {g:G} {w:World} {u:Value} {b:Bool} {T:List Nat} (h:aV g w u (.v (.kb b)) T):u=.bool b:=by
 cases h with
 | v h=>cases h with | kb=>rfl
theorem aax {g:G} {a:Act} {w:World} (S:aI C g st a w) {c:Operand} {b:Bool} (h:qC st c=some b):a.eval c=.bool b:=by
 cases c with
 | tmp t =>
  simp only [qC] at h
  split at h
  ·rename_i b' hx
   obtain ⟨h1,h2,h3⟩:=S.env t _ hx
   cases h
   exact aV.lit h2
  ·rename_i b' hx
   obtain ⟨h1,h2,h3⟩:=S.env t _ hx
   cases h
   exact aV.kb h2
  ·cases h
 | const v=>cases v<;>simp [qC] at h;subst h;rfl
 | _=>simp [qC] at h
theorem Good.cond {c:Operand} {x y:Code} (b:Bool) (hb:qC st c=some b) (h:Good P C (if b then x else y) Q st):Good P C (.cond c x y) Q st:=fun g a w S =>
 wp_cond (aax S hb) (h g a w S)
theorem Good.kS {c:Operand} {x y:Code} {b:Bool} (ht:b=true) (hb:qC st c=some b) (h:Good P C x Q st):Good P C (.cond c x y) Q st:=.cond b hb (by rw [ht];exact h)
theorem Good.kU {c:Operand} {x y:Code} {b:Bool} (ht:b=false) (hb:qC st c=some b) (h:Good P C y Q st):Good P C (.cond c x y) Q st:=.cond b hb (by rw [ht];exact h)
def tL (P:Program) (C:Ctx) (c:Code) (Q:Exit→St→Prop):Nat→St→Prop
 | 0,_=>False
 | n+1,st=>Good P C c (thenS (tL P C c Q n) Q) st
theorem Good.loop {x:Code} (n:Nat) (h:tL P C x Q n st):Good P C (.loop x) Q st:=fun g a w S=>by
 refine wp_loop_rounds n ?_
 revert st g a w
 induction n with
 | zero=>intro st h g a w S;exact h.elim
 | succ n ih =>
  intro st h g a w S
  refine wp_mono (h g a w S) fun e a w ⟨g',st',S',h'⟩=>?_
  cases e with
  | normal=>exact ih h' g' a w S'
  | _=>exact ⟨g',st',S',h'⟩
end
end Go.Rf
end
section
namespace Go.Rf
open Go.RowKit
set_option linter.unusedVariables false
variable [cO]
def G.put (g:G) (d:Nat) (T:List Nat) (p:bB):G :=
 { g with aM:=fun b=>g.aM b∨p b,own:=fun b=>if b∈T then some (.inl d) else if g.own b=some (.inl d) then none else g.own b,TE:=fun t=>if t=d then T else g.TE t }
structure Calm (w w':World):Prop where
 os:w'.os=w.os
 tape:w'.tape=w.tape
 output:w'.output=w.output
 size:w.heap.size≤w'.heap.size
 same:∀ b,b < w.heap.size→w'.heap[b]? = w.heap[b]?
theorem Calm.refl (w:World):Calm w w:=⟨rfl,rfl,rfl,Nat.le_refl _,fun _ _=>rfl⟩
theorem Calm.of {w w':World} (h:w.grownBy w' none):Calm w w':=⟨h.os,h.tape,h.output,h.size,fun b hb=>h.block b hb (by simp)⟩
theorem Calm.alloc (w:World) (o:Obj):Calm w (w.alloc o):=⟨rfl,rfl,rfl,by show w.heap.size≤(w.heap.push o).size;rw [Array.size_push];omega,fun b hb=>by show (w.heap.push o)[b]? = _;rw [Array.getElem?_push_lt hb,Array.getElem?_eq_getElem hb]⟩
theorem Calm.drew (w:World):Calm w w.drew:=⟨rfl,rfl,rfl,Nat.le_refl _,fun _ _=>rfl⟩
def St.put (st:St) (d:Nat) (x:X):St:={ st with env:=vR st.env d x }
theorem Act.jW (a:Act) (d:Nat) (v:Value):a.put (some d) v={ a with tmps:=a.tmps.setIfInBounds d v }:=rfl
theorem xM (d:Nat) (r:Root):di d r=true↔r.holder=.inl d:=by
 cases r with
 | t x =>
  simp only [di,Root.holder,Sum.inl.injEq]
  exact ⟨fun h=>Nat.eq_of_beq_eq_true h,fun h=>by rw [h];exact Nat.beq_refl d⟩
 | b i c=>simp [di,Root.holder]
theorem X.iQ (r:Root→Bool) (x:X):x.kill r=.dead∨(x.kill r=x∧match x with | .al p=>r p.root=false | .pa q _ _ _=>r q=false | _=>True):=by
 cases x with
 | al p=>simp only [X.kill];cases h:r p.root<;>simp
 | pa q sz i j=>simp only [X.kill];cases h:r q<;>simp
 | d d=>exact .inr ⟨rfl,trivial⟩
 | dead=>exact .inl rfl
theorem X.oq {d:Nat} {x:X} (h:x.kill (di d)=x) (hd:x≠.dead):∀ r,x.gp=some r→r≠.inl d:=by
 intro r hr e
 subst e
 cases x with
 | al p =>
  simp only [X.gp,Option.some.injEq] at hr
  have:=(xM d p.root).2 hr
  simp [X.kill,this] at h
 | pa q sz i j =>
  simp only [X.gp,Option.some.injEq] at hr
  have:=(xM d q).2 hr
  simp [X.kill,this] at h
 | d d=>simp [X.gp] at hr
 | dead=>exact hd rfl
section
variable {C:Ctx} {g:G} {st:St} {a:Act} {w w':World}
theorem aI.put (S:aI C g st a w) (k:Calm w w') {d:Nat} (hd:d < C.N) {v:Value} {x:X} {T:List Nat} {p:bB}
 (hp:∀ b,p b→w.heap.size≤b∧b < w'.heap.size) (hT:T.Nodup) (lV:∀ b∈T,w.heap.size≤b∧b < w'.heap.size∧¬ p b)
 (hx:ko (g.put d T p) (a.put (some d) v) w' v x T):aI C (g.put d T p) (st.put d x) (a.put (some d) v) w':=by
 have ed:∀ b h,g.own b=some h→b∉T:=fun b h ho hb=>by have:=(S.own b h ho).2.1;have:=(lV b hb).1;omega
 refine S.change (fun h=>h=.inl d) S.defers ?_ k.os k.tape k.output k.size (fun b hb=>.inl hb) ?_ ?_ S.n (Nat.le_refl _) (fun _ _=>rfl) (fun b hb _=>k.same b hb) ?_ ?_ ?_ ?_ ?_ ?_ ?_ ?_
 ·simp [Act.jW,S.tmps]
 ·rintro b (hb | hb)
  ·exact .inl hb
  ·exact .inr (.inl (hp b hb).1)
 ·rintro b (hb | hb)
  ·exact Nat.lt_of_lt_of_le (S.dJ b hb) k.size
  ·exact (hp b hb).2
 ·intro b h ho hc
  simp only [G.put]
  rw [if_neg (ed b h ho),if_neg (by rw [ho];intro e;exact hc (Option.some.inj e)),ho]
 ·intro t ht
  have ht':t≠d:=fun e=>ht (by rw [e])
  refine ⟨?_,by simp [G.put,ht']⟩
  rw [Act.jW]
  simp only [Array.getElem?_setIfInBounds]
  rw [if_neg (fun e=>ht' e.symm)]
 ·intro i hi;exact ⟨rfl,rfl⟩
 ·intro t y hy
  rw [St.put,TH] at hy
  by_cases ht:t=d
  ·subst ht
   rw [if_pos rfl] at hy
   cases hy
   refine .inr ⟨hd,?_,fun b hb=>?_⟩
   ·have e:(a.put (some t) v).tmps.getD t undef=v:=by
     rw [Act.jW,Array.getD_eq_getD_getElem?]
     simp [show t < a.tmps.size by rw [S.tmps];exact hd]
    rw [e,show (g.put t T p).TE t=T by simp [G.put]]
    exact hx
   ·have hb':b∈T:=by simpa [G.put] using hb
    simp [G.put,hb']
  ·rw [if_neg ht] at hy
   refine .inl ⟨fun e=>ht (Sum.inl.inj e),?_⟩
   cases hl:look st.env t with
   | none=>rw [hl] at hy;cases hy
   | some z =>
    rw [hl] at hy
    simp only [Option.map_some,Option.some.injEq] at hy
    by_cases hdd:y=.dead
    ·exact .inr ⟨hdd,z,rfl⟩
    ·rcases X.iQ (di d) z with h | ⟨h,h2⟩
     ·exact (hdd (by rw [← hy,h])).elim
     ·rw [h] at hy
      subst hy
      exact .inl ⟨rfl,X.oq h hdd⟩
 ·intro id b _ hc;cases hc
 ·intro t ht
  cases ht
  simpa [G.put] using hT
 ·intro i hi;cases hi
 ·intro b h ho
  simp only [G.put] at ho
  by_cases hb:b∈T
  ·rw [if_pos hb] at ho
   refine .inr ⟨.inr (.inl (lV b hb).1),(lV b hb).2.1,?_⟩
   rintro (hg | hg)
   ·have:=S.dJ b hg;have:=(lV b hb).1;omega
   ·exact (lV b hb).2.2 hg
  ·rw [if_neg hb] at ho
   by_cases ho':g.own b=some (.inl d)
   ·rw [if_pos ho'] at ho;cases ho
   ·rw [if_neg ho'] at ho
    refine .inl ⟨ho,?_⟩
    rintro (hg | hg)
    ·exact (S.own b h ho).2.2 hg
    ·have:=(hp b hg).1;have:=(S.own b h ho).2.1;omega
theorem dG.put (S:aI C g st a w) (k:Calm w w') (d:Nat) (T:List Nat) (p:bB):dG g (g.put d T p) w w' :=
 ⟨fun b hb=>.inl hb,Nat.le_refl _,fun _ _=>rfl,fun b hb=>k.same b (S.dJ b hb)⟩
theorem aI.iL (S:aI C g st a w) (k:Calm w w') {d:Nat} (hd:d < C.N) {v:Value} {D:D} (hx:aV g w v D []) :
 aI C (g.put d [] fun _=>False) (st.put d (.d D)) (a.put (some d) v) w' :=
 S.put k hd (fun _ h=>h.elim) List.nodup_nil (fun _ h=>by cases h) (hx.keep (dG.put S k d [] _) (fun _ h=>by cases h))
theorem aI.uu (S:aI C g st a w) {d:Nat} (hd:d < C.N) {v:Value} {x:X} (hk:x.kill (di d)=x) (hdd:x≠.dead) (hT:ko g a w v x []) (hnd:∀ D,x≠.d D) :
 aI C (g.put d [] fun _=>False) (st.put d x) (a.put (some d) v) w:=by
 refine S.put (Calm.refl w) hd (fun _ h=>h.elim) List.nodup_nil (fun _ h=>by cases h) ?_
 refine ko.same (dG.put S (Calm.refl w) d [] _) (fun h hr=>?_) (fun _ h=>by cases h) hT
 have hne:=X.oq hk hdd h hr
 refine ⟨fun b ho=>⟨?_,rfl⟩,fun t e=>?_,fun t e=>?_,fun i e=>rfl⟩
 ·simp only [G.put,List.not_mem_nil,if_false]
  rw [if_neg (by rw [ho];intro e;exact hne (Option.some.inj e)),ho]
 ·subst e
  rw [Act.jW]
  simp only [Array.getElem?_setIfInBounds]
  rw [if_neg (fun e=>hne (by rw [e]))]
 ·subst e
  have:t≠d:=fun e=>hne (by rw [e])
  simp [G.put,this]
end
end Go.Rf
end
section
namespace Go.Rf
open Go.RowKit
set_option linter.unusedVariables false
variable [cO]
def X.mI (r:Root→Bool):X→X
 | .al (.jf q sz i j)=>match r q with
  | true=>.dead
  | false=>.al (.jf q sz i j)
 | .pa q sz i j=>match r q with
  | true=>.dead
  | false=>.pa q sz i j
 | x=>x
def mI (r:Root→Bool):List (Nat × X)→List (Nat × X)
 | []=>[]
 | (k,x) :: l=>(k,x.mI r) :: mI r l
theorem FL (r:Root→Bool):∀ (l:List (Nat × X)) (t:Nat),look (mI r l) t=(look l t).map (X.mI r)
 | [],_=>rfl
 | (k,x) :: l,t=>by
  simp only [mI,look]
  cases Nat.beq t k with
  | true=>rfl
  | false=>exact FL r l t
def St.kr (st:St) (t:Nat) (x:X):St:={ st with env:=(t,x) :: mI (di t) st.env }
mutual
theorem aV.share {g g':G} {w:World} {v:Value} {d:D} {T S:List Nat} (hp:g'.aM=g.aM.share S) (hn:g.n≤g'.n) (hl:∀ i,i < g.n→g'.loc i=g.loc i):aV g w v d T→(∀ b∈T,b∈S)→aV g' w v d.shr []
 | .v h,hT=>by rw [D.shr];exact .v (by rw [hp];exact h.share hT)
 | .ptr h,_=>by rw [← hl _ h];exact .ptr (Nat.lt_of_lt_of_le h hn)
 | .agg h,hT=>by rw [D.shr];exact .agg (h.share hp hn hl hT)
 | .aC h,hT=>by rw [D.shr];exact .aC (h.share hp hn hl hT)
 | .fn h,hT=>by rw [D.shr];exact .fn (h.share hp hn hl hT)
theorem cK.share {g g':G} {w:World} {vs:List Value} {ds:List D} {T S:List Nat} (hp:g'.aM=g.aM.share S) (hn:g.n≤g'.n) (hl:∀ i,i < g.n→g'.loc i=g.loc i):cK g w vs ds T→(∀ b∈T,b∈S)→cK g' w vs (yf ds) []
 | .nil,_=>.nil
 | .cons h1 h2,hT=>cK.cons (A:=[]) (B:=[]) (h1.share hp hn hl (fun b hb=>hT b (List.mem_append_left _ hb))) (h2.share hp hn hl (fun b hb=>hT b (List.mem_append_right _ hb)))
end
def G.jY (g:G) (t:Nat):G :=
 { g with aM:=g.aM.share (g.TE t),own:=fun b=>if b∈g.TE t then none else g.own b,TE:=fun s=>if s=t then [] else g.TE s }
section
variable {C:Ctx} {g:G} {st:St} {a:Act} {w w':World}
theorem YS {d:Nat} {x:X} (h:x.mI (di d)=x):(∀ r,x.gp=some r→r≠.inl d)∨x=.al (.top (.t d)):=by
 cases x with
 | al p =>
  cases p with
  | top r =>
   by_cases hr:r=.t d
   ·subst hr;exact .inr rfl
   ·refine .inl fun q hq e=>?_
    subst e
    simp only [X.gp,Pl.root,Option.some.injEq] at hq
    cases r with
    | t y=>simp only [Root.holder,Sum.inl.injEq] at hq;exact hr (by rw [hq])
    | b i c=>simp [Root.holder] at hq
  | jf r sz i j =>
   refine .inl fun q hq e=>?_
   subst e
   simp only [X.gp,Pl.root,Option.some.injEq] at hq
   have:=(xM d r).2 hq
   simp [X.mI,this] at h
 | pa q sz i j =>
  refine .inl fun q' hq e=>?_
  subst e
  simp only [X.gp,Option.some.injEq] at hq
  have:=(xM d q).2 hq
  simp [X.mI,this] at h
 | d d'=>exact .inl fun r hr=>by simp [X.gp] at hr
 | dead=>exact .inl fun r hr=>by simp [X.gp] at hr
theorem X.R4 (r:Root→Bool) (x:X):x.mI r=.dead∨x.mI r=x:=by
 cases x with
 | al p =>
  cases p with
  | top q=>exact .inr rfl
  | jf q sz i j=>simp only [X.mI];cases h:r q<;>simp
 | pa q sz i j=>simp only [X.mI];cases h:r q<;>simp
 | d d=>exact .inr rfl
 | dead=>exact .inl rfl
theorem aI.jY (S:aI C g st a w) {t:Nat} {d:D} (ht:look st.env t=some (.d d)):dG g (g.jY t) w w∧aI C (g.jY t) (st.kr t (.d d.shr)) a w:=by
 have k:dG g (g.jY t) w w:=⟨fun b hb=>.inl hb,Nat.le_refl _,fun _ _=>rfl,fun _ _=>rfl⟩
 refine ⟨k,?_⟩
 obtain ⟨Aw,htx,hto⟩:=S.env t _ ht
 have hm:∀ b h,g.own b=some h→h≠.inl t→b∉g.TE t:=fun b h ho hn hb=>hn (by rw [hto b hb] at ho;exact (Option.some.inj ho).symm)
 refine S.change (fun h=>h=.inl t) S.defers S.tmps rfl rfl rfl (Nat.le_refl _) (fun b hb=>.inl hb) ?_ ?_ S.n (Nat.le_refl _) (fun _ _=>rfl) (fun _ _ _=>rfl) ?_ ?_ ?_ ?_ ?_ ?_ ?_ ?_
 ·rintro b (hb | hb)
  ·exact .inl hb
  ·exact .inr (.inr ⟨_,hto b hb⟩)
 ·rintro b (hb | hb)
  ·exact S.dJ b hb
  ·exact (S.own b _ (hto b hb)).2.1
 ·intro b h ho hc
  simp only [G.jY]
  rw [if_neg (hm b h ho hc),ho]
 ·intro s hs
  have:s≠t:=fun e=>hs (by rw [e])
  exact ⟨rfl,by simp [G.jY,this]⟩
 ·intro i _;exact ⟨rfl,rfl⟩
 ·intro s y hy
  simp only [St.kr,look] at hy
  cases hb:Nat.beq s t with
  | true =>
   have:=Nat.eq_of_beq_eq_true hb
   subst this
   rw [hb] at hy
   cases hy
   refine .inr ⟨Aw,?_,fun b hb'=>?_⟩
   ·have e:(g.jY s).TE s=[]:=by simp [G.jY]
    rw [e]
    exact aV.share (g:=g) rfl (Nat.le_refl _) (fun _ _=>rfl) htx (fun _ h=>h)
   ·simp [G.jY] at hb'
  | false =>
   have hst:s≠t:=fun e=>by rw [e,Nat.beq_refl] at hb;cases hb
   rw [hb] at hy
   simp only [FL] at hy
   cases hl:look st.env s with
   | none=>rw [hl] at hy;cases hy
   | some z =>
    rw [hl] at hy
    simp only [Option.map_some,Option.some.injEq] at hy
    rcases X.R4 (di t) z with h | h
    ·exact .inl ⟨fun e=>hst (Sum.inl.inj e),.inr ⟨by rw [← hy,h],z,rfl⟩⟩
    ·rw [h] at hy
     subst hy
     rcases YS h with hr | rfl
     ·exact .inl ⟨fun e=>hst (Sum.inl.inj e),.inl ⟨rfl,hr⟩⟩
     ·obtain ⟨h1,h2,h3⟩:=S.env s _ hl
      obtain ⟨h4,h5⟩:=h2
      refine .inr ⟨h1,⟨?_,h5⟩,?_⟩
      ·simp [G.jY,hst,h4]
      ·simp [G.jY,hst,h4]
 ·intro id b _ hc;cases hc
 ·intro s hs;cases hs;simp [G.jY]
 ·intro i hi;cases hi
 ·intro b h ho
  simp only [G.jY] at ho
  by_cases hb:b∈g.TE t
  ·rw [if_pos hb] at ho;cases ho
  ·rw [if_neg hb] at ho
   refine .inl ⟨ho,?_⟩
   rintro (h1 | h1)
   ·exact (S.own b h ho).2.2 h1
   ·exact hb h1
def G.move (g:G) (s d:Nat):G :=
 { g with own:=fun b=>if b∈g.TE s then some (.inl d) else if g.own b=some (.inl d) then none else if g.own b=some (.inl s) then none else g.own b,TE:=fun t=>if t=d then g.TE s else if t=s then [] else g.TE t }
theorem adX (s d:Nat) (l:List (Nat × X)) (t:Nat) (ht:t≠d) (hs:t≠s) (x:X):look ((d,x) :: (s,X.dead) :: kill (di d) (kill (di s) l)) t=(look l t).map (fun z=>(z.kill (di s)).kill (di d)):=by
 simp only [look,mX]
 have h1:Nat.beq t d=false:=by cases h:Nat.beq t d with
  | true=>exact absurd (Nat.eq_of_beq_eq_true h) ht
  | false=>rfl
 have h2:Nat.beq t s=false:=by cases h:Nat.beq t s with
  | true=>exact absurd (Nat.eq_of_beq_eq_true h) hs
  | false=>rfl
 rw [h1,h2]
 simp [Option.map_map,Function.comp_def]
theorem aI.move (S:aI C g st a w) {s d:Nat} (hsd:s≠d) (hd:d < C.N) {D:D} (hs:look st.env s=some (.d D)) :
 aI C (g.move s d) { st with env:=(d,.d D) :: (s,.dead) :: kill (di d) (kill (di s) st.env) } (a.put (some d) (a.tmps.getD s undef)) w:=by
 obtain ⟨EX,hsx,hso⟩:=S.env s _ hs
 have k:dG g (g.move s d) w w:=⟨fun b hb=>hb,Nat.le_refl _,fun _ _=>rfl,fun _ _=>rfl⟩
 refine S.change (fun h=>h=.inl s∨h=.inl d) S.defers ?_ rfl rfl rfl (Nat.le_refl _) (fun b hb=>hb) (fun b hb=>.inl hb) (fun b hb=>S.dJ b hb) S.n (Nat.le_refl _) (fun _ _=>rfl) (fun _ _ _=>rfl) ?_ ?_ ?_ ?_ ?_ ?_ ?_ ?_
 ·simp [Act.jW,S.tmps]
 ·intro b h ho hc
  simp only [G.move]
  rw [if_neg (fun hb=>hc (.inl (by rw [hso b hb] at ho;exact (Option.some.inj ho).symm))),if_neg (by rw [ho];intro e;exact hc (.inr (Option.some.inj e))),if_neg (by rw [ho];intro e;exact hc (.inl (Option.some.inj e))),ho]
 ·intro t ht
  have h1:t≠d:=fun e=>ht (.inr (by rw [e]))
  have h2:t≠s:=fun e=>ht (.inl (by rw [e]))
  refine ⟨?_,by simp [G.move,h1,h2]⟩
  rw [Act.jW]
  simp only [Array.getElem?_setIfInBounds]
  rw [if_neg (fun e=>h1 e.symm)]
 ·intro i _;exact ⟨rfl,rfl⟩
 ·intro t y hy
  by_cases ht:t=d
  ·subst ht
   simp only [look,Nat.beq_refl] at hy
   cases hy
   refine .inr ⟨hd,?_,fun b hb=>?_⟩
   ·have e:(a.put (some t) (a.tmps.getD s undef)).tmps.getD t undef=a.tmps.getD s undef:=by
     rw [Act.jW,Array.getD_eq_getD_getElem?]
     simp [show t < a.tmps.size by rw [S.tmps];exact hd]
    rw [e,show (g.move s t).TE t=g.TE s by simp [G.move]]
    exact aV.keep k hsx (fun _ _=>rfl)
   ·have:b∈g.TE s:=by simpa [G.move] using hb
    simp [G.move,this]
  ·by_cases hts:t=s
   ·subst hts
    have h1:Nat.beq t d=false:=by cases h:Nat.beq t d with
     | true=>exact absurd (Nat.eq_of_beq_eq_true h) ht
     | false=>rfl
    simp only [look,h1,Nat.beq_refl] at hy
    cases hy
    refine .inr ⟨EX,trivial,fun b hb=>?_⟩
    simp [G.move,ht] at hb
   ·rw [adX s d st.env t ht hts] at hy
    refine .inl ⟨fun e=>by rcases e with e | e<;>cases e<;>contradiction,?_⟩
    cases hl:look st.env t with
    | none=>rw [hl] at hy;cases hy
    | some z =>
     rw [hl] at hy
     simp only [Option.map_some,Option.some.injEq] at hy
     by_cases hdd:y=.dead
     ·exact .inr ⟨hdd,z,rfl⟩
     ·rcases X.iQ (di s) z with h | ⟨h,h2⟩
      ·rw [h] at hy;exact (hdd (by rw [← hy];rfl)).elim
      ·rw [h] at hy
       rcases X.iQ (di d) z with h3 | ⟨h3,h4⟩
       ·exact (hdd (by rw [← hy,h3])).elim
       ·rw [h3] at hy
        subst hy
        refine .inl ⟨rfl,fun r hr e=>?_⟩
        rcases e with e | e
        ·exact X.oq h hdd r hr e
        ·exact X.oq h3 hdd r hr e
 ·intro id b _ hc;rcases hc with hc | hc<;>cases hc
 ·intro t ht
  rcases ht with ht | ht<;>cases ht
  ·simp only [G.move];rw [if_neg hsd];simp
  ·simpa [G.move] using S.nU s
 ·intro i hi;rcases hi with hi | hi<;>cases hi
 ·intro b h ho
  simp only [G.move] at ho
  by_cases hb:b∈g.TE s
  ·exact .inr ⟨.inl ⟨_,hso b hb⟩,(S.own b _ (hso b hb)).2.1,(S.own b _ (hso b hb)).2.2⟩
  ·rw [if_neg hb] at ho
   split at ho
   ·cases ho
   ·split at ho
    ·cases ho
    ·exact .inl ⟨ho,(S.own b h ho).2.2⟩
end
end Go.Rf
end
section
namespace Go.Rf
open Go.RowKit
set_option linter.unusedVariables false
variable [cO]
abbrev M (α:Type):=E→Option (α × E)
def need (p:Prop) (e:E):E:={ e with ob:=e.ob++[p] }
def hint (e:E):Option (V × E):=match e.hs with
 | h :: hs=>some (h,{ e with hs:=hs })
 | []=>none
def Dh (t:Nat) (e:E):Option (V × E):=match look e.st.env t with
 | some (.d (.v u))=>match u.bM with
  | true=>some (u,e)
  | false=>match hint e with
   | some (h,e)=>some (h,need (u.shr=h) { e with st:=e.st.kr t (.d (.v h)) })
   | none=>none
 | _=>none
def val (x:Operand) (e:E):Option (V × E):=match x with
 | .const v=>some (.lit v,e)
 | .global g=>some (.lit (.pointer (some ⟨g,0,none⟩)),e)
 | .func f=>some (.gX f [],e)
 | .tmp t=>match look e.st.env t with
  | some (.al (.top (.t s)))=>Dh s e
  | _=>Dh t e
theorem All.snoc {l:List Prop} {p:Prop} (h:All (l++[p])):All l∧p:=⟨h.left,by cases (All.right h) with | cons h _=>exact h⟩
section
variable {P:Program} {C:Ctx}
theorem aV.inv {g:G} {w:World} {u:Value} {x:V} {T:List Nat} (h:aV g w u (.v x) T):aS g.aM w u x T:=by cases h with | v h=>exact h
def adY (C:Ctx) (x:Operand) (e:E) (u:V) (e':E):Prop :=
 All e'.ob→All e.ob∧∀ g a w,aI C g e.st a w→∃ g',dG g g' w w∧aI C g' e'.st a w∧aS g'.aM w (a.eval x) u []
theorem dG.refl (g:G) (w:World):dG g g w w:=⟨fun _ h=>h,Nat.le_refl _,fun _ _=>rfl,fun _ _=>rfl⟩
theorem dG.trans {g1 g2 g3:G} {w1 w2 w3:World} (h:dG g1 g2 w1 w2) (k:dG g2 g3 w2 w3):dG g1 g3 w1 w3 :=
 ⟨fun b hb=>k.aM _ (h.aM _ hb),Nat.le_trans h.n k.n,fun i hi=>(k.loc i (Nat.lt_of_lt_of_le hi h.n)).trans (h.loc i hi),fun b hb=>(k.same b (h.aM b hb)).trans (h.same b hb)⟩
theorem ik {e e1:E} {h:V} (hh:hint e=some (h,e1)):e1.ob=e.ob∧e1.st=e.st:=by
 unfold hint at hh
 split at hh
 ·cases hh;exact ⟨rfl,rfl⟩
 ·cases hh
theorem Uv {t:Nat} {e e':E} {u:V} (h:Dh t e=some (u,e')):All e'.ob→All e.ob∧∀ g a w,aI C g e.st a w→∃ g',dG g g' w w∧aI C g' e'.st a w∧aS g'.aM w (a.tmps.getD t undef) u []∧t < C.N:=by
 intro bT
 unfold Dh at h
 split at h
 ·rename_i x hx
  cases hn:x.bM with
  | true =>
   rw [hn] at h
   cases h
   refine ⟨bT,fun g a w S=>?_⟩
   obtain ⟨h1,h2,h3⟩:=S.env t _ hx
   refine ⟨g,dG.refl g w,S,?_,h1⟩
   have h2:=aV.inv h2
   have:=h2.bM hn
   rw [this] at h2;exact h2
  | false =>
   rw [hn] at h
   cases hh:hint e with
   | none=>rw [hh] at h;cases h
   | some r =>
    obtain ⟨y,e1⟩:=r
    rw [hh] at h
    obtain ⟨h1,h2⟩:=ik hh
    simp only [Option.some.injEq,Prod.mk.injEq] at h
    obtain ⟨rfl,rfl⟩:=h
    obtain ⟨ha,hy⟩:=All.snoc (l:=e1.ob) bT
    refine ⟨h1 ▸ ha,fun g a w S=>?_⟩
    obtain ⟨k,S'⟩:=S.jY hx
    refine ⟨g.jY t,k,?_,?_,(S.env t _ hx).1⟩
    ·show aI C _ (e1.st.kr t (.d (.v y))) a w
     rw [h2,← hy];exact S'
    ·obtain ⟨_,h3,_⟩:=S'.env t (.d (D.v x).shr) (by simp [St.kr,look])
     rw [show (g.jY t).TE t=[] by simp [G.jY]] at h3
     have h3:=aV.inv (x:=x.shr) h3
     rw [hy] at h3
     exact h3
 ·cases h
theorem RH {ts:Array Value} {t:Nat} {v:Value} (h:ts[t]? = some v):ts.getD t undef=v:=by
 rw [Array.getD_eq_getD_getElem?,h];rfl
theorem val_ok {x:Operand} {e e':E} {u:V} (h:val x e=some (u,e')):adY C x e u e':=by
 intro bT
 cases x with
 | const v=>cases h;exact ⟨bT,fun g a w S=>⟨g,dG.refl g w,S,.lit v⟩⟩
 | global v=>cases h;exact ⟨bT,fun g a w S=>⟨g,dG.refl g w,S,.lit _⟩⟩
 | func v=>cases h;exact ⟨bT,fun g a w S=>⟨g,dG.refl g w,S,.gX .nil⟩⟩
 | tmp t =>
  simp only [val] at h
  split at h
  ·rename_i s hs
   obtain ⟨h1,h2⟩:=Uv (C:=C) h bT
   refine ⟨h1,fun g a w S=>?_⟩
   obtain ⟨g',k,S',r,EX⟩:=h2 g a w S
   refine ⟨g',k,S',?_⟩
   obtain ⟨_,⟨_,h4⟩,_⟩:=S.env t _ hs
   have e1:=RH h4
   show aS _ w (a.tmps.getD t undef) u []
   simp only [pv,dY] at h4
   rw [e1] at r
   exact r
  ·obtain ⟨h1,h2⟩:=Uv (C:=C) h bT
   refine ⟨h1,fun g a w S=>?_⟩
   obtain ⟨g',k,S',r,_⟩:=h2 g a w S
   exact ⟨g',k,S',r⟩
def vals:List Operand→E→Option (List V × E)
 | [],e=>some ([],e)
 | x :: xs,e=>match val x e with
  | none=>none
  | some (u,e)=>match vals xs e with
   | none=>none
   | some (us,e)=>some (u :: us,e)
theorem nM:∀ {xs:List Operand} {e e':E} {us:List V},vals xs e=some (us,e')→All e'.ob→All e.ob∧∀ g a w,aI C g e.st a w→∃ g',dG g g' w w∧aI C g' e'.st a w∧aN g'.aM w (xs.map a.eval) us []
 | [],e,e',us,h,bT=>by cases h;exact ⟨bT,fun g a w S=>⟨g,dG.refl g w,S,.nil⟩⟩
 | x :: xs,e,e',us,h,bT=>by
  simp only [vals] at h
  cases h1:val x e with
  | none=>rw [h1] at h;cases h
  | some r =>
   obtain ⟨u,e1⟩:=r
   rw [h1] at h
   simp only at h
   cases h2:vals xs e1 with
   | none=>rw [h2] at h;cases h
   | some r2 =>
    obtain ⟨vs,e2⟩:=r2
    rw [h2] at h
    cases h
    obtain ⟨a1,k2⟩:=nM h2 bT
    obtain ⟨a0,k1⟩:=val_ok (C:=C) h1 a1
    refine ⟨a0,fun g a w S=>?_⟩
    obtain ⟨g1,QP,S1,r1⟩:=k1 g a w S
    obtain ⟨g2,Ay,S2,r2⟩:=k2 g1 a w S1
    exact ⟨g2,QP.trans Ay,S2,aN.cons (A:=[]) (B:=[]) (r1.keep Ay.k (fun _ h=>by cases h)) r2⟩
def adZ (P:Program) (t:TypeId):Bool:=match P.underlying t with
 | some (.pointer _) | some (.func _ _ _) | none=>false
 | _=>true
def kg (P:Program):Op→Bool
 | .store _ _ _=>false
 | .next _ _=>false
 | .call c=>match c.callee with
  | .builtin .append | .builtin .copy=>false
  | .value (.func n)=>match P.funcs[n]? with
   | some fn=>fn.params.toList.all (adZ P)
   | none=>false
  | .value _=>false
  | _=>true
 | _=>true
def bD (P:Program) (C:Ctx) (o:Oper) (e e':E):Prop :=
 All e'.ob→All e.ob∧∀ g a w,aI C g e.st a w→∀ (next:Act→World→Prop) (Q:Exit→Act→World→Prop),(∀ g' a' w',aI C g' e'.st a' w'→(kg P o.op=true→Calm w w')→next a' w')→o.wp P a w next Q
def dN (N:Nat) (o:Oper):Option Nat:=match o.dst with
 | some d=>match Nat.ble (d+1) N with
  | true=>some d
  | false=>none
 | none=>none
theorem fK {N d:Nat} {o:Oper} (h:dN N o=some d):o.dst=some d∧d < N:=by
 unfold dN at h
 cases hd:o.dst with
 | none=>rw [hd] at h;cases h
 | some x =>
  rw [hd] at h
  cases hb:Nat.ble (x+1) N with
  | false=>simp only [hb] at h;cases h
  | true=>simp only [hb] at h;cases h;exact ⟨rfl,Nat.le_of_ble_eq_true hb⟩
theorem fC {o:Oper} {a:Act} {w w':World} {v:Value} {next:Act→World→Prop} {Q:Exit→Act→World→Prop} (h:(execOp a.eval o).run P w=.ok (.value v) w') (hn:next (a.put o.dst v) w'):o.wp P a w next Q:=by
 unfold Oper.wp
 rw [h];exact hn
def E.put (e:E) (d:Nat) (u:V):E:={ e with st:=e.st.put d (.d (.v u)) }
theorem bD.of {o:Oper} {xs:List Operand} {e e1 e':E} {us:List V} {u:V} {d:Nat} (hd:dN C.N o=some d) (hv:vals xs e=some (us,e1))
 (h':e'.st=e1.st.put d (.d (.v u))) (bT:All e'.ob→All e1.ob)
 (hrun:All e'.ob→∀ (ρ:Operand→Value) (w:World) (p:bB),aN p w (xs.map ρ) us []→∃ v w',(execOp ρ o).run P w=.ok (.value v) w'∧Calm w w'∧∃ q:bB,(∀ b,q b→w.heap.size≤b∧b < w'.heap.size)∧aS (fun b=>p b∨q b) w' v u []):bD P C o e e':=by
 intro hA
 obtain ⟨hdd,hdN⟩:=fK hd
 obtain ⟨h0,k⟩:=nM (C:=C) hv (bT hA)
 refine ⟨h0,fun g a w S next Q hn=>?_⟩
 obtain ⟨g1,kk,S1,r⟩:=k g a w S
 obtain ⟨v,w',hr,hc,q,hq,hR⟩:=hrun hA a.eval w g1.aM r
 refine fC hr ?_
 have:=S1.put (d:=d) (v:=v) (x:=.d (.v u)) (T:=[]) (p:=q) hc hdN hq List.nodup_nil (fun _ h=>by cases h) (.v hR)
 rw [hdd]
 refine hn _ _ _ (?_:aI C (g1.put d [] q) e'.st _ _) (fun _=>hc)
 rw [h']
 exact this
theorem aS.afX {p:bB} {w w':World} {v:Value} {u:V} (q:bB) (hq:∀ b,p b→w'.heap[b]? = w.heap[b]?) (h:aS p w v u []):aS (fun b=>p b∨q b) w' v u [] :=
 h.keep ⟨fun b hb=>.inl hb,hq⟩ (fun _ h=>by cases h)
theorem bD.su {o:Oper} {xs:List Operand} {e e1 e':E} {us:List V} {u:V} {d:Nat} (hd:dN C.N o=some d) (hv:vals xs e=some (us,e1))
 (h':e'.st=e1.st.put d (.d (.v u))) (bT:All e'.ob→All e1.ob)
 (hrun:All e'.ob→∀ (ρ:Operand→Value) (w:World) (p:bB),aN p w (xs.map ρ) us []→∃ v,(execOp ρ o).run P w=.ok (.value v) w∧aS p w v u []):bD P C o e e' :=
 bD.of hd hv h' bT fun hA ρ w p r=>let ⟨v,h1,h2⟩:=hrun hA ρ w p r;⟨v,w,h1,Calm.refl w,fun _=>False,fun _ h=>h.elim,h2.afX _ (fun _ _=>rfl)⟩
end
end Go.Rf
end
section
namespace Go.Rf
open Go.RowKit
set_option linter.unusedVariables false
set_option linter.unusedSimpArgs false
variable [cO]
def lits:List V→Option (List Value)
 | []=>some []
 | .lit v :: l=>match lits l with
  | some vs=>some (v :: vs)
  | none=>none
 | .kb b :: l=>match lits l with
  | some vs=>some (.bool b :: vs)
  | none=>none
 | _=>none
theorem pE {p:bB} {w:World}:∀ {us:List V} {vs xs:List Value},lits us=some vs→aN p w xs us []→xs=vs
 | [],vs,xs,h,r=>by cases h;cases r;rfl
 | u :: us,vs,xs,h,r=>by
  cases u with
  | lit v =>
   simp only [lits] at h
   cases h1:lits us with
   | none=>rw [h1] at h;cases h
   | some ws =>
    rw [h1] at h
    cases h
    generalize hT:([]:List Nat)=T at r
    cases r with
    | cons r1 r2 =>
     cases r1
     have e:=pE h1 (by
      rename_i A B
      have:=(List.append_eq_nil_iff.1 hT.symm).2
      rw [this] at r2;exact r2)
     rw [e]
  | kb v =>
   simp only [lits] at h
   cases h1:lits us with
   | none=>rw [h1] at h;cases h
   | some ws =>
    rw [h1] at h
    cases h
    generalize hT:([]:List Nat)=T at r
    cases r with
    | cons r1 r2 =>
     cases r1
     have e:=pE h1 (by
      rename_i A B
      have:=(List.append_eq_nil_iff.1 hT.symm).2
      rw [this] at r2;exact r2)
     rw [e]
  | _=>simp [lits] at h
section
variable {P:Program} {C:Ctx}
def Vy:List (Nat × Value)→Nat→Option Value
 | [],_=>none
 | (k,v) :: l,d=>match Nat.beq d k with
  | true=>some v
  | false=>Vy l d
def nR (N:Nat) (o:Oper) (xs:List Operand) (f:List Value→Option (Value × List Prop)) (e:E):Option E :=
 match dN N o with
 | none=>none
 | some d=>match vals xs e with
  | none=>none
  | some (us,e)=>match lits us with
   | none=>none
   | some vs=>match f vs with
    | none=>none
    | some (v,obs)=>match Vy e.rw d with
     | none=>some (({ e with ob:=e.ob++obs }:E).put d (.lit v))
     | some u=>some (({ e with ob:=e.ob++obs++[v=u] }:E).put d (.lit u))
theorem qV {o:Oper} {xs:List Operand} {f:List Value→Option (Value × List Prop)} {e e':E} (h:nR C.N o xs f e=some e')
 (hf:∀ vs v obs,f vs=some (v,obs)→All obs→∀ (ρ:Operand→Value) (w:World),xs.map ρ=vs→(execOp ρ o).run P w=.ok (.value v) w):bD P C o e e':=by
 unfold nR at h
 split at h
 ·cases h
 rename_i d hd
 split at h
 ·cases h
 rename_i us e1 hv
 split at h
 ·cases h
 rename_i vs hl
 split at h
 ·cases h
 rename_i v obs sw
 split at h
 ·cases h
  exact bD.su hd hv rfl (fun h=>All.left h) fun hA ρ w p r=>⟨v,hf vs v obs sw (All.right hA) ρ w (pE hl r),.lit v⟩
 ·rename_i u _
  cases h
  refine bD.su hd hv rfl (fun h=>All.left (All.left h)) fun hA ρ w p r=>⟨u,?_,.lit u⟩
  have e:v=u:=by cases All.right hA with | cons h _=>exact h
  rw [← e]
  exact hf vs v obs sw (All.right (All.left hA)) ρ w (pE hl r)
def rz (k:IntKind) (n:Int):Int:=match k with
 | .i64=>wrap64 n
 | .i32=>wrap32 n
 | .u8=>n % 256
 | .u32=>n % 4294967296
 | k=>k.wrap n
theorem ve (k:IntKind) (n:Int):rz k n=k.wrap n:=by
 cases k<;>simp only [rz]
 ·rw [wrap32];simp only [IntKind.wrap,IntKind.bits,IntKind.signed];simp;omega
 ·rw [wrap64,IntKind.wrap_i64]
 ·simp [IntKind.wrap,IntKind.bits,IntKind.signed]
 ·simp [IntKind.wrap,IntKind.bits,IntKind.signed]
def mx (a b:Int):Int:=if a < b then b else a
def mn (a b:Int):Int:=if b < a then b else a
def shl (k:IntKind) (x y:Int):Int:=k.wrap (x*2 ^ min y.toNat k.bits)
def shr (k:IntKind) (x y:Int):Int:=x / 2 ^ min y.toNat k.bits
def KP (op:BinOp) (k:IntKind) (y:Operand) (m n:Int):Option (Value × List Prop):=match op with
 | .add=>some (.int k (rz k (m+n)),[])
 | .sub=>some (.int k (rz k (m - n)),[])
 | .mul=>some (.int k (rz k (m*n)),[])
 | .quo=>some (.int k (rz k (m.tdiv n)),[n≠0])
 | .rem=>some (.int k (m.tmod n),[n≠0])
 | .and=>some (.int k (bits .and k m n),[])
 | .or=>some (.int k (bits .or k m n),[])
 | .xor=>some (.int k (bits .xor k m n),[])
 | .andNot=>some (.int k (bits .andNot k m n),[])
 | .eql=>some (.bool (m == n),[])
 | .neq=>some (.bool (m != n),[])
 | .lss=>some (.bool (m < n),[])
 | .leq=>some (.bool (m≤n),[])
 | .gtr=>some (.bool (m > n),[])
 | .geq=>some (.bool (m≥n),[])
 | _=>none
def KQ (op:BinOp) (k:IntKind) (y:Operand) (m n:Int):Option (Value × List Prop):=match op with
 | .shl=>match y with
  | .const _=>some (.int k (rz k (m*2 ^ min n.toNat k.bits)),[0≤n])
  | _=>some (.int k (shl k m n),[0≤n])
 | .shr=>some (.int k (shr k m n),[0≤n])
 | _=>none
theorem aa9 {P:Program} {op:BinOp} {t:TypeId} {k:IntKind} {y:Operand} {m n:Int} {v:Value} {obs:List Prop} (h:KP op k y m n=some (v,obs)) (hA:All obs) (w:World):(binOp op t (.int k m) (.int k n)).run P w=.ok v w:=by
 cases op<;>simp only [KP,reduceCtorEq] at h<;>cases h<;>first
  | (simp [binOp,Op.intArith,ve];done)
  | (cases hA with | cons hA _=>simp [binOp,Op.intDiv,hA,ve])
  | (simp [binOp,Op.intBits,bits];done)
  | (simp [binOp,Op.intCmp];done)
theorem aba {P:Program} {op:BinOp} {t:TypeId} {k k':IntKind} {y:Operand} {m n:Int} {v:Value} {obs:List Prop} (h:KQ op k y m n=some (v,obs)) (hA:All obs) (w:World):(binOp op t (.int k m) (.int k' n)).run P w=.ok v w:=by
 cases op<;>simp only [KQ,reduceCtorEq] at h
 ·split at h<;>cases h<;>cases hA with | cons hA _=>simp [binOp,Op.shift,Int.not_lt.2 hA,ve,shl]
 ·cases h
  cases hA with
  | cons hA _ =>
   have hp:(0:Int)≤2 ^ min n.toNat k.bits:=Int.pow_nonneg (by decide)
   simp [binOp,Op.shift,Int.not_lt.2 hA,shr,Int.fdiv_eq_ediv_of_nonneg _ hp]
def sD (x y:Nat):Bool:=(floatBits .add .f64 x y).isSome
def nV (x y:Nat):Nat:=(floatBits .add .f64 x y).getD 0
def afY (x y:Nat):Bool:=(floatBits .sub .f64 x y).isSome
def afZ (x y:Nat):Nat:=(floatBits .sub .f64 x y).getD 0
def mR (x y:Nat):Bool:=FloatKind.f64.format.order x y == some .eq
def Az (x y:Nat):Bool:=FloatKind.f64.format.order x y == some .lt
def AA (x y:Nat):Bool:=FloatKind.f64.format.order x y == some .gt
def wW (x y:Nat):Bool:=Az x y || mR x y
def wX (x y:Nat):Bool:=AA x y || mR x y
def fint (x:Nat):Int:=(floatToIntVal .f64 x .i64).getD 0
def uw (x:Nat):Bool:=(floatToIntVal .f64 x .i64).isSome
theorem BD {α:Type} {o:Option α} {d:α} (h:o.isSome=true):o=some (o.getD d):=by
 cases o with
 | none=>cases h
 | some x=>rfl
def IA (op:BinOp) (a b:Nat):Option (Value × List Prop):=match op with
 | .lss=>some (.bool (Az a b),[])
 | .leq=>some (.bool (wW a b),[])
 | .gtr=>some (.bool (AA a b),[])
 | .geq=>some (.bool (wX a b),[])
 | .eql=>some (.bool (mR a b),[])
 | .neq=>some (.bool (!mR a b),[])
 | .add=>some (.float .f64 (nV a b),[sD a b=true])
 | .sub=>some (.float .f64 (afZ a b),[afY a b=true])
 | _=>none
def I7 (op:BinOp) (a b c d:Nat):Option (Value × List Prop):=match op with
 | .eql=>some (.bool (mR a c && mR b d),[])
 | .neq=>some (.bool (!(mR a c && mR b d)),[])
 | .add=>some (.complex .f64 (nV a c) (nV b d),[sD a c=true,sD b d=true])
 | _=>none
theorem ZT {P:Program} {op:BinOp} {t:TypeId} {a b:Nat} {v:Value} {obs:List Prop} (h:IA op a b=some (v,obs)) (hA:All obs) (w:World):(binOp op t (.float .f64 a) (.float .f64 b)).run P w=.ok v w:=by
 cases op<;>simp only [IA,reduceCtorEq] at h<;>cases h<;>first
  | (cases hA with | cons hA _=>exact run_float_arith w _ t .f64 a b _ (BD hA))
  | (simp [binOp,Op.floatCmp,Az,AA,mR,wW,wX,bne];done)
theorem aay {P:Program} {op:BinOp} {t:TypeId} {a b c d:Nat} {v:Value} {obs:List Prop} (h:I7 op a b c d=some (v,obs)) (hA:All obs) (w:World):(binOp op t (.complex .f64 a b) (.complex .f64 c d)).run P w=.ok v w:=by
 cases op<;>simp only [I7,reduceCtorEq] at h<;>cases h<;>first
  | (cases hA with
   | cons h1 hA=>cases hA with
    | cons h2 _ =>
     have e1:floatBits .add .f64 a c=some (nV a c):=BD h1
     have e2:floatBits .add .f64 b d=some (nV b d):=BD h2
     exact run_complex_sum w .add (Or.inl rfl) t .f64 a b c d _ _ (by simp [cSumBits,e1,e2]))
  | (simp [binOp,Op.complexOp,Op.Complex.cmp,Op.floatCmp,mR,asBool];done)
def af0:BinOp→Bool
 | .shl=>true
 | .shr=>true
 | _=>false
def Di (P:Program) (op:BinOp) (t:TypeId) (x y:Operand):List Value→Option (Value × List Prop)
 | [.string s,.string u]=>match op with
  | .add=>some (.string (s++u),[s.size+u.size≤9223372036854775807])
  | _=>(pF P (binOp op t (.string s) (.string u))).map fun v=>(v,[])
 | [.int k m,.int k' n]=>match af0 op with
  | true=>KQ op k y m n
  | false=>match k == k' with
   | true=>KP op k y m n
   | false=>none
 | [.bool a,.bool b]=>(pF P (binOp op t (.bool a) (.bool b))).map fun v=>(v,[])
 | [.float .f64 a,.float .f64 b]=>IA op a b
 | [.complex .f64 a b,.complex .f64 c d]=>I7 op a b c d
 | _=>none
theorem aaz (P:Program) (w:World) (op:BinOp) (t:TypeId) (x y:Operand) {a b:Value} (h:(∃ s u,a=.string s∧b=.string u)∨(∃ k m k' n,a=.int k m∧b=.int k' n)∨(∃ p q,a=.bool p∧b=.bool q)∨(∃ k m k' n,a=.float k m∧b=.float k' n)∨∃ k m n k' m' n',a=.complex k m n∧b=.complex k' m' n') :
 (eqGuard op t x y a b).run P w=.ok () w:=by
 rcases h with ⟨s,u,rfl,rfl⟩ | ⟨k,m,k',n,rfl,rfl⟩ | ⟨p,q,rfl,rfl⟩ | ⟨k,m,k',n,rfl,rfl⟩ | ⟨k,m,n,k',m',n',rfl,rfl⟩<;>cases op<;>simp [eqGuard]
theorem Uw {op:BinOp} {t ty:TypeId} {x y:Operand} {vs:List Value} {v:Value} {obs:List Prop} {o:Oper} (ho:o.op=.binOp op t x y ty) (h:Di P op t x y vs=some (v,obs)) (hA:All obs)
 (ρ:Operand→Value) (w:World) (hρ:[x,y].map ρ=vs):(execOp ρ o).run P w=.ok (.value v) w:=by
 have key:∀ a b,ρ x=a→ρ y=b→((∃ s u,a=.string s∧b=.string u)∨(∃ k m k' n,a=.int k m∧b=.int k' n)∨(∃ p q,a=.bool p∧b=.bool q)∨(∃ k m k' n,a=.float k m∧b=.float k' n)∨∃ k m n k' m' n',a=.complex k m n∧b=.complex k' m' n')→(binOp op t a b).run P w=.ok v w→(execOp ρ o).run P w=.ok (.value v) w:=by
  intro a b ha hb hg hr
  unfold execOp
  simp only [ho,Sem.run_bind,ha,hb,aaz P w op t x y hg,Result.andThen_ok,hr,Sem.run_pure]
 have pk:∀ a b,(pF P (binOp op t a b)).map (fun v=>(v,([]:List Prop)))=some (v,obs)→(binOp op t a b).run P w=.ok v w:=by
  intro a b hh
  cases hp:pF P (binOp op t a b) with
  | none=>rw [hp] at hh;cases hh
  | some u=>rw [hp] at hh;cases hh;exact R3 hp w
 unfold Di at h
 split at h
 ·rename_i s u
  simp only [List.map_cons,List.map_nil,List.cons.injEq,and_true] at hρ
  refine key _ _ hρ.1 hρ.2 (.inl ⟨s,u,rfl,rfl⟩) ?_
  split at h
  ·cases h
   cases hA with
   | cons hA _ =>
    simp only [binOp,Op.stringOp]
    rw [if_neg]
    ·rfl
    ·simp only [IntKind.max,IntKind.signed,IntKind.bits];omega
  ·exact pk _ _ h
 ·rename_i k m k' n
  simp only [List.map_cons,List.map_nil,List.cons.injEq,and_true] at hρ
  refine key _ _ hρ.1 hρ.2 (.inr (.inl ⟨k,m,k',n,rfl,rfl⟩)) ?_
  split at h
  ·exact aba h hA w
  ·split at h
   ·rename_i hk
    have hk:=eq_of_beq hk
    subst hk
    exact aa9 h hA w
   ·cases h
 ·rename_i p q
  simp only [List.map_cons,List.map_nil,List.cons.injEq,and_true] at hρ
  exact key _ _ hρ.1 hρ.2 (.inr (.inr (.inl ⟨p,q,rfl,rfl⟩))) (pk _ _ h)
 ·rename_i m n
  simp only [List.map_cons,List.map_nil,List.cons.injEq,and_true] at hρ
  exact key _ _ hρ.1 hρ.2 (.inr (.inr (.inr (.inl ⟨_,m,_,n,rfl,rfl⟩)))) (ZT h hA w)
 ·simp only [List.map_cons,List.map_nil,List.cons.injEq,and_true] at hρ
  exact key _ _ hρ.1 hρ.2 (.inr (.inr (.inr (.inr ⟨_,_,_,_,_,_,rfl,rfl⟩)))) (aay h hA w)
 ·cases h
end
end Go.Rf
end
section
namespace Go.Rf
open Go.RowKit
set_option linter.unusedVariables false
set_option linter.unusedSimpArgs false
variable [cO]
section
variable {P:Program} {C:Ctx}
def nS (P:Program) (s:Sem Value):Option (Value × List Prop):=match pF P s with
 | some v=>some (v,[])
 | none=>none
theorem xB {s:Sem Value} {v:Value} {obs:List Prop} (h:nS P s=some (v,obs)) (w:World):s.run P w=.ok v w:=by
 unfold nS at h
 cases hp:pF P s with
 | none=>rw [hp] at h;cases h
 | some u=>rw [hp] at h;cases h;exact R3 hp w
def QQ (P:Program) (op:UnOp):List Value→Option (Value × List Prop)
 | [a]=>nS P (Op.unary op a)
 | _=>none
theorem U8 {op:UnOp} {t:TypeId} {x:Operand} {vs:List Value} {v:Value} {obs:List Prop} {o:Oper} (ho:o.op=.unOp op t x) (h:QQ P op vs=some (v,obs))
 (ρ:Operand→Value) (w:World) (hρ:[x].map ρ=vs):(execOp ρ o).run P w=.ok (.value v) w:=by
 subst hρ
 have:=xB (P:=P) h w
 unfold execOp
 simp only [ho,Sem.run_bind,this,Result.andThen_ok,Sem.run_pure]
def Ck (P:Program) (s d:TypeId):List Value→Option (Value × List Prop)
 | [.int k' n]=>match P.underlying s,P.underlying d with
  | some _,some (.int k)=>some (.int k (rz k n),[])
  | _,_=>nS P (convert s d (.int k' n))
 | [.float .f64 b]=>match P.underlying s,P.underlying d with
  | some _,some (.int .i64)=>some (.int .i64 (fint b),[uw b=true])
  | _,_=>nS P (convert s d (.float .f64 b))
 | [a]=>nS P (convert s d a)
 | _=>none
theorem TI {s d:TypeId} {x:Operand} {vs:List Value} {v:Value} {obs:List Prop} {o:Oper} (ho:o.op=.convert s d x) (h:Ck P s d vs=some (v,obs)) (hA:All obs)
 (ρ:Operand→Value) (w:World) (hρ:[x].map ρ=vs):(execOp ρ o).run P w=.ok (.value v) w:=by
 subst hρ
 have key:(convert s d (ρ x)).run P w=.ok v w:=by
  simp only [List.map_cons,List.map_nil] at h
  unfold Ck at h
  split at h
  ·rename_i k' n hl
   have hx:ρ x=.int k' n:=(List.cons.inj hl).1
   rw [hx]
   split at h
   ·rename_i ts k h1 h2
    simp only [Option.some.injEq,Prod.mk.injEq] at h
    obtain ⟨rfl,_⟩:=h
    unfold convert
    simp only [Sem.run_bind,run_underlying h1,run_underlying h2,Result.andThen_ok,ve]
    cases ts<;>rfl
   ·exact xB (P:=P) h w
  ·rename_i b hl
   have hx:ρ x=.float .f64 b:=(List.cons.inj hl).1
   rw [hx]
   split at h
   ·rename_i ts h1 h2
    cases h
    cases hA with
    | cons hA _=>exact run_convert_float_int w s d .f64 .i64 b _ (by rw [h1];rfl) h2 (BD hA)
   ·exact xB (P:=P) h w
  ·rename_i a _ _ hl
   have hx:ρ x=a:=(List.cons.inj hl).1
   rw [hx]
   exact xB (P:=P) h w
  ·cases h
 unfold execOp
 simp only [ho,Sem.run_bind,key,Result.andThen_ok,Sem.run_pure]
def yg:List Value→Option (Value × List Prop)
 | [.bool c,a,b]=>some (match c with | true=>a | false=>b,[])
 | _=>none
theorem abb {c x y:Operand} {vs:List Value} {v:Value} {obs:List Prop} {o:Oper} (ho:o.op=.pick c x y) (h:yg vs=some (v,obs))
 (ρ:Operand→Value) (w:World) (hρ:[c,x,y].map ρ=vs):(execOp ρ o).run P w=.ok (.value v) w:=by
 unfold yg at h
 split at h
 ·rename_i c' a b
  cases h
  simp only [List.map_cons,List.map_nil,List.cons.injEq,and_true] at hρ
  obtain ⟨h1,h2,h3⟩:=hρ
  unfold execOp
  simp only [ho,Sem.run_bind,h1,h2,h3,asBool,Sem.run_pure,Result.andThen_ok]
  cases c'<;>rfl
 ·cases h
def vS (P:Program) (b:Builtin) (ts:Array TypeId) (ty:TypeId) (vs:List Value):Option (Value × List Prop) :=
 match b with
 | .len=>nS P (Builtin.len_ ts ty vs.toArray)
 | .max=>nS P (Builtin.max_ ts ty vs.toArray)
 | .min=>nS P (Builtin.min_ ts ty vs.toArray)
 | .complex=>nS P (Builtin.complex_ ts ty vs.toArray)
 | .real=>nS P (Builtin.real_ ts ty vs.toArray)
 | .imag=>nS P (Builtin.imag_ ts ty vs.toArray)
 | _=>none
theorem BF {b:Builtin} {c:Call} {vs:List Value} {v:Value} {obs:List Prop} {o:Oper} (ho:o.op=.call c) (hc:c.callee=.builtin b) (h:vS P b c.argTypes o.type vs=some (v,obs))
 (ρ:Operand→Value) (w:World) (hρ:c.args.toList.map ρ=vs):(execOp ρ o).run P w=.ok (.value v) w:=by
 have e:(c.args.map ρ)=vs.toArray:=by rw [← hρ];apply Array.ext';rw [Array.toList_map]
 unfold vS at h
 unfold execOp
 simp only [ho,resolve,hc,e,Sem.run_bind,Sem.run_pure,Result.andThen_ok,invoke]
 split at h
 all_goals try (cases h;done)
 all_goals (have:=xB (P:=P) h w;simp only [builtin,Sem.run_bind,this,Result.andThen_ok,Sem.run_pure])
def bt (s:ByteArray) (i:Int):Int:=if h:i.toNat < s.size then ((s[i.toNat]'h).toNat:Int) else 0
def EY (P:Program) (t:TypeId):List Value→Option (Value × List Prop)
 | [.string s,.int k i]=>match P.underlying t with
  | some .string=>some (.int .u8 (bt s i),[0≤i,i < (s.size:Int)])
  | _=>none
 | _=>none
theorem U9 {t:TypeId} {x y:Operand} {vs:List Value} {v:Value} {obs:List Prop} {o:Oper} (ho:o.op=.index t x y) (h:EY P t vs=some (v,obs)) (hA:All obs)
 (ρ:Operand→Value) (w:World) (hρ:[x,y].map ρ=vs):(execOp ρ o).run P w=.ok (.value v) w:=by
 unfold EY at h
 split at h
 ·rename_i s k i
  split at h
  ·rename_i hu
   cases h
   simp only [List.map_cons,List.map_nil,List.cons.injEq,and_true] at hρ
   obtain ⟨h1,h2⟩:=hρ
   cases hA with
   | cons a1 hA=>cases hA with
    | cons a2 _ =>
     have hi:i.toNat < s.data.toList.length:=by
      have:s.size=s.data.toList.length:=(Array.length_toList (xs:=s.data)).symm
      omega
     have e:s[i.toNat]? = some (s.data.toList[i.toNat]'hi):=by
      have hs:i.toNat < s.size:=Nat.lt_of_lt_of_eq hi (Array.length_toList (xs:=s.data))
      rw [getElem?_pos s i.toNat hs]
      rfl
     have hs':i.toNat < s.size:=Nat.lt_of_lt_of_eq hi (Array.length_toList (xs:=s.data))
     have eb:bt s i=((s.data.toList[i.toNat]'hi).toNat:Int):=by simp only [bt];rw [dif_pos hs'];rfl
     unfold execOp
     simp only [ho,h1,h2,Instr.index,asIntOf,Sem.run_bind,Sem.run_pure,Result.andThen_ok,run_underlying hu,a1,if_true,e,eb]
  ·cases h
 ·cases h
end
end Go.Rf
end
section
namespace Go.Rf
open Go.RowKit
set_option linter.unusedVariables false
set_option linter.unusedSimpArgs false
variable [cO]
section
variable {P:Program} {C:Ctx}
theorem run_sliceBound (P:Program) (w:World) (k:IntKind) (i:Int) (y:Nat) (code:BoundsCode) (h0:0≤i) (h1:i≤(y:Int)):(Instr.sliceBound (.int k i) y code).run P w=.ok i.toNat w:=by
 simp only [Instr.sliceBound,asIntOf,Sem.run_bind,Sem.run_pure,Result.andThen_ok]
 rw [if_pos ⟨h0,h1⟩];rfl
def mM (n:Nat):Bool→Bool→List Value→Option (Nat × Nat × List Prop)
 | false,false,[]=>some (0,n,[])
 | true,false,[.int _ l]=>some (l.toNat,n,[0≤l,l≤(n:Int)])
 | false,true,[.int _ h]=>some (0,h.toNat,[0≤h,h≤(n:Int)])
 | true,true,[.int _ l,.int _ h]=>some (l.toNat,h.toNat,[0≤l,l≤h,h≤(n:Int)])
 | _,_,_=>none
theorem Ux {n:Nat} {lo hi:Bool} {vs:List Value} {l h:Nat} {obs:List Prop} (hc:mM n lo hi vs=some (l,h,obs)) (hA:All obs):l≤h∧h≤n:=by
 unfold mM at hc
 split at hc
 ·cases hc;omega
 ·cases hc;cases hA with | cons a hA=>cases hA with | cons b _=>omega
 ·cases hc;cases hA with | cons a hA=>cases hA with | cons b _=>omega
 ·cases hc;cases hA with | cons a hA=>cases hA with | cons b hA=>cases hA with | cons c _=>omega
 ·cases hc
theorem Br {n cap:Nat} {lo hi:Option Operand} {ρ:Operand→Value} {vs:List Value} {l h:Nat} {obs:List Prop} (w:World) (wY:Bool) (hcap:n≤cap)
 (hρ:(lo.toList++hi.toList).map ρ=vs) (hc:mM n lo.isSome hi.isSome vs=some (l,h,obs)) (hA:All obs) :
 (Instr.sliceBounds wY n cap (lo.map ρ) (hi.map ρ) none).run P w=.ok (l,h,cap) w:=by
 cases lo with
 | none =>
  cases hi with
  | none =>
   simp only [Option.toList,List.append_nil,List.map_nil] at hρ
   subst hρ
   simp only [Option.isSome,mM] at hc
   cases hc
   simp [Instr.sliceBounds]
  | some y =>
   simp only [Option.toList,List.nil_append,List.map_cons,List.map_nil] at hρ
   subst hρ
   simp only [Option.isSome] at hc
   cases e:ρ y<;>simp only [e,mM,reduceCtorEq] at hc
   cases hc
   cases hA with | cons a hA=>cases hA with | cons b _ =>
   simp only [Instr.sliceBounds,Option.map_some,Option.map_none,e,Sem.run_bind,Sem.run_pure,Result.andThen_ok]
   rw [run_sliceBound P w _ _ cap _ a (by omega)]
   rfl
 | some x =>
  cases hi with
  | none =>
   simp only [Option.toList,List.append_nil,List.map_cons,List.map_nil] at hρ
   subst hρ
   simp only [Option.isSome] at hc
   cases e:ρ x<;>simp only [e,mM,reduceCtorEq] at hc
   cases hc
   cases hA with | cons a hA=>cases hA with | cons b _ =>
   simp only [Instr.sliceBounds,Option.map_some,Option.map_none,e,Sem.run_bind,Sem.run_pure,Result.andThen_ok,Option.isSome,Bool.false_eq_true,if_false]
   rw [run_sliceBound P w _ _ n _ a (by omega)]
   rfl
  | some y =>
   simp only [Option.toList,List.cons_append,List.nil_append,List.map_cons,List.map_nil] at hρ
   subst hρ
   simp only [Option.isSome] at hc
   cases e1:ρ x<;>simp only [e1,mM,reduceCtorEq] at hc
   cases e2:ρ y<;>simp only [e2,mM,reduceCtorEq] at hc
   cases hc
   cases hA with | cons a hA=>cases hA with | cons b hA=>cases hA with | cons c _ =>
   simp only [Instr.sliceBounds,Option.map_some,Option.map_none,e1,e2,Sem.run_bind,Sem.run_pure,Result.andThen_ok,Option.isSome,Bool.false_eq_true,if_false]
   rw [run_sliceBound P w _ _ cap _ (by omega) (by omega)]
   simp only [Result.andThen_ok]
   rw [run_sliceBound P w _ _ _ _ a (by omega)]
   rfl
def EZ (P:Program) (t:TypeId) (lo hi:Bool):List Value→Option (Value × List Prop)
 | .string s :: vs=>match P.underlying t with
  | some .string=>match mM s.size lo hi vs with
   | some (l,h,obs)=>some (.string (s.extract l h),obs)
   | none=>none
  | _=>none
 | _=>none
theorem Va {t:TypeId} {x:Operand} {lo hi:Option Operand} {vs:List Value} {v:Value} {obs:List Prop} {o:Oper} (ho:o.op=.slice t x lo hi none) (h:EZ P t lo.isSome hi.isSome vs=some (v,obs)) (hA:All obs)
 (ρ:Operand→Value) (w:World) (hρ:(x :: (lo.toList++hi.toList)).map ρ=vs):(execOp ρ o).run P w=.ok (.value v) w:=by
 unfold EZ at h
 split at h
 ·rename_i s us
  split at h
  ·rename_i hu
   split at h
   ·rename_i l hh akX hc
    cases h
    simp only [List.map_cons,List.cons.injEq] at hρ
    obtain ⟨h1,h2⟩:=hρ
    have:=Br (P:=P) (cap:=s.size) w false (Nat.le_refl _) h2 hc hA
    unfold execOp
    simp only [ho,h1,Instr.sliceAt,Instr.slice,Sem.run_bind,run_underlying hu,Option.map_none,Result.andThen_ok,Option.isSome,Bool.false_eq_true,if_false,this,Sem.run_pure]
   ·cases h
  ·cases h
 ·cases h
end
end Go.Rf
end
section
namespace Go.Rf
open Go.RowKit
set_option linter.unusedVariables false
set_option linter.unusedSimpArgs false
variable [cO]
def iT (st:St):Root→Option V
 | .t s=>match look st.env s with
  | some (.d (.v u))=>some u
  | _=>none
 | .b id c=>match st.box[id]? with
  | some (.cells cs)=>match cs[c]? with
   | some (.v u)=>some u
   | _=>none
  | _=>none
def mg (st:St):Operand→Option (Root × V)
 | .tmp t=>match look st.env t with
  | some (.al (.top r))=>match iT st r with
   | some u=>some (r,u)
   | none=>none
  | some (.d (.v u))=>some (.t t,u)
  | _=>none
 | _=>none
section
variable {P:Program} {C:Ctx} {g:G} {st:St} {a:Act} {w:World}
theorem cK.get {g:G} {w:World}:∀ {vs:List Value} {ds:List D} {T:List Nat} {c:Nat} {d:D},cK g w vs ds T→ds[c]? = some d→∃ v Tc,vs[c]? = some v∧aV g w v d Tc∧(∀ b∈Tc,b∈T)∧(T.Nodup→Tc.Nodup)
 | _,_,_,_,_,.nil,h=>by simp at h
 | _,_,_,0,d,.cons (A:=A) (B:=B) h1 h2,h=>by
  simp only [List.getElem?_cons_zero,Option.some.injEq] at h
  subst h
  exact ⟨_,A,rfl,h1,fun b hb=>List.mem_append_left _ hb,fun hn=>(List.nodup_append.1 hn).1⟩
 | _,_,_,c+1,d,.cons (A:=A) (B:=B) h1 h2,h=>by
  simp only [List.getElem?_cons_succ] at h
  obtain ⟨v,Tc,e1,e2,e3,e4⟩:=h2.get h
  exact ⟨v,Tc,by simpa using e1,e2,fun b hb=>List.mem_append_right _ (e3 b hb),fun hn=>e4 (List.nodup_append.1 hn).2.1⟩
theorem uZ (S:aI C g st a w) {r:Root} {u:V} (h:iT st r=some u):∃ v T,dY g a w r=some v∧aS g.aM w v u T∧(∀ b∈T,g.own b=some r.holder)∧T.Nodup:=by
 cases r with
 | t s =>
  simp only [iT] at h
  split at h
  ·rename_i x hx
   cases h
   obtain ⟨h1,h2,h3⟩:=S.env s _ hx
   refine ⟨a.tmps.getD s undef,g.TE s,?_,aV.inv h2,h3,S.nU s⟩
   have:s < a.tmps.size:=by rw [S.tmps];exact h1
   simp [dY,Array.getD_eq_getD_getElem?,this]
  ·cases h
 | b id c =>
  simp only [iT] at h
  split at h
  ·rename_i cs hb
   split at h
   ·rename_i x hx
    cases h
    obtain ⟨⟨cur,e,A,hT,hh,hr,h1⟩,h2⟩:=S.box id _ hb
    obtain ⟨v,Tc,e1,e2,e3,e4⟩:=hr.get hx
    refine ⟨v,Tc,?_,aV.inv e2,fun b hb=>h2 b (by rw [hT];simp [e3 b hb]),e4 ?_⟩
    ·have hid:id < g.n:=by
      rw [S.n]
      rcases Nat.lt_or_ge id st.box.length with h | h
      ·exact h
      ·rw [List.getElem?_eq_none h] at hb;cases hb
     simp only [dY]
     rw [if_pos ⟨hid,h2 _ (by rw [hT];simp)⟩]
     simp only [World.cell?,hh]
     simpa using e1
    ·have:=S.mK id
     rw [hT] at this
     exact (List.nodup_cons.1 this).2
   ·cases h
  ·cases h
theorem ng (S:aI C g st a w) {x:Operand} {r:Root} {u:V} (h:mg st x=some (r,u)):∃ T,dY g a w r=some (a.eval x)∧aS g.aM w (a.eval x) u T∧(∀ b∈T,g.own b=some r.holder)∧T.Nodup:=by
 cases x with
 | tmp t =>
  simp only [mg] at h
  split at h
  ·rename_i q hq
   split at h
   ·rename_i u' hu
    cases h
    obtain ⟨v,T,h1,h2,h3⟩:=uZ S hu
    obtain ⟨_,⟨_,h4⟩,_⟩:=S.env t _ hq
    simp only [pv] at h4
    have:v=a.eval (.tmp t):=by
     rw [h4] at h1
     exact (Option.some.inj h1).symm
    rw [← this]
    exact ⟨T,h1,h2,h3⟩
   ·cases h
  ·rename_i u' hu
   cases h
   obtain ⟨v,T,h1,h2,h3⟩:=uZ S (r:=.t t) (u:=u) (by simp [iT,hu])
   have e:a.eval (.tmp t)=v:=by
    simp only [dY] at h1
    exact RH h1
   rw [e]
   exact ⟨T,h1,h2,h3⟩
  ·cases h
 | _=>simp [mg] at h
theorem aS.Uy {p:bB} {w:World} {v:Value} {o:Option TypeId} {sz:Nat} {es:List V} {T:List Nat} (h:aS p w v (.row o sz es) T):∃ ao cap,v=.slice ao es.length cap:=by
 cases h with
 | shared=>exact ⟨_,_,rfl⟩
 | own h1 h2 h3 h4 =>
  rcases h4.2 with ⟨rfl,hn⟩ | ⟨b,cap,cur,rfl,_⟩
  ·exact ⟨none,0,by rw [hn]⟩
  ·exact ⟨_,cap,rfl⟩
def yh (P:Program) (N:Nat) (o:Oper) (ts:Array TypeId) (x:Operand) (e:E):Option E :=
 match dN N o with
 | none=>none
 | some d=>match mg e.st x with
  | some (_,.row _ _ es)=>match ts[0]? with
   | some t=>match P.underlying t with
    | some (.slice _)=>match hint e with
     | some (.lit (.int .i64 n),e)=>some ((need ((es.length:Int)=n) e).put d (.lit (.int .i64 n)))
     | _=>none
    | _=>none
   | none=>none
  | _=>none
theorem bD.lit {o:Oper} {e e1:E} {d:Nat} {v:Value} {obs:List Prop} (hd:dN C.N o=some d) (h1:e1.ob=e.ob∧e1.st=e.st)
 (hrun:All obs→∀ g a w,aI C g e.st a w→(execOp a.eval o).run P w=.ok (.value v) w):bD P C o e (({ e1 with ob:=e1.ob++obs }:E).put d (.lit v)):=by
 intro hA
 obtain ⟨hdd,hdN⟩:=fK hd
 have hA:All (e1.ob++obs):=hA
 refine ⟨h1.1 ▸ hA.left,fun g a w S next Q hk=>?_⟩
 refine fC (hrun hA.right g a w S) ?_
 rw [hdd]
 have:=S.iL (Calm.refl w) hdN (v:=v) (D:=.v (.lit v)) (.v (.lit _))
 refine hk (g.put d [] fun _=>False) _ _ ?_ (fun _=>Calm.refl w)
 show aI C _ (e1.st.put d _) _ _
 rw [h1.2]
 exact this
theorem TJ {o:Oper} {c:Call} {x:Operand} {e e':E} (ho:o.op=.call c) (hc:c.callee=.builtin .len) (ha:c.args = #[x]) (h:yh P C.N o c.argTypes x e=some e'):bD P C o e e':=by
 unfold yh at h
 split at h
 ·cases h
 rename_i d hd
 split at h
 ·rename_i r ow sz es hp
  split at h
  ·rename_i t ht
   split at h
   ·rename_i el hu
    split at h
    ·rename_i n e1 hh
     cases h
     refine bD.lit (obs:=[(es.length:Int)=n]) hd (ik hh) fun hA g a w S=>?_
     have hn:(es.length:Int)=n:=by cases hA with | cons h _=>exact h
     obtain ⟨T,_,hr,_⟩:=ng S hp
     obtain ⟨ao,cap,hv⟩:=hr.Uy
     unfold execOp
     simp only [ho,resolve,hc,ha,Sem.run_bind,Sem.run_pure,Result.andThen_ok,invoke,builtin,List.map_toArray,List.map_cons,List.map_nil,hv,Builtin.len_,ht,List.getElem?_toArray,List.getElem?_cons_zero,run_underlying hu,goInt,hn]
    ·cases h
   ·cases h
  ·cases h
 ·cases h
end
end Go.Rf
end
section
namespace Go.Rf
open Go.RowKit
set_option linter.unusedVariables false
set_option linter.unusedSimpArgs false
variable [cO]
theorem aS.lI {p:bB} {w:World} {v u:Value} {T:List Nat} (h:aS p w v (.lit u) T):v=u:=by cases h;rfl
theorem aN.cut {p:bB} {w:World}:∀ (n:Nat) {xs:List Value} {cs:List V} {T:List Nat},aN p w xs cs T→∃ A B,T=A++B∧aN p w (xs.take n) (cs.take n) A∧aN p w (xs.drop n) (cs.drop n) B
 | 0,xs,cs,T,h=>⟨[],T,rfl,by simpa using aN.nil,by simpa using h⟩
 | n+1,_,_,_,.nil=>⟨[],[],rfl,by simpa using aN.nil,by simpa using aN.nil⟩
 | n+1,_,_,_,.cons (A:=A) h1 h2=>by
  obtain ⟨A',B',rfl,h3,h4⟩:=h2.cut n
  exact ⟨A++A',B',by simp,by simpa using .cons h1 h3,by simpa using h4⟩
theorem aN.elem {p:bB} {w:World} {sz:Nat}:∀ {es:List V} {xs:List Value} {T:List Nat} {i:Nat} {el:V},(∀ e∈es,e.cells.length=sz)→aN p w xs (es.flatMap V.cells) T→es[i]? = some el →
 ∃ T1 A T2,T=T1++(A++T2)∧aN p w ((xs.drop (i*sz)).take sz) el.cells A
 | [],_,_,i,el,_,_,h=>by simp at h
 | e :: es,xs,T,i,el,hs,hr,h=>by
  have hz:e.cells.length=sz:=hs e (by simp)
  obtain ⟨A,B,rfl,h1,h2⟩:=hr.cut sz
  have e1:((e :: es).flatMap V.cells).take sz=e.cells:=by rw [List.flatMap_cons,← hz,List.take_left]
  have e2:((e :: es).flatMap V.cells).drop sz=es.flatMap V.cells:=by rw [List.flatMap_cons,← hz,List.drop_left]
  rw [e1] at h1
  rw [e2] at h2
  cases i with
  | zero =>
   simp only [List.getElem?_cons_zero,Option.some.injEq] at h
   subst h
   exact ⟨[],A,B,by simp,by simpa using h1⟩
  | succ i =>
   simp only [List.getElem?_cons_succ] at h
   obtain ⟨T1,A',T2,rfl,h3⟩:=aN.elem (fun e he=>hs e (by simp [he])) h2 h
   refine ⟨A++T1,A',T2,by simp,?_⟩
   rw [List.drop_drop] at h3
   rw [show (i+1)*sz=sz+i*sz by rw [Nat.add_mul,Nat.one_mul,Nat.add_comm]]
   exact h3
theorem FC {w:World} {b o:Nat} {xs:List Value} (h:w.rangeAt b o xs) (i n:Nat):w.rangeAt b (o+i) ((xs.drop i).take n):=by
 intro j v hj
 rw [List.getElem?_take] at hj
 split at hj
 ·rw [List.getElem?_drop] at hj
  have:=h _ _ hj
  rwa [show o+i+j=o+(i+j) by omega]
 ·cases hj
def rP (P:Program) (t:TypeId):Option Bool:=match P.underlying t with
 | some (.struct _)=>some true
 | some (.array _ _)=>some true
 | some _=>some false
 | none=>none
def gy (P:Program) (t:TypeId):Option Nat:=match P.info? t with
 | some i=>some i.size
 | none=>none
def lJ (P:Program) (t:TypeId) (cs:List V):Option V:=match rP P t with
 | some true=>match gy P t with
  | some n=>match Nat.ble n cs.length with
   | true=>some (.agg (cs.take n))
   | false=>none
  | none=>none
 | some false=>match cs with
  | c :: _=>match c with
   | .agg _=>none
   | c=>some c
  | []=>none
 | none=>none
theorem qf {P:Program} {t:TypeId} {b:Bool} (h:rP P t=some b) (w:World):(isAgg t).run P w=.ok b w:=by
 unfold rP at h
 unfold isAgg
 split at h<;>first | (rename_i hu;cases h;rw [Sem.run_bind,run_underlying hu w];rfl) | skip
 ·rename_i d h1 h2 hu
  cases h
  rw [Sem.run_bind,run_underlying hu w]
  cases d<;>simp_all
 ·cases h
theorem TK {P:Program} {w:World} {p:bB} {t:TypeId} {b o:Nat} {xs:List Value} {cs:List V} {u:V} {T:List Nat} (hr:w.rangeAt b o xs) (h:aN p w xs cs T) (hp:lJ P t cs=some u) :
 ∃ v A B,(Instr.loadAt t (.pointer (some ⟨b,o,none⟩))).run P w=.ok v w∧T=A++B∧aS p w v u A:=by
 unfold lJ at hp
 split at hp
 ·rename_i ht
  split at hp
  ·rename_i n hn
   split at hp
   ·rename_i hle
    cases hp
    have hle:=Nat.le_of_ble_eq_true hle
    obtain ⟨A,B,hT,h1,h2⟩:=h.cut n
    have hl:(xs.take n).length=n:=by rw [List.length_take,h.length];omega
    have hg:=qf ht w
    unfold gy at hn
    cases hi:P.info? t with
    | none=>rw [hi] at hn;cases hn
    | some i =>
     rw [hi] at hn
     cases hn
     have hc:=run_loadCells_list (P:=P) w ⟨b,o,none⟩ (xs.take i.size) (fun j v hj=>by
      rw [Addr.add_mid]
      exact hr j v (by rw [List.getElem?_take] at hj;split at hj;exact hj;cases hj))
     rw [hl] at hc
     refine ⟨.agg (xs.take i.size).toArray,A,B,?_,hT,.agg h1⟩
     simp only [Instr.loadAt,Instr.sureAddr,loadVar,Sem.run_bind,Sem.run_pure,Result.andThen_ok,hg,if_true,sizeOf,typeInfo,run_program,hi,hc]
   ·cases hp
  ·cases hp
 ·rename_i ht
  split at hp
  ·rename_i c cs'
   split at hp
   ·cases hp
   ·cases hp
    cases h with
    | cons h1 h2 =>
     rename_i v vs A B
     have hg:=qf ht w
     refine ⟨v,A,B,?_,rfl,h1⟩
     have hc:=hr 0 v rfl
     simp only [Nat.add_zero] at hc
     simp only [Instr.loadAt,Instr.sureAddr,loadVar,Sem.run_bind,Sem.run_pure,Result.andThen_ok,hg,Bool.false_eq_true,if_false,run_load,hc]
  ·cases hp
 ·cases hp
section
variable {P:Program} {C:Ctx}
def Hr (P:Program) (N:Nat) (o:Oper) (t:TypeId) (x i:Operand) (e:E):Option E :=
 match dN N o with
 | none=>none
 | some d=>match P.underlying t with
  | some (.slice el)=>match val i e with
   | some (.lit (.int _ n),e)=>match mg e.st x with
    | some (r,.row ow sz es)=>match gy P el with
     | some s=>match (Nat.beq s sz && Nat.ble 1 s) with
      | true=>match ow with
       | none=>match hint e with
        | some (h,e)=>some ((need (es[n.toNat]? = some h) (need (0≤n) e)).put d (.pt h.cells))
        | none=>none
       | some _=>match (X.pa r sz n.toNat 0).kill (di d) with
        | .dead=>none
        | _=>some { (need (n < (es.length:Int)) (need (0≤n) e)) with st:=e.st.put d (.pa r sz n.toNat 0) }
      | false=>none
     | none=>none
    | _=>none
   | _=>none
  | _=>none
theorem xw {p:bB} {w:World} {v:Value} {sz:Nat} {es:List V} {T:List Nat} (h:aS p w v (.row none sz es) T):∃ ao cap xs,(v=.slice ao es.length cap∧es.length≤cap)∧(∀ e∈es,e.cells.length=sz)∧aN p w xs (es.flatMap V.cells) []∧(∀ u∈xs,u.oneCell'=true) ∧
 (∀ j u,xs[j]? = some u→∃ b o,ao=some ⟨b,o,none⟩∧p b∧w.cell? ⟨b,o+j,none⟩=some u):=by
 cases h with
 | shared h0 h1 h2 h3 h4=>exact ⟨_,_,_,⟨rfl,h0⟩,h1,h2,h3,h4⟩
theorem nN {p:bB} {w:World} {v:Value} {e sz:Nat} {es:List V} {T:List Nat} (h:aS p w v (.row (some e) sz es) T):∃ xs A,T=v.ownBlock.toList++A∧(∀ e∈es,e.cells.length=sz)∧aN p w xs (es.flatMap V.cells) A∧(∀ u∈xs,u.oneCell'=true)∧w.ownsRow 0 e sz v es.length xs:=by
 cases h with
 | own h1 h2 h3 h4=>exact ⟨_,_,rfl,h1,h2,h3,h4⟩
theorem fD {sz:Nat}:∀ {es:List V},(∀ e∈es,e.cells.length=sz)→(es.flatMap V.cells).length=es.length*sz
 | [],_=>by simp
 | e :: es,h=>by
  rw [List.flatMap_cons,List.length_append,h e (by simp),fD (fun e he=>h e (by simp [he])),List.length_cons,Nat.add_mul,Nat.one_mul,Nat.add_comm]
theorem R5 {P:Program} {t el:TypeId} {ad:Addr} {len cap s:Nat} {k:IntKind} {i:Int} (hu:P.underlying t=some (.slice el)) (hs:gy P el=some s) (h0:0≤i) (h1:i < (len:Int)) (w:World) :
 (Instr.indexAt t (.slice (some ad) len cap) (.int k i)).run P w=.ok (.pointer (some (ad.add (i.toNat*s)))) w:=by
 unfold gy at hs
 cases hi:P.info? el with
 | none=>rw [hi] at hs;cases hs
 | some inf =>
  rw [hi] at hs
  cases hs
  simp [Instr.indexAt,asIntOf,run_underlying hu,h0,h1,sizeOf,typeInfo,hi]
theorem ZU {o:Oper} {t:TypeId} {x i:Operand} {e e':E} (ho:o.op=.indexAddr t x i) (h:Hr P C.N o t x i e=some e'):bD P C o e e':=by
 unfold Hr at h
 split at h
 ·cases h
 rename_i d hd
 split at h
 ·rename_i el hu
  split at h
  ·rename_i k n e1 hv
   split at h
   ·rename_i r ow sz es hp
    split at h
    ·rename_i s hs
     split at h
     ·rename_i hsz
      rw [Bool.and_eq_true] at hsz
      obtain ⟨hsz,hz1⟩:=hsz
      have hz1:=Nat.le_of_ble_eq_true hz1
      have hsz:=Nat.eq_of_beq_eq_true hsz
      subst hsz
      obtain ⟨hdd,hdN⟩:=fK hd
      split at h
      ·split at h
       ·rename_i hel e2 hh
        cases h
        intro hA
        obtain ⟨hA,hb⟩:=All.snoc hA
        obtain ⟨hA,ha⟩:=All.snoc hA
        obtain ⟨q1,q2⟩:=ik hh
        obtain ⟨h0,kv⟩:=val_ok (C:=C) hv (q1 ▸ hA)
        refine ⟨h0,fun g a w S next Q hk=>?_⟩
        obtain ⟨g1,k1,S1,r1⟩:=kv g a w S
        obtain ⟨T,_,hr,_⟩:=ng S1 hp
        obtain ⟨ao,cap,xs,⟨hx,_⟩,hc,hl,h1,hcell⟩:=xw hr
        have hilt:n.toNat < es.length:=by
         rcases Nat.lt_or_ge n.toNat es.length with h | h
         ·exact h
         ·rw [List.getElem?_eq_none h] at hb;cases hb
        obtain ⟨T1,A,T2,hT,hseg⟩:=aN.elem hc hl hb
        have hA':A=[]:=(List.append_eq_nil_iff.1 (List.append_eq_nil_iff.1 hT.symm).2).1
        subst hA'
        have hcl:hel.cells.length=s:=hc hel (List.mem_of_getElem? hb)
        ·have hz:s≠0:=by omega
         have hxl:xs.length=es.length*s:=by rw [hl.length,fD hc]
         have hj:n.toNat*s < xs.length:=by rw [hxl];exact (Nat.mul_lt_mul_right (Nat.pos_of_ne_zero hz)).2 hilt
         obtain ⟨b,AB,rfl,zh,_⟩:=hcell _ _ (List.getElem?_eq_getElem hj)
         have hrange:w.rangeAt b AB xs:=fun j v hj=>by
          obtain ⟨b',o',e',_,hc'⟩:=hcell j v hj
          cases e'
          exact hc'
         have hi:a.eval i=.int k n:=r1.lI
         refine fC (v:=.pointer (some ⟨b,AB+n.toNat*s,none⟩)) (w':=w) ?_ ?_
         ·unfold execOp
          simp only [ho,hx,hi,Sem.run_bind]
          rw [R5 hu hs ha (by omega) w,Addr.add_mid]
          rfl
         ·rw [hdd]
          have:=S1.iL (Calm.refl w) hdN (v:=.pointer (some ⟨b,AB+n.toNat*s,none⟩)) (D:=.v (.pt hel.cells))
           (.v (.pt hseg (fun u hu=>h1 u (List.mem_of_mem_drop (List.mem_of_mem_take hu))) zh (FC hrange _ _)))
          refine hk (g1.put d [] fun _=>False) _ _ ?_ (fun _=>Calm.refl w)
          show aI C _ (e2.st.put d _) _ _
          rw [q2]
          exact this
       ·cases h
      ·rename_i et
       split at h
       ·cases h
       ·rename_i I8
        cases h
        intro hA
        obtain ⟨hA,hb⟩:=All.snoc hA
        obtain ⟨hA,ha⟩:=All.snoc hA
        obtain ⟨h0,kv⟩:=val_ok (C:=C) hv hA
        refine ⟨h0,fun g a w S next Q hk=>?_⟩
        obtain ⟨g1,k1,S1,r1⟩:=kv g a w S
        obtain ⟨T,hpv,hr,hown,_⟩:=ng S1 hp
        obtain ⟨xs,A,hT,hc,hl,h1,how⟩:=nN hr
        have hi:a.eval i=.int k n:=r1.lI
        rcases how.2 with ⟨hv0,hn⟩ | ⟨b,cap,cur,hv0,_,hg,_⟩
        ·omega
        ·refine fC (v:=.pointer (some ⟨b,n.toNat*s,none⟩)) (w':=w) ?_ ?_
         ·unfold execOp
          simp only [ho,hv0,hi,Sem.run_bind]
          rw [R5 hu hs ha hb w,Addr.add_mid,Nat.zero_add]
          rfl
         ·rw [hdd]
          have hkx:(X.pa r s n.toNat 0).kill (di d)=.pa r s n.toNat 0:=by
           rcases X.iQ (di d) (X.pa r s n.toNat 0) with h | h
           ·exact (I8 h).elim
           ·exact h.1
          have:=S1.uu (v:=.pointer (some ⟨b,n.toNat*s,none⟩)) hdN hkx (by simp) ⟨rfl,b,by rw [hpv,hv0];rfl,hown b (by rw [hT,hv0];simp [Value.ownBlock]),by simp⟩ (by simp)
          exact hk (g1.put d [] fun _=>False) _ _ this (fun _=>Calm.refl w)
     ·cases h
    ·cases h
   ·cases h
  ·cases h
 ·cases h
end
end Go.Rf
end
section
namespace Go.Rf
open Go.RowKit
set_option linter.unusedVariables false
set_option linter.unusedSimpArgs false
variable [cO]
def V.one:V→Bool
 | .lit v=>v.oneCell'
 | .row _ _ _=>true
 | .pt _=>true
 | .iface _ _=>true
 | .nil _ _=>true
 | .kb _=>true
 | .gX _ _=>true
 | _=>false
def il:List V→Bool
 | []=>true
 | c :: cs=>match c.one with
  | true=>il cs
  | false=>false
def V.qj:V→Bool
 | .agg cs=>il cs
 | d=>d.one
theorem aS.one {p:bB} {w:World} {v:Value} {d:V} {T:List Nat} (h:aS p w v d T) (h1:d.one=true):v.oneCell'=true:=by
 cases h with
 | lit u=>exact h1
 | own a b c how=>rcases how.2 with ⟨rfl,_⟩ | ⟨_,_,_,rfl,_⟩<;>rfl
 | shared=>rfl
 | pt=>rfl
 | iface=>rfl
 | nil=>rfl
 | kb=>rfl
 | gX=>rfl
 | _=>simp [V.one] at h1
theorem aN.one {p:bB} {w:World}:∀ {vs:List Value} {ds:List V} {T:List Nat},aN p w vs ds T→il ds=true→∀ u∈vs,u.oneCell'=true
 | _,_,_,.nil,_=>by simp
 | _,_,_,.cons (d:=d) h1 h2,h=>by
  simp only [il] at h
  cases hd:d.one with
  | false=>rw [hd] at h;cases h
  | true =>
   rw [hd] at h
   intro u hu
   rcases List.mem_cons.1 hu with rfl | hu
   ·exact h1.one hd
   ·exact h2.one h u hu
theorem cells_one {v:Value} (h:v.oneCell'=true):v.cells = #[v]:=by cases v<;>simp_all [Value.cells,Value.oneCell']
theorem aS.flat {p:bB} {w:World} {v:Value} {d:V} {T:List Nat} (h:aS p w v d T) (hf:d.qj=true):aN p w v.cells.toList d.cells T∧il d.cells=true:=by
 by_cases ha:∃ cs,d=.agg cs
 ·obtain ⟨cs,rfl⟩:=ha
  cases h with
  | agg h=>exact ⟨by simpa [Value.cells,V.cells] using h,hf⟩
 ·have hc:d.cells=[d]:=by
   cases d<;>first | rfl | exact (ha ⟨_,rfl⟩).elim
  have h1:d.one=true:=by
   cases d<;>first | exact hf | exact (ha ⟨_,rfl⟩).elim
  rw [hc,cells_one (h.one h1)]
  refine ⟨?_,by simp [il,h1]⟩
  have:=aN.cons h (aN.nil (p:=p) (w:=w))
  simpa using this
def vB:Value→Value→Bool
 | .int k a,.int k' b=>k == k' && a == b
 | .bool a,.bool b=>a == b
 | .string a,.string b=>a.data.toList == b.data.toList
 | .float k a,.float k' b=>k == k' && a == b
 | .complex k a b,.complex k' c d=>k == k' && a == c && b == d
 | .pointer none,.pointer none=>true
 | .nilFunc,.nilFunc=>true
 | .nilIface,.nilIface=>true
 | .map none,.map none=>true
 | _,_=>false
theorem abd {a b:Value} (h:vB a b=true):a=b:=by
 unfold vB at h
 split at h<;>simp_all
 ·rename_i x y
  cases x;cases y
  simp at h
  congr
theorem aaA {a b:Value} (h:vB a b=true):a.oneCell'=true:=by
 unfold vB at h
 split at h<;>simp_all [Value.oneCell']
def uy:List Value→List V→Bool
 | [],[]=>true
 | v :: vs,d :: ds=>match d with
  | .lit u=>match vB v u with
   | true=>uy vs ds
   | false=>false
  | .nil _ _=>match v with
   | .slice none 0 0=>uy vs ds
   | _=>false
  | _=>false
 | _,_=>false
theorem BG {p:bB} {w:World}:∀ {vs:List Value} {ds:List V},uy vs ds=true→aN p w vs ds []∧il ds=true
 | [],[],_=>⟨.nil,rfl⟩
 | [],_ :: _,h=>by simp [uy] at h
 | _ :: _,[],h=>by simp [uy] at h
 | v :: vs,d :: ds,h=>by
  unfold uy at h
  split at h
  ·rename_i u
   cases he:vB v u with
   | false=>rw [he] at h;cases h
   | true =>
    rw [he] at h
    obtain ⟨h1,h2⟩:=BG (p:=p) (w:=w) h
    have:=aaA he
    have e:=abd he
    subst e
    exact ⟨aN.cons (A:=[]) (B:=[]) (.lit v) h1,by simp [il,V.one,this,h2]⟩
  ·rename_i e sz
   split at h
   ·obtain ⟨h1,h2⟩:=BG (p:=p) (w:=w) h
    exact ⟨aN.cons (A:=[]) (B:=[]) (.nil e sz) h1,by simp [il,V.one,h2]⟩
   ·cases h
  ·cases h
def Yq (f:TypeId→Option (List V)):List Field→Option (List V)
 | []=>some []
 | x :: fs=>match f x.type with
  | some z=>match Yq f fs with
   | some r=>some (z++r)
   | none=>none
  | none=>none
def I9 (P:Program):Nat→TypeId→Option (List V)
 | 0=>fun _=>none
 | n+1=>fun t=>match P.underlying t with
  | some (.struct fs)=>Yq (I9 P n) fs.toList
  | some (.array k e)=>match I9 P n e with
   | some z=>some (List.replicate k z).flatten
   | none=>none
  | some (.slice e)=>match gy P e with
   | some s=>some [.nil e s]
   | none=>none
  | some _=>match P.info? t with
   | some i=>match i.zero with
    | some v=>some [.lit v]
    | none=>none
   | none=>none
  | none=>none
def zeroV (P:Program) (t:TypeId):Option (List V):=match I9 P 12 t with
 | some zs=>match P.info? t with
  | some i=>match i.zero with
   | some z=>match uy z.cells.toList zs with
    | true=>some zs
    | false=>none
   | none=>none
  | none=>none
 | none=>none
theorem xH {P:Program} {t:TypeId} {zs:List V} (h:zeroV P t=some zs):∃ i z,P.info? t=some i∧i.zero=some z∧il zs=true∧∀ (p:bB) (w:World),aN p w z.cells.toList zs []:=by
 unfold zeroV at h
 split at h
 ·rename_i zs' hz
  split at h
  ·rename_i i hi
   split at h
   ·rename_i z hz'
    split at h
    ·rename_i hc
     cases h
     exact ⟨i,z,hi,hz',(BG (p:=fun _=>False) (w:=default) hc).2,fun p w=>(BG hc).1⟩
    ·cases h
   ·cases h
  ·cases h
 ·cases h
def Cm (place:Nat→Option (Nat × Nat)) (cells:List V):List (Nat × V)→Option (List V)
 | []=>some cells
 | (i,v) :: rest=>match place i with
  | none=>none
  | some (off,size)=>match v.qj && Nat.beq v.cells.length size && Nat.ble (off+v.cells.length) cells.length with
   | true=>Cm place (cells.take off++v.cells++cells.drop (off+v.cells.length)) rest
   | false=>none
theorem GA:∀ (l:List Value) (off k:Nat) (cs:Array Value),off+k+l.length≤cs.size →
 ((l.zipIdx k).foldl (fun (cs:Array Value) (x:Value × Nat)=>cs.setIfInBounds (off+x.2) x.1) cs).toList=cs.toList.take (off+k)++l++cs.toList.drop (off+k+l.length)
 | [],off,k,cs,h=>by simp
 | v :: l,off,k,cs,h=>by
  simp only [List.length_cons] at h
  simp only [List.zipIdx_cons,List.foldl_cons]
  rw [GA l off (k+1) (cs.setIfInBounds (off+k) v) (by simp;omega)]
  have e:=list_seg_step cs.toList (off+k) v l (by simp;omega)
  simpa [Array.toList_setIfInBounds,Nat.add_assoc] using e
theorem aN.splice {p:bB} {w:World} {xs:List Value} {cs:List V} {ys:List Value} {ds:List V} (h:aN p w xs cs []) (h':aN p w ys ds []) (off:Nat) :
 aN p w (xs.take off++ys++xs.drop (off+ys.length)) (cs.take off++ds++cs.drop (off+ds.length)) []:=by
 obtain ⟨A,B,hT,h1,_⟩:=h.cut off
 obtain ⟨A',B',hT',_,h2⟩:=h.cut (off+ys.length)
 have e1:=(List.append_eq_nil_iff.1 hT.symm).1
 have e2:=(List.append_eq_nil_iff.1 hT'.symm).2
 subst e1
 subst e2
 have:=(h1.app h').app h2
 rw [← h'.length]
 simpa using this
theorem uU:∀ {a b:List V},il (a++b)=true↔il a=true∧il b=true
 | [],b=>by simp [il]
 | c :: a,b=>by
  simp only [List.cons_append,il]
  cases c.one with
  | true=>exact uU
  | false=>simp
theorem Zv:∀ {a:List V} (n:Nat),il a=true→il (a.take n)=true
 | a,n,h=>by rw [← List.take_append_drop n a,uU] at h;exact h.1
theorem Zw:∀ {a:List V} (n:Nat),il a=true→il (a.drop n)=true
 | a,n,h=>by rw [← List.take_append_drop n a,uU] at h;exact h.2
theorem TL {p:bB} {w:World} {place:Nat→Option (Nat × Nat)}:∀ {ps:List (Nat × V)} {cells:List V} {out:List V} {vs:List Value} {xs:Array Value},
 Cm place cells ps=some out→aN p w vs (ps.map (·.2)) []→aN p w xs.toList cells []→il cells=true →
 ∃ ys,Instr.fill place xs ((ps.map (·.1)).zip vs)=some ys∧aN p w ys.toList out []∧il out=true
 | [],cells,out,vs,xs,h,hv,hx,h1=>by
  cases h
  exact ⟨xs,by simp [Instr.fill],hx,h1⟩
 | (i,v) :: ps,cells,out,vs,xs,h,hv,hx,h1=>by
  unfold Cm at h
  split at h
  ·cases h
  ·rename_i off size hp
   split at h
   ·rename_i hc
    rw [Bool.and_eq_true,Bool.and_eq_true] at hc
    obtain ⟨⟨c1,c2⟩,c3⟩:=hc
    have c2:=Nat.eq_of_beq_eq_true c2
    have c3:=Nat.le_of_ble_eq_true c3
    generalize hT:([]:List Nat)=T at hv
    cases hv with
    | cons r1 r2 =>
     rename_i u us A B
     have e1:=(List.append_eq_nil_iff.1 hT.symm).1
     have e2:=(List.append_eq_nil_iff.1 hT.symm).2
     subst e1
     subst e2
     obtain ⟨r3,r4⟩:=r1.flat c1
     have hl:u.cells.size=v.cells.length:=by rw [← r3.length,Array.length_toList]
     have hxl:xs.size=cells.length:=by rw [← hx.length,Array.length_toList]
     have hsp:=hx.splice r3 off
     have hf:=GA u.cells.toList off 0 xs (by simp;omega)
     simp only [Nat.add_zero,Array.length_toList] at hf
     have af1:aN p w (u.cells.zipIdx.foldl (fun cs (c,j)=>cs.setIfInBounds (off+j) c) xs).toList (cells.take off++v.cells++cells.drop (off+v.cells.length)) []:=by
      have e:(u.cells.zipIdx.foldl (fun cs (c,j)=>cs.setIfInBounds (off+j) c) xs)=((u.cells.toList.zipIdx 0).foldl (fun (cs:Array Value) (x:Value × Nat)=>cs.setIfInBounds (off+x.2) x.1) xs):=by
       rw [← Array.foldl_toList,Array.toList_zipIdx]
      rw [e,hf]
      simpa using hsp
     obtain ⟨ys,g1,g2,g3⟩:=TL (place:=place) h r2 af1 (by rw [uU,uU];exact ⟨⟨Zv _ h1,r4⟩,Zw _ h1⟩)
     refine ⟨ys,?_,g2,g3⟩
     simp only [List.map_cons,List.zip_cons_cons,Instr.fill,hp]
     rw [if_neg]
     ·exact g1
     ·simp;omega
   ·cases h
end Go.Rf
end
section
namespace Go.Rf
open Go.RowKit
set_option linter.unusedVariables false
set_option linter.unusedSimpArgs false
variable [cO]
section
variable {P:Program} {C:Ctx}
theorem bD.xa {o:Oper} {e e1:E} {d:Nat} {x:X} (hd:dN C.N o=some d) (h1:All e1.ob→All e.ob) (hk:x.kill (di d)=x) (hdd:x≠.dead) (hnd:∀ D,x≠.d D)
 (hrun:All e1.ob→∀ g a w,aI C g e.st a w→∃ v g',aI C g' e1.st a w∧(execOp a.eval o).run P w=.ok (.value v) w∧ko g' a w v x []):bD P C o e { e1 with st:=e1.st.put d x }:=by
 intro hA
 obtain ⟨zk,hdN⟩:=fK hd
 refine ⟨h1 hA,fun g a w S next Q hn=>?_⟩
 obtain ⟨v,g',S',hr,hx⟩:=hrun hA g a w S
 refine fC hr ?_
 rw [zk]
 exact hn _ _ _ (S'.uu hdN hk hdd hx hnd) (fun _=>Calm.refl w)
theorem bD.vv {o:Oper} {e e1:E} {d:Nat} {u:V} (hd:dN C.N o=some d) (h1:All e1.ob→All e.ob)
 (hrun:All e1.ob→∀ g a w,aI C g e.st a w→∃ v g',aI C g' e1.st a w∧(execOp a.eval o).run P w=.ok (.value v) w∧aS g'.aM w v u []):bD P C o e (e1.put d u):=by
 intro hA
 obtain ⟨zk,hdN⟩:=fK hd
 refine ⟨h1 hA,fun g a w S next Q hn=>?_⟩
 obtain ⟨v,g',S',hr,hx⟩:=hrun hA g a w S
 refine fC hr ?_
 rw [zk]
 exact hn _ _ _ (S'.iL (Calm.refl w) hdN (.v hx)) (fun _=>Calm.refl w)
def vT (P:Program) (s:TypeId) (f:Nat):Option (Nat × TypeId):=match P.underlying s with
 | some (.struct fs)=>match fs[f]? with
  | some fd=>match gy P fd.type with
   | some (_+1)=>some (fd.offset,fd.type)
   | _=>none
  | none=>none
 | _=>none
theorem R6 {s:TypeId} {f off:Nat} {ft:TypeId} (h:vT P s f=some (off,ft)) (w:World) (b o:Nat):(Instr.fieldAt s (.pointer (some ⟨b,o,none⟩)) f).run P w=.ok (.pointer (some ⟨b,o+off,none⟩)) w:=by
 unfold vT at h
 split at h
 ·rename_i fs hu
  split at h
  ·rename_i fd hf
   split at h
   ·rename_i n hs
    cases h
    unfold gy at hs
    cases hi:P.info? fd.type with
    | none=>rw [hi] at hs;cases hs
    | some i =>
     rw [hi] at hs
     have hs:i.size=n+1:=Option.some.inj hs
     simp only [Instr.fieldAt,Sem.run_bind,run_underlying hu,Result.andThen_ok,hf,Instr.sureAddr,Sem.run_pure,fieldPlace,sizeOf,typeInfo,run_program,hi,hs]
     simp [Addr.add_mid]
   ·cases h
  ·cases h
 ·cases h
def Ht (P:Program) (N:Nat) (o:Oper) (s:TypeId) (x:Operand) (f:Nat) (e:E):Option E :=
 match dN N o with
 | none=>none
 | some d=>match vT P s f with
  | none=>none
  | some (off,_)=>match x with
   | .tmp t=>match look e.st.env t with
    | some (.d (.v (.pt cs)))=>some (e.put d (.pt (cs.drop off)))
    | some (.d (.ptr id o'))=>some { e with st:=e.st.put d (.d (.ptr id (o'+off))) }
    | some (.pa r sz i j)=>match (X.pa r sz i (j+off)).kill (di d) with
     | .dead=>none
     | _=>some { e with st:=e.st.put d (.pa r sz i (j+off)) }
    | _=>none
   | _=>none
theorem ZV {o:Oper} {s:TypeId} {x:Operand} {f:Nat} {e e':E} (ho:o.op=.fieldAddr s x f) (h:Ht P C.N o s x f e=some e'):bD P C o e e':=by
 unfold Ht at h
 split at h
 ·cases h
 rename_i d hd
 split at h
 ·cases h
 rename_i off ft hf
 split at h
 ·rename_i t
  have run:∀ {a:Act} {w:World} {b q:Nat},a.eval (.tmp t)=.pointer (some ⟨b,q,none⟩)→(execOp a.eval o).run P w=.ok (.value (.pointer (some ⟨b,q+off,none⟩))) w:=by
   intro a w b q hx
   unfold execOp
   simp only [ho,hx,Sem.run_bind,R6 hf w b q,Result.andThen_ok,Sem.run_pure]
  split at h
  ·rename_i cs hl
   cases h
   refine bD.vv hd id fun _ g a w S=>?_
   obtain ⟨_,h2,_⟩:=S.env t _ hl
   have h2:=aV.inv h2
   generalize hv:a.tmps.getD t undef=v at h2
   generalize hT:g.TE t=T at h2
   cases h2 with
   | pt r1 r2 r3 r4 =>
    rename_i b q xs
    obtain ⟨A,B,gD,_,r5⟩:=r1.cut off
    have hB:=(List.append_eq_nil_iff.1 gD.symm).2
    subst hB
    refine ⟨_,g,S,run hv,.pt r5 (fun u hu=>r2 u (List.mem_of_mem_drop hu)) r3 fun j u hj=>?_⟩
    rw [List.getElem?_drop] at hj
    have:=r4 _ _ hj
    rwa [show q+off+j=q+(off+j) by omega]
  ·rename_i id o' hl
   cases h
   intro hA
   obtain ⟨hdd,hdN⟩:=fK hd
   refine ⟨hA,fun g a w S next Q hn=>?_⟩
   obtain ⟨_,h2,_⟩:=S.env t _ hl
   generalize hv:a.tmps.getD t undef=v at h2
   generalize hT:g.TE t=T at h2
   cases h2 with
   | ptr hid =>
    refine fC (run hv) ?_
    rw [hdd]
    exact hn _ _ _ (S.iL (Calm.refl w) hdN (.ptr hid)) (fun _=>Calm.refl w)
  ·rename_i r sz i j hl
   split at h
   ·cases h
   ·rename_i I8
    cases h
    have hkx:(X.pa r sz i (j+off)).kill (di d)=.pa r sz i (j+off):=by
     rcases X.iQ (di d) (X.pa r sz i (j+off)) with h | h
     ·exact (I8 h).elim
     ·exact h.1
    refine bD.xa hd id hkx (by simp) (by simp) fun _ g a w S=>?_
    obtain ⟨_,⟨_,b,h3,h4,h5⟩,_⟩:=S.env t _ hl
    exact ⟨_,g,S,run h5,rfl,b,h3,h4,by rw [Nat.add_assoc]⟩
  ·cases h
 ·cases h
def IB (P:Program) (N:Nat) (o:Oper) (t:TypeId) (x:Operand) (e:E):Option E :=
 match dN N o with
 | none=>none
 | some d=>match x with
  | .tmp s=>match look e.st.env s with
   | some (.d (.v (.pt cs)))=>match lJ P t cs with
    | some u=>some (e.put d u)
    | none=>none
   | some (.pa r sz i j)=>match iT e.st r with
    | some (.row (some _) je es)=>match Nat.beq sz je with
     | true=>match hint e with
      | some (h,e)=>match lJ P t (h.cells.drop j) with
       | some u=>match u.bM with
        | true=>some ((need (es[i]? = some h) e).put d u)
        | false=>match u,(X.al (.jf r sz i j)).kill (di d) with
         | .row _ _ _,.al _=>some { (need (es[i]? = some h) e) with st:=e.st.put d (.al (.jf r sz i j)) }
         | _,_=>none
       | none=>none
      | none=>none
     | false=>none
    | _=>none
   | _=>none
  | _=>none
theorem aaB {o:Oper} {t:TypeId} {x:Operand} {e e':E} (ho:o.op=.load t x) (h:IB P C.N o t x e=some e'):bD P C o e e':=by
 unfold IB at h
 split at h
 ·cases h
 rename_i d hd
 split at h
 ·rename_i s
  split at h
  ·rename_i cs hl
   split at h
   ·rename_i u hp
    cases h
    refine bD.vv hd id fun _ g a w S=>?_
    obtain ⟨_,h2,_⟩:=S.env s _ hl
    have h2:=aV.inv h2
    generalize hv:a.tmps.getD s undef=v at h2
    generalize hT:g.TE s=T at h2
    cases h2 with
    | pt r1 r2 r3 r4 =>
     rename_i b q xs
     obtain ⟨v,A,B,hr,gD,hR⟩:=TK (P:=P) (t:=t) (b:=b) (o:=q) (xs:=xs) (fun j u hj=>r4 j u hj) r1 hp
     have hA:=(List.append_eq_nil_iff.1 gD.symm).1
     subst hA
     refine ⟨v,g,S,?_,hR⟩
     unfold execOp
     simp only [ho,Act.eval,hv,Sem.run_bind,hr,Result.andThen_ok,Sem.run_pure]
   ·cases h
  ·rename_i r sz i j hl
   split at h
   ·rename_i et je es AJ
    split at h
    ·rename_i hb
     have hb:=Nat.eq_of_beq_eq_true hb
     subst hb
     split at h
     ·rename_i hel e1 hh
      obtain ⟨q1,q2⟩:=ik hh
      split at h
      ·rename_i u hp
       have main:∀ g a w,aI C g e.st a w→es[i]? = some hel→∃ v A b,(execOp a.eval o).run P w=.ok (.value v) w∧aS g.aM w v u A∧(dY g a w r).bind Value.ownBlock=some b∧g.own b=some r.holder∧(u.one=true→w.cell? ⟨b,i*sz+j,none⟩=some v):=by
        intro g a w S af2
        obtain ⟨_,⟨_,b,h3,h4,h5⟩,_⟩:=S.env s _ hl
        obtain ⟨rv,T,hpv,hr,hown,_⟩:=uZ S AJ
        obtain ⟨xs,A,hT,hc,hl',h1,how⟩:=nN hr
        obtain ⟨T1,A1,T2,hT',hseg⟩:=aN.elem hc hl' af2
        obtain ⟨A2,B2,hA2,_,vC⟩:=hseg.cut j
        rw [hpv] at h3
        simp only [Option.bind_some] at h3
        have how':=how
        rcases how.2 with ⟨hv0,hn⟩ | ⟨b',cap,cur,hv0,_,hg,_⟩
        ·rw [hv0] at h3;simp [Value.ownBlock] at h3
        ·rw [hv0] at h3
         simp only [Value.ownBlock,Option.some.injEq] at h3
         subst h3
         subst hv0
         have hrange:w.rangeAt b' 0 xs:=fun k v hk=>by
          have hk':k < es.length*sz:=by
           rw [← how.1]
           rcases Nat.lt_or_ge k xs.length with h | h
           ·exact h
           ·rw [List.getElem?_eq_none h] at hk;cases hk
          rw [Nat.zero_add,how'.cellAt k hk',hk]
         have xN:w.rangeAt b' (i*sz+j) (((xs.drop (i*sz)).take sz).drop j):=by
          have h0:=FC hrange (i*sz) sz
          intro k v hk
          rw [List.getElem?_drop] at hk
          have:=h0 _ _ hk
          rwa [show 0+i*sz+(j+k)=i*sz+j+k by omega] at this
         obtain ⟨v,A3,B3,hrun,_,hR⟩:=TK (P:=P) xN vC hp
         refine ⟨v,A3,b',?_,hR,by rw [hpv];rfl,h4,fun hone=>?_⟩
         ·unfold execOp
          simp only [ho,Act.eval,h5,Sem.run_bind,hrun,Result.andThen_ok,Sem.run_pure]
         ·unfold lJ at hp
          split at hp
          ·split at hp
           ·split at hp
            ·cases hp;simp [V.one] at hone
            ·cases hp
           ·cases hp
          ·rename_i ht
           split at hp
           ·rename_i c cs' hcs
            split at hp
            ·cases hp
            ·cases hp
             rw [hcs] at vC
             generalize hxx:((xs.drop (i*sz)).take sz).drop j=ys at vC xN
             cases vC with
             | @cons v' _ vs' _ A4 B4 p1 p2 =>
              have hc0:=xN 0 v' rfl
              simp only [Nat.add_zero] at hc0
              rw [hc0]
              have hg:=qf ht w
              simp only [Instr.loadAt,Instr.sureAddr,loadVar,Sem.run_bind,Sem.run_pure,Result.andThen_ok,hg,Bool.false_eq_true,if_false,run_load,hc0] at hrun
              cases hrun
              rfl
           ·cases hp
          ·cases hp
       split at h
       ·rename_i hno
        cases h
        intro hA
        obtain ⟨hA,ha⟩:=All.snoc (l:=e1.ob) hA
        obtain ⟨hdd,hdN⟩:=fK hd
        refine ⟨q1 ▸ hA,fun g a w S next Q hn=>?_⟩
        obtain ⟨v,A,b,hr,hR,_⟩:=main g a w S ha
        have:=hR.bM hno
        subst this
        refine fC hr ?_
        rw [hdd]
        refine hn (g.put d [] fun _=>False) _ _ ?_ (fun _=>Calm.refl w)
        show aI C _ (e1.st.put d _) _ _
        rw [q2]
        exact S.iL (Calm.refl w) hdN (.v hR)
       ·split at h
        ·rename_i rw1 rw2 rw3 p hkk
         cases h
         intro hA
         obtain ⟨hA,ha⟩:=All.snoc (l:=e1.ob) hA
         obtain ⟨hdd,hdN⟩:=fK hd
         refine ⟨q1 ▸ hA,fun g a w S next Q hn=>?_⟩
         obtain ⟨v,A,b,hr,hR,hpv,hown,hcell⟩:=main g a w S ha
         refine fC hr ?_
         rw [hdd]
         have hkx:(X.al (.jf r sz i j)).kill (di d)=.al (.jf r sz i j):=by
          rcases X.iQ (di d) (X.al (.jf r sz i j)) with h | h
          ·rw [h] at p;cases p
          ·exact h.1
         refine hn (g.put d [] fun _=>False) _ _ ?_ (fun _=>Calm.refl w)
         show aI C _ (e1.st.put d _) _ _
         rw [q2]
         refine S.uu hdN hkx (by simp) ⟨rfl,?_⟩ (by simp)
         simp only [pv]
         rw [hpv]
         simp only
         rw [if_pos hown]
         exact hcell rfl
        ·cases h
      ·cases h
     ·cases h
    ·cases h
   ·cases h
  ·cases h
 ·cases h
end
end Go.Rf
end
section
namespace Go.Rf
open Go.RowKit
set_option linter.unusedVariables false
set_option linter.unusedSimpArgs false
variable [cO]
section
variable {P:Program} {C:Ctx}
theorem aN.cons_inv {p:bB} {w:World} {vs:List Value} {d:V} {ds:List V} (h:aN p w vs (d :: ds) []):∃ v us,vs=v :: us∧aS p w v d []∧aN p w us ds []:=by
 generalize hT:([]:List Nat)=T at h
 cases h with
 | @cons v _ us _ A B h1 h2 =>
  have hA:=(List.append_eq_nil_iff.1 hT.symm).1
  have hB:=(List.append_eq_nil_iff.1 hT.symm).2
  subst hA
  subst hB
  exact ⟨v,us,rfl,h1,h2⟩
theorem aS.tC {p:bB} {w:World} {v:Value} {cs:List V} {T:List Nat} (h:aS p w v (.agg cs) T):∃ xs:List Value,v=.agg xs.toArray∧aN p w xs cs T:=by
 cases h with | agg h=>exact ⟨_,rfl,h⟩
theorem aS.Uz {p:bB} {w:World} {v:Value} {cs:List V} {T:List Nat} (h:aS p w v (.aC cs) T):∃ xs:List Value,v=.tuple xs.toArray∧aN p w xs cs T:=by
 cases h with | aC h=>exact ⟨_,rfl,h⟩
def Hu (P:Program) (N:Nat) (o:Oper) (t:TypeId) (x:Operand) (f:Nat) (e:E):Option E :=
 match dN N o with
 | none=>none
 | some d=>match vT P t f with
  | none=>none
  | some (off,ft)=>match val x e with
   | some (.agg cs,e)=>match lJ P ft (cs.drop off) with
    | some u=>some (e.put d u)
    | none=>none
   | _=>none
theorem GD {p:bB} {w:World} {t:TypeId} {xs:List Value} {cs:List V} {u:V} {off:Nat} (h:aN p w xs cs []) (hp:lJ P t (cs.drop off)=some u):∃ v,(part t xs.toArray off).run P w=.ok v w∧aS p w v u []:=by
 obtain ⟨A,B,hT,_,h2⟩:=h.cut off
 have hB:=(List.append_eq_nil_iff.1 hT.symm).2
 subst hB
 unfold lJ at hp
 split at hp
 ·rename_i ht
  split at hp
  ·rename_i n hn
   split at hp
   ·rename_i hle
    cases hp
    obtain ⟨A,B,hT,h3,_⟩:=h2.cut n
    have hA:=(List.append_eq_nil_iff.1 hT.symm).1
    subst hA
    have hg:=qf ht w
    unfold gy at hn
    cases hi:P.info? t with
    | none=>rw [hi] at hn;cases hn
    | some i =>
     rw [hi] at hn
     cases hn
     refine ⟨.agg ((xs.drop off).take i.size).toArray,?_,.agg h3⟩
     simp only [part,Sem.run_bind,hg,Result.andThen_ok,if_true,sizeOf,typeInfo,run_program,hi,Sem.run_pure]
     congr 2
     apply Array.ext'
     simp [List.extract_eq_take_drop]
   ·cases hp
  ·cases hp
 ·rename_i ht
  split at hp
  ·rename_i c cs' hcs
   split at hp
   ·cases hp
   ·cases hp
    rw [hcs] at h2
    obtain ⟨v,vs,hys,p1,_⟩:=h2.cons_inv
    refine ⟨v,?_,p1⟩
    have hg:=qf ht w
    have hx:xs[off]? = some v:=by
     have:=congrArg (fun l=>l[0]?) hys
     simpa [List.getElem?_drop] using this
    simp [part,Sem.run_bind,hg,hx]
  ·cases hp
 ·cases hp
theorem ZW {o:Oper} {t:TypeId} {x:Operand} {f:Nat} {e e':E} (ho:o.op=.field t x f) (h:Hu P C.N o t x f e=some e'):bD P C o e e':=by
 unfold Hu at h
 split at h
 ·cases h
 rename_i d hd
 split at h
 ·cases h
 rename_i off ft hf
 split at h
 ·rename_i cs e1 hv
  split at h
  ·rename_i u hp
   cases h
   refine bD.su (xs:=[x]) (us:=[.agg cs]) (e1:=e1) hd (by simp [vals,hv]) rfl id fun _ ρ w p r=>?_
   ·obtain ⟨v,vs,hvs,r1,_⟩:=r.cons_inv
    have hx:ρ x=v:=(List.cons.inj hvs).1
    ·obtain ⟨xs,rfl,r2⟩:=r1.tC
     clear r1
     have r1:=r2
     obtain ⟨v,hr,hR⟩:=GD (P:=P) r1 hp
     refine ⟨v,?_,hR⟩
     unfold vT at hf
     split at hf
     ·rename_i fs hu
      split at hf
      ·rename_i fd hfd
       split at hf
       ·cases hf
        unfold execOp
        simp only [ho,hx,Instr.field,Sem.run_bind,run_underlying hu,Result.andThen_ok,hfd,asAgg,Sem.run_pure,hr]
       ·cases hf
      ·cases hf
     ·cases hf
  ·cases h
 ·cases h
def F8 (N:Nat) (o:Oper) (x:Operand) (i:Nat) (e:E):Option E :=
 match dN N o with
 | none=>none
 | some d=>match val x e with
  | some (.aC us,e)=>match us[i]? with
   | some u=>some (e.put d u)
   | none=>none
  | _=>none
theorem aN.get {p:bB} {w:World}:∀ {vs:List Value} {ds:List V} {T:List Nat} {c:Nat} {d:V},aN p w vs ds T→ds[c]? = some d→∃ v A,vs[c]? = some v∧aS p w v d A∧(∀ b∈A,b∈T)
 | _,_,_,_,_,.nil,h=>by simp at h
 | _,_,_,0,d,.cons (A:=A) (B:=B) h1 h2,h=>by
  simp only [List.getElem?_cons_zero,Option.some.injEq] at h
  subst h
  exact ⟨_,A,rfl,h1,fun b hb=>List.mem_append_left _ hb⟩
 | _,_,_,c+1,d,.cons (A:=A) (B:=B) h1 h2,h=>by
  simp only [List.getElem?_cons_succ] at h
  obtain ⟨v,Tc,e1,e2,e3⟩:=h2.get h
  exact ⟨v,Tc,by simpa using e1,e2,fun b hb=>List.mem_append_right _ (e3 b hb)⟩
theorem Zh {o:Oper} {x:Operand} {i:Nat} {e e':E} (ho:o.op=.extract x i) (h:F8 C.N o x i e=some e'):bD P C o e e':=by
 unfold F8 at h
 split at h
 ·cases h
 rename_i d hd
 split at h
 ·rename_i us e1 hv
  split at h
  ·rename_i u hp
   cases h
   refine bD.su (xs:=[x]) (us:=[.aC us]) (e1:=e1) hd (by simp [vals,hv]) rfl id fun _ ρ w p r=>?_
   ·obtain ⟨v,vs,hvs,r1,_⟩:=r.cons_inv
    have hx:ρ x=v:=(List.cons.inj hvs).1
    ·obtain ⟨xs,rfl,r2⟩:=r1.Uz
     clear r1
     have r1:=r2
     obtain ⟨v,A,h1,h2,h3⟩:=r1.get hp
     have hA:A=[]:=List.eq_nil_iff_forall_not_mem.2 fun b hb=>by cases h3 b hb
     subst hA
     refine ⟨v,?_,h2⟩
     unfold execOp
     simp only [ho,hx,Instr.extract,List.getElem?_toArray,h1,Sem.run_bind,Sem.run_pure,Result.andThen_ok]
  ·cases h
 ·cases h
def Vb (P:Program) (t:TypeId):Option (Nat→Option (Nat × Nat)):=match P.underlying t with
 | some (.array _ e)=>match P.info? e with
  | some ie=>some fun i=>some (i*ie.size,ie.size)
  | none=>none
 | some (.struct fields)=>match fields.toList.mapM (fun f=>(P.info? f.type).map fun i=>(f.offset,i.size)) with
  | some places=>some (places.toArray[·]?)
  | none=>none
 | _=>none
def Hw (P:Program) (N:Nat) (o:Oper) (t:TypeId) (parts:List (Nat × Operand)) (e:E):Option E :=
 match dN N o with
 | none=>none
 | some d=>match zeroV P t,Vb P t with
  | some z,some pl=>match vals (parts.map (·.2)) e with
   | some (us,e)=>match Cm pl z ((parts.map (·.1)).zip us) with
    | some cs=>some (e.put d (.agg cs))
    | none=>none
   | none=>none
  | _,_=>none
theorem FD:∀ {xs:List Operand} {e e':E} {us:List V},vals xs e=some (us,e')→us.length=xs.length
 | [],_,_,_,h=>by cases h;rfl
 | x :: xs,e,e',us,h=>by
  simp only [vals] at h
  split at h
  ·cases h
  ·split at h
   ·cases h
   ·rename_i h2
    cases h
    simp [FD h2]
theorem ZX {o:Oper} {t:TypeId} {parts:Array (Nat × Operand)} {e e':E} (ho:o.op=.build t parts) (h:Hw P C.N o t parts.toList e=some e'):bD P C o e e':=by
 unfold Hw at h
 split at h
 ·cases h
 rename_i d hd
 split at h
 ·rename_i z pl hz hpl
  split at h
  ·rename_i us e1 hv
   split at h
   ·rename_i cs hf
    cases h
    refine bD.su hd hv rfl id fun _ ρ w p r=>?_
    obtain ⟨it,zv,hit,hzv,h1,wZ⟩:=xH hz
    have hlen:=FD hv
    have e2:(((parts.toList.map (·.1)).zip us).map (·.2))=us:=by
     rw [List.map_snd_zip];simp [hlen]
    have e3:(((parts.toList.map (·.1)).zip us).map (·.1))=parts.toList.map (·.1):=by
     rw [List.map_fst_zip];simp [hlen]
    obtain ⟨ys,g1,g2,g3⟩:=TL (p:=p) (w:=w) (xs:=zv.cells) hf (by rw [e2];exact r) (wZ p w) h1
    rw [e3] at g1
    refine ⟨.agg ys,?_,by simpa using aS.agg g2⟩
    have hb:P.built t (parts.map fun (i,x)=>(i,ρ x)).toList=some ys:=by
     have e4:(parts.map fun (i,x)=>(i,ρ x)).toList=(parts.toList.map (·.1)).zip ((parts.toList.map (·.2)).map ρ):=by
      rw [Array.toList_map]
      generalize parts.toList=l
      induction l with
      | nil=>rfl
      | cons a l ih=>simp [ih]
     rw [e4]
     unfold Vb at hpl
     unfold Program.built
     rw [hit]
     split at hpl
     ·rename_i n el hu
      rw [hu]
      simp only [hzv]
      split at hpl
      ·rename_i ie hie
       cases hpl
       rw [hie]
       exact g1
      ·cases hpl
     ·rename_i fs hu
      rw [hu]
      simp only [hzv]
      split at hpl
      ·rename_i places hpp
       cases hpl
       rw [hpp]
       exact g1
      ·cases hpl
     ·cases hpl
    unfold execOp
    simp only [ho,Sem.run_bind,run_build w t _ ys hb,Result.andThen_ok,Sem.run_pure]
   ·cases h
  ·cases h
 ·cases h
end
end Go.Rf
end
section
namespace Go.Rf
open Go.RowKit
set_option linter.unusedVariables false
set_option linter.unusedSimpArgs false
variable [cO]
section
variable {P:Program} {C:Ctx}
theorem bD.new {o:Oper} {xs:List Operand} {e e1 e':E} {us:List V} {u:V} {d:Nat} (hd:dN C.N o=some d) (hv:vals xs e=some (us,e1))
 (h':e'.st=e1.st.put d (.d (.v u))) (bT:All e'.ob→All e1.ob)
 (hrun:All e'.ob→∀ (ρ:Operand→Value) (w:World) (p:bB),(∀ b,p b→b < w.heap.size)→aN p w (xs.map ρ) us []→∃ v w' T,(execOp ρ o).run P w=.ok (.value v) w'∧Calm w w'∧aS p w' v u T∧T.Nodup∧∀ b∈T,w.heap.size≤b∧b < w'.heap.size):bD P C o e e':=by
 intro hA
 obtain ⟨hdd,hdN⟩:=fK hd
 obtain ⟨h0,k⟩:=nM (C:=C) hv (bT hA)
 refine ⟨h0,fun g a w S next Q hn=>?_⟩
 obtain ⟨g1,kk,S1,r⟩:=k g a w S
 obtain ⟨v,w',T,hr,hc,hR,hT,lV⟩:=hrun hA a.eval w g1.aM S1.dJ r
 refine fC hr ?_
 have:=S1.put (d:=d) (v:=v) (x:=.d (.v u)) (T:=T) (p:=fun _=>False) hc hdN (fun _ h=>h.elim) hT (fun b hb=>⟨(lV b hb).1,(lV b hb).2,fun h=>h⟩) (.v (hR.keep ⟨fun b hb=>.inl hb,fun _ _=>rfl⟩ (fun _ _=>rfl)))
 rw [hdd]
 refine hn (g1.put d T fun _=>False) _ _ ?_ (fun _=>hc)
 rw [h']
 exact this
theorem GG {size:Nat}:∀ (vs:List Value) (k:Nat) (xs:Array Value),(∀ v∈vs,v.cells.size=size)→(k+vs.length)*size≤xs.size →
 ∃ ys,Instr.fill (fun i=>some (i*size,size)) xs ((List.range' k vs.length).zip vs)=some ys∧ys.toList=xs.toList.take (k*size)++vs.flatMap (fun v=>v.cells.toList)++xs.toList.drop ((k+vs.length)*size)
 | [],k,xs,_,_=>⟨xs,by simp [Instr.fill],by simp⟩
 | v :: vs,k,xs,h,hl=>by
  have hv:=h v (by simp)
  simp only [List.length_cons] at hl
  have hk:k*size+size≤xs.size:=by
   have:(k+1)*size≤(k+(vs.length+1))*size:=Nat.mul_le_mul_right _ (by omega)
   rw [Nat.add_mul,Nat.one_mul] at this
   omega
  have hf:=GA v.cells.toList (k*size) 0 xs (by simp;omega)
  simp only [Nat.add_zero,Array.length_toList,hv] at hf
  have e:(v.cells.zipIdx.foldl (fun cs (c,j)=>cs.setIfInBounds (k*size+j) c) xs)=((v.cells.toList.zipIdx 0).foldl (fun (cs:Array Value) (x:Value × Nat)=>cs.setIfInBounds (k*size+x.2) x.1) xs):=by
   rw [← Array.foldl_toList,Array.toList_zipIdx]
  generalize hz:(v.cells.zipIdx.foldl (fun cs (c,j)=>cs.setIfInBounds (k*size+j) c) xs)=zs at e
  rw [← e] at hf
  have hzl:zs.size=xs.size:=by
   rw [← Array.length_toList,hf]
   simp [hv]
   omega
  obtain ⟨ys,g1,g2⟩:=GG vs (k+1) zs (fun v hv=>h v (by simp [hv])) (by rw [hzl,show k+1+vs.length=k+(vs.length+1) by omega];exact hl)
  refine ⟨ys,?_,?_⟩
  ·simp only [List.length_cons,List.range'_succ,List.zip_cons_cons,Instr.fill]
   rw [if_neg (by simp [hv];omega)]
   simp only at hz ⊢
   rw [hz]
   exact g1
  ·rw [g2,hf]
   have e1:(k+1)*size=k*size+size:=by rw [Nat.add_mul,Nat.one_mul]
   have e2:(k+1+vs.length)*size=k*size+size+vs.length*size:=by rw [Nat.add_mul,e1]
   have e3:(k+(v :: vs).length)*size=k*size+size+vs.length*size:=by simp only [List.length_cons,Nat.add_mul,Nat.one_mul];omega
   have hlt:(xs.toList.take (k*size)).length=k*size:=by simp;omega
   rw [e1,e2,e3]
   simp only [List.flatMap_cons]
   have t1:(xs.toList.take (k*size)++v.cells.toList++xs.toList.drop (k*size+size)).take (k*size+size)=xs.toList.take (k*size)++v.cells.toList:=by
    have:(xs.toList.take (k*size)++v.cells.toList).length=k*size+size:=by rw [List.length_append,hlt,Array.length_toList,hv]
    rw [← this,List.take_left]
   have t2:(xs.toList.take (k*size)++v.cells.toList++xs.toList.drop (k*size+size)).drop (k*size+size+vs.length*size)=xs.toList.drop (k*size+size+vs.length*size):=by
    have:(xs.toList.take (k*size)++v.cells.toList).length=k*size+size:=by rw [List.length_append,hlt,Array.length_toList,hv]
    rw [List.drop_append,this,List.drop_of_length_le (by omega),List.nil_append,List.drop_drop]
    congr 1
    omega
   rw [t1,t2]
   simp
def xO (sz:Nat):List V→Bool
 | []=>true
 | u :: us=>match u.qj && Nat.beq u.cells.length sz with
  | true=>xO sz us
  | false=>false
theorem Sg {p:bB} {w:World} {sz:Nat}:∀ {us:List V} {vs:List Value},xO sz us=true→aN p w vs us []→(∀ u∈us,u.cells.length=sz)∧(∀ v∈vs,v.cells.size=sz)∧aN p w (vs.flatMap fun v=>v.cells.toList) (us.flatMap V.cells) []∧∀ x∈(vs.flatMap fun v=>v.cells.toList),x.oneCell'=true
 | [],vs,_,r=>by
  have hl:vs=[]:=List.eq_nil_of_length_eq_zero (by simpa using r.length)
  subst hl
  exact ⟨by simp,by simp,.nil,by simp⟩
 | u :: us,vs,h,r=>by
  unfold xO at h
  split at h
  ·rename_i hc
   rw [Bool.and_eq_true] at hc
   have c2:=Nat.eq_of_beq_eq_true hc.2
   obtain ⟨v,ws,rfl,r1,r2⟩:=r.cons_inv
   obtain ⟨r3,r4⟩:=r1.flat hc.1
   obtain ⟨h1,h2,h3,h4⟩:=Sg h r2
   have hvs:v.cells.size=sz:=by rw [← Array.length_toList,r3.length,c2]
   refine ⟨?_,?_,?_,?_⟩
   ·intro x hx;rcases List.mem_cons.1 hx with rfl | hx;exact c2;exact h1 x hx
   ·intro x hx;rcases List.mem_cons.1 hx with rfl | hx;exact hvs;exact h2 x hx
   ·have:=r3.app h3;simpa using this
   ·intro x hx
    simp only [List.flatMap_cons,List.mem_append] at hx
    rcases hx with hx | hx
    ·exact r3.one r4 x hx
    ·exact h4 x hx
  ·cases h
def idxs:Nat→List Nat→Bool
 | _,[]=>true
 | k,i :: is=>match Nat.beq i k with
  | true=>idxs (k+1) is
  | false=>false
theorem UA:∀ {l:List Nat} {k:Nat},idxs k l=true→l=List.range' k l.length
 | [],_,_=>by simp
 | i :: is,k,h=>by
  unfold idxs at h
  split at h
  ·rename_i hi
   have:=Nat.eq_of_beq_eq_true hi
   subst this
   simp only [List.length_cons,List.range'_succ]
   rw [← UA h]
  ·cases h
def GH (P:Program) (N:Nat) (o:Oper) (t:TypeId) (len:Nat) (parts:List (Nat × Operand)) (e:E):Option E :=
 match dN N o with
 | none=>none
 | some d=>match P.underlying t with
  | some (.slice el)=>match gy P el,zeroV P el with
   | some sz,some _=>match vals (parts.map (·.2)) e with
    | some (us,e)=>match xO sz us && idxs 0 (parts.map (·.1)) && Nat.beq parts.length len && Nat.ble (len*sz) 16777216 && Nat.ble len maxLen with
     | true=>some (e.put d (.row (some el) sz us))
     | false=>none
    | none=>none
   | _,_=>none
  | _=>none
theorem Zx {o:Oper} {t:TypeId} {len:Nat} {parts:Array (Nat × Operand)} {e e':E} (ho:o.op=.buildSlice t len parts) (h:GH P C.N o t len parts.toList e=some e'):bD P C o e e':=by
 unfold GH at h
 split at h
 ·cases h
 rename_i d hd
 split at h
 ·rename_i el hu
  split at h
  ·rename_i sz zs hs hz
   split at h
   ·rename_i us e1 hv
    split at h
    ·rename_i hc
     cases h
     simp only [Bool.and_eq_true] at hc
     obtain ⟨⟨⟨⟨c1,c2⟩,c3⟩,c4⟩,c5⟩:=hc
     have c3:=Nat.eq_of_beq_eq_true c3
     have c4:=Nat.le_of_ble_eq_true c4
     have c5:=Nat.le_of_ble_eq_true c5
     refine bD.new hd hv rfl id fun _ ρ w p hp r=>?_
     obtain ⟨h1,h2,h3,h4⟩:=Sg c1 r
     have hlen:=FD hv
     obtain ⟨it,zv,hit,hzv,_,wZ⟩:=xH hz
     unfold gy at hs
     rw [hit] at hs
     have hs:it.size=sz:=Option.some.inj hs
     have hvl:((parts.toList.map (·.2)).map ρ).length=len:=by simp;rw [← c3];simp
     let z0:Array Value:=if len*sz=0 then #[] else zv.cells
     let xs:Array Value:=(Array.range (len*sz)).map (z0[· % z0.size]!)
     have hxs:xs.size=len*sz:=by simp [xs]
     obtain ⟨ys,g1,g2⟩:=GG (size:=sz) ((parts.toList.map (·.2)).map ρ) 0 xs h2 (by rw [hvl,hxs,Nat.zero_add];exact Nat.le_refl _)
     have e0:parts.toList.map (·.1)=List.range' 0 ((parts.toList.map (·.2)).map ρ).length:=by
      have:=UA c2
      rw [this];congr 1;simp
     have hys:ys.toList=((parts.toList.map (·.2)).map ρ).flatMap fun v=>v.cells.toList:=by
      rw [g2]
      simp only [Nat.zero_mul,List.take_zero,List.nil_append,Nat.zero_add,hvl]
      rw [List.drop_of_length_le (by rw [Array.length_toList,hxs];exact Nat.le_refl _),List.append_nil]
     have hyl:ys.size=us.length*sz:=by
      rw [← Array.length_toList,hys,h3.length,fD h1]
     have QR:us.length=len:=by rw [hlen];simp;rw [← c3];simp
     refine ⟨.slice (some ⟨w.heap.size,0,none⟩) len len,w.alloc (.cells ys el),[w.heap.size],?_,Calm.of (World.grownBy_alloc w _ none),?_,by simp,?_⟩
     ·have hb:(Instr.buildSlice t len (parts.map fun (i,x)=>(i,ρ x))).run P w=.ok (.slice (some ⟨w.heap.size,0,none⟩) len len) (w.alloc (.cells ys el)):=by
       have e4:(parts.map fun (i,x)=>(i,ρ x)).toList=(parts.toList.map (·.1)).zip ((parts.toList.map (·.2)).map ρ):=by
        rw [Array.toList_map]
        generalize parts.toList=l
        induction l with
        | nil=>rfl
        | cons a l ih=>simp [ih]
       rw [e0] at e4
       by_cases hzero:len*sz=0
       ·have hz0:z0 = #[]:=by simp [z0,hzero]
        simp only [xs,hz0] at g1
        simp only [Instr.buildSlice,Sem.run_bind,run_underlying hu,Result.andThen_ok,sizeOf,typeInfo,run_program,hit,Sem.run_pure,hs]
        rw [if_neg (by omega),if_pos hzero]
        simp only [Sem.run_pure,Result.andThen_ok,e4,g1,newRow,Sem.run_bind,run_newObj,World.alloc_eq]
       ·have hz0:z0=zv.cells:=by simp only [z0];rw [if_neg hzero]
        simp only [xs,hz0] at g1
        simp only [Instr.buildSlice,Sem.run_bind,run_underlying hu,Result.andThen_ok,sizeOf,typeInfo,run_program,hit,Sem.run_pure,hs]
        rw [if_neg (by omega),if_neg hzero]
        simp only [Sem.run_bind,zeroValue,typeInfo,run_program,hit,hzv,Sem.run_pure,Result.andThen_ok,e4,g1,newRow,run_newObj,World.alloc_eq]
      unfold execOp
      simp only [ho,Sem.run_bind,hb,Result.andThen_ok,Sem.run_pure]
     ·have how:=World.ownsRow_lit (base:=0) (e:=el) (size:=sz) w ys len (Nat.zero_le _) c5 (by rw [hyl,QR])
      have:=aS.own (p:=p) (w:=w.alloc (.cells ys el)) (A:=[]) (v:=.slice (some ⟨w.heap.size,0,none⟩) len len) h1 ((hys ▸ h3).keep ⟨fun _ h=>h,fun b hb=>(Calm.of (World.grownBy_alloc w (.cells ys el) none)).same b (hp b hb)⟩ (fun _ h=>by cases h)) (by rw [hys];exact h4) (by rw [QR];exact how)
      simpa [Value.ownBlock] using this
     ·intro b hb
      simp only [List.mem_singleton] at hb
      subst hb
      simp
    ·cases h
   ·cases h
  ·cases h
 ·cases h
end
end Go.Rf
end
section
namespace Go.Rf
open Go.RowKit
set_option linter.unusedVariables false
set_option linter.unusedSimpArgs false
variable [cO]
section
variable {P:Program}
structure Src (P:Program) (tx:TypeId) (size m:Nat) (news:List Value) (x:Value) (w:World):Prop where
 len:(Builtin.lenOf x).run P w=.ok m w
 cells:(Builtin.firstCells size m x).run P w=.ok news.toArray w
 cells':(Builtin.firstCells size m x).run P w.drew=.ok news.toArray w.drew
 num:news.length=m*size
 one:∀ u∈news,u.oneCell'=true
 ty:∃ dx,P.underlying tx=some dx∧∀ k,dx≠.int k
theorem xx (w:World) (t tx ty e:TypeId) (i:TypeInfo) (z:Value) (size bytes:Nat) (ht:P.underlying t=some (.slice e)) (hi:P.info? e=some i) (hz:i.zero=some z)
 (hsize:i.size=size) (hby:i.bytes=bytes) (hzs:z.cells.size=size) (v:Value) (n:Nat) (xs:List Value) (hown:w.ownsRow 0 e size v n xs)
 (x:Value) (m:Nat) (news:List Value) (S:Src P tx size m news x w) (h63:n+m≤maxLen) (hbytes:(n+m)*bytes≤140737488355328) :
 ∃ v' w',(Builtin.append_ #[t,tx] ty #[v,x]).run P w=.ok v' w'∧w'.ownsRow 0 e size v' (n+m) (xs++news)∧w.grownBy w' v.ownBlock∧(∀ b,v'.ownBlock=some b→(v.ownBlock=some b∨b=w.heap.size)∧b < w'.heap.size):=by
 subst hsize
 subst hby
 obtain ⟨dx,QS,ad1⟩:=S.ty
 have IC:(match dx with | .int _=>true | _=>false)=false:=by
  cases dx<;>first | rfl | exact ((ad1 _) rfl).elim
 have hlen:(xs++news).length=(n+m)*i.size:=by rw [List.length_append,hown.1,S.num,Nat.add_mul]
 have hsmall:n+m≤9223372036854775807:=by simp only [maxLen] at h63;omega
 have grown:∀ (old:Nat),old < n+m→∀ (row:Option Nat),
  (w.drew.alloc (.cells (xs.toArray++news.toArray++Builtin.zeroCells z.cells (grownCap w (n+m) old e - (n+m))) e)).ownsRow 0 e i.size
   (.slice (some ⟨w.heap.size,0,none⟩) (n+m) (grownCap w (n+m) old e)) (n+m) (xs++news) ∧
  w.grownBy (w.drew.alloc (.cells (xs.toArray++news.toArray++Builtin.zeroCells z.cells (grownCap w (n+m) old e - (n+m))) e)) row:=by
  intro old ho row
  have hge:=grownCap_ge w (n+m) old e
  have hcm:grownCap w (n+m) old e≤maxLen:=grownCap_le_maxLen w (n+m) old e h63
  refine ⟨⟨hlen,.inr ⟨w.heap.size,_,_,rfl,Nat.zero_le _,Go.heap_alloc_new w.drew _,hge,hcm,?_,?_⟩⟩,⟨rfl,rfl,rfl,by simp,fun k hk _=>Below.heap_alloc w.drew _ k hk⟩⟩
  ·simp only [Array.size_append,List.size_toArray,size_zeroCells,hzs,hown.1,S.num,← Nat.add_mul]
   congr 1
   omega
  ·simp only [Array.toList_append,List.append_assoc]
   rw [← List.append_assoc,← hlen]
   exact List.take_left
 have IE:∀ cap (b:Option Addr),(∀ a,b=some a→∀ j v,xs[j]? = some v→w.cell? (a.add j)=some v)→(b=none→xs=[])→(Builtin.firstCells i.size n (.slice b n cap)).run P w.drew=.ok xs.toArray w.drew:=by
  intro cap b hb hn
  cases b with
  | none=>rw [hn rfl];simp [Builtin.firstCells]
  | some a=>exact run_firstCells_some (P:=P) w.drew i.size n a n cap xs hown.1 (by simpa using hb a rfl)
 have grow:∀ (b:Option Addr) (cap:Nat),cap < n+m→(∀ a,b=some a→∀ j v,xs[j]? = some v→w.cell? (a.add j)=some v)→(b=none→xs=[]) →
  (Builtin.append_ #[t,tx] ty #[.slice b n cap,x]).run P w=.ok (.slice (some ⟨w.heap.size,0,none⟩) (n+m) (grownCap w (n+m) cap e)) (w.drew.alloc (.cells (xs.toArray++news.toArray++Builtin.zeroCells z.cells (grownCap w (n+m) cap e - (n+m))) e)):=by
  intro b cap hc hb hn
  have h1:¬ (n+m≤cap):=by omega
  have h63':¬ (9223372036854775807 < ((n:Int)+(m:Int))):=by omega
  have hfit:=growslice_fits hc hbytes
  have h48':¬ (281474976710656 < Builtin.nextslicecap (n+m) cap*i.bytes):=by omega
  simp [Builtin.append_,run_underlying ht,run_underlying QS,IC,sizeOf,typeInfo,zeroValue,hi,hz,S.len,h1,h63',h48',Question.forced,IE cap b hb hn,S.cells',newRow,grownCap]
  congr 2
  apply Array.ext'
  simp [List.append_assoc]
 rcases hown.2 with ⟨rfl,rfl⟩ | ⟨g,cap,cur,rfl,hbg,hg,hnc,hcm,hcs,htake⟩
 ·have hx:xs=[]:=List.eq_nil_of_length_eq_zero (by simpa using hown.1)
  by_cases hm:m=0
  ·subst hm
   have hn:news=[]:=List.eq_nil_of_length_eq_zero (by simpa using S.num)
   subst hn
   subst hx
   refine ⟨.slice none 0 0,w,?_,World.ownsRow_nil w 0 e i.size,⟨rfl,rfl,rfl,Nat.le_refl _,fun _ _ _=>rfl⟩,by simp [Value.ownBlock]⟩
   simp [Builtin.append_,run_underlying ht,run_underlying QS,IC,sizeOf,typeInfo,hi,S.len,S.cells]
  ·have hgr:=grown 0 (by omega) (Value.ownBlock (.slice none 0 0))
   refine ⟨_,_,grow none 0 (by omega) (by simp) (fun _=>hx),hgr.1,hgr.2,?_⟩
   simp [Value.ownBlock]
 ·by_cases hroom:n+m≤cap
  ·have hfit:n*i.size+news.length≤cur.size:=by rw [S.num,hcs,← Nat.add_mul];exact Nat.mul_le_mul_right _ hroom
   have hst:=run_storeCells_at P g (n*i.size) e news 0 cur w hg (by simpa using hfit) S.one
   simp only [Nat.add_zero] at hst
   refine ⟨_,w.setRow g (cur.toList.take (n*i.size)++news++cur.toList.drop (n*i.size+news.length)).toArray,?_,⟨hlen,.inr ⟨g,cap,_,rfl,hbg,setRow_heap w g cur _ e _ hg,hroom,hcm,?_,?_⟩⟩,⟨rfl,rfl,rfl,by simp,fun k _ hk=>setRow_other w g k _ (fun e=>hk (by simp [Value.ownBlock,e]))⟩,?_⟩
   ·simp [Builtin.append_,run_underlying ht,run_underlying QS,IC,sizeOf,typeInfo,hi,S.len,hroom,S.cells,Addr.add_lit,hst]
   ·simp only [List.size_toArray,List.length_append,List.length_take,List.length_drop,Array.length_toList]
    omega
   ·rw [htake,← hlen]
    exact List.take_left
   ·intro b hb
    simp only [Value.ownBlock,Option.some.injEq] at hb
    subst hb
    have:g < w.heap.size:=by
     rcases Nat.lt_or_ge g w.heap.size with h | h
     ·exact h
     ·rw [Array.getElem?_eq_none h] at hg;cases hg
    exact ⟨.inl rfl,by simpa using this⟩
  ·have holds:∀ j u,xs[j]? = some u→w.cell? ((⟨g,0,none⟩:Addr).add j)=some u:=hown.cells (g:=g) rfl
   have hgr:=grown cap (by omega) (Value.ownBlock (.slice (some ⟨g,0,none⟩) n cap))
   refine ⟨_,_,grow (some ⟨g,0,none⟩) cap (by omega) (fun a ha=>by cases ha;exact holds) (by simp),hgr.1,hgr.2,?_⟩
   simp [Value.ownBlock]
theorem Src.slice {w:World} {tx ex:TypeId} {size m cap:Nat} {news:List Value} {ao:Option Addr} (hu:P.underlying tx=some (.slice ex)) (hl:news.length=m*size) (h1:∀ u∈news,u.oneCell'=true)
 (hc:∀ j v,news[j]? = some v→∃ a,ao=some a∧w.cell? (a.add j)=some v) (hn:ao=none→m=0):Src P tx size m news (.slice ao m cap) w:=by
 refine ⟨by simp [Builtin.lenOf],?_,?_,hl,h1,⟨_,hu,by simp⟩⟩
 ·cases ao with
  | none =>
   have:=hn rfl
   subst this
   have:news=[]:=List.eq_nil_of_length_eq_zero (by simpa using hl)
   subst this
   simp [Builtin.firstCells]
  | some a=>exact run_firstCells_some (P:=P) w size m a m cap news hl (fun j v hj=>by obtain ⟨a',e,h⟩:=hc j v hj;cases e;exact h)
 ·cases ao with
  | none =>
   have:=hn rfl
   subst this
   have:news=[]:=List.eq_nil_of_length_eq_zero (by simpa using hl)
   subst this
   simp [Builtin.firstCells]
  | some a=>exact run_firstCells_some (P:=P) w.drew size m a m cap news hl (fun j v hj=>by obtain ⟨a',e,h⟩:=hc j v hj;cases e;simpa using h)
def jo (s:ByteArray):List V:=s.data.toList.map fun b=>.lit (.int .u8 b.toNat)
def oF (s:ByteArray):List Value:=s.data.toList.map fun b=>.int .u8 b.toNat
theorem SS (p:bB) (w:World) (s:ByteArray):aN p w (oF s) (jo s) []:=by
 unfold oF jo
 generalize s.data.toList=l
 induction l with
 | nil=>exact .nil
 | cons b l ih=>exact aN.cons (A:=[]) (B:=[]) (.lit _) ih
theorem Src.string {w:World} {tx:TypeId} (hu:P.underlying tx=some .string) (s:ByteArray):Src P tx 1 s.size (oF s) (.string s) w:=by
 have hx:∀ w,(Builtin.firstCells 1 s.size (.string s)).run P w=.ok (oF s).toArray w:=by
  intro w
  simp only [Builtin.firstCells,Sem.run_pure]
  congr 1
  apply Array.ext'
  have:(s.extract 0 s.size)=s:=ByteArray.extract_zero_size
  rw [this]
  simp [oF]
 refine ⟨by simp [Builtin.lenOf],hx w,hx _,by rw [oF,List.length_map,Array.length_toList,Nat.mul_one];rfl,fun u hu=>?_,⟨_,hu,by simp⟩⟩
 simp only [oF,List.mem_map] at hu
 obtain ⟨b,_,rfl⟩:=hu
 rfl
end
end Go.Rf
end
section
namespace Go.Rf
open Go.RowKit
set_option linter.unusedVariables false
set_option linter.unusedSimpArgs false
variable [cO]
theorem cK.set {g:G} {w:World}:∀ {vs:List Value} {ds:List D} {T:List Nat} {c:Nat} {d:D},cK g w vs ds T→ds[c]? = some d →
 ∃ v T1 Tc T2,vs[c]? = some v∧T=T1++(Tc++T2)∧aV g w v d Tc∧∀ d' v' T',aV g w v' d' T'→cK g w (vs.set c v') (ds.set c d') (T1++(T'++T2))
 | _,_,_,_,_,.nil,h=>by simp at h
 | _,_,_,0,d,.cons (v:=v) (A:=A) (B:=B) h1 h2,h=>by
  simp only [List.getElem?_cons_zero,Option.some.injEq] at h
  subst h
  exact ⟨v,[],A,B,rfl,rfl,h1,fun d' v' T' h'=>(cK.cons h' h2:cK g w _ _ (T'++B))⟩
 | _,_,_,c+1,d,.cons (A:=A) (B:=B) h1 h2,h=>by
  simp only [List.getElem?_cons_succ] at h
  obtain ⟨v,T1,Tc,T2,e1,e2,e3,e4⟩:=h2.set h
  subst e2
  refine ⟨v,A++T1,Tc,T2,by simpa using e1,by simp,e3,fun d' v' T' h'=>?_⟩
  have:=cK.cons h1 (e4 d' v' T' h')
  simpa using this
def Yr (r:Root):Root→Bool:=match r with
 | .t x=>di x
 | .b i _=>jN i
theorem ab8 (d:Nat) (r:Root):jN d r=true↔r.holder=.inr d:=by
 cases r with
 | t x=>simp [jN,Root.holder]
 | b i c =>
  simp only [jN,Root.holder,Sum.inr.injEq]
  exact ⟨fun h=>Nat.eq_of_beq_eq_true h,fun h=>by rw [h];exact Nat.beq_refl d⟩
theorem UB (q r:Root):Yr q r=true↔r.holder=q.holder:=by
 cases q with
 | t x=>exact xM x r
 | b i c=>exact ab8 i r
theorem X.uV {q:Root} {x:X} (h:x.kill (Yr q)=x) (hd:x≠.dead):∀ r,x.gp=some r→r≠q.holder:=by
 intro r hr e
 subst e
 cases x with
 | al p =>
  simp only [X.gp,Option.some.injEq] at hr
  have:=(UB q p.root).2 hr
  simp [X.kill,this] at h
 | pa p sz i j =>
  simp only [X.gp,Option.some.injEq] at hr
  have:=(UB q p).2 hr
  simp [X.kill,this] at h
 | d d=>simp [X.gp] at hr
 | dead=>exact hd rfl
def St.dD (st:St):Root→St
 | .t s=>{ st with env:=(s,.dead) :: kill (di s) st.env }
 | .b id c=>match st.box[id]? with
  | some (.cells cs)=>{ env:=kill (jN id) st.env,box:=st.box.set id (.cells (cs.set c (.v .any))) }
  | _=>st
def G.dD (g:G) (h:Nat ⊕ Nat) (T':List Nat):G :=
 { g with own:=fun b=>if g.own b=some h∧b∉T' then none else g.own b,TE:=fun t=>if h=.inl t then T' else g.TE t,TB:=fun i=>if h=.inr i then T' else g.TB i }
section
variable {C:Ctx} {g:G} {st:St} {a:Act} {w w':World}
theorem aI.take (S:aI C g st a w) {r:Root} {u:V} (hu:iT st r=some u):∃ v T T',dY g a w r=some v∧aS g.aM w v u T∧T.Nodup∧(∀ b∈T,g.own b=some r.holder∧b∉T')∧(∀ b∈T',g.own b=some r.holder) ∧
 dG g (g.dD r.holder T') w w∧aI C (g.dD r.holder T') (st.dD r) a w:=by
 cases r with
 | t s =>
  simp only [iT] at hu
  split at hu
  ·rename_i x hx
   cases hu
   obtain ⟨h1,h2,h3⟩:=S.env s _ hx
   refine ⟨a.tmps.getD s undef,g.TE s,[],?_,aV.inv h2,S.nU s,fun b hb=>⟨h3 b hb,by simp⟩,by simp,⟨fun _ h=>h,Nat.le_refl _,fun _ _=>rfl,fun _ _=>rfl⟩,?_⟩
   ·have:s < a.tmps.size:=by rw [S.tmps];exact h1
    simp [dY,Array.getD_eq_getD_getElem?,this]
   show aI C (g.dD (.inl s) []) _ _ _
   refine S.change (fun h=>h=.inl s) S.defers S.tmps rfl rfl rfl (Nat.le_refl _) (fun _ h=>h) (fun _ h=>.inl h) S.dJ S.n (Nat.le_refl _) (fun _ _=>rfl) (fun _ _ _=>rfl) ?_ ?_ ?_ ?_ ?_ ?_ ?_ ?_
   ·intro b h ho hc
    simp only [G.dD]
    rw [if_neg (by rw [ho];rintro ⟨e,_⟩;exact hc (Option.some.inj e)),ho]
   ·intro t ht
    refine ⟨rfl,?_⟩
    simp only [G.dD]
    rw [if_neg (fun e=>ht (by rw [Sum.inl.inj e]))]
   ·intro i hi;exact ⟨by simp [G.dD],rfl⟩
   ·intro t y hy
    simp only [St.dD,look] at hy
    cases hb:Nat.beq t s with
    | true =>
     have:=Nat.eq_of_beq_eq_true hb
     subst this
     rw [hb] at hy
     cases hy
     exact .inr ⟨h1,trivial,by simp [G.dD]⟩
    | false =>
     have hts:t≠s:=fun e=>by rw [e,Nat.beq_refl] at hb;cases hb
     rw [hb] at hy
     simp only [mX] at hy
     refine .inl ⟨fun e=>hts (Sum.inl.inj e),?_⟩
     cases hl:look st.env t with
     | none=>rw [hl] at hy;cases hy
     | some z =>
      rw [hl] at hy
      simp only [Option.map_some,Option.some.injEq] at hy
      by_cases hdd:y=.dead
      ·exact .inr ⟨hdd,z,rfl⟩
      ·rcases X.iQ (di s) z with h | ⟨h,_⟩
       ·exact (hdd (by rw [← hy,h])).elim
       ·rw [h] at hy
        subst hy
        exact .inl ⟨rfl,X.oq h hdd⟩
   ·intro id b _ hc;cases hc
   ·intro t ht;cases ht;simp [G.dD]
   ·intro i hi;cases hi
   ·intro b h ho
    simp only [G.dD] at ho
    split at ho
    ·cases ho
    ·exact .inl ⟨ho,(S.own b h ho).2.2⟩
  ·cases hu
 | b id c =>
  simp only [iT] at hu
  split at hu
  ·rename_i cs hb
   split at hu
   ·rename_i x hx
    cases hu
    obtain ⟨⟨cur,e,A,hT,hh,hr,h1⟩,h2⟩:=S.box id _ hb
    have hid:id < st.box.length:=by
     rcases Nat.lt_or_ge id st.box.length with h | h
     ·exact h
     ·rw [List.getElem?_eq_none h] at hb;cases hb
    obtain ⟨v,T1,Tc,T2,e1,e2,e3,e4⟩:=hr.set hx
    have hn:=S.mK id
    rw [hT,e2] at hn
    have hn2:(T1++(Tc++T2)).Nodup:=(List.nodup_cons.1 hn).2
    have E5:Tc.Nodup:=(List.nodup_append.1 (List.nodup_append.1 hn2).2.1).1
    have hmem:∀ b,b∈Tc→b∉(g.loc id :: (T1++T2)):=by
     intro b hb hb'
     rcases List.mem_cons.1 hb' with rfl | hb'
     ·exact (List.nodup_cons.1 hn).1 (by simp [hb])
     ·rcases List.mem_append.1 hb' with hb' | hb'
      ·exact (List.nodup_append.1 hn2).2.2 b hb' b (by simp [hb]) rfl
      ·exact (List.nodup_append.1 (List.nodup_append.1 hn2).2.1).2.2 b hb b hb' rfl
    have ho:∀ b,b∈g.TB id→g.own b=some (.inr id):=h2
    have hsub:∀ b∈(g.loc id :: (T1++T2)),b∈g.TB id:=by
     intro b hb
     rw [hT,e2]
     simp only [List.mem_cons,List.mem_append] at hb ⊢
     rcases hb with h | h | h
     ·exact .inl h
     ·exact .inr (.inl h)
     ·exact .inr (.inr (.inr h))
    have k:dG g (g.dD (.inr id) (g.loc id :: (T1++T2))) w w:=⟨fun _ h=>h,Nat.le_refl _,fun _ _=>rfl,fun _ _=>rfl⟩
    refine ⟨v,Tc,g.loc id :: (T1++T2),?_,aV.inv e3,E5,fun b hb=>⟨ho b (by rw [hT,e2];simp [hb]),hmem b hb⟩,fun b hb=>ho b (hsub b hb),k,?_⟩
    ·simp only [dY]
     rw [if_pos ⟨by rw [S.n];exact hid,ho _ (by rw [hT];simp)⟩]
     simp only [World.cell?,hh]
     simpa using e1
    have hw:st.dD (.b id c)={ env:=kill (jN id) st.env,box:=st.box.set id (.cells (cs.set c (.v .any))) }:=by simp only [St.dD,hb]
    rw [hw]
    show aI C (g.dD (.inr id) (g.loc id :: (T1++T2))) _ _ _
    refine S.change (fun h=>h=.inr id) S.defers S.tmps rfl rfl rfl (Nat.le_refl _) (fun _ h=>h) (fun _ h=>.inl h) S.dJ (by simpa [G.dD] using S.n) (Nat.le_refl _) (fun _ _=>rfl) (fun _ _ _=>rfl) ?_ ?_ ?_ ?_ ?_ ?_ ?_ ?_
    ·intro b h ho' hc
     simp only [G.dD]
     rw [if_neg (by rw [ho'];rintro ⟨e,_⟩;exact hc (Option.some.inj e)),ho']
    ·intro t ht;exact ⟨rfl,by simp [G.dD]⟩
    ·intro i hi
     have hi':i≠id:=fun e=>hi (by rw [e])
     refine ⟨?_,?_⟩
     ·simp only [G.dD]
      rw [if_neg (fun e=>hi' (Sum.inr.inj e).symm)]
     ·rw [List.getElem?_set_ne (fun e=>hi' e.symm)]
    ·intro t y hy
     simp only [mX] at hy
     refine .inl ⟨(fun e=>by cases e),?_⟩
     cases hl:look st.env t with
     | none=>rw [hl] at hy;cases hy
     | some z =>
      rw [hl] at hy
      simp only [Option.map_some,Option.some.injEq] at hy
      by_cases hdd:y=.dead
      ·exact .inr ⟨hdd,z,rfl⟩
      ·rcases X.iQ (jN id) z with h | ⟨h,_⟩
       ·exact (hdd (by rw [← hy,h])).elim
       ·rw [h] at hy
        subst hy
        exact .inl ⟨rfl,X.uV (q:=.b id c) h hdd⟩
    ·intro i b hb' hc
     cases hc
     rw [List.getElem?_set_self hid] at hb'
     cases hb'
     have Yt:(g.dD (.inr id) (g.loc id :: (T1++T2))).TB id=g.loc id :: (T1++T2):=by simp [G.dD]
     refine ⟨⟨cur,e,T1++T2,Yt,hh,?_,h1⟩,?_⟩
     ·have:=(e4 (.v .any) v [] (.v (.any v)))
      have hset:cur.toList.set c v=cur.toList:=by
       apply List.ext_getElem?
       intro j
       by_cases hj:c=j
       ·subst hj
        rw [List.getElem?_set_self']
        rw [e1];rfl
       ·rw [List.getElem?_set_ne hj]
      rw [hset] at this
      exact this.keep k (fun _ _=>rfl)
     ·intro b hb'
      rw [Yt] at hb'
      simp only [G.dD]
      rw [if_neg (fun h=>h.2 hb')]
      exact ho b (hsub b hb')
    ·intro t ht;cases ht
    ·intro i hi
     cases hi
     simp only [G.dD,if_true]
     refine List.nodup_cons.2 ⟨fun h=>(List.nodup_cons.1 hn).1 ?_,?_⟩
     ·simp only [List.mem_append] at h ⊢
      rcases h with h | h
      ·exact .inl h
      ·exact .inr (.inr h)
     ·have h3:=(List.nodup_append.1 hn2)
      exact List.nodup_append.2 ⟨h3.1,(List.nodup_append.1 h3.2.1).2.1,fun x hx y hy=>h3.2.2 x hx y (by simp [hy])⟩
    ·intro b h ho'
     simp only [G.dD] at ho'
     split at ho'
     ·cases ho'
     ·exact .inl ⟨ho',(S.own b h ho').2.2⟩
   ·cases hu
  ·cases hu
theorem aI.rQ (S:aI C g st a w) {row:Option Nat} (hg:w.grownBy w' row) (hrow:∀ b,row=some b→g.own b=none∧¬ g.aM b∧(C.W.heap.size≤b∨C.Fz b)) {d:Nat} (hd:d < C.N) {v:Value} {u:V} {T:List Nat}
 (hT:T.Nodup) (lV:∀ b∈T,g.own b=none∧¬ g.aM b∧(C.W.heap.size≤b∨C.Fz b)∧b < w'.heap.size) (hx:aS g.aM w' v u T) :
 aI C (g.put d T fun _=>False) (st.put d (.d (.v u))) (a.put (some d) v) w':=by
 have ed:∀ b h,g.own b=some h→b∉T:=fun b h ho hb=>by have:=(lV b hb).1;rw [this] at ho;cases ho
 have same:∀ b,b < w.heap.size→(g.aM b∨(∃ h,g.own b=some h)∨(b < C.W.heap.size∧¬ C.Fz b))→w'.heap[b]? = w.heap[b]?:=by
  intro b hb h
  refine hg.block b hb (fun e=>?_)
  obtain ⟨h1,h2,h3⟩:=hrow b e.symm
  rcases h with h | ⟨h',h⟩ | ⟨h4,h5⟩
  ·exact h2 h
  ·rw [h1] at h;cases h
  ·rcases h3 with h3 | h3
   ·omega
   ·exact h5 h3
 have k:dG g (g.put d T fun _=>False) w w':=⟨fun b hb=>.inl hb,Nat.le_refl _,fun _ _=>rfl,fun b hb=>same b (S.dJ b hb) (.inl hb)⟩
 refine S.change (fun h=>h=.inl d) S.defers ?_ hg.os hg.tape hg.output hg.size (fun b hb=>.inl hb) ?_ ?_ S.n (Nat.le_refl _) (fun _ _=>rfl) ?_ ?_ ?_ ?_ ?_ ?_ ?_ ?_ ?_
 ·simp [Act.jW,S.tmps]
 ·rintro b (hb | hb)
  ·exact .inl hb
  ·exact hb.elim
 ·rintro b (hb | hb)
  ·exact Nat.lt_of_lt_of_le (S.dJ b hb) hg.size
  ·exact hb.elim
 ·rintro b hb (h | ⟨h,h1,_⟩ | h)
  ·exact same b hb (.inl h)
  ·exact same b hb (.inr (.inl ⟨h,h1⟩))
  ·exact same b hb (.inr (.inr h))
 ·intro b h ho hc
  simp only [G.put]
  rw [if_neg (ed b h ho),if_neg (by rw [ho];intro e;exact hc (Option.some.inj e)),ho]
 ·intro t ht
  have ht':t≠d:=fun e=>ht (by rw [e])
  refine ⟨?_,by simp [G.put,ht']⟩
  rw [Act.jW]
  simp only [Array.getElem?_setIfInBounds]
  rw [if_neg (fun e=>ht' e.symm)]
 ·intro i hi;exact ⟨rfl,rfl⟩
 ·intro t y hy
  rw [St.put,TH] at hy
  by_cases ht:t=d
  ·subst ht
   rw [if_pos rfl] at hy
   cases hy
   refine .inr ⟨hd,?_,fun b hb=>?_⟩
   ·have e:(a.put (some t) v).tmps.getD t undef=v:=by
     rw [Act.jW,Array.getD_eq_getD_getElem?]
     simp [show t < a.tmps.size by rw [S.tmps];exact hd]
    rw [e,show (g.put t T fun _=>False).TE t=T by simp [G.put]]
    exact .v (hx.keep ⟨fun b hb=>.inl hb,fun _ _=>rfl⟩ (fun _ _=>rfl))
   ·have hb':b∈T:=by simpa [G.put] using hb
    simp [G.put,hb']
  ·rw [if_neg ht] at hy
   refine .inl ⟨fun e=>ht (Sum.inl.inj e),?_⟩
   cases hl:look st.env t with
   | none=>rw [hl] at hy;cases hy
   | some z =>
    rw [hl] at hy
    simp only [Option.map_some,Option.some.injEq] at hy
    by_cases hdd:y=.dead
    ·exact .inr ⟨hdd,z,rfl⟩
    ·rcases X.iQ (di d) z with h | ⟨h,h2⟩
     ·exact (hdd (by rw [← hy,h])).elim
     ·rw [h] at hy
      subst hy
      exact .inl ⟨rfl,X.oq h hdd⟩
 ·intro id b _ hc;cases hc
 ·intro t ht
  cases ht
  simpa [G.put] using hT
 ·intro i hi;cases hi
 ·intro b h ho
  simp only [G.put] at ho
  by_cases hb:b∈T
  ·rw [if_pos hb] at ho
   obtain ⟨h1,h2,h3,h4⟩:=lV b hb
   refine .inr ⟨.inr (.inr h3),h4,?_⟩
   rintro (hp | hp)
   ·exact h2 hp
   ·exact hp
  ·rw [if_neg hb] at ho
   by_cases ho':g.own b=some (.inl d)
   ·rw [if_pos ho'] at ho;cases ho
   ·rw [if_neg ho'] at ho
    refine .inl ⟨ho,?_⟩
    rintro (hp | hp)
    ·exact (S.own b h ho).2.2 hp
    ·exact hp
end
end Go.Rf
end
section
namespace Go.Rf
open Go.RowKit
set_option linter.unusedVariables false
set_option linter.unusedSimpArgs false
variable [cO]
def Dj (st:St) (el sz:Nat):Operand→Option (Option Root × List V)
 | .const (.slice none 0 0)=>some (none,[])
 | x=>match mg st x with
  | some (r,.row (some e) s es)=>match Nat.beq e el && Nat.beq s sz with
   | true=>some (some r,es)
   | false=>none
  | some (_,.nil _ _)=>some (none,[])
  | _=>none
def Ja (P:Program) (tx sz:Nat) (x:Operand) (e:E):Option (List V × E) :=
 match mg e.st x with
 | some (_,.row (some _) s es)=>match P.underlying tx with
  | some (.slice _)=>match V.bM.go es && Nat.beq s sz && xO s es with
   | true=>some (es,e)
   | false=>none
  | _=>none
 | _=>none
def Jb (P:Program) (tx sz:Nat) (x:Operand) (e:E):Option (List V × E):=match val x e with
 | some (.row none s es,e)=>match P.underlying tx with
  | some (.slice _)=>match Nat.beq s sz && Nat.ble 1 s with
   | true=>some (es,e)
   | false=>none
  | _=>none
 | some (.nil _ _,e)=>match P.underlying tx with
  | some (.slice _)=>some ([],e)
  | _=>none
 | some (.lit (.string b),e)=>match P.underlying tx with
  | some .string=>match Nat.beq sz 1 with
   | true=>some (jo b,e)
   | false=>none
  | _=>none
 | _=>none
def Dk (P:Program) (tx sz:Nat) (x:Operand) (e:E):Option (List V × E):=match hint e with
 | some (.kb true,e)=>Ja P tx sz x e
 | some (.kb false,e)=>Jb P tx sz x e
 | _=>none
def Vz (st:St):Option Root→St
 | none=>st
 | some r=>st.dD r
section
variable {P:Program} {C:Ctx}
def GI (P:Program) (N:Nat) (o:Oper) (ts:Array TypeId) (s x:Operand) (e:E):Option E :=
 match dN N o with
 | none=>none
 | some d=>match ts.toList with
  | [t,tx]=>match P.underlying t with
   | some (.slice el)=>match P.info? el with
    | some i=>match i.zero with
     | some z=>match Nat.beq z.cells.size i.size && Nat.ble 1 i.bytes && Nat.ble (140737488355328 / i.bytes) maxLen with
      | true=>match Dk P tx i.size x e with
       | some (es2,e)=>match Dj e.st el i.size s with
        | some (r,es)=>match hint e with
         | some (.row (some e') s' es',e)=>match Nat.beq e' el && Nat.beq s' i.size with
          | true=>some ({ (need (es.length+es2.length≤140737488355328 / i.bytes) (need (dH (es++es2) es') e)) with st:=(Vz e.st r).put d (.d (.v (.row (some el) i.size es'))) })
          | false=>none
         | _=>none
        | none=>none
       | none=>none
      | false=>none
     | none=>none
    | none=>none
   | _=>none
  | _=>none
theorem Si:∀ {es:List V},V.bM.go es=true→V.bM.go (es.flatMap V.cells)=true
 | [],_=>rfl
 | e :: es,h=>by
  simp only [V.bM.go] at h
  cases he:e.bM with
  | false=>rw [he] at h;cases h
  | true =>
   rw [he] at h
   have ih:=Si h
   simp only [List.flatMap_cons]
   have app:∀ {a b:List V},V.bM.go a=true→V.bM.go b=true→V.bM.go (a++b)=true:=by
    intro a b ha hb
    induction a with
    | nil=>exact hb
    | cons c a ih =>
     simp only [V.bM.go] at ha
     cases hc:c.bM with
     | false=>rw [hc] at ha;cases ha
     | true=>rw [hc] at ha;simp only [List.cons_append,V.bM.go,hc];exact ih ha
   refine app ?_ ih
   cases e with
   | agg cs=>simpa [V.cells,V.bM] using he
   | _=>simp only [V.cells,V.bM.go,he]
theorem abe {tx sz:Nat} {x:Operand} {e e':E} {es:List V} (h:Ja P tx sz x e=some (es,e')):All e'.ob→All e.ob∧∀ g a w,aI C g e.st a w →
 ∃ g' news,dG g g' w w∧aI C g' e'.st a w∧Src P tx sz es.length news (a.eval x) w∧aN g'.aM w news (es.flatMap V.cells) []∧(∀ e∈es,e.cells.length=sz):=by
 intro bT
 unfold Ja at h
 split at h
 ·rename_i r et s es' hp
  split at h
  ·rename_i ex hu
   split at h
   ·rename_i hc
    cases h
    simp only [Bool.and_eq_true] at hc
    obtain ⟨⟨c1,c2⟩,c3⟩:=hc
    have c2:=Nat.eq_of_beq_eq_true c2
    subst c2
    refine ⟨bT,fun g a w S=>?_⟩
    obtain ⟨T,_,hr,_⟩:=ng S hp
    obtain ⟨xs,A,hT,h1,h2,h3,h4⟩:=nN hr
    have hA:A=[]:=h2.bM (Si c1)
    subst hA
    refine ⟨g,xs,dG.refl g w,S,?_,h2,h1⟩
    have h4':=h4
    rcases h4.2 with ⟨hv,hn⟩ | ⟨b,cap,cur,hv,_,hg,_⟩
    ·rw [hv,hn]
     have:xs=[]:=List.eq_nil_of_length_eq_zero (by rw [h4.1,hn];simp)
     subst this
     exact Src.slice hu (by simp) (by simp) (by simp) (fun _=>rfl)
    ·rw [hv] at h4' ⊢
     exact Src.slice hu h4'.1 h3 (fun j v hj=>⟨_,rfl,h4'.cells (g:=b) rfl j v hj⟩) (by simp)
   ·cases h
  ·cases h
 ·cases h
theorem abf {tx sz:Nat} {x:Operand} {e e':E} {es:List V} (h:Jb P tx sz x e=some (es,e')):All e'.ob→All e.ob∧∀ g a w,aI C g e.st a w →
 ∃ g' news,dG g g' w w∧aI C g' e'.st a w∧Src P tx sz es.length news (a.eval x) w∧aN g'.aM w news (es.flatMap V.cells) []∧(∀ e∈es,e.cells.length=sz):=by
 intro bT
 unfold Jb at h
 split at h
 ·rename_i s es' e1 hv
  split at h
  ·rename_i ex hu
   split at h
   ·rename_i hc
    rw [Bool.and_eq_true] at hc
    have hz1:=Nat.le_of_ble_eq_true hc.2
    have hc:=Nat.eq_of_beq_eq_true hc.1
    subst hc
    cases h
    obtain ⟨h0,k⟩:=val_ok (C:=C) hv bT
    refine ⟨h0,fun g a w S=>?_⟩
    obtain ⟨g',kk,S',r⟩:=k g a w S
    obtain ⟨ao,cap,xs,⟨hx,QT⟩,h1,h2,h3,h4⟩:=xw r
    refine ⟨g',xs,kk,S',?_,h2,h1⟩
    rw [hx]
    have hl:xs.length=es.length*s:=by rw [h2.length,fD h1]
    ·have hz:s≠0:=by omega
     refine Src.slice hu hl h3 (fun j v hj=>?_) (fun hn=>?_)
     ·obtain ⟨b,o,e,_,hc⟩:=h4 j v hj
      exact ⟨⟨b,o,none⟩,e,by rw [Addr.add_mid];exact hc⟩
     ·rcases Nat.eq_zero_or_pos es.length with h | h
      ·exact h
      ·have h0:0 < xs.length:=by rw [hl];exact Nat.mul_pos h (Nat.pos_of_ne_zero hz)
       obtain ⟨b,o,e,_⟩:=h4 0 _ (List.getElem?_eq_getElem h0)
       rw [hn] at e;cases e
   ·cases h
  ·cases h
 ·rename_i a1 a2 e1 hv
  split at h
  ·rename_i ex hu
   cases h
   obtain ⟨h0,k⟩:=val_ok (C:=C) hv bT
   refine ⟨h0,fun g a w S=>?_⟩
   obtain ⟨g',kk,S',r⟩:=k g a w S
   refine ⟨g',[],kk,S',?_,.nil,by simp⟩
   generalize a.eval x=v at r ⊢
   cases r
   exact Src.slice hu (by simp) (by simp) (by simp) (fun _=>rfl)
  ·cases h
 ·rename_i b e1 hv
  split at h
  ·rename_i hu
   split at h
   ·rename_i hc
    have hc:=Nat.eq_of_beq_eq_true hc
    subst hc
    cases h
    obtain ⟨h0,k⟩:=val_ok (C:=C) hv bT
    refine ⟨h0,fun g a w S=>?_⟩
    obtain ⟨g',kk,S',r⟩:=k g a w S
    have hx:=r.lI
    rw [hx]
    have hl:(jo b).length=b.size:=by rw [jo,List.length_map,Array.length_toList];rfl
    have hf:(jo b).flatMap V.cells=jo b:=by
     unfold jo
     generalize b.data.toList=l
     induction l with
     | nil=>rfl
     | cons c l ih=>simp only [List.map_cons,List.flatMap_cons,ih];rfl
    refine ⟨g',oF b,kk,S',?_,?_,?_⟩
    ·rw [hl];exact Src.string hu b
    ·rw [hf];exact SS _ _ b
    ·intro u hu
     simp only [jo,List.mem_map] at hu
     obtain ⟨c,_,rfl⟩:=hu
     rfl
   ·cases h
  ·cases h
 ·cases h
theorem UC {tx sz:Nat} {x:Operand} {e e':E} {es:List V} (h:Dk P tx sz x e=some (es,e')):All e'.ob→All e.ob∧∀ g a w,aI C g e.st a w →
 ∃ g' news,dG g g' w w∧aI C g' e'.st a w∧Src P tx sz es.length news (a.eval x) w∧aN g'.aM w news (es.flatMap V.cells) []∧(∀ e∈es,e.cells.length=sz):=by
 unfold Dk at h
 split at h
 ·rename_i e1 hh
  obtain ⟨q1,q2⟩:=ik hh
  intro hA
  have:=abe (C:=C) h hA
  rw [q1,q2] at this
  exact this
 ·rename_i e1 hh
  obtain ⟨q1,q2⟩:=ik hh
  intro hA
  have:=abf (C:=C) h hA
  rw [q1,q2] at this
  exact this
 ·cases h
theorem F9 {st:St} {x:Operand} {r:Root} {u:V} (h:mg st x=some (r,u)):iT st r=some u:=by
 unfold mg at h
 split at h
 ·split at h
  ·split at h
   ·rename_i hq;cases h;exact hq
   ·cases h
  ·rename_i hq;cases h;simp [iT,hq]
  ·cases h
 ·cases h
theorem UD {g:G} {st:St} {a:Act} {w:World} (S:aI C g st a w) {el sz:Nat} {s:Operand} {r:Option Root} {es:List V} (h:Dj st el sz s=some (r,es)) :
 (r=none∧es=[]∧a.eval s=.slice none 0 0)∨∃ q,r=some q∧mg st s=some (q,.row (some el) sz es):=by
 unfold Dj at h
 split at h
 ·cases h;exact .inl ⟨rfl,rfl,rfl⟩
 ·split at h
  ·rename_i q e s' es' hp
   split at h
   ·rename_i hc
    cases h
    rw [Bool.and_eq_true] at hc
    have h1:=Nat.eq_of_beq_eq_true hc.1
    have h2:=Nat.eq_of_beq_eq_true hc.2
    subst h1
    subst h2
    exact .inr ⟨_,rfl,hp⟩
   ·cases h
  ·rename_i q e' s' hp
   cases h
   obtain ⟨T,_,hr,_⟩:=ng S hp
   generalize a.eval s=v at hr ⊢
   cases hr
   exact .inl ⟨rfl,rfl,rfl⟩
  ·cases h
theorem Zy {o:Oper} {c:Call} {s x:Operand} {e e':E} (ho:o.op=.call c) (hc:c.callee=.builtin .append) (ha:c.args = #[s,x]) (h:GI P C.N o c.argTypes s x e=some e'):bD P C o e e':=by
 unfold GI at h
 split at h
 ·cases h
 rename_i d hd
 obtain ⟨hdd,hdN⟩:=fK hd
 split at h
 ·rename_i t tx hts
  have hts:c.argTypes = #[t,tx]:=by
   rw [← Array.toArray_toList (xs:=c.argTypes),hts]
  split at h
  ·rename_i el hu
   split at h
   ·rename_i i hi
    split at h
    ·rename_i z hz
     split at h
     ·rename_i hck
      simp only [Bool.and_eq_true] at hck
      obtain ⟨⟨k1,k2⟩,k3⟩:=hck
      have k1:=Nat.eq_of_beq_eq_true k1
      have k2:=Nat.le_of_ble_eq_true k2
      have k3:=Nat.le_of_ble_eq_true k3
      split at h
      ·rename_i es2 e1 hx
       split at h
       ·rename_i r es hs
        split at h
        ·rename_i lu s' es' e2 hh
         split at h
         ·rename_i pR
          rw [Bool.and_eq_true] at pR
          have c1:=Nat.eq_of_beq_eq_true pR.1
          have c2:=Nat.eq_of_beq_eq_true pR.2
          subst c1
          subst c2
          cases h
          obtain ⟨q1,q2⟩:=ik hh
          intro hA
          obtain ⟨hA,hsz⟩:=All.snoc (l:=e2.ob++_) hA
          obtain ⟨hA,hfit⟩:=All.snoc (l:=e2.ob) hA
          obtain ⟨h0,kx⟩:=UC (C:=C) hx (q1 ▸ hA)
          refine ⟨h0,fun g a w S next Q hn=>?_⟩
          obtain ⟨g1,news,kk,S1,hsrc,hnews,ql⟩:=kx g a w S
          have hb:(es.length+es2.length)*i.bytes≤140737488355328:=Nat.le_trans (Nat.mul_le_mul_right _ hsz) (Nat.div_mul_le_self _ _)
          have hm:es.length+es2.length≤maxLen:=Nat.le_trans hsz k3
          have hst:e2.st=e1.st:=q2
          have exec:∀ v',∀ w',(Builtin.append_ c.argTypes o.type #[a.eval s,a.eval x]).run P w=.ok v' w'→(execOp a.eval o).run P w=.ok (.value v') w':=by
           intro v' w' hr
           unfold execOp
           simp only [ho,resolve,hc,ha,Sem.run_bind,Sem.run_pure,Result.andThen_ok,invoke,builtin,List.map_toArray,List.map_cons,List.map_nil,hr]
          rcases UD S1 hs with ⟨rfl,rfl,hv⟩ | ⟨q,rfl,hp⟩
          ·
           obtain ⟨v',w',hr,how,hgr,hblk⟩:=xx (P:=P) w t tx o.type lu i z i.size i.bytes hu hi hz rfl rfl k1 (.slice none 0 0) 0 [] (World.ownsRow_nil w 0 lu i.size) (a.eval x) es2.length news hsrc (by simpa using hm) (by simpa using hb)
           refine fC (exec v' w' (by rw [hts,hv];exact hr)) ?_
           rw [hdd]
           simp only [Nat.zero_add,List.nil_append] at how
           have tT:dH es2 es':=by simpa using hfit
           have kZ:aS g1.aM w' v' (.row (some lu) i.size es') (v'.ownBlock.toList++[]):=by
            refine aS.own (tT.sizes ql) ((hnews.keep ⟨fun _ h=>h,fun b hb=>hgr.block b (S1.dJ b hb) (by simp [Value.ownBlock])⟩ (fun _ h=>by cases h)).fit tT.flat) hsrc.one ?_
            rw [← tT.length];exact how
           refine hn (g1.put d (v'.ownBlock.toList++[]) fun _=>False) _ _ ?_ (fun h=>by rw [ho] at h;simp [kg,hc] at h)
           show aI C _ (e2.st.put d _) _ _
           rw [hst]
           refine S1.rQ (row:=none) hgr (by simp) hdN ?_ ?_ kZ
           ·cases v'.ownBlock<;>simp
           ·intro b hb'
            simp only [List.append_nil,Option.mem_toList] at hb'
            obtain ⟨h1,h2⟩:=hblk b hb'
            have hbw:b=w.heap.size:=by
             rcases h1 with h1 | h1
             ·simp [Value.ownBlock] at h1
             ·exact h1
            subst hbw
            refine ⟨?_,?_,.inl S1.size,h2⟩
            ·cases ho':g1.own w.heap.size with
             | none=>rfl
             | some h'=>have:=(S1.own _ _ ho').2.1;omega
            ·intro hp';have:=S1.dJ _ hp';omega
          ·
           obtain ⟨v,T,T',hpv,hR,gF,dB,KR,kw,S2⟩:=S1.take (F9 hp)
           obtain ⟨_,rR,_⟩:=ng S1 hp
           have hv:v=a.eval s:=by rw [hpv] at rR;exact Option.some.inj rR
           subst hv
           obtain ⟨xs,A,hT,h1,h2,h3,zl⟩:=nN hR
           obtain ⟨v',w',hr,how,hgr,hblk⟩:=xx (P:=P) w t tx o.type lu i z i.size i.bytes hu hi hz rfl rfl k1 (a.eval s) es.length xs zl (a.eval x) es2.length news hsrc hm hb
           refine fC (exec v' w' (by rw [hts];exact hr)) ?_
           rw [hdd]
           have rA:∀ b,g1.aM b→w'.heap[b]? = w.heap[b]?:=fun b hb'=>hgr.block b (S1.dJ b hb') (fun e=>by
            have jO:b∈T:=by rw [hT,← e];simp
            exact (S1.own b _ (dB b jO).1).2.2 hb')
           have AO:∀ b∈A,w'.heap[b]? = w.heap[b]?:=fun b hb'=>by
            have jO:b∈T:=by rw [hT];simp [hb']
            refine hgr.block b (S1.own b _ (dB b jO).1).2.1 (fun e=>?_)
            rw [hT] at gF
            exact (List.nodup_append.1 gF).2.2 b (by rw [← e];simp) b hb' rfl
           have hfl:(es++es2).flatMap V.cells=es.flatMap V.cells++es2.flatMap V.cells:=by simp
           have hall:aN g1.aM w' (xs++news) (es'.flatMap V.cells) (A++[]):=by
            refine aN.fit (ds:=(es++es2).flatMap V.cells) ?_ hfit.flat
            rw [hfl]
            exact (h2.keep ⟨fun _ h=>h,rA⟩ AO).app (hnews.keep ⟨fun _ h=>h,rA⟩ (fun _ h=>by cases h))
           have kZ:aS g1.aM w' v' (.row (some lu) i.size es') (v'.ownBlock.toList++(A++[])):=by
            refine aS.own (hfit.sizes (fun e he=>?_)) hall (fun u hu'=>?_) ?_
            ·rcases List.mem_append.1 he with he | he
             ·exact h1 e he
             ·exact ql e he
            ·rcases List.mem_append.1 hu' with hu' | hu'
             ·exact h3 u hu'
             ·exact hsrc.one u hu'
            ·rw [← hfit.length,List.length_append];exact how
           refine hn ((g1.dD q.holder T').put d (v'.ownBlock.toList++(A++[])) fun _=>False) _ _ ?_ (fun h=>by rw [ho] at h;simp [kg,hc] at h)
           show aI C _ ((e2.st.dD q).put d _) _ _
           rw [hst]
           have hfree:∀ b∈T,(g1.dD q.holder T').own b=none∧¬ g1.aM b∧(C.W.heap.size≤b∨C.Fz b)∧b < w.heap.size:=by
            intro b hb'
            obtain ⟨o1,o2⟩:=dB b hb'
            have:=S1.own b _ o1
            refine ⟨?_,this.2.2,this.1,this.2.1⟩
            simp only [G.dD]
            rw [if_pos ⟨o1,o2⟩]
           have hnew:(g1.dD q.holder T').own w.heap.size=none:=by
            simp only [G.dD]
            split
            ·rfl
            ·cases ho':g1.own w.heap.size with
             | none=>rfl
             | some h'=>have:=(S1.own _ _ ho').2.1;omega
           refine S2.rQ (row:=(a.eval s).ownBlock) hgr (fun b hb'=>?_) hdN ?_ ?_ kZ
           ·have:=hfree b (by rw [hT,hb'];simp)
            exact ⟨this.1,this.2.1,this.2.2.1⟩
           ·rw [List.append_nil,List.nodup_append]
            rw [hT] at gF
            refine ⟨by cases v'.ownBlock<;>simp,(List.nodup_append.1 gF).2.1,fun b hb1 c hc1 e=>?_⟩
            subst e
            simp only [Option.mem_toList] at hb1
            rcases (hblk b hb1).1 with h5 | h5
            ·exact (List.nodup_append.1 gF).2.2 b (by rw [h5];simp) b hc1 rfl
            ·have:=(hfree b (by rw [hT];simp [hc1])).2.2.2;omega
           ·intro b hb'
            simp only [List.append_nil,List.mem_append,Option.mem_toList] at hb'
            rcases hb' with hb' | hb'
            ·obtain ⟨h5,h6⟩:=hblk b hb'
             rcases h5 with h5 | h5
             ·have:=hfree b (by rw [hT,h5];simp)
              exact ⟨this.1,this.2.1,this.2.2.1,h6⟩
             ·subst h5
              exact ⟨hnew,fun hp'=>by have:=S1.dJ _ hp';omega,.inl S1.size,h6⟩
            ·have:=hfree b (by rw [hT];simp [hb'])
             exact ⟨this.1,this.2.1,this.2.2.1,Nat.lt_of_lt_of_le this.2.2.2 hgr.size⟩
         ·cases h
        ·cases h
       ·cases h
      ·cases h
     ·cases h
    ·cases h
   ·cases h
  ·cases h
 ·cases h
end
end Go.Rf
end
section
namespace Go.Rf
open Go.RowKit
set_option linter.unusedVariables false
set_option linter.unusedSimpArgs false
variable [cO]
def D.bM:D→Bool
 | .v x=>x.bM
 | .ptr _ _=>true
 | .agg cs=>go cs
 | .aC cs=>go cs
 | .fn _ cs=>go cs
where go:List D→Bool
 | []=>true
 | c :: cs=>match c.bM with
  | true=>go cs
  | false=>false
mutual
theorem aV.bM {g:G} {w:World} {v:Value} {d:D} {T:List Nat}:aV g w v d T→d.bM=true→T=[]
 | .v h,hn=>h.bM hn
 | .ptr _,_=>rfl
 | .agg h,hn=>h.bM (by simpa [D.bM] using hn)
 | .aC h,hn=>h.bM (by simpa [D.bM] using hn)
 | .fn h,hn=>h.bM (by simpa [D.bM] using hn)
theorem cK.bM {g:G} {w:World} {vs:List Value} {ds:List D} {T:List Nat}:cK g w vs ds T→D.bM.go ds=true→T=[]
 | .nil,_=>rfl
 | .cons (d:=d) h1 h2,hn=>by
  simp only [D.bM.go] at hn
  cases hc:d.bM with
  | false=>rw [hc] at hn;cases hn
  | true=>rw [hc] at hn;rw [h1.bM hc,h2.bM hn];rfl
end
section
variable {P:Program} {C:Ctx}
def D.ad2:D→Bool
 | .v (.aC _)=>true
 | _=>false
def BU (P:Program) (N:Nat) (o:Oper) (QU:Bool) (x:Operand) (e:E):Option E :=
 match dN N o with
 | none=>none
 | some d=>match x with
  | .tmp t=>match look e.st.env t with
   | some (.d D)=>match D.bM with
    | true=>some { e with st:=e.st.put d (.d D) }
    | false=>match Nat.beq t d,QU || D.ad2 with
     | false,true=>some { e with st:={ e.st with env:=(d,.d D) :: (t,.dead) :: kill (di d) (kill (di t) e.st.env) } }
     | false,false=>some { e with st:=e.st.put d (.al (.top (.t t))) }
     | true,_=>none
   | some (.al p)=>match (X.al p).kill (di d) with
    | .al _=>some { e with st:=e.st.put d (.al p) }
    | _=>match p with
     | .top (.t s)=>match Nat.beq s d with
      | true=>some e
      | false=>none
     | _=>none
   | some (.pa r sz i j)=>match (X.pa r sz i j).kill (di d) with
    | .pa _ _ _ _=>some { e with st:=e.st.put d (.pa r sz i j) }
    | _=>none
   | _=>none
  | .const (.slice none 0 0)=>match P.underlying o.type with
   | some (.slice el)=>match gy P el with
    | some sz=>some (e.put d (.nil el sz))
    | none=>none
   | _=>none
  | .const v=>some (e.put d (.lit v))
  | .global v=>some (e.put d (.lit (.pointer (some ⟨v,0,none⟩))))
  | .func f=>some (e.put d (.gX f []))
theorem SV {o:Oper} {QU:Bool} {x:Operand} {e e':E} (ho:o.op=.move x∨o.op=.assign x) (h:BU P C.N o QU x e=some e'):bD P C o e e':=by
 have run:∀ {a:Act} {w:World},(execOp a.eval o).run P w=.ok (.value (a.eval x)) w:=by
  intro a w
  unfold execOp
  rcases ho with ho | ho<;>simp only [ho,Sem.run_pure]
 unfold BU at h
 split at h
 ·cases h
 rename_i d hd
 obtain ⟨hdd,hdN⟩:=fK hd
 split at h
 ·rename_i t
  split at h
  ·rename_i D hl
   split at h
   ·rename_i hno
    cases h
    refine fun hA=>⟨hA,fun g a w S next Q hn=>?_⟩
    obtain ⟨h1,h2,h3⟩:=S.env t _ hl
    have h2:aV g w (a.tmps.getD t undef) D (g.TE t):=h2
    have:=h2.bM hno
    rw [this] at h2
    refine fC run ?_
    rw [hdd]
    exact hn _ _ _ (S.iL (Calm.refl w) hdN h2) (fun _=>Calm.refl w)
   ·split at h
    ·rename_i hb _
     cases h
     have htd:t≠d:=fun e=>by rw [e,Nat.beq_refl] at hb;cases hb
     refine fun hA=>⟨hA,fun g a w S next Q hn=>?_⟩
     refine fC run ?_
     rw [hdd]
     exact hn _ _ _ (S.move htd hdN hl) (fun _=>Calm.refl w)
    ·rename_i hb _
     cases h
     have htd:t≠d:=fun e=>by rw [e,Nat.beq_refl] at hb;cases hb
     refine fun hA=>⟨hA,fun g a w S next Q hn=>?_⟩
     refine fC run ?_
     rw [hdd]
     obtain ⟨h1,h2,h3⟩:=S.env t _ hl
     have hk:(X.al (.top (.t t))).kill (di d)=.al (.top (.t t)):=by
      rcases X.iQ (di d) (X.al (.top (.t t))) with h | h
      ·simp only [X.kill,Pl.root,di] at h
       have:Nat.beq t d=false:=hb
       rw [this] at h;cases h
      ·exact h.1
     refine hn _ _ _ (S.uu hdN hk (by simp) ⟨rfl,?_⟩ (by simp)) (fun _=>Calm.refl w)
     have:t < a.tmps.size:=by rw [S.tmps];exact h1
     simp [pv,dY,Act.eval,Array.getD_eq_getD_getElem?,this]
    ·cases h
  ·rename_i p hl
   split at h
   ·rename_i p' hk
    cases h
    have hk:(X.al p).kill (di d)=.al p:=by
     rcases X.iQ (di d) (X.al p) with h | h
     ·rw [h] at hk;cases hk
     ·exact h.1
    refine fun hA=>⟨hA,fun g a w S next Q hn=>?_⟩
    refine fC run ?_
    rw [hdd]
    obtain ⟨h1,⟨_,h2⟩,h3⟩:=S.env t _ hl
    exact hn _ _ _ (S.uu hdN hk (by simp) ⟨rfl,h2⟩ (by simp)) (fun _=>Calm.refl w)
   ·split at h
    ·rename_i s _
     split at h
     ·rename_i hb
      cases h
      have hb:=Nat.eq_of_beq_eq_true hb
      subst hb
      refine fun hA=>⟨hA,fun g a w S next Q hn=>?_⟩
      refine fC run ?_
      rw [hdd]
      obtain ⟨h1,⟨_,h2⟩,h3⟩:=S.env t _ hl
      have h2:a.tmps[s]? = some (a.tmps.getD t undef):=h2
      have ha:a.put (some s) (a.eval (.tmp t))=a:=by
       rw [Act.jW]
       have:a.tmps.setIfInBounds s (a.eval (.tmp t))=a.tmps:=by
        apply Array.ext_getElem?
        intro i
        rw [Array.getElem?_setIfInBounds]
        split
        ·rename_i hi
         subst hi
         split
         ·exact h2.symm
         ·rename_i hlt
          rw [Array.getElem?_eq_none (by omega)] at h2;cases h2
        ·rfl
       rw [this]
      rw [ha]
      exact hn _ _ _ S (fun _=>Calm.refl w)
     ·cases h
    ·cases h
  ·rename_i r sz i j hl
   split at h
   ·rename_i hk
    cases h
    have hk:(X.pa r sz i j).kill (di d)=.pa r sz i j:=by
     rcases X.iQ (di d) (X.pa r sz i j) with h | h
     ·rw [h] at hk;cases hk
     ·exact h.1
    refine fun hA=>⟨hA,fun g a w S next Q hn=>?_⟩
    refine fC run ?_
    rw [hdd]
    obtain ⟨h1,⟨_,h2⟩,h3⟩:=S.env t _ hl
    exact hn _ _ _ (S.uu hdN hk (by simp) ⟨rfl,h2⟩ (by simp)) (fun _=>Calm.refl w)
   ·cases h
  ·cases h
 ·split at h
  ·rename_i el hu
   split at h
   ·rename_i sz hs
    cases h
    exact bD.vv hd id fun _ g a w S=>⟨_,g,S,run,.nil el sz⟩
   ·cases h
  ·cases h
 ·cases h;exact bD.vv hd id fun _ g a w S=>⟨_,g,S,run,.lit _⟩
 ·cases h;exact bD.vv hd id fun _ g a w S=>⟨_,g,S,run,.lit _⟩
 ·cases h;exact bD.vv hd id fun _ g a w S=>⟨_,g,S,run,.gX (cs:=[]) (vs:=[]) .nil⟩
def vU (l:List Int):List V:=l.map fun n=>.lit (.int .u8 n)
def BV (es:List V) (b:ByteArray):Prop:=∃ l:List Int,es=vU l∧b=strOfNums l
def Jc (P:Program) (N:Nat) (o:Oper) (s t:TypeId) (x:Operand) (e:E):Option E :=
 match dN N o with
 | none=>none
 | some d=>match P.underlying s,P.underlying t with
  | some (.slice el),some .string=>match P.underlying el with
   | some (.int .u8)=>match mg e.st x with
    | some (_,.row _ 1 es)=>match hint e with
     | some (.lit (.string b),e)=>some ((need (BV es b) e).put d (.lit (.string b)))
     | _=>none
    | some (_,.nil _ _)=>some (e.put d (.lit (.string .empty)))
    | _=>none
   | _=>none
  | _,_=>none
theorem ZY (b:ByteArray):(jo b).length=b.data.toList.length:=by simp only [jo,List.length_map]
theorem Zz (b:ByteArray):(jo b).flatMap V.cells=jo b:=by
 unfold jo
 generalize b.data.toList=l
 induction l with
 | nil=>rfl
 | cons c l ih=>simp only [List.map_cons,List.flatMap_cons,ih];rfl
theorem SX (l:List Int):(vU l).flatMap V.cells=vU l:=by
 unfold vU
 induction l with
 | nil=>rfl
 | cons c l ih=>simp only [List.map_cons,List.flatMap_cons,ih];rfl
theorem SY {p:bB} {w:World} {T:List Nat}:∀ {l:List Int} {xs:List Value},aN p w xs (vU l) T→xs=l.map (Value.int .u8):=by
 intro l
 induction l generalizing T with
 | nil=>intro xs h;cases h;rfl
 | cons b l ih =>
  intro xs h
  cases h with
  | cons h1 h2=>rw [h1.lI,ih h2];rfl
theorem GJ (l:List Int):(vU l).length=l.length:=List.length_map _
theorem abg {o:Oper} {s t:TypeId} {x:Operand} {e e':E} (ho:o.op=.convert s t x) (h:Jc P C.N o s t x e=some e'):bD P C o e e':=by
 unfold Jc at h
 split at h
 ·cases h
 rename_i d hd
 split at h
 ·rename_i el hs ht
  split at h
  ·rename_i hel
   split at h
   ·rename_i r ow es hp
    split at h
    ·rename_i b e1 hh
     cases h
     refine bD.lit (obs:=[BV es b]) hd (ik hh) fun hA g a w S=>?_
     have hes:BV es b:=by cases hA with | cons h _=>exact h
     obtain ⟨l,hes,hb⟩:=hes
     subst hes
     subst hb
     obtain ⟨T,_,hr,_⟩:=ng S hp
     have get:∀ {xs:List Value} {f:Nat→Option Value},xs=l.map (Value.int .u8)→(∀ j u,xs[j]? = some u→f j=some u)→∀ i,i < l.length→f i=some (.int .u8 (l.getD i 0)):=by
      intro xs f hx hf i hi
      refine hf i _ ?_
      rw [hx,List.getElem?_map,List.getD_eq_getElem?_getD,List.getElem?_eq_getElem hi]
      rfl
     have key:(convert s t (a.eval x)).run P w=.ok (.string (strOfNums l)) w:=by
      cases ow with
      | none =>
       obtain ⟨ao,cap,xs,⟨hx,QT⟩,h1,h2,h3,h4⟩:=xw hr
       rw [SX] at h2
       have hxs:=SY h2
       rw [hx,GJ]
       cases ao with
       | none =>
        have hn:l=[]:=by
         cases l with
         | nil=>rfl
         | cons c l =>
          rw [hxs] at h4
          obtain ⟨_,_,e',_⟩:=h4 0 _ rfl
          cases e'
        subst hn
        exact run_convert_bytes_nil w s el hs hel _ _ t ht
       | some ad =>
        cases hl:l with
        | nil =>
         rw [run_convert_bytes_string w s t el (some ad) _ cap hs hel ht]
         simp [Conv.bytesToString,loadCells,strOfNums]
         rfl
        | cons c l' =>
         rw [← hl]
         have h0:xs[0]? = some (.int .u8 c):=by rw [hxs,hl];rfl
         obtain ⟨b',o',e',_,_⟩:=h4 0 _ h0
         cases e'
         refine run_convert_bytes_arg w s el hs hel b' o' l.length cap l rfl (get (f:=fun j=>w.cell? ⟨b',o'+j,none⟩) hxs fun j u hj=>?_) t ht
         obtain ⟨b2,o2,e2,_,hc⟩:=h4 j u hj
         cases e2
         exact hc
      | some et =>
       obtain ⟨xs,A,hT,h1,h2,h3,how⟩:=nN hr
       rw [SX] at h2
       have hxs:=SY h2
       have how':=how
       rcases how.2 with ⟨hv,hn⟩ | ⟨gb,cap,cur,hv,_,hg,_⟩
       ·rw [hv]
        have:l=[]:=List.eq_nil_of_length_eq_zero (by rw [← GJ];exact hn)
        subst this
        exact run_convert_bytes_nil w s el hs hel _ _ t ht
       ·rw [hv] at how' ⊢
        rw [GJ]
        refine run_convert_bytes_arg w s el hs hel gb 0 l.length cap l rfl (get (f:=fun j=>w.cell? ⟨gb,0+j,none⟩) hxs fun j u hj=>?_) t ht
        have:=how'.cells (g:=gb) rfl j u hj
        rw [Addr.add_mid] at this
        exact this
     unfold execOp
     simp only [ho,Sem.run_bind,key,Result.andThen_ok,Sem.run_pure]
    ·cases h
   ·rename_i r e1 s1 hp
    cases h
    refine bD.vv hd id fun _ g a w S=>⟨.string .empty,g,S,?_,.lit _⟩
    obtain ⟨T,_,hr,_⟩:=ng S hp
    have hv:a.eval x=.slice none 0 0:=by generalize a.eval x=v at hr;cases hr;rfl
    unfold execOp
    simp only [ho,hv,Sem.run_bind,run_convert_bytes_string w s t el none 0 0 hs hel ht,Conv.bytesToString,Sem.run_pure,Result.andThen_ok]
   ·cases h
  ·cases h
 ·cases h
def Hy (P:Program) (N:Nat) (o:Oper) (s t:TypeId) (x:Operand) (e:E):Option E :=
 match dN N o with
 | none=>none
 | some d=>match P.underlying s,P.underlying t with
  | some .string,some (.slice el)=>match P.underlying el with
   | some (.int .u8)=>match vals [x] e with
    | some ([.lit (.string b)],e)=>some (e.put d (.row none 1 (jo b)))
    | _=>none
   | _=>none
  | _,_=>none
theorem ZZ {o:Oper} {s t:TypeId} {x:Operand} {e e':E} (ho:o.op=.convert s t x) (h:Hy P C.N o s t x e=some e'):bD P C o e e':=by
 unfold Hy at h
 split at h
 ·cases h
 rename_i d hd
 split at h
 ·rename_i el hs ht
  split at h
  ·rename_i hel
   split at h
   ·rename_i b e1 hv
    cases h
    refine bD.of hd hv rfl id fun _ ρ w p r=>?_
    obtain ⟨v,vs,hvs,r1,_⟩:=r.cons_inv
    have hx:ρ x=.string b:=by rw [← r1.lI];exact (List.cons.inj hvs).1
    have hrun:=run_bytes_of_string (P:=P) w s t el b hs ht hel
    let cap:=grownCap w b.size 0 el
    let w':=w.drew.alloc (.cells (bytesRow b cap) el ((bytesRow b cap).size,(bytesRow b cap).size+1))
    refine ⟨.slice (some ⟨w.heap.size,0,none⟩) b.size cap,w',?_,⟨rfl,rfl,rfl,by simp [w'],fun k hk=>Below.heap_alloc w.drew _ k hk⟩,fun b=>b=w.heap.size,fun b' hb'=>by subst hb';simp [w'],?_⟩
    ·unfold execOp
     simp only [ho,hx,Sem.run_bind,hrun,Result.andThen_ok,Sem.run_pure];rfl
    ·have hl:b.size=(jo b).length:=by rw [ZY,Array.length_toList];rfl
     rw [hl]
     refine aS.shared (xs:=oF b) (by rw [← hl];exact grownCap_ge _ _ _ _) (fun u hu=>?_) (by rw [Zz];exact SS _ _ b) (fun u hu=>?_) (fun j u hj=>⟨w.heap.size,0,rfl,.inr rfl,?_⟩)
     ·simp only [jo,List.mem_map] at hu
      obtain ⟨c,_,rfl⟩:=hu
      rfl
     ·simp only [oF,List.mem_map] at hu
      obtain ⟨c,_,rfl⟩:=hu
      rfl
     ·have hh:w'.heap[w.heap.size]? = some (.cells (bytesRow b cap) el ((bytesRow b cap).size,(bytesRow b cap).size+1)):=by
       show (w.heap.push _)[w.heap.size]? = _
       rw [Array.getElem?_push_size]
      simp only [World.cell?,hh]
      simp only [oF,List.getElem?_map] at hj
      simp only [Nat.zero_add,bytesRow]
      cases hjj:b.data.toList[j]? with
      | none=>rw [hjj] at hj;cases hj
      | some c =>
       rw [hjj] at hj
       simp only [Option.map_some,Option.some.injEq] at hj
       have hlt:j < b.data.size:=by
        rcases Nat.lt_or_ge j b.data.size with h | h
        ·exact h
        ·rw [List.getElem?_eq_none (by simpa using h)] at hjj;cases hjj
       have:b.data[j]? = some c:=by rw [← Array.getElem?_toList];exact hjj
       simp only [Option.isSome,Bool.false_eq_true,if_false]
       rw [Array.getElem?_append_left (by rw [Array.size_map];exact hlt),Array.getElem?_map,this,← hj];rfl
   ·cases h
  ·cases h
 ·cases h
end
end Go.Rf
end
section
namespace Go.Rf
open Go.RowKit
set_option linter.unusedVariables false
set_option linter.unusedSimpArgs false
variable [cO]
section
variable {P:Program} {C:Ctx}
theorem aaC (z:Array Value) (n:Nat):(madeCells z ((n+1)*z.size)).toList=z.toList++(madeCells z (n*z.size)).toList:=by
 have e:(n+1)*z.size=z.size+n*z.size:=by rw [Nat.add_mul,Nat.one_mul,Nat.add_comm]
 simp only [madeCells,Array.toList_map,Array.toList_range,e,List.range_add,List.map_append,List.map_map]
 congr 1
 ·apply List.ext_getElem?
  intro j
  by_cases hj:j < z.size
  ·rw [List.getElem?_map,List.getElem?_range hj]
   simp [Nat.mod_eq_of_lt hj,hj]
  ·rw [List.getElem?_eq_none (by simp;omega),List.getElem?_eq_none (by simp;omega)]
 ·apply List.map_congr_left
  intro j _
  simp
theorem TM {p:bB} {w:World} {z:Array Value} {d:V} (h:aN p w z.toList d.cells []):∀ n,aN p w (madeCells z (n*z.size)).toList ((List.replicate n d).flatMap V.cells) []
 | 0=>by simp [madeCells];exact .nil
 | n+1=>by
  rw [aaC,List.replicate_succ,List.flatMap_cons]
  exact h.app (TM h n)
def GK (P:Program) (N:Nat) (o:Oper) (t:TypeId) (l c:Operand) (e:E):Option E :=
 match dN N o with
 | none=>none
 | some d=>match P.underlying t with
  | some (.slice el)=>match P.info? el with
   | some i=>match i.zero with
    | some z=>match zeroV P el with
     | some zs=>match lJ P el zs with
      | some ze=>match vals [l,c] e with
       | some ([.lit (.int _ n),.lit (.int _ m)],e)=>match hint e with
        | some (.row (some e') s' es',e)=>match Nat.beq e' el && Nat.beq s' i.size && il ze.cells && Nat.beq zs.length i.size && Nat.beq ze.cells.length i.size && Nat.ble 1 i.bytes with
         | true=>some ((need (List.replicate n.toNat ze=es') (need (m≤((281474976710656 / i.bytes:Nat):Int)) (need (n≤m) (need (0≤n) e)))).put d (.row (some el) i.size es'))
         | false=>none
        | _=>none
       | _=>none
      | none=>none
     | none=>none
    | none=>none
   | none=>none
  | _=>none
theorem aaD {t:TypeId} {cs:List V} {u:V} (h:lJ P t cs=some u) (hl:u.cells.length=cs.length) (h1:il cs=true):u.cells=cs:=by
 unfold lJ at h
 split at h
 ·split at h
  ·split at h
   ·cases h
    simp only [V.cells,List.length_take] at hl ⊢
    exact List.take_of_length_le (by omega)
   ·cases h
  ·cases h
 ·split at h
  ·rename_i c cs'
   split at h
   ·cases h
   ·cases h
    have hc:u.cells=[u]:=by
     cases u<;>first | rfl | (rename_i hn;exact (hn _ rfl).elim)
    rw [hc] at hl ⊢
    simp at hl
    rw [hl]
  ·cases h
 ·cases h
theorem ZA {o:Oper} {t:TypeId} {l c:Operand} {e e':E} (ho:o.op=.makeSlice t l c) (h:GK P C.N o t l c e=some e'):bD P C o e e':=by
 unfold GK at h
 split at h
 ·cases h
 rename_i d hd
 split at h
 ·rename_i el hu
  split at h
  ·rename_i i hi
   split at h
   ·rename_i z hz
    split at h
    ·rename_i zs hzs
     split at h
     ·rename_i ze hze
      split at h
      ·rename_i k n k' m e1 hv
       split at h
       ·rename_i lu s' es' e2 hh
        split at h
        ·rename_i hck
         simp only [Bool.and_eq_true] at hck
         obtain ⟨⟨⟨⟨⟨c1,c2⟩,c3⟩,c4⟩,c5⟩,c6⟩:=hck
         have c1:=Nat.eq_of_beq_eq_true c1
         have c2:=Nat.eq_of_beq_eq_true c2
         have c4:=Nat.eq_of_beq_eq_true c4
         have c5:=Nat.eq_of_beq_eq_true c5
         have c6:=Nat.le_of_ble_eq_true c6
         subst c1
         subst c2
         cases h
         obtain ⟨q1,q2⟩:=ik hh
         obtain ⟨it,zv,hit,hzv,h1,wZ⟩:=xH hzs
         rw [hi] at hit
         cases hit
         rw [hz] at hzv
         cases hzv
         have hzc:ze.cells=zs:=aaD hze (by rw [c5,c4]) h1
         refine bD.new (e1:=e1) (u:=.row (some lu) i.size es') hd hv (by simp only [E.put,need,q2]) ?_ fun hA ρ w p hp r=>?_
         ·intro hA
          have:=(All.snoc (All.snoc (All.snoc (All.snoc hA).1).1).1).1
          exact q1 ▸ this
         ·obtain ⟨hA,a4⟩:=All.snoc hA
          obtain ⟨hA,a3⟩:=All.snoc hA
          obtain ⟨hA,a2⟩:=All.snoc hA
          obtain ⟨hA,a1⟩:=All.snoc hA
          obtain ⟨v1,vs1,hvs,r1,r2⟩:=r.cons_inv
          obtain ⟨v2,vs2,KS,r3,_⟩:=r2.cons_inv
          have hl:ρ l=.int k n:=by rw [← r1.lI];exact (List.cons.inj hvs).1
          have hc:ρ c=.int k' m:=by
           rw [← r3.lI]
           have:=(List.cons.inj hvs).2
           rw [KS] at this
           exact (List.cons.inj this).1
          have hzs':z.cells.size=i.size:=by rw [← Array.length_toList,(wZ p w).length,c4]
          have hm:(i.bytes:Int)*m≤281474976710656:=by
           have h5:i.bytes*m.toNat≤281474976710656:=by
            have:m.toNat≤281474976710656 / i.bytes:=by omega
            rw [Nat.mul_comm]
            exact Nat.le_trans (Nat.mul_le_mul_right _ this) (Nat.div_mul_le_self _ _)
           have h6:((i.bytes*m.toNat:Nat):Int)=(i.bytes:Int)*m:=by rw [Int.natCast_mul,Int.toNat_of_nonneg (by omega)]
           omega
          have hm2:m≤281474976710656:=by
           have h5:281474976710656 / i.bytes≤281474976710656:=Nat.div_le_self _ _
           omega
          have hrun:=run_make (P:=P) w t lu i z hu hi hz k k' n m a1 a2 hm (by omega)
          refine ⟨.slice (some ⟨w.heap.size,0,none⟩) n.toNat m.toNat,w.alloc (.cells (madeCells z.cells (m.toNat*i.size)) lu),[w.heap.size],?_,Calm.of (World.grownBy_alloc w _ none),?_,by simp,?_⟩
          ·unfold execOp
           simp only [ho,hl,hc,Sem.run_bind,hrun,Result.andThen_ok,Sem.run_pure]
          ·have hlen:es'.length=n.toNat:=by rw [← a4];simp
           have hrep:=TM (p:=p) (w:=w) (z:=z.cells) (d:=ze) (by rw [hzc];exact wZ p w) n.toNat
           rw [a4,hzs'] at hrep
           have h1':∀ e∈es',e.cells.length=i.size:=by
            intro e he
            rw [← a4] at he
            rw [List.eq_of_mem_replicate he,c5]
           have hall:il (es'.flatMap V.cells)=true:=by
            rw [← a4]
            generalize n.toNat=q
            induction q with
            | zero=>rfl
            | succ q ih=>rw [List.replicate_succ,List.flatMap_cons,uU];exact ⟨c3,ih⟩
           have hone:=hrep.one hall
           have hpre:(madeCells z.cells (n.toNat*i.size)).toList=(madeCells z.cells (m.toNat*i.size)).toList.take (n.toNat*i.size):=by
            have:n.toNat*i.size≤m.toNat*i.size:=Nat.mul_le_mul_right _ (by omega)
            simp only [madeCells,Array.toList_map,Array.toList_range,← List.map_take,List.take_range,Nat.min_eq_left this]
           have:=aS.own (p:=p) (w:=w.alloc (.cells (madeCells z.cells (m.toNat*i.size)) lu)) (A:=[]) (v:=.slice (some ⟨w.heap.size,0,none⟩) n.toNat m.toNat) (e:=lu) (sz:=i.size) (es:=es') (xs:=(madeCells z.cells (n.toNat*i.size)).toList) h1'
            (hrep.keep ⟨fun _ h=>h,fun b hb=>Below.heap_alloc w _ b (hp b hb)⟩ (fun _ h=>by cases h)) hone ?_
           ·simpa [Value.ownBlock] using this
           ·refine ⟨by rw [hlen,Array.length_toList,size_madeCells],.inr ⟨w.heap.size,m.toNat,_,by rw [hlen],Nat.zero_le _,Go.heap_alloc_new w _,by rw [hlen];omega,?_,size_madeCells _ _,by rw [hlen,hpre]⟩⟩
            simp only [maxLen];omega
          ·intro b hb
           simp only [List.mem_singleton] at hb
           subst hb
           simp
        ·cases h
       ·cases h
      ·cases h
     ·cases h
    ·cases h
   ·cases h
  ·cases h
 ·cases h
end
end Go.Rf
end
section
namespace Go.Rf
open Go.RowKit
set_option linter.unusedVariables false
set_option linter.unusedSimpArgs false
variable [cO]
def aW (P:Program) (f:FuncId) (us:List V) (r:V):Prop :=
 (∀ vs w,(callFunc f vs).run P w=.ok (.enter f vs) w) ∧
 ∀ (p:bB) (w:World) (vs:List Value),(∀ b,p b→b < w.heap.size)→cO.t p w→aN p w vs us []→Calls P f vs.toArray w fun e w' =>
  ∃ (v:Value) (T:List Nat) (q:bB),e=.returned v∧Calm w w'∧(∀ b,q b→w.heap.size≤b∧b < w'.heap.size)∧T.Nodup∧(∀ b∈T,w.heap.size≤b∧b < w'.heap.size∧¬ q b)∧aS (fun b=>p b∨q b) w' v r T
def zm (P:Program) (f:FuncId) (us:List V) (r:V):Prop:=∃ us',dH us us'∧aW P f us' r
theorem aW.n {P:Program} {f:FuncId} {us us':List V} {r:V} (h:aW P f us' r) (f1:dH us us'):zm P f us r:=⟨us',f1,h⟩
theorem aW.c {P:Program} {f:FuncId} {us:List V} {r:V} (h:aW P f us r):zm P f us r:=⟨us,dH.refl us,h⟩
section
variable {P:Program} {C:Ctx}
theorem aI.calm {g:G} {st:St} {a:Act} {w w':World} (S:aI C g st a w) (k:Calm w w'):aI C g st a w' :=
 S.change (fun _=>False) S.defers S.tmps k.os k.tape k.output k.size (fun _ h=>h) (fun _ h=>.inl h) (fun b hb=>Nat.lt_of_lt_of_le (S.dJ b hb) k.size) S.n (Nat.le_refl _) (fun _ _=>rfl) (fun b hb _=>k.same b hb)
  (fun b h ho _=>ho) (fun t _=>⟨rfl,rfl⟩) (fun i _=>⟨rfl,rfl⟩) (fun t x hx=>.inl ⟨fun h=>h,.inl ⟨hx,fun _ _ h=>h⟩⟩) (fun id b _ h=>h.elim) (fun t h=>h.elim) (fun i h=>h.elim) (fun b h ho=>.inl ⟨ho,(S.own b h ho).2.2⟩)
def Dl:V→Option (FuncId × List V)
 | .gX f cs=>some (f,cs)
 | _=>none
theorem UE {u:V} {n:FuncId} {cs:List V} (h:Dl u=some (n,cs)):u=.gX n cs:=by
 unfold Dl at h
 split at h
 ·cases h;rfl
 ·cases h
theorem aS.UF {p:bB} {w:World} {v:Value} {f:FuncId} {cs:List V} {T:List Nat} (h:aS p w v (.gX f cs) T):∃ vs:List Value,v=.func (.func f) #[] vs.toArray∧aN p w vs cs []:=by
 cases h with
 | gX h=>exact ⟨_,rfl,h⟩
def IG (N:Nat) (P:Program) (o:Oper) (f:Operand) (xs:List Operand) (e:E):Option E :=
 match val f e with
 | some (u,e)=>match Dl u with
  | some (n,cs)=>match vals xs e with
   | some (us,e)=>match hint e with
    | some (r,e)=>match o.dst with
     | none=>some (need (zm P n (us++cs) r) e)
     | some _=>match dN N o with
      | some d=>some ((need (zm P n (us++cs) r) e).put d r)
      | none=>none
    | none=>none
   | none=>none
  | none=>none
 | none=>none
theorem aaE {o:Oper} {c:Call} {f:Operand} {e e':E} (ho:o.op=.call c) (hc:c.callee=.value f) (h:IG C.N P o f c.args.toList e=some e'):bD P C o e e':=by
 unfold IG at h
 split at h
 ·rename_i u0 e1 hf
  split at h
  rotate_left
  ·cases h
  rename_i n cs hfn
  have hfn:=UE hfn
  subst hfn
  split at h
  ·rename_i us e2 hv
   split at h
   ·rename_i r e3 hh
    obtain ⟨q1,q2⟩:=ik hh
    have main:∀ (nH:zm P n (us++cs) r) (hA:All e3.ob) g a w,aI C g e.st a w→∃ g1,aI C g1 e2.st a w∧∀ (K:Value→World→Prop) (Q:Exit→Act→World→Prop) (next:Act→World→Prop),
     (∀ (v:Value) (w':World) (T:List Nat) (q:bB),Calm w w'→(∀ b,q b→w.heap.size≤b∧b < w'.heap.size)→T.Nodup→(∀ b∈T,w.heap.size≤b∧b < w'.heap.size∧¬ q b)→aS (fun b=>g1.aM b∨q b) w' v r T→next (a.put o.dst v) w')→o.wp P a w next Q:=by
     intro nH hA g a w S
     obtain ⟨us',hfit,hen,hcon⟩:=nH
     obtain ⟨hA1,kv⟩:=nM (C:=C) hv (q1 ▸ hA)
     obtain ⟨_,kf⟩:=val_ok (C:=C) hf hA1
     obtain ⟨g0,k0,S0,r0⟩:=kf g a w S
     obtain ⟨g1,k1,S1,r1⟩:=kv g0 a w S0
     refine ⟨g1,S1,fun K Q next hn=>?_⟩
     obtain ⟨QV,sw,rc⟩:=r0.UF
     have hargs:(c.args.map a.eval)=(c.args.toList.map a.eval).toArray:=by apply Array.ext';rw [Array.toList_map]
     unfold Oper.wp
     have:(execOp a.eval o).run P w=.ok (.enter n (c.args.toList.map a.eval++QV).toArray) w:=by
      unfold execOp
      simp only [ho,resolve,hc,sw,hargs,Deferred.ofValue,Sem.run_bind,Sem.run_pure,Result.andThen_ok,invoke]
      simpa using hen _ w
     rw [this,Oper.upon_enter]
     refine (hcon g1.aM w _ S1.dJ S1.tab ((r1.app (rc.keep k1.k (fun _ h=>by cases h))).fit hfit)).mono fun e w' he=>?_
     obtain ⟨v,T,q,rfl,hcalm,hq,hT,lV,hR⟩:=he
     exact hn v w' T q hcalm hq hT lV hR
    split at h
    ·rename_i hd
     cases h
     intro hA
     obtain ⟨hA,nH⟩:=All.snoc (l:=e3.ob) hA
     have h0:=(val_ok (C:=C) hf (nM (C:=C) hv (q1 ▸ hA)).1).1
     refine ⟨h0,fun g a w S next Q hn=>?_⟩
     obtain ⟨g1,S1,m⟩:=main nH hA g a w S
     refine m (fun _ _=>True) Q next fun v w' T q hcalm hq hT lV hR=>?_
     rw [hd]
     refine hn g1 _ _ ?_ (fun _=>hcalm)
     show aI C g1 e3.st _ _
     rw [q2]
     exact S1.calm hcalm
    ·split at h
     ·rename_i d hd
      cases h
      obtain ⟨hdd,hdN⟩:=fK hd
      intro hA
      obtain ⟨hA,nH⟩:=All.snoc (l:=e3.ob) hA
      have h0:=(val_ok (C:=C) hf (nM (C:=C) hv (q1 ▸ hA)).1).1
      refine ⟨h0,fun g a w S next Q hn=>?_⟩
      obtain ⟨g1,S1,m⟩:=main nH hA g a w S
      refine m (fun _ _=>True) Q next fun v w' T q hcalm hq hT lV hR=>?_
      rw [hdd]
      refine hn (g1.put d T q) _ _ ?_ (fun _=>hcalm)
      show aI C _ (e3.st.put d _) _ _
      rw [q2]
      exact S1.put hcalm hdN hq hT lV (.v hR)
     ·cases h
   ·cases h
  ·cases h
 ·cases h
def Jd (P:Program) (N:Nat) (o:Oper) (t:TypeId) (x:Operand) (lo hi:Option Operand) (e:E):Option E :=
 match dN N o with
 | none=>none
 | some d=>match P.underlying t with
  | some (.slice el)=>match gy P el with
   | some sz=>match vals (lo.toList++hi.toList) e with
    | some (bs,e)=>match lits bs with
     | some vs=>match hint e with
      | some (.row none _ es',e)=>match val x e with
       | some (.row none s es,e)=>match Nat.beq s sz && Nat.ble 1 s with
        | true=>match mM es.length lo.isSome hi.isSome vs with
         | some (l,h,obs)=>some ((need ((es.drop l).take (h - l)=es') { e with ob:=e.ob++obs }).put d (.row none sz es'))
         | none=>none
        | false=>none
       | _=>none
      | some (.row (some _) _ es',e)=>match mg e.st x with
       | some (r,.row (some el') s es)=>match Nat.beq s sz with
        | true=>match lo.isSome,mM es.length lo.isSome hi.isSome vs with
         | false,some (l,h,obs)=>some { (need (es.take h=es') { e with ob:=e.ob++obs }) with st:=(e.st.dD r).put d (.d (.v (.row (some el') sz es'))) }
         | _,_=>none
        | false=>none
       | _=>none
      | _=>none
     | none=>none
    | none=>none
   | none=>none
  | _=>none
theorem FM {sz:Nat}:∀ {es:List V} (h:Nat),(∀ e∈es,e.cells.length=sz)→(es.take h).flatMap V.cells=(es.flatMap V.cells).take (h*sz)
 | [],h,_=>by simp
 | e :: es,0,_=>by simp
 | e :: es,h+1,hs=>by
  have h1:=hs e (by simp)
  rw [List.take_succ_cons,List.flatMap_cons,List.flatMap_cons,FM h (fun e he=>hs e (by simp [he]))]
  rw [show (h+1)*sz=e.cells.length+h*sz by rw [h1,Nat.add_mul,Nat.one_mul,Nat.add_comm],List.take_length_add_append]
theorem Sj {sz:Nat}:∀ {es:List V} (h:Nat),(∀ e∈es,e.cells.length=sz)→(es.drop h).flatMap V.cells=(es.flatMap V.cells).drop (h*sz)
 | [],h,_=>by simp
 | e :: es,0,_=>by simp
 | e :: es,h+1,hs=>by
  have h1:=hs e (by simp)
  rw [List.drop_succ_cons,List.flatMap_cons,Sj h (fun e he=>hs e (by simp [he]))]
  rw [show (h+1)*sz=e.cells.length+h*sz by rw [h1,Nat.add_mul,Nat.one_mul,Nat.add_comm],List.drop_length_add_append]
theorem abh {o:Oper} {t:TypeId} {x:Operand} {lo hi:Option Operand} {e e':E} (ho:o.op=.slice t x lo hi none) (h:Jd P C.N o t x lo hi e=some e'):bD P C o e e':=by
 unfold Jd at h
 split at h
 ·cases h
 rename_i d hd
 obtain ⟨hdd,hdN⟩:=fK hd
 split at h
 ·rename_i el hu
  split at h
  ·rename_i sz hsz
   split at h
   ·rename_i bs e1 hv
    split at h
    ·rename_i vs hl
     have exec:∀ {a:Act} {w:World} {ao:Option Addr} {n cap l hh:Nat},a.eval x=.slice ao n cap→(Instr.sliceBounds true n cap (lo.map a.eval) (hi.map a.eval) none).run P w=.ok (l,hh,cap) w →
      (execOp a.eval o).run P w=.ok (.value (.slice (if cap=l then ao else ao.map (·.add (l*sz))) (hh - l) (cap - l))) w:=by
      intro a w ao n cap l hh hx hb
      unfold gy at hsz
      cases hi':P.info? el with
      | none=>rw [hi'] at hsz;cases hsz
      | some inf =>
       rw [hi'] at hsz
       cases hsz
       unfold execOp
       simp only [ho,hx,Instr.sliceAt,Instr.slice,Sem.run_bind,run_underlying hu,Option.map_none,Result.andThen_ok,hb,sizeOf,typeInfo,run_program,hi',Sem.run_pure]
     split at h
     ·rename_i s0 es' e2 hh
      obtain ⟨q1,q2⟩:=ik hh
      split at h
      ·rename_i s es e3 hx
       split at h
       ·rename_i hck
        rw [Bool.and_eq_true] at hck
        have c1:=Nat.eq_of_beq_eq_true hck.1
        have c2:=Nat.le_of_ble_eq_true hck.2
        subst c1
        split at h
        ·rename_i l hh' obs hcut
         cases h
         intro hA
         obtain ⟨hA,heq⟩:=All.snoc (l:=e3.ob++obs) hA
         have vV:=hA.right
         have hA:=hA.left
         obtain ⟨hA2,kx⟩:=val_ok (C:=C) hx hA
         obtain ⟨h0,kv⟩:=nM (C:=C) hv (q1 ▸ hA2)
         refine ⟨h0,fun g a w S next Q hn=>?_⟩
         obtain ⟨g1,k1,S1,r1⟩:=kv g a w S
         obtain ⟨g2,k2,S2,r2⟩:=kx g1 a w (q2 ▸ S1)
         obtain ⟨ao,cap,xs,⟨hxv,QT⟩,h1,h2,h3,h4⟩:=xw r2
         have hvs:=pE hl r1
         have hle:=Ux hcut vV
         have hcap:=QT
         ·refine fC (exec hxv (Br w true hcap hvs hcut vV)) ?_
          rw [hdd]
          have hlen:hh' - l=((es.drop l).take (hh' - l)).length:=by simp;omega
          have hR:aS g2.aM w (.slice (if cap=l then ao else ao.map (·.add (l*s))) (hh' - l) (cap - l)) (.row none s es') []:=by
           rw [← heq]
           generalize hq:hh' - l=q at hlen ⊢
           rw [hlen]
           have hfl:((es.drop l).take q).flatMap V.cells=((es.flatMap V.cells).drop (l*s)).take (q*s):=by
            rw [FM q (fun e he=>h1 e (List.mem_of_mem_drop he)),Sj l h1]
           obtain ⟨A,B,gD,_,hd2⟩:=h2.cut (l*s)
           have hB:=(List.append_eq_nil_iff.1 gD.symm).2
           subst hB
           obtain ⟨A,B,gD,hd3,_⟩:=hd2.cut (q*s)
           have hA':=(List.append_eq_nil_iff.1 gD.symm).1
           subst hA'
           rw [← hlen]
           have hgo:aS g2.aM w (.slice (if cap=l then ao else ao.map (·.add (l*s))) ((es.drop l).take q).length (cap - l)) (.row none s ((es.drop l).take q)) []:=by
            refine aS.shared (xs:=(xs.drop (l*s)).take (q*s)) (by rw [← hlen,← hq];omega) (fun e he=>h1 e (List.mem_of_mem_drop (List.mem_of_mem_take he))) (by rw [hfl];exact hd3) (fun u hu=>h3 u (List.mem_of_mem_drop (List.mem_of_mem_take hu))) (fun j u hj=>?_)
            have hj2:xs[l*s+j]? = some u:=by
             rw [List.getElem?_take] at hj
             split at hj
             ·rwa [List.getElem?_drop] at hj
             ·cases hj
            obtain ⟨b,AB,e',hp,hc⟩:=h4 _ _ hj2
            subst e'
            by_cases hcl:cap=l
            ·exfalso
             have:l*s+j < xs.length:=by
              rcases Nat.lt_or_ge (l*s+j) xs.length with h | h
              ·exact h
              ·rw [List.getElem?_eq_none h] at hj2;cases hj2
             rw [h2.length,fD h1] at this
             have:es.length*s≤l*s:=Nat.mul_le_mul_right _ (by omega)
             omega
            ·rw [if_neg hcl]
             refine ⟨b,AB+l*s,by simp [Addr.add_mid],hp,?_⟩
             rwa [Nat.add_assoc]
           rw [← hlen] at hgo
           exact hgo
          refine hn _ _ _ (S2.iL (Calm.refl w) hdN (.v hR)) (fun _=>Calm.refl w)
        ·cases h
       ·cases h
      ·cases h
     ·rename_i s0 s1 es' e2 hh
      obtain ⟨q1,q2⟩:=ik hh
      split at h
      ·rename_i r el' s es hp
       split at h
       ·rename_i hck
        have c1:=Nat.eq_of_beq_eq_true hck
        subst c1
        split at h
        ·rename_i l hh' obs hlo hcut
         cases h
         intro hA
         obtain ⟨hA,heq⟩:=All.snoc (l:=e2.ob++obs) hA
         have vV:=hA.right
         have hA:=hA.left
         obtain ⟨h0,kv⟩:=nM (C:=C) hv (q1 ▸ hA)
         refine ⟨h0,fun g a w S next Q hn=>?_⟩
         obtain ⟨g1,k1,S1,r1⟩:=kv g a w S
         have hvs:=pE hl r1
         have hle:=Ux hcut vV
         have hl0:l=0:=by
          rw [hlo] at hcut
          unfold mM at hcut
          split at hcut<;>first | (cases hcut;rfl) | (cases hcut;done) | (rename_i h1 _ _;cases h1;done) | skip
          all_goals simp_all
         subst hl0
         have QW:aI C g1 e2.st a w:=q2 ▸ S1
         obtain ⟨v,T,T',hpv,hR,gF,dB,KR,kw,S2⟩:=QW.take (F9 hp)
         obtain ⟨_,rR,_⟩:=ng QW hp
         have hv:v=a.eval x:=by rw [hpv] at rR;exact Option.some.inj rR
         subst hv
         obtain ⟨xs,A,hT,h1,h2,h3,how⟩:=nN hR
         have hfl:(es.take hh').flatMap V.cells=(es.flatMap V.cells).take (hh'*s):=FM hh' h1
         obtain ⟨A1,A2,Yu,hd1,_⟩:=h2.cut (hh'*s)
         rw [← hfl] at hd1
         have hlen:hh'=(es.take hh').length:=by simp;omega
         have hfree:∀ b∈T,(g1.dD r.holder T').own b=none∧¬ g1.aM b∧(C.W.heap.size≤b∨C.Fz b)∧b < w.heap.size:=by
          intro b hb'
          obtain ⟨o1,o2⟩:=dB b hb'
          have:=QW.own b _ o1
          refine ⟨?_,this.2.2,this.1,this.2.1⟩
          simp only [G.dD]
          rw [if_pos ⟨o1,o2⟩]
         have hres:∃ v',(execOp a.eval o).run P w=.ok (.value v') w∧w.ownsRow 0 el' s v' hh' (xs.take (hh'*s))∧v'.ownBlock=(a.eval x).ownBlock:=by
          have hxl:(xs.take (hh'*s)).length=hh'*s:=by
           rw [List.length_take,how.1]
           exact Nat.min_eq_left (Nat.mul_le_mul_right _ hle.2)
          rcases how.2 with ⟨hv0,hn0⟩ | ⟨b,cap,cur,hv0,hb0,hg,hnc,hcm,hcs,htk⟩
          ·have hh0:hh'=0:=by omega
           have ad3:mM 0 lo.isSome hi.isSome vs=some (0,hh',obs):=(congrArg (fun n=>mM n lo.isSome hi.isSome vs) hn0).symm.trans hcut
           refine ⟨_,exec hv0 (Br (n:=0) (cap:=0) w true (Nat.le_refl _) hvs ad3 vV),⟨hxl,.inl ⟨by subst hh0;simp,hh0⟩⟩,?_⟩
           rw [hv0];simp [Value.ownBlock]
          ·refine ⟨_,exec hv0 (Br w true hnc hvs hcut vV),⟨hxl,.inr ⟨b,cap,cur,?_,hb0,hg,by omega,hcm,hcs,?_⟩⟩,?_⟩
           ·simp [Addr.add]
           ·rw [← htk,List.take_take,Nat.min_eq_left (Nat.mul_le_mul_right _ hle.2)]
           ·rw [hv0];simp [Value.ownBlock,Addr.add]
         obtain ⟨v',hrun,how',hblk⟩:=hres
         refine fC hrun ?_
         rw [hdd]
         have kZ:aS g1.aM w v' (.row (some el') s es') (v'.ownBlock.toList++A1):=by
          rw [← heq]
          refine aS.own (fun e he=>h1 e (List.mem_of_mem_take he)) hd1 (fun u hu'=>h3 u (List.mem_of_mem_take hu')) ?_
          rw [← hlen];exact how'
         have hsub:∀ b∈v'.ownBlock.toList++A1,b∈T:=by
          intro b hb'
          rw [hT,Yu]
          rw [hblk] at hb'
          simp only [List.mem_append] at hb' ⊢
          rcases hb' with h | h
          ·exact .inl h
          ·exact .inr (.inl h)
         refine hn ((g1.dD r.holder T').put d (v'.ownBlock.toList++A1) fun _=>False) _ _ ?_ (fun _=>Calm.refl w)
         refine S2.rQ (row:=none) ⟨rfl,rfl,rfl,Nat.le_refl _,fun _ _ _=>rfl⟩ (by simp) hdN ?_ (fun b hb'=>hfree b (hsub b hb')) kZ
         rw [hT,Yu] at gF
         rw [hblk]
         have h5:=List.nodup_append.1 gF
         exact List.nodup_append.2 ⟨h5.1,(List.nodup_append.1 h5.2.1).1,fun b hb' c hc'=>h5.2.2 b hb' c (by simp [hc'])⟩
        ·cases h
       ·cases h
      ·cases h
     ·cases h
    ·cases h
   ·cases h
  ·cases h
 ·cases h
end
end Go.Rf
end
section
namespace Go.Rf
open Go.RowKit
set_option linter.unusedVariables false
set_option linter.unusedSimpArgs false
variable [cO]
theorem aN.pick {p:bB} {w:World}:∀ {vs:List Value} {ds:List V} {T:List Nat} {i:Nat} {u:V},aN p w vs ds T→ds[i]? = some u →
 ∃ v A B D,vs[i]? = some v∧T=A++(B++D)∧aS p w v u B∧aN p w vs (ds.set i .any) (A++D)
 | _,_,_,_,_,.nil,h=>by simp at h
 | _,_,_,0,u,.cons (v:=v) (A:=A) (B:=B) h1 h2,h=>by
  simp only [List.getElem?_cons_zero,Option.some.injEq] at h
  subst h
  exact ⟨v,[],A,B,rfl,rfl,h1,aN.cons (A:=[]) (.any _) h2⟩
 | _,_,_,i+1,u,.cons (v:=v) (A:=A') (B:=B') h1 h2,h=>by
  simp only [List.getElem?_cons_succ] at h
  obtain ⟨v',A,B,D,e1,e2,e3,e4⟩:=h2.pick h
  exact ⟨v',A'++A,B,D,by simpa using e1,by rw [e2];simp,e3,by rw [List.set_cons_succ,List.append_assoc];exact .cons h1 e4⟩
def G.split (g:G) (s d:Nat) (B R:List Nat):G :=
 { g with own:=fun b=>if b∈B then some (.inl d) else if g.own b=some (.inl d) then none else g.own b,TE:=fun t=>if t=d then B else if t=s then R else g.TE t }
section
variable {C:Ctx} {g:G} {st:St} {a:Act} {w:World}
theorem ad4 (s d:Nat) (y:X) (l:List (Nat × X)) (t:Nat) (ht:t≠d) (hs:t≠s) (x:X):look ((d,x) :: (s,y) :: kill (di d) (kill (di s) l)) t=(look l t).map (fun z=>(z.kill (di s)).kill (di d)):=by
 simp only [look,mX]
 have h1:Nat.beq t d=false:=by cases h:Nat.beq t d with
  | true=>exact absurd (Nat.eq_of_beq_eq_true h) ht
  | false=>rfl
 have h2:Nat.beq t s=false:=by cases h:Nat.beq t s with
  | true=>exact absurd (Nat.eq_of_beq_eq_true h) hs
  | false=>rfl
 rw [h1,h2]
 simp [Option.map_map,Function.comp_def]
theorem aI.split (S:aI C g st a w) {s d i:Nat} (hsd:s≠d) (hd:d < C.N) {us:List V} {u:V} (hs:look st.env s=some (.d (.v (.aC us)))) (hi:us[i]? = some u) :
 ∃ (v:Value) (xs:List Value) (g':G),a.tmps.getD s undef=.tuple xs.toArray∧xs[i]? = some v∧aI C g' { st with env:=(d,.d (.v u)) :: (s,.d (.v (.aC (us.set i .any)))) :: kill (di d) (kill (di s) st.env) } (a.put (some d) v) w:=by
 obtain ⟨EX,hsx,hso⟩:=S.env s _ hs
 obtain ⟨xs,hxs,hr⟩:=(aV.inv hsx).Uz
 obtain ⟨v,A,B,D,e1,e2,e3,e4⟩:=hr.pick hi
 have E8:=S.nU s
 rw [e2] at E8
 have hB:∀ b∈B,b∈g.TE s:=fun b hb=>by rw [e2];simp [hb]
 have hR:∀ b∈A++D,b∈g.TE s:=fun b hb=>by rw [e2];rcases List.mem_append.1 hb with h | h<;>simp [h]
 have hBR:∀ b∈A++D,b∉B:=fun b hb hb'=>by
  have h1:=List.nodup_append.1 E8
  have h2:=List.nodup_append.1 h1.2.1
  rcases List.mem_append.1 hb with h | h
  ·exact h1.2.2 b h b (by simp [hb']) rfl
  ·exact h2.2.2 b hb' b h rfl
 refine ⟨v,xs,g.split s d B (A++D),hxs,e1,?_⟩
 have k:dG g (g.split s d B (A++D)) w w:=⟨fun b hb=>hb,Nat.le_refl _,fun _ _=>rfl,fun _ _=>rfl⟩
 refine S.change (fun h=>h=.inl s∨h=.inl d) S.defers ?_ rfl rfl rfl (Nat.le_refl _) (fun b hb=>hb) (fun b hb=>.inl hb) (fun b hb=>S.dJ b hb) S.n (Nat.le_refl _) (fun _ _=>rfl) (fun _ _ _=>rfl) ?_ ?_ ?_ ?_ ?_ ?_ ?_ ?_
 ·simp [Act.jW,S.tmps]
 ·intro b h ho hc
  simp only [G.split]
  rw [if_neg (fun hb=>hc (.inl (by rw [hso b (hB b hb)] at ho;exact (Option.some.inj ho).symm))),if_neg (by rw [ho];intro e;exact hc (.inr (Option.some.inj e))),ho]
 ·intro t ht
  have h1:t≠d:=fun e=>ht (.inr (by rw [e]))
  have h2:t≠s:=fun e=>ht (.inl (by rw [e]))
  refine ⟨?_,by simp [G.split,h1,h2]⟩
  rw [Act.jW]
  simp only [Array.getElem?_setIfInBounds]
  rw [if_neg (fun e=>h1 e.symm)]
 ·intro i _;exact ⟨rfl,rfl⟩
 ·intro t y hy
  by_cases ht:t=d
  ·subst ht
   simp only [look,Nat.beq_refl] at hy
   cases hy
   refine .inr ⟨hd,?_,fun b hb=>?_⟩
   ·have e:(a.put (some t) v).tmps.getD t undef=v:=by
     rw [Act.jW,Array.getD_eq_getD_getElem?]
     simp [show t < a.tmps.size by rw [S.tmps];exact hd]
    rw [e,show (g.split s t B (A++D)).TE t=B by simp [G.split]]
    exact .v (e3.keep k.k (fun _ _=>rfl))
   ·have:b∈B:=by simpa [G.split] using hb
    simp [G.split,this]
  ·by_cases hts:t=s
   ·subst hts
    have h1:Nat.beq t d=false:=by cases h:Nat.beq t d with
     | true=>exact absurd (Nat.eq_of_beq_eq_true h) ht
     | false=>rfl
    simp only [look,h1,Nat.beq_refl] at hy
    cases hy
    refine .inr ⟨EX,?_,fun b hb=>?_⟩
    ·have e:(a.put (some d) v).tmps.getD t undef=.tuple xs.toArray:=by
      rw [Act.jW,← hxs,Array.getD_eq_getD_getElem?,Array.getD_eq_getD_getElem?,Array.getElem?_setIfInBounds,if_neg (fun e=>ht e.symm)]
     rw [e,show (g.split t d B (A++D)).TE t=A++D by simp [G.split,ht]]
     exact .v (.aC (e4.keep k.k (fun _ _=>rfl)))
    ·have hb:b∈A++D:=by simpa [G.split,ht] using hb
     simp only [G.split]
     rw [if_neg (hBR b hb),hso b (hR b hb),if_neg (fun e=>hsd (by cases e;rfl))]
   ·rw [ad4 s d _ st.env t ht hts] at hy
    refine .inl ⟨fun e=>by rcases e with e | e<;>cases e<;>contradiction,?_⟩
    cases hl:look st.env t with
    | none=>rw [hl] at hy;cases hy
    | some z =>
     rw [hl] at hy
     simp only [Option.map_some,Option.some.injEq] at hy
     by_cases hdd:y=.dead
     ·exact .inr ⟨hdd,z,rfl⟩
     ·rcases X.iQ (di s) z with h | ⟨h,h2⟩
      ·rw [h] at hy;exact (hdd (by rw [← hy];rfl)).elim
      ·rw [h] at hy
       rcases X.iQ (di d) z with h3 | ⟨h3,h4⟩
       ·exact (hdd (by rw [← hy,h3])).elim
       ·rw [h3] at hy
        subst hy
        refine .inl ⟨rfl,fun r hr e=>?_⟩
        rcases e with e | e
        ·exact X.oq h hdd r hr e
        ·exact X.oq h3 hdd r hr e
 ·intro id b _ hc;rcases hc with hc | hc<;>cases hc
 ·intro t ht
  rcases ht with ht | ht<;>cases ht
  ·simp only [G.split];rw [if_neg hsd,if_pos trivial]
   have h1:=List.nodup_append.1 E8
   have h2:=List.nodup_append.1 h1.2.1
   exact List.nodup_append.2 ⟨h1.1,h2.2.1,fun x hx y hy=>h1.2.2 x hx y (by simp [hy])⟩
  ·simp only [G.split,if_true]
   exact (List.nodup_append.1 (List.nodup_append.1 E8).2.1).1
 ·intro i hi;rcases hi with hi | hi<;>cases hi
 ·intro b h ho
  simp only [G.split] at ho
  by_cases hb:b∈B
  ·exact .inr ⟨.inl ⟨_,hso b (hB b hb)⟩,(S.own b _ (hso b (hB b hb))).2.1,(S.own b _ (hso b (hB b hb))).2.2⟩
  ·rw [if_neg hb] at ho
   split at ho
   ·cases ho
   ·exact .inl ⟨ho,(S.own b h ho).2.2⟩
end
def FN (N:Nat) (o:Oper) (x:Operand) (i:Nat) (e:E):Option E :=
 match dN N o with
 | none=>none
 | some d=>match x with
  | .tmp t=>match look e.st.env t with
   | some (.d (.v (.aC us)))=>match us[i]? with
    | some u=>match Nat.beq t d with
     | false=>some { e with st:={ e.st with env:=(d,.d (.v u)) :: (t,.d (.v (.aC (us.set i .any)))) :: kill (di d) (kill (di t) e.st.env) } }
     | true=>none
    | none=>none
   | _=>none
  | _=>none
def adf (e:E) (x:Operand) (i:Nat):Bool:=match x with
 | .tmp t=>match look e.st.env t with
  | some (.d (.v (.aC us)))=>match us[i]? with
   | some (.row (some _) _ _)=>true
   | _=>false
  | _=>false
 | _=>false
theorem Y4 {P:Program} {C:Ctx} {o:Oper} {x:Operand} {i:Nat} {e e':E} (ho:o.op=.extract x i) (h:FN C.N o x i e=some e'):bD P C o e e':=by
 unfold FN at h
 split at h
 ·cases h
 rename_i d hd
 obtain ⟨hdd,hdN⟩:=fK hd
 split at h
 ·rename_i t
  split at h
  ·rename_i us hl
   split at h
   ·rename_i u hu
    split at h
    ·rename_i hb
     cases h
     have htd:t≠d:=fun e=>by rw [e,Nat.beq_refl] at hb;cases hb
     refine fun hA=>⟨hA,fun g a w S next Q hn=>?_⟩
     obtain ⟨v,xs,g',h1,h2,S'⟩:=S.split htd hdN hl hu
     refine fC (v:=v) (w':=w) ?_ ?_
     ·unfold execOp
      simp only [ho,Act.eval,h1,Instr.extract,List.getElem?_toArray,h2,Sem.run_bind,Sem.run_pure,Result.andThen_ok]
     ·rw [hdd]
      exact hn _ _ _ S' (fun _=>Calm.refl w)
    ·cases h
   ·cases h
  ·cases h
 ·cases h
end Go.Rf
end
section
namespace Go.Rf
open Go.RowKit
set_option linter.unusedVariables false
set_option linter.unusedSimpArgs false
variable [cO]
def GL (P:Program) (N:Nat) (o:Oper) (t:TypeId) (x i:Operand) (e:E):Option E :=
 match dN N o with
 | none=>none
 | some d=>match P.underlying t with
  | some (.array k el)=>match gy P el,val i e with
   | some sz,some (.lit (.int _ n),e)=>match x with
    | .tmp s=>match look e.st.env s with
     | some (.d (.ptr id off))=>some { (need (n < (k:Int)) (need (0≤n) e)) with st:=e.st.put d (.d (.ptr id (off+n.toNat*sz))) }
     | _=>none
    | _=>none
   | _,_=>none
  | _=>none
theorem ZB {P:Program} {C:Ctx} {o:Oper} {t:TypeId} {x i:Operand} {e e':E} (ho:o.op=.indexAddr t x i) (h:GL P C.N o t x i e=some e'):bD P C o e e':=by
 unfold GL at h
 split at h
 ·cases h
 rename_i d hd
 obtain ⟨hdd,hdN⟩:=fK hd
 split at h
 ·rename_i k el hu
  split at h
  ·rename_i sz k' n e1 hsz hv
   split at h
   ·rename_i s
    split at h
    ·rename_i id off hl
     cases h
     intro hA
     obtain ⟨hA,hb⟩:=All.snoc hA
     obtain ⟨hA,ha⟩:=All.snoc hA
     obtain ⟨h0,kv⟩:=val_ok (C:=C) hv hA
     refine ⟨h0,fun g a w S next Q hn=>?_⟩
     obtain ⟨g1,k1,S1,r1⟩:=kv g a w S
     have hi:a.eval i=.int k' n:=r1.lI
     obtain ⟨_,h2,_⟩:=S1.env s _ hl
     have h2:aV g1 w (a.tmps.getD s undef) (.ptr id off) (g1.TE s):=h2
     generalize hvv:a.tmps.getD s undef=v at h2
     generalize hT:g1.TE s=T at h2
     cases h2 with
     | ptr hid =>
      have hx:a.eval (.tmp s)=.pointer (some ⟨g1.loc id,off,none⟩):=hvv
      have hs2:(sizeOf el).run P w=.ok sz w:=by
       unfold gy at hsz
       cases hi2:P.info? el with
       | none=>rw [hi2] at hsz;cases hsz
       | some inf =>
        rw [hi2] at hsz
        cases hsz
        simp only [sizeOf,typeInfo,Sem.run_bind,run_program,Result.andThen_ok,hi2,Sem.run_pure]
      refine fC (v:=.pointer (some ⟨g1.loc id,off+n.toNat*sz,none⟩)) (w':=w) ?_ ?_
      ·unfold execOp
       simp only [ho,hx,hi,Instr.indexAt,asIntOf,Instr.sureAddr,Sem.run_bind,Sem.run_pure,Result.andThen_ok,run_underlying hu]
       rw [if_pos ⟨ha,hb⟩]
       simp only [Sem.run_bind,hs2,Result.andThen_ok,Sem.run_pure,Addr.add_mid]
      ·rw [hdd]
       exact hn _ _ _ (S1.iL (Calm.refl w) hdN (.ptr hid)) (fun _=>Calm.refl w)
    ·cases h
   ·cases h
  ·cases h
 ·cases h
end Go.Rf
end
section
namespace Go.Rf
open Go.RowKit
set_option linter.unusedVariables false
set_option linter.unusedSimpArgs false
variable [cO]
theorem cK.cut {g:G} {w:World}:∀ (n:Nat) {xs:List Value} {cs:List D} {T:List Nat},cK g w xs cs T→∃ A B,T=A++B∧cK g w (xs.take n) (cs.take n) A∧cK g w (xs.drop n) (cs.drop n) B
 | 0,xs,cs,T,h=>⟨[],T,rfl,by simpa using cK.nil,by simpa using h⟩
 | n+1,_,_,_,.nil=>⟨[],[],rfl,by simpa using cK.nil,by simpa using cK.nil⟩
 | n+1,_,_,_,.cons (A:=A) h1 h2=>by
  obtain ⟨A',B',rfl,h3,h4⟩:=h2.cut n
  exact ⟨A++A',B',by simp,by simpa using .cons h1 h3,by simpa using h4⟩
theorem cK.app {g:G} {w:World}:∀ {vs us:List Value} {cs ds:List D} {A B:List Nat},cK g w vs cs A→cK g w us ds B→cK g w (vs++us) (cs++ds) (A++B)
 | _,_,_,_,_,_,.nil,h=>h
 | _,_,_,_,_,_,.cons h1 h2,h=>by rw [List.append_assoc];exact .cons h1 (h2.app h)
theorem cK.length {g:G} {w:World}:∀ {vs:List Value} {ds:List D} {T:List Nat},cK g w vs ds T→vs.length=ds.length
 | _,_,_,.nil=>rfl
 | _,_,_,.cons _ h=>by simp [h.length]
def dv:List V→List D
 | []=>[]
 | u :: us=>.v u :: dv us
theorem xC:∀ {us:List V},(dv us).length=us.length
 | []=>rfl
 | u :: us=>by simp [dv,xC]
theorem aN.dv {g:G} {w:World}:∀ {vs:List Value} {us:List V} {T:List Nat},aN g.aM w vs us T→cK g w vs (dv us) T
 | _,_,_,.nil=>.nil
 | _,_,_,.cons h1 h2=>.cons (.v h1) h2.dv
def ku:List D→Option (List V)
 | []=>some []
 | .v u :: ds=>match ku ds with
  | some us=>some (u :: us)
  | none=>none
 | _=>none
theorem tF:∀ {ds:List D} {us:List V},ku ds=some us→ds=dv us
 | [],us,h=>by cases h;rfl
 | d :: ds,us,h=>by
  cases d with
  | v u =>
   simp only [ku] at h
   split at h
   ·rename_i vs hv
    cases h
    rw [tF hv];rfl
   ·cases h
  | _=>simp [ku] at h
theorem cK.ku {g:G} {w:World}:∀ {us:List V} {vs:List Value} {T:List Nat},cK g w vs (dv us) T→aN g.aM w vs us T
 | [],vs,T,h=>by cases h;exact .nil
 | u :: us,vs,T,h=>by
  cases h with
  | cons h1 h2=>exact .cons h1.inv h2.ku
def G.gU (g:G) (l:Nat) (T:List Nat):G :=
 { g with own:=fun b=>if b∈l :: T then some (.inr g.n) else g.own b,n:=g.n+1,loc:=fun i=>if i=g.n then l else g.loc i,TB:=fun i=>if i=g.n then l :: T else g.TB i }
section
variable {P:Program} {C:Ctx} {g:G} {st:St} {a:Act} {w w':World}
theorem aI.newObj (S:aI C g st a w) (o:Obj) (bx:gM) (hB:∀ g1,dG g g1 w (w.alloc o)→lL g1 (w.alloc o) w.heap.size bx [w.heap.size]) :
 aI C (g.gU w.heap.size []) { st with box:=st.box++[bx] } a (w.alloc o):=by
 have hk:∀ b,b < w.heap.size→(w.alloc o).heap[b]? = w.heap[b]?:=fun b hb=>Below.heap_alloc w _ b hb
 have af3:∀ b h,g.own b=some h→b≠w.heap.size:=fun b h ho e=>by have:=(S.own b h ho).2.1;omega
 have k:dG g (g.gU w.heap.size []) w (w.alloc o):=⟨fun _ h=>h,Nat.le_succ _,fun i hi=>by simp only [G.gU];rw [if_neg (by omega)],fun b hb=>hk b (S.dJ b hb)⟩
 refine S.change (fun h=>h=.inr g.n) S.defers S.tmps rfl rfl rfl (by simp) (fun _ h=>h) (fun _ h=>.inl h) (fun b hb=>by have:=S.dJ b hb;simp;omega) (by simp [G.gU,S.n]) (Nat.le_succ _) k.loc (fun b hb _=>hk b hb) ?_ ?_ ?_ ?_ ?_ ?_ ?_ ?_
 ·intro b h ho hc
  simp only [G.gU]
  rw [if_neg (by simp;exact af3 b h ho),ho]
 ·intro t ht;exact ⟨rfl,rfl⟩
 ·intro i hi
  have hi':i≠g.n:=fun e=>hi (by rw [e])
  refine ⟨by simp only [G.gU];rw [if_neg hi'],?_⟩
  rcases Nat.lt_or_ge i st.box.length with h | h
  ·rw [List.getElem?_append_left h]
  ·rw [List.getElem?_append_right h,List.getElem?_eq_none h]
   have:i - st.box.length≠0:=by rw [S.n] at hi';omega
   simp [this]
 ·intro t x hx
  obtain ⟨h1,h2,h3⟩:=S.env t x hx
  by_cases hr:∃ h,x.gp=some h∧h=.inr g.n
  ·obtain ⟨h,hh,rfl⟩:=hr
   exfalso
   cases x with
   | al p =>
    simp only [X.gp,Option.some.injEq] at hh
    obtain ⟨_,hp⟩:=h2
    cases p with
    | top r =>
     cases r with
     | t y=>simp [Pl.root,Root.holder] at hh
     | b i c =>
      simp only [Pl.root,Root.holder,Sum.inr.injEq] at hh
      simp only [pv,dY] at hp
      rw [if_neg (by omega)] at hp;cases hp
    | jf r sz i j =>
     cases r with
     | t y=>simp [Pl.root,Root.holder] at hh
     | b i c =>
      simp only [Pl.root,Root.holder,Sum.inr.injEq] at hh
      simp only [pv,dY] at hp
      rw [if_neg (by omega)] at hp;cases hp
   | pa r sz i j =>
    simp only [X.gp,Option.some.injEq] at hh
    obtain ⟨_,b,hp,_⟩:=h2
    cases r with
    | t y=>simp [Root.holder] at hh
    | b i c =>
     simp only [Root.holder,Sum.inr.injEq] at hh
     simp only [dY] at hp
     rw [if_neg (by omega)] at hp;cases hp
   | d d=>simp [X.gp] at hh
   | dead=>simp [X.gp] at hh
  ·exact .inl ⟨(fun e=>by cases e),.inl ⟨hx,fun h hh e=>hr ⟨h,hh,e⟩⟩⟩
 ·intro id b hb hc
  cases hc
  have hid:g.n=st.box.length:=S.n
  rw [hid,List.getElem?_append_right (Nat.le_refl _)] at hb
  simp only [Nat.sub_self,List.getElem?_cons_zero,Option.some.injEq] at hb
  subst hb
  have e1:(g.gU w.heap.size []).loc g.n=w.heap.size:=by simp [G.gU]
  have e2:(g.gU w.heap.size []).TB g.n=[w.heap.size]:=by simp [G.gU]
  rw [e1,e2]
  refine ⟨hB _ k,fun b hb=>?_⟩
  ·simp only [List.mem_singleton] at hb
   subst hb
   simp [G.gU]
 ·intro t ht;cases ht
 ·intro i hi;cases hi;simp [G.gU]
 ·intro b h ho
  simp only [G.gU] at ho
  by_cases hb:b∈[w.heap.size]
  ·simp only [List.mem_singleton] at hb
   subst hb
   exact .inr ⟨.inr (.inl (Nat.le_refl _)),by simp,fun hp=>by have:=S.dJ _ hp;omega⟩
  ·rw [if_neg hb] at ho
   exact .inl ⟨ho,(S.own b h ho).2.2⟩
theorem aI.adg (S:aI C g st a w) {cur:Array Value} {e:TypeId} {cs:List D} (hr:cK g w cur.toList cs []) (h1:∀ u∈cur.toList,u.oneCell'=true) :
 aI C (g.gU w.heap.size []) { st with box:=st.box++[.cells cs] } a (w.alloc (.cells cur e)) :=
 S.newObj _ _ fun g1 k=>⟨cur,e,[],rfl,(by show (w.heap.push _)[w.heap.size]? = _;rw [Array.getElem?_push_size]),hr.keep k (fun _ h=>by cases h),h1⟩
def St.KT (st:St) (cs:List V):St:={ st with box:=st.box++[gM.cells (dv cs)] }
theorem bD.box {o:Oper} {e e1:E} {d:Nat} {cs:List V} (hd:dN C.N o=some d) (h1:All e1.ob→All e.ob) (hf:il cs=true)
 (hrun:All e1.ob→∀ g a w,aI C g e.st a w→∃ g' cur el,aI C g' e1.st a w∧(execOp a.eval o).run P w=.ok (.value (.pointer (some ⟨w.heap.size,0,none⟩))) (w.alloc (.cells cur el))∧aN g'.aM w cur.toList cs []) :
 bD P C o e { e1 with st:=(e1.st.KT cs).put d (.d (.ptr e1.st.box.length 0)) }:=by
 intro hA
 obtain ⟨zk,hdN⟩:=fK hd
 refine ⟨h1 hA,fun g a w S next Q hn=>?_⟩
 obtain ⟨g',cur,el,S',hr,hx⟩:=hrun hA g a w S
 refine fC hr ?_
 rw [zk]
 have S2:=S'.adg (e:=el) hx.dv (hx.one hf)
 refine hn _ _ _ (S2.iL (Calm.refl _) hdN ?_) (fun _=>Calm.alloc w _)
 have:aV (g'.gU w.heap.size []) (w.alloc (.cells cur el)) (.pointer (some ⟨(g'.gU w.heap.size []).loc g'.n,0,none⟩)) (.ptr g'.n 0) []:=.ptr (by simp [G.gU])
 have e1:(g'.gU w.heap.size []).loc g'.n=w.heap.size:=by simp [G.gU]
 rw [e1] at this
 rw [← S'.n]
 exact this
def Je (P:Program) (N:Nat) (o:Oper) (t:TypeId) (x:Operand) (e:E):Option E :=
 match dN N o with
 | none=>none
 | some d=>match val x e with
  | some (u,e)=>match u.qj with
   | true=>some { e with st:=(e.st.KT u.cells).put d (.d (.ptr e.st.box.length 0)) }
   | false=>none
  | none=>none
theorem abj {o:Oper} {t:TypeId} {x:Operand} {e e':E} (ho:o.op=.box t x) (h:Je P C.N o t x e=some e'):bD P C o e e':=by
 unfold Je at h
 split at h
 ·cases h
 rename_i d hd
 split at h
 ·rename_i u e1 hv
  split at h
  ·rename_i hf
   cases h
   have hf1:il u.cells=true:=by
    cases u with
    | agg cs=>exact hf
    | _=>simp only [V.cells,il];simp only [V.qj] at hf;rw [hf]
   refine bD.box hd (fun hA=>(val_ok (C:=C) hv hA).1) hf1 fun hA g a w S=>?_
   obtain ⟨g1,k1,S1,r1⟩:=(val_ok (C:=C) hv hA).2 g a w S
   refine ⟨g1,(a.eval x).cells,t,S1,?_,(r1.flat hf).1⟩
   unfold execOp
   simp only [ho,Instr.box,newVar,newRow,Sem.run_bind,run_newObj,Result.andThen_ok,Sem.run_pure,World.alloc_eq]
  ·cases h
 ·cases h
def Hz (P:Program) (N:Nat) (o:Oper) (t:TypeId) (e:E):Option E :=
 match dN N o with
 | none=>none
 | some d=>match zeroV P t with
  | some zs=>some { e with st:=(e.st.KT zs).put d (.d (.ptr e.st.box.length 0)) }
  | none=>none
theorem Z0 {o:Oper} {t:TypeId} {e e':E} (ho:o.op=.alloc t) (h:Hz P C.N o t e=some e'):bD P C o e e':=by
 unfold Hz at h
 split at h
 ·cases h
 rename_i d hd
 split at h
 ·rename_i zs hz
  cases h
  obtain ⟨i,z,hi,hzv,h1,hr⟩:=xH hz
  refine bD.box hd id h1 fun hA g a w S=>⟨g,z.cells,t,S,?_,hr g.aM w⟩
  unfold execOp
  simp only [ho,Instr.alloc,zeroValue,typeInfo,run_program,hi,hzv,newVar,newRow,Sem.run_bind,run_newObj,Result.andThen_ok,Sem.run_pure,World.alloc_eq]
 ·cases h
inductive ad5 where
 | v (u:V)
 | d (x:D)
 | own
def tV (P:Program) (t:TypeId) (cs:List D):Option ad5:=match rP P t with
 | some true=>match gy P t with
  | some n=>match Nat.ble n cs.length with
   | true=>match ku (cs.take n) with
    | some us=>match V.bM.go us with
     | true=>some (.v (.agg us))
     | false=>none
    | none=>none
   | false=>none
  | none=>none
 | some false=>match cs with
  | c :: _=>match c with
   | .v (.row (some _) _ _)=>some .own
   | .v (.agg _)=>none
   | .agg _=>none
   | c=>match c.bM with
    | true=>some (.d c)
    | false=>none
  | []=>none
 | none=>none
def HY (P:Program) (N:Nat) (o:Oper) (t:TypeId) (s:Nat) (e:E):Option E :=
 match dN N o with
 | none=>none
 | some d=>match look e.st.env s with
  | some (.d (.ptr id off))=>match e.st.box[id]? with
   | some (.cells cs)=>match tV P t (cs.drop off) with
    | some (.v u)=>some (e.put d u)
    | some (.d x)=>some { e with st:=e.st.put d (.d x) }
    | some .own=>some { e with st:=e.st.put d (.al (.top (.b id off))) }
    | none=>none
   | _=>none
  | _=>none
theorem Bd {w:World} {t:TypeId} {b o n:Nat} {xs:List Value} (ht:rP P t=some true) (hn:gy P t=some n) (hr:w.rangeAt b o xs) (hl:n≤xs.length) :
 (Instr.loadAt t (.pointer (some ⟨b,o,none⟩))).run P w=.ok (.agg (xs.take n).toArray) w:=by
 have hg:=qf ht w
 unfold gy at hn
 cases hi:P.info? t with
 | none=>rw [hi] at hn;cases hn
 | some i =>
  rw [hi] at hn
  cases hn
  have hc:=run_loadCells_list (P:=P) w ⟨b,o,none⟩ (xs.take i.size) (fun j v hj=>by
   rw [Addr.add_mid]
   exact hr j v (by rw [List.getElem?_take] at hj;split at hj;exact hj;cases hj))
  have hl':(xs.take i.size).length=i.size:=by rw [List.length_take];omega
  rw [hl'] at hc
  simp only [Instr.loadAt,Instr.sureAddr,loadVar,Sem.run_bind,Sem.run_pure,Result.andThen_ok,hg,if_true,sizeOf,typeInfo,run_program,hi,hc]
theorem FE {w:World} {t:TypeId} {b o:Nat} {v:Value} (ht:rP P t=some false) (hc:w.cell? ⟨b,o,none⟩=some v):(Instr.loadAt t (.pointer (some ⟨b,o,none⟩))).run P w=.ok v w:=by
 have hg:=qf ht w
 simp only [Instr.loadAt,Instr.sureAddr,loadVar,Sem.run_bind,Sem.run_pure,Result.andThen_ok,hg,Bool.false_eq_true,if_false,run_load,hc]
theorem Z4 {o:Oper} {t:TypeId} {s:Nat} {e e':E} (ho:o.op=.load t (.tmp s)) (h:HY P C.N o t s e=some e'):bD P C o e e':=by
 unfold HY at h
 split at h
 ·cases h
 rename_i d hd
 obtain ⟨hdd,hdN⟩:=fK hd
 split at h
 ·rename_i id off hl
  split at h
  ·rename_i cs hb
   have facts:∀ g a w,aI C g e.st a w→∃ cur:List Value,a.eval (.tmp s)=.pointer (some ⟨g.loc id,off,none⟩)∧w.rangeAt (g.loc id) off (cur.drop off)∧(∃ B,cK g w (cur.drop off) (cs.drop off) B)∧id < g.n∧g.own (g.loc id)=some (.inr id):=by
    intro g a w S
    obtain ⟨_,h2,_⟩:=S.env s _ hl
    have h2:aV g w (a.tmps.getD s undef) (.ptr id off) (g.TE s):=h2
    obtain ⟨⟨cur,el,A,hT,hh,hr,h1⟩,hown⟩:=S.box id _ hb
    obtain ⟨A1,B1,_,_,hd2⟩:=hr.cut off
    refine ⟨cur.toList,?_,fun j v hj=>?_,⟨_,hd2⟩,?_,hown _ (by rw [hT];simp)⟩
    ·show a.tmps.getD s undef=_
     generalize a.tmps.getD s undef=v at h2
     generalize g.TE s=T at h2
     cases h2
     rfl
    ·rw [List.getElem?_drop] at hj
     simp only [World.cell?,hh]
     simpa using hj
    ·rw [S.n]
     rcases Nat.lt_or_ge id e.st.box.length with h | h
     ·exact h
     ·rw [List.getElem?_eq_none h] at hb;cases hb
   have exec:∀ {a:Act} {w:World} {b q:Nat} {v:Value},a.eval (.tmp s)=.pointer (some ⟨b,q,none⟩)→(Instr.loadAt t (.pointer (some ⟨b,q,none⟩))).run P w=.ok v w→(execOp a.eval o).run P w=.ok (.value v) w:=by
    intro a w b q v hx hr
    unfold execOp
    simp only [ho,hx,Sem.run_bind,hr,Result.andThen_ok,Sem.run_pure]
   split at h
   ·rename_i u hp
    cases h
    refine bD.vv hd (fun h=>h) fun _ g a w S=>?_
    obtain ⟨cur,hx,hrg,⟨B,hrep⟩,_⟩:=facts g a w S
    unfold tV at hp
    split at hp
    ·rename_i ht
     split at hp
     ·rename_i n hn
      split at hp
      ·rename_i hle
       have hle:=Nat.le_of_ble_eq_true hle
       split at hp
       ·rename_i us qK
        split at hp
        ·rename_i hno
         cases hp
         obtain ⟨A2,B2,_,h3,_⟩:=hrep.cut n
         rw [tF qK] at h3
         have h4:=h3.ku
         have hA2:=h4.bM hno
         subst hA2
         refine ⟨_,g,S,exec hx (Bd ht hn hrg (by rw [hrep.length];exact hle)),.agg h4⟩
        ·cases hp
       ·cases hp
      ·cases hp
     ·cases hp
    ·split at hp
     ·split at hp
      ·cases hp
      ·cases hp
      ·cases hp
      ·split at hp<;>cases hp
     ·cases hp
    ·cases hp
   ·rename_i x hp
    cases h
    refine fun hA=>⟨hA,fun g a w S next Q hn=>?_⟩
    obtain ⟨cur,hx,hrg,⟨B,hrep⟩,_⟩:=facts g a w S
    unfold tV at hp
    split at hp
    ·split at hp
     ·split at hp
      ·split at hp
       ·split at hp<;>cases hp
       ·cases hp
      ·cases hp
     ·cases hp
    ·rename_i ht
     split at hp
     ·rename_i c cs' hcs
      split at hp
      ·cases hp
      ·cases hp
      ·cases hp
      ·split at hp
       ·rename_i hno
        cases hp
        rw [hcs] at hrep
        generalize hys:cur.drop off=ys at hrep hrg
        cases hrep with
        | @cons v _ vs _ A2 B2 r1 r2 =>
         have hA2:=r1.bM hno
         subst hA2
         have hc:=hrg 0 v rfl
         rw [Nat.add_zero] at hc
         refine fC (exec hx (FE ht hc)) ?_
         rw [hdd]
         exact hn _ _ _ (S.iL (Calm.refl w) hdN r1) (fun _=>Calm.refl w)
       ·cases hp
     ·cases hp
    ·cases hp
   ·rename_i hp
    cases h
    have hkx:(X.al (.top (.b id off))).kill (di d)=.al (.top (.b id off)):=rfl
    refine bD.xa hd (fun h=>h) hkx (by simp) (by simp) fun _ g a w S=>?_
    obtain ⟨cur,hx,hrg,⟨B,hrep⟩,hid,hown⟩:=facts g a w S
    unfold tV at hp
    split at hp
    ·split at hp
     ·split at hp
      ·split at hp
       ·split at hp<;>cases hp
       ·cases hp
      ·cases hp
     ·cases hp
    ·rename_i ht
     split at hp
     ·rename_i c cs' hcs
      rw [hcs] at hrep
      generalize hys:cur.drop off=ys at hrep hrg
      cases hrep with
      | @cons v _ vs _ A2 B2 r1 r2 =>
       have hc:=hrg 0 v rfl
       rw [Nat.add_zero] at hc
       refine ⟨v,g,S,exec hx (FE ht hc),rfl,?_⟩
       simp only [pv,dY]
       rw [if_pos ⟨hid,hown⟩]
       exact hc
     ·cases hp
    ·cases hp
   ·cases h
  ·cases h
 ·cases h
end
end Go.Rf
end
section
namespace Go.Rf
open Go.RowKit
set_option linter.unusedVariables false
set_option linter.unusedSimpArgs false
variable [cO]
section
variable {P:Program} {C:Ctx} {g:G} {st:St} {a:Act} {w w':World}
def zn (id:Nat):Root→Bool
 | .b i _=>Nat.beq i id
 | _=>false
def G.unbox (g:G) (id d:Nat) (A:List Nat):G :=
 { g with own:=fun b=>if b∈A then some (.inl d) else if g.own b=some (.inl d) then none else if g.own b=some (.inr id) then none else g.own b,TE:=fun t=>if t=d then A else g.TE t,TB:=fun i=>if i=id then [] else g.TB i }
theorem aI.unbox (S:aI C g st a w) {id d:Nat} (hd:d < C.N) {cs:List D} (hb:st.box[id]? = some (.cells cs)) {v:Value} {x:D} {A:List Nat} (hT:g.TB id=g.loc id :: A) (hr:aV g w v x A) :
 aI C (g.unbox id d A) { env:=(d,.d x) :: kill (di d) (kill (zn id) st.env),box:=st.box.set id .gone } (a.put (some d) v) w:=by
 obtain ⟨hB,hBo⟩:=S.box id _ hb
 have mU:∀ b∈A,g.own b=some (.inr id):=fun b hb=>hBo b (by rw [hT];exact List.mem_cons_of_mem _ hb)
 have hlt:id < st.box.length:=(List.getElem?_eq_some_iff.1 hb).1
 have k:dG g (g.unbox id d A) w w:=⟨fun b hb=>hb,Nat.le_refl _,fun _ _=>rfl,fun _ _=>rfl⟩
 refine S.change (fun h=>h=.inr id∨h=.inl d) S.defers ?_ rfl rfl rfl (Nat.le_refl _) (fun b hb=>hb) (fun b hb=>.inl hb) (fun b hb=>S.dJ b hb) ?_ (Nat.le_refl _) (fun _ _=>rfl) (fun _ _ _=>rfl) ?_ ?_ ?_ ?_ ?_ ?_ ?_ ?_
 ·simp [Act.jW,S.tmps]
 ·show g.n=(st.box.set id .gone).length
  rw [List.length_set];exact S.n
 ·intro b h ho hc
  simp only [G.unbox]
  rw [if_neg (fun hb=>hc (.inl (by rw [mU b hb] at ho;exact (Option.some.inj ho).symm))),if_neg (by rw [ho];intro e;exact hc (.inr (Option.some.inj e))),if_neg (by rw [ho];intro e;exact hc (.inl (Option.some.inj e))),ho]
 ·intro t ht
  have h1:t≠d:=fun e=>ht (.inr (by rw [e]))
  refine ⟨?_,by simp [G.unbox,h1]⟩
  rw [Act.jW]
  simp only [Array.getElem?_setIfInBounds]
  rw [if_neg (fun e=>h1 e.symm)]
 ·intro i hi
  have h1:i≠id:=fun e=>hi (.inl (by rw [e]))
  refine ⟨by simp [G.unbox,h1],?_⟩
  exact List.getElem?_set_ne (fun e=>h1 e.symm)
 ·intro t y hy
  by_cases ht:t=d
  ·subst ht
   simp only [look,Nat.beq_refl] at hy
   cases hy
   refine .inr ⟨hd,?_,fun b hb=>?_⟩
   ·have e:(a.put (some t) v).tmps.getD t undef=v:=by
     rw [Act.jW,Array.getD_eq_getD_getElem?]
     simp [show t < a.tmps.size by rw [S.tmps];exact hd]
    rw [e,show (g.unbox id t A).TE t=A by simp [G.unbox]]
    exact aV.keep k hr (fun _ _=>rfl)
   ·have:b∈A:=by simpa [G.unbox] using hb
    simp [G.unbox,this]
  ·have h1:Nat.beq t d=false:=by cases h:Nat.beq t d with
    | true=>exact absurd (Nat.eq_of_beq_eq_true h) ht
    | false=>rfl
   simp only [look,h1,mX,Option.map_map] at hy
   refine .inl ⟨fun e=>by rcases e with e | e<;>cases e;contradiction,?_⟩
   cases hl:look st.env t with
   | none=>rw [hl] at hy;cases hy
   | some z =>
    rw [hl] at hy
    simp only [Option.map_some,Option.some.injEq,Function.comp] at hy
    by_cases hdd:y=.dead
    ·exact .inr ⟨hdd,z,rfl⟩
    ·rcases X.iQ (zn id) z with h | ⟨h,h2⟩
     ·rw [h] at hy;exact (hdd (by rw [← hy];rfl)).elim
     ·rw [h] at hy
      rcases X.iQ (di d) z with h3 | ⟨h3,h4⟩
      ·exact (hdd (by rw [← hy,h3])).elim
      ·rw [h3] at hy
       subst hy
       refine .inl ⟨rfl,fun r hr e=>?_⟩
       rcases e with e | e
       ·subst e
        cases z with
        | al p =>
         simp only [X.gp,Option.some.injEq] at hr
         cases hp:p.root with
         | t q=>rw [hp] at hr;cases hr
         | b i c =>
          rw [hp] at hr
          simp only [Root.holder,Sum.inr.injEq] at hr
          simp only at h2
          rw [hp,hr] at h2
          simp [zn] at h2
        | pa q _ _ _ =>
         simp only [X.gp,Option.some.injEq] at hr
         cases q with
         | t q=>cases hr
         | b i c =>
          simp only [Root.holder,Sum.inr.injEq] at hr
          simp only at h2
          rw [hr] at h2
          simp [zn] at h2
        | d _=>cases hr
        | dead=>cases hr
       ·exact X.oq h3 hdd r hr e
 ·intro i b hb' hc
  rcases hc with hc | hc<;>cases hc
  rw [List.getElem?_set_self hlt] at hb'
  cases hb'
  refine ⟨by simp [lL,G.unbox],fun b hb=>by simp [G.unbox] at hb⟩
 ·intro t ht
  rcases ht with ht | ht<;>cases ht
  have:=S.mK id
  rw [hT] at this
  simpa [G.unbox] using (List.nodup_cons.1 this).2
 ·intro i hi
  rcases hi with hi | hi<;>cases hi
  simp [G.unbox]
 ·intro b h ho
  simp only [G.unbox] at ho
  by_cases hb:b∈A
  ·exact .inr ⟨.inl ⟨_,mU b hb⟩,(S.own b _ (mU b hb)).2.1,(S.own b _ (mU b hb)).2.2⟩
  ·rw [if_neg hb] at ho
   split at ho
   ·cases ho
   ·split at ho
    ·cases ho
    ·exact .inl ⟨ho,(S.own b h ho).2.2⟩
def HZ (P:Program) (N:Nat) (o:Oper) (t:TypeId) (s:Nat) (e:E):Option E :=
 match dN N o with
 | none=>none
 | some d=>match look e.st.env s with
  | some (.d (.ptr id off))=>match Nat.beq off 0 with
   | true=>match e.st.box[id]? with
    | some (.cells cs)=>match rP P t with
     | some true=>match gy P t with
      | some n=>match Nat.beq n cs.length with
       | true=>match ku cs with
        | some us=>some { e with st:={ env:=(d,.d (.v (.agg us))) :: kill (di d) (kill (zn id) e.st.env),box:=e.st.box.set id .gone } }
        | none=>none
       | false=>none
      | none=>none
     | _=>none
    | _=>none
   | false=>none
  | _=>none
theorem Z5 {o:Oper} {t:TypeId} {s:Nat} {e e':E} (ho:o.op=.load t (.tmp s)) (h:HZ P C.N o t s e=some e'):bD P C o e e':=by
 unfold HZ at h
 split at h
 ·cases h
 rename_i d hd
 obtain ⟨hdd,hdN⟩:=fK hd
 split at h
 ·rename_i id off hl
  split at h
  ·rename_i hoff
   have hoff:=Nat.eq_of_beq_eq_true hoff
   subst hoff
   split at h
   ·rename_i cs hb
    split at h
    ·rename_i ht
     split at h
     ·rename_i n hn
      split at h
      ·rename_i hnl
       have hnl:=Nat.eq_of_beq_eq_true hnl
       split at h
       ·rename_i us qK
        cases h
        refine fun hA=>⟨hA,fun g a w S next Q hnx=>?_⟩
        obtain ⟨_,h2,_⟩:=S.env s _ hl
        have h2:aV g w (a.tmps.getD s undef) (.ptr id 0) (g.TE s):=h2
        obtain ⟨⟨cur,el,A,hT,hh,hr,h1⟩,hown⟩:=S.box id _ hb
        have hx:a.eval (.tmp s)=.pointer (some ⟨g.loc id,0,none⟩):=by
         show a.tmps.getD s undef=_
         generalize a.tmps.getD s undef=v at h2
         generalize g.TE s=T at h2
         cases h2
         rfl
        have hrg:w.rangeAt (g.loc id) 0 cur.toList:=fun j v hj=>by
         simp only [World.cell?,hh]
         simpa using hj
        have hlen:=hr.length
        have hload:=Bd (P:=P) ht hn hrg (by omega)
        rw [List.take_of_length_le (by omega)] at hload
        have run:(execOp a.eval o).run P w=.ok (.value (.agg cur.toList.toArray)) w:=by
         unfold execOp
         simp only [ho,hx,Sem.run_bind,hload,Result.andThen_ok,Sem.run_pure]
        refine fC run ?_
        rw [hdd]
        rw [tF qK] at hr
        exact hnx _ _ _ (S.unbox hdN hb hT (.v (.agg hr.ku))) (fun _=>Calm.refl w)
       ·cases h
      ·cases h
     ·cases h
    ·cases h
   ·cases h
  ·cases h
 ·cases h
end
end Go.Rf
end
