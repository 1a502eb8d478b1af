import Derived.Test.YtfcdabhalahieaaGreatDoorRPkcs8Tells0
set_option linter.unusedSectionVars false
set_option linter.unusedSimpArgs false
set_option linter.unusedVariables false
section
namespace Go.Rf
open Go.RowKit
set_option linter.unusedVariables false
set_option linter.unusedSimpArgs false
variable [cO]
def pK (t:Option Nat) (l:List (Nat × X)):List (Nat × X):=match t with
 | none=>l
 | some t=>(t,.dead) :: kill (di t) l
def G.nA (g:G) (id:Nat) (t:Option Nat) (T:List Nat):G :=
 { g with own:=fun b=>if b∈T then some (.inr id) else if g.own b=some (.inr id) then none else match t with
            | some t=>if g.own b=some (.inl t) then none else g.own b
            | none=>g.own b,
          TE:=fun s=>match t with
            | some t=>if s=t then [] else g.TE s
            | none=>g.TE s,
          TB:=fun i=>if i=id then T else g.TB i }
def St.nQ (st:St) (id:Nat) (t:Option Nat) (cs:List D):St:={ env:=kill (jN id) (pK t st.env),box:=st.box.set id (.cells cs) }
section
variable {P:Program} {C:Ctx} {g:G} {st:St} {a:Act} {w w':World}
theorem aI.nQ (S:aI C g st a w) {id:Nat} {t:Option Nat} {cs cs':List D} {cur cur':Array Value} {el:TypeId} {A A':List Nat} (hb:st.box[id]? = some (.cells cs)) (hT:g.TB id=g.loc id :: A)
 (hh:w.heap[g.loc id]? = some (.cells cur el (0,0))) (hg:w'.heap[g.loc id]? = some (.cells cur' el (0,0))) (ho:w'.os=w.os) (htp:w'.tape=w.tape) (hou:w'.output=w.output) (hsz:w'.heap.size=w.heap.size)
 (hoth:∀ b,b≠g.loc id→w'.heap[b]? = w.heap[b]?) (hr:cK g w cur'.toList cs' A') (h1:∀ u∈cur'.toList,u.oneCell'=true) (hn:(g.loc id :: A').Nodup)
 (hA:∀ b∈A',b∈A∨∃ q,t=some q∧g.own b=some (.inl q)) (Aw:∀ q,t=some q→q < C.N) :
 aI C (g.nA id t (g.loc id :: A')) (st.nQ id t cs') a w':=by
 have hid:id < st.box.length:=by
  rcases Nat.lt_or_ge id st.box.length with h | h
  ·exact h
  ·rw [List.getElem?_eq_none h] at hb;cases hb
 have hown:∀ b∈g.TB id,g.own b=some (.inr id):=(S.box id _ hb).2
 have hlo:g.own (g.loc id)=some (.inr id):=hown _ (by rw [hT];simp)
 have mU:∀ b∈A',g.own b=some (.inr id)∨∃ q,t=some q∧g.own b=some (.inl q):=fun b hb'=>(hA b hb').imp (fun h=>hown b (by rw [hT];simp [h])) (fun h=>h)
 have hne:∀ b∈A',b≠g.loc id:=fun b hb' e=>(List.nodup_cons.1 hn).1 (e ▸ hb')
 let gY:Nat ⊕ Nat→Prop:=fun h=>h=.inr id∨∃ q,t=some q∧h=.inl q
 have Cn:∀ b h,g.own b=some h→¬ gY h→b∉g.loc id :: A':=by
  intro b h ho' hc hb'
  rcases List.mem_cons.1 hb' with rfl | hb'
  ·rw [hlo] at ho';cases ho';exact hc (.inl rfl)
  ·rcases mU b hb' with h2 | ⟨q,hq,h2⟩
   ·rw [h2] at ho';cases ho';exact hc (.inl rfl)
   ·rw [h2] at ho';cases ho';exact hc (.inr ⟨q,hq,rfl⟩)
 have k:dG g (g.nA id t (g.loc id :: A')) w w':=⟨fun _ h=>h,Nat.le_refl _,fun _ _=>rfl,fun b hb'=>hoth b (fun e=>(S.own _ _ hlo).2.2 (e ▸ hb'))⟩
 refine S.change gY S.defers S.tmps ho htp hou (Nat.le_of_eq hsz.symm) (fun _ h=>h) (fun _ h=>.inl h) (fun b hb'=>by rw [hsz];exact S.dJ b hb') (by simpa [St.nQ,G.nA] using S.n) (Nat.le_refl _) (fun _ _=>rfl) ?_ ?_ ?_ ?_ ?_ ?_ ?_ ?_ ?_
 ·intro b hb' h
  refine hoth b (fun e=>?_)
  subst e
  rcases h with h | ⟨h,h2,h3⟩ | ⟨h2,h3⟩
  ·exact (S.own _ _ hlo).2.2 h
  ·rw [hlo] at h2;cases h2;exact h3 (.inl rfl)
  ·rcases (S.own _ _ hlo).1 with h4 | h4
   ·omega
   ·exact h3 h4
 ·intro b h ho' hc
  simp only [G.nA]
  rw [if_neg (Cn b h ho' hc),if_neg (by rw [ho'];intro e;exact hc (.inl (Option.some.inj e)))]
  cases t with
  | none=>exact ho'
  | some q =>
   simp only
   rw [if_neg (by rw [ho'];intro e;exact hc (.inr ⟨q,rfl,Option.some.inj e⟩))]
   exact ho'
 ·intro s hs
  refine ⟨rfl,?_⟩
  simp only [G.nA]
  cases t with
  | none=>rfl
  | some q =>
   simp only
   rw [if_neg (fun e=>hs (.inr ⟨q,rfl,by rw [e]⟩))]
 ·intro i hi
  have hi':i≠id:=fun e=>hi (.inl (by rw [e]))
  exact ⟨by simp only [G.nA];rw [if_neg hi'],by simp only [St.nQ];rw [List.getElem?_set_ne (fun e=>hi' e.symm)]⟩
 ·intro s y hy
  simp only [St.nQ,mX] at hy
  have main:∀ z q,look st.env s=some z→t=some q→s≠q→y=(z.kill (di q)).kill (jN id) →
   (¬ gY (.inl s)∧(look st.env s=some y∧(∀ h,y.gp=some h→¬ gY h)∨y=.dead∧∃ z,look st.env s=some z)):=by
   intro z q hz hq' E9 AP
   have hnc:¬ gY (.inl s):=by
    rintro (e | ⟨q',hq2,e⟩)
    ·cases e
    ·rw [hq'] at hq2;cases hq2;cases e;exact E9 rfl
   refine ⟨hnc,?_⟩
   by_cases hdd:y=.dead
   ·exact .inr ⟨hdd,z,hz⟩
   ·rcases X.iQ (di q) z with h | ⟨h,_⟩
    ·exact (hdd (by rw [AP,h];rfl)).elim
    ·rw [h] at AP
     rcases X.iQ (jN id) z with h3 | ⟨h3,_⟩
     ·exact (hdd (by rw [AP,h3])).elim
     ·rw [h3] at AP
      subst AP
      refine .inl ⟨hz,fun r hr e=>?_⟩
      rcases e with e | ⟨q',hq2,e⟩
      ·exact X.uV (q:=.b id 0) h3 hdd r hr e
      ·rw [hq'] at hq2
       cases hq2
       exact X.oq h hdd r hr e
  cases t with
  | none =>
   simp only [pK] at hy
   cases hl:look st.env s with
   | none=>rw [hl] at hy;cases hy
   | some z =>
    rw [hl] at hy
    simp only [Option.map_some,Option.some.injEq] at hy
    have hnc:¬ gY (.inl s):=by
     rintro (e | ⟨q,hq',e⟩)
     ·cases e
     ·cases hq'
    refine .inl ⟨hnc,?_⟩
    by_cases hdd:y=.dead
    ·exact .inr ⟨hdd,z,rfl⟩
    ·rcases X.iQ (jN id) z with h | ⟨h,_⟩
     ·exact (hdd (by rw [← hy,h])).elim
     ·rw [h] at hy
      subst hy
      refine .inl ⟨rfl,fun r hr e=>?_⟩
      rcases e with e | ⟨q,hq',e⟩
      ·exact X.uV (q:=.b id 0) h hdd r hr e
      ·cases hq'
  | some q =>
   simp only [pK,look] at hy
   cases hbq:Nat.beq s q with
   | true =>
    have:=Nat.eq_of_beq_eq_true hbq
    subst this
    rw [hbq] at hy
    cases hy
    exact .inr ⟨Aw s rfl,trivial,by simp [G.nA]⟩
   | false =>
    have E9:s≠q:=fun e=>by rw [e,Nat.beq_refl] at hbq;cases hbq
    rw [hbq] at hy
    simp only [mX] at hy
    cases hl:look st.env s with
    | none=>rw [hl] at hy;cases hy
    | some z =>
     rw [hl] at hy
     simp only [Option.map_some,Option.some.injEq] at hy
     have:=main z q hl rfl E9 hy.symm
     rw [hl] at this
     exact .inl this
 ·intro i b hb' hc
  rcases hc with hc | ⟨q,_,hc⟩
  ·cases hc
   simp only [St.nQ] at hb'
   rw [List.getElem?_set_self hid] at hb'
   cases hb'
   have e1:(g.nA id t (g.loc id :: A')).TB id=g.loc id :: A':=by simp [G.nA]
   rw [e1]
   refine ⟨⟨cur',el,A',rfl,hg,hr.keep k (fun b hb'=>hoth b (hne b hb')),h1⟩,fun b hb'=>?_⟩
   simp only [G.nA]
   rw [if_pos hb']
  ·cases hc
 ·intro s hs
  rcases hs with hs | ⟨q,hq,hs⟩
  ·cases hs
  ·cases hs
   simp [G.nA,hq]
 ·intro i hi
  rcases hi with hi | ⟨q,_,hi⟩
  ·cases hi;simp only [G.nA,if_true];exact hn
  ·cases hi
 ·intro b h ho'
  simp only [G.nA] at ho'
  by_cases hb':b∈g.loc id :: A'
  ·have:∃ h',g.own b=some h':=by
    rcases List.mem_cons.1 hb' with rfl | hb'
    ·exact ⟨_,hlo⟩
    ·rcases mU b hb' with h2 | ⟨q,_,h2⟩
     ·exact ⟨_,h2⟩
     ·exact ⟨_,h2⟩
   obtain ⟨h',h2⟩:=this
   exact .inr ⟨.inl ⟨h',h2⟩,by rw [hsz];exact (S.own b h' h2).2.1,(S.own b h' h2).2.2⟩
  ·rw [if_neg hb'] at ho'
   split at ho'
   ·cases ho'
   ·cases t with
    | none=>exact .inl ⟨ho',(S.own b h ho').2.2⟩
    | some q =>
     simp only at ho'
     split at ho'
     ·cases ho'
     ·exact .inl ⟨ho',(S.own b h ho').2.2⟩
end
end Go.Rf
end
section
namespace Go.Rf
open Go.RowKit
set_option linter.unusedVariables false
set_option linter.unusedSimpArgs false
variable [cO]
section
variable {P:Program} {C:Ctx} {g:G} {st:St} {a:Act} {w w':World}
theorem FH {w:World} {t:TypeId} {b off:Nat} {v:Value} {cur:Array Value} {el:TypeId} (hh:w.heap[b]? = some (.cells cur el (0,0))) (hs:gy P t=some v.cells.size) (hl:off+v.cells.size≤cur.size) (h1:∀ u∈v.cells.toList,u.oneCell'=true) :
 (Instr.storeAt t (.pointer (some ⟨b,off,none⟩)) v).run P w=.ok () (w.setRow b (cur.toList.take off++v.cells.toList++cur.toList.drop (off+v.cells.size)).toArray):=by
 have:=run_storeCells_at P b off el v.cells.toList 0 cur w hh (by simpa using hl) h1
 simp only [Nat.add_zero,Array.length_toList] at this
 unfold gy at hs
 cases hi:P.info? t with
 | none=>rw [hi] at hs;cases hs
 | some i =>
  rw [hi] at hs
  have hs:i.size=v.cells.size:=Option.some.inj hs
  simp only [Instr.storeAt,Instr.sureAddr,storeVar,Sem.run_bind,Sem.run_pure,Result.andThen_ok,sizeOf,typeInfo,run_program,hi,hs]
  rw [if_neg (by simp)]
  exact this
theorem bD.store {o:Oper} {e e1:E} {t:TypeId} {s id off:Nat} {x:Operand} {src:Option Nat} {cs ds:List D} (ho:o.op=.store t (.tmp s) x) (hd:o.dst=none) (h1:All e1.ob→All e.ob)
 (hl:look e1.st.env s=some (.d (.ptr id off))) (hb:e1.st.box[id]? = some (.cells cs)) (hlen:off+ds.length≤cs.length) (hsz:gy P t=some ds.length)
 (hrun:All e1.ob→∀ g a w,aI C g e.st a w→∃ g1 T,aI C g1 e1.st a w∧cK g1 w (a.eval x).cells.toList ds T∧(∀ u∈(a.eval x).cells.toList,u.oneCell'=true)∧T.Nodup∧∀ b∈T,∃ q,src=some q∧g1.own b=some (.inl q)) (hsrc:∀ q,src=some q→∃ y,look e1.st.env q=some y) :
 bD P C o e { e1 with st:=e1.st.nQ id src (cs.take off++ds++cs.drop (off+ds.length)) }:=by
 intro hA
 refine ⟨h1 hA,fun g a w S next Q hn=>?_⟩
 obtain ⟨g1,T,S1,hr,hone,gF,dB⟩:=hrun hA g a w S
 obtain ⟨_,h2,_⟩:=S1.env s _ hl
 have h2:aV g1 w (a.tmps.getD s undef) (.ptr id off) (g1.TE s):=h2
 have KU:a.eval (.tmp s)=.pointer (some ⟨g1.loc id,off,none⟩):=by
  show a.tmps.getD s undef=_
  generalize a.tmps.getD s undef=v at h2
  generalize g1.TE s=T at h2
  cases h2
  rfl
 obtain ⟨⟨cur,el,A,hT,hh,hrc,hc1⟩,hown⟩:=S1.box id _ hb
 have hcl:cur.size=cs.length:=by rw [← Array.length_toList];exact hrc.length
 have hvl:(a.eval x).cells.size=ds.length:=by rw [← Array.length_toList];exact hr.length
 obtain ⟨A1,B1,gD,hd1,hdr⟩:=hrc.cut off
 obtain ⟨M,B2,QX,_,hd2⟩:=hdr.cut ds.length
 rw [List.drop_drop,List.drop_drop] at hd2
 subst QX
 have hst:=FH (P:=P) (t:=t) (b:=g1.loc id) (off:=off) (v:=a.eval x) hh (by rw [hvl];exact hsz) (by rw [hvl,hcl];exact hlen) hone
 have yj:(execOp a.eval o).run P w=.ok .skip (w.setRow (g1.loc id) (cur.toList.take off++(a.eval x).cells.toList++cur.toList.drop (off+(a.eval x).cells.size)).toArray):=by
  unfold execOp
  simp only [ho,KU,Sem.run_bind,hst,Result.andThen_ok,Sem.run_pure]
 unfold Oper.wp
 rw [yj,Oper.upon_skip,hd]
 have hn':=S1.mK id
 rw [hT,gD] at hn'
 have QY:=List.nodup_append.1 (List.nodup_cons.1 hn').2
 have hnM:=List.nodup_append.1 QY.2.1
 have Jf:∀ b∈T,b∉g1.loc id :: (A1++(M++B2)):=fun b hb' hm=>by
  obtain ⟨q,_,hq⟩:=dB b hb'
  have:=hown b (by rw [hT,gD];exact hm)
  rw [hq] at this;cases this
 refine hn _ _ _ (S1.nQ (t:=src) (A':=A1++T++B2) (cur:=cur) (el:=el) (w':=w.setRow (g1.loc id) (cur.toList.take off++(a.eval x).cells.toList++cur.toList.drop (off+(a.eval x).cells.size)).toArray) hb hT hh (setRow_heap w _ cur _ el _ hh) rfl rfl rfl (by simp) (fun b hb'=>setRow_other w _ b _ hb') ?_ ?_ ?_ ?_ ?_) (fun h=>by rw [ho] at h;cases h)
 ·simp only [List.toList_toArray]
  rw [hvl]
  exact (hd1.app hr).app hd2
 ·intro u hu
  simp only [List.toList_toArray,List.mem_append] at hu
  rcases hu with (h | h) | h
  ·exact hc1 u (List.mem_of_mem_take h)
  ·exact hone u h
  ·exact hc1 u (List.mem_of_mem_drop h)
 ·refine List.nodup_cons.2 ⟨fun h=>?_,?_⟩
  ·simp only [List.mem_append] at h
   rcases h with (h | h) | h
   ·exact (List.nodup_cons.1 hn').1 (by simp [h])
   ·exact Jf _ h (by simp)
   ·exact (List.nodup_cons.1 hn').1 (by simp [h])
  ·refine List.nodup_append.2 ⟨List.nodup_append.2 ⟨QY.1,gF,fun b hb' c hc e=>?_⟩,hnM.2.1,fun b hb' c hc e=>?_⟩
   ·subst e;exact Jf b hc (by simp [hb'])
   ·subst e
    rcases List.mem_append.1 hb' with h | h
    ·exact QY.2.2 b h b (by simp [hc]) rfl
    ·exact Jf b h (by simp [hc])
 ·intro b hb'
  simp only [List.mem_append] at hb'
  rcases hb' with (h | h) | h
  ·exact .inl (by rw [gD];simp [h])
  ·exact .inr (dB b h)
  ·exact .inl (by rw [gD];simp [h])
 ·intro q hq
  obtain ⟨y,hy⟩:=hsrc q hq
  exact (S1.env q y hy).1
def qm (P:Program) (t:TypeId) (n:Nat):Bool:=match gy P t with
 | some k=>Nat.beq k n
 | none=>false
theorem sV {t:TypeId} {n:Nat} (h:qm P t n=true):gy P t=some n:=by
 unfold qm at h
 split at h
 ·rename_i k hk
  rw [hk,Nat.eq_of_beq_eq_true h]
 ·cases h
def GM (P:Program) (o:Oper) (t:TypeId) (s:Nat) (x:Operand) (e:E):Option E :=
 match o.dst with
 | some _=>none
 | none=>match look e.st.env s with
  | some (.d (.ptr id off))=>match x,(match x with | .tmp q=>look e.st.env q | _=>none) with
   | .tmp q,some (.d (.v (.row (some el) sz es)))=>match e.st.box[id]? with
    | some (.cells cs)=>match Nat.ble (off+1) cs.length && qm P t 1 with
     | true=>some { e with st:=e.st.nQ id (some q) (cs.take off++[.v (.row (some el) sz es)]++cs.drop (off+1)) }
     | false=>none
    | _=>none
   | .tmp _,some (.al (.top (.b i c)))=>match e.st.box[id]? with
    | some (.cells cs)=>match Nat.ble (off+1) cs.length && qm P t 1 && Nat.beq i id && Nat.beq c off with
     | true=>some e
     | false=>none
    | _=>none
   | .tmp q,some (.d (.ptr i f))=>match e.st.box[id]? with
    | some (.cells cs)=>match Nat.ble (off+1) cs.length && qm P t 1 with
     | true=>some { e with st:=e.st.nQ id none (cs.take off++[.ptr i f]++cs.drop (off+1)) }
     | false=>none
    | _=>none
   | _,_=>match val x e with
    | some (u,e)=>match look e.st.env s,e.st.box[id]? with
     | some (.d (.ptr id' off')),some (.cells cs)=>match u.qj && Nat.ble (off+u.cells.length) cs.length && qm P t u.cells.length && Nat.beq id id' && Nat.beq off off' with
      | true=>some { e with st:=e.st.nQ id none (cs.take off++dv u.cells++cs.drop (off+(dv u.cells).length)) }
      | false=>none
     | _,_=>none
    | none=>none
  | _=>none
theorem ZC {o:Oper} {t:TypeId} {s:Nat} {x:Operand} {e e':E} (ho:o.op=.store t (.tmp s) x) (h:GM P o t s x e=some e'):bD P C o e e':=by
 unfold GM at h
 split at h
 ·cases h
 rename_i hd
 split at h
 ·rename_i id off hl
  split at h
  ·rename_i q el sz es hq
   split at h
   ·rename_i cs hb
    split at h
    ·rename_i hc
     cases h
     rw [Bool.and_eq_true] at hc
     have c1:=Nat.le_of_ble_eq_true hc.1
     have c2:=sV hc.2
     have hq:look e.st.env q=some (.d (.v (.row (some el) sz es))):=hq
     refine bD.store (ds:=[.v (.row (some el) sz es)]) ho hd (fun h=>h) hl hb (by simpa using c1) c2 (fun _ g a w S=>?_) (fun q' e'=>by cases e';exact ⟨_,hq⟩)
     obtain ⟨_,h2,h3⟩:=S.env q _ hq
     have h2:aV g w (a.eval (.tmp q)) (.v (.row (some el) sz es)) (g.TE q):=h2
     have hone:=h2.inv.one rfl
     refine ⟨g,g.TE q,S,?_,?_,S.nU q,fun b hb'=>⟨q,rfl,h3 b hb'⟩⟩
     ·rw [cells_one hone]
      have:=cK.cons h2 (cK.nil (g:=g) (w:=w))
      simpa using this
     ·rw [cells_one hone];simpa using hone
    ·cases h
   ·cases h
  ·rename_i q i cc hq
   split at h
   ·rename_i cs hb
    split at h
    ·rename_i hc
     cases h
     simp only [Bool.and_eq_true] at hc
     obtain ⟨⟨⟨c1,c2⟩,c3⟩,c4⟩:=hc
     have c1:=Nat.le_of_ble_eq_true c1
     have c2:=sV c2
     have c3:=Nat.eq_of_beq_eq_true c3
     have c4:=Nat.eq_of_beq_eq_true c4
     subst c3
     subst c4
     have hq:look e.st.env q=some (.al (.top (.b i cc))):=hq
     refine fun hA=>⟨hA,fun g a w S next Q hn=>?_⟩
     obtain ⟨_,h2,_⟩:=S.env s _ hl
     have h2:aV g w (a.tmps.getD s undef) (.ptr i cc) (g.TE s):=h2
     have KU:a.eval (.tmp s)=.pointer (some ⟨g.loc i,cc,none⟩):=by
      show a.tmps.getD s undef=_
      generalize a.tmps.getD s undef=v at h2
      generalize g.TE s=T at h2
      cases h2
      rfl
     obtain ⟨⟨cur,el,A,hT,hh,hrc,hc1⟩,hown⟩:=S.box i _ hb
     have hcl:cur.size=cs.length:=by rw [← Array.length_toList];exact hrc.length
     obtain ⟨_,⟨_,h3⟩,_⟩:=S.env q _ hq
     have h3:dY g a w (.b i cc)=some (a.eval (.tmp q)):=h3
     simp only [dY] at h3
     split at h3
     rotate_left
     ·cases h3
     simp only [World.cell?,hh] at h3
     have hget:cur.toList[cc]? = some (a.eval (.tmp q)):=by simpa using h3
     have hone:=hc1 _ (List.mem_of_getElem? hget)
     have hcells:=cells_one hone
     have hst:=FH (P:=P) (t:=t) (b:=g.loc i) (off:=cc) (v:=a.eval (.tmp q)) hh (by rw [hcells];exact c2) (by rw [hcells,hcl];simpa using c1) (by rw [hcells];simpa using hone)
     have hsame:(cur.toList.take cc++(a.eval (.tmp q)).cells.toList++cur.toList.drop (cc+(a.eval (.tmp q)).cells.size)).toArray=cur:=by
      rw [hcells]
      apply Array.ext'
      simp only [List.size_toArray,List.length_cons,List.length_nil,Nat.zero_add,List.append_assoc]
      have hlt:cc < cur.toList.length:=(List.getElem?_eq_some_iff.1 hget).1
      have e1:cur.toList[cc]=a.eval (.tmp q):=(List.getElem?_eq_some_iff.1 hget).2
      conv=>rhs;rw [← List.take_append_drop cc cur.toList,List.drop_eq_getElem_cons hlt,e1]
      rfl
     rw [hsame,setRow_self w _ cur el _ hh] at hst
     have yj:(execOp a.eval o).run P w=.ok .skip w:=by
      unfold execOp
      simp only [ho,KU,Sem.run_bind,hst,Result.andThen_ok,Sem.run_pure]
     unfold Oper.wp
     rw [yj,Oper.upon_skip,hd]
     exact hn _ _ _ S (fun h=>by rw [ho] at h;cases h)
    ·cases h
   ·cases h
  ·rename_i q i f hq
   split at h
   ·rename_i cs hb
    split at h
    ·rename_i hc
     cases h
     rw [Bool.and_eq_true] at hc
     have c1:=Nat.le_of_ble_eq_true hc.1
     have c2:=sV hc.2
     have hq:look e.st.env q=some (.d (.ptr i f)):=hq
     refine bD.store (src:=none) (ds:=[.ptr i f]) ho hd (fun h=>h) hl hb (by simpa using c1) c2 (fun _ g a w S=>?_) (fun q' e'=>by cases e')
     obtain ⟨_,h2,h3⟩:=S.env q _ hq
     have h2:aV g w (a.eval (.tmp q)) (.ptr i f) (g.TE q):=h2
     have hT:=h2.bM rfl
     rw [hT] at h2
     have hone:(a.eval (.tmp q)).oneCell'=true:=by generalize a.eval (.tmp q)=v at h2;cases h2;rfl
     refine ⟨g,[],S,?_,?_,List.nodup_nil,fun b hb'=>by cases hb'⟩
     ·rw [cells_one hone]
      have:=cK.cons h2 (cK.nil (g:=g) (w:=w))
      simpa using this
     ·rw [cells_one hone];simpa using hone
    ·cases h
   ·cases h
  ·split at h
   ·rename_i u e1 hv
    split at h
    ·rename_i id' off' cs hl1 hb
     split at h
     ·rename_i hc
      cases h
      simp only [Bool.and_eq_true] at hc
      obtain ⟨⟨⟨⟨c1,c2⟩,c3⟩,c4⟩,c5⟩:=hc
      have c2:=Nat.le_of_ble_eq_true c2
      have c3:=sV c3
      have c4:=Nat.eq_of_beq_eq_true c4
      have c5:=Nat.eq_of_beq_eq_true c5
      subst c4
      subst c5
      refine bD.store (src:=none) (ds:=dv u.cells) ho hd (fun hA=>(val_ok (C:=C) hv hA).1) hl1 hb (by rw [xC];exact c2) (by rw [xC];exact c3) (fun hA g a w S=>?_) (fun q' e'=>by cases e')
      obtain ⟨g1,k1,S1,r1⟩:=(val_ok (C:=C) hv hA).2 g a w S
      obtain ⟨r3,r4⟩:=r1.flat c1
      exact ⟨g1,[],S1,r3.dv,r3.one r4,List.nodup_nil,fun b hb'=>by cases hb'⟩
     ·cases h
    ·cases h
   ·cases h
 ·cases h
end
end Go.Rf
end
section
namespace Go.Rf
open Go.RowKit
set_option linter.unusedVariables false
set_option linter.unusedSimpArgs false
variable [cO]
def holdB:Root→Root→Bool
 | .t a,.t b=>Nat.beq a b
 | .b a _,.b b _=>Nat.beq a b
 | _,_=>false
theorem TN {r q:Root} (h:r.holder=q.holder):holdB r q=true:=by
 cases r<;>cases q<;>simp_all [Root.holder,holdB]
theorem GN {r q:Root} (h:holdB r q=false):r.holder≠q.holder:=fun e=>by rw [TN e] at h;cases h
def Co:Root→Root→Bool
 | .t a,.t b=>Nat.beq a b
 | .b a c,.b b d=>Nat.beq a b && Nat.beq c d
 | _,_=>false
theorem abk {r q:Root} (h:Co r q=true):r=q:=by
 cases r<;>cases q<;>simp_all [Co]
def X.ma (r:Root):X→X
 | .al (.jf q sz i j)=>match holdB q r with
  | true=>.dead
  | false=>.al (.jf q sz i j)
 | .pa q sz i j=>match holdB q r with
  | true=>match Co q r with
   | true=>.pa q sz i j
   | false=>.dead
  | false=>.pa q sz i j
 | x=>x
def ma (r:Root):List (Nat × X)→List (Nat × X)
 | []=>[]
 | (k,x) :: l=>(k,x.ma r) :: ma r l
theorem Sl (r:Root):∀ (l:List (Nat × X)) (t:Nat),look (ma r l) t=(look l t).map (X.ma r)
 | [],_=>rfl
 | (k,x) :: l,t=>by
  simp only [ma,look]
  cases Nat.beq t k with
  | true=>rfl
  | false=>exact Sl r l t
theorem X.R7 (r:Root) (x:X):x.ma r=.dead∨(x.ma r=x∧((∀ h,x.gp=some h→h≠r.holder)∨(∃ q,x=.al (.top q))∨∃ sz i j,x=.pa r sz i j)):=by
 cases x with
 | al p =>
  cases p with
  | top q=>exact .inr ⟨rfl,.inr (.inl ⟨q,rfl⟩)⟩
  | jf q sz i j =>
   simp only [X.ma]
   cases h:holdB q r with
   | true=>exact .inl rfl
   | false=>exact .inr ⟨rfl,.inl fun h' hq=>by cases hq;exact GN h⟩
 | pa q sz i j =>
  simp only [X.ma]
  cases h:holdB q r with
  | true =>
   cases h2:Co q r with
   | true=>exact .inr ⟨rfl,.inr (.inr ⟨sz,i,j,by rw [abk h2]⟩)⟩
   | false=>exact .inl rfl
  | false=>exact .inr ⟨rfl,.inl fun h' hq=>by cases hq;exact GN h⟩
 | d d=>exact .inr ⟨rfl,.inl fun h' hq=>by cases hq⟩
 | dead=>exact .inl rfl
section
variable {C:Ctx} {g:G} {st:St} {a:Act} {w w':World}
theorem cK.WG {g:G} {w:World}:∀ {vs:List Value} {ds:List D} {T:List Nat} {c:Nat} {d:D},cK g w vs ds T→ds[c]? = some d →
 ∃ v T1 Tc T2,vs[c]? = some v∧T=T1++(Tc++T2)∧aV g w v d Tc∧∀ g' w' d' T',dG g g' w w'→(∀ b∈T1++T2,w'.heap[b]? = w.heap[b]?)→aV g' w' v d' T'→cK g' w' vs (ds.set c d') (T1++(T'++T2))
 | _,_,_,_,_,.nil,h=>by simp at h
 | _,_,_,0,d,.cons (v:=v) (A:=A) (B:=B) h1 h2,h=>by
  simp only [List.getElem?_cons_zero,Option.some.injEq] at h
  subst h
  exact ⟨v,[],A,B,rfl,rfl,h1,fun g' w' d' T' k hs h'=>(cK.cons h' (h2.keep k hs):cK g' w' _ _ (T'++B))⟩
 | _,_,_,c+1,d,.cons (A:=A) (B:=B) h1 h2,h=>by
  simp only [List.getElem?_cons_succ] at h
  obtain ⟨v,T1,Tc,T2,e1,e2,e3,e4⟩:=h2.WG h
  subst e2
  refine ⟨v,A++T1,Tc,T2,by simpa using e1,by simp,e3,fun g' w' d' T' k hs h'=>?_⟩
  have:=cK.cons (h1.keep k (fun b hb=>hs b (by simp [hb]))) (e4 g' w' d' T' k (fun b hb=>hs b (by simp only [List.mem_append] at hb ⊢;rcases hb with h | h<;>simp [h])) h')
  simpa using this
def St.reset (st:St) (r:Root) (u:V) (src:Option Nat):St:=match r with
 | .t s=>{ env:=(s,.d (.v u)) :: ma (.t s) (pK src st.env),box:=st.box }
 | .b id c=>match st.box[id]? with
  | some (.cells cs)=>{ env:=ma (.b id c) (pK src st.env),box:=st.box.set id (.cells (cs.set c (.v u))) }
  | _=>st
def G.reset (g:G) (h:Nat ⊕ Nat) (T T' N:List Nat) (src:Option Nat):G :=
 { g with own:=fun b=>if b∈T' then some h else if b∈T then none else match src with
            | some q=>if g.own b=some (.inl q) then none else g.own b
            | none=>g.own b,
          TE:=fun t=>if h=.inl t then N else match src with
            | some q=>if t=q then [] else g.TE t
            | none=>g.TE t,
          TB:=fun i=>if h=.inr i then N else g.TB i }
theorem Z6 {src:Option Nat} {l:List (Nat × X)} {t:Nat} {y:X} {r:Root} (h:look (ma r (pK src l)) t=some y) :
 (src=some t∧y=.dead)∨(src≠some t∧∃ z,look l t=some z∧(y=.dead∨(y=z∧(∀ q,src=some q→∀ h,z.gp=some h→h≠.inl q)∧((∀ h,z.gp=some h→h≠r.holder)∨(∃ q,z=.al (.top q))∨∃ sz i j,z=.pa r sz i j)))):=by
 rw [Sl] at h
 cases src with
 | none =>
  simp only [pK] at h
  refine .inr ⟨by simp,?_⟩
  cases hl:look l t with
  | none=>rw [hl] at h;cases h
  | some z =>
   rw [hl] at h
   simp only [Option.map_some,Option.some.injEq] at h
   refine ⟨z,rfl,?_⟩
   rcases X.R7 r z with h2 | ⟨h2,h3⟩
   ·exact .inl (by rw [← h,h2])
   ·exact .inr ⟨by rw [← h,h2],by simp,h3⟩
 | some q =>
  simp only [pK,look] at h
  cases hb:Nat.beq t q with
  | true =>
   have:=Nat.eq_of_beq_eq_true hb
   subst this
   rw [hb] at h
   simp only [Option.map_some,Option.some.injEq] at h
   exact .inl ⟨rfl,h ▸ rfl⟩
  | false =>
   rw [hb] at h
   have htq:t≠q:=fun e=>by rw [e,Nat.beq_refl] at hb;cases hb
   refine .inr ⟨fun e=>htq (Option.some.inj e).symm,?_⟩
   simp only [mX] at h
   cases hl:look l t with
   | none=>rw [hl] at h;cases h
   | some z =>
    rw [hl] at h
    simp only [Option.map_some,Option.some.injEq] at h
    refine ⟨z,rfl,?_⟩
    rcases X.iQ (di q) z with h1 | ⟨h1,_⟩
    ·rw [h1] at h;exact .inl (h ▸ rfl)
    ·rw [h1] at h
     rcases X.R7 r z with h2 | ⟨h2,h3⟩
     ·exact .inl (by rw [← h,h2])
     ·by_cases hd:z=.dead
      ·exact .inl (by rw [← h,h2,hd])
      ·exact .inr ⟨by rw [← h,h2],fun q' e h' hh=>by cases e;exact X.oq h1 hd h' hh,h3⟩
theorem aI.lens (S:aI C g st a w) {r:Root} {u:V} (hu:iT st r=some u):∃ v T,dY g a w r=some v∧aS g.aM w v u T∧T.Nodup∧(∀ b∈T,g.own b=some r.holder) ∧
 ∀ (w':World) (u':V) (T':List Nat) (src:Option Nat),w'.os=w.os→w'.tape=w.tape→w'.output=w.output→w.heap.size≤w'.heap.size →
  (∀ b,b < w.heap.size→b∉T→w'.heap[b]? = w.heap[b]?)→aS g.aM w' v u' T'→T'.Nodup→(∀ b∈T',b∈T∨∃ q,src=some q∧g.own b=some (.inl q)) →
  (∀ q,src=some q→q < C.N∧r.holder≠.inl q)→(∀ b,v.ownBlock=some b→b∈T→b∈T') →
  ∃ g',g'.aM=g.aM∧(∀ b∈T,b∉T'→g'.own b=none)∧aI C g' (st.reset r u' src) a w':=by
 have main:∀ (v:Value) (T:List Nat) (w':World) (u':V) (T' N:List Nat) (src:Option Nat) (st':St) (hh:r.holder=r.holder),dY g a w r=some v→T.Nodup→(∀ b∈T,g.own b=some r.holder) →
  w'.os=w.os→w'.tape=w.tape→w'.output=w.output→w.heap.size≤w'.heap.size →
  (∀ b,b < w.heap.size→b∉T→w'.heap[b]? = w.heap[b]?)→(∀ b∈T',b∈T∨∃ q,src=some q∧g.own b=some (.inl q)) →
  (∀ q,src=some q→q < C.N∧r.holder≠.inl q)→(∀ b,v.ownBlock=some b→b∈T→b∈T') →
  N.Nodup→(∀ b∈N,b∈T'∨(b∉T∧g.own b=some r.holder)) →
  st'.box.length=st.box.length →
  (∀ i,r.holder≠.inr i→st'.box[i]? = st.box[i]?)→(∀ t,r.holder≠.inl t→look st'.env t=look (ma r (pK src st.env)) t) →
  (∀ t y,r.holder=.inl t→look st'.env t=some y→t < C.N∧ko (g.reset r.holder T T' N src) a w' (a.tmps.getD t undef) y N) →
  (∀ i b,r.holder=.inr i→st'.box[i]? = some b→lL (g.reset r.holder T T' N src) w' (g.loc i) b N) →
  (∀ i c,r=.b i c→g.loc i∉T) →
  aI C (g.reset r.holder T T' N src) st' a w':=by
  intro v T w' u' T' N src st' _ hpv gF dB ho ht hou hsz hsame hT' hsrc hblk AQ hN hlen hbx KO hE hB hloc
  have ad6:∀ b∈T',∃ h,g.own b=some h:=fun b hb=>by
   rcases hT' b hb with h | ⟨q,_,h⟩
   ·exact ⟨_,dB b h⟩
   ·exact ⟨_,h⟩
  let gY:Nat ⊕ Nat→Prop:=fun h=>h=r.holder∨∃ q,src=some q∧h=.inl q
  have Cn:∀ b h,g.own b=some h→¬ gY h→b∉T'∧b∉T:=by
   intro b h hb hc
   refine ⟨fun hb'=>?_,fun hb'=>?_⟩
   ·rcases hT' b hb' with h2 | ⟨q,hq,h2⟩
    ·rw [dB b h2] at hb;cases hb;exact hc (.inl rfl)
    ·rw [h2] at hb;cases hb;exact hc (.inr ⟨q,hq,rfl⟩)
   ·rw [dB b hb'] at hb;cases hb;exact hc (.inl rfl)
  have WH:∀ b∈N,(g.reset r.holder T T' N src).own b=some r.holder:=by
   intro b hb
   simp only [G.reset]
   rcases hN b hb with h | ⟨h1,h2⟩
   ·rw [if_pos h]
   ·by_cases h3:b∈T'
    ·rw [if_pos h3]
    ·rw [if_neg h3,if_neg h1]
     cases src with
     | none=>exact h2
     | some q =>
      simp only
      rw [if_neg (fun e=>(hsrc q rfl).2 (by rw [h2] at e;exact Option.some.inj e))]
      exact h2
  have k:dG g (g.reset r.holder T T' N src) w w':=⟨fun _ h=>h,Nat.le_refl _,fun _ _=>rfl,fun b hb=>hsame b (S.dJ b hb) (fun h=>(S.own b _ (dB b h)).2.2 hb)⟩
  have VA:∀ b,g.own b=some r.holder→b∉T→(g.reset r.holder T T' N src).own b=some r.holder:=by
   intro b hb hn
   simp only [G.reset]
   by_cases h3:b∈T'
   ·rw [if_pos h3]
   ·rw [if_neg h3,if_neg hn]
    cases src with
    | none=>exact hb
    | some q =>
     simp only
     rw [if_neg (fun e=>(hsrc q rfl).2 (by rw [hb] at e;exact Option.some.inj e))]
     exact hb
  have WI:∀ q u,q.holder=r.holder→dY g a w q=some u→dY (g.reset r.holder T T' N src) a w' q=some u:=by
   intro q u hq h
   cases q with
   | t x=>exact h
   | b id c =>
    simp only [dY] at h ⊢
    split at h
    ·rename_i hc
     cases r with
     | t x=>simp [Root.holder] at hq
     | b i c' =>
      have hq':id=i:=by simpa [Root.holder] using hq
      subst hq'
      have hnl:=hloc id c' rfl
      have:(g.reset (Root.b id c').holder T T' N src).own (g.loc id)=some (.inr id):=VA _ hc.2 hnl
      rw [if_pos ⟨hc.1,this⟩,← h]
      exact uY (hsame _ (by have:=(S.own _ _ hc.2).2.1;exact this) hnl)
    ·cases h
  refine S.change gY S.defers S.tmps ho ht hou hsz (fun _ h=>h) (fun _ h=>.inl h) (fun b hb=>Nat.lt_of_lt_of_le (S.dJ b hb) hsz) (by rw [hlen];exact S.n) (Nat.le_refl _) (fun _ _=>rfl) ?_ ?_ ?_ ?_ ?_ ?_ ?_ ?_ ?_
  ·intro b hb h
   refine hsame b hb (fun jO=>?_)
   have w9:=dB b jO
   rcases h with h | ⟨h,h2,h3⟩ | ⟨h2,h3⟩
   ·exact (S.own b _ w9).2.2 h
   ·rw [w9] at h2;cases h2;exact h3 (.inl rfl)
   ·rcases (S.own b _ w9).1 with h4 | h4
    ·omega
    ·exact h3 h4
  ·intro b h hb hc
   obtain ⟨n1,n2⟩:=Cn b h hb hc
   simp only [G.reset]
   rw [if_neg n1,if_neg n2]
   cases src with
   | none=>exact hb
   | some q =>
    simp only
    rw [if_neg (by rw [hb];intro e;exact hc (.inr ⟨q,rfl,Option.some.inj e⟩))]
    exact hb
  ·intro t ht'
   refine ⟨rfl,?_⟩
   simp only [G.reset]
   rw [if_neg (fun e=>ht' (.inl e.symm))]
   cases src with
   | none=>rfl
   | some q =>
    simp only
    rw [if_neg (fun e=>ht' (.inr ⟨q,rfl,by rw [e]⟩))]
  ·intro i hi
   refine ⟨?_,hbx i (fun e=>hi (.inl e.symm))⟩
   simp only [G.reset]
   rw [if_neg (fun e=>hi (.inl e.symm))]
  ·intro t y hy
   by_cases hr:r.holder=.inl t
   ·obtain ⟨h1,h2⟩:=hE t y hr hy
    have e1:(g.reset r.holder T T' N src).TE t=N:=by simp [G.reset,hr]
    refine .inr ⟨h1,by rw [e1];exact h2,fun b hb=>?_⟩
    rw [e1] at hb
    rw [WH b hb,hr]
   ·rw [KO t hr] at hy
    rcases Z6 hy with ⟨hs,rfl⟩ | ⟨hs,z,hz,h⟩
    ·refine .inr ⟨(hsrc t hs).1,trivial,?_⟩
     have:(g.reset r.holder T T' N src).TE t=[]:=by simp [G.reset,hr,hs]
     rw [this];simp
    ·have hnc:¬ gY (.inl t):=by
      rintro (e | ⟨q,hq,e⟩)
      ·exact hr e.symm
      ·cases e;exact hs hq
     rcases h with rfl | ⟨rfl,h1,h2⟩
     ·exact .inl ⟨hnc,.inr ⟨rfl,z,hz⟩⟩
     ·by_cases hrt:∀ h,y.gp=some h→h≠r.holder
      ·refine .inl ⟨hnc,.inl ⟨hz,fun h hh e=>?_⟩⟩
       rcases e with e | ⟨q,hq,e⟩
       ·exact hrt h hh e
       ·exact h1 q hq h hh e
      ·obtain ⟨k1,k2,k3⟩:=S.env t y hz
       have Yv:(g.reset r.holder T T' N src).TE t=g.TE t:=by
        simp only [G.reset]
        rw [if_neg hr]
        cases src with
        | none=>rfl
        | some q =>
         simp only
         rw [if_neg (fun e=>hs (by rw [e]))]
       have kT:∀ b∈g.TE t,(g.reset r.holder T T' N src).own b=some (.inl t):=fun b hb=>by
        have hb':=k3 b hb
        obtain ⟨n1,n2⟩:=Cn b _ hb' hnc
        simp only [G.reset]
        rw [if_neg n1,if_neg n2]
        cases src with
        | none=>exact hb'
        | some q =>
         simp only
         rw [if_neg (by rw [hb'];intro e;exact hnc (.inr ⟨q,rfl,Option.some.inj e⟩))]
         exact hb'
       refine .inr ⟨k1,?_,by rw [Yv];exact kT⟩
       rw [Yv]
       rcases h2 with h2 | ⟨q,rfl⟩ | ⟨sz,i,j,rfl⟩
       ·exact (hrt h2).elim
       ·refine ⟨k2.1,?_⟩
        have hq:q.holder=r.holder:=Classical.byContradiction fun hne=>hrt (fun h hh e=>by
         simp only [X.gp,Pl.root,Option.some.injEq] at hh
         exact hne (hh.trans e))
        exact WI q _ hq k2.2
       ·obtain ⟨e1,b,e2,e3,e4⟩:=k2
        rw [hpv] at e2
        refine ⟨e1,b,?_,?_,e4⟩
        ·rw [WI r v rfl hpv];exact e2
        ·by_cases jO:b∈T
         ·have:b∈T':=hblk b e2 jO
          simp only [G.reset]
          rw [if_pos this]
         ·exact VA b e3 jO
  ·intro i b hb hc
   rcases hc with hc | ⟨q,_,hc⟩
   ·have e1:(g.reset r.holder T T' N src).TB i=N:=by simp [G.reset,← hc]
    rw [e1]
    refine ⟨hB i b hc.symm hb,fun b hb=>?_⟩
    rw [WH b hb,hc]
   ·cases hc
  ·intro t hc
   rcases hc with hc | ⟨q,hq,hc⟩
   ·simp only [G.reset]
    rw [if_pos hc.symm];exact AQ
   ·cases hc
    simp only [G.reset]
    split
    ·exact AQ
    ·simp [hq]
  ·intro i hc
   rcases hc with hc | ⟨q,hq,hc⟩
   ·simp only [G.reset]
    rw [if_pos hc.symm];exact AQ
   ·cases hc
  ·intro b h hb
   simp only [G.reset] at hb
   by_cases hb1:b∈T'
   ·obtain ⟨h',h2⟩:=ad6 b hb1
    exact .inr ⟨.inl ⟨h',h2⟩,Nat.lt_of_lt_of_le (S.own b h' h2).2.1 hsz,(S.own b h' h2).2.2⟩
   ·rw [if_neg hb1] at hb
    split at hb
    ·cases hb
    ·cases src with
     | none=>exact .inl ⟨hb,(S.own b h hb).2.2⟩
     | some q =>
      simp only at hb
      split at hb
      ·cases hb
      ·exact .inl ⟨hb,(S.own b h hb).2.2⟩
 cases r with
 | t s =>
  simp only [iT] at hu
  split at hu
  ·rename_i x hx
   cases hu
   obtain ⟨h1,h2,h3⟩:=S.env s _ hx
   have hpv:dY g a w (.t s)=some (a.tmps.getD s undef):=by
    have:s < a.tmps.size:=by rw [S.tmps];exact h1
    simp [dY,Array.getD_eq_getD_getElem?,this]
   refine ⟨a.tmps.getD s undef,g.TE s,hpv,aV.inv h2,S.nU s,h3,?_⟩
   intro w' u' T' src ho ht hou hsz hsame hR hn hT' hsrc hblk
   refine ⟨g.reset (Root.t s).holder (g.TE s) T' T' src,rfl,fun b hb hb'=>?_,main _ (g.TE s) w' u' T' T' src (st.reset (.t s) u' src) rfl hpv (S.nU s) h3 ho ht hou hsz hsame hT' hsrc hblk hn (fun b hb=>.inl hb) rfl (fun _ _=>rfl) ?_ ?_ ?_ ?_⟩
   ·simp only [G.reset];rw [if_neg hb',if_pos hb]
   ·intro t htr
    have:Nat.beq t s=false:=by
     cases hb:Nat.beq t s with
     | true=>exact (htr (by rw [Nat.eq_of_beq_eq_true hb];rfl)).elim
     | false=>rfl
    simp only [St.reset,look,this]
   ·intro t y htr hy
    have hts:s=t:=by simpa [Root.holder] using htr
    subst hts
    simp only [St.reset,look,Nat.beq_refl] at hy
    cases hy
    exact ⟨h1,.v hR⟩
   ·intro i b hr;cases hr
   ·intro i c hr;cases hr
  ·cases hu
 | b id c =>
  simp only [iT] at hu
  split at hu
  ·rename_i cs hb
   split at hu
   ·rename_i x hx
    cases hu
    obtain ⟨⟨cur,e,A,hT,hh,hr,h1⟩,h2⟩:=S.box id _ hb
    have hid:id < st.box.length:=by
     rcases Nat.lt_or_ge id st.box.length with h | h
     ·exact h
     ·rw [List.getElem?_eq_none h] at hb;cases hb
    obtain ⟨v,T1,Tc,T2,e1,e2,e3,e4⟩:=hr.WG hx
    have hn:=S.mK id
    rw [hT,e2] at hn
    have hn2:(T1++(Tc++T2)).Nodup:=(List.nodup_cons.1 hn).2
    have E5:Tc.Nodup:=(List.nodup_append.1 (List.nodup_append.1 hn2).2.1).1
    have ho:∀ b,b∈g.TB id→g.own b=some (.inr id):=h2
    have KV:∀ b∈Tc,g.own b=some (.inr id):=fun b hb=>ho b (by rw [hT,e2];simp [hb])
    have hlo:g.own (g.loc id)=some (.inr id):=ho _ (by rw [hT];simp)
    have hlc:g.loc id∉Tc:=fun h=>(List.nodup_cons.1 hn).1 (by simp [h])
    have vW:∀ b∈T1++T2,b∉Tc:=by
     intro b hb hb'
     rcases List.mem_append.1 hb with h | h
     ·exact (List.nodup_append.1 hn2).2.2 b h b (by simp [hb']) rfl
     ·exact (List.nodup_append.1 (List.nodup_append.1 hn2).2.1).2.2 b hb' b h rfl
    have hpv:dY g a w (.b id c)=some v:=by
     simp only [dY]
     rw [if_pos ⟨by rw [S.n];exact hid,hlo⟩]
     simp only [World.cell?,hh]
     simpa using e1
    refine ⟨v,Tc,hpv,aV.inv e3,E5,KV,?_⟩
    intro w' u' T' src ho' ht hou hsz hsame hR af4 hT' hsrc hblk
    have KW:∀ b∈T',b∉g.loc id :: (T1++T2):=by
     intro b hb hb'
     rcases hT' b hb with h | ⟨q,hq,h⟩
     ·rcases List.mem_cons.1 hb' with rfl | h'
      ·exact hlc h
      ·exact vW b h' h
     ·have:b∈g.TB id:=by
       rw [hT,e2]
       rcases List.mem_cons.1 hb' with rfl | h'
       ·simp
       ·rcases List.mem_append.1 h' with h' | h'<;>simp [h']
      rw [ho b this] at h;cases h
    have AQ:(g.loc id :: (T1++(T'++T2))).Nodup:=by
     refine List.nodup_cons.2 ⟨fun h=>?_,?_⟩
     ·rcases List.mem_append.1 h with h | h
      ·exact (List.nodup_cons.1 hn).1 (by simp [h])
      ·rcases List.mem_append.1 h with h | h
       ·exact KW _ h (by simp)
       ·exact (List.nodup_cons.1 hn).1 (by simp [h])
     ·have n1:=List.nodup_append.1 hn2
      have n2:=List.nodup_append.1 n1.2.1
      refine List.nodup_append.2 ⟨n1.1,List.nodup_append.2 ⟨af4,n2.2.1,fun x hx y hy e=>?_⟩,fun x hx y hy e=>?_⟩
      ·subst e;exact KW x hx (by simp [hy])
      ·subst e
       rcases List.mem_append.1 hy with h | h
       ·exact KW x h (by simp [hx])
       ·exact n1.2.2 x hx x (by simp [h]) rfl
    have af5:st.reset (.b id c) u' src={ env:=ma (.b id c) (pK src st.env),box:=st.box.set id (.cells (cs.set c (.v u'))) }:=by simp only [St.reset,hb]
    have hsz':∀ b,g.own b=some (.inr id)→b < w.heap.size:=fun b hb=>(S.own b _ hb).2.1
    refine ⟨g.reset (Root.b id c).holder Tc T' (g.loc id :: (T1++(T'++T2))) src,rfl,fun b hb hb'=>?_,?_⟩
    ·simp only [G.reset];rw [if_neg hb',if_pos hb]
    rw [af5]
    refine main v Tc w' u' T' _ src _ rfl hpv E5 KV ho' ht hou hsz hsame hT' hsrc hblk AQ ?_ ?_ ?_ ?_ ?_ ?_ ?_
    ·intro b hb'
     rcases List.mem_cons.1 hb' with rfl | hb'
     ·exact .inr ⟨hlc,hlo⟩
     ·rcases List.mem_append.1 hb' with h | h
      ·exact .inr ⟨vW b (by simp [h]),ho b (by rw [hT,e2];simp [h])⟩
      ·rcases List.mem_append.1 h with h | h
       ·exact .inl h
       ·exact .inr ⟨vW b (by simp [h]),ho b (by rw [hT,e2];simp [h])⟩
    ·simp
    ·intro i hi
     have hi':id≠i:=fun e=>hi (by rw [e];rfl)
     exact List.getElem?_set_ne hi'
    ·intro t _;rfl
    ·intro t y hr;cases hr
    ·intro i b hr hb'
     have hi:id=i:=by simpa [Root.holder] using hr
     subst hi
     rw [List.getElem?_set_self hid] at hb'
     cases hb'
     have hhw:w'.heap[g.loc id]? = some (.cells cur e (0,0)):=(hsame _ (hsz' _ hlo) hlc).trans hh
     have k:dG g (g.reset (Root.b id c).holder Tc T' (g.loc id :: (T1++(T'++T2))) src) w w':=⟨fun _ h=>h,Nat.le_refl _,fun _ _=>rfl,fun b hb=>hsame b (S.dJ b hb) (fun h=>(S.own b _ (KV b h)).2.2 hb)⟩
     refine ⟨cur,e,T1++(T'++T2),rfl,hhw,?_,h1⟩
     refine e4 _ w' _ T' k (fun b hb=>hsame b (hsz' b (ho b ?_)) (vW b hb)) (.v hR)
     rw [hT,e2]
     rcases List.mem_append.1 hb with h | h<;>simp [h]
    ·intro i c' hr
     have hi:id=i:=by cases hr;rfl
     subst hi
     exact hlc
   ·cases hu
  ·cases hu
end
end Go.Rf
end
section
namespace Go.Rf
open Go.RowKit
set_option linter.unusedVariables false
set_option linter.unusedSimpArgs false
variable [cO]
def dX (el:V) (j:Nat) (ds:List V):V:=match el with
 | .agg cs=>.agg (cs.take j++ds++cs.drop (j+ds.length))
 | x=>match ds with
  | [d]=>d
  | _=>x
def WJ:V→Bool
 | .agg _=>false
 | _=>true
def tX (el:V) (j:Nat) (ds:List V):Bool:=match el with
 | .agg cs=>Nat.ble (j+ds.length) cs.length
 | _=>match ds with
  | [d]=>WJ d && Nat.beq j 0
  | _=>false
theorem Sm {el:V} {j:Nat} {ds:List V} (h:tX el j ds=true):(dX el j ds).cells=el.cells.take j++ds++el.cells.drop (j+ds.length)∧j+ds.length≤el.cells.length:=by
 cases el with
 | agg cs=>exact ⟨rfl,Nat.le_of_ble_eq_true h⟩
 | _ =>
  simp only [tX] at h
  split at h
  ·rename_i d
   rw [Bool.and_eq_true] at h
   have hj:=Nat.eq_of_beq_eq_true h.2
   subst hj
   refine ⟨?_,by simp [V.cells]⟩
   have hd:=h.1
   cases d<;>simp_all [dX,V.cells,WJ]
  ·cases h
theorem GQ {sz:Nat} {el Yw:V} {j:Nat} {ds:List V} (h2:Yw.cells=el.cells.take j++ds++el.cells.drop (j+ds.length)) (hj:j+ds.length≤el.cells.length):∀ {es:List V} {i:Nat},(∀ e∈es,e.cells.length=sz)→es[i]? = some el →
 (es.set i Yw).flatMap V.cells=(es.flatMap V.cells).take (i*sz+j)++ds++(es.flatMap V.cells).drop (i*sz+j+ds.length)
 | [],i,_,h=>by simp at h
 | e :: es,0,hs,h=>by
  simp only [List.getElem?_cons_zero,Option.some.injEq] at h
  subst h
  simp only [List.set_cons_zero,List.flatMap_cons,h2,Nat.zero_mul,Nat.zero_add]
  rw [List.take_append_of_le_length (by omega),List.drop_append_of_le_length (by omega)]
  simp
 | e :: es,i+1,hs,h=>by
  simp only [List.getElem?_cons_succ] at h
  have ih:=GQ h2 hj (es:=es) (i:=i) (fun e he=>hs e (by simp [he])) h
  have he:=hs e (by simp)
  simp only [List.set_cons_succ,List.flatMap_cons,ih]
  have e1:(i+1)*sz+j=e.cells.length+(i*sz+j):=by rw [he,Nat.add_mul,Nat.one_mul];omega
  have e2:(i+1)*sz+j+ds.length=e.cells.length+(i*sz+j+ds.length):=by rw [e1];omega
  rw [e1,← e1,e2,e1,List.take_length_add_append,List.drop_length_add_append]
  simp
section
variable {P:Program} {C:Ctx} {g:G} {st:St} {a:Act} {w w':World}
theorem Zi (w:World) (b:Nat) (cs:Array Value):w.grownBy (w.setRow b cs) (some b) :=
 ⟨rfl,rfl,rfl,by simp,fun k _ hk=>setRow_other w b k cs (fun e=>hk (by rw [e]))⟩
theorem bD.Vd {o:Oper} {e e1:E} {t:TypeId} {s sz i j et:Nat} {r:Root} {x:Operand} {src:Option Nat} {es es' ds:List V} {el el':V} (ho:o.op=.store t (.tmp s) x) (hd:o.dst=none)
 (hl:look e1.st.env s=some (.pa r sz i j)) (hu:iT e1.st r=some (.row (some et) sz es)) (hsz:gy P t=some ds.length) (hok:tX el j ds=true)
 (hrun:All e1.ob→All e.ob∧∀ g a w,aI C g e.st a w→∃ g1 T,aI C g1 e1.st a w∧aN g1.aM w (a.eval x).cells.toList ds T∧(∀ u∈(a.eval x).cells.toList,u.oneCell'=true)∧T.Nodup∧∀ b∈T,∃ q,src=some q∧g1.own b=some (.inl q))
 (hsrc:∀ q,src=some q→(∃ y,look e1.st.env q=some y)∧r.holder≠.inl q) (hel:All e1.ob→es[i]? = some el) (hfit:All e1.ob→Fit (dX el j ds) el') (hes:All e1.ob→es.set i el'=es') :
 bD P C o e { e1 with st:=e1.st.reset r (.row (some et) sz es') src }:=by
 intro hA
 obtain ⟨h0,hrun⟩:=hrun hA
 refine ⟨h0,fun g a w S next Q hn=>?_⟩
 obtain ⟨g1,T,S1,hr,hone,gF,dB⟩:=hrun g a w S
 obtain ⟨_,⟨_,b,h3,h4,h5⟩,_⟩:=S1.env s _ hl
 obtain ⟨v,TT,hpv,hR,WK,Dm,lens⟩:=S1.lens hu
 obtain ⟨xs,A,hT,hc,hl',h1,how⟩:=nN hR
 obtain ⟨hcells,hj⟩:=Sm hok
 have hel:=hel hA
 rw [hpv] at h3
 simp only [Option.bind_some] at h3
 have hi:i < es.length:=(List.getElem?_eq_some_iff.1 hel).1
 have hels:el.cells.length=sz:=hc el (List.mem_of_getElem? hel)
 rcases how.2 with ⟨hv0,hn0⟩ | ⟨b',cap,cur,hv0,hb0,hg,hnc,hcm,hcs,htk⟩
 ·omega
 rw [hv0] at h3
 simp only [Value.ownBlock,Option.some.injEq] at h3
 subst h3
 have hvl:(a.eval x).cells.size=ds.length:=by rw [← Array.length_toList];exact hr.length
 have hoff:i*sz+j+ds.length≤es.length*sz:=by
  have:(i+1)*sz≤es.length*sz:=Nat.mul_le_mul_right _ hi
  rw [Nat.add_mul,Nat.one_mul] at this
  omega
 have hcap:es.length*sz≤cap*sz:=Nat.mul_le_mul_right _ hnc
 have hst:=FH (P:=P) (t:=t) (b:=b') (off:=i*sz+j) (v:=a.eval x) hg (by rw [hvl];exact hsz) (by rw [hvl,hcs];omega) hone
 have yj:(execOp a.eval o).run P w=.ok .skip (w.setRow b' (cur.toList.take (i*sz+j)++(a.eval x).cells.toList++cur.toList.drop (i*sz+j+(a.eval x).cells.size)).toArray):=by
  unfold execOp
  simp only [ho,Act.eval,h5,Sem.run_bind]
  simp only [Act.eval] at hst
  simp only [hst,Result.andThen_ok,Sem.run_pure]
 unfold Oper.wp
 rw [yj,Oper.upon_skip,hd]
 generalize hw2:w.setRow b' (cur.toList.take (i*sz+j)++(a.eval x).cells.toList++cur.toList.drop (i*sz+j+(a.eval x).cells.size)).toArray=w2
 have hgr:w.grownBy w2 (some b'):=hw2 ▸ Zi w b' _
 have jO:b'∈TT:=by rw [hT,hv0];simp [Value.ownBlock]
 rw [hT] at WK
 have hn1:=List.nodup_append.1 WK
 have hbA:b'∉A:=fun h=>hn1.2.2 b' (by rw [hv0];simp [Value.ownBlock]) b' h rfl
 obtain ⟨A1,B1,gD,hd1,hdr⟩:=hl'.cut (i*sz+j)
 obtain ⟨M,B2,QX,_,hd2⟩:=hdr.cut ds.length
 rw [List.drop_drop,List.drop_drop] at hd2
 subst QX
 have af6:∀ b,g1.aM b→w2.heap[b]? = w.heap[b]?:=fun b hb=>hgr.block b (S1.dJ b hb) (fun e=>by cases e;exact (S1.own _ _ (Dm _ jO)).2.2 hb)
 have VB:∀ b∈A,w2.heap[b]? = w.heap[b]?:=fun b hb=>hgr.block b (S1.own b _ (Dm b (by rw [hT];simp [hb]))).2.1 (fun e=>by cases e;exact hbA hb)
 have ad7:∀ b∈T,w2.heap[b]? = w.heap[b]?:=fun b hb=>by
  obtain ⟨q,hq,ho'⟩:=dB b hb
  refine hgr.block b (S1.own b _ ho').2.1 (fun e=>?_)
  cases e
  rw [Dm _ jO] at ho'
  exact (hsrc q hq).2 (Option.some.inj ho')
 have kk:l9 g1.aM g1.aM w w2:=⟨fun _ h=>h,af6⟩
 have hnew:aN g1.aM w2 (xs.take (i*sz+j)++(a.eval x).cells.toList++xs.drop (i*sz+j+ds.length)) (es'.flatMap V.cells) (A1++T++B2):=by
  have hfl:=GQ hcells hj hc hel
  have h6:aN g1.aM w2 (xs.take (i*sz+j)++(a.eval x).cells.toList++xs.drop (i*sz+j+ds.length)) ((es.set i (dX el j ds)).flatMap V.cells) (A1++T++B2):=by
   rw [hfl]
   exact ((hd1.keep kk (fun b hb=>VB b (by rw [gD];simp [hb]))).app (hr.keep kk ad7)).app (hd2.keep kk (fun b hb=>VB b (by rw [gD];simp [hb])))
  refine h6.fit (dH.flat ?_)
  rw [← hes hA]
  have:∀ (es:List V) (i:Nat),dH (es.set i (dX el j ds)) (es.set i el'):=by
   intro es
   induction es with
   | nil=>intro i;exact dH.refl _
   | cons c cs ih =>
    intro i
    cases i with
    | zero=>exact .cons (hfit hA) (dH.refl _)
    | succ i=>exact .cons (.refl _) (ih i)
  exact this es i
 have hxl:(xs.take (i*sz+j)++(a.eval x).cells.toList++xs.drop (i*sz+j+ds.length)).length=es.length*sz:=by
  simp only [List.length_append,List.length_take,List.length_drop,Array.length_toList,hvl,how.1]
  omega
 have adh:∀ e∈es',e.cells.length=sz:=by
  have:dH [dX el j ds] [el']:=.cons (hfit hA) .nil
  have hle:el'.cells.length=sz:=this.sizes (sz:=sz) (by
   intro e he
   simp only [List.mem_singleton] at he
   subst he
   rw [hcells]
   simp only [List.length_append,List.length_take,List.length_drop]
   omega) _ (by simp)
  intro e he
  rw [← hes hA] at he
  rcases List.mem_or_eq_of_mem_set he with h | h
  ·exact hc e h
  ·rw [h];exact hle
 have hlen':es'.length=es.length:=by rw [← hes hA];simp
 have hown':w2.ownsRow 0 et sz v es'.length (xs.take (i*sz+j)++(a.eval x).cells.toList++xs.drop (i*sz+j+ds.length)):=by
  rw [hlen']
  refine ⟨hxl,.inr ⟨b',cap,(cur.toList.take (i*sz+j)++(a.eval x).cells.toList++cur.toList.drop (i*sz+j+(a.eval x).cells.size)).toArray,hv0,hb0,?_,hnc,hcm,?_,?_⟩⟩
  ·rw [← hw2];exact setRow_heap w _ cur _ et _ hg
  ·simp only [List.size_toArray,List.length_append,List.length_take,List.length_drop,Array.length_toList,hvl,hcs]
   omega
  ·have hcl:cur.toList.length=cap*sz:=by rw [Array.length_toList,hcs]
   have hcx:cur.toList=xs++cur.toList.drop (es.length*sz):=by rw [← htk,List.take_append_drop]
   have akY:xs.length=es.length*sz:=how.1
   have q1:cur.toList.take (i*sz+j)=xs.take (i*sz+j):=by rw [← htk,List.take_take,Nat.min_eq_left (by omega)]
   have q2:cur.toList.drop (i*sz+j+(a.eval x).cells.size)=xs.drop (i*sz+j+ds.length)++cur.toList.drop (es.length*sz):=by
    rw [hvl]
    conv=>lhs;rw [hcx]
    rw [List.drop_append_of_le_length (by omega)]
   rw [List.toList_toArray,q1,q2,← List.append_assoc]
   rw [List.take_append_of_le_length (by rw [hxl];exact Nat.le_refl _)]
   rw [List.take_of_length_le (by rw [hxl];exact Nat.le_refl _)]
 have kZ:aS g1.aM w2 v (.row (some et) sz es') (v.ownBlock.toList++(A1++T++B2)):=by
  refine aS.own adh hnew (fun u hu=>?_) hown'
  simp only [List.mem_append] at hu
  rcases hu with (h | h) | h
  ·exact h1 u (List.mem_of_mem_take h)
  ·exact hone u h
  ·exact h1 u (List.mem_of_mem_drop h)
 have QZ:∀ b∈T,b∉TT:=fun b hb hb'=>by
  obtain ⟨q,hq,ho'⟩:=dB b hb
  rw [Dm b hb'] at ho'
  exact (hsrc q hq).2 (Option.some.inj ho')
 have hAn:=List.nodup_append.1 (gD ▸ hn1.2.1:(A1++(M++B2)).Nodup)
 have hMn:=List.nodup_append.1 hAn.2.1
 have Fa:∀ b,b∈A→b∈TT:=fun b hb=>by rw [hT];simp [hb]
 have p1:(v.ownBlock.toList++(A1++T++B2)).Nodup:=by
  refine List.nodup_append.2 ⟨hn1.1,List.nodup_append.2 ⟨List.nodup_append.2 ⟨hAn.1,gF,fun b hb c hcc e=>?_⟩,hMn.2.1,fun b hb c hcc e=>?_⟩,fun b hb c hcc e=>?_⟩
  ·subst e;exact QZ b hcc (Fa b (by rw [gD];simp [hb]))
  ·subst e
   rcases List.mem_append.1 hb with h | h
   ·exact hAn.2.2 b h b (by simp [hcc]) rfl
   ·exact QZ b h (Fa b (by rw [gD];simp [hcc]))
  ·subst e
   have af7:b∈TT:=by rw [hT];simp only [List.mem_append];exact .inl hb
   simp only [List.mem_append] at hcc
   rcases hcc with (h | h) | h
   ·exact hn1.2.2 b hb b (by rw [gD];simp [h]) rfl
   ·exact QZ b h af7
   ·exact hn1.2.2 b hb b (by rw [gD];simp [h]) rfl
 have p2:∀ b∈v.ownBlock.toList++(A1++T++B2),b∈TT∨∃ q,src=some q∧g1.own b=some (.inl q):=by
  intro b hb
  simp only [List.mem_append] at hb
  rcases hb with h | (h | h) | h
  ·exact .inl (by rw [hT];simp only [List.mem_append];exact .inl h)
  ·exact .inl (Fa b (by rw [gD];simp [h]))
  ·exact .inr (dB b h)
  ·exact .inl (Fa b (by rw [gD];simp [h]))
 have p3:∀ q,src=some q→q < C.N∧r.holder≠.inl q:=fun q hq=>by
  obtain ⟨⟨y,hy⟩,h⟩:=hsrc q hq
  exact ⟨(S1.env q y hy).1,h⟩
 obtain ⟨g',Vx,hfree,S'⟩:=lens w2 (.row (some et) sz es') _ src hgr.os hgr.tape hgr.output hgr.size (fun b hb hb'=>hgr.block b hb (fun e=>by cases e;exact hb' jO)) kZ p1 p2 p3 (fun b hb _=>by simp [hb])
 exact hn g' _ _ S' (fun h=>by rw [ho] at h;cases h)
def GR (P:Program) (o:Oper) (t:TypeId) (s:Nat) (x:Operand) (e:E):Option E :=
 match o.dst with
 | some _=>none
 | none=>match hint e with
  | some (el,e)=>match hint e with
   | some (el',e)=>match hint e with
    | some (.row (some _) _ es',e)=>match x,(match x with | .tmp q=>look e.st.env q | _=>none) with
     | .tmp q,some (.d (.v (.row (some eq) sq qs)))=>match look e.st.env s with
      | some (.pa r sz i j)=>match iT e.st r with
       | some (.row (some et) je es)=>match Nat.beq sz je && qm P t 1 && tX el j [.row (some eq) sq qs] && not (holdB r (.t q)) with
        | true=>some { need (es.set i el'=es') (need (Fit (dX el j [.row (some eq) sq qs]) el') (need (es[i]? = some el) e)) with st:=e.st.reset r (.row (some et) sz es') (some q) }
        | false=>none
       | _=>none
      | _=>none
     | _,_=>match val x e with
      | some (u,e)=>match look e.st.env s with
       | some (.pa r sz i j)=>match iT e.st r with
        | some (.row (some et) je es)=>match Nat.beq sz je && u.qj && qm P t u.cells.length && tX el j u.cells with
         | true=>some { need (es.set i el'=es') (need (Fit (dX el j u.cells) el') (need (es[i]? = some el) e)) with st:=e.st.reset r (.row (some et) sz es') none }
         | false=>none
        | _=>none
       | _=>none
      | none=>none
    | _=>none
   | none=>none
  | none=>none
theorem ZE {o:Oper} {t:TypeId} {s:Nat} {x:Operand} {e e':E} (ho:o.op=.store t (.tmp s) x) (h:GR P o t s x e=some e'):bD P C o e e':=by
 unfold GR at h
 split at h
 ·cases h
 rename_i hd
 split at h
 rotate_left
 ·cases h
 rename_i el e1 uH
 split at h
 rotate_left
 ·cases h
 rename_i el' e2 AR
 split at h
 rotate_left
 ·cases h
 rename_i eh sh es' e3 hh3
 obtain ⟨a1,a2⟩:=ik uH
 obtain ⟨b1,b2⟩:=ik AR
 obtain ⟨c1,c2⟩:=ik hh3
 have bT:e3.ob=e.ob:=by rw [c1,b1,a1]
 have hst:e3.st=e.st:=by rw [c2,b2,a2]
 split at h
 ·rename_i q eq sq qs hq
  split at h
  ·rename_i r sz i j hl
   split at h
   ·rename_i et je es hu
    split at h
    ·rename_i hc
     cases h
     simp only [Bool.and_eq_true] at hc
     obtain ⟨⟨⟨k1,k2⟩,k3⟩,k4⟩:=hc
     have k1:=Nat.eq_of_beq_eq_true k1
     subst k1
     have k2:=sV k2
     have k4:holdB r (.t q)=false:=by simpa using k4
     have hq:look e3.st.env q=some (.d (.v (.row (some eq) sq qs))):=hq
     refine bD.Vd (e1:=need (es.set i el'=es') (need (Fit (dX el j [.row (some eq) sq qs]) el') (need (es[i]? = some el) e3))) (src:=some q) (ds:=[.row (some eq) sq qs]) (el:=el) (el':=el') ho hd hl hu k2 k3 (fun hA=>?_) (fun q' e'=>?_) (fun hA=>?_) (fun hA=>?_) (fun hA=>?_)
     ·obtain ⟨hA,_⟩:=All.snoc hA
      obtain ⟨hA,_⟩:=All.snoc hA
      obtain ⟨hA,_⟩:=All.snoc hA
      refine ⟨bT ▸ hA,fun g a w S=>?_⟩
      have S:aI C g e3.st a w:=hst ▸ S
      obtain ⟨_,h2,h3⟩:=S.env q _ hq
      have h2:aV g w (a.eval (.tmp q)) (.v (.row (some eq) sq qs)) (g.TE q):=h2
      have hone:=h2.inv.one rfl
      refine ⟨g,g.TE q,S,?_,?_,S.nU q,fun b hb'=>⟨q,rfl,h3 b hb'⟩⟩
      ·rw [cells_one hone]
       have:=aN.cons h2.inv (aN.nil (p:=g.aM) (w:=w))
       simpa using this
      ·rw [cells_one hone];simpa using hone
     ·cases e'
      exact ⟨⟨_,hq⟩,GN k4⟩
     ·exact (All.snoc (All.snoc (All.snoc hA).1).1).2
     ·exact (All.snoc (All.snoc hA).1).2
     ·exact (All.snoc hA).2
    ·cases h
   ·cases h
  ·cases h
 ·split at h
  ·rename_i u e4 hv
   split at h
   ·rename_i r sz i j hl
    split at h
    ·rename_i et je es hu
     split at h
     ·rename_i hc
      cases h
      simp only [Bool.and_eq_true] at hc
      obtain ⟨⟨⟨k1,k2⟩,k3⟩,k4⟩:=hc
      have k1:=Nat.eq_of_beq_eq_true k1
      subst k1
      have k3:=sV k3
      refine bD.Vd (e1:=need (es.set i el'=es') (need (Fit (dX el j u.cells) el') (need (es[i]? = some el) e4))) (src:=none) (el:=el) (el':=el') ho hd hl hu k3 k4 (fun hA=>?_) (fun q' e'=>by cases e') (fun hA=>?_) (fun hA=>?_) (fun hA=>?_)
      ·obtain ⟨hA,_⟩:=All.snoc hA
       obtain ⟨hA,_⟩:=All.snoc hA
       obtain ⟨hA,_⟩:=All.snoc hA
       obtain ⟨h0,k⟩:=val_ok (C:=C) hv hA
       refine ⟨bT ▸ h0,fun g a w S=>?_⟩
       obtain ⟨g1,k1,S1,r1⟩:=k g a w (hst ▸ S)
       obtain ⟨r3,r4⟩:=r1.flat k2
       exact ⟨g1,[],S1,r3,r3.one r4,List.nodup_nil,fun b hb'=>by cases hb'⟩
      ·exact (All.snoc (All.snoc (All.snoc hA).1).1).2
      ·exact (All.snoc (All.snoc hA).1).2
      ·exact (All.snoc hA).2
     ·cases h
    ·cases h
   ·cases h
  ·cases h
end
end Go.Rf
end
section
namespace Go.Rf
open Go.RowKit
set_option linter.unusedVariables false
set_option linter.unusedSimpArgs false
variable [cO]
theorem aN.setAt {p:bB} {w:World}:∀ {vs:List Value} {ds:List V} {T:List Nat} {c:Nat} {d:V},aN p w vs ds T→ds[c]? = some d →
 ∃ v T1 Tc T2,vs[c]? = some v∧T=T1++(Tc++T2)∧aS p w v d Tc∧aN p w vs (ds.set c .any) (T1++T2)
 | _,_,_,_,_,.nil,h=>by simp at h
 | _,_,_,0,d,.cons (v:=v) (A:=A) (B:=B) h1 h2,h=>by
  simp only [List.getElem?_cons_zero,Option.some.injEq] at h
  subst h
  exact ⟨v,[],A,B,rfl,rfl,h1,(aN.cons (A:=[]) (.any v) h2)⟩
 | _,_,_,c+1,d,.cons (A:=A) (B:=B) h1 h2,h=>by
  simp only [List.getElem?_cons_succ] at h
  obtain ⟨v,T1,Tc,T2,e1,e2,e3,e4⟩:=h2.setAt h
  subst e2
  refine ⟨v,A++T1,Tc,T2,by simpa using e1,by simp,e3,?_⟩
  have:=aN.cons h1 e4
  simpa using this
theorem ab9 {cs:List V} {c:Nat} {u:V} (h:cs[c]? = some u):cs.set c .any=cs.take c++[.any]++cs.drop (c+1):=by
 have hc:=(List.getElem?_eq_some_iff.1 h).1
 rw [List.set_eq_take_append_cons_drop,if_pos hc]
 simp
section
variable {P:Program} {C:Ctx} {g:G} {st:St} {a:Act} {w w':World}
theorem aI.ad8 (S:aI C g st a w) {r:Root} {et sz i j:Nat} {es:List V} {el u:V} (hu:iT st r=some (.row (some et) sz es)) (hel:es[i]? = some el) (hok:tX el j [.any]=true) (hc:el.cells[j]? = some u) :
 ∃ v Tc g',pv g a w (.jf r sz i j)=some v∧g'.aM=g.aM∧aS g'.aM w v u Tc∧Tc.Nodup∧(∀ b∈Tc,g'.own b=none∧¬ g'.aM b∧(C.W.heap.size≤b∨C.Fz b)∧b < w.heap.size) ∧
  aI C g' (st.reset r (.row (some et) sz (es.set i (dX el j [.any]))) none) a w:=by
 obtain ⟨v,T,hpv,hR,gF,dB,lens⟩:=S.lens hu
 obtain ⟨xs,A,hT,hcs,hl,h1,how⟩:=nN hR
 obtain ⟨hcells,hj⟩:=Sm hok
 simp only [List.length_cons,List.length_nil,Nat.zero_add] at hcells hj
 have hi:i < es.length:=(List.getElem?_eq_some_iff.1 hel).1
 have hels:el.cells.length=sz:=hcs el (List.mem_of_getElem? hel)
 have hfl:=GQ (sz:=sz) (ds:=[.any]) (by simpa using hcells) (by simpa using hj) hcs hel
 simp only [List.length_cons,List.length_nil,Nat.zero_add] at hfl
 have hget:(es.flatMap V.cells)[i*sz+j]? = some u:=by
  obtain ⟨T1,A1,T2,_,_⟩:=aN.elem hcs hl hel
  have key:∀ (es:List V) (i:Nat),(∀ e∈es,e.cells.length=sz)→es[i]? = some el→(es.flatMap V.cells)[i*sz+j]? = some u:=by
   intro es
   induction es with
   | nil=>intro i _ h;simp at h
   | cons e es ih =>
    intro i hs h
    cases i with
    | zero =>
     simp only [List.getElem?_cons_zero,Option.some.injEq] at h
     subst h
     rw [List.flatMap_cons,Nat.zero_mul,Nat.zero_add,List.getElem?_append_left (by omega)]
     exact hc
    | succ i =>
     simp only [List.getElem?_cons_succ] at h
     have he:=hs e (by simp)
     rw [List.flatMap_cons,List.getElem?_append_right (by rw [he,Nat.add_mul];omega),he,show (i+1)*sz+j - sz=i*sz+j by rw [Nat.add_mul];omega]
     exact ih i (fun e he=>hs e (by simp [he])) h
  exact key es i hcs hel
 obtain ⟨x,T1,Tc,T2,f1,f2,f3,f4⟩:=hl.setAt hget
 rw [ab9 hget] at f4
 rw [← hfl] at f4
 have hn1:=List.nodup_append.1 (hT ▸ gF)
 have hA:=List.nodup_append.1 (f2 ▸ hn1.2.1:(T1++(Tc++T2)).Nodup)
 have hA2:=List.nodup_append.1 hA.2.1
 have inT:∀ b,b∈T1∨b∈Tc∨b∈T2→b∈T:=fun b hb=>by
  rw [hT,f2]
  rcases hb with h | h | h<;>simp [h]
 have hlen:(es.set i (dX el j [.any])).length=es.length:=by simp
 have kZ:aS g.aM w v (.row (some et) sz (es.set i (dX el j [.any]))) (v.ownBlock.toList++(T1++T2)):=by
  refine aS.own (fun e he=>?_) f4 h1 (by rw [hlen];exact how)
  rcases List.mem_or_eq_of_mem_set he with h | h
  ·exact hcs e h
  ·rw [h,hcells]
   simp only [List.length_append,List.length_take,List.length_drop,List.length_cons,List.length_nil]
   omega
 have vW:∀ b∈Tc,b∉v.ownBlock.toList++(T1++T2):=by
  intro b hb hb'
  simp only [List.mem_append] at hb'
  rcases hb' with h | h | h
  ·exact hn1.2.2 b h b (by rw [f2];simp [hb]) rfl
  ·exact hA.2.2 b h b (by simp [hb]) rfl
  ·exact hA2.2.2 b hb b h rfl
 have p1:(v.ownBlock.toList++(T1++T2)).Nodup:=by
  refine List.nodup_append.2 ⟨hn1.1,List.nodup_append.2 ⟨hA.1,hA2.2.1,fun b hb c hc e=>hA.2.2 b hb c (by simp [hc]) e⟩,fun b hb c hc e=>hn1.2.2 b hb c ?_ e⟩
  rw [f2]
  rcases List.mem_append.1 hc with h | h<;>simp [h]
 obtain ⟨g',hp,hf,S'⟩:=lens w (.row (some et) sz (es.set i (dX el j [.any]))) _ none rfl rfl rfl (Nat.le_refl _) (fun _ _ _=>rfl) kZ p1 (fun b hb=>.inl (by
  simp only [List.mem_append] at hb
  rcases hb with h | h | h
  ·rw [hT];simp only [List.mem_append];exact .inl h
  ·exact inT b (.inl h)
  ·exact inT b (.inr (.inr h)))) (by simp) (fun b hb _=>by simp [hb])
 refine ⟨x,Tc,g',?_,hp,hp ▸ f3,hA2.1,fun b hb=>?_,S'⟩
 ·simp only [pv,hpv,Option.bind_some]
  rcases how.2 with ⟨hv0,hn0⟩ | ⟨b',cap,cur,hv0,_,hg,_⟩
  ·omega
  ·rw [hv0]
   simp only [Value.ownBlock]
   rw [if_pos (dB b' (by rw [hT,hv0];simp [Value.ownBlock]))]
   have hw:=how
   rw [hv0] at hw
   have hlt:i*sz+j < es.length*sz:=by
    have:(i+1)*sz≤es.length*sz:=Nat.mul_le_mul_right _ hi
    rw [Nat.add_mul,Nat.one_mul] at this
    omega
   rw [hw.cellAt _ hlt,f1]
 ·have hb':=dB b (inT b (.inr (.inl hb)))
  have:=S.own b _ hb'
  exact ⟨hf b (inT b (.inr (.inl hb))) (vW b hb),hp ▸ this.2.2,this.1,this.2.1⟩
theorem ZF (S:aI C g st a w) {ts:Array TypeId} {ty t tx el:Nat} {i:TypeInfo} {z:Value} {v x:Value} {es es2 es':List V} {news:List Value} {T:List Nat} {d:Nat} (hts:ts = #[t,tx]) (hu:P.underlying t=some (.slice el)) (hi:P.info? el=some i) (hz:i.zero=some z)
 (k1:z.cells.size=i.size) (k3:140737488355328 / i.bytes≤maxLen) (hsz:es.length+es2.length≤140737488355328 / i.bytes) (hfit:dH (es++es2) es') (hd:d < C.N)
 (hR:aS g.aM w v (.row (some el) i.size es) T) (gF:T.Nodup) (hfree:∀ b∈T,g.own b=none∧¬ g.aM b∧(C.W.heap.size≤b∨C.Fz b)∧b < w.heap.size)
 (hnew:g.own w.heap.size=none) (hsrc:Src P tx i.size es2.length news x w) (hnews:aN g.aM w news (es2.flatMap V.cells) []) (ql:∀ e∈es2,e.cells.length=i.size) :
 ∃ v' w' T',(Builtin.append_ ts ty #[v,x]).run P w=.ok v' w'∧aI C (g.put d T' fun _=>False) (st.put d (.d (.v (.row (some el) i.size es')))) (a.put (some d) v') w':=by
 subst hts
 have hb:(es.length+es2.length)*i.bytes≤140737488355328:=Nat.le_trans (Nat.mul_le_mul_right _ hsz) (Nat.div_mul_le_self _ _)
 have hm:es.length+es2.length≤maxLen:=Nat.le_trans hsz k3
 obtain ⟨xs,A,hT,h1,h2,h3,zl⟩:=nN hR
 obtain ⟨v',w',hr,how,hgr,hblk⟩:=xx (P:=P) w t tx ty el i z i.size i.bytes hu hi hz rfl rfl k1 v es.length xs zl x es2.length news hsrc hm hb
 refine ⟨v',w',v'.ownBlock.toList++(A++[]),hr,?_⟩
 have rA:∀ b,g.aM b→w'.heap[b]? = w.heap[b]?:=fun b hb'=>hgr.block b (S.dJ b hb') (fun e=>by
  have jO:b∈T:=by rw [hT,← e];simp
  exact (hfree b jO).2.1 hb')
 have AO:∀ b∈A,w'.heap[b]? = w.heap[b]?:=fun b hb'=>by
  have jO:b∈T:=by rw [hT];simp [hb']
  refine hgr.block b (hfree b jO).2.2.2 (fun e=>?_)
  rw [hT] at gF
  exact (List.nodup_append.1 gF).2.2 b (by rw [← e];simp) b hb' rfl
 have hfl:(es++es2).flatMap V.cells=es.flatMap V.cells++es2.flatMap V.cells:=by simp
 have hall:aN g.aM w' (xs++news) (es'.flatMap V.cells) (A++[]):=by
  refine aN.fit (ds:=(es++es2).flatMap V.cells) ?_ hfit.flat
  rw [hfl]
  exact (h2.keep ⟨fun _ h=>h,rA⟩ AO).app (hnews.keep ⟨fun _ h=>h,rA⟩ (fun _ h=>by cases h))
 have kZ:aS g.aM w' v' (.row (some el) i.size es') (v'.ownBlock.toList++(A++[])):=by
  refine aS.own (hfit.sizes (fun e he=>?_)) hall (fun u hu'=>?_) ?_
  ·rcases List.mem_append.1 he with he | he
   ·exact h1 e he
   ·exact ql e he
  ·rcases List.mem_append.1 hu' with hu' | hu'
   ·exact h3 u hu'
   ·exact hsrc.one u hu'
  ·rw [← hfit.length,List.length_append];exact how
 refine S.rQ (row:=v.ownBlock) hgr (fun b hb'=>?_) hd ?_ ?_ kZ
 ·have:=hfree b (by rw [hT,hb'];simp)
  exact ⟨this.1,this.2.1,this.2.2.1⟩
 ·rw [List.append_nil,List.nodup_append]
  rw [hT] at gF
  refine ⟨by cases v'.ownBlock<;>simp,(List.nodup_append.1 gF).2.1,fun b hb1 c hc1 e=>?_⟩
  subst e
  simp only [Option.mem_toList] at hb1
  rcases (hblk b hb1).1 with h5 | h5
  ·exact (List.nodup_append.1 gF).2.2 b (by rw [h5];simp) b hc1 rfl
  ·have:=(hfree b (by rw [hT];simp [hc1])).2.2.2;omega
 ·intro b hb'
  simp only [List.append_nil,List.mem_append,Option.mem_toList] at hb'
  rcases hb' with hb' | hb'
  ·obtain ⟨h5,h6⟩:=hblk b hb'
   rcases h5 with h5 | h5
   ·have:=hfree b (by rw [hT,h5];simp)
    exact ⟨this.1,this.2.1,this.2.2.1,h6⟩
   ·subst h5
    exact ⟨hnew,fun hp'=>by have:=S.dJ _ hp';omega,.inl S.size,h6⟩
  ·have:=hfree b (by rw [hT];simp [hb'])
   exact ⟨this.1,this.2.1,this.2.2.1,Nat.lt_of_lt_of_le this.2.2.2 hgr.size⟩
def Ga (P:Program) (N:Nat) (o:Oper) (ts:Array TypeId) (s x:Operand) (e:E):Option E :=
 match dN N o with
 | none=>none
 | some d=>match ts.toList with
  | [t,tx]=>match P.underlying t with
   | some (.slice el)=>match P.info? el with
    | some i=>match i.zero with
     | some z=>match Nat.beq z.cells.size i.size && Nat.ble (140737488355328 / i.bytes) maxLen with
      | true=>match Dk P tx i.size x e with
       | some (es2,e)=>match s with
        | .tmp q=>match look e.st.env q with
         | some (.al (.jf r sz j c))=>match iT e.st r with
          | some (.row (some et) je os)=>match hint e with
           | some (oe,e)=>match oe.cells[c]? with
            | some (.row (some e1) s1 es)=>match hint e with
             | some (.row (some _) _ es',e)=>match Nat.beq sz je && Nat.beq e1 el && Nat.beq s1 i.size && tX oe c [.any] with
              | true=>some { (need (es.length+es2.length≤140737488355328 / i.bytes) (need (dH (es++es2) es') (need (os[j]? = some oe) e))) with st:=(e.st.reset r (.row (some et) sz (os.set j (dX oe c [.any]))) none).put d (.d (.v (.row (some el) i.size es'))) }
              | false=>none
             | _=>none
            | _=>none
           | none=>none
          | _=>none
         | _=>none
        | _=>none
       | none=>none
      | false=>none
     | none=>none
    | none=>none
   | _=>none
  | _=>none
theorem aI.aca (S:aI C g st a w):g.own w.heap.size=none:=by
 cases ho:g.own w.heap.size with
 | none=>rfl
 | some h'=>have:=(S.own _ _ ho).2.1;omega
theorem Zj {o:Oper} {c:Call} {s x:Operand} {e e':E} (ho:o.op=.call c) (hc:c.callee=.builtin .append) (ha:c.args = #[s,x]) (h:Ga P C.N o c.argTypes s x e=some e'):bD P C o e e':=by
 unfold Ga at h
 split at h
 ·cases h
 rename_i d hd
 obtain ⟨hdd,hdN⟩:=fK hd
 split at h
 rotate_left
 ·cases h
 rename_i t tx hts
 have hts:c.argTypes = #[t,tx]:=by
  rw [← Array.toArray_toList (xs:=c.argTypes),hts]
 split at h
 rotate_left
 ·cases h
 rename_i el hu
 split at h
 rotate_left
 ·cases h
 rename_i i hi
 split at h
 rotate_left
 ·cases h
 rename_i z hz
 split at h
 rotate_left
 ·cases h
 rename_i hck
 simp only [Bool.and_eq_true] at hck
 have k1:=Nat.eq_of_beq_eq_true hck.1
 have k3:=Nat.le_of_ble_eq_true hck.2
 split at h
 rotate_left
 ·cases h
 rename_i es2 e1 hx
 split at h
 rotate_left
 ·cases h
 rename_i q
 split at h
 rotate_left
 ·cases h
 rename_i r sz j cc hl
 split at h
 rotate_left
 ·cases h
 rename_i et je os AJ
 split at h
 rotate_left
 ·cases h
 rename_i oe e2 hh
 split at h
 rotate_left
 ·cases h
 rename_i Yx s1 es hcell
 split at h
 rotate_left
 ·cases h
 rename_i e3' s3' es' e3 AR
 split at h
 rotate_left
 ·cases h
 rename_i pR
 simp only [Bool.and_eq_true] at pR
 obtain ⟨⟨⟨m1,m2⟩,m3⟩,m4⟩:=pR
 have m1:=Nat.eq_of_beq_eq_true m1
 have m2:=Nat.eq_of_beq_eq_true m2
 have m3:=Nat.eq_of_beq_eq_true m3
 subst m1
 subst m2
 subst m3
 cases h
 obtain ⟨q1,q2⟩:=ik hh
 obtain ⟨p1,p2⟩:=ik AR
 have bT:e3.ob=e1.ob:=by rw [p1,q1]
 have hst:e3.st=e1.st:=by rw [p2,q2]
 intro hA
 obtain ⟨hA,hsz⟩:=All.snoc (l:=e3.ob++_++_) hA
 obtain ⟨hA,hfit⟩:=All.snoc (l:=e3.ob++_) hA
 obtain ⟨hA,hel⟩:=All.snoc (l:=e3.ob) hA
 obtain ⟨h0,kx⟩:=UC (C:=C) hx (bT ▸ hA)
 refine ⟨h0,fun g a w S next Q hn=>?_⟩
 obtain ⟨g1,news,kk,S1,hsrc,hnews,ql⟩:=kx g a w S
 obtain ⟨v,Tc,g2,hpv,hp,hR,gF,hfree,S2⟩:=S1.ad8 AJ hel m4 hcell
 obtain ⟨_,hal,_⟩:=S1.env q _ hl
 have hv:a.eval (.tmp q)=v:=by
  have:=hal.2
  rw [hpv] at this
  exact (Option.some.inj this).symm
 obtain ⟨v',w',T',hr,S3⟩:=ZF (P:=P) (ts:=c.argTypes) (ty:=o.type) (x:=a.eval x) S2 hts hu hi hz k1 k3 hsz hfit hdN hR gF hfree S2.aca hsrc (by rw [hp];exact hnews) ql
 refine fC (v:=v') (w':=w') ?_ ?_
 ·unfold execOp
  simp only [ho,resolve,hc,ha,Sem.run_bind,Sem.run_pure,Result.andThen_ok,invoke,builtin,List.map_toArray,List.map_cons,List.map_nil,hv,hr]
 ·rw [hdd]
  refine hn (g2.put d T' fun _=>False) _ _ ?_ (fun h=>by rw [ho] at h;simp [kg,hc] at h)
  show aI C _ ((e3.st.reset r _ none).put d _) _ _
  rw [hst]
  exact S3
end
end Go.Rf
end
section
namespace Go.Rf
open Go.RowKit
set_option linter.unusedVariables false
set_option linter.unusedSimpArgs false
variable [cO]
inductive Dn:D→D→Prop
 | refl (d:D):Dn d d
 | v {x y:V}:Fit x y→Dn (.v x) (.v y)
inductive mJ:List D→List D→Prop
 | nil:mJ [] []
 | cons {c d:D} {cs ds:List D}:Dn c d→mJ cs ds→mJ (c :: cs) (d :: ds)
theorem mJ.refl:∀ l:List D,mJ l l
 | []=>.nil
 | c :: cs=>.cons (.refl c) (mJ.refl cs)
theorem aV.fit {g:G} {w:World} {v:Value} {c d:D} {T:List Nat} (h:aV g w v c T) (f:Dn c d):aV g w v d T:=by
 cases f with
 | refl=>exact h
 | v f=>exact .v (h.inv.fit f)
theorem cK.fit {g:G} {w:World}:∀ {vs:List Value} {cs ds:List D} {T:List Nat},cK g w vs cs T→mJ cs ds→cK g w vs ds T
 | _,_,_,_,.nil,.nil=>.nil
 | _,_,_,_,.cons h1 h2,.cons f1 f2=>.cons (h1.fit f1) (h2.fit f2)
theorem mJ.of:∀ {a b:List V},dH a b→mJ (dv a) (dv b)
 | _,_,.nil=>.nil
 | _,_,.cons f g=>.cons (.v f) (mJ.of g)
inductive dF:List (List V)→List (List V)→Prop
 | nil:dF [] []
 | cons {c d:List V} {cs ds:List (List V)}:dH c d→dF cs ds→dF (c :: cs) (d :: ds)
theorem dF.refl:∀ l:List (List V),dF l l
 | []=>.nil
 | c :: cs=>.cons (dH.refl c) (dF.refl cs)
theorem dF.length:∀ {a b:List (List V)},dF a b→a.length=b.length
 | _,_,.nil=>rfl
 | _,_,.cons _ g=>by simp [g.length]
theorem dF.get:∀ {a b:List (List V)} {i:Nat} {d:List V},dF a b→b[i]? = some d→∃ c,a[i]? = some c∧dH c d
 | _,_,_,_,.nil,h=>by simp at h
 | _,_,0,_,.cons f _,h=>by
  simp only [List.getElem?_cons_zero,Option.some.injEq] at h
  exact ⟨_,rfl,h ▸ f⟩
 | _,_,i+1,_,.cons _ g,h=>by
  simp only [List.getElem?_cons_succ] at h ⊢
  exact g.get h
structure zo (g g':G) (w w':World):Prop where
 os:w'.os=w.os
 tape:w'.tape=w.tape
 output:w'.output=w.output
 size:w.heap.size≤w'.heap.size
 same:∀ b,b < w.heap.size→g.own b=none→w'.heap[b]? = w.heap[b]?
 n:g'.n=g.n
 loc:∀ i,i < g.n→g'.loc i=g.loc i
 aM:∀ b,g.aM b→g'.aM b
 WL:∀ b,g'.aM b→g.aM b∨w.heap.size≤b∨∃ h,g.own b=some h
 dJ:∀ b,g'.aM b→b < w'.heap.size
 own:∀ b h,g'.own b=some h→(w.heap.size≤b∨∃ h',g.own b=some h')∧b < w'.heap.size∧¬ g'.aM b
def pM (g:G) (w:World) (bs:List (List V)):Prop:=∀ i c,bs[i]? = some c→lL g w (g.loc i) (.cells (dv c)) (g.TB i)∧(g.TB i).Nodup∧∀ b∈g.TB i,g.own b=some (.inr i)
def kI (P:Program) (f:FuncId) (us:List D) (bs:List (List V)) (r:D) (bs':List (List V)):Prop :=
 (∀ vs w,(callFunc f vs).run P w=.ok (.enter f vs) w) ∧
 ∀ (g:G) (w:World) (vs:List Value),g.n=bs.length→(∀ b,g.aM b→b < w.heap.size)→cO.t g.aM w→cK g w vs us []→pM g w bs→(∀ b h,g.own b=some h→b < w.heap.size∧¬ g.aM b) →
  Calls P f vs.toArray w fun e w'=>∃ (v:Value) (T:List Nat) (g':G),e=.returned v∧zo g g' w w'∧aV g' w' v r T∧T.Nodup∧(∀ b∈T,g'.own b=some (.inl 0))∧pM g' w' bs'
def yl (P:Program) (f:FuncId) (us:List D) (bs:List (List V)) (r:D) (bs':List (List V)):Prop:=∃ us' mo,mJ us us'∧dF bs mo∧kI P f us' mo r bs'
theorem kI.c {P:Program} {f:FuncId} {us:List D} {bs bs':List (List V)} {r:D} (h:kI P f us bs r bs'):yl P f us bs r bs':=⟨us,bs,mJ.refl us,dF.refl bs,h⟩
theorem kI.n {P:Program} {f:FuncId} {us us':List D} {bs mo bs':List (List V)} {r:D} (h:kI P f us' mo r bs') (f1:mJ us us') (f2:dF bs mo):yl P f us bs r bs':=⟨us',mo,f1,f2,h⟩
theorem lL.KX {g:G} {w:World} {l:Nat} {c d:List V} {T:List Nat} (h:lL g w l (.cells (dv c)) T) (f:dH c d):lL g w l (.cells (dv d)) T:=by
 obtain ⟨cur,e,A,h1,h2,h3,h4⟩:=h
 exact ⟨cur,e,A,h1,h2,h3.fit (mJ.of f),h4⟩
theorem pM.fit {g:G} {w:World} {bs bs':List (List V)} (h:pM g w bs) (f:dF bs bs'):pM g w bs':=fun i d hd=>by
 obtain ⟨c,hc,fc⟩:=f.get hd
 obtain ⟨h1,h2,h3⟩:=h i c hc
 exact ⟨h1.KX fc,h2,h3⟩
theorem lL.gV {g g':G} {w:World} {l:Nat} {c:List V} {T:List Nat} (h:lL g w l (.cells (dv c)) T) (hp:g'.aM=g.aM):lL g' w l (.cells (dv c)) T:=by
 obtain ⟨cur,e,A,h1,h2,h3,h4⟩:=h
 refine ⟨cur,e,A,h1,h2,?_,h4⟩
 have:=h3.ku
 rw [← hp] at this
 exact this.dv
section
variable {P:Program} {C:Ctx} {g:G} {st:St} {a:Act} {w w':World}
def idxOf (id:Nat):List Nat→Option Nat
 | []=>none
 | x :: l=>match Nat.beq id x with
  | true=>some 0
  | false=>(idxOf id l).map (· + 1)
theorem u6:∀ {l:List Nat} {id j:Nat},idxOf id l=some j→l[j]? = some id
 | [],_,_,h=>by simp [idxOf] at h
 | x :: l,id,j,h=>by
  simp only [idxOf] at h
  cases hb:Nat.beq id x with
  | true =>
   rw [hb] at h
   simp only [Option.some.injEq] at h
   subst h
   simp [Nat.eq_of_beq_eq_true hb]
  | false =>
   rw [hb] at h
   simp only at h
   cases hi:idxOf id l with
   | none=>rw [hi] at h;cases h
   | some k =>
    rw [hi] at h
    simp only [Option.map_some,Option.some.injEq] at h
    subst h
    simpa using u6 hi
def ym:List Nat→Bool
 | []=>true
 | x :: l=>match (idxOf x l) with
  | none=>ym l
  | some _=>false
theorem FO:∀ {l:List Nat} {id:Nat},idxOf id l=none→id∉l
 | [],_,_=>by simp
 | x :: l,id,h=>by
  simp only [idxOf] at h
  cases hb:Nat.beq id x with
  | true=>rw [hb] at h;cases h
  | false =>
   rw [hb] at h
   simp only [Option.map_eq_none_iff] at h
   have:=FO h
   intro hm
   rcases List.mem_cons.1 hm with rfl | hm
   ·rw [Nat.beq_refl] at hb;cases hb
   ·exact this hm
theorem Bt:∀ {l:List Nat},ym l=true→l.Nodup
 | [],_=>List.nodup_nil
 | x :: l,h=>by
  simp only [ym] at h
  split at h
  ·rename_i hi
   exact List.nodup_cons.2 ⟨FO hi,Bt h⟩
  ·cases h
theorem Gc:∀ {l:List Nat},l.Nodup→∀ {i j x:Nat},l[i]? = some x→l[j]? = some x→i=j
 | [],_,i,_,_,hi,_=>by simp at hi
 | y :: l,hn,0,0,_,_,_=>rfl
 | y :: l,hn,0,j+1,x,hi,hj=>by
  simp only [List.getElem?_cons_zero,Option.some.injEq,List.getElem?_cons_succ] at hi hj
  subst hi
  exact ((List.nodup_cons.1 hn).1 (List.mem_of_getElem? hj)).elim
 | y :: l,hn,i+1,0,x,hi,hj=>by
  simp only [List.getElem?_cons_zero,Option.some.injEq,List.getElem?_cons_succ] at hi hj
  subst hj
  exact ((List.nodup_cons.1 hn).1 (List.mem_of_getElem? hi)).elim
 | y :: l,hn,i+1,j+1,x,hi,hj=>by
  simp only [List.getElem?_cons_succ] at hi hj
  rw [Gc (List.nodup_cons.1 hn).2 hi hj]
def G.iU (g:G) (ids:List Nat):G :=
 { aM:=g.aM,own:=fun b=>(ids.findIdx? fun id=>decide (b∈g.TB id)).map .inr,n:=ids.length,loc:=fun j=>g.loc (ids.getD j 0),TE:=fun _=>[],TB:=fun j=>if j < ids.length then g.TB (ids.getD j 0) else [] }
def yn (ids:List Nat) (l:List (Nat × X)):List (Nat × X):=match ids with
 | []=>l
 | id :: ids=>kill (jN id) (yn ids l)
def nC (bx:List gM):List Nat→List (List V)→List gM
 | id :: ids,c :: cs=>nC (bx.set id (.cells (dv c))) ids cs
 | _,_=>bx
def St.kY (st:St) (ids:List Nat) (bs':List (List V)):St:={ env:=yn ids st.env,box:=nC st.box ids bs' }
theorem Sn {t:Nat}:∀ {ids:List Nat} {l:List (Nat × X)} {y:X},look (yn ids l) t=some y→y=.dead∧(∃ z,look l t=some z)∨look l t=some y∧∀ h,y.gp=some h→∀ id∈ids,h≠.inr id
 | [],l,y,h=>.inr ⟨h,by simp⟩
 | id :: ids,l,y,h=>by
  simp only [yn,mX] at h
  cases hl:look (yn ids l) t with
  | none=>rw [hl] at h;cases h
  | some z =>
   rw [hl] at h
   simp only [Option.map_some,Option.some.injEq] at h
   rcases Sn hl with ⟨rfl,z',hz⟩ | ⟨hz,hr⟩
   ·exact .inl ⟨h ▸ rfl,z',hz⟩
   ·by_cases hd:y=.dead
    ·exact .inl ⟨hd,z,hz⟩
    ·rcases X.iQ (jN id) z with h1 | ⟨h1,_⟩
     ·exact (hd (by rw [← h,h1])).elim
     ·rw [h1] at h
      subst h
      refine .inr ⟨hz,fun h' hh i hi=>?_⟩
      rcases List.mem_cons.1 hi with rfl | hi
      ·exact X.uV (q:=.b i 0) h1 hd h' hh
      ·exact hr h' hh i hi
theorem R8:∀ {ids:List Nat} {cs:List (List V)} {bx:List gM},(nC bx ids cs).length=bx.length
 | [],_,_=>by simp [nC]
 | _ :: _,[],_=>by simp [nC]
 | id :: ids,c :: cs,bx=>by simp only [nC,R8,List.length_set]
theorem H5:∀ {ids:List Nat} {cs:List (List V)} {bx:List gM} {i:Nat},i∉ids→(nC bx ids cs)[i]? = bx[i]?
 | [],_,_,_,_=>by simp [nC]
 | _ :: _,[],_,_,_=>by simp [nC]
 | id :: ids,c :: cs,bx,i,h=>by
  simp only [List.mem_cons,not_or] at h
  simp only [nC]
  rw [H5 h.2,List.getElem?_set_ne (fun e=>h.1 e.symm)]
theorem H6:∀ {ids:List Nat} {cs:List (List V)} {bx:List gM} {j id:Nat},ids.Nodup→ids.length=cs.length→ids[j]? = some id→id < bx.length→∃ c,cs[j]? = some c∧(nC bx ids cs)[id]? = some (.cells (dv c))
 | [],_,_,_,_,_,_,h,_=>by simp at h
 | _ :: _,[],_,_,_,_,h,_,_=>by simp at h
 | x :: ids,c :: cs,bx,0,id,hn,hl,h,hb=>by
  simp only [List.getElem?_cons_zero,Option.some.injEq] at h
  subst h
  refine ⟨c,rfl,?_⟩
  simp only [nC]
  rw [H5 (List.nodup_cons.1 hn).1,List.getElem?_set_self hb]
 | x :: ids,c :: cs,bx,j+1,id,hn,hl,h,hb=>by
  simp only [List.getElem?_cons_succ] at h
  simp only [nC,List.getElem?_cons_succ]
  exact H6 (List.nodup_cons.1 hn).2 (by simpa using hl) h (by simpa using hb)
def G.back (g g':G) (ids:List Nat):G :=
 { aM:=g'.aM,own:=fun b=>match g'.own b with
     | some (.inr j)=>if j < ids.length then some (.inr (ids.getD j 0)) else none
     | some (.inl _)=>none
     | none=>if (ids.any fun id=>decide (b∈g.TB id))=true then none else g.own b,
   n:=g.n,loc:=g.loc,TE:=g.TE,TB:=fun i=>match idxOf i ids with
     | some j=>g'.TB j
     | none=>g.TB i }
theorem GU:∀ {l:List Nat} {j id:Nat},l.Nodup→l[j]? = some id→idxOf id l=some j
 | [],_,_,_,h=>by simp at h
 | x :: l,0,id,_,h=>by
  simp only [List.getElem?_cons_zero,Option.some.injEq] at h
  subst h
  simp [idxOf,Nat.beq_refl]
 | x :: l,j+1,id,hn,h=>by
  simp only [List.getElem?_cons_succ] at h
  have hne:Nat.beq id x=false:=by
   cases hb:Nat.beq id x with
   | true =>
    have:=Nat.eq_of_beq_eq_true hb
    subst this
    exact ((List.nodup_cons.1 hn).1 (List.mem_of_getElem? h)).elim
   | false=>rfl
  simp only [idxOf,hne,GU (List.nodup_cons.1 hn).2 h,Option.map_some]
theorem aI.Ve (S:aI C g st a w) {ids:List Nat} {bs:List (List V)} (hn:ids.Nodup) (hl:ids.length=bs.length) (hb:∀ (j id:Nat),ids[j]? = some id→∃ c,bs[j]? = some c∧st.box[id]? = some (gM.cells (dv c))) :
 pM (g.iU ids) w bs∧(∀ b h,(g.iU ids).own b=some h→∃ j id,h=.inr j∧ids[j]? = some id∧b∈g.TB id∧g.own b=some (.inr id))∧(∀ j id b,ids[j]? = some id→b∈g.TB id→(g.iU ids).own b=some (.inr j)):=by
 have hown:∀ j id b,ids[j]? = some id→b∈g.TB id→g.own b=some (.inr id):=fun j id b hj Q0=>by
  obtain ⟨c,_,hc⟩:=hb j id hj
  exact (S.box id _ hc).2 b Q0
 have h2:∀ b h,(g.iU ids).own b=some h→∃ j id,h=.inr j∧ids[j]? = some id∧b∈g.TB id∧g.own b=some (.inr id):=by
  intro b h ho
  simp only [G.iU] at ho
  cases hf:ids.findIdx? (fun id=>decide (b∈g.TB id)) with
  | none=>rw [hf] at ho;cases ho
  | some j =>
   rw [hf] at ho
   simp only [Option.map_some,Option.some.injEq] at ho
   obtain ⟨hj,hp,_⟩:=List.findIdx?_eq_some_iff_getElem.1 hf
   have hm:b∈g.TB ids[j]:=by simpa using hp
   exact ⟨j,ids[j],ho.symm,List.getElem?_eq_getElem hj,hm,hown j _ b (List.getElem?_eq_getElem hj) hm⟩
 have h3:∀ j id b,ids[j]? = some id→b∈g.TB id→(g.iU ids).own b=some (.inr j):=by
  intro j id b hj hm
  cases hf:ids.findIdx? (fun id=>decide (b∈g.TB id)) with
  | none =>
   have:=List.findIdx?_eq_none_iff.1 hf id (List.mem_of_getElem? hj)
   simp [hm] at this
  | some k =>
   have ho:(g.iU ids).own b=some (.inr k):=by simp only [G.iU,hf,Option.map_some]
   obtain ⟨j',id',e1,e2,e3,e4⟩:=h2 b _ ho
   cases e1
   rw [hown j id b hj hm] at e4
   cases e4
   rw [ho,Gc hn e2 hj]
 refine ⟨fun j c hc=>?_,h2,h3⟩
 have hj:j < ids.length:=by rw [hl];exact (List.getElem?_eq_some_iff.1 hc).1
 have hid:ids[j]? = some ids[j]:=List.getElem?_eq_getElem hj
 obtain ⟨c',hc',hbx⟩:=hb j _ hid
 rw [hc] at hc'
 cases hc'
 obtain ⟨h1,h4⟩:=S.box _ _ hbx
 have eT:(g.iU ids).TB j=g.TB ids[j]:=by simp only [G.iU];rw [if_pos hj,List.getD_eq_getElem?_getD,hid];rfl
 have eL:(g.iU ids).loc j=g.loc ids[j]:=by simp only [G.iU];rw [List.getD_eq_getElem?_getD,hid];rfl
 rw [eT,eL]
 exact ⟨h1.gV rfl,S.mK _,fun b Q0=>h3 j _ b hid Q0⟩
theorem aI.adi (S:aI C g st a w) {ids:List Nat} {bs bs':List (List V)} {g':G} (hn:ids.Nodup) (hl:ids.length=bs.length) (hl':ids.length=bs'.length) (hb:∀ (j id:Nat),ids[j]? = some id→∃ c,bs[j]? = some c∧st.box[id]? = some (gM.cells (dv c)))
 (hL:zo (g.iU ids) g' w w') (hB:pM g' w' bs'):dG g (g.back g' ids) w w'∧aI C (g.back g' ids) (st.kY ids bs') a w' ∧
  ∀ b,g'.own b=some (.inl 0)→(g.back g' ids).own b=none∧¬ (g.back g' ids).aM b∧(C.W.heap.size≤b∨C.Fz b)∧b < w'.heap.size:=by
 obtain ⟨hBx,hown1,hown2⟩:=S.Ve hn hl hb
 have hlt:∀ j id,ids[j]? = some id→id < st.box.length:=fun j id hj=>by
  obtain ⟨c,_,hc⟩:=hb j id hj
  exact (List.getElem?_eq_some_iff.1 hc).1
 have hgn:∀ j id,ids[j]? = some id→id < g.n:=fun j id hj=>by rw [S.n];exact hlt j id hj
 have hgd:∀ j id,ids[j]? = some id→ids.getD j 0=id:=fun j id hj=>by rw [List.getD_eq_getElem?_getD,hj];rfl
 have acb:∀ b,(∀ (j id:Nat),ids[j]? = some id→b∉g.TB id)→(g.iU ids).own b=none:=fun b h=>by
  cases ho:(g.iU ids).own b with
  | none=>rfl
  | some k=>obtain ⟨j,id,_,e2,e3,_⟩:=hown1 b k ho;exact (h j id e2 e3).elim
 have same:∀ b,b < w.heap.size→(∀ (j id:Nat),ids[j]? = some id→b∉g.TB id)→w'.heap[b]? = w.heap[b]?:=fun b hb1 h=>hL.same b hb1 (acb b h)
 have zq:∀ j id b,ids[j]? = some id→b∈g.TB id→g.own b=some (.inr id):=fun j id b hj hm=>by
  obtain ⟨c,_,hc⟩:=hb j id hj
  exact (S.box id _ hc).2 b hm
 have WM:∀ b,(ids.any fun id=>decide (b∈g.TB id))=true↔∃ (j id:Nat),ids[j]? = some id∧b∈g.TB id:=fun b=>by
  rw [List.any_eq_true]
  constructor
  ·rintro ⟨id,h1,h2⟩
   obtain ⟨j,hj⟩:=List.getElem?_of_mem h1
   exact ⟨j,id,hj,by simpa using h2⟩
  ·rintro ⟨j,id,h1,h2⟩
   exact ⟨id,List.mem_of_getElem? h1,by simpa using h2⟩
 have gU:∀ b h,g'.own b=some h→w.heap.size≤b∨∃ (j id:Nat),ids[j]? = some id∧b∈g.TB id:=fun b h ho=>by
  rcases (hL.own b h ho).1 with h1 | ⟨h',h1⟩
  ·exact .inl h1
  ·obtain ⟨j,id,_,e2,e3,_⟩:=hown1 b h' h1
   exact .inr ⟨j,id,e2,e3⟩
 have fz:∀ b h,g'.own b=some h→C.W.heap.size≤b∨C.Fz b:=fun b h ho=>by
  rcases gU b h ho with h1 | ⟨j,id,h1,h2⟩
  ·exact .inl (Nat.le_trans S.size h1)
  ·exact (S.own b _ (zq j id b h1 h2)).1
 let gY:Nat ⊕ Nat→Prop:=fun h=>∃ (j id:Nat),ids[j]? = some id∧h=.inr id
 have acd:∀ b h,g.own b=some h→¬ gY h→(g.back g' ids).own b=some h:=by
  intro b h ho hc
  have hnot:¬ ∃ (j id:Nat),ids[j]? = some id∧b∈g.TB id:=by
   rintro ⟨j,id,h1,h2⟩
   rw [zq j id b h1 h2] at ho
   cases ho
   exact hc ⟨j,id,h1,rfl⟩
  have h1:g'.own b=none:=by
   cases h2:g'.own b with
   | none=>rfl
   | some k =>
    rcases gU b k h2 with h3 | h3
    ·have:=(S.own b h ho).2.1;omega
    ·exact (hnot h3).elim
  simp only [G.back,h1]
  rw [if_neg (by rw [WM];exact hnot)]
  exact ho
 have k:dG g (g.back g' ids) w w':=⟨fun b hb1=>hL.aM b hb1,Nat.le_refl _,fun _ _=>rfl,fun b hb1=>same b (S.dJ b hb1) fun j id hj hm=>(S.own b _ (zq j id b hj hm)).2.2 hb1⟩
 refine ⟨k,?_,?_⟩
 ·refine S.change gY S.defers S.tmps hL.os hL.tape hL.output hL.size (fun b hb1=>hL.aM b hb1) ?_ hL.dJ ?_ (Nat.le_refl _) (fun _ _=>rfl) ?_ acd ?_ ?_ ?_ ?_ ?_ ?_ ?_
  ·intro b hb1
   rcases hL.WL b hb1 with h | h | ⟨h,h1⟩
   ·exact .inl h
   ·exact .inr (.inl h)
   ·obtain ⟨j,id,_,_,_,e4⟩:=hown1 b h h1
    exact .inr (.inr ⟨_,e4⟩)
  ·show g.n=_
   simp only [St.kY,R8]
   exact S.n
  ·intro b hb1 h
   refine same b hb1 fun j id hj hm=>?_
   have ho:=zq j id b hj hm
   rcases h with h | ⟨h,h1,h2⟩ | ⟨h1,h2⟩
   ·exact (S.own b _ ho).2.2 h
   ·rw [ho] at h1;cases h1;exact h2 ⟨j,id,hj,rfl⟩
   ·rcases (S.own b _ ho).1 with h3 | h3
    ·omega
    ·exact h2 h3
  ·intro t _;exact ⟨rfl,rfl⟩
  ·intro i hi
   have hni:i∉ids:=fun hm=>by
    obtain ⟨j,hj⟩:=List.getElem?_of_mem hm
    exact hi ⟨j,i,hj,rfl⟩
   refine ⟨?_,by simp only [St.kY];exact H5 hni⟩
   simp only [G.back]
   cases hx:idxOf i ids with
   | none=>rfl
   | some j=>exact (hni (List.mem_of_getElem? (u6 hx))).elim
  ·intro t y hy
   simp only [St.kY] at hy
   refine .inl ⟨?_,?_⟩
   ·rintro ⟨_,_,_,e⟩;cases e
   ·rcases Sn hy with ⟨h,z,hz⟩ | ⟨h,hr⟩
    ·exact .inr ⟨h,z,hz⟩
    ·refine .inl ⟨h,fun h' hh=>?_⟩
     rintro ⟨j,id,hj,e⟩
     exact hr h' hh id (List.mem_of_getElem? hj) e
  ·rintro i b hb1 ⟨j,id,hj,e⟩
   cases e
   obtain ⟨c,hc,hs⟩:=H6 (bx:=st.box) hn hl' hj (hlt j i hj)
   simp only [St.kY] at hb1
   rw [hs] at hb1
   cases hb1
   obtain ⟨h1,h2,h3⟩:=hB j c hc
   have eT:(g.back g' ids).TB i=g'.TB j:=by simp only [G.back,GU hn hj]
   have hjl:j < ids.length:=(List.getElem?_eq_some_iff.1 hj).1
   have eL:g'.loc j=(g.back g' ids).loc i:=by
    rw [hL.loc j (by simpa [G.iU] using hjl)]
    show g.loc (ids.getD j 0)=g.loc i
    rw [hgd j i hj]
   rw [eT,← eL]
   refine ⟨h1.gV rfl,fun b hm=>?_⟩
   simp only [G.back,h3 b hm]
   rw [if_pos hjl,hgd j i hj]
  ·rintro t ⟨_,_,_,e⟩;cases e
  ·rintro i ⟨j,id,hj,e⟩
   cases e
   have eT:(g.back g' ids).TB i=g'.TB j:=by simp only [G.back,GU hn hj]
   rw [eT]
   obtain ⟨c,hc,_⟩:=H6 (bx:=st.box) hn hl' hj (hlt j i hj)
   exact (hB j c hc).2.1
  ·intro b h ho
   simp only [G.back] at ho
   split at ho
   ·rename_i j hj
    split at ho
    ·cases ho
     have:=hL.own b _ hj
     refine .inr ⟨?_,this.2.1,this.2.2⟩
     rcases gU b _ hj with h1 | ⟨j',id,h1,h2⟩
     ·exact .inr (.inl h1)
     ·exact .inl ⟨_,zq j' id b h1 h2⟩
    ·cases ho
   ·cases ho
   ·split at ho
    ·cases ho
    ·rename_i hnone hany
     refine .inl ⟨ho,fun hp=>?_⟩
     rcases hL.WL b hp with h1 | h1 | ⟨h',h1⟩
     ·exact (S.own b h ho).2.2 h1
     ·have:=(S.own b h ho).2.1;omega
     ·obtain ⟨j,id,_,e2,e3,_⟩:=hown1 b h' h1
      exact hany ((WM b).2 ⟨j,id,e2,e3⟩)
 ·intro b hb1
  have:=hL.own b _ hb1
  refine ⟨by simp only [G.back,hb1],this.2.2,fz b _ hb1,this.2.1⟩
end
end Go.Rf
end
section
namespace Go.Rf
open Go.RowKit
set_option linter.unusedVariables false
set_option linter.unusedSimpArgs false
variable [cO]
def KY (ids:List Nat) (x:Operand) (e:E):Option (D × List Nat × E) :=
 match (match x with | .tmp t=>look e.st.env t | _=>none) with
 | some (.d (.ptr id off))=>match idxOf id ids with
  | some j=>some (.ptr j off,ids,e)
  | none=>some (.ptr ids.length off,ids++[id],e)
 | _=>match val x e with
  | some (u,e)=>some (.v u,ids,e)
  | none=>none
def Cq (ids:List Nat):List Operand→E→Option (List D × List Nat × E)
 | [],e=>some ([],ids,e)
 | x :: xs,e=>match KY ids x e with
  | some (u,ids,e)=>match Cq ids xs e with
   | some (us,ids,e)=>some (u :: us,ids,e)
   | none=>none
  | none=>none
def tN (st:St):List Nat→Option (List (List V))
 | []=>some []
 | id :: ids=>match st.box[id]? with
  | some (.cells cs)=>match ku cs,tN st ids with
   | some c,some l=>some (c :: l)
   | _,_=>none
  | _=>none
def Vf:List V→Option (List (List V))
 | []=>some []
 | .agg c :: l=>match Vf l with
  | some r=>some (c :: r)
  | none=>none
 | _=>none
theorem FP {st:St}:∀ {ids:List Nat} {bs:List (List V)},tN st ids=some bs→ids.length=bs.length∧∀ (j id:Nat),ids[j]? = some id→∃ c,bs[j]? = some c∧st.box[id]? = some (gM.cells (dv c))
 | [],bs,h=>by cases h;exact ⟨rfl,fun j id h=>by simp at h⟩
 | x :: ids,bs,h=>by
  simp only [tN] at h
  split at h
  ·rename_i cs hb
   split at h
   ·rename_i c l hu hl
    cases h
    obtain ⟨h1,h2⟩:=FP hl
    refine ⟨by simp [h1],fun j id hj=>?_⟩
    cases j with
    | zero =>
     simp only [List.getElem?_cons_zero,Option.some.injEq] at hj
     subst hj
     exact ⟨c,rfl,by rw [hb,tF hu]⟩
    | succ j =>
     simp only [List.getElem?_cons_succ] at hj ⊢
     exact h2 j id hj
   ·cases h
  ·cases h
section
variable {P:Program} {C:Ctx} {g:G} {st:St} {a:Act} {w w':World}
inductive uz (g:G) (w:World) (ids:List Nat):Value→D→Prop
 | v {u:Value} {x:V}:aS g.aM w u x []→uz g w ids u (.v x)
 | ptr {j id off:Nat}:ids[j]? = some id→id < g.n→uz g w ids (.pointer (some ⟨g.loc id,off,none⟩)) (.ptr j off)
inductive vD (g:G) (w:World) (ids:List Nat):List Value→List D→Prop
 | nil:vD g w ids [] []
 | cons {v:Value} {d:D} {vs:List Value} {ds:List D}:uz g w ids v d→vD g w ids vs ds→vD g w ids (v :: vs) (d :: ds)
theorem uz.up {g':G} {ids nW:List Nat} {v:Value} {d:D} (h:uz g w ids v d) (k:dG g g' w w) (hp:∀ (j x:Nat),ids[j]? = some x→nW[j]? = some x):uz g' w nW v d:=by
 cases h with
 | v h=>exact .v (h.keep k.k (fun _ h=>by cases h))
 | ptr h1 h2=>rw [← k.loc _ h2];exact .ptr (hp _ _ h1) (Nat.lt_of_lt_of_le h2 k.n)
theorem vD.iU {ids:List Nat}:∀ {vs:List Value} {ds:List D},vD g w ids vs ds→cK (g.iU ids) w vs ds []
 | _,_,.nil=>.nil
 | _,_,.cons h1 h2=>by
  refine cK.cons (A:=[]) (B:=[]) ?_ h2.iU
  cases h1 with
  | v h=>exact .v h
  | @ptr j id off h hl =>
   have:(g.iU ids).loc j=g.loc id:=by simp only [G.iU];rw [List.getD_eq_getElem?_getD,h];rfl
   rw [← this]
   exact .ptr (by simpa [G.iU] using (List.getElem?_eq_some_iff.1 h).1)
theorem ace {ids nW:List Nat} {x:Operand} {e e':E} {u:D} (h:KY ids x e=some (u,nW,e')):All e'.ob→All e.ob∧(∀ (j y:Nat),ids[j]? = some y→nW[j]? = some y)∧∀ g a w,aI C g e.st a w →
 ∃ g',dG g g' w w∧aI C g' e'.st a w∧uz g' w nW (a.eval x) u:=by
 intro hA
 unfold KY at h
 split at h
 ·rename_i id off hx
  have hk:∃ t,x=.tmp t∧look e.st.env t=some (.d (.ptr id off)):=by
   cases x with
   | tmp t=>exact ⟨t,rfl,hx⟩
   | _=>cases hx
  obtain ⟨t,rfl,hl⟩:=hk
  have rep:∀ g a w,aI C g e.st a w→id < g.n∧a.eval (.tmp t)=.pointer (some ⟨g.loc id,off,none⟩):=by
   intro g a w S
   have h2:aV g w (a.tmps.getD t undef) (.ptr id off) (g.TE t):=(S.env t _ hl).2.1
   show id < g.n∧a.tmps.getD t undef=_
   generalize a.tmps.getD t undef=v at h2
   generalize g.TE t=T at h2
   cases h2 with
   | ptr h=>exact ⟨h,rfl⟩
  split at h
  ·rename_i j hj
   cases h
   refine ⟨hA,fun _ _ h=>h,fun g a w S=>⟨g,dG.refl g w,S,?_⟩⟩
   obtain ⟨h1,h2⟩:=rep g a w S
   rw [h2]
   exact .ptr (u6 hj) h1
  ·cases h
   refine ⟨hA,fun j y h=>?_,fun g a w S=>⟨g,dG.refl g w,S,?_⟩⟩
   ·rw [List.getElem?_append_left (List.getElem?_eq_some_iff.1 h).1];exact h
   obtain ⟨h1,h2⟩:=rep g a w S
   rw [h2]
   exact .ptr (by simp) h1
 ·split at h
  ·rename_i u e1 hv
   cases h
   obtain ⟨h0,k⟩:=val_ok (C:=C) hv hA
   refine ⟨h0,fun _ _ h=>h,fun g a w S=>?_⟩
   obtain ⟨g',kk,S',r⟩:=k g a w S
   exact ⟨g',kk,S',.v r⟩
  ·cases h
theorem Bu:∀ {xs:List Operand} {ids nW:List Nat} {e e':E} {us:List D},Cq ids xs e=some (us,nW,e')→All e'.ob→All e.ob∧(∀ (j y:Nat),ids[j]? = some y→nW[j]? = some y)∧∀ g a w,aI C g e.st a w →
 ∃ g',dG g g' w w∧aI C g' e'.st a w∧vD g' w nW (xs.map a.eval) us
 | [],ids,nW,e,e',us,h,hA=>by
  cases h
  exact ⟨hA,fun _ _ h=>h,fun g a w S=>⟨g,dG.refl g w,S,.nil⟩⟩
 | x :: xs,ids,nW,e,e',us,h,hA=>by
  simp only [Cq] at h
  split at h
  ·rename_i u akZ e1 h1
   split at h
   ·rename_i us2 ak0 e2 h2
    cases h
    obtain ⟨a1,p1,k1⟩:=Bu h2 hA
    obtain ⟨a0,p0,k0⟩:=ace (C:=C) h1 a1
    refine ⟨a0,fun j y h=>p1 j y (p0 j y h),fun g a w S=>?_⟩
    obtain ⟨g1,QP,S1,r1⟩:=k0 g a w S
    obtain ⟨g2,Ay,S2,r2⟩:=k1 g1 a w S1
    exact ⟨g2,QP.trans Ay,S2,.cons (r1.up Ay p1) r2⟩
   ·cases h
  ·cases h
def H7 (N:Nat) (P:Program) (o:Oper) (f:Operand) (xs:List Operand) (e:E):Option E :=
 match val f e with
 | some (u,e)=>match Dl u with
  | some (n,[])=>match Cq [] xs e with
   | some (us,ids,e)=>match ym ids,tN e.st ids with
    | true,some bs=>match hint e with
     | some (r,e)=>match hint e with
      | some (.aC hs,e)=>match Vf hs with
       | some bs'=>match Nat.beq ids.length bs'.length with
        | true=>match o.dst with
         | none=>some { need (yl P n us bs (.v r) bs') e with st:=e.st.kY ids bs' }
         | some _=>match dN N o with
          | some d=>some { need (yl P n us bs (.v r) bs') e with st:=(e.st.kY ids bs').put d (.d (.v r)) }
          | none=>none
        | false=>none
       | none=>none
      | _=>none
     | none=>none
    | _,_=>none
   | none=>none
  | _=>none
 | none=>none
def Jg (e:E):List Operand→Bool
 | []=>false
 | .tmp t :: xs=>match look e.st.env t with
  | some (.d (.ptr _ _))=>true
  | _=>Jg e xs
 | _ :: xs=>Jg e xs
theorem Z7 {o:Oper} {c:Call} {f:Operand} {e e':E} (ho:o.op=.call c) (hc:c.callee=.value f) (h:H7 C.N P o f c.args.toList e=some e') (hcalm:kg P o.op=false):bD P C o e e':=by
 unfold H7 at h
 split at h
 rotate_left
 ·cases h
 rename_i u0 e1 hf
 split at h
 rotate_left
 ·cases h
 rename_i n hfn
 have hfn:=UE hfn
 subst hfn
 split at h
 rotate_left
 ·cases h
 rename_i us ids e2 hv
 split at h
 rotate_left
 ·cases h
 rename_i bs hdn hbs
 split at h
 rotate_left
 ·cases h
 rename_i r e3 uH
 split at h
 rotate_left
 ·cases h
 rename_i hs e4 AR
 split at h
 rotate_left
 ·cases h
 rename_i bs' hun
 split at h
 rotate_left
 ·cases h
 rename_i hlen
 have hlen:=Nat.eq_of_beq_eq_true hlen
 obtain ⟨a1,a2⟩:=ik uH
 obtain ⟨b1,b2⟩:=ik AR
 have bT:e4.ob=e2.ob:=by rw [b1,a1]
 have hst:e4.st=e2.st:=by rw [b2,a2]
 obtain ⟨hl,hbx⟩:=FP hbs
 have hnd:=Bt hdn
 have main:∀ (nH:yl P n us bs (.v r) bs') (hA:All e4.ob) g a w,aI C g e.st a w→∀ (Q:Exit→Act→World→Prop) (next:Act→World→Prop),
  (∀ (v:Value) (w':World) (T:List Nat) (g2:G),aI C g2 (e2.st.kY ids bs') a w'→T.Nodup→(∀ b∈T,g2.own b=none∧¬ g2.aM b∧(C.W.heap.size≤b∨C.Fz b)∧b < w'.heap.size)→aS g2.aM w' v r T→next (a.put o.dst v) w')→o.wp P a w next Q:=by
  intro nH hA g a w S Q next hn
  obtain ⟨us',mo,hf1,hf2,hen,hcon⟩:=nH
  obtain ⟨hA1,_,kv⟩:=Bu (C:=C) hv (bT ▸ hA)
  obtain ⟨_,kf⟩:=val_ok (C:=C) hf hA1
  obtain ⟨g0,k0,S0,r0⟩:=kf g a w S
  obtain ⟨g1,k1,S1,r1⟩:=kv g0 a w S0
  have sw:a.eval f=.func (.func n) #[] #[]:=by
   obtain ⟨QV,h1,h2⟩:=r0.UF
   cases h2
   exact h1
  have hargs:(c.args.map a.eval)=(c.args.toList.map a.eval).toArray:=by apply Array.ext';rw [Array.toList_map]
  unfold Oper.wp
  have:(execOp a.eval o).run P w=.ok (.enter n (c.args.toList.map a.eval).toArray) w:=by
   unfold execOp
   simp only [ho,resolve,hc,sw,hargs,Deferred.ofValue,Sem.run_bind,Sem.run_pure,Result.andThen_ok,invoke]
   simpa using hen _ w
  rw [this,Oper.upon_enter]
  obtain ⟨hB,hown1,hown2⟩:=S1.Ve hnd hl hbx
  refine (hcon (g1.iU ids) w _ (by rw [← hf2.length,← hl];rfl) S1.dJ S1.tab (r1.iU.fit hf1) (hB.fit hf2) (fun b h ho'=>?_)).mono fun ee w' he=>?_
  ·obtain ⟨j,id,_,_,_,h4⟩:=hown1 b h ho'
   exact ⟨(S1.own b _ h4).2.1,(S1.own b _ h4).2.2⟩
  ·obtain ⟨v,T,g',rfl,hL,hR,hT,dB,hB'⟩:=he
   obtain ⟨kk,S2,hfree⟩:=S1.adi hnd hl hlen hbx hL hB'
   exact hn v w' T _ S2 hT (fun b hb=>hfree b (dB b hb)) hR.inv
 split at h
 ·rename_i hd
  cases h
  intro hA
  obtain ⟨hA,nH⟩:=All.snoc (l:=e4.ob) hA
  have h0:=(val_ok (C:=C) hf (Bu (C:=C) hv (bT ▸ hA)).1).1
  refine ⟨h0,fun g a w S next Q hn=>main nH hA g a w S Q next fun v w' T g2 S2 hT hfree hR=>?_⟩
  rw [hd]
  refine hn g2 _ _ ?_ (fun h=>by rw [hcalm] at h;cases h)
  show aI C g2 (e4.st.kY ids bs') _ _
  rw [hst]
  exact S2
 ·split at h
  ·rename_i d hd
   cases h
   obtain ⟨hdd,hdN⟩:=fK hd
   intro hA
   obtain ⟨hA,nH⟩:=All.snoc (l:=e4.ob) hA
   have h0:=(val_ok (C:=C) hf (Bu (C:=C) hv (bT ▸ hA)).1).1
   refine ⟨h0,fun g a w S next Q hn=>main nH hA g a w S Q next fun v w' T g2 S2 hT hfree hR=>?_⟩
   rw [hdd]
   refine hn (g2.put d T fun _=>False) _ _ ?_ (fun h=>by rw [hcalm] at h;cases h)
   show aI C _ ((e4.st.kY ids bs').put d _) _ _
   rw [hst]
   exact S2.rQ (row:=none) ⟨rfl,rfl,rfl,Nat.le_refl _,fun _ _ _=>rfl⟩ (by simp) hdN hT hfree hR
  ·cases h
end
end Go.Rf
end
section
namespace Go.Rf
open Go.RowKit
set_option linter.unusedVariables false
set_option linter.unusedSimpArgs false
variable [cO]
section
variable {P:Program} {C:Ctx} {g:G} {st:St} {a:Act} {w w':World}
theorem aI.setIter (S:aI C g st a w) {id:Nat} {s:ByteArray} {pos pos':Nat} (hb:st.box[id]? = some (.iter s pos)) (hh:w'.heap[g.loc id]? = some (.stringIter s pos')) (ho:w'.os=w.os) (ht:w'.tape=w.tape) (hu:w'.output=w.output) (hsz:w'.heap.size=w.heap.size)
 (hoth:∀ b,b≠g.loc id→w'.heap[b]? = w.heap[b]?):aI C g { env:=kill (jN id) st.env,box:=st.box.set id (.iter s pos') } a w':=by
 have hid:id < st.box.length:=(List.getElem?_eq_some_iff.1 hb).1
 obtain ⟨⟨hT,_⟩,hown⟩:=S.box id _ hb
 have hlo:g.own (g.loc id)=some (.inr id):=hown _ (by rw [hT];simp)
 refine S.change (fun h=>h=.inr id) S.defers S.tmps ho ht hu (Nat.le_of_eq hsz.symm) (fun _ h=>h) (fun _ h=>.inl h) (fun b hb'=>by rw [hsz];exact S.dJ b hb') (by simpa using S.n) (Nat.le_refl _) (fun _ _=>rfl) ?_ (fun b h ho _=>ho) (fun t _=>⟨rfl,rfl⟩) (fun i hi=>⟨rfl,?_⟩) ?_ ?_ (fun t h=>by cases h) (fun i h=>by cases h;exact S.mK id) (fun b h ho=>.inl ⟨ho,(S.own b h ho).2.2⟩)
 ·intro b hb' h
  refine hoth b (fun e=>?_)
  subst e
  rcases h with h | ⟨h,h2,h3⟩ | ⟨h2,h3⟩
  ·exact (S.own _ _ hlo).2.2 h
  ·rw [hlo] at h2;cases h2;exact h3 rfl
  ·rcases (S.own _ _ hlo).1 with h4 | h4
   ·omega
   ·exact h3 h4
 ·rw [List.getElem?_set_ne (fun e=>hi (by rw [e]))]
 ·intro t y hy
  simp only [mX] at hy
  refine .inl ⟨(fun e=>by cases e),?_⟩
  cases hl:look st.env t with
  | none=>rw [hl] at hy;cases hy
  | some z =>
   rw [hl] at hy
   simp only [Option.map_some,Option.some.injEq] at hy
   by_cases hdd:y=.dead
   ·exact .inr ⟨hdd,z,rfl⟩
   ·rcases X.iQ (jN id) z with h | ⟨h,_⟩
    ·exact (hdd (by rw [← hy,h])).elim
    ·rw [h] at hy
     subst hy
     exact .inl ⟨rfl,X.uV (q:=.b id 0) h hdd⟩
 ·intro i b hb' hc
  cases hc
  rw [List.getElem?_set_self hid] at hb'
  cases hb'
  exact ⟨⟨hT,hh⟩,hown⟩
def H8 (P:Program) (N:Nat) (o:Oper) (t:TypeId) (x:Operand) (e:E):Option E :=
 match dN N o with
 | none=>none
 | some d=>match P.underlying t with
  | some .string=>match val x e with
   | some (.lit (.string s),e)=>some { e with st:=({ e.st with box:=e.st.box++[gM.iter s 0] }:St).put d (.d (.ptr e.st.box.length 0)) }
   | _=>none
  | _=>none
theorem Z8 {o:Oper} {t:TypeId} {x:Operand} {e e':E} (ho:o.op=.range t x) (h:H8 P C.N o t x e=some e'):bD P C o e e':=by
 unfold H8 at h
 split at h
 ·cases h
 rename_i d hd
 obtain ⟨hdd,hdN⟩:=fK hd
 split at h
 ·rename_i hu
  split at h
  ·rename_i s e1 hv
   cases h
   intro hA
   obtain ⟨h0,k⟩:=val_ok (C:=C) hv hA
   refine ⟨h0,fun g a w S next Q hn=>?_⟩
   obtain ⟨g1,k1,S1,r1⟩:=k g a w S
   have hx:a.eval x=.string s:=r1.lI
   refine fC (v:=.pointer (some ⟨w.heap.size,0,none⟩)) (w':=w.alloc (.stringIter s 0)) ?_ ?_
   ·unfold execOp
    simp only [ho,hx,Sem.run_bind,run_range_string w t s hu,Result.andThen_ok,Sem.run_pure]
    rfl
   ·rw [hdd]
    have S2:=S1.newObj (.stringIter s 0) (.iter s 0) fun g2 _=>⟨rfl,by show (w.heap.push _)[w.heap.size]? = _;rw [Array.getElem?_push_size]⟩
    refine hn _ _ _ (S2.iL (Calm.refl _) hdN (v:=.pointer (some ⟨w.heap.size,0,none⟩)) (D:=.ptr e1.st.box.length 0) ?_) (fun _=>Calm.alloc w _)
    have Yx:(g1.gU w.heap.size []).loc g1.n=w.heap.size:=by simp [G.gU]
    rw [← S1.n]
    have:aV (g1.gU w.heap.size []) (w.alloc (.stringIter s 0)) (.pointer (some ⟨(g1.gU w.heap.size []).loc g1.n,0,none⟩)) (.ptr g1.n 0) []:=.ptr (by simp [G.gU])
    rw [Yx] at this
    exact this
  ·cases h
 ·cases h
def II (N:Nat) (o:Oper) (x:Operand) (wY:Bool) (e:E):Option E :=
 match dN N o,wY with
 | some d,true=>match x with
  | .tmp t=>match look e.st.env t with
   | some (.d (.ptr id 0))=>match e.st.box[id]? with
    | some (.iter s pos)=>match hint e with
     | some (.kb true,e)=>some ({ (need (pos < s.size) e) with st:=({ env:=kill (jN id) e.st.env,box:=e.st.box.set id (.iter s (pos+(Utf8.decode s pos).2)) }:St).put d (.d (.v (.aC [.kb true,.lit (.int .i64 (pos:Int)),.lit (.int .i32 (Utf8.decode s pos).1)]))) })
     | some (.kb false,e)=>some ((need (¬ pos < s.size) e).put d (.aC [.kb false]))
     | _=>none
    | _=>none
   | _=>none
  | _=>none
 | _,_=>none
theorem aaF {o:Oper} {x:Operand} {wY:Bool} {e e':E} (ho:o.op=.next x wY) (h:II C.N o x wY e=some e') (hcalm:kg P o.op=false):bD P C o e e':=by
 unfold II at h
 split at h
 rotate_left
 ·cases h
 rename_i d hd
 obtain ⟨hdd,hdN⟩:=fK hd
 split at h
 rotate_left
 ·cases h
 rename_i t
 split at h
 rotate_left
 ·cases h
 rename_i id hl
 split at h
 rotate_left
 ·cases h
 rename_i s pos hb
 have ptr:∀ g a w,aI C g e.st a w→a.eval (.tmp t)=.pointer (some ⟨g.loc id,0,none⟩)∧w.heap[g.loc id]? = some (.stringIter s pos):=by
  intro g a w S
  have h2:aV g w (a.tmps.getD t undef) (.ptr id 0) (g.TE t):=(S.env t _ hl).2.1
  refine ⟨?_,(S.box id _ hb).1.2⟩
  show a.tmps.getD t undef=_
  generalize a.tmps.getD t undef=v at h2
  generalize g.TE t=T at h2
  cases h2
  rfl
 split at h
 ·rename_i e1 hh
  obtain ⟨q1,q2⟩:=ik hh
  cases h
  intro hA
  obtain ⟨hA,hlt⟩:=All.snoc (l:=e1.ob) hA
  refine ⟨q1 ▸ hA,fun g a w S next Q hn=>?_⟩
  obtain ⟨hp,hg⟩:=ptr g a w S
  refine fC (v:=.tuple #[.bool true,.int .i64 pos,.int .i32 (Utf8.decode s pos).1]) (w':={ w with heap:=w.heap.setIfInBounds (g.loc id) (.stringIter s (pos+(Utf8.decode s pos).2)) }) ?_ ?_
  ·unfold execOp
   simp only [ho,hp]
   simp [Instr.next,getObj,setObj,Sem.run,hg,Result.andThen,hlt,goInt]
  ·rw [hdd]
   have hlt2:g.loc id < w.heap.size:=by
    rcases Nat.lt_or_ge (g.loc id) w.heap.size with h | h
    ·exact h
    ·rw [Array.getElem?_eq_none h] at hg;cases hg
   have S2:=S.setIter (w':={ w with heap:=w.heap.setIfInBounds (g.loc id) (.stringIter s (pos+(Utf8.decode s pos).2)) }) hb (pos':=pos+(Utf8.decode s pos).2) (by simp [hlt2]) rfl rfl rfl (by simp) (fun b hb'=>by simp only [Array.getElem?_setIfInBounds];rw [if_neg (fun e=>hb' e.symm)])
   refine hn (g.put d [] fun _=>False) _ _ ?_ (fun h=>by rw [hcalm] at h;cases h)
   show aI C _ (({ env:=kill (jN id) e1.st.env,box:=e1.st.box.set id (.iter s (pos+(Utf8.decode s pos).2)) }:St).put d _) _ _
   rw [q2]
   exact S2.iL (Calm.refl _) hdN (.v (.aC (vs:=[.bool true,.int .i64 pos,.int .i32 (Utf8.decode s pos).1]) (.cons (A:=[]) (.kb true) (.cons (A:=[]) (.lit _) (.cons (A:=[]) (.lit _) .nil)))))
 ·rename_i e1 hh
  obtain ⟨q1,q2⟩:=ik hh
  cases h
  intro hA
  obtain ⟨hA,hlt⟩:=All.snoc (l:=e1.ob) hA
  refine ⟨q1 ▸ hA,fun g a w S next Q hn=>?_⟩
  obtain ⟨hp,hg⟩:=ptr g a w S
  refine fC (v:=.tuple #[.bool false]) (w':=w) ?_ ?_
  ·unfold execOp
   simp only [ho,hp]
   simp [Instr.next,getObj,Sem.run,hg,Result.andThen,hlt]
  ·rw [hdd]
   refine hn (g.put d [] fun _=>False) _ _ ?_ (fun h=>by rw [hcalm] at h;cases h)
   show aI C _ (e1.st.put d _) _ _
   rw [q2]
   exact S.iL (Calm.refl _) hdN (.v (.aC (vs:=[.bool false]) (.cons (A:=[]) (.kb false) .nil)))
 ·cases h
end
end Go.Rf
end
section
namespace Go.Rf
open Go.RowKit
set_option linter.unusedVariables false
set_option linter.unusedSimpArgs false
variable [cO]
def Dp (P:Program) (g:TypeId→V→V→Option Bool):List Field→List V→List V→Option Bool
 | [],_,_=>some true
 | f :: fs,cs,ds=>match f.name == "_" with
  | true=>none
  | false=>match lJ P f.type (cs.drop f.offset),lJ P f.type (ds.drop f.offset) with
   | some u,some v=>match g f.type u v with
    | some b=>match fs with
     | []=>some b
     | _ :: _=>match Dp P g fs cs ds with
      | some r=>some (b && r)
      | none=>none
    | none=>none
   | _,_=>none
def Q3:V→V→Option Bool
 | .lit (.bool a),.lit (.bool b)=>some (a == b)
 | _,_=>none
def Q4:V→V→Option Bool
 | .lit (.int k a),.lit (.int k' b)=>match k == k' with
  | true=>some (a == b)
  | false=>none
 | _,_=>none
def Q5:V→V→Option Bool
 | .lit (.string a),.lit (.string b)=>some (a == b)
 | _,_=>none
theorem acf {u v:V} {r:Bool} (h:Q3 u v=some r):∃ a b,u=.lit (.bool a)∧v=.lit (.bool b)∧r=(a == b):=by
 unfold Q3 at h
 split at h
 ·exact ⟨_,_,rfl,rfl,(Option.some.inj h).symm⟩
 ·cases h
theorem acg {u v:V} {r:Bool} (h:Q4 u v=some r):∃ k a b,u=.lit (.int k a)∧v=.lit (.int k b)∧r=(a == b):=by
 unfold Q4 at h
 split at h
 ·split at h
  ·rename_i hk
   exact ⟨_,_,_,rfl,by rw [eq_of_beq hk],(Option.some.inj h).symm⟩
  ·cases h
 ·cases h
theorem ach {u v:V} {r:Bool} (h:Q5 u v=some r):∃ a b,u=.lit (.string a)∧v=.lit (.string b)∧r=(a == b):=by
 unfold Q5 at h
 split at h
 ·exact ⟨_,_,rfl,rfl,(Option.some.inj h).symm⟩
 ·cases h
def qL (P:Program):Nat→TypeId→V→V→Option Bool
 | 0,_,_,_=>none
 | d+1,t,u,v=>match P.underlying t with
  | some (.struct fs)=>match u,v,P.stoodInHeld t with
   | .agg cs,.agg ds,false=>Dp P (qL P d) fs.toList cs ds
   | _,_,_=>none
  | some .bool=>Q3 u v
  | some (.int _)=>Q4 u v
  | some .string=>Q5 u v
  | _=>none
section
variable {P:Program} {C:Ctx}
theorem UG {p:bB} {w:World} {D:Nat} {g:TypeId→V→V→Option Bool} (hg:∀ t u v b,g t u v=some b→∀ x y,aS p w x u []→aS p w y v []→(Op.equalIn D t x y).run P w=.ok b w) {xs ys:List Value} {cs ds:List V} (h1:aN p w xs cs []) (h2:aN p w ys ds []) :
 ∀ {fs:List Field} {r:Bool},Dp P g fs cs ds=some r→(Op.eqFields D xs.toArray ys.toArray fs).run P w=.ok r w
 | [],r,h=>by cases h;simp [Op.eqFields]
 | f :: fs,r,h=>by
  rw [Dp] at h
  split at h
  ·cases h
  rename_i hn
  have hn':f.name ≠ "_" := by simpa using hn
  split at h
  rotate_left
  ·cases h
  rename_i u v hu hv
  split at h
  rotate_left
  ·cases h
  rename_i b hb
  obtain ⟨x,hx,rx⟩:=GD h1 hu
  obtain ⟨y,hy,ry⟩:=GD h2 hv
  have he:=hg _ _ _ _ hb x y rx ry
  split at h
  ·cases h
   simp only [Op.eqFields,if_pos hn',Sem.run_bind,hx,hy,he,Result.andThen_ok]
   cases r<;>simp
  ·split at h
   ·rename_i r' hr
    cases h
    have ih:=UG hg h1 h2 hr
    rw [Op.eqFields]
    simp only [if_pos hn',Sem.run_bind,hx,hy,he,Result.andThen_ok]
    cases b
    ·simp
    ·simpa using ih
   ·cases h
theorem Vg {p:bB} {w:World}:∀ {d:Nat} {t:TypeId} {u v:V} {b:Bool},qL P d t u v=some b→∀ x y,aS p w x u []→aS p w y v []→∀ D,d≤D→(Op.equalIn D t x y).run P w=.ok b w
 | 0,t,u,v,b,h,_,_,_,_,_,_=>by simp [qL] at h
 | d+1,t,u,v,b,h,x,y,hx,hy,D,hD=>by
  obtain ⟨D,rfl⟩:∃ D',D=D'+1:=⟨D - 1,by omega⟩
  rw [qL] at h
  split at h
  ·rename_i fs hu
   split at h
   ·rename_i cs ds hst
    obtain ⟨xs,rfl,r1⟩:=hx.tC
    obtain ⟨ys,rfl,r2⟩:=hy.tC
    have hf:P.fieldsOf t=fs:=by simp [Program.fieldsOf,hu]
    rw [run_equalIn_struct (P:=P) w D t xs.toArray ys.toArray (by rw [hf];exact hu) hst,hf]
    exact UG (fun t u v b hb x y hx hy=>Vg hb x y hx hy D (by omega)) r1 r2 h
   ·cases h
  ·rename_i hu
   obtain ⟨a,c,rfl,rfl,rfl⟩:=acf h
   have e1:=hx.lI
   have e2:=hy.lI
   subst e1
   subst e2
   simp only [Op.equalIn,Sem.run_bind,run_underlying hu,Result.andThen_ok,if_true,Sem.run_pure]
  ·rename_i ki hu
   obtain ⟨k,a,c,rfl,rfl,rfl⟩:=acg h
   have e1:=hx.lI
   have e2:=hy.lI
   subst e1
   subst e2
   simp only [Op.equalIn,Sem.run_bind,run_underlying hu,Result.andThen_ok,if_true,Sem.run_pure]
  ·rename_i hu
   obtain ⟨a,c,rfl,rfl,rfl⟩:=ach h
   have e1:=hx.lI
   have e2:=hy.lI
   subst e1
   subst e2
   simp only [Op.equalIn,Sem.run_bind,run_underlying hu,Result.andThen_ok,if_true,Sem.run_pure]
  ·cases h
def Jh (P:Program) (N:Nat) (o:Oper) (op:BinOp) (t:TypeId) (x y:Operand) (e:E):Option E :=
 match dN N o with
 | none=>none
 | some d=>match P.eqGuardType P.depth t with
  | true=>none
  | false=>match vals [x,y] e with
   | some ([.agg cs,.agg ds],e)=>match qL P 12 t (.agg cs) (.agg ds),op with
    | some b,.eql=>some (e.put d (.lit (.bool b)))
    | some b,.neq=>some (e.put d (.lit (.bool (!b))))
    | _,_=>none
   | _=>none
theorem H9 {o:Oper} {op:BinOp} {t ty:TypeId} {x y:Operand} {cs ds:List V} {b:Bool} {v:Value} (hgd:P.eqGuardType P.depth t=false) (hb:qL P 12 t (.agg cs) (.agg ds)=some b) (hop:op=.eql∧v=.bool b∨op=.neq∧v=.bool (!b)) (ho:o.op=.binOp op t x y ty) (ρ:Operand→Value) (w:World) (p:bB) (hr:aN p w ([x,y].map ρ) [.agg cs,.agg ds] []):(execOp ρ o).run P w=.ok (.value v) w:=by
 simp only [List.map_cons,List.map_nil] at hr
 generalize hT:([]:List Nat)=T at hr
 cases hr with
 | @cons _ _ _ _ A B r1 r2 =>
  have hA:=(List.append_eq_nil_iff.1 hT.symm)
  rw [hA.1] at r1
  rw [hA.2] at r2
  generalize xc:([]:List Nat)=T2 at r2
  cases r2 with
  | @cons _ _ _ _ A2 B2 r3 r4 =>
   have hA2:=(List.append_eq_nil_iff.1 xc.symm)
   rw [hA2.1] at r3
   have he:=Vg hb _ _ r1 r3 Op.maxDepth (by decide)
   obtain ⟨xs,ex,_⟩:=r1.tC
   obtain ⟨ys,ey,_⟩:=r3.tC
   rw [ex,ey] at he
   have af8:(eqGuard op t x y (.agg xs.toArray) (.agg ys.toArray)).run P w=.ok () w:=by
    unfold eqGuard
    rcases hop with ⟨rfl,_⟩ | ⟨rfl,_⟩<;>simp [Sem.run_bind,run_program,hgd]
   unfold execOp
   simp only [ho,ex,ey,Sem.run_bind,af8,Result.andThen_ok]
   rcases hop with ⟨rfl,rfl⟩ | ⟨rfl,rfl⟩<;>simp only [binOp,Op.equal,Sem.run_bind,he,Result.andThen_ok,Sem.run_pure]
theorem abl {o:Oper} {op:BinOp} {t ty:TypeId} {x y:Operand} {e e':E} (ho:o.op=.binOp op t x y ty) (h:Jh P C.N o op t x y e=some e'):bD P C o e e':=by
 unfold Jh at h
 split at h
 ·cases h
 rename_i d hd
 split at h
 ·cases h
 rename_i hgd
 split at h
 rotate_left
 ·cases h
 rename_i cs ds e1 hv
 split at h
 ·rename_i b hb
  cases h
  exact bD.su hd hv rfl (fun h=>h) fun hA ρ w p hr=>⟨_,H9 hgd hb (.inl ⟨rfl,rfl⟩) ho ρ w p hr,.lit _⟩
 ·rename_i b hb
  cases h
  exact bD.su hd hv rfl (fun h=>h) fun hA ρ w p hr=>⟨_,H9 hgd hb (.inr ⟨rfl,rfl⟩) ho ρ w p hr,.lit _⟩
 ·cases h
end
end Go.Rf
end
section
namespace Go.Rf
open Go.RowKit
set_option linter.unusedVariables false
set_option linter.unusedSimpArgs false
variable [cO]
section
variable {P:Program} {C:Ctx}
def adj (e:E) (x:Operand):Bool:=match x with
 | .tmp q=>match look e.st.env q with
  | some (.d (.v (.agg us)))=>!(V.agg us).bM
  | _=>false
 | _=>false
def GV (P:Program) (o:Oper) (t:TypeId) (s:Nat) (x:Operand) (e:E):Option E :=
 match o.dst with
 | some _=>none
 | none=>match look e.st.env s with
  | some (.d (.ptr id off))=>match x with
   | .tmp q=>match look e.st.env q with
    | some (.d (.v (.agg us)))=>match e.st.box[id]? with
     | some (.cells cs)=>match V.qj (.agg us) && Nat.ble (off+us.length) cs.length && qm P t us.length with
      | true=>some { e with st:=e.st.nQ id (some q) (cs.take off++dv us++cs.drop (off+(dv us).length)) }
      | false=>none
     | _=>none
    | _=>none
   | _=>none
  | _=>none
theorem ZG {o:Oper} {t:TypeId} {s:Nat} {x:Operand} {e e':E} (ho:o.op=.store t (.tmp s) x) (h:GV P o t s x e=some e'):bD P C o e e':=by
 unfold GV at h
 split at h
 ·cases h
 rename_i hd
 split at h
 ·rename_i id off hl
  split at h
  ·rename_i q
   split at h
   ·rename_i us hq
    split at h
    ·rename_i cs hb
     split at h
     ·rename_i hc
      cases h
      simp only [Bool.and_eq_true] at hc
      obtain ⟨⟨c1,c2⟩,c3⟩:=hc
      have c2:=Nat.le_of_ble_eq_true c2
      have c3:=sV c3
      refine bD.store (src:=some q) (ds:=dv us) ho hd (fun h=>h) hl hb (by rw [xC];exact c2) (by rw [xC];exact c3) (fun _ g a w S=>?_) (fun q' e'=>by cases e';exact ⟨_,hq⟩)
      obtain ⟨_,h2,h3⟩:=S.env q _ hq
      have h2:=aV.inv (show aV g w (a.eval (.tmp q)) (.v (.agg us)) (g.TE q) from h2)
      obtain ⟨r3,r4⟩:=h2.flat c1
      exact ⟨g,g.TE q,S,r3.dv,r3.one r4,S.nU q,fun b hb'=>⟨q,rfl,h3 b hb'⟩⟩
     ·cases h
    ·cases h
   ·cases h
  ·cases h
 ·cases h
end
end Go.Rf
end
section
namespace Go.Rf
open Go.RowKit
set_option linter.unusedVariables false
set_option linter.unusedSimpArgs false
variable [cO]
section
variable {P:Program} {C:Ctx}
def Gf (P:Program) (N:Nat) (o:Oper) (t:TypeId) (len:Nat) (parts:List (Nat × Operand)) (e:E):Option E :=
 match dN N o with
 | none=>none
 | some d=>match parts with
  | [(0,.tmp q)]=>match Nat.beq len 1 with
   | true=>match look e.st.env q with
    | some (.d (.v (.agg us)))=>match P.underlying t with
     | some (.slice el)=>match gy P el with
      | some sz=>match zeroV P el with
       | some _=>match V.qj (.agg us) && Nat.beq us.length sz && Nat.ble 1 sz && Nat.ble sz 16777216 with
        | true=>some { e with st:=(e.st.dD (.t q)).put d (.d (.v (.row (some el) sz [.agg us]))) }
        | false=>none
       | none=>none
      | none=>none
     | _=>none
    | _=>none
   | false=>none
  | _=>none
theorem ZH {o:Oper} {t el:TypeId} {sz:Nat} {zs:List V} {x:Operand} {parts:Array (Nat × Operand)} (ho:o.op=.buildSlice t 1 parts) (hp:parts.toList=[(0,x)]) (hu:P.underlying t=some (.slice el)) (hs:gy P el=some sz) (hz:zeroV P el=some zs)
 (h1:1≤sz) (h2:sz≤16777216) (ρ:Operand→Value) (w:World) (hc:(ρ x).cells.size=sz):(execOp ρ o).run P w=.ok (.value (.slice (some ⟨w.heap.size,0,none⟩) 1 1)) (w.alloc (.cells (ρ x).cells el)):=by
 obtain ⟨it,zv,hit,hzv,_,wZ⟩:=xH hz
 unfold gy at hs
 rw [hit] at hs
 have hs:it.size=sz:=Option.some.inj hs
 let xs:Array Value:=(Array.range (1*sz)).map (zv.cells[· % zv.cells.size]!)
 have hxs:xs.size=1*sz:=by simp [xs]
 obtain ⟨ys,g1,g2⟩:=GG (size:=sz) [ρ x] 0 xs (by simp [hc]) (by rw [hxs];simp)
 have hys:ys=(ρ x).cells:=by
  apply Array.ext'
  rw [g2]
  simp only [Nat.zero_mul,List.take_zero,List.nil_append,Nat.zero_add,List.length_singleton,List.flatMap_singleton]
  rw [List.drop_of_length_le (by rw [Array.length_toList,hxs];exact Nat.le_refl _),List.append_nil]
 have hb:(Instr.buildSlice t 1 (parts.map fun (i,x)=>(i,ρ x))).run P w=.ok (.slice (some ⟨w.heap.size,0,none⟩) 1 1) (w.alloc (.cells (ρ x).cells el)):=by
  have e4:(parts.map fun (i,x)=>(i,ρ x)).toList=(List.range' 0 [ρ x].length).zip [ρ x]:=by
   rw [Array.toList_map,hp];rfl
  simp only [xs] at g1
  simp only [Instr.buildSlice,Sem.run_bind,run_underlying hu,Result.andThen_ok,sizeOf,typeInfo,run_program,hit,Sem.run_pure,hs]
  rw [if_neg (by omega),if_neg (by omega)]
  simp only [Sem.run_bind,zeroValue,typeInfo,run_program,hit,hzv,Sem.run_pure,Result.andThen_ok,e4,g1,newRow,run_newObj,World.alloc_eq]
  rw [hys]
 unfold execOp
 simp only [ho,Sem.run_bind,hb,Result.andThen_ok,Sem.run_pure]
theorem Zk {o:Oper} {t:TypeId} {len:Nat} {parts:Array (Nat × Operand)} {e e':E} (ho:o.op=.buildSlice t len parts) (h:Gf P C.N o t len parts.toList e=some e'):bD P C o e e':=by
 unfold Gf at h
 split at h
 ·cases h
 rename_i d hd
 obtain ⟨hdd,hdN⟩:=fK hd
 split at h
 ·rename_i q hpl
  split at h
  ·rename_i hlen
   have hlen:=Nat.eq_of_beq_eq_true hlen
   subst hlen
   split at h
   ·rename_i us hq
    split at h
    ·rename_i el hu
     split at h
     ·rename_i sz hs
      split at h
      ·rename_i zs hz
       split at h
       ·rename_i hc
        cases h
        simp only [Bool.and_eq_true] at hc
        obtain ⟨⟨⟨c1,c2⟩,c3⟩,c4⟩:=hc
        have c2:=Nat.eq_of_beq_eq_true c2
        have c3:=Nat.le_of_ble_eq_true c3
        have c4:=Nat.le_of_ble_eq_true c4
        refine fun hA=>⟨hA,fun g a w S next Q hn=>?_⟩
        obtain ⟨v,T,T',hpv,hR,gF,dB,KR,kw,S2⟩:=S.take (r:=.t q) (u:=.agg us) (by simp only [iT,hq])
        have hx:a.eval (.tmp q)=v:=by
         show a.tmps.getD q undef=v
         rw [Array.getD_eq_getD_getElem?,show a.tmps[q]? = some v from hpv];rfl
        obtain ⟨hf1,hf2⟩:=hR.flat c1
        have hf1:aN g.aM w v.cells.toList us T:=hf1
        have hcs:(a.eval (.tmp q)).cells.size=sz:=by rw [hx,← Array.length_toList,hf1.length,c2]
        refine fC (ZH ho hpl hu hs hz c3 c4 a.eval w hcs) ?_
        rw [hdd]
        have hgr:=World.grownBy_alloc w (.cells (a.eval (.tmp q)).cells el) none
        have cm:=Calm.of hgr
        have hfree:∀ b∈T,(g.dD (Root.t q).holder T').own b=none∧¬ g.aM b∧(C.W.heap.size≤b∨C.Fz b)∧b < w.heap.size:=by
         intro b hb'
         obtain ⟨o1,o2⟩:=dB b hb'
         have:=S.own b _ o1
         refine ⟨?_,this.2.2,this.1,this.2.1⟩
         simp only [G.dD]
         rw [if_pos ⟨o1,o2⟩]
        have hnew:(g.dD (Root.t q).holder T').own w.heap.size=none:=by
         simp only [G.dD]
         split
         ·rfl
         ·cases ho':g.own w.heap.size with
          | none=>rfl
          | some h'=>have:=(S.own _ _ ho').2.1;omega
        have how:=World.ownsRow_lit (base:=0) (e:=el) (size:=sz) w (a.eval (.tmp q)).cells 1 (Nat.zero_le _) (by decide) (by rw [hcs,Nat.one_mul])
        have hall:aN g.aM (w.alloc (.cells (a.eval (.tmp q)).cells el)) (a.eval (.tmp q)).cells.toList ([V.agg us].flatMap V.cells) T:=by
         rw [List.flatMap_singleton,hx]
         exact hf1.keep ⟨fun _ h=>h,fun b hb=>by rw [← hx];exact cm.same b (S.dJ b hb)⟩ (fun b hb=>by rw [← hx];exact cm.same b (hfree b hb).2.2.2)
        have kZ:=aS.own (p:=g.aM) (w:=w.alloc (.cells (a.eval (.tmp q)).cells el)) (es:=[V.agg us]) (A:=T) (v:=.slice (some ⟨w.heap.size,0,none⟩) 1 1) (by simp [V.cells,c2]) hall (fun u hu=>by rw [hx] at hu;exact hf1.one hf2 u hu) how
        refine hn ((g.dD (Root.t q).holder T').put d (w.heap.size :: T) fun _=>False) _ _ ?_ (fun _=>cm)
        refine S2.rQ (row:=none) hgr (by simp) hdN ?_ ?_ (show aS g.aM _ _ _ (w.heap.size :: T) from kZ)
        ·refine List.nodup_cons.2 ⟨fun hb=>?_,gF⟩
         have:=(hfree _ hb).2.2.2;omega
        ·intro b hb
         rcases List.mem_cons.1 hb with rfl | hb
         ·exact ⟨hnew,fun hp'=>by have:=S.dJ _ hp';omega,.inl S.size,by simp⟩
         ·have:=hfree b hb
          exact ⟨this.1,this.2.1,this.2.2.1,Nat.lt_of_lt_of_le this.2.2.2 cm.size⟩
       ·cases h
      ·cases h
     ·cases h
    ·cases h
   ·cases h
  ·cases h
 ·cases h
def Gg (P:Program) (N:Nat) (o:Oper) (ts:Array TypeId) (s x:Operand) (e:E):Option E :=
 match dN N o with
 | none=>none
 | some d=>match ts.toList with
  | [t,tx]=>match P.underlying t with
   | some (.slice el)=>match P.info? el with
    | some i=>match i.zero with
     | some z=>match Nat.beq z.cells.size i.size && Nat.ble 1 i.bytes && Nat.ble (140737488355328 / i.bytes) maxLen with
      | true=>match x with
       | .tmp q=>match look e.st.env q with
        | some (.d (.v (.row (some _) s2 es2)))=>match P.underlying tx with
         | some (.slice _)=>match Nat.beq s2 i.size && Nat.ble 1 s2 with
          | true=>match hint e with
           | some (.kb true,e1)=>match Dj (e1.st.dD (.t q)) el i.size s with
            | some (r,es)=>match hint e1 with
             | some (.row (some e') s' es',e2)=>match Nat.beq e' el && Nat.beq s' i.size with
              | true=>some ({ (need (es.length+es2.length≤140737488355328 / i.bytes) (need (dH (es++es2) es') e2)) with st:=(Vz (e2.st.dD (.t q)) r).put d (.d (.v (.row (some el) i.size es'))) })
              | false=>none
             | _=>none
            | none=>none
           | _=>none
          | false=>none
         | _=>none
        | _=>none
       | _=>none
      | false=>none
     | none=>none
    | none=>none
   | _=>none
  | _=>none
theorem Zl {o:Oper} {c:Call} {s x:Operand} {e e':E} (ho:o.op=.call c) (hc:c.callee=.builtin .append) (ha:c.args = #[s,x]) (h:Gg P C.N o c.argTypes s x e=some e'):bD P C o e e':=by
 unfold Gg at h
 split at h
 ·cases h
 rename_i d hd
 obtain ⟨hdd,hdN⟩:=fK hd
 split at h
 rotate_left
 ·cases h
 rename_i t tx hts
 have hts:c.argTypes = #[t,tx]:=by rw [← Array.toArray_toList (xs:=c.argTypes),hts]
 split at h
 rotate_left
 ·cases h
 rename_i el hu
 split at h
 rotate_left
 ·cases h
 rename_i i hi
 split at h
 rotate_left
 ·cases h
 rename_i z hz
 split at h
 rotate_left
 ·cases h
 rename_i hck
 simp only [Bool.and_eq_true] at hck
 obtain ⟨⟨k1,k2⟩,k3⟩:=hck
 have k1:=Nat.eq_of_beq_eq_true k1
 have k2:=Nat.le_of_ble_eq_true k2
 have k3:=Nat.le_of_ble_eq_true k3
 split at h
 rotate_left
 ·cases h
 rename_i q
 split at h
 rotate_left
 ·cases h
 rename_i et2 s2 es2 hq
 split at h
 rotate_left
 ·cases h
 rename_i ex Yy
 split at h
 rotate_left
 ·cases h
 rename_i WN
 rw [Bool.and_eq_true] at WN
 have k4:=Nat.eq_of_beq_eq_true WN.1
 subst k4
 split at h
 rotate_left
 ·cases h
 rename_i e1 uH
 obtain ⟨p1,p2⟩:=ik uH
 split at h
 rotate_left
 ·cases h
 rename_i r es hs
 split at h
 rotate_left
 ·cases h
 rename_i lu s' es' e2 hh
 split at h
 rotate_left
 ·cases h
 rename_i pR
 rw [Bool.and_eq_true] at pR
 have c1:=Nat.eq_of_beq_eq_true pR.1
 have c2:=Nat.eq_of_beq_eq_true pR.2
 subst c1
 subst c2
 cases h
 obtain ⟨q1,q2⟩:=ik hh
 intro hA
 obtain ⟨hA,hsz⟩:=All.snoc (l:=e2.ob++_) hA
 obtain ⟨hA,hfit⟩:=All.snoc (l:=e2.ob) hA
 have oh:All e.ob:=by rw [← p1,← q1];exact hA
 refine ⟨oh,fun g a w S next Q hn=>?_⟩
 have WO:e2.st=e.st:=q2.trans p2
 rw [p2] at hs
 obtain ⟨y,T2,T2',hpy,hR2,WQ,af9,akV,kw2,S1⟩:=S.take (r:=.t q) (u:=.row (some et2) i.size es2) (by simp only [iT,hq])
 have hy:a.eval (.tmp q)=y:=by
  show a.tmps.getD q undef=y
  rw [Array.getD_eq_getD_getElem?,show a.tmps[q]? = some y from hpy];rfl
 obtain ⟨news,A2,xc,ql,hnews,ad9,KZ⟩:=nN hR2
 have hsrc:Src P tx i.size es2.length news (a.eval (.tmp q)) w:=by
  rw [hy]
  have Ji:=KZ
  rcases KZ.2 with ⟨hv,hn0⟩ | ⟨b,cap,cur,hv,_,hg,_⟩
  ·rw [hv,hn0]
   have:news=[]:=List.eq_nil_of_length_eq_zero (by rw [KZ.1,hn0];simp)
   subst this
   exact Src.slice Yy (by simp) (by simp) (by simp) (fun _=>rfl)
  ·rw [hv] at Ji ⊢
   exact Src.slice Yy Ji.1 ad9 (fun j v hj=>⟨_,rfl,Ji.cells (g:=b) rfl j v hj⟩) (by simp)
 have pJ:∀ b∈T2,(g.dD (Root.t q).holder T2').own b=none∧¬ g.aM b∧(C.W.heap.size≤b∨C.Fz b)∧b < w.heap.size:=by
  intro b hb'
  obtain ⟨o1,o2⟩:=af9 b hb'
  have:=S.own b _ o1
  refine ⟨?_,this.2.2,this.1,this.2.1⟩
  simp only [G.dD]
  rw [if_pos ⟨o1,o2⟩]
 have aga:∀ b∈A2,b∈T2:=fun b hb=>by rw [xc];simp [hb]
 have WR:A2.Nodup:=by rw [xc] at WQ;exact (List.nodup_append.1 WQ).2.1
 generalize hg1:g.dD (Root.t q).holder T2'=g1 at *
 have hp1:g1.aM=g.aM:=by rw [← hg1];rfl
 have hnews:aN g1.aM w news (es2.flatMap V.cells) A2:=by rw [hp1];exact hnews
 have pJ:∀ b∈A2,g1.own b=none∧¬ g1.aM b∧(C.W.heap.size≤b∨C.Fz b)∧b < w.heap.size:=fun b hb=>by rw [hp1];exact pJ b (aga b hb)
 have hb:(es.length+es2.length)*i.bytes≤140737488355328:=Nat.le_trans (Nat.mul_le_mul_right _ hsz) (Nat.div_mul_le_self _ _)
 have hm:es.length+es2.length≤maxLen:=Nat.le_trans hsz k3
 have exec:∀ v',∀ w',(Builtin.append_ c.argTypes o.type #[a.eval s,a.eval (.tmp q)]).run P w=.ok v' w'→(execOp a.eval o).run P w=.ok (.value v') w':=by
  intro v' w' hr
  unfold execOp
  simp only [ho,resolve,hc,ha,Sem.run_bind,Sem.run_pure,Result.andThen_ok,invoke,builtin,List.map_toArray,List.map_cons,List.map_nil,hr]
 rcases UD S1 hs with ⟨rfl,rfl,hv⟩ | ⟨qq,rfl,hp⟩
 ·
  obtain ⟨v',w',hr,how,hgr,hblk⟩:=xx (P:=P) w t tx o.type lu i z i.size i.bytes hu hi hz rfl rfl k1 (.slice none 0 0) 0 [] (World.ownsRow_nil w 0 lu i.size) (a.eval (.tmp q)) es2.length news hsrc (by simpa using hm) (by simpa using hb)
  refine fC (exec v' w' (by rw [hts,hv];exact hr)) ?_
  rw [hdd]
  simp only [Nat.zero_add,List.nil_append] at how
  have tT:dH es2 es':=by simpa using hfit
  have kZ:aS g1.aM w' v' (.row (some lu) i.size es') (v'.ownBlock.toList++A2):=by
   refine aS.own (tT.sizes ql) ((hnews.keep ⟨fun _ h=>h,fun b hb=>hgr.block b (S1.dJ b hb) (by simp [Value.ownBlock])⟩ (fun b hb=>hgr.block b (pJ b hb).2.2.2 (by simp [Value.ownBlock]))).fit tT.flat) hsrc.one ?_
   rw [← tT.length];exact how
  refine hn (g1.put d (v'.ownBlock.toList++A2) fun _=>False) _ _ ?_ (fun h=>by rw [ho] at h;simp [kg,hc] at h)
  show aI C _ ((e2.st.dD (.t q)).put d _) _ _
  rw [WO]
  have hbn:∀ b,v'.ownBlock=some b→b=w.heap.size:=fun b hb'=>by
   rcases (hblk b hb').1 with h1 | h1
   ·simp [Value.ownBlock] at h1
   ·exact h1
  refine S1.rQ (row:=none) hgr (by simp) hdN ?_ ?_ kZ
  ·refine List.nodup_append.2 ⟨by cases v'.ownBlock<;>simp,WR,fun b hb1 c hc1 e=>?_⟩
   subst e
   have:=hbn b (by simpa using hb1)
   have:=(pJ b hc1).2.2.2
   omega
  ·intro b hb'
   rcases List.mem_append.1 hb' with hb' | hb'
   ·have hb':v'.ownBlock=some b:=by simpa using hb'
    have hbw:=hbn b hb'
    have h2:=(hblk b hb').2
    subst hbw
    refine ⟨?_,?_,.inl S1.size,h2⟩
    ·cases ho':g1.own w.heap.size with
     | none=>rfl
     | some h'=>have:=(S1.own _ _ ho').2.1;omega
    ·intro hp';have:=S1.dJ _ hp';omega
   ·have:=pJ b hb'
    exact ⟨this.1,this.2.1,this.2.2.1,Nat.lt_of_lt_of_le this.2.2.2 hgr.size⟩
 ·
  obtain ⟨v,T,T',hpv,hR,gF,dB,KR,kw,S2⟩:=S1.take (F9 hp)
  obtain ⟨_,rR,_⟩:=ng S1 hp
  have hv:v=a.eval s:=by rw [hpv] at rR;exact Option.some.inj rR
  subst hv
  obtain ⟨xs,A,hT,h1,h2,h3,zl⟩:=nN hR
  obtain ⟨v',w',hr,how,hgr,hblk⟩:=xx (P:=P) w t tx o.type lu i z i.size i.bytes hu hi hz rfl rfl k1 (a.eval s) es.length xs zl (a.eval (.tmp q)) es2.length news hsrc hm hb
  refine fC (exec v' w' (by rw [hts];exact hr)) ?_
  rw [hdd]
  have rA:∀ b,g1.aM b→w'.heap[b]? = w.heap[b]?:=fun b hb'=>hgr.block b (S1.dJ b hb') (fun e=>by
   have jO:b∈T:=by rw [hT,← e];simp
   exact (S1.own b _ (dB b jO).1).2.2 hb')
  have AO:∀ b∈A,w'.heap[b]? = w.heap[b]?:=fun b hb'=>by
   have jO:b∈T:=by rw [hT];simp [hb']
   refine hgr.block b (S1.own b _ (dB b jO).1).2.1 (fun e=>?_)
   rw [hT] at gF
   exact (List.nodup_append.1 gF).2.2 b (by rw [← e];simp) b hb' rfl
  have hd2:∀ b∈A2,b∉T:=fun b hb1 hb2=>by
   have:=(dB b hb2).1
   rw [(pJ b hb1).1] at this
   cases this
  have agb:∀ b∈A2,w'.heap[b]? = w.heap[b]?:=fun b hb'=>hgr.block b (pJ b hb').2.2.2 (fun e=>hd2 b hb' (by rw [hT,← e];simp))
  have hfl:(es++es2).flatMap V.cells=es.flatMap V.cells++es2.flatMap V.cells:=by simp
  have hall:aN g1.aM w' (xs++news) (es'.flatMap V.cells) (A++A2):=by
   refine aN.fit (ds:=(es++es2).flatMap V.cells) ?_ hfit.flat
   rw [hfl]
   exact (h2.keep ⟨fun _ h=>h,rA⟩ AO).app (hnews.keep ⟨fun _ h=>h,rA⟩ agb)
  have kZ:aS g1.aM w' v' (.row (some lu) i.size es') (v'.ownBlock.toList++(A++A2)):=by
   refine aS.own (hfit.sizes (fun e he=>?_)) hall (fun u hu'=>?_) ?_
   ·rcases List.mem_append.1 he with he | he
    ·exact h1 e he
    ·exact ql e he
   ·rcases List.mem_append.1 hu' with hu' | hu'
    ·exact h3 u hu'
    ·exact hsrc.one u hu'
   ·rw [← hfit.length,List.length_append];exact how
  refine hn ((g1.dD qq.holder T').put d (v'.ownBlock.toList++(A++A2)) fun _=>False) _ _ ?_ (fun h=>by rw [ho] at h;simp [kg,hc] at h)
  show aI C _ (((e2.st.dD (.t q)).dD qq).put d _) _ _
  rw [WO]
  have hfree:∀ b∈T,(g1.dD qq.holder T').own b=none∧¬ g1.aM b∧(C.W.heap.size≤b∨C.Fz b)∧b < w.heap.size:=by
   intro b hb'
   obtain ⟨o1,o2⟩:=dB b hb'
   have:=S1.own b _ o1
   refine ⟨?_,this.2.2,this.1,this.2.1⟩
   simp only [G.dD]
   rw [if_pos ⟨o1,o2⟩]
  have aci:∀ b∈A2,(g1.dD qq.holder T').own b=none:=fun b hb'=>by
   simp only [G.dD]
   split
   ·rfl
   ·exact (pJ b hb').1
  have hnew:(g1.dD qq.holder T').own w.heap.size=none:=by
   simp only [G.dD]
   split
   ·rfl
   ·cases ho':g1.own w.heap.size with
    | none=>rfl
    | some h'=>have:=(S1.own _ _ ho').2.1;omega
  have xe:T=(a.eval s).ownBlock.toList++A:=hT
  have K3:=gF
  rw [xe] at K3
  refine S2.rQ (row:=(a.eval s).ownBlock) hgr (fun b hb'=>?_) hdN ?_ ?_ kZ
  ·have:=hfree b (by rw [hT,hb'];simp)
   exact ⟨this.1,this.2.1,this.2.2.1⟩
  ·refine List.nodup_append.2 ⟨by cases v'.ownBlock<;>simp,List.nodup_append.2 ⟨(List.nodup_append.1 K3).2.1,WR,fun b hb1 c hc1 e=>?_⟩,fun b hb1 c hc1 e=>?_⟩
   ·subst e
    exact hd2 b hc1 (by rw [xe];simp [hb1])
   ·subst e
    have hb1:v'.ownBlock=some b:=by simpa using hb1
    rcases (hblk b hb1).1 with h5 | h5
    ·rcases List.mem_append.1 hc1 with hc1 | hc1
     ·exact (List.nodup_append.1 K3).2.2 b (by rw [h5];simp) b hc1 rfl
     ·exact hd2 b hc1 (by rw [xe,h5];simp)
    ·rcases List.mem_append.1 hc1 with hc1 | hc1
     ·have:=(hfree b (by rw [xe];simp [hc1])).2.2.2;omega
     ·have:=(pJ b hc1).2.2.2;omega
  ·intro b hb'
   rcases List.mem_append.1 hb' with hb' | hb'
   ·have hb':v'.ownBlock=some b:=by simpa using hb'
    obtain ⟨h5,h6⟩:=hblk b hb'
    rcases h5 with h5 | h5
    ·have:=hfree b (by rw [xe,h5];simp)
     exact ⟨this.1,this.2.1,this.2.2.1,h6⟩
    ·subst h5
     exact ⟨hnew,fun hp'=>by have:=S1.dJ _ hp';omega,.inl S1.size,h6⟩
   ·rcases List.mem_append.1 hb' with hb' | hb'
    ·have:=hfree b (by rw [xe];simp [hb'])
     exact ⟨this.1,this.2.1,this.2.2.1,Nat.lt_of_lt_of_le this.2.2.2 hgr.size⟩
    ·have:=pJ b hb'
     exact ⟨aci b hb',this.2.1,this.2.2.1,Nat.lt_of_lt_of_le this.2.2.2 hgr.size⟩
end
end Go.Rf
end
section
namespace Go.Rf
open Go.RowKit
set_option linter.unusedVariables false
set_option linter.unusedSimpArgs false
variable [cO]
section
variable {P:Program} {C:Ctx}
def Cr (N:Nat) (o:Oper) (x:Operand) (e:E):Option E :=
 match dN N o with
 | none=>none
 | some d=>match x with
  | .tmp t=>match look e.st.env t with
   | some (.d (.v (.pt cs)))=>some (e.put d (.pt cs))
   | some (.d (.ptr i f))=>some { e with st:=e.st.put d (.d (.ptr i f)) }
   | some (.pa r sz i j)=>match (X.pa r sz i j).kill (di d) with
    | .pa _ _ _ _=>some { e with st:=e.st.put d (.pa r sz i j) }
    | _=>none
   | _=>none
  | _=>none
theorem abm {o:Oper} {x:Operand} {e e':E} (ho:o.op=.nilCheck x) (h:Cr C.N o x e=some e'):bD P C o e e':=by
 unfold Cr at h
 split at h
 ·cases h
 rename_i d hd
 obtain ⟨hdd,hdN⟩:=fK hd
 split at h
 ·rename_i t
  have run:∀ {a:Act} {w:World} {q:Addr},a.eval (.tmp t)=.pointer (some q)→(execOp a.eval o).run P w=.ok (.value (.pointer (some q))) w:=by
   intro a w q hx
   unfold execOp
   simp only [ho,hx,Sem.run_pure]
  split at h
  ·rename_i cs hl
   cases h
   refine bD.vv hd id fun _ g a w S=>?_
   obtain ⟨_,h2,_⟩:=S.env t _ hl
   have h2:=aV.inv h2
   have h3:=h2.bM rfl
   rw [h3] at h2
   refine ⟨a.tmps.getD t undef,g,S,?_,h2⟩
   generalize hv:a.tmps.getD t undef=v at h2
   cases h2
   exact run hv
  ·rename_i i f hl
   cases h
   refine fun hA=>⟨hA,fun g a w S next Q hn=>?_⟩
   obtain ⟨_,h2,_⟩:=S.env t _ hl
   have h2:aV g w (a.tmps.getD t undef) (.ptr i f) (g.TE t):=h2
   have h3:=h2.bM rfl
   rw [h3] at h2
   have h2':=h2
   generalize hv:a.tmps.getD t undef=v at h2
   cases h2 with
   | ptr hid =>
    refine fC (run hv) ?_
    rw [hdd]
    rw [hv] at h2'
    exact hn _ _ _ (S.iL (Calm.refl w) hdN h2') (fun _=>Calm.refl w)
  ·rename_i r sz i j hl
   split at h
   ·rename_i hk
    cases h
    have hk:(X.pa r sz i j).kill (di d)=.pa r sz i j:=by
     rcases X.iQ (di d) (X.pa r sz i j) with h | h
     ·rw [h] at hk;cases hk
     ·exact h.1
    refine fun hA=>⟨hA,fun g a w S next Q hn=>?_⟩
    obtain ⟨h1,⟨_,h2⟩,h3⟩:=S.env t _ hl
    obtain ⟨b,_,_,h5⟩:=h2
    refine fC (run h5) ?_
    rw [hdd,← h5]
    exact hn _ _ _ (S.uu hdN hk (by simp) ⟨rfl,⟨b,by assumption,by assumption,h5⟩⟩ (by simp)) (fun _=>Calm.refl w)
   ·cases h
  ·cases h
 ·cases h
def IJ (P:Program) (N:Nat) (o:Oper) (ts:Array TypeId) (x:Operand) (e:E):Option E :=
 match dN N o with
 | none=>none
 | some d=>match mg e.st x with
  | some (_,.nil _ _)=>match ts[0]? with
   | some t=>match P.underlying t with
    | some (.slice _)=>some (e.put d (.lit (.int .i64 0)))
    | _=>none
   | none=>none
  | _=>none
theorem aaG {o:Oper} {c:Call} {x:Operand} {e e':E} (ho:o.op=.call c) (hc:c.callee=.builtin .len) (ha:c.args = #[x]) (h:IJ P C.N o c.argTypes x e=some e'):bD P C o e e':=by
 unfold IJ at h
 split at h
 ·cases h
 rename_i d hd
 split at h
 ·rename_i r el sz hp
  split at h
  ·rename_i t ht
   split at h
   ·rename_i el' hu
    cases h
    refine bD.vv hd id fun _ g a w S=>⟨.int .i64 0,g,S,?_,.lit _⟩
    obtain ⟨T,_,hr,_⟩:=ng S hp
    have hv:a.eval x=.slice none 0 0:=by generalize a.eval x=v at hr;cases hr;rfl
    unfold execOp
    simp only [ho,resolve,hc,ha,Sem.run_bind,Sem.run_pure,Result.andThen_ok,invoke,builtin,List.map_toArray,List.map_cons,List.map_nil,hv,Builtin.len_,ht,List.getElem?_toArray,List.getElem?_cons_zero,run_underlying hu,goInt]
    rfl
   ·cases h
  ·cases h
 ·cases h
def VC (v:Bool) (a b:Operand):Operand:=match v with
 | true=>a
 | false=>b
def IK (N:Nat) (o:Oper) (c a b:Operand) (e:E):Option E :=
 match c with
 | .tmp t=>match look e.st.env t with
  | some (.d (.v (.kb v)))=>match dN N o with
   | some d=>match val (VC v a b) e with
    | some (u,e)=>some (e.put d u)
    | none=>none
   | none=>none
  | _=>nR N o [c,a,b] yg e
 | _=>nR N o [c,a,b] yg e
theorem aaH {o:Oper} {c x y:Operand} {e e':E} (ho:o.op=.pick c x y) (h:IK C.N o c x y e=some e'):bD P C o e e':=by
 have lit:∀ {c},o.op=.pick c x y→nR C.N o [c,x,y] yg e=some e'→bD P C o e e':=fun ho h=>qV h fun vs v obs hf hA ρ w hρ=>abb ho hf ρ w hρ
 unfold IK at h
 split at h
 ·rename_i t
  split at h
  ·rename_i v hl
   split at h
   ·rename_i d hd
    split at h
    ·rename_i u e1 hv
     cases h
     intro hA
     obtain ⟨hdd,hdN⟩:=fK hd
     obtain ⟨h0,k⟩:=val_ok (C:=C) hv hA
     refine ⟨h0,fun g a w S next Q hn=>?_⟩
     obtain ⟨g1,k1,S1,r1⟩:=k g a w S
     have hc:a.eval (.tmp t)=.bool v:=aV.kb (S.env t _ hl).2.1
     refine fC (v:=a.eval (VC v x y)) (w':=w) ?_ ?_
     ·unfold execOp
      simp only [ho,hc,asBool,Sem.run_bind,Sem.run_pure,Result.andThen_ok]
      cases v<;>rfl
     ·rw [hdd]
      exact hn _ _ _ (S1.iL (Calm.refl w) hdN (.v r1)) (fun _=>Calm.refl w)
    ·cases h
   ·cases h
  ·exact lit ho h
 ·exact lit ho h
def aea (e:E) (s:Operand):Bool:=match s with
 | .tmp q=>match look e.st.env q with
  | some (.al (.jf _ _ _ _))=>true
  | _=>false
 | _=>false
def Ia (P:Program) (N:Nat) (o:Oper) (c:Call) (e:E):Option E:=match c.callee with
 | .builtin .len=>match c.args.toList with
  | [x]=>match mg e.st x with
   | some (_,.row _ _ _)=>yh P N o c.argTypes x e
   | some (_,.nil _ _)=>IJ P N o c.argTypes x e
   | _=>nR N o c.args.toList (vS P .len c.argTypes o.type) e
  | _=>none
 | .builtin .append=>match c.args.toList with
  | [s,x]=>match aea e s with
   | true=>Ga P N o c.argTypes s x e
   | false=>match GI P N o c.argTypes s x e with
    | some e'=>some e'
    | none=>Gg P N o c.argTypes s x e
  | _=>none
 | .builtin b=>nR N o c.args.toList (vS P b c.argTypes o.type) e
 | .value f=>match Jg e c.args.toList with
  | true=>match kg P o.op with
   | false=>H7 N P o f c.args.toList e
   | true=>none
  | false=>IG N P o f c.args.toList e
 | _=>none
def FQ (N:Nat) (o:Oper) (fn:Fn) (first captured:List Operand) (e:E):Option E :=
 match dN N o with
 | none=>none
 | some d=>match fn,first with
  | .func f,[]=>match vals captured e with
   | some (us,e)=>some (e.put d (.gX f us))
   | none=>none
  | _,_=>none
theorem Y5 {o:Oper} {fn:Fn} {first captured:Array Operand} {e e':E} (ho:o.op=.makeFunc fn first captured) (h:FQ C.N o fn first.toList captured.toList e=some e'):bD P C o e e':=by
 unfold FQ at h
 split at h
 ·cases h
 rename_i d hd
 split at h
 ·rename_i f hf
  split at h
  ·rename_i us e1 hv
   cases h
   refine bD.su hd hv rfl (fun h=>h) fun hA ρ w p hr=>?_
   refine ⟨.func (.func f) #[] (captured.map ρ),?_,?_⟩
   ·have h0:first = #[]:=by rw [← Array.toArray_toList (xs:=first),hf]
    unfold execOp
    simp only [ho,h0,Instr.makeFunc,Sem.run_bind,Sem.run_pure,Result.andThen_ok,Array.map_empty,List.map_toArray,List.map_nil]
   ·have:captured.map ρ=(captured.toList.map ρ).toArray:=by apply Array.ext';rw [Array.toList_map]
    rw [this]
    exact .gX hr
  ·cases h
 ·cases h
def p8 (P:Program) (N:Nat) (o:Oper) (e:E):Option E:=match o.op with
 | .move x=>BU P N o false x e
 | .assign x=>BU P N o true x e
 | .binOp op t x y _=>match P.underlying t with
  | some (.struct _)=>Jh P N o op t x y e
  | _=>nR N o [x,y] (Di P op t x y) e
 | .unOp op _ x=>nR N o [x] (QQ P op) e
 | .pick c a b=>IK N o c a b e
 | .convert s t x=>match P.underlying s,P.underlying t with
  | some (.slice _),some .string=>Jc P N o s t x e
  | some .string,some (.slice _)=>Hy P N o s t x e
  | _,_=>nR N o [x] (Ck P s t) e
 | .index t x i=>nR N o [x,i] (EY P t) e
 | .slice t x lo hi none=>match P.underlying t with
  | some .string=>nR N o (x :: (lo.toList++hi.toList)) (EZ P t lo.isSome hi.isSome) e
  | _=>Jd P N o t x lo hi e
 | .indexAddr t x i=>match P.underlying t with
  | some (.array _ _)=>GL P N o t x i e
  | _=>Hr P N o t x i e
 | .fieldAddr s x f=>Ht P N o s x f e
 | .load t x=>match x with
  | .tmp s=>match look e.st.env s with
   | some (.d (.ptr _ _))=>match HY P N o t s e with
    | some e'=>some e'
    | none=>HZ P N o t s e
   | _=>IB P N o t x e
  | _=>none
 | .store t x y=>match x with
  | .tmp s=>match look e.st.env s with
   | some (.pa _ _ _ _)=>GR P o t s y e
   | _=>match adj e y with
    | true=>GV P o t s y e
    | false=>GM P o t s y e
  | _=>none
 | .box t x=>Je P N o t x e
 | .alloc t=>Hz P N o t e
 | .field t x f=>Hu P N o t x f e
 | .extract x i=>match adf e x i with
  | true=>FN N o x i e
  | false=>F8 N o x i e
 | .build t parts=>Hw P N o t parts.toList e
 | .buildSlice t len parts=>match hint e with
  | some (.aC [],e1)=>Gf P N o t len parts.toList e1
  | _=>GH P N o t len parts.toList e
 | .makeSlice t l c=>GK P N o t l c e
 | .call c=>Ia P N o c e
 | .nilCheck x=>Cr N o x e
 | .makeFunc fn first captured=>FQ N o fn first.toList captured.toList e
 | .range t x=>H8 P N o t x e
 | .next x s=>II N o x s e
 | _=>none
theorem K4 {α:Type} {a:Array α} {x:α} (h:a.toList=[x]):a = #[x]:=by rw [← Array.toArray_toList (xs:=a),h]
theorem K5 {α:Type} {a:Array α} {x y:α} (h:a.toList=[x,y]):a = #[x,y]:=by rw [← Array.toArray_toList (xs:=a),h]
theorem Z9 {o:Oper} {c:Call} {e e':E} (ho:o.op=.call c) (h:Ia P C.N o c e=some e'):bD P C o e e':=by
 unfold Ia at h
 split at h
 ·rename_i hc
  split at h
  ·rename_i x hx
   split at h
   ·exact TJ ho hc (K4 hx) h
   ·exact aaG ho hc (K4 hx) h
   ·exact qV h fun vs v obs hf hA ρ w hρ=>BF ho hc hf ρ w hρ
  ·cases h
 ·rename_i hc
  split at h
  ·rename_i s x hx
   split at h
   ·exact Zj ho hc (K5 hx) h
   ·split at h
    ·rename_i h1
     cases h
     exact Zy ho hc (K5 hx) h1
    ·exact Zl ho hc (K5 hx) h
  ·cases h
 ·rename_i b hc _ _
  exact qV h fun vs v obs hf hA ρ w hρ=>BF ho ‹_› hf ρ w hρ
 ·rename_i f hc
  split at h
  ·split at h
   ·exact Z7 ho hc h ‹_›
   ·cases h
  ·exact aaE ho hc h
 ·cases h
theorem q9 {o:Oper} {e e':E} (h:p8 P C.N o e=some e'):bD P C o e e':=by
 unfold p8 at h
 split at h
 ·exact SV (.inl ‹_›) h
 ·exact SV (.inr ‹_›) h
 ·split at h
  ·exact abl ‹_› h
  ·exact qV h fun vs v obs hf hA ρ w hρ=>Uw ‹_› hf hA ρ w hρ
 ·exact qV h fun vs v obs hf hA ρ w hρ=>U8 ‹_› hf ρ w hρ
 ·exact aaH ‹_› h
 ·split at h
  ·exact abg ‹_› h
  ·exact ZZ ‹_› h
  ·exact qV h fun vs v obs hf hA ρ w hρ=>TI ‹_› hf hA ρ w hρ
 ·exact qV h fun vs v obs hf hA ρ w hρ=>U9 ‹_› hf hA ρ w hρ
 ·split at h
  ·exact qV h fun vs v obs hf hA ρ w hρ=>Va ‹_› hf hA ρ w hρ
  ·exact abh ‹_› h
 ·split at h
  ·exact ZB ‹_› h
  ·exact ZU ‹_› h
 ·exact ZV ‹_› h
 ·split at h
  ·split at h
   ·split at h
    ·rename_i hb
     cases h
     exact Z4 ‹_› hb
    ·exact Z5 ‹_› h
   ·exact aaB ‹_› h
  ·cases h
 ·split at h
  ·split at h
   ·exact ZE ‹_› h
   ·split at h
    ·exact ZG ‹_› h
    ·exact ZC ‹_› h
  ·cases h
 ·exact abj ‹_› h
 ·exact Z0 ‹_› h
 ·exact ZW ‹_› h
 ·split at h
  ·exact Y4 ‹_› h
  ·exact Zh ‹_› h
 ·exact ZX ‹_› h
 ·split at h
  ·rename_i e1 hh
   obtain ⟨q1,q2⟩:=ik hh
   have:=Zk (C:=C) ‹_› h
   unfold bD at this ⊢
   rw [q1,q2] at this
   exact this
  ·exact Zx ‹_› h
 ·exact ZA ‹_› h
 ·exact Z9 ‹_› h
 ·exact abm ‹_› h
 ·exact Y5 ‹_› h
 ·exact Z8 ‹_› h
 ·rename_i ho;exact aaF ho h (by rw [ho];rfl)
 ·cases h
def vE (N:Nat) (o:Oper) (e:E):Option E:=match o.dst with
 | none=>some e
 | some _=>match dN N o with
  | some d=>some (e.put d (.lit undef))
  | none=>none
def vw (ops:Array Oper) (j:Nat):Option Nat:=match ops[j]? with
 | some o=>o.dst
 | none=>none
def zt (P:Program) (N:Nat) (ops:Array Oper) (o:Oper) (e:E):Option E:=match o.guard with
 | none=>p8 P N o e
 | some (j,want)=>match vw ops j with
  | some d=>match look e.st.env d with
   | some (.d (.v (.kb v)))=>match v == want with
    | true=>p8 P N o e
    | false=>vE N o e
   | some (.d (.v (.lit (.bool b))))=>match hint e with
    | some (.lit (.bool v),e)=>match v == want with
     | true=>p8 P N o { need (b=v) e with st:=e.st.kr d (.d (.v (.kb v))) }
     | false=>vE N o { need (b=v) e with st:=e.st.kr d (.d (.v (.kb v))) }
    | _=>none
   | some (.d (.v (.lit (.tuple t))))=>match Nat.beq t.size 0 with
    | true=>vE N o e
    | false=>none
   | _=>none
  | none=>none
def VD:List (Nat × V)→Nat→Option V
 | [],_=>none
 | (k,v) :: l,t=>match Nat.beq t k with
  | true=>some v
  | false=>VD l t
def qD (N:Nat) (o:Oper) (e:E):E:=match e.fx with
 | []=>e
 | _ :: _=>match dN N o with
  | none=>e
  | some d=>match VD e.fx d with
   | none=>e
   | some u=>match look e.st.env d with
    | some (.d (.v x))=>{ need (Fit x u) e with st:={ e.st with env:=(d,.d (.v u)) :: e.st.env } }
    | _=>e
def jc (P:Program) (N:Nat) (ops:Array Oper):List Nat→E→Option E
 | [],e=>some e
 | i :: l,e=>match ops[i]? with
  | none=>none
  | some o=>match zt P N ops o e with
   | none=>none
   | some e=>jc P N ops l (qD N o e)
theorem acj (N:Nat) (o:Oper) (e:E):qD N o e=e∨∃ d x u,look e.st.env d=some (.d (.v x))∧qD N o e={ need (Fit x u) e with st:={ e.st with env:=(d,.d (.v u)) :: e.st.env } }:=by
 unfold qD
 split
 ·exact .inl rfl
 ·split
  ·exact .inl rfl
  ·split
   ·exact .inl rfl
   ·split
    ·rename_i d _ _ u _ _ x h
     exact .inr ⟨d,x,u,h,rfl⟩
    ·exact .inl rfl
theorem xP {P:Program} {C:Ctx} {o:Oper} {e:E} (hA:All (qD C.N o e).ob):All e.ob∧∀ g a w,aI C g e.st a w→aI C g (qD C.N o e).st a w:=by
 rcases acj C.N o e with h | ⟨d,x,u,h4,h⟩
 ·rw [h] at hA ⊢;exact ⟨hA,fun _ _ _ S=>S⟩
 ·rw [h] at hA ⊢
  obtain ⟨hA1,hf⟩:=All.snoc (l:=e.ob) hA
  refine ⟨hA1,fun g a w S=>?_⟩
  obtain ⟨k1,k2,k3⟩:=S.env d _ h4
  refine S.change (fun _=>False) S.defers S.tmps rfl rfl rfl (Nat.le_refl _) (fun _ h=>h) (fun _ h=>.inl h) S.dJ S.n (Nat.le_refl _) (fun _ _=>rfl) (fun _ _ _=>rfl)
   (fun b h ho _=>ho) (fun t _=>⟨rfl,rfl⟩) (fun i _=>⟨rfl,rfl⟩) (fun t y hy=>?_) (fun id b _ h=>h.elim) (fun t h=>h.elim) (fun i h=>h.elim) (fun b h ho=>.inl ⟨ho,(S.own b h ho).2.2⟩)
  simp only [look] at hy
  cases hb:Nat.beq t d with
  | true =>
   rw [hb] at hy
   cases hy
   have:=Nat.eq_of_beq_eq_true hb
   subst this
   exact .inr ⟨k1,.v ((aV.inv k2).fit hf),k3⟩
  | false =>
   rw [hb] at hy
   exact .inl ⟨fun h=>h,.inl ⟨hy,fun _ _ h=>h⟩⟩
def WOk (P:Program) (C:Ctx) (ops:Array Oper) (o:Oper) (e e':E):Prop :=
 All e'.ob→All e.ob∧∀ g a w,aI C g e.st a w→∀ (next:Act→World→Prop) (Q:Exit→Act→World→Prop),(∀ g' a' w',aI C g' e'.st a' w'→(kg P o.op=true→Calm w w')→next a' w') →
  (if Region.wanted o (yielded ops a.tmps) then o.wp P a w next Q∨(o.asks P a w∧LetsOut Q) else next (a.put o.dst undef) w)
theorem aI.known {g:G} {st:St} {a:Act} {w:World} (S:aI C g st a w) {d:Nat} {b:Bool} (h:look st.env d=some (.d (.v (.lit (.bool b))))):aI C g (st.kr d (.d (.v (.kb b)))) a w:=by
 obtain ⟨h1,h2,h3⟩:=S.env d _ h
 have hv:=aV.lit h2
 have hT:g.TE d=[]:=by
  have h2:aV g w (a.tmps.getD d undef) (.v (.lit (.bool b))) (g.TE d):=h2
  exact h2.bM rfl
 refine S.change (fun _=>False) S.defers S.tmps rfl rfl rfl (Nat.le_refl _) (fun _ h=>h) (fun _ h=>.inl h) S.dJ S.n (Nat.le_refl _) (fun _ _=>rfl) (fun _ _ _=>rfl)
  (fun b h ho _=>ho) (fun t _=>⟨rfl,rfl⟩) (fun i _=>⟨rfl,rfl⟩) (fun t x hx=>?_) (fun id b _ h=>h.elim) (fun t h=>h.elim) (fun i h=>h.elim) (fun b h ho=>.inl ⟨ho,(S.own b h ho).2.2⟩)
 simp only [St.kr,look] at hx
 cases hb:Nat.beq t d with
 | true =>
  have:=Nat.eq_of_beq_eq_true hb
  subst this
  rw [hb] at hx
  cases hx
  refine .inr ⟨h1,?_,h3⟩
  rw [hv,hT]
  exact .v (.kb b)
 | false =>
  rw [hb] at hx
  simp only [FL] at hx
  cases hl:look st.env t with
  | none=>rw [hl] at hx;cases hx
  | some z =>
   rw [hl] at hx
   simp only [Option.map_some,Option.some.injEq] at hx
   rcases X.R4 (di d) z with h | h
   ·exact .inl ⟨fun h=>h,.inr ⟨by rw [← hx,h],z,rfl⟩⟩
   ·rw [h] at hx
    subst hx
    exact .inl ⟨fun h=>h,.inl ⟨rfl,fun _ _ h=>h⟩⟩
theorem xI {ops:Array Oper} {g:G} {st:St} {a:Act} {w:World} (S:aI C g st a w) {j d:Nat} (hd:vw ops j=some d) {x:X} (hl:look st.env d=some x) {b:Bool} (hv:a.tmps.getD d undef=.bool b):yielded ops a.tmps j=some b:=by
 obtain ⟨h1,_,_⟩:=S.env d _ hl
 have hlt:d < a.tmps.size:=by rw [S.tmps];exact h1
 have:a.tmps[d]? = some (.bool b):=by
  rw [Array.getD_eq_getD_getElem?,Array.getElem?_eq_getElem hlt] at hv
  rw [Array.getElem?_eq_getElem hlt]
  exact congrArg some hv
 unfold vw at hd
 split at hd
 ·rename_i oj hoj
  simp [yielded,hoj,hd,this]
 ·cases hd
theorem BH {ops:Array Oper} {o:Oper} {e e':E} (h:vE C.N o e=some e'):All e'.ob→All e.ob∧∀ g a w,aI C g e.st a w→Region.wanted o (yielded ops a.tmps)=false→∀ (next:Act→World→Prop) (Q:Exit→Act→World→Prop),(∀ g' a' w',aI C g' e'.st a' w'→(kg P o.op=true→Calm w w')→next a' w') →
 (if Region.wanted o (yielded ops a.tmps) then o.wp P a w next Q∨(o.asks P a w∧LetsOut Q) else next (a.put o.dst undef) w):=by
 intro hA
 unfold vE at h
 split at h
 ·rename_i hd
  cases h
  refine ⟨hA,fun g a w S hno next Q hn=>?_⟩
  rw [if_neg (by rw [hno];simp),hd]
  exact hn g a w S (fun _=>Calm.refl w)
 ·split at h
  ·rename_i d hd
   cases h
   obtain ⟨hdd,hdN⟩:=fK hd
   refine ⟨hA,fun g a w S hno next Q hn=>?_⟩
   rw [if_neg (by rw [hno];simp),hdd]
   exact hn _ _ _ (S.iL (Calm.refl w) hdN (.v (.lit _))) (fun _=>Calm.refl w)
  ·cases h
theorem UH {ops:Array Oper} {o:Oper} {e e':E} (h:zt P C.N ops o e=some e'):WOk P C ops o e e':=by
 unfold zt at h
 split at h
 ·rename_i hg
  intro hA
  obtain ⟨h0,k⟩:=q9 (C:=C) h hA
  refine ⟨h0,fun g a w S next Q hn=>?_⟩
  rw [if_pos (by simp [Region.wanted,hg])]
  exact .inl (k g a w S next Q hn)
 ·rename_i j want hg
  have wt:∀ {a:Act} {v:Bool},yielded ops a.tmps j=some v→(v == want)=true→Region.wanted o (yielded ops a.tmps)=true:=by
   intro a v hy hv
   have:=eq_of_beq hv
   simp [Region.wanted,hg,hy,this]
  have wf:∀ {a:Act} {v:Bool},yielded ops a.tmps j=some v→(v == want)=false→Region.wanted o (yielded ops a.tmps)=false:=by
   intro a v hy hv
   simp only [Region.wanted,hg,hy]
   cases v<;>cases want<;>simp_all
  split at h
  ·rename_i d hd
   split at h
   ·rename_i v hl
    split at h
    ·rename_i hvw
     intro hA
     obtain ⟨h0,k⟩:=q9 (C:=C) h hA
     refine ⟨h0,fun g a w S next Q hn=>?_⟩
     have hy:=xI S hd hl (aV.kb (S.env d _ hl).2.1)
     rw [if_pos (wt hy hvw)]
     exact .inl (k g a w S next Q hn)
    ·rename_i hvw
     intro hA
     obtain ⟨h0,k⟩:=BH (P:=P) (C:=C) (ops:=ops) h hA
     refine ⟨h0,fun g a w S next Q hn=>?_⟩
     have hy:=xI S hd hl (aV.kb (S.env d _ hl).2.1)
     exact k g a w S (wf hy hvw) next Q hn
   ·rename_i b hl
    split at h
    ·rename_i v e1 hh
     obtain ⟨q1,q2⟩:=ik hh
     split at h
     ·rename_i hvw
      intro hA
      obtain ⟨hA,k⟩:=q9 (C:=C) h hA
      obtain ⟨hA1,hbv⟩:=All.snoc (l:=e1.ob) hA
      subst hbv
      refine ⟨q1 ▸ hA1,fun g a w S next Q hn=>?_⟩
      have hy:=xI S hd hl (aV.lit (S.env d _ hl).2.1)
      rw [if_pos (wt hy hvw)]
      refine .inl (k g a w ?_ next Q hn)
      show aI C g (e1.st.kr d _) a w
      rw [q2]
      exact S.known hl
     ·rename_i hvw
      intro hA
      obtain ⟨hA,k⟩:=BH (P:=P) (C:=C) (ops:=ops) h hA
      obtain ⟨hA1,hbv⟩:=All.snoc (l:=e1.ob) hA
      subst hbv
      refine ⟨q1 ▸ hA1,fun g a w S next Q hn=>?_⟩
      have hy:=xI S hd hl (aV.lit (S.env d _ hl).2.1)
      refine k g a w ?_ (wf hy hvw) next Q hn
      show aI C g (e1.st.kr d _) a w
      rw [q2]
      exact S.known hl
    ·cases h
   ·rename_i t hl
    split at h
    ·rename_i ht
     intro hA
     obtain ⟨h0,k⟩:=BH (P:=P) (C:=C) (ops:=ops) h hA
     refine ⟨h0,fun g a w S next Q hn=>k g a w S ?_ next Q hn⟩
     have hv:=aV.lit (S.env d _ hl).2.1
     unfold vw at hd
     split at hd
     ·rename_i oj hoj
      have:yielded ops a.tmps j=none:=by
       simp only [yielded,hoj,Option.bind_some,hd]
       obtain ⟨h1,_,_⟩:=S.env d _ hl
       have hlt:d < a.tmps.size:=by rw [S.tmps];exact h1
       rw [Array.getD_eq_getD_getElem?,Array.getElem?_eq_getElem hlt] at hv
       rw [Array.getElem?_eq_getElem hlt]
       simp only [Option.getD_some] at hv
       simp only [hv]
      simp [Region.wanted,hg,this]
     ·cases hd
    ·cases h
   ·cases h
  ·cases h
theorem TP {ops:Array Oper}:∀ {l:List Nat} {e e':E},jc P C.N ops l e=some e'→All e'.ob→All e.ob∧∀ g a w,aI C g e.st a w→∀ (Q:Exit→Act→World→Prop),(∀ g' a' w',aI C g' e'.st a' w'→Q .normal a' w')→wpOps P ops Q l a w
 | [],e,e',h,hA=>by
  cases h
  exact ⟨hA,fun g a w S Q hn=>hn g a w S⟩
 | i :: l,e,e',h,hA=>by
  simp only [jc] at h
  cases hoi:ops[i]? with
  | none=>rw [hoi] at h;cases h
  | some o =>
   rw [hoi] at h
   simp only at h
   cases h1:zt P C.N ops o e with
   | none=>rw [h1] at h;cases h
   | some e1 =>
    rw [h1] at h
    obtain ⟨hA1,k2⟩:=TP (l:=l) h hA
    obtain ⟨hA2,k3⟩:=xP (P:=P) (C:=C) hA1
    obtain ⟨oh,k1⟩:=UH (C:=C) h1 hA2
    refine ⟨oh,fun g a w S Q hn=>?_⟩
    have:=k1 g a w S (wpOps P ops Q l) Q (fun g' a' w' S' _=>k2 g' a' w' (k3 g' a' w' S') Q hn)
    simp only [wpOps,hoi]
    exact this
def qE:Option E→St
 | some e=>e.st
 | none=>default
def uA:Option E→Option (List Prop)
 | some e=>some e.ob
 | none=>none
theorem Good.WS {Q:Exit→St→Prop} {st:St} {id N:Nat} {ops:Array Oper} {obs:List Prop} (hN:C.N=N) (hs:List V) (hA:All obs) (rw:List (Nat × Value)) (fx:List (Nat × V)) (h:uA (jc P N ops (List.range ops.size) ⟨hs,[],st,rw,fx⟩)=some obs)
 (k:Q .normal (qE (jc P N ops (List.range ops.size) ⟨hs,[],st,rw,fx⟩))):Good P C (.region id ops false) Q st:=by
 subst hN
 intro g a w S
 cases he:jc P C.N ops (List.range ops.size) ⟨hs,[],st,rw,fx⟩ with
 | none=>rw [he] at h;cases h
 | some e' =>
  rw [he] at h k
  cases h
  obtain ⟨_,key⟩:=TP (C:=C) he hA
  exact wp_region (key g a w S _ fun g' a' w' S'=>⟨g',e'.st,S',k⟩)
theorem Good.reg {Q:Exit→St→Prop} {st:St} {id N:Nat} {ops:Array Oper} {obs:List Prop} (hN:C.N=N) (hs:List V) (hA:All obs) (rw:List (Nat × Value)) (h:uA (jc P N ops (List.range ops.size) ⟨hs,[],st,rw,[]⟩)=some obs)
 (k:Q .normal (qE (jc P N ops (List.range ops.size) ⟨hs,[],st,rw,[]⟩))):Good P C (.region id ops false) Q st:=Good.WS hN hs hA rw [] h k
end
end Go.Rf
end
section
namespace Go.Rf
open Go.RowKit
set_option linter.unusedVariables false
set_option linter.unusedSimpArgs false
variable [cO]
def zu:Nat→List V→List (Nat × X)
 | _,[]=>[]
 | i,u :: us=>(i,.d (.v u)) :: zu (i+1) us
def enter (us:List V):St:={ env:=zu 0 us,box:=[] }
theorem TQ:∀ {us:List V} {k t:Nat} {x:X},look (zu k us) t=some x→∃ u,us[t - k]? = some u∧k≤t∧x=.d (.v u)
 | [],_,_,_,h=>by simp [zu,look] at h
 | u :: us,k,t,x,h=>by
  simp only [zu,look] at h
  cases hb:Nat.beq t k with
  | true =>
   rw [hb] at h
   have:=Nat.eq_of_beq_eq_true hb
   subst this
   cases h
   exact ⟨u,by simp,Nat.le_refl _,rfl⟩
  | false =>
   rw [hb] at h
   obtain ⟨v,h1,h2,h3⟩:=TQ h
   refine ⟨v,?_,by omega,h3⟩
   rw [show t - k=(t - (k+1))+1 by omega,List.getElem?_cons_succ]
   exact h1
def Jj (P:Program) (st:St) (q:Nat) (t:TypeId):Option (Option Root × V):=match look st.env q with
 | some (.d (.ptr id off))=>match st.box[id]? with
  | some (.cells cs)=>match tV P t (cs.drop off) with
   | some (.v u)=>some (none,u)
   | some (.d (.v u))=>match u.bM with
    | true=>some (none,u)
    | false=>none
   | some .own=>match iT st (.b id off) with
    | some u=>some (some (.b id off),u)
    | none=>none
   | _=>none
  | _=>none
 | _=>none
def K6 (P:Program) (st:St) (q:Nat) (t:TypeId):Option (Option Root × V):=match look st.env q with
 | some (.d (.ptr id off))=>match Nat.beq off 0 with
  | true=>match st.box[id]? with
   | some (.cells cs)=>match rP P t with
    | some true=>match gy P t with
     | some n=>match Nat.beq n cs.length with
      | true=>match ku cs with
       | some us=>some (some (.b id 0),.agg us)
       | none=>none
      | false=>none
     | none=>none
    | _=>none
   | _=>none
  | false=>none
 | _=>none
def K7 (P:Program) (st:St) (q:Nat) (t:TypeId):Option (Option Root × V):=match Jj P st q t with
 | some x=>some x
 | none=>K6 P st q t
def nX (P:Program) (st:St):List ResultVar→Option (List (Option Root × V))
 | []=>some []
 | .tmp t :: rs=>match mg st (.tmp t) with
  | some (r,u)=>match nX P st rs with
   | some l=>some ((match u.bM with | true=>none | false=>some r,u) :: l)
   | none=>none
  | none=>none
 | .cell q t :: rs=>match K7 P st q t with
  | some x=>match nX P st rs with
   | some l=>some (x :: l)
   | none=>none
  | none=>none
def vF (r:Root):List (Option Root × V)→Bool
 | []=>true
 | (some q,_) :: l=>match holdB r q with
  | true=>false
  | false=>vF r l
 | (none,_) :: l=>vF r l
def ni:List (Option Root × V)→Bool
 | []=>true
 | (some r,_) :: l=>match vF r l with
  | true=>ni l
  | false=>false
 | (none,_) :: l=>ni l
def nD:List (Option Root × V)→V
 | [(_,u)]=>u
 | l=>.aC (l.map (·.2))
def fin (P:Program) (fn:Func) (r:V):Exit→St→Prop
 | .normal,st | .ret,st=>∃ l,nX P st fn.results.toList=some l∧ni l=true∧Fit (nD l) r
 | _,_=>False
section
variable {P:Program} {C:Ctx} {g:G} {st:St} {a:Act} {w:World}
def nE (tmps:Array Value):ResultVar→Sem Value
 | .tmp t=>pure (tmps.getD t undef)
 | .cell a t=>do loadVar t (← asAddr (tmps.getD a undef))
theorem FR (fn:Func) (tmps:Array Value):results fn tmps=(do let vs ← fn.results.mapM (nE tmps);pure (if h:vs.size=1 then vs[0] else .tuple vs)):=by
 unfold results
 congr 2
theorem Bv {r:Root}:∀ {l:List (Option Root × V)},vF r l=true→∀ q u,(some q,u)∈l→r.holder≠q.holder
 | [],_,q,u,h=>by cases h
 | (some q',u') :: l,hf,q,u,h=>by
  simp only [vF] at hf
  split at hf
  ·cases hf
  ·rename_i hb
   rcases List.mem_cons.1 h with h | h
   ·cases h
    intro e
    rw [TN e] at hb;cases hb
   ·exact Bv hf q u h
 | (none,u') :: l,hf,q,u,h=>by
  rcases List.mem_cons.1 h with h | h
  ·cases h
  ·exact Bv (by simpa only [vF] using hf) q u h
theorem abn (S:aI C g st a w) {q:Nat} {t:TypeId} {ro:Option Root} {u:V} (h:Jj P st q t=some (ro,u)) :
 ∃ v T,(nE a.tmps (.cell q t)).run P w=.ok v w∧aS g.aM w v u T∧T.Nodup∧(∀ r,ro=some r→∀ b∈T,g.own b=some r.holder)∧(ro=none→T=[]):=by
 unfold Jj at h
 split at h
 ·rename_i id off hl
  split at h
  ·rename_i cs hb
   obtain ⟨_,h2,_⟩:=S.env q _ hl
   have h2:aV g w (a.tmps.getD q undef) (.ptr id off) (g.TE q):=h2
   obtain ⟨⟨cur,el,A,hT,hh,hr,h1⟩,hown⟩:=S.box id _ hb
   obtain ⟨A1,B1,gD,_,hd2⟩:=hr.cut off
   have hx:a.tmps.getD q undef=.pointer (some ⟨g.loc id,off,none⟩):=by
    generalize a.tmps.getD q undef=v at h2
    generalize g.TE q=T at h2
    cases h2
    rfl
   have hrg:w.rangeAt (g.loc id) off (cur.toList.drop off):=fun j v hj=>by
    rw [List.getElem?_drop] at hj
    simp only [World.cell?,hh]
    simpa using hj
   have exec:∀ v,(Instr.loadAt t (.pointer (some ⟨g.loc id,off,none⟩))).run P w=.ok v w→(nE a.tmps (.cell q t)).run P w=.ok v w:=fun v hv=>by
    simp only [nE,hx,asAddr,Sem.run_bind,Sem.run_pure,Result.andThen_ok]
    simpa only [Instr.loadAt,Instr.sureAddr,Sem.run_bind,Sem.run_pure,Result.andThen_ok] using hv
   cases hp:tV P t (cs.drop off) with
   | none=>rw [hp] at h;cases h
   | some pr =>
    rw [hp] at h
    unfold tV at hp
    split at hp
    ·rename_i ht
     split at hp
     ·rename_i n hn
      split at hp
      ·rename_i hle
       have hle:=Nat.le_of_ble_eq_true hle
       split at hp
       ·rename_i us qK
        split at hp
        ·rename_i hno
         cases hp
         cases h
         obtain ⟨A2,B2,_,h3,_⟩:=hd2.cut n
         rw [tF qK] at h3
         have h4:=h3.ku
         have hA2:=h4.bM hno
         subst hA2
         exact ⟨_,[],exec _ (Bd ht hn hrg (by rw [hd2.length];exact hle)),.agg h4,List.nodup_nil,fun r hr=>(by cases hr),fun _=>rfl⟩
        ·cases hp
       ·cases hp
      ·cases hp
     ·cases hp
    ·rename_i ht
     split at hp
     ·rename_i c cs' hcs
      have hd3:=hd2
      rw [hcs] at hd3
      generalize hys:cur.toList.drop off=ys at hd3 hrg
      cases hd3 with
      | @cons v _ vs _ A2 B2 r1 r2 =>
       have hc:=hrg 0 v rfl
       rw [Nat.add_zero] at hc
       have hrun:=exec v (FE ht hc)
       split at hp
       ·cases hp
        simp only at h
        split at h
        ·rename_i u' hu
         cases h
         obtain ⟨v',T,hpv,hR,dB,gF⟩:=uZ S hu
         refine ⟨v',T,?_,hR,gF,fun r hr=>by cases hr;exact dB,fun e=>by cases e⟩
         simp only [dY] at hpv
         split at hpv
         ·rw [hc] at hpv;cases hpv;exact hrun
         ·cases hpv
        ·cases h
       ·cases hp
       ·cases hp
       ·split at hp
        ·rename_i hno
         cases hp
         have hA2:=r1.bM hno
         subst hA2
         cases c with
         | v u' =>
          simp only at h
          split at h
          ·cases h
           exact ⟨v,[],hrun,r1.inv,List.nodup_nil,fun r hr=>(by cases hr),fun _=>rfl⟩
          ·cases h
         | _=>simp at h
        ·cases hp
     ·cases hp
    ·cases hp
  ·cases h
 ·cases h
theorem ack (S:aI C g st a w) {q:Nat} {t:TypeId} {ro:Option Root} {u:V} (h:K6 P st q t=some (ro,u)) :
 ∃ v T,(nE a.tmps (.cell q t)).run P w=.ok v w∧aS g.aM w v u T∧T.Nodup∧(∀ r,ro=some r→∀ b∈T,g.own b=some r.holder)∧(ro=none→T=[]):=by
 unfold K6 at h
 split at h
 ·rename_i id off hl
  split at h
  ·rename_i hoff
   have hoff:=Nat.eq_of_beq_eq_true hoff
   subst hoff
   split at h
   ·rename_i cs hb
    split at h
    ·rename_i ht
     split at h
     ·rename_i n hn
      split at h
      ·rename_i hnl
       have hnl:=Nat.eq_of_beq_eq_true hnl
       split at h
       ·rename_i us qK
        cases h
        obtain ⟨_,h2,_⟩:=S.env q _ hl
        have h2:aV g w (a.tmps.getD q undef) (.ptr id 0) (g.TE q):=h2
        obtain ⟨⟨cur,el,A,hT,hh,hr,h1⟩,hown⟩:=S.box id _ hb
        have hx:a.tmps.getD q undef=.pointer (some ⟨g.loc id,0,none⟩):=by
         generalize a.tmps.getD q undef=v at h2
         generalize g.TE q=T at h2
         cases h2
         rfl
        have hrg:w.rangeAt (g.loc id) 0 cur.toList:=fun j v hj=>by
         simp only [World.cell?,hh]
         simpa using hj
        have hlen:=hr.length
        have hload:=Bd (P:=P) ht hn hrg (by omega)
        rw [List.take_of_length_le (by omega)] at hload
        rw [tF qK] at hr
        have hnd:=S.mK id
        rw [hT] at hnd
        refine ⟨_,A,?_,.agg hr.ku,(List.nodup_cons.1 hnd).2,fun r hr b hb=>?_,fun h=>by cases h⟩
        ·simp only [nE,hx,asAddr,Sem.run_bind,Sem.run_pure,Result.andThen_ok]
         simpa only [Instr.loadAt,Instr.sureAddr,Sem.run_bind,Sem.run_pure,Result.andThen_ok] using hload
        ·cases hr
         exact hown b (by rw [hT];exact List.mem_cons_of_mem _ hb)
       ·cases h
      ·cases h
     ·cases h
    ·cases h
   ·cases h
  ·cases h
 ·cases h
theorem acm (S:aI C g st a w) {q:Nat} {t:TypeId} {ro:Option Root} {u:V} (h:K7 P st q t=some (ro,u)) :
 ∃ v T,(nE a.tmps (.cell q t)).run P w=.ok v w∧aS g.aM w v u T∧T.Nodup∧(∀ r,ro=some r→∀ b∈T,g.own b=some r.holder)∧(ro=none→T=[]):=by
 unfold K7 at h
 split at h
 ·rename_i h0;cases h;exact abn S h0
 ·exact ack S h
theorem vk (S:aI C g st a w):∀ {rs:List ResultVar} {l:List (Option Root × V)},nX P st rs=some l→ni l=true →
 ∃ vs T,(rs.mapM (nE a.tmps)).run P w=.ok vs w∧aN g.aM w vs (l.map (·.2)) T∧T.Nodup ∧
  ∀ b∈T,∃ q u,(some q,u)∈l∧g.own b=some q.holder
 | [],l,h,_=>by cases h;exact ⟨[],[],rfl,.nil,List.nodup_nil,by simp⟩
 | .cell q t :: rs,l,h,hd=>by
  simp only [nX] at h
  split at h
  ·rename_i x hx
   split at h
   ·rename_i l' hl
    cases h
    obtain ⟨ro,u⟩:=x
    obtain ⟨v,T,hv,hR,hn,hown,hnone⟩:=acm (P:=P) S hx
    have hmap:∀ vs,(rs.mapM (nE a.tmps)).run P w=.ok vs w→((ResultVar.cell q t :: rs).mapM (nE a.tmps)).run P w=.ok (v :: vs) w:=fun vs hvs=>by
     simp only [List.mapM_cons,Sem.run_bind,hv,Result.andThen_ok,hvs,Sem.run_pure]
    cases ro with
    | none =>
     have hT:=hnone rfl
     subst hT
     simp only [ni] at hd
     obtain ⟨vs,T',h1,h2,h3,h4⟩:=vk S hl hd
     refine ⟨v :: vs,[]++T',hmap vs h1,.cons hR h2,by simpa using h3,fun b hb=>?_⟩
     obtain ⟨q,u',h5,h6⟩:=h4 b (by simpa using hb)
     exact ⟨q,u',List.mem_cons_of_mem _ h5,h6⟩
    | some r =>
     simp only [ni] at hd
     split at hd
     ·rename_i hf
      obtain ⟨vs,T',h1,h2,h3,h4⟩:=vk S hl hd
      refine ⟨v :: vs,T++T',hmap vs h1,.cons hR h2,?_,fun b hb=>?_⟩
      ·refine List.nodup_append.2 ⟨hn,h3,fun b hb c hc e=>?_⟩
       subst e
       obtain ⟨q,u',h5,h6⟩:=h4 b hc
       have:=hown r rfl b hb
       rw [this] at h6
       exact Bv hf q u' h5 (Option.some.inj h6)
      ·rcases List.mem_append.1 hb with hb | hb
       ·exact ⟨r,u,by simp,hown r rfl b hb⟩
       ·obtain ⟨q,u',h5,h6⟩:=h4 b hb
        exact ⟨q,u',List.mem_cons_of_mem _ h5,h6⟩
     ·cases hd
   ·cases h
  ·cases h
 | .tmp t :: rs,l,h,hd=>by
  simp only [nX] at h
  split at h
  ·rename_i r u hp
   split at h
   ·rename_i l' hl
    cases h
    obtain ⟨T,_,hR,hown,hn⟩:=ng S hp
    cases hno:u.bM with
    | true =>
     rw [hno] at hd
     simp only at hd
     have hT:=hR.bM hno
     subst hT
     obtain ⟨vs,T',h1,h2,h3,h4⟩:=vk S hl hd
     refine ⟨a.tmps.getD t undef :: vs,[]++T',?_,.cons hR h2,by simpa using h3,fun b hb=>?_⟩
     ·simp only [List.mapM_cons,nE,Sem.run_bind,Sem.run_pure,Result.andThen_ok,h1]
     ·obtain ⟨q,u',h5,h6⟩:=h4 b (by simpa using hb)
      exact ⟨q,u',List.mem_cons_of_mem _ h5,h6⟩
    | false =>
     rw [hno] at hd
     simp only [ni] at hd
     split at hd
     ·rename_i hf
      obtain ⟨vs,T',h1,h2,h3,h4⟩:=vk S hl hd
      refine ⟨a.tmps.getD t undef :: vs,T++T',?_,.cons hR h2,?_,fun b hb=>?_⟩
      ·simp only [List.mapM_cons,nE,Sem.run_bind,Sem.run_pure,Result.andThen_ok,h1]
      ·refine List.nodup_append.2 ⟨hn,h3,fun b hb c hc e=>?_⟩
       subst e
       obtain ⟨q,u',h5,h6⟩:=h4 b hc
       have:=hown b hb
       rw [this] at h6
       exact Bv hf q u' h5 (Option.some.inj h6)
      ·rcases List.mem_append.1 hb with hb | hb
       ·exact ⟨r,u,by simp,hown b hb⟩
       ·obtain ⟨q,u',h5,h6⟩:=h4 b hb
        exact ⟨q,u',List.mem_cons_of_mem _ h5,h6⟩
     ·cases hd
   ·cases h
  ·cases h
end
theorem GX {P:Program} {C:Ctx} {a:Act} {fn:Func} {r:V} {g':G} {st':St} {w':World} (S':aI C g' st' a w') (hF:∀ b,¬ C.Fz b):(∃ l,nX P st' fn.results.toList=some l∧ni l=true∧Fit (nD l) r)→a.defers=[]∧∃ v,(results fn a.tmps).run P w'=.ok v w' ∧
 ∃ (v':Value) (T:List Nat) (q:bB),Ending.returned v=.returned v'∧Calm C.W w'∧(∀ b,q b→C.W.heap.size≤b∧b < w'.heap.size)∧T.Nodup∧(∀ b∈T,C.W.heap.size≤b∧b < w'.heap.size∧¬ q b)∧aS (fun b=>C.p0 b∨q b) w' v' r T:=by
 rintro ⟨l,hl,hd,hfit⟩
 obtain ⟨vs',T,h1,h2,h3,h4⟩:=vk (P:=P) S' hl hd
 refine ⟨S'.defers,?_⟩
 have hT:∀ b∈T,C.W.heap.size≤b∧b < w'.heap.size∧¬ g'.aM b:=fun b hb=>by
  obtain ⟨q,u,_,ho⟩:=h4 b hb
  obtain ⟨k1,k2,k3⟩:=S'.own b _ ho
  exact ⟨k1.resolve_right (hF b),k2,k3⟩
 have zh:∀ b,g'.aM b→C.p0 b∨(g'.aM b∧C.W.heap.size≤b):=fun b hb=>by
  rcases S'.aM b hb with h | h | h
  ·exact .inl h
  ·exact .inr ⟨hb,h⟩
  ·exact (hF _ h).elim
 have hcalm:Calm C.W w':=⟨S'.os,S'.tape,S'.output,S'.size,fun b hb=>S'.frame b hb (hF b)⟩
 have fin:∀ v,aS g'.aM w' v (nD l) T→(results fn a.tmps).run P w'=.ok v w'→∃ v,(results fn a.tmps).run P w'=.ok v w' ∧
  ∃ (v':Value) (T:List Nat) (q:bB),Ending.returned v=.returned v'∧Calm C.W w'∧(∀ b,q b→C.W.heap.size≤b∧b < w'.heap.size)∧T.Nodup∧(∀ b∈T,C.W.heap.size≤b∧b < w'.heap.size∧¬ q b)∧aS (fun b=>C.p0 b∨q b) w' v' r T:=fun v hR hrun =>
  ⟨v,hrun,v,T,fun b=>g'.aM b∧C.W.heap.size≤b,rfl,hcalm,fun b hb=>⟨hb.2,S'.dJ b hb.1⟩,h3,fun b hb=>⟨(hT b hb).1,(hT b hb).2.1,fun h=>(hT b hb).2.2 h.1⟩,(hR.keep ⟨zh,fun _ _=>rfl⟩ (fun _ _=>rfl)).fit hfit⟩
 have hm:(results fn a.tmps).run P w'=.ok (if h:vs'.toArray.size=1 then vs'.toArray[0] else .tuple vs'.toArray) w':=by
  rw [FR,Sem.run_bind,Array.mapM_eq_mapM_toList,Sem.run_map,h1]
  rfl
 by_cases hsz:vs'.length=1
 ·match vs',h2,hm,hsz with
  | [v],h2,hm,_ =>
   have hll:l.length=1:=by have:=h2.length;simpa using this.symm
   match l,hll,h2,fin with
   | [(ro,u)],_,h2,fin =>
    generalize hT':T=T0 at h2 fin
    cases h2 with
    | @cons _ _ _ _ A B r1 r2 =>
     cases r2
     refine fin v (by rw [List.append_nil];exact r1) (by rw [hm];simp)
 ·refine fin (.tuple vs'.toArray) ?_ (by rw [hm];simp [hsz])
  have hll:l.length≠1:=by have:=h2.length;simp at this;omega
  have:nD l=.aC (l.map (·.2)):=by
   unfold nD
   split
   ·simp at hll
   ·rfl
  rw [this]
  exact .aC h2
theorem S9 {us:List V} {p:bB} {w:World} {vs:List Value} (N:Nat) (hN:us.length≤N) (hp:∀ b,p b→b < w.heap.size) (htab:cO.t p w) (hr:aN p w vs us []) :
 aI { W:=w,p0:=p,Fz:=fun _=>False,N:=N } { aM:=p,own:=fun _=>none,n:=0,loc:=fun _=>0,TE:=fun _=>[],TB:=fun _=>[] } (enter us) { tmps:=vs.toArray++Array.replicate (N - vs.toArray.size) undef,defers:=[] } w:=by
 have hvl:vs.length=us.length:=hr.length
 refine ⟨rfl,?_,rfl,rfl,rfl,Nat.le_refl _,fun _ _ _=>rfl,fun b hb=>.inl hb,hp,rfl,?_,fun _=>List.nodup_nil,fun id b hb=>?_,fun _=>List.nodup_nil,fun b h ho=>?_,fun i l h=>(by simp at h),htab⟩
 ·simp [hvl];omega
 ·intro t x hx
  obtain ⟨u,h1,_,rfl⟩:=TQ hx
  rw [Nat.sub_zero] at h1
  obtain ⟨v,A,h2,h3,h4⟩:=hr.get h1
  have hA:A=[]:=List.eq_nil_iff_forall_not_mem.2 fun b hb=>by cases h4 b hb
  subst hA
  have htl:t < vs.length:=by
   rcases Nat.lt_or_ge t vs.length with h | h
   ·exact h
   ·rw [List.getElem?_eq_none h] at h2;cases h2
  refine ⟨?_,?_,fun b hb=>by cases hb⟩
  ·show t < N;omega
  ·have e:({ tmps:=vs.toArray++Array.replicate (N - vs.toArray.size) undef,defers:=[] }:Act).tmps.getD t undef=v:=by
    rw [Array.getD_eq_getD_getElem?,Array.getElem?_append_left (by simpa using htl)]
    simp [h2]
   show aV _ w _ (.v u) []
   rw [e]
   exact .v h3
 ·simp [enter] at hb
 ·cases ho
theorem FI {P:Program} {f:FuncId} {fn:Func} {c:Code} {us:List V} {r:V} (hf:P.funcs[f]? = some fn) (hb:fn.body=some c) (hname:(fn.name == "runtime.NumGoroutine")=false) (hN:Nat.ble us.length fn.ntmps=true)
 (h:∀ C:Ctx,C.N=fn.ntmps→C.L.length=0→Good P C c (fin P fn r) (enter us)):aW P f us r:=by
 refine ⟨fun vs w=>by
  have h1:fn.name ≠ "runtime.NumGoroutine" := by simpa using hname
  simp [callFunc,hf,h1,hb],fun p w vs hp htab hr=>?_⟩
 have hN:=Nat.le_of_ble_eq_true hN
 have S:=S9 fn.ntmps hN hp htab hr
 refine calls_of_wp hf hb (wp_mono (h _ rfl rfl _ _ w S) fun e a w' ⟨g',st',S',hq⟩=>?_)
 cases e with
 | normal=>exact GX S' (fun _ h=>h) hq
 | ret=>exact GX S' (fun _ h=>h) hq
 | _=>exact hq.elim
def vX (P:Program) (fn:Func) (st:St):Option V:=match nX P st fn.results.toList with
 | some l=>match ni l with
  | true=>some (nD l)
  | false=>none
 | none=>none
theorem eY {P:Program} {fn:Func} {st:St} {u r:V} (hf:Fit u r) (h:vX P fn st=some u):∃ l,nX P st fn.results.toList=some l∧ni l=true∧Fit (nD l) r:=by
 unfold vX at h
 split at h
 ·rename_i l hl
  split at h
  ·rename_i hd
   cases h
   exact ⟨l,hl,hd,hf⟩
  ·cases h
 ·cases h
theorem Good.done {P:Program} {C:Ctx} {fn:Func} {st:St} {r:V} (h:vX P fn st=some r):Good P C .ret (fin P fn r) st:=Good.ret (eY (.refl r) h)
theorem fin.done {P:Program} {fn:Func} {st:St} {r:V} (h:vX P fn st=some r):fin P fn r .normal st:=eY (.refl r) h
theorem fin.pO {P:Program} {fn:Func} {st:St} {r:V} (h:vX P fn st=some r):fin P fn r .ret st:=eY (.refl r) h
end Go.Rf
end
section
namespace Go.Rf
open Go.RowKit
set_option linter.unusedVariables false
set_option linter.unusedSimpArgs false
variable [cO]
def co (m:Nat) (x:X):Option X:=match m with
 | 0=>some x
 | 1=>match x with
  | .d (.v (.nil e sz))=>some (.d (.v (.row (some e) sz [])))
  | _=>none
 | 2=>match x with
  | .d (.v (.nil _ sz))=>some (.d (.v (.row none sz [])))
  | _=>none
 | 4=>match x with
  | .d (.v (.kb b))=>some (.d (.v (.lit (.bool b))))
  | _=>none
 | _=>none
def rC (l:List (Nat × X)):List (Nat × Nat)→Option (List (Nat × X))
 | []=>some []
 | (t,m) :: ks=>match look l t with
  | some x=>match co m x with
   | some y=>match rC l ks with
    | some r=>some ((t,y) :: r)
    | none=>none
   | none=>none
  | none=>none
def Wk (C:Ctx) (st st':St):Prop:=∀ g a w,aI C g st a w→∃ g',aI C g' st' a w
theorem Sr {l:List (Nat × X)}:∀ {ks:List (Nat × Nat)} {r:List (Nat × X)} {t:Nat} {y:X},rC l ks=some r→look r t=some y→∃ m x,look l t=some x∧co m x=some y
 | [],r,t,y,h,hy=>by cases h;simp [look] at hy
 | (s,m) :: ks,r,t,y,h,hy=>by
  simp only [rC] at h
  split at h
  ·rename_i x hx
   split at h
   ·rename_i z hz
    split at h
    ·rename_i r' hr
     cases h
     simp only [look] at hy
     cases hb:Nat.beq t s with
     | true =>
      rw [hb] at hy
      cases hy
      have:=Nat.eq_of_beq_eq_true hb
      subst this
      exact ⟨m,x,hx,hz⟩
     | false =>
      rw [hb] at hy
      exact Sr hr hy
    ·cases h
   ·cases h
  ·cases h
theorem Wk.of {C:Ctx} (ks:List (Nat × Nat)) {st:St} {env:List (Nat × X)} {box:List gM} (h:rC st.env ks=some env) (hb:st.box=box):Wk C st ⟨env,box⟩:=by
 subst hb
 intro g a w S
 refine ⟨g,S.change (fun _=>False) S.defers S.tmps rfl rfl rfl (Nat.le_refl _) (fun _ h=>h) (fun _ h=>.inl h) S.dJ S.n (Nat.le_refl _) (fun _ _=>rfl) (fun _ _ _=>rfl)
  (fun b h ho _=>ho) (fun t _=>⟨rfl,rfl⟩) (fun i _=>⟨rfl,rfl⟩) (fun t y hy=>?_) (fun id b _ h=>h.elim) (fun t h=>h.elim) (fun i h=>h.elim) (fun b h ho=>.inl ⟨ho,(S.own b h ho).2.2⟩)⟩
 obtain ⟨m,x,hx,hc⟩:=Sr h hy
 have same:x=y→(¬ False∧(look st.env t=some y∧(∀ h,y.gp=some h→¬ False)∨y=.dead∧∃ y,look st.env t=some y))∨(t < C.N∧ko g a w (a.tmps.getD t undef) y (g.TE t)∧(∀ b∈g.TE t,g.own b=some (.inl t))):=fun e=>by
  subst e
  exact .inl ⟨fun h=>h,.inl ⟨hx,fun _ _ h=>h⟩⟩
 unfold co at hc
 split at hc
 ·exact same (Option.some.inj hc)
 ·split at hc
  ·cases hc
   obtain ⟨h1,h2,h3⟩:=S.env t _ hx
   exact .inr ⟨h1,.v ((aV.inv h2).fit (.fP _ _)),h3⟩
  ·cases hc
 ·split at hc
  ·cases hc
   obtain ⟨h1,h2,h3⟩:=S.env t _ hx
   exact .inr ⟨h1,.v ((aV.inv h2).fit (.dP _ _ _)),h3⟩
  ·cases hc
 ·split at hc
  ·cases hc
   obtain ⟨h1,h2,h3⟩:=S.env t _ hx
   have hv:=aV.kb h2
   have hT:g.TE t=[]:=(aV.inv h2).bM rfl
   refine .inr ⟨h1,?_,h3⟩
   rw [hv,hT]
   exact .v (.lit _)
  ·cases hc
 ·cases hc
section
variable {P:Program} {C:Ctx} {Q:Exit→St→Prop} {st st':St}
theorem Wk.good {c:Code} (W:Wk C st st') (h:Good P C c Q st'):Good P C c Q st:=fun g a w S=>let ⟨g',S'⟩:=W g a w S;h g' a w S'
theorem Wk.sh (t:Nat) {d u:D} (ht:look st.env t=some (.d d)) (hu:d.shr=u) (h:Wk C (st.kr t (.d u)) st'):Wk C st st':=fun g a w S=>by
 subst hu
 exact h _ a w (S.jY ht).2
end
theorem ax {α:Type} {p:Prop} [Decidable p] {x:Option α} {r:α} (h:(if p then x else none)=some r):p∧x=some r:=by
 by_cases c:p
 ·rw [if_pos c] at h;exact ⟨c,h⟩
 ·rw [if_neg c] at h;cases h
theorem ak {α:Type} {p:Prop} [Decidable p] {x y r:α} (h:(if p then x else y)=r):(p∧x=r)∨(¬ p∧y=r):=by
 by_cases c:p
 ·rw [if_pos c] at h;exact .inl ⟨c,h⟩
 ·rw [if_neg c] at h;exact .inr ⟨c,h⟩
theorem aF {α β:Type} {x:Option α} {f:α→Option β} {r:β} (h:x.bind f=some r):∃ t,x=some t∧f t=some r:=Option.bind_eq_some_iff.1 h
end Go.Rf
end
section
namespace Go.Rf
open Go.RowKit
set_option linter.unusedVariables false
set_option linter.unusedSimpArgs false
variable [cO]
mutual
def D.bnd (n:Nat):D→Bool
 | .v _=>true
 | .ptr i _=>Nat.blt i n
 | .agg cs=>uB n cs
 | .aC cs=>uB n cs
 | .fn _ cs=>uB n cs
def uB (n:Nat):List D→Bool
 | []=>true
 | d :: ds=>match d.bnd n with
  | true=>uB n ds
  | false=>false
end
def Root.bnd (n:Nat):Root→Bool
 | .t _=>true
 | .b i _=>Nat.blt i n
def X.bnd (n:Nat):X→Bool
 | .d y=>D.bnd n y
 | .al p=>Root.bnd n p.root
 | .pa r _ _ _=>Root.bnd n r
 | .dead=>true
def zw (n:Nat):List (Nat × X)→Bool
 | []=>true
 | (_,x) :: l=>match x.bnd n with
  | true=>zw n l
  | false=>false
def gM.bnd (n:Nat):gM→Bool
 | .cells cs=>uB n cs
 | _=>true
def zx (n:Nat):List gM→Bool
 | []=>true
 | b :: l=>match b.bnd n with
  | true=>zx n l
  | false=>false
theorem Ta {n:Nat}:∀ {l:List (Nat × X)} {t:Nat} {x:X},zw n l=true→look l t=some x→x.bnd n=true
 | [],_,_,_,h=>by simp [look] at h
 | (k,y) :: l,t,x,hb,h=>by
  simp only [zw] at hb
  split at hb
  ·rename_i hy
   simp only [look] at h
   cases hk:Nat.beq t k with
   | true=>rw [hk] at h;cases h;exact hy
   | false=>rw [hk] at h;exact Ta hb h
  ·cases hb
theorem TR {n:Nat}:∀ {l:List gM} {i:Nat} {b:gM},zx n l=true→l[i]? = some b→b.bnd n=true
 | [],_,_,_,h=>by simp at h
 | c :: l,i,b,hb,h=>by
  simp only [zx] at hb
  split at hb
  ·rename_i hc
   cases i with
   | zero=>simp only [List.getElem?_cons_zero,Option.some.injEq] at h;subst h;exact hc
   | succ i=>simp only [List.getElem?_cons_succ] at h;exact TR hb h
  ·cases hb
def G.shrink (g:G) (n:Nat):G :=
 { g with n:=n,own:=fun b=>match g.own b with
     | some (.inr id)=>if id < n then some (.inr id) else none
     | x=>x,TB:=fun i=>if i < n then g.TB i else [] }
mutual
theorem aV.shrink {g:G} {n:Nat} {w:World} {v:Value} {d:D} {T:List Nat}:aV g w v d T→d.bnd n=true→aV (g.shrink n) w v d T
 | .v h,_=>.v h
 | .ptr (id:=id) h,hb=>aV.ptr (g:=g.shrink n) (by simpa [D.bnd,G.shrink] using hb)
 | .agg h,hb=>.agg (h.shrink (by simpa [D.bnd] using hb))
 | .aC h,hb=>.aC (h.shrink (by simpa [D.bnd] using hb))
 | .fn h,hb=>.fn (h.shrink (by simpa [D.bnd] using hb))
theorem cK.shrink {g:G} {n:Nat} {w:World} {vs:List Value} {ds:List D} {T:List Nat}:cK g w vs ds T→uB n ds=true→cK (g.shrink n) w vs ds T
 | .nil,_=>.nil
 | .cons (d:=d) h1 h2,hb=>by
  simp only [uB] at hb
  cases hc:d.bnd n with
  | false=>rw [hc] at hb;cases hb
  | true=>rw [hc] at hb;exact .cons (h1.shrink hc) (h2.shrink hb)
end
section
variable {C:Ctx} {g:G} {st:St} {a:Act} {w:World}
theorem R9 {n b t:Nat}:(g.shrink n).own b=some (.inl t)↔g.own b=some (.inl t):=by
 simp only [G.shrink]
 split
 ·rename_i id h;rw [h];split<;>simp
 ·rfl
theorem Be {n b i:Nat} (hi:i < n):(g.shrink n).own b=some (.inr i)↔g.own b=some (.inr i):=by
 simp only [G.shrink]
 split
 ·rename_i id h
  rw [h]
  split
  ·rfl
  ·rename_i hn
   constructor
   ·intro e;cases e
   ·intro e;cases e;exact (hn hi).elim
 ·rfl
theorem FT {n:Nat} (hn:n≤g.n) {r:Root} (hb:r.bnd n=true):dY (g.shrink n) a w r=dY g a w r:=by
 cases r with
 | t x=>rfl
 | b id c =>
  have hi:id < n:=by simpa [Root.bnd] using hb
  simp only [dY]
  have e1:(id < (g.shrink n).n∧(g.shrink n).own ((g.shrink n).loc id)=some (.inr id))=(id < g.n∧g.own (g.loc id)=some (.inr id)):=by
   apply propext
   constructor
   ·rintro ⟨h1,h2⟩;exact ⟨Nat.lt_of_lt_of_le hi hn,(Be hi).1 h2⟩
   ·rintro ⟨h1,h2⟩;exact ⟨hi,(Be hi).2 h2⟩
  simp only [e1]
  rfl
theorem RO {n b:Nat} {r:Root} (hb:r.bnd n=true):(g.shrink n).own b=some r.holder↔g.own b=some r.holder:=by
 cases r with
 | t x=>exact R9
 | b id c=>exact Be (by simpa [Root.bnd] using hb)
theorem ko.shrink {n:Nat} (hn:n≤g.n) {v:Value} {x:X} {T:List Nat} (h:ko g a w v x T) (hb:x.bnd n=true):ko (g.shrink n) a w v x T:=by
 cases x with
 | d d=>exact aV.shrink h hb
 | al p =>
  refine ⟨h.1,?_⟩
  have h:=h.2
  cases p with
  | top r =>
   have hb:Root.bnd n r=true:=hb
   simp only [pv] at h ⊢;rw [FT hn hb];exact h
  | jf r sz i j =>
   have hb:Root.bnd n r=true:=hb
   simp only [pv] at h ⊢
   rw [FT hn hb]
   cases hq:(dY g a w r).bind Value.ownBlock with
   | none=>rw [hq] at h;cases h
   | some b =>
    rw [hq] at h
    simp only at h ⊢
    by_cases ho:g.own b=some r.holder
    ·rw [if_pos ho] at h;rw [if_pos ((RO hb).2 ho)];exact h
    ·rw [if_neg ho] at h;cases h
 | pa r sz i j =>
  obtain ⟨h1,b,h2,h3,h4⟩:=h
  exact ⟨h1,b,by rw [FT hn hb];exact h2,(RO hb).2 h3,h4⟩
 | dead=>trivial
theorem aI.shrink (S:aI C g st a w) {n:Nat} (hn:n≤st.box.length) (hE:zw n st.env=true) (hB:zx n (st.box.take n)=true) (hL:C.L.length≤n):aI C (g.shrink n) ⟨st.env,st.box.take n⟩ a w:=by
 have hgn:n≤g.n:=by rw [S.n];exact hn
 refine ⟨S.defers,S.tmps,S.os,S.tape,S.output,S.size,S.frame,S.aM,S.dJ,?_,?_,S.nU,?_,?_,?_,fun i l h=>⟨Nat.lt_of_lt_of_le (List.getElem?_eq_some_iff.1 h).1 hL,(S.kY i l h).2⟩,S.tab⟩
 ·simp only [List.length_take,G.shrink];omega
 ·intro t x hx
  obtain ⟨h1,h2,h3⟩:=S.env t x hx
  exact ⟨h1,h2.shrink hgn (Ta hE hx),fun b hb=>R9.2 (h3 b hb)⟩
 ·intro id b hb
  have hi:id < n:=by
   rcases Nat.lt_or_ge id n with h | h
   ·exact h
   ·rw [List.getElem?_eq_none (by rw [List.length_take];omega)] at hb;cases hb
  have hb':st.box[id]? = some b:=by rw [List.getElem?_take] at hb;split at hb<;>simp_all
  obtain ⟨h1,h2⟩:=S.box id b hb'
  have hT:(g.shrink n).TB id=g.TB id:=by simp [G.shrink,hi]
  rw [hT]
  refine ⟨?_,fun c hc=>(Be hi).2 (h2 c hc)⟩
  have hbb:=TR hB hb
  cases b with
  | cells cs =>
   obtain ⟨cur,e,A,k1,k2,k3,k4⟩:=h1
   exact ⟨cur,e,A,k1,k2,k3.shrink hbb,k4⟩
  | iter s pos=>exact h1
  | gone=>exact h1
 ·intro id
  simp only [G.shrink]
  split
  ·exact S.mK id
  ·exact List.nodup_nil
 ·intro b h ho
  have:g.own b=some h:=by
   simp only [G.shrink] at ho
   split at ho
   ·rename_i id hq
    split at ho
    ·rw [hq];exact ho
    ·cases ho
   ·exact ho
  exact S.own b h this
end
theorem Wk.mq {C:Ctx} {L:Nat} (hL:C.L.length=L) (n:Nat) (ks:List (Nat × Nat)) {st:St} {env:List (Nat × X)} {box:List gM} (h:rC st.env ks=some env) (hE:(Nat.ble n st.box.length && zw n env && zx n (st.box.take n) && Nat.ble L n)=true) (hb:st.box.take n=box):Wk C st ⟨env,box⟩:=by
 subst hb
 intro g a w S
 obtain ⟨g',S'⟩:=Wk.of ks h rfl g a w S
 simp only [Bool.and_eq_true] at hE
 exact ⟨_,S'.shrink (Nat.le_of_ble_eq_true hE.1.1.1) hE.1.1.2 hE.1.2 (by rw [hL];exact Nat.le_of_ble_eq_true hE.2)⟩
end Go.Rf
end
section
namespace Go.Rf
open Go.RowKit
set_option linter.unusedVariables false
set_option linter.unusedSimpArgs false
variable [cO]
theorem Wk.box {C:Ctx} (id:Nat) {st st':St} {c d:List V} (hb:st.box[id]? = some (.cells (dv c))) (f:dH c d) (h:Wk C { st with box:=st.box.set id (.cells (dv d)) } st'):Wk C st st':=fun g a w S=>by
 have hid:id < st.box.length:=(List.getElem?_eq_some_iff.1 hb).1
 refine h g a w (S.change (fun h=>h=.inr id) S.defers S.tmps rfl rfl rfl (Nat.le_refl _) (fun _ h=>h) (fun _ h=>.inl h) S.dJ (by simpa using S.n) (Nat.le_refl _) (fun _ _=>rfl) (fun _ _ _=>rfl)
  (fun b h ho _=>ho) (fun t _=>⟨rfl,rfl⟩) (fun i hi=>⟨rfl,?_⟩) (fun t y hy=>?_) (fun i b hb' hc=>?_) (fun t h=>by cases h) (fun i h=>by cases h;exact S.mK id) (fun b h ho=>.inl ⟨ho,(S.own b h ho).2.2⟩))
 ·rw [List.getElem?_set_ne (fun e=>hi (by rw [e]))]
 ·by_cases hr:∀ h,y.gp=some h→¬ h=.inr id
  ·exact .inl ⟨(fun e=>by cases e),.inl ⟨hy,hr⟩⟩
  ·obtain ⟨h1,h2,h3⟩:=S.env t y hy
   exact .inr ⟨h1,h2,h3⟩
 ·cases hc
  rw [List.getElem?_set_self hid] at hb'
  cases hb'
  obtain ⟨h1,h2⟩:=S.box id _ hb
  exact ⟨h1.KX f,h2⟩
theorem Wk.fx {C:Ctx} (t:Nat) {st st':St} {x u:V} (hl:look st.env t=some (.d (.v x))) (hf:Fit x u) (h:Wk C { st with env:=(t,.d (.v u)) :: st.env } st'):Wk C st st':=fun g a w S=>by
 obtain ⟨k1,k2,k3⟩:=S.env t _ hl
 refine h g a w (S.change (fun _=>False) S.defers S.tmps rfl rfl rfl (Nat.le_refl _) (fun _ h=>h) (fun _ h=>.inl h) S.dJ S.n (Nat.le_refl _) (fun _ _=>rfl) (fun _ _ _=>rfl)
  (fun b h ho _=>ho) (fun t _=>⟨rfl,rfl⟩) (fun i _=>⟨rfl,rfl⟩) (fun s y hy=>?_) (fun id b _ h=>h.elim) (fun t h=>h.elim) (fun i h=>h.elim) (fun b h ho=>.inl ⟨ho,(S.own b h ho).2.2⟩))
 simp only [look] at hy
 cases hb:Nat.beq s t with
 | true =>
  rw [hb] at hy
  cases hy
  have:=Nat.eq_of_beq_eq_true hb
  subst this
  exact .inr ⟨k1,.v ((aV.inv k2).fit hf),k3⟩
 | false =>
  rw [hb] at hy
  exact .inl ⟨fun h=>h,.inl ⟨hy,fun _ _ h=>h⟩⟩
def zy:Nat→List D→List (Nat × X)
 | _,[]=>[]
 | i,u :: us=>(i,.d u) :: zy (i+1) us
def BX (us:List D) (bs:List (List V)):St:={ env:=zy 0 us,box:=bs.map fun c=>.cells (dv c) }
theorem Td:∀ {us:List D} {k t:Nat} {x:X},look (zy k us) t=some x→∃ u,us[t - k]? = some u∧k≤t∧x=.d u
 | [],_,_,_,h=>by simp [zy,look] at h
 | u :: us,k,t,x,h=>by
  simp only [zy,look] at h
  cases hb:Nat.beq t k with
  | true =>
   rw [hb] at h
   have:=Nat.eq_of_beq_eq_true hb
   subst this
   cases h
   exact ⟨u,by simp,Nat.le_refl _,rfl⟩
  | false =>
   rw [hb] at h
   obtain ⟨v,h1,h2,h3⟩:=Td h
   refine ⟨v,?_,by omega,h3⟩
   rw [show t - k=(t - (k+1))+1 by omega,List.getElem?_cons_succ]
   exact h1
def gq (n:Nat):List (Option Root × V)→Bool
 | []=>true
 | (some (.b id _),_) :: l=>match Nat.ble n id with
  | true=>gq n l
  | false=>false
 | _ :: l=>gq n l
theorem vo {n:Nat}:∀ {l:List (Option Root × V)},gq n l=true→∀ q u,(some q,u)∈l→∀ i,i < n→q.holder≠.inr i
 | [],_,q,u,h=>by cases h
 | (none,_) :: l,hf,q,u,h=>by
  rcases List.mem_cons.1 h with h | h
  ·cases h
  ·exact vo (by simpa only [gq] using hf) q u h
 | (some (.t x),_) :: l,hf,q,u,h=>by
  rcases List.mem_cons.1 h with h | h
  ·cases h;intro i _ e;cases e
  ·exact vo (by simpa only [gq] using hf) q u h
 | (some (.b id c),_) :: l,hf,q,u,h=>by
  simp only [gq] at hf
  split at hf
  ·rename_i hle
   have hle:=Nat.le_of_ble_eq_true hle
   rcases List.mem_cons.1 h with h | h
   ·cases h
    intro i hi e
    simp only [Root.holder,Sum.inr.injEq] at e
    omega
   ·exact vo hf q u h
  ·cases hf
def K8 (fn:Func) (st:St) (n:Nat):Option D:=match fn.results.toList with
 | [.tmp t]=>match look st.env t with
  | some (.d d)=>match d.bM with
   | true=>match d.bnd n with
    | true=>some d
    | false=>none
   | false=>none
  | _=>none
 | _=>none
def K9 (P:Program) (fn:Func) (r:D) (bs':List (List V)):Exit→St→Prop
 | .normal,st | .ret,st=>(∃ mo,tN st (List.range bs'.length)=some mo∧dF mo bs') ∧
  ((∃ l u,r=.v u∧nX P st fn.results.toList=some l∧ni l=true∧gq bs'.length l=true∧Fit (nD l) u)∨K8 fn st bs'.length=some r)
 | _,_=>False
theorem qQ {P:Program} {f:FuncId} {fn:Func} {c:Code} {us:List D} {bs bs':List (List V)} {r:D} (hf:P.funcs[f]? = some fn) (hb:fn.body=some c) (hname:(fn.name == "runtime.NumGoroutine")=false) (hN:(Nat.ble us.length fn.ntmps && Nat.beq bs.length bs'.length)=true)
 (h:∀ C:Ctx,C.N=fn.ntmps→C.L.length=bs.length→Good P C c (K9 P fn r bs') (BX us bs)):kI P f us bs r bs':=by
 rw [Bool.and_eq_true] at hN
 have hNb:=Nat.eq_of_beq_eq_true hN.2
 have hN:=Nat.le_of_ble_eq_true hN.1
 refine ⟨fun vs w=>by
  have h1:fn.name ≠ "runtime.NumGoroutine" := by simpa using hname
  simp [callFunc,hf,h1,hb],fun g w vs hgn hp htab hr hB hown=>?_⟩
 let C:Ctx:={ W:=w,p0:=g.aM,Fz:=fun b=>∃ h,g.own b=some h,N:=fn.ntmps,L:=(List.range bs.length).map g.loc }
 have Yz:C.L.length=bs.length:=by simp [C]
 let gi:G:={ aM:=g.aM,own:=fun b=>(match g.own b with
   | some (.inr i)=>if i < g.n then some (.inr i) else none
   | _=>none),n:=g.n,loc:=g.loc,TE:=fun _=>[],TB:=fun i=>if i < g.n then g.TB i else [] }
 have kgi:dG g gi w w:=⟨fun _ h=>h,Nat.le_refl _,fun _ _=>rfl,fun _ _=>rfl⟩
 have hvl:vs.length=us.length:=hr.length
 have aeb:∀ b h,gi.own b=some h→∃ i,h=.inr i∧i < g.n∧g.own b=some (.inr i):=fun b h ho=>by
  simp only [gi] at ho
  split at ho
  ·rename_i i hi
   split at ho
   ·rename_i hl;cases ho;exact ⟨i,rfl,hl,hi⟩
   ·cases ho
  ·cases ho
 have get:∀ {vs:List Value} {us:List D} {t:Nat} {u:D},cK g w vs us []→us[t]? = some u→∃ v,vs[t]? = some v∧aV g w v u []:=by
  intro vs us t u h hu
  obtain ⟨v,Tc,h1,h2,h3,_⟩:=h.get hu
  have:Tc=[]:=List.eq_nil_iff_forall_not_mem.2 fun b hb=>by cases h3 b hb
  subst this
  exact ⟨v,h1,h2⟩
 have S:aI C gi (BX us bs) { tmps:=vs.toArray++Array.replicate (fn.ntmps - vs.toArray.size) undef,defers:=[] } w:=by
  refine ⟨rfl,?_,rfl,rfl,rfl,Nat.le_refl _,fun _ _ _=>rfl,fun b hb=>.inl hb,hp,?_,?_,fun _=>List.nodup_nil,fun id b hb=>?_,fun i=>?_,fun b h ho=>?_,fun i l h=>?_,htab⟩
  ·simp [C,hvl];omega
  ·simp only [gi,BX,List.length_map];exact hgn
  ·intro t x hx
   obtain ⟨u,h1,_,rfl⟩:=Td hx
   rw [Nat.sub_zero] at h1
   obtain ⟨v,h2,h3⟩:=get hr h1
   have htl:t < vs.length:=(List.getElem?_eq_some_iff.1 h2).1
   refine ⟨?_,?_,fun b hb=>by cases hb⟩
   ·show t < fn.ntmps;omega
   ·have e:({ tmps:=vs.toArray++Array.replicate (fn.ntmps - vs.toArray.size) undef,defers:=[] }:Act).tmps.getD t undef=v:=by
     rw [Array.getD_eq_getD_getElem?,Array.getElem?_append_left (by simpa using htl)]
     simp [h2]
    show aV gi w _ u []
    rw [e]
    exact h3.keep kgi (fun _ h=>by cases h)
  ·simp only [BX,List.getElem?_map,Option.map_eq_some_iff] at hb
   obtain ⟨c,hc,rfl⟩:=hb
   have hid:id < g.n:=by rw [hgn];exact (List.getElem?_eq_some_iff.1 hc).1
   obtain ⟨h1,_,h3⟩:=hB id c hc
   have eT:gi.TB id=g.TB id:=by simp only [gi];rw [if_pos hid]
   rw [eT]
   refine ⟨h1.gV rfl,fun b hb=>?_⟩
   simp only [gi,h3 b hb]
   rw [if_pos hid]
  ·simp only [gi]
   split
   ·rename_i hi
    rw [hgn] at hi
    exact (hB i _ (List.getElem?_eq_getElem hi)).2.1
   ·exact List.nodup_nil
  ·obtain ⟨i,rfl,_,h1⟩:=aeb b h ho
   have:=hown b _ h1
   exact ⟨.inr ⟨_,h1⟩,this.1,this.2⟩
  ·have hi:i < bs.length:=by rw [← Yz];exact (List.getElem?_eq_some_iff.1 h).1
   refine ⟨by simp only [gi];omega,?_⟩
   simp only [C,List.getElem?_map,List.getElem?_range hi,Option.map_some,Option.some.injEq] at h
   exact h
 refine calls_of_wp hf hb (wp_mono (h C rfl Yz gi _ w S) fun e a w' ⟨g1,st',S',hq⟩=>?_)
 have main:((∃ mo,tN st' (List.range bs'.length)=some mo∧dF mo bs')∧((∃ l u,r=.v u∧nX P st' fn.results.toList=some l∧ni l=true∧gq bs'.length l=true∧Fit (nD l) u)∨K8 fn st' bs'.length=some r)) →
  a.defers=[]∧∃ v,(results fn a.tmps).run P w'=.ok v w'∧∃ (v':Value) (T:List Nat) (g':G),Ending.returned v=.returned v'∧zo g g' w w'∧aV g' w' v' r T∧T.Nodup∧(∀ b∈T,g'.own b=some (.inl 0))∧pM g' w' bs':=by
  rintro ⟨⟨mo,agc,aec⟩,hres⟩
  refine ⟨S'.defers,?_⟩
  obtain ⟨hl1,hbx⟩:=FP agc
  have hloc:∀ i,i < bs.length→g1.loc i=g.loc i∧i < g1.n:=fun i hi=>by
   have:=S'.kY i (g.loc i) (by simp only [C,List.getElem?_map,List.getElem?_range hi,Option.map_some])
   exact ⟨this.2,this.1⟩
  have close:∀ (T:List Nat),(∀ b∈T,∃ h,g1.own b=some h∧∀ i,i < bs'.length→h≠.inr i) →
   ∃ g':G,g'.n=g.n∧(∀ i,i < g.n→g'.loc i=g.loc i)∧(∀ b,g1.aM b→g'.aM b)∧zo g g' w w'∧(∀ b∈T,g'.own b=some (.inl 0))∧pM g' w' bs':=by
   intro T hT
   refine ⟨{ aM:=fun b=>g.aM b∨g1.aM b,own:=fun b=>if b∈T then some (.inl 0) else (match g1.own b with
     | some (.inr i)=>if i < g.n then some (.inr i) else none
     | _=>none),n:=g.n,loc:=g.loc,TE:=fun _=>[],TB:=g1.TB },rfl,fun _ _=>rfl,fun _ h=>.inr h,?_,fun b hb=>by simp [hb],?_⟩
   ·have own':∀ b h,(if b∈T then some (Sum.inl 0) else match g1.own b with
     | some (.inr i)=>if i < g.n then some (Sum.inr i) else none
     | _=>none)=some h→∃ h',g1.own b=some h':=fun b h ho=>by
     split at ho
     ·rename_i hb
      obtain ⟨h',h1,_⟩:=hT b hb
      exact ⟨h',h1⟩
     ·split at ho
      ·rename_i i hi;exact ⟨_,hi⟩
      ·cases ho
    refine ⟨S'.os,S'.tape,S'.output,S'.size,fun b hb hn=>S'.frame b hb (fun ⟨h,hh⟩=>by rw [hn] at hh;cases hh),rfl,fun _ _=>rfl,fun b h=>.inl h,?_,?_,?_⟩
    ·rintro b (h | h)
     ·exact .inl h
     ·exact S'.aM b h
    ·rintro b (h | h)
     ·exact Nat.lt_of_lt_of_le (hp b h) S'.size
     ·exact S'.dJ b h
    ·intro b h ho
     obtain ⟨h',h1⟩:=own' b h ho
     obtain ⟨k1,k2,k3⟩:=S'.own b h' h1
     refine ⟨k1,k2,?_⟩
     rintro (h | h)
     ·rcases k1 with k1 | ⟨h'',k1⟩
      ·have:=hp b h
       have k1:w.heap.size≤b:=k1
       omega
      ·exact (hown b _ k1).2 h
     ·exact k3 h
   ·intro i d hd
    have hi:i < bs'.length:=(List.getElem?_eq_some_iff.1 hd).1
    obtain ⟨c1,hc1,fc⟩:=aec.get hd
    obtain ⟨c2,hc2,agd⟩:=hbx i i (by rw [List.getElem?_range hi])
    rw [hc1] at hc2
    cases hc2
    obtain ⟨h1,h2⟩:=S'.box i _ agd
    have hib:i < bs.length:=by rw [hNb];exact hi
    rw [(hloc i hib).1] at h1
    have h1:=h1.KX fc
    refine ⟨?_,S'.mK i,fun b hb=>?_⟩
    ·obtain ⟨cur,e,A,q1,q2,q3,q4⟩:=h1
     refine ⟨cur,e,A,q1,q2,?_,q4⟩
     exact (q3.ku.keep ⟨fun b hb=>.inr hb,fun _ _=>rfl⟩ (fun _ _=>rfl)).dv
    ·have w9:=h2 b hb
     have hnT:b∉T:=fun hm=>by
      obtain ⟨h',h3,h4⟩:=hT b hm
      rw [w9] at h3
      exact h4 i hi (Option.some.inj h3).symm
     show (if b∈T then _ else _)=_
     rw [if_neg hnT,w9]
     show (if i < g.n then _ else _)=_
     rw [if_pos (by rw [hgn];exact hib)]
  rcases hres with ⟨l,u,rfl,hl,hd,hlow,hfit⟩ | hres
  ·obtain ⟨vs',T,h1,h2,h3,h4⟩:=vk (P:=P) S' hl hd
   obtain ⟨g',n1,n2,n3,n4,n5,n6⟩:=close T (fun b hb=>by
    obtain ⟨q,u',h5,h6⟩:=h4 b hb
    exact ⟨_,h6,fun i hi=>vo hlow q u' h5 i hi⟩)
   have fin:∀ v,aS g1.aM w' v (nD l) T→(results fn a.tmps).run P w'=.ok v w'→∃ v,(results fn a.tmps).run P w'=.ok v w'∧∃ (v':Value) (T:List Nat) (g':G),Ending.returned v=.returned v'∧zo g g' w w'∧aV g' w' v' (.v u) T∧T.Nodup∧(∀ b∈T,g'.own b=some (.inl 0))∧pM g' w' bs':=fun v hR hrun =>
    ⟨v,hrun,v,T,g',rfl,n4,.v ((hR.keep ⟨n3,fun _ _=>rfl⟩ (fun _ _=>rfl)).fit hfit),h3,n5,n6⟩
   have hm:(results fn a.tmps).run P w'=.ok (if h:vs'.toArray.size=1 then vs'.toArray[0] else .tuple vs'.toArray) w':=by
    rw [FR,Sem.run_bind,Array.mapM_eq_mapM_toList,Sem.run_map,h1]
    rfl
   by_cases hsz:vs'.length=1
   ·match vs',h2,hm,hsz with
    | [v],h2,hm,_ =>
     have hll:l.length=1:=by have:=h2.length;simpa using this.symm
     match l,hll,h2,fin with
     | [(ro,u)],_,h2,fin =>
      generalize hT':T=T0 at h2 fin
      cases h2 with
      | @cons _ _ _ _ A B r1 r2 =>
       cases r2
       refine fin v (by rw [List.append_nil];exact r1) (by rw [hm];simp)
   ·refine fin (.tuple vs'.toArray) ?_ (by rw [hm];simp [hsz])
    have hll:l.length≠1:=by have:=h2.length;simp at this;omega
    have:nD l=.aC (l.map (·.2)):=by
     unfold nD
     split
     ·simp at hll
     ·rfl
    rw [this]
    exact .aC h2
  ·unfold K8 at hres
   split at hres
   ·rename_i t hrs
    split at hres
    ·rename_i d hl
     split at hres
     ·rename_i hno
      split at hres
      ·rename_i age
       cases hres
       obtain ⟨g',n1,n2,n3,n4,n5,n6⟩:=close [] (by simp)
       obtain ⟨_,hR,_⟩:=S'.env t _ hl
       have hR:aV g1 w' (a.tmps.getD t undef) r (g1.TE t):=hR
       have hT:=hR.bM hno
       rw [hT] at hR
       refine ⟨a.tmps.getD t undef,?_,_,[],g',rfl,n4,?_,List.nodup_nil,n5,n6⟩
       ·rw [FR,Sem.run_bind,Array.mapM_eq_mapM_toList,Sem.run_map,hrs]
        simp [nE]
       ·have h1:aV (g1.shrink bs'.length) w' (a.tmps.getD t undef) r []:=hR.shrink age
        have hn':(g1.shrink bs'.length).n=g'.n:=by rw [n1,hgn,hNb];rfl
        refine aV.keep (g:=g1.shrink bs'.length) ⟨n3,Nat.le_of_eq hn',fun i hi=>?_,fun _ _=>rfl⟩ h1 (fun _ h=>by cases h)
        have hi:i < bs'.length:=hi
        rw [n2 i (by rw [hgn,hNb];exact hi)]
        exact (hloc i (by rw [hNb];exact hi)).1.symm
      ·cases hres
     ·cases hres
    ·cases hres
   ·cases hres
 cases e with
 | normal=>exact main hq
 | ret=>exact main hq
 | _=>exact hq.elim
def Jk (P:Program) (fn:Func) (st:St) (n:Nat):Option (V × List (List V)):=match nX P st fn.results.toList with
 | some l=>match ni l with
  | true=>match gq n l with
   | true=>match tN st (List.range n) with
    | some bs=>some (nD l,bs)
    | none=>none
   | false=>none
  | false=>none
 | none=>none
theorem xJ {P:Program} {fn:Func} {st:St} {u r:V} {bs bs':List (List V)} {n:Nat} (hf:Fit u r) (Q6:dF bs bs') (h:Jk P fn st n=some (u,bs)) (hn:bs'.length=n):K9 P fn (.v r) bs' .normal st:=by
 subst hn
 unfold Jk at h
 split at h
 ·rename_i l hl
  split at h
  ·rename_i hd
   split at h
   ·rename_i hw
    split at h
    ·rename_i mo hb
     cases h
     exact ⟨⟨_,hb,Q6⟩,.inl ⟨l,r,rfl,hl,hd,hw,hf⟩⟩
    ·cases h
   ·cases h
  ·cases h
 ·cases h
theorem fU {P:Program} {fn:Func} {st:St} {u r:V} {bs bs':List (List V)} {n:Nat} (hf:Fit u r) (Q6:dF bs bs') (h:Jk P fn st n=some (u,bs)) (hn:bs'.length=n):K9 P fn (.v r) bs' .ret st:=xJ hf Q6 h hn
end Go.Rf
end
section
namespace Go.Rf
open Go.RowKit
set_option linter.unusedVariables false
set_option linter.unusedSimpArgs false
variable [cO]
def ren (p:List Nat) (id:Nat):Nat:=match idxOf id p with
 | some j=>j
 | none=>id
mutual
def D.ren (p:List Nat):D→D
 | .v x=>.v x
 | .ptr i o=>.ptr (Rf.ren p i) o
 | .agg cs=>.agg (tY p cs)
 | .aC cs=>.aC (tY p cs)
 | .fn f cs=>.fn f (tY p cs)
def tY (p:List Nat):List D→List D
 | []=>[]
 | d :: ds=>d.ren p :: tY p ds
end
def Root.ren (p:List Nat):Root→Root
 | .t x=>.t x
 | .b i c=>.b (Rf.ren p i) c
def Pl.ren (p:List Nat):Pl→Pl
 | .top r=>.top (r.ren p)
 | .jf r sz i j=>.jf (r.ren p) sz i j
def X.ren (p:List Nat):X→X
 | .d x=>.d (x.ren p)
 | .al q=>.al (q.ren p)
 | .pa r sz i j=>.pa (r.ren p) sz i j
 | .dead=>.dead
def zz (p:List Nat):List (Nat × X)→List (Nat × X)
 | []=>[]
 | (t,x) :: l=>(t,x.ren p) :: zz p l
def gM.ren (p:List Nat):gM→gM
 | .cells cs=>.cells (tY p cs)
 | b=>b
def Dq (p:List Nat) (bx:List gM):List gM:=p.map fun i=>match bx[i]? with
 | some b=>b.ren p
 | none=>.gone
def jH (p:List Nat) (n:Nat):Bool:=Nat.beq p.length n && ym p && p.all (fun i=>Nat.blt i n)
theorem Te (p:List Nat):∀ (l:List (Nat × X)) (t:Nat),look (zz p l) t=(look l t).map (X.ren p)
 | [],_=>rfl
 | (k,x) :: l,t=>by
  simp only [zz,look]
  cases Nat.beq t k with
  | true=>rfl
  | false=>exact Te p l t
section
variable {p:List Nat} {n:Nat}
theorem abo (hp:jH p n=true) {id:Nat} (hid:id < n):∃ j,idxOf id p=some j∧j < n:=by
 simp only [jH,Bool.and_eq_true] at hp
 obtain ⟨⟨h1,h2⟩,h3⟩:=hp
 have h1:=Nat.eq_of_beq_eq_true h1
 have h2:=Bt h2
 cases hj:idxOf id p with
 | some j=>exact ⟨j,rfl,by rw [← h1];exact (List.getElem?_eq_some_iff.1 (u6 hj)).1⟩
 | none =>
  exfalso
  have hn:=FO hj
  have hsub:p ⊆ (List.range n).erase id:=fun x hx=>by
   have hx':x < n:=by simpa using List.all_eq_true.1 h3 x hx
   exact (List.mem_erase_of_ne (fun e:x=id=>hn (by rw [← e];exact hx))).2 (List.mem_range.2 hx')
  have:=List.Nodup.length_le_of_subset h2 hsub
  rw [List.length_erase_of_mem (List.mem_range.2 hid),List.length_range] at this
  omega
theorem qo (hp:jH p n=true) {id:Nat} (hid:id < n):ren p id < n∧p[ren p id]? = some id:=by
 obtain ⟨j,h1,h2⟩:=abo hp hid
 simp only [ren,h1]
 exact ⟨h2,u6 h1⟩
theorem BZ (hp:jH p n=true) {id:Nat} (hid:¬ id < n):ren p id=id:=by
 simp only [jH,Bool.and_eq_true] at hp
 cases hj:idxOf id p with
 | some j =>
  have:=List.all_eq_true.1 hp.2 id (List.mem_of_getElem? (u6 hj))
  exact (hid (by simpa using this)).elim
 | none=>simp only [ren,hj]
theorem acn (hp:jH p n=true) {i j:Nat} (h:ren p i=ren p j):i=j:=by
 by_cases hi:i < n
 ·by_cases hj:j < n
  ·have h1:=(qo hp hi).2
   rw [h,(qo hp hj).2] at h1
   exact (Option.some.inj h1).symm
  ·rw [BZ hp hj] at h
   have:=(qo hp hi).1
   omega
 ·by_cases hj:j < n
  ·rw [BZ hp hi] at h
   have:=(qo hp hj).1
   omega
  ·rw [BZ hp hi,BZ hp hj] at h;exact h
end
def vY (p:List Nat):Nat ⊕ Nat→Nat ⊕ Nat
 | .inl t=>.inl t
 | .inr i=>.inr (ren p i)
def G.ren (g:G) (p:List Nat):G :=
 { aM:=g.aM,own:=fun b=>(g.own b).map (vY p),n:=g.n,loc:=fun k=>match p[k]? with
     | some i=>g.loc i
     | none=>g.loc k,TE:=g.TE,TB:=fun k=>match p[k]? with
     | some i=>g.TB i
     | none=>g.TB k }
section
variable {C:Ctx} {g:G} {st:St} {a:Act} {w:World} {p:List Nat}
theorem G.Ib (hp:jH p g.n=true) {id:Nat} (hid:id < g.n):(g.ren p).loc (Rf.ren p id)=g.loc id:=by simp only [G.ren,(qo hp hid).2]
theorem G.adk (hp:jH p g.n=true) {id:Nat} (hid:id < g.n):(g.ren p).TB (Rf.ren p id)=g.TB id:=by simp only [G.ren,(qo hp hid).2]
theorem Su (r:Root):(r.ren p).holder=vY p r.holder:=by cases r<;>rfl
theorem abp (hp:jH p g.n=true) {h k:Nat ⊕ Nat} (e:vY p h=vY p k):h=k:=by
 cases h<;>cases k<;>simp only [vY,Sum.inl.injEq,Sum.inr.injEq,reduceCtorEq] at e
 ·rw [e]
 ·rw [acn hp e]
theorem xQ (hp:jH p g.n=true) {b:Nat} {h:Nat ⊕ Nat}:(g.ren p).own b=some (vY p h)↔g.own b=some h:=by
 simp only [G.ren,Option.map_eq_some_iff]
 constructor
 ·rintro ⟨k,h1,h2⟩
  rw [h1,abp hp h2]
 ·intro h1;exact ⟨h,h1,rfl⟩
mutual
theorem aV.ren (hp:jH p g.n=true) {v:Value} {d:D} {T:List Nat}:aV g w v d T→aV (g.ren p) w v (d.ren p) T
 | .v h=>.v h
 | .ptr h=>by
  rw [← G.Ib hp h,D.ren]
  exact .ptr (qo hp h).1
 | .agg h=>by rw [D.ren];exact .agg (h.ren hp)
 | .aC h=>by rw [D.ren];exact .aC (h.ren hp)
 | .fn h=>by rw [D.ren];exact .fn (h.ren hp)
theorem cK.ren (hp:jH p g.n=true) {vs:List Value} {ds:List D} {T:List Nat}:cK g w vs ds T→cK (g.ren p) w vs (tY p ds) T
 | .nil=>.nil
 | .cons h1 h2=>by rw [tY];exact .cons (h1.ren hp) (h2.ren hp)
end
theorem Ic (hp:jH p g.n=true) {r:Root} {v:Value} (h:dY g a w r=some v):dY (g.ren p) a w (r.ren p)=some v:=by
 cases r with
 | t x=>exact h
 | b id c =>
  simp only [dY,Root.ren] at h ⊢
  split at h
  ·rename_i hc
   have e1:=G.Ib hp hc.1
   have e2:(g.ren p).own (g.loc id)=some (.inr (Rf.ren p id)):=(xQ hp (h:=.inr id)).2 hc.2
   rw [if_pos ⟨(qo hp hc.1).1,by rw [e1];exact e2⟩,e1]
   exact h
  ·cases h
theorem ko.ren (hp:jH p g.n=true) {v:Value} {x:X} {T:List Nat} (h:ko g a w v x T):ko (g.ren p) a w v (x.ren p) T:=by
 cases x with
 | d d=>exact aV.ren hp h
 | al q =>
  refine ⟨h.1,?_⟩
  have h:=h.2
  cases q with
  | top r=>exact Ic hp h
  | jf r sz i j =>
   simp only [pv,Pl.ren] at h ⊢
   cases hv:dY g a w r with
   | none=>rw [hv] at h;cases h
   | some u =>
    rw [hv] at h
    rw [Ic hp hv]
    simp only [Option.bind_some] at h ⊢
    cases hb:u.ownBlock with
    | none=>rw [hb] at h;cases h
    | some b =>
     rw [hb] at h
     simp only at h ⊢
     split at h
     ·rename_i ho
      rw [if_pos (by rw [Su];exact (xQ hp).2 ho)];exact h
     ·cases h
 | pa r sz i j =>
  obtain ⟨h1,b,h2,h3,h4⟩:=h
  refine ⟨h1,b,?_,by rw [Su];exact (xQ hp).2 h3,h4⟩
  cases hu:dY g a w r with
  | none=>rw [hu] at h2;cases h2
  | some u=>rw [hu] at h2;rw [Ic hp hu];exact h2
 | dead=>trivial
theorem aI.ren (S:aI C g st a w) (hp:jH p st.box.length=true) (hL:C.L.length=0∨∀ i,i < C.L.length→p[i]? = some i):aI C (g.ren p) ⟨zz p st.env,Dq p st.box⟩ a w:=by
 have hp':jH p g.n=true:=by rw [S.n];exact hp
 have hpl:p.length=g.n:=by simp only [jH,Bool.and_eq_true] at hp';exact Nat.eq_of_beq_eq_true hp'.1.1
 refine ⟨S.defers,S.tmps,S.os,S.tape,S.output,S.size,S.frame,S.aM,S.dJ,?_,?_,S.nU,?_,?_,?_,?_,S.tab⟩
 ·simp only [G.ren,Dq,List.length_map];exact hpl.symm
 ·intro t x hx
  simp only [Te] at hx
  cases hl:look st.env t with
  | none=>rw [hl] at hx;cases hx
  | some y =>
   rw [hl] at hx
   simp only [Option.map_some,Option.some.injEq] at hx
   subst hx
   obtain ⟨h1,h2,h3⟩:=S.env t y hl
   exact ⟨h1,ko.ren hp' h2,fun b hb=>(xQ hp' (h:=.inl t)).2 (h3 b hb)⟩
 ·intro k b hb
  simp only [Dq,List.getElem?_map,Option.map_eq_some_iff] at hb
  obtain ⟨i,hi,rfl⟩:=hb
  have hin:i < g.n:=by
   simp only [jH,Bool.and_eq_true] at hp'
   simpa using List.all_eq_true.1 hp'.2 i (List.mem_of_getElem? hi)
  have hil:i < st.box.length:=by rw [← S.n];exact hin
  have hk:Rf.ren p i=k:=by
   have hd:p.Nodup:=by simp only [jH,Bool.and_eq_true] at hp';exact Bt hp'.1.2
   exact Gc hd (qo hp' hin).2 hi
  obtain ⟨b0,hb0⟩:∃ b0,st.box[i]? = some b0:=⟨_,List.getElem?_eq_getElem hil⟩
  obtain ⟨h1,h2⟩:=S.box i b0 hb0
  rw [hb0,← hk,G.Ib hp' hin,G.adk hp' hin]
  refine ⟨?_,fun b hb=>(xQ hp' (h:=.inr i)).2 (h2 b hb)⟩
  cases b0 with
  | cells cs =>
   obtain ⟨cur,e,A,q1,q2,q3,q4⟩:=h1
   exact ⟨cur,e,A,q1,q2,q3.ren hp',q4⟩
  | iter s pos=>exact h1
  | gone=>exact h1
 ·intro k
  simp only [G.ren]
  split
  ·exact S.mK _
  ·exact S.mK _
 ·intro b h ho
  simp only [G.ren,Option.map_eq_some_iff] at ho
  obtain ⟨k,h1,_⟩:=ho
  exact S.own b k h1
 ·intro i l h
  obtain ⟨h1,h2⟩:=S.kY i l h
  have hlt:=(List.getElem?_eq_some_iff.1 h).1
  refine ⟨h1,?_⟩
  rcases hL with hL | hL
  ·omega
  ·simp only [G.ren,hL i hlt];exact h2
end
theorem aI.qY {C:Ctx} {g:G} {st:St} {a:Act} {w:World} (S:aI C g st a w) {t id off:Nat} {us:List V} (ht:look st.env t=some (.d (.ptr id off))) (hb:st.box[id]? = some (.cells (dv us))) :
 ∃ g',aI C g' { env:=(t,.d (.v (.pt ((aZ us).drop off)))) :: kill (jN id) st.env,box:=st.box.set id .gone } a w:=by
 obtain ⟨Aw,htx,hto⟩:=S.env t _ ht
 have htx:aV g w (a.tmps.getD t undef) (.ptr id off) (g.TE t):=htx
 obtain ⟨⟨cur,el,A,hT,hh,hr,hc1⟩,hown⟩:=S.box id _ hb
 have hid:id < st.box.length:=(List.getElem?_eq_some_iff.1 hb).1
 have hTt:g.TE t=[]:=htx.bM rfl
 have hx:a.tmps.getD t undef=.pointer (some ⟨g.loc id,off,none⟩):=by
  generalize a.tmps.getD t undef=v at htx
  generalize g.TE t=T at htx
  cases htx
  rfl
 let g':G:={ g with aM:=g.aM.share (g.TB id),own:=fun b=>if b∈g.TB id then none else g.own b,TB:=fun i=>if i=id then [] else g.TB i }
 have k:dG g g' w w:=⟨fun b hb=>.inl hb,Nat.le_refl _,fun _ _=>rfl,fun _ _=>rfl⟩
 have hm:∀ b h,g.own b=some h→h≠.inr id→b∉g.TB id:=fun b h ho hn hb=>hn (by rw [hown b hb] at ho;exact (Option.some.inj ho).symm)
 refine ⟨g',S.change (fun h=>h=.inr id) S.defers S.tmps rfl rfl rfl (Nat.le_refl _) (fun b hb=>.inl hb) ?_ ?_ (by simpa using S.n) (Nat.le_refl _) (fun _ _=>rfl) (fun _ _ _=>rfl) ?_ ?_ ?_ ?_ ?_ ?_ ?_ ?_⟩
 ·rintro b (hb | hb)
  ·exact .inl hb
  ·exact .inr (.inr ⟨_,hown b hb⟩)
 ·rintro b (hb | hb)
  ·exact S.dJ b hb
  ·exact (S.own b _ (hown b hb)).2.1
 ·intro b h ho hc
  simp only [g']
  rw [if_neg (hm b h ho hc),ho]
 ·intro t' _;exact ⟨rfl,rfl⟩
 ·intro i hi
  have hi':i≠id:=fun e=>hi (by rw [e])
  exact ⟨by simp [g',hi'],by rw [List.getElem?_set_ne (fun e=>hi' e.symm)]⟩
 ·intro s y hy
  simp only [look] at hy
  cases hbq:Nat.beq s t with
  | true =>
   have:=Nat.eq_of_beq_eq_true hbq
   subst this
   rw [hbq] at hy
   cases hy
   have eT:g'.TE s=[]:=hTt
   refine .inr ⟨Aw,?_,by rw [eT];simp⟩
   rw [eT,hx]
   have hsh:=(hr.ku.share (S:=g.TB id) (fun b hb=>by rw [hT];simp [hb]))
   obtain ⟨A1,B1,gD,_,hd⟩:=hsh.cut off
   have hB:=(List.append_eq_nil_iff.1 gD.symm).2
   subst hB
   refine .v (.pt hd (fun u hu=>hc1 u (List.mem_of_mem_drop hu)) (.inr (by rw [hT];simp)) (fun j u hj=>?_))
   rw [List.getElem?_drop] at hj
   simp only [World.cell?,hh]
   simpa using hj
  | false =>
   rw [hbq] at hy
   simp only [mX] at hy
   refine .inl ⟨(fun e=>by cases e),?_⟩
   cases hl:look st.env s with
   | none=>rw [hl] at hy;cases hy
   | some z =>
    rw [hl] at hy
    simp only [Option.map_some,Option.some.injEq] at hy
    by_cases hdd:y=.dead
    ·exact .inr ⟨hdd,z,rfl⟩
    ·rcases X.iQ (jN id) z with h | ⟨h,_⟩
     ·exact (hdd (by rw [← hy,h])).elim
     ·rw [h] at hy
      subst hy
      exact .inl ⟨rfl,X.uV (q:=.b id 0) h hdd⟩
 ·intro i b hb' hc
  cases hc
  rw [List.getElem?_set_self hid] at hb'
  cases hb'
  have:g'.TB id=[]:=by simp [g']
  rw [this]
  exact ⟨rfl,by simp⟩
 ·intro s hs;cases hs
 ·intro i hi
  cases hi
  simp [g']
 ·intro b h ho
  simp only [g'] at ho
  split at ho
  ·cases ho
  ·rename_i hnb
   refine .inl ⟨ho,?_⟩
   rintro (h1 | h1)
   ·exact (S.own b h ho).2.2 h1
   ·exact hnb h1
theorem Good.WT {P:Program} {C:Ctx} {Q:Exit→St→Prop} {st:St} (id:Nat) {us ds:List V} {c:Code} (hb:st.box[id]? = some (.cells (dv us))) (f:dH us ds) (h:Good P C c Q { st with box:=st.box.set id (.cells (dv ds)) }):Good P C c Q st :=
 (Wk.box id hb f (fun g a w S=>⟨g,S⟩)).good h
def VE (t id off:Nat) (us':List V) (st:St):St:={ env:=(t,.d (.v (.pt us'))) :: kill (jN id) st.env,box:=st.box.set id .gone }
theorem Good.qY {P:Program} {C:Ctx} {Q:Exit→St→Prop} {st:St} (t id off:Nat) {us us':List V} {c:Code} (ht:look st.env t=some (.d (.ptr id off))) (hb:st.box[id]? = some (.cells (dv us))) (hu:(aZ us).drop off=us') (h:Good P C c Q (VE t id off us' st)):Good P C c Q st:=fun g a w S=>by
 subst hu
 obtain ⟨g',S'⟩:=S.qY ht hb
 exact h g' a w S'
theorem Wk.aM {C:Ctx} {st st':St} (t id off:Nat) {us us':List V} (ht:look st.env t=some (.d (.ptr id off))) (hb:st.box[id]? = some (.cells (dv us))) (hu:(aZ us).drop off=us') (h:Wk C (VE t id off us' st) st'):Wk C st st':=fun g a w S=>by
 subst hu
 obtain ⟨g',S'⟩:=S.qY ht hb
 exact h g' a w S'
end Go.Rf
end
section
namespace Go.Rf
open Go.RowKit
set_option linter.unusedVariables false
set_option linter.unusedSimpArgs false
variable [cO]
abbrev S (s:ByteArray):V:=.lit (.string s)
abbrev I (n:Int):V:=.lit (.int .i64 n)
abbrev K (k:IntKind) (n:Int):V:=.lit (.int k n)
abbrev B (b:Bool):V:=.lit (.bool b)
abbrev Fl (n:Nat):V:=.lit (.float .f64 n)
abbrev Cx (p:Nat × Nat):V:=.lit (.complex .f64 p.1 p.2)
section
variable {P:Program} {C:Ctx} {Q:Exit→St→Prop} {st st':St}
def agf (I:St→Prop) (Q:Exit→St→Prop):Exit→St→Prop
 | .normal,st=>I st
 | e,st=>Q e st
theorem Good.cut (I:St→Prop) {c:Code} (h:Good P C c (agf I Q) st) (k:∀ st,I st→Q .normal st):Good P C c Q st :=
 h.mono fun e st h=>by
  cases e with
  | normal=>exact k st h
  | _=>exact h
theorem tL.mono {c:Code}:∀ {m n:Nat} {st:St},m≤n→tL P C c Q m st→tL P C c Q n st
 | 0,_,_,_,h=>h.elim
 | m+1,0,_,h,_=>by omega
 | m+1,n+1,st,h,r=>Good.mono r fun e st' h'=>by
  cases e with
  | normal=>exact tL.mono (Nat.le_of_succ_le_succ h) h'
  | _=>exact h'
theorem Good.dK {x:Code} (I:Nat→St→Prop) (n:Nat) (h0:I n st) (hs:∀ n,(∀ st,¬ I 0 st)∧∀ st,I (n+1) st→Good P C x (thenS (fun st=>∃ m,m≤n∧I m st) Q) st):Good P C (.loop x) Q st:=by
 refine Good.loop n ?_
 have all:∀ n m st,m≤n→I m st→tL P C x Q m st:=by
  intro n
  induction n with
  | zero =>
   intro m st hm h
   have:m=0:=by omega
   subst this
   exact ((hs 0).1 st h).elim
  | succ n ih =>
   intro m st hm h
   cases m with
   | zero=>exact ((hs 0).1 st h).elim
   | succ m =>
    refine ((hs m).2 st h).mono fun e st' h'=>?_
    cases e with
    | normal =>
     obtain ⟨m',hm',hI⟩:=h'
     exact (ih m' st' (by omega) hI).mono hm'
    | _=>exact h'
 exact all n n st (Nat.le_refl _) h0
theorem Good.share (t:Nat) {d u:D} {c:Code} (ht:look st.env t=some (.d d)) (hu:d.shr=u) (h:Good P C c Q (st.kr t (.d u))):Good P C c Q st:=fun g a w S=>by
 subst hu
 exact h _ a w (S.jY ht).2
end
theorem aR {α:Type} (f:α→V) (l:List α):((l.map f).length:Int)=(l.length:Int):=by rw [List.length_map]
theorem eF {α:Type} (f:α→V) {l:List α} {n:Int} (c:n < (l.length:Int)):n < ((l.map f).length:Int):=by rw [List.length_map];exact c
theorem sF {α:Type} (f:α→V) {l:List α} {n:Int} {m:Nat} {X:V} (c:n < (l.length:Int)):n < (((l.map f).set m X).length:Int):=by rw [List.length_set,List.length_map];exact c
theorem uI {α:Type} (f:α→V) {l:List α} {n:Int} (c:n≤(l.length:Int)):n≤((l.map f).length:Int):=by rw [List.length_map];exact c
theorem aG {α:Type} (f:α→V) (d:α) {l:List α} {n:Int} (h0:0≤n) (c:n < (l.length:Int)):(l.map f)[n.toNat]? = some (f (l.getD n.toNat d)):=by
 have:n.toNat < l.length:=by omega
 rw [List.getElem?_map,List.getD_eq_getElem?_getD,List.getElem?_eq_getElem this]
 rfl
theorem Dr {α:Type} (f:α→V) {l:List α} {n:Nat} {x:α}:(l.map f).set n (f x)=(l.set n x).map f:=by rw [List.map_set]
theorem sG {α:Type} (f:α→V) {l:List α} {n:Int} {X:V} (h0:0≤n) (c:n < (l.length:Int)):((l.map f).set n.toNat X)[n.toNat]? = some X:=by
 by_cases h:n.toNat < l.length
 ·rw [List.getElem?_set_self (by rw [List.length_map];exact h)]
 ·omega
theorem setH {α:Type} (f:α→V) {l:List α} {n:Nat} {X:V} {x:α}:((l.map f).set n X).set n (f x)=(l.set n x).map f:=by rw [List.set_set,List.map_set]
theorem dL {α:Type} (f:α→V) (l m:List α) {es:List V} (h:dH es (m.map f)):dH (l.map f++es) ((l++m).map f):=by
 rw [List.map_append];exact (dH.refl _).app h
theorem VF {α:Type} (f:α→V) {l:List α} {n:Nat}:(l.map f).take n=(l.take n).map f:=List.map_take.symm
theorem agh {α:Type} (f:α→V) {l:List α} {n m:Nat}:((l.map f).drop n).take (m - n)=((l.take m).drop n).map f:=by
 rw [List.drop_take,List.map_take,List.map_drop]
theorem Ca {α:Type} (f:α→V) {l:List α} {n:Nat}:((l.map f).drop n).take ((l.map f).length - n)=(l.drop n).map f:=by
 rw [List.take_of_length_le (by rw [List.length_drop];exact Nat.le_refl _),List.map_drop]
theorem aP {α:Type} (o:Option Nat) (sz:Nat) (f g:α→V) (l:List α) (h:∀ x,(f x).shr=g x):(V.row o sz (l.map f)).shr=.row none sz (l.map g):=by
 rw [V.shr,qi,List.map_map]
 congr 1
 exact List.map_congr_left fun x _=>h x
theorem dE {α:Type} [BEq α] [LawfulBEq α] {a b:α} (h:a=b):(a != b)=false:=by rw [h];exact bne_self_eq_false b
theorem ed {b:Bool} (h:b=false):(!b)=true:=by rw [h];rfl
theorem eH {b:Bool} (h:b=true):(!b)=false:=by rw [h];rfl
theorem ifN {α:Type} {p:Prop} [Decidable p] {x:Option α} {r:α} (h:(if p then none else x)=some r):¬ p∧x=some r:=by
 by_cases c:p
 ·rw [if_pos c] at h;cases h
 ·rw [if_neg c] at h;exact ⟨c,h⟩
theorem eU (l:List UInt8):(⟨l.toArray⟩:ByteArray).toList=l:=by rw [ByteArray.toList_eq]
end Go.Rf
end
section
namespace Go.Rf
open Go.RowKit
set_option linter.unusedVariables false
variable [cO]
def vG (l:Nat):List (Nat × Code × (Nat→St→Prop))→Option (Nat→St→Prop)
 | []=>none
 | (k,_,I) :: ls=>match Nat.beq l k with
  | true=>some I
  | false=>vG l ls
def Cs (c:Code) (ls:List (Nat × Code × (Nat→St→Prop))) (b:Nat→Prop) (Q:Exit→St→Prop):Exit→St→Prop
 | .goto l,st=>match vG l ls with
  | some I=>∃ n,b n∧I n st
  | none=>findLabel c l=none∧Q (.goto l) st
 | e,st=>Q e st
theorem Tf {l:Nat}:∀ {ls:List (Nat × Code × (Nat→St→Prop))} {I:Nat→St→Prop},vG l ls=some I→∃ R,(l,R,I)∈ls
 | [],_,h=>by simp [vG] at h
 | (k,R,I') :: ls,I,h=>by
  simp only [vG] at h
  split at h
  ·rename_i hb
   cases h
   rw [Nat.eq_of_beq_eq_true hb]
   exact ⟨R,by simp⟩
  ·obtain ⟨R',hm⟩:=Tf h
   exact ⟨R',by simp [hm]⟩
theorem All.get {α:Type} {f:α→Prop}:∀ {l:List α},All (l.map f)→∀ x∈l,f x
 | [],_,x,h=>by cases h
 | y :: l,.cons h t,x,hx=>by
  rcases List.mem_cons.1 hx with rfl | hx
  ·exact h
  ·exact t.get x hx
theorem Good.scope {P:Program} {C:Ctx} {c:Code} {Q:Exit→St→Prop} {st:St} (ls:List (Nat × Code × (Nat→St→Prop))) (hR:All (ls.map fun x=>findLabel c x.1=some x.2.1))
 (first:Good P C c (Cs c ls (fun _=>True) Q) st) (pass:All (ls.map fun x=>∀ n st,x.2.2 n st→Good P C x.2.1 (Cs c ls (fun m=>m < n) Q) st)):Good P C (.scope c) Q st:=by
 intro g a w S b k cs
 have hg:∀ l R,findLabel c l=some R→gotoIn l (.inScope c :: k)=some (.code R :: .inScope c :: k):=fun l R hf=>by simp [gotoIn,hf]
 have key:∀ n l I g st a w,vG l ls=some I→I n st→aI C g st a w→∃ R,findLabel c l=some R∧∃ e a' w',(∃ g st,aI C g st a' w'∧Q e st)∧Arrives P (lone (b.at a (.code R :: .inScope c :: k)) cs w) b k cs e a' w':=by
  intro n
  induction n using Nat.strongRecOn with
  | _ n ih =>
   intro l I g st a w hl hI S
   obtain ⟨R,hm⟩:=Tf hl
   have hf:findLabel c l=some R:=hR.get _ hm
   refine ⟨R,hf,?_⟩
   obtain ⟨e,a₁,w₁,⟨g₁,mf,mh,hq⟩,harr⟩:=pass.get _ hm n st hI g a w S b (.inScope c :: k) cs
   cases e with
   | normal=>exact ⟨.normal,a₁,w₁,⟨g₁,mf,mh,hq⟩,Steps.trans harr (.one step_inScope)⟩
   | exit id=>exact ⟨.exit id,a₁,w₁,⟨g₁,mf,mh,hq⟩,fun k' hk=>harr k' (by simp [exitTo,hk])⟩
   | goto l' =>
    simp only [Cs] at hq
    split at hq
    ·rename_i I' hl'
     obtain ⟨n',hlt,hI'⟩:=hq
     obtain ⟨R',hf',e₂,a₂,w₂,hq₂,harr₂⟩:=ih n' hlt l' I' g₁ mf a₁ w₁ hl' hI' mh
     exact ⟨e₂,a₂,w₂,hq₂,.of_steps (harr _ (hg l' R' hf')) harr₂⟩
    ·exact ⟨.goto l',a₁,w₁,⟨g₁,mf,mh,hq.2⟩,fun k' hk=>harr k' (by simp [gotoIn,hq.1,hk])⟩
   | ret=>exact ⟨_,a₁,w₁,⟨g₁,mf,mh,hq⟩,harr⟩
   | panic ch=>exact ⟨_,a₁,w₁,⟨g₁,mf,mh,hq⟩,harr⟩
   | outgrown=>exact ⟨_,a₁,w₁,⟨g₁,mf,mh,hq⟩,harr⟩
 obtain ⟨e,a₁,w₁,⟨g₁,mf,mh,hq⟩,harr⟩:=first g a w S b (.inScope c :: k) cs
 cases e with
 | normal=>exact ⟨.normal,a₁,w₁,⟨g₁,mf,mh,hq⟩,.head step_scope (Steps.trans harr (.one step_inScope))⟩
 | exit id=>exact ⟨.exit id,a₁,w₁,⟨g₁,mf,mh,hq⟩,fun k' hk=>.head step_scope (harr k' (by simp [exitTo,hk]))⟩
 | goto l' =>
  simp only [Cs] at hq
  split at hq
  ·rename_i I' hl'
   obtain ⟨n',_,hI'⟩:=hq
   obtain ⟨R',hf',e₂,a₂,w₂,hq₂,harr₂⟩:=key n' l' I' g₁ mf a₁ w₁ hl' hI' mh
   exact ⟨e₂,a₂,w₂,hq₂,.of_steps (.head step_scope (harr _ (hg l' R' hf'))) harr₂⟩
  ·exact ⟨.goto l',a₁,w₁,⟨g₁,mf,mh,hq.2⟩,fun k' hk=>.head step_scope (harr k' (by simp [gotoIn,hq.1,hk]))⟩
 | ret=>exact ⟨_,a₁,w₁,⟨g₁,mf,mh,hq⟩,.of_steps (.one step_scope) harr⟩
 | panic ch=>exact ⟨_,a₁,w₁,⟨g₁,mf,mh,hq⟩,.of_steps (.one step_scope) harr⟩
 | outgrown=>exact ⟨_,a₁,w₁,⟨g₁,mf,mh,hq⟩,.of_steps (.one step_scope) harr⟩
end Go.Rf
end
section
namespace Go.Rf
open Go.RowKit
set_option linter.unusedVariables false
variable [cO]
def sH (o e:Nat):Option Nat:=match o with
 | 0=>none
 | _+1=>some e
def rd (xs:List Int) (i:Int):Int:=xs.getD i.toNat 0
def gI {α:Type} (d:α) (xs:List α) (i:Int):α:=xs.getD i.toNat d
def bytesOf (s:ByteArray):List Int:=s.data.toList.map fun b=>(b.toNat:Int)
theorem oH {α β:Type} {a:α} {f:α→Option β} {r:Option β} (h:(some a).bind f=r):f a=r:=h
theorem VG {α:Type} (f:α→V) (n:Nat) (x:α):List.replicate n (f x)=(List.replicate n x).map f:=by rw [List.map_replicate]
theorem aed {m:Int} {L:Nat} (h:m.toNat≤L):m≤(L:Int):=by omega
theorem aA {a a':V} {l l':List V} (h:a.shr=a') (t:aZ l=l'):aZ (a :: l)=a' :: l':=by rw [aZ,h,t]
theorem bV {l l':List V} (h:aZ l=l'):V.pt (aZ l)=.pt l':=by rw [h]
theorem WU {l l':List V} (h:aZ l=l'):(V.agg l).shr=.agg l':=by rw [V.shr,h]
theorem dZ {α:Type} (f:α→V) {l:List α} {L:Nat} (c:l.length < L):(l.map f).length+1≤L:=by rw [List.length_map];exact c
theorem VH {α:Type} (f:α→V) {l:List α} {n L:Nat} (c:l.length+n < L):(l.map f).length+n≤L:=by rw [List.length_map];omega
theorem yo {α β:Type} (f:α→V) (g:β→V) {l:List α} {m:List β} {L:Nat} (c:l.length+m.length < L):(l.map f).length+(m.map g).length≤L:=by rw [List.length_map,List.length_map];omega
theorem aaa (s:ByteArray):jo s=(bytesOf s).map (K .u8):=by
 unfold jo bytesOf
 rw [List.map_map];rfl
theorem Dt (l:List Int) (s:ByteArray):dH (l.map (K .u8)++jo s) ((l++bytesOf s).map (K .u8)):=by
 rw [List.map_append,aaa];exact dH.refl _
theorem Du (f:Int→V) {l:List Int} {s:ByteArray} {L:Nat} (c:l.length+s.size < L):(l.map f).length+(jo s).length≤L:=by
 rw [List.length_map,jo,List.length_map,Array.length_toList]
 exact Nat.le_of_lt c
theorem mO (l:List Int):BV (l.map (K .u8)) (strOfNums l):=⟨l,rfl,rfl⟩
theorem fA {a b l m:List UInt8} (h:a=l) (k:b=m):Value.bool (a == b)=.bool (l == m):=by rw [h,k]
theorem VJ {a b l m:List UInt8} (h:a=l) (k:b=m):Value.bool (!(a == b))=.bool (l != m):=by rw [h,k];rfl
theorem Dv {o:Option Nat} {sz:Nat} {m n:List V} (h:dH m n):Fit (.row o sz m) (.row o sz n):=.row h
end Go.Rf
end
section
namespace Go.Rf
open Go.RowKit
set_option linter.unusedVariables false
set_option linter.unusedSimpArgs false
variable [cO]
def dC {α:Type} (P:Program) (s:Sem α):Prop:=∀ w w' w1 x,s.run P w=.ok x w1→w1=w∧s.run P w'=.ok x w'
section
variable {P:Program} {α β:Type}
theorem dC.pure (a:α):dC P (pure a:Sem α):=fun w w' w1 x h=>by
 simp only [Sem.run_pure,Result.ok.injEq] at h ⊢
 obtain ⟨rfl,rfl⟩:=h
 exact ⟨rfl,by simp⟩
theorem dC.halt (h:Halt):dC P (.halt h:Sem α):=fun w w' w1 x hh=>by cases hh
theorem dC.stuck (s:String):dC P (Go.stuck s:Sem α):=.halt _
theorem dC.Jl (s:Unsupported):dC P (unsupported s:Sem α):=.halt _
theorem dC.bind {x:Sem α} {f:α→Sem β} (hx:dC P x) (hf:∀ a,dC P (f a)):dC P (x >>= f):=fun w w' w1 b h=>by
 simp only [Sem.run_bind] at h ⊢
 cases hr:x.run P w with
 | ok a w2 =>
  rw [hr] at h
  simp only [Result.andThen_ok] at h
  obtain ⟨rfl,e⟩:=hx w w' w2 a hr
  rw [e]
  simp only [Result.andThen_ok]
  exact hf a w2 w' w1 b h
 | halt q w2=>rw [hr] at h;cases h
theorem dC.prog:dC P program:=fun w w' w1 x h=>by
 simp only [run_program,Result.ok.injEq] at h ⊢
 obtain ⟨rfl,rfl⟩:=h
 exact ⟨rfl,by simp⟩
theorem dC.underlying (t:TypeId):dC P (underlying t):=by
 unfold Go.underlying
 refine .bind .prog fun p=>?_
 split
 ·exact .pure _
 ·exact .stuck _
theorem dC.info (t:TypeId):dC P (typeInfo t):=by
 unfold typeInfo
 refine .bind .prog fun p=>?_
 split
 ·exact .pure _
 ·exact .stuck _
theorem dC.sizeOf (t:TypeId):dC P (sizeOf t):=.bind (.info t) fun i=>.pure _
theorem dC.isAgg (t:TypeId):dC P (isAgg t):=by
 unfold Go.isAgg
 refine .bind (.underlying t) fun d=>?_
 split<;>exact .pure _
theorem dC.part (t:TypeId) (cs:Array Value) (o:Nat):dC P (part t cs o):=by
 unfold Go.part
 refine .bind (.isAgg t) fun b=>?_
 split
 ·exact .bind (.sizeOf t) fun n=>.pure _
 ·split
  ·exact .pure _
  ·exact .stuck _
theorem dC.asIntOf (v:Value):dC P (asIntOf v):=by
 unfold Go.asIntOf
 split
 ·exact .pure _
 ·exact .Jl _
 ·exact .stuck _
theorem dC.asBool (v:Value):dC P (asBool v):=by
 unfold Go.asBool
 split
 ·exact .pure _
 ·exact .stuck _
theorem dC.asAgg (v:Value):dC P (asAgg v):=by
 unfold Go.asAgg
 split
 ·exact .pure _
 ·exact .stuck _
theorem dC.sureAddr (v:Value):dC P (Instr.sureAddr v):=by
 unfold Instr.sureAddr
 split
 ·exact .pure _
 ·exact .stuck _
def nk {α:Type} (P:Program) (s:Sem α):Prop:=∀ w w1 x,s.run P w≠.ok x w1
theorem nk.indep {s:Sem α} (h:nk P s):dC P s:=fun w w' w1 x hh=>(h w w1 x hh).elim
theorem nk.halt (h:Halt):nk P (.halt h:Sem α):=fun w w1 x hh=>by cases hh
theorem nk.bind {x:Sem α} {f:α→Sem β} (hf:∀ a,nk P (f a)):nk P (x >>= f):=fun w w1 b h=>by
 simp only [Sem.run_bind] at h
 cases hr:x.run P w with
 | ok a w2=>rw [hr] at h;exact hf a _ _ _ h
 | halt q w2=>rw [hr] at h;cases h
theorem nk.rt (e:RuntimeError):nk P (runtimePanic e:Sem α):=by
 unfold runtimePanic
 refine .bind fun p=>?_
 cases e<;>first | exact .halt _ | (unfold goPanic;exact .halt _) | (unfold goPanic;exact .bind fun _=>.bind fun _=>.halt _)
theorem nk.bounds (k:IntKind) (x y:Int) (c:BoundsCode):nk P (boundsPanic k x y c:Sem α):=by
 unfold boundsPanic
 dsimp only
 split<;>exact .bind fun b=>.rt _
theorem dC.zero (t:TypeId):dC P (zeroValue t):=by
 unfold zeroValue
 refine .bind (.info t) fun i=>?_
 split
 ·exact .pure _
 ·exact .Jl _
theorem dC.indexAt (t:TypeId) (x i:Value):dC P (Instr.indexAt t x i):=by
 unfold Instr.indexAt
 repeat' (first | exact .pure _ | exact .stuck _ | exact .Jl _ | exact (nk.bounds _ _ _ _).indep | exact .sizeOf _ | exact .underlying _ | exact .sureAddr _ | exact .asIntOf _ | (refine .bind ?_ fun q=>?_) | split | dsimp only)
theorem dC.extract (x:Value) (i:Nat):dC P (Instr.extract x i):=by
 unfold Instr.extract
 repeat' (first | exact .pure _ | exact .stuck _ | split)
theorem dC.field (t:TypeId) (x:Value) (i:Nat):dC P (Instr.field t x i):=by
 unfold Instr.field
 repeat' (first | exact .pure _ | exact .stuck _ | exact .underlying _ | exact .asAgg _ | exact .part _ _ _ | (refine .bind ?_ fun q=>?_) | split)
theorem dC.index (t:TypeId) (x i:Value):dC P (Instr.index t x i):=by
 unfold Instr.index
 repeat' (first | exact .pure _ | exact .stuck _ | exact (nk.bounds _ _ _ _).indep | exact .sizeOf _ | exact .underlying _ | exact .asIntOf _ | exact .part _ _ _ | (refine .bind ?_ fun q=>?_) | split | dsimp only)
theorem dC.mapM {α β:Type} {f:α→Sem β} (hf:∀ a,dC P (f a)):∀ l:List α,dC P (l.mapM f)
 | []=>by rw [List.mapM_nil];exact .pure _
 | a :: l=>by
  rw [List.mapM_cons]
  exact .bind (hf a) fun b=>.bind (dC.mapM hf l) fun bs=>.pure _
theorem dC.mapA {α β:Type} {f:α→Sem β} (hf:∀ a,dC P (f a)) (l:Array α):dC P (l.mapM f):=by
 rw [Array.mapM_eq_mapM_toList]
 intro w w' w1 x h
 simp only [Sem.run_map] at h ⊢
 cases hr:(l.toList.mapM f).run P w with
 | ok a w2 =>
  rw [hr] at h
  obtain ⟨e1,e2⟩:=dC.mapM hf l.toList w w' w2 a hr
  rw [e2]
  simp only [Result.andThen_ok,Result.ok.injEq] at h ⊢
  exact ⟨by rw [← h.2,e1],h.1,trivial⟩
 | halt q w2=>rw [hr] at h;cases h
theorem dC.build (t:TypeId) (ps:Array (Nat × Value)):dC P (Instr.build t ps):=by
 unfold Instr.build
 repeat' (first | exact .pure _ | exact .stuck _ | exact .zero _ | exact .sizeOf _ | exact .underlying _ | exact .mapA (fun f=>.bind (.sizeOf _) fun _=>.pure _) _ | (refine .bind ?_ fun q=>?_) | split)
end
end Go.Rf
end
section
namespace Go.Rf
open Go.RowKit
set_option linter.unusedVariables false
set_option linter.unusedSimpArgs false
variable [cO]
section
variable {P:Program}
def qZ (ρ:Operand→Value):Op→Bool
 | .move _ | .assign _ | .field _ _ _ | .extract _ _ | .build _ _ | .indexAddr _ _ _ | .pick _ _ _=>true
 | .nilCheck x=>match ρ x with
  | .pointer (some _)=>true
  | _=>false
 | _=>false
theorem dC.op {ρ:Operand→Value} {o:Oper} (h:qZ ρ o.op=true):dC P (execOp ρ o):=by
 unfold execOp
 cases ho:o.op<;>rw [ho] at h<;>simp only [qZ] at h<;>try (cases h;done)
 all_goals dsimp only
 case move=>exact .pure _
 case assign=>exact .pure _
 case pick=>exact .bind (.asBool _) fun _=>.pure _
 case build=>exact .bind (.build _ _) fun _=>.pure _
 case field=>exact .bind (.field _ _ _) fun _=>.pure _
 case indexAddr=>exact .bind (.indexAt _ _ _) fun _=>.pure _
 case extract=>exact .bind (.extract _ _) fun _=>.pure _
 case nilCheck x =>
  split at h
  ·rename_i a hx;rw [hx];exact .pure _
  ·cases h
end
def Ctx.still (p:bB) (w:World) (N:Nat):Ctx:={ W:=w,p0:=p,Fz:=fun _=>False,N:=N }
def jB (p:bB) (N:Nat) (q:List (Nat × X)) (a:Act) (w:World):Prop:=∃ g,aI (Ctx.still p w N) g ⟨q,[]⟩ a w
section
variable {P:Program} {C:Ctx}
theorem jB.agi {p:bB} {N:Nat} {q:List (Nat × X)} {g:G} {a:Act} {w:World} (S:aI (Ctx.still p w N) g ⟨q,[]⟩ a w) (b:Nat) (h:g.aM b):p b:=by
 rcases S.aM b h with h1 | h1 | h1
 ·exact h1
 ·have:=S.dJ b h
  simp only [Ctx.still] at h1
  omega
 ·exact h1.elim
theorem abq {o:Oper} {a:Act} {w:World} {next:Act→World→Prop} (hi:dC P (execOp a.eval o)) (hv:∀ w' x,(execOp a.eval o).run P w=.ok x w'→∃ v,x=.value v) (h:o.wp P a w next fun _ _ _=>False) :
 ∃ v,(∀ w',(execOp a.eval o).run P w'=.ok (.value v) w')∧next (a.put o.dst v) w:=by
 unfold Oper.wp at h
 cases hr:(execOp a.eval o).run P w with
 | halt q w1 =>
  rw [hr] at h
  cases q<;>simp only [Oper.upon] at h
 | ok x w1 =>
  obtain ⟨v,rfl⟩:=hv _ _ hr
  rw [hr,Oper.upon_value] at h
  obtain ⟨rfl,_⟩:=hi w w w1 _ hr
  exact ⟨v,fun w'=>(hi w1 w' w1 _ hr).2,h⟩
theorem ZI {ρ:Operand→Value} {o:Oper} (h:qZ ρ o.op=true) {w w':World} {x:Next} (hr:(execOp ρ o).run P w=.ok x w'):∃ v,x=.value v:=by
 have Cu:∀ (s:Sem Value),((do let v ← s;pure (Next.value v):Sem Next).run P w=.ok x w')→∃ v,x=.value v:=fun s hs=>by
  simp only [Sem.run_bind] at hs
  cases hq:s.run P w with
  | ok v w2=>rw [hq] at hs;simp only [Result.andThen_ok,Sem.run_pure,Result.ok.injEq] at hs;exact ⟨v,hs.1.symm⟩
  | halt q w2=>rw [hq] at hs;cases hs
 have Cv:∀ {w w':World} (v:Value),((pure (Next.value v):Sem Next).run P w=.ok x w')→∃ v,x=.value v:=fun v hs=>by
  simp only [Sem.run_pure,Result.ok.injEq] at hs;exact ⟨v,hs.1.symm⟩
 unfold execOp at hr
 cases ho:o.op<;>rw [ho] at h hr<;>simp only [qZ] at h<;>try (cases h;done)
 all_goals dsimp only at hr
 case move=>exact Cv _ hr
 case assign=>exact Cv _ hr
 case pick c y z =>
  simp only [Sem.run_bind] at hr
  cases hq:(asBool (ρ c)).run P w with
  | ok v w2=>rw [hq] at hr;exact Cv _ hr
  | halt q w2=>rw [hq] at hr;cases hr
 case build=>exact Cu _ hr
 case field=>exact Cu _ hr
 case indexAddr=>exact Cu _ hr
 case extract=>exact Cu _ hr
 case nilCheck y =>
  split at h
  ·rename_i b hx;rw [hx] at hr;exact Cv _ hr
  ·cases h
end
end Go.Rf
end
section
namespace Go.Rf
open Go.RowKit
set_option linter.unusedVariables false
set_option linter.unusedSimpArgs false
variable [cO]
section
variable {P:Program} {ops:Array Oper} {Q:Exit→Act→World→Prop}
def anyS (P:Program) (ops:Array Oper) (Q:Exit→Act→World→Prop) (S:Array Bool→World→Prop):Nat→Array Bool→Act→World→Prop
 | 0,L,a,w=>Region.ready .any ops L=[]∧Q .normal a w
 | n+1,L,a,w=>(Region.ready .any ops L=[]→Q .normal a w) ∧
  ∀ i∈Region.ready .any ops L,wpOp P ops Q i (fun a' w'=>S (L.setIfInBounds i true) w'∧anyS P ops Q S n (L.setIfInBounds i true) a' w') a w
theorem anyS.any {S:Array Bool→World→Prop}:∀ (n:Nat) (L:Array Bool) (a:Act) (w:World),anyS P ops Q S n L a w→wpAny P .any ops Q n L a w
 | 0,_,_,_,h=>h
 | n+1,_,_,_,h=>⟨h.1,fun i hi=>wpOp_mono (fun a' w' h'=>anyS.any n _ a' w' h'.2) (h.2 i hi)⟩
def Shut (ops:Array Oper) (L:Array Bool):Prop:=∀ j o,ops[j]? = some o→L.getD j false=true→∀ e∈o.after,Region.binds .any e=true→L.getD e.on false=true
theorem Shut.add {L:Array Bool} (h:Shut ops L) {i:Nat} (hi:i∈Region.ready .any ops L):Shut ops (L.setIfInBounds i true):=by
 intro j o hj hl e he hb
 by_cases hij:i=j
 ·subst hij
  obtain ⟨_,o',ho',hall⟩:=mem_ready.1 hi
  rw [hj] at ho'
  cases ho'
  exact getD_set_true (hall e he hb)
 ·rw [getD_set_ne false hij] at hl
  exact getD_set_true (h j o hj hl e he hb)
def direct (ops:Array Oper) (j:Nat):List Nat:=match ops[j]? with
 | some o=>(o.after.toList.filter fun e=>Region.binds .any e).map (·.on)
 | none=>[]
def yt (ops:Array Oper) (i:Nat):List Nat→Nat→Bool
 | [],j=>(direct ops j).contains i
 | d :: p,j=>(direct ops j).contains d && yt ops i p d
theorem Shut.direct {L:Array Bool} (h:Shut ops L) {j b:Nat} (hj:L.getD j false=true) (hb:b∈direct ops j):L.getD b false=true:=by
 unfold Rf.direct at hb
 split at hb
 ·rename_i o ho
  simp only [List.mem_map,List.mem_filter] at hb
  obtain ⟨e,⟨h1,h2⟩,rfl⟩:=hb
  exact h j o ho hj e (Array.mem_toList_iff.1 h1) h2
 ·cases hb
theorem Shut.path {L:Array Bool} (h:Shut ops L) {i:Nat}:∀ {p:List Nat} {j:Nat},L.getD j false=true→yt ops i p j=true→L.getD i false=true
 | [],j,hj,hp=>h.direct hj (by simpa [yt] using hp)
 | d :: p,j,hj,hp=>by
  simp only [yt,Bool.and_eq_true] at hp
  exact Shut.path h (p:=p) (h.direct hj (by simpa using hp.1)) hp.2
def SL (P:Program) (ops:Array Oper) (Sq:World→Prop) (L:Array Bool) (w:World):Prop:=(∀ j o,ops[j]? = some o→L.getD j false=true→kg P o.op=true)→Sq w
theorem SL.iff {Sq:World→Prop} {L:Array Bool} {w:World} {i:Nat} {o:Oper} (hi:ops[i]? = some o) (hc:kg P o.op=true):SL P ops Sq (L.setIfInBounds i true) w↔SL P ops Sq L w:=by
 unfold SL
 constructor
 ·intro h k
  refine h fun j o' hj hl=>?_
  by_cases hij:i=j
  ·subst hij;rw [hi] at hj;cases hj;exact hc
  ·rw [getD_set_ne false hij] at hl;exact k j o' hj hl
 ·intro h k
  refine h fun j o' hj hl=>?_
  exact k j o' hj (getD_set_true hl)
def Vh (P:Program) (ops:Array Oper) (i:Nat) (ps:List (List Nat)):Bool:=(List.range ops.size).all fun j=>match ops[j]? with
 | some o=>kg P o.op || ps.any fun p=>yt ops i p j
 | none=>true
theorem Sv {Sq:World→Prop} {L:Array Bool} {w:World} {i:Nat} {ps:List (List Nat)} (hS:Shut ops L) (ha:Vh P ops i ps=true) (hn:L.getD i true=false) (h:SL P ops Sq L w):Sq w:=by
 refine h fun j o hj hl=>?_
 have hlt:=(Array.getElem?_eq_some_iff.1 hj).1
 have:=List.all_eq_true.1 ha j (List.mem_range.2 hlt)
 simp only [hj,Bool.or_eq_true] at this
 rcases this with h1 | h1
 ·exact h1
 ·obtain ⟨p,_,hp⟩:=List.any_eq_true.1 h1
  have:=hS.path hl hp
  rcases Nat.lt_or_ge i L.size with h' | h'
  ·simp [h'] at hn this;rw [hn] at this;cases this
  ·simp [Array.getElem?_eq_none h'] at hn
theorem anyS.first {Sq R:World→Prop} {i:Nat} {oi:Oper} {v:Value} (hi:ops[i]? = some oi) (hs:Region.noSelect ops=true) (hR:∀ L w,Shut ops L→L.getD i true=false→SL P ops Sq L w→R w) (hc:kg P oi.op=true)
 (hQ:∀ c a w,Q (.panic c) (a.put oi.dst v) w→Q (.panic c) a w) :
 ∀ (n:Nat) (L:Array Bool) (a:Act) (w:World),Shut ops L →
  (∀ j oj,ops[j]? = some oj→j≠i→L.getD j true=false→(∀ e∈oj.after,Region.binds .any e=true→e.on≠i)→oi.apart ops oj=true) →
  i∈Region.ready .any ops L→YieldsIf P ops R oi v a→SL P ops Sq L w →
  anyS P ops Q (SL P ops Sq) n (L.setIfInBounds i true) (a.put oi.dst v) w→anyS P ops Q (SL P ops Sq) (n+1) L a w:=by
 intro n
 have hsel:=Region.noSelect_spec hs
 induction n with
 | zero =>
  intro L a w hsh hfree hr hy hS H
  refine ⟨fun h=>(by rw [h] at hr;cases hr),fun j hj=>?_⟩
  by_cases hji:j=i
  ·subst hji
   exact hy.wpOp hi (hR L w hsh (mem_ready.1 hr).1 hS) ⟨(SL.iff hi hc).2 hS,H⟩
  ·have:=ready_mono hj hji
   rw [H.1] at this
   cases this
 | succ n ih =>
  intro L a w hsh hfree hr hy hS H
  refine ⟨fun h=>(by rw [h] at hr;cases hr),fun j hj=>?_⟩
  by_cases hji:j=i
  ·subst hji
   exact hy.wpOp hi (hR L w hsh (mem_ready.1 hr).1 hS) ⟨(SL.iff hi hc).2 hS,H⟩
  ·have h1:=H.2 j (ready_mono hj hji)
   obtain ⟨hjun,oj,hoj,hall⟩:=mem_ready.1 hj
   have hnot:∀ e∈oj.after,Region.binds .any e=true→e.on≠i:=fun e he hb heq=>by
    have h1:=hall e he hb
    have h0:=(mem_ready.1 hr).1
    rw [heq] at h1
    rcases Nat.lt_or_ge i L.size with h' | h'
    ·simp [h'] at h0 h1;rw [h0] at h1;cases h1
    ·simp [Array.getElem?_eq_none h'] at h1
   have h2:=wpOp_putIf hoj (hfree j oj hoj hji hjun hnot) (fun cs b=>hsel i oi cs b hi) (fun cs b=>hsel j oj cs b hoj) hQ hy h1
   refine wpOp_mono (fun a' w' h3=>?_) h2
   obtain ⟨hy',hS',H'⟩:=h3
   have hcomm:(L.setIfInBounds i true).setIfInBounds j true=(L.setIfInBounds j true).setIfInBounds i true:=Array.setIfInBounds_comm _ _ (fun e=>hji e.symm)
   rw [hcomm] at hS' H'
   have WV:=(SL.iff (L:=L.setIfInBounds j true) hi hc).1 hS'
   refine ⟨WV,ih (L.setIfInBounds j true) a' w' (hsh.add hj) (fun k ok hk hki hun hno=>?_) (ready_mono hr (Ne.symm hji)) hy' WV H'⟩
   refine hfree k ok hk hki ?_ hno
   by_cases hjk:j=k
   ·subst hjk;exact hjun
   ·rw [getD_set_ne true hjk] at hun;exact hun
end
end Go.Rf
end
section
namespace Go.Rf
open Go.RowKit
set_option linter.unusedVariables false
set_option linter.unusedSimpArgs false
variable [cO]
section
variable {P:Program} {C:Ctx}
theorem aco {o:Oper} {a:Act} {w:World} {next:Act→World→Prop} {Q:Exit→Act→World→Prop} (h:o.wp P a w next Q) :
 o.wp P a w (fun a' w'=>next a' w'∧((∃ v,a'=a.put o.dst v)∨a'.defers≠[])) Q:=by
 unfold Oper.wp at h ⊢
 generalize (execOp a.eval o).run P w=r at *
 cases r with
 | ok n w' =>
  cases n<;>simp only [Oper.upon] at h ⊢
  case value u=>exact ⟨h,.inl ⟨u,rfl⟩⟩
  case skip=>exact ⟨h,.inl ⟨undef,rfl⟩⟩
  case defer d=>exact ⟨h,.inr (by cases o.dst<;>simp [Act.put])⟩
  case enter f args =>
   refine Calls.mono h fun e w'' he=>?_
   cases e with
   | returned u=>exact ⟨he,.inl ⟨u,rfl⟩⟩
   | panicked c=>exact he
   | outgrown=>exact he
  case row row args=>exact Rows.mono h fun u w'' he=>⟨he,.inl ⟨u,rfl⟩⟩
 | halt x w' =>
  cases x<;>simp only [Oper.upon] at h ⊢
  case panic u=>exact h
def Cw (v:Option V) (u:V):Option (V × List Prop):=match v with
 | none=>match u.bM with
  | true=>some (u,[])
  | false=>none
 | some v=>some (v,[u.shr=v])
def La (env:St) (t:Nat) (v:Option V):Option (V × List Prop):=match look env.env t with
 | some (.d (.v u))=>Cw v u
 | some (.al (.top r))=>match iT env r with
  | some u=>Cw v u
  | none=>none
 | some (.d (.ptr id off))=>match env.box[id]?,v with
  | some (.cells cs),some u=>match ku (cs.drop off) with
   | some us=>some (u,[V.pt (aZ us)=u])
   | none=>none
  | _,_=>none
 | some (.pa r sz i j)=>match iT env r with
  | some (.row (some _) je es)=>match v with
   | some (.aC [x,u])=>match Nat.beq sz je with
    | true=>some (u,[es[i]? = some x,V.pt (aZ (x.cells.drop j))=u])
    | false=>none
   | _=>none
  | _=>none
 | _=>none
def nT (env:St):List (Nat × Option V)→Option (List (Nat × X) × List Prop)
 | []=>some ([],[])
 | (t,v) :: l=>match La env t v with
  | some (u,o)=>match nT env l with
   | some (r,os)=>some ((t,.d (.v u)) :: r,o++os)
   | none=>none
  | none=>none
theorem Sy {env:St}:∀ {l:List (Nat × Option V)} {q:List (Nat × X)} {os:List Prop} {t:Nat} {y:X},nT env l=some (q,os)→All os→look q t=some y→∃ v u o,La env t v=some (u,o)∧All o∧y=.d (.v u)
 | [],q,os,t,y,h,_,hy=>by cases h;simp [look] at hy
 | (s,v) :: l,q,os,t,y,h,hA,hy=>by
  simp only [nT] at h
  split at h
  ·rename_i u o ho
   split at h
   ·rename_i r os' hr
    cases h
    simp only [look] at hy
    cases hb:Nat.beq t s with
    | true =>
     rw [hb] at hy
     cases hy
     have:=Nat.eq_of_beq_eq_true hb
     subst this
     exact ⟨v,u,o,ho,hA.left,rfl⟩
    | false=>rw [hb] at hy;exact Sy hr (All.right hA) hy
   ·cases h
  ·cases h
def G.all (g:G):bB:=fun b=>g.aM b∨∃ h,g.own b=some h
def G.still (p:bB):G:={ aM:=p,own:=fun _=>none,n:=0,loc:=fun _=>0,TE:=fun _=>[],TB:=fun _=>[] }
theorem jB.start {g:G} {st:St} {a:Act} {w:World} (S:aI C g st a w) {ks:List (Nat × Option V)} {q:List (Nat × X)} {os:List Prop} (hq:nT st ks=some (q,os)) (hA:All os):jB g.all C.N q a w:=by
 have Q7:∀ b,g.all b→b < w.heap.size:=by
  rintro b (h | ⟨h,ho⟩)
  ·exact S.dJ b h
  ·exact (S.own b h ho).2.1
 have pick:∀ {val:Value} {u r:V} {v:Option V} {o:List Prop} {T:List Nat} {h:Nat ⊕ Nat},aV g w val (.v u) T→(∀ b∈T,g.own b=some h)→Cw v u=some (r,o)→All o→aS g.all w val r []:=by
  intro val u r v o T h hr ho hp hA
  unfold Cw at hp
  split at hp
  ·split at hp
   ·rename_i hn
    cases hp
    have hr:=aV.inv hr
    have hT:=hr.bM hn
    subst hT
    exact hr.keep ⟨fun b hb=>.inl hb,fun _ _=>rfl⟩ (fun _ h=>by cases h)
   ·cases hp
  ·cases hp
   have e:u.shr=r:=by cases hA with | cons h _=>exact h
   rw [← e]
   have:=aS.share (S:=T) (aV.inv hr) (fun b hb=>hb)
   refine this.keep ⟨?_,fun _ _=>rfl⟩ (fun _ h=>by cases h)
   rintro b (hb | hb)
   ·exact .inl hb
   ·exact .inr ⟨h,ho b hb⟩
 refine ⟨G.still g.all,S.defers,S.tmps,rfl,rfl,rfl,Nat.le_refl _,fun _ _ _=>rfl,fun b hb=>.inl hb,Q7,rfl,?_,fun _=>List.nodup_nil,fun id b hb=>by simp at hb,fun _=>List.nodup_nil,fun b h ho=>(by cases ho),fun i l h=>(by simp [Ctx.still] at h),cO.s ⟨fun b hb=>.inl hb,fun _ _=>rfl⟩ S.tab⟩
 intro t y hy
 obtain ⟨v,u,o,ho,mU,rfl⟩:=Sy hq hA hy
 unfold La at ho
 split at ho
 ·rename_i u' hl
  obtain ⟨h1,h2,h3⟩:=S.env t _ hl
  exact ⟨h1,.v (pick h2 h3 ho mU),fun b hb=>by cases hb⟩
 ·rename_i r hl
  split at ho
  ·rename_i u' hu
   obtain ⟨h1,h2,h3⟩:=S.env t _ hl
   obtain ⟨v',T,k1,k2,k3,_⟩:=uZ S hu
   have hv:dY g a w r=some (a.tmps.getD t undef):=h2.2
   rw [k1] at hv
   have e:v'=a.tmps.getD t undef:=Option.some.inj hv
   subst e
   exact ⟨h1,.v (pick (.v k2) k3 ho mU),fun b hb=>by cases hb⟩
  ·cases ho
 ·rename_i id off hl
  split at ho
  ·rename_i cs u0 hb
   split at ho
   ·rename_i us qK
    cases ho
    have hu:V.pt (aZ us)=u:=by cases mU with | cons h _=>exact h
    subst hu
    obtain ⟨h1,h2,h3⟩:=S.env t _ hl
    have h2:aV g w (a.tmps.getD t undef) (.ptr id off) (g.TE t):=h2
    obtain ⟨⟨cur,el,A,hT,hh,hr,hc1⟩,hown⟩:=S.box id _ hb
    obtain ⟨A1,B1,gD,_,hd⟩:=hr.cut off
    rw [tF qK] at hd
    have hd:=hd.ku
    have hx:a.tmps.getD t undef=.pointer (some ⟨g.loc id,off,none⟩):=by
     generalize a.tmps.getD t undef=v at h2
     generalize g.TE t=T at h2
     cases h2
     rfl
    refine ⟨h1,?_,fun b hb=>by cases hb⟩
    show aV (G.still g.all) w (a.tmps.getD t undef) _ _
    rw [hx]
    have hsh:=(hd.share (S:=g.TB id) (fun b hb=>by rw [hT,gD];simp [hb]))
    refine .v (aS.pt (hsh.keep ⟨?_,fun _ _=>rfl⟩ (fun _ h=>by cases h)) (fun u hu=>hc1 u (List.mem_of_mem_drop hu)) ?_ (fun j u hj=>?_))
    ·rintro b (hb | hb)
     ·exact .inl hb
     ·exact .inr ⟨_,hown b hb⟩
    ·exact .inr ⟨_,hown _ (by rw [hT];simp)⟩
    ·rw [List.getElem?_drop] at hj
     simp only [World.cell?,hh]
     simpa using hj
   ·cases ho
  ·cases ho
 ·rename_i r sz i j hl
  split at ho
  ·rename_i et je es AJ
   split at ho
   ·rename_i x u0
    split at ho
    ·rename_i hb
     have hb:=Nat.eq_of_beq_eq_true hb
     subst hb
     cases ho
     cases mU with
     | cons hel mU =>
     have hu:V.pt (aZ (x.cells.drop j))=u:=by cases mU with | cons h _=>exact h
     subst hu
     obtain ⟨h1,⟨_,b,h3,h4,h5⟩,_⟩:=S.env t _ hl
     obtain ⟨rv,T,hpv,hr,hown,_⟩:=uZ S AJ
     obtain ⟨xs,A,hT,hc,hl',hone,how⟩:=nN hr
     obtain ⟨T1,A1,T2,hT',hseg⟩:=aN.elem hc hl' hel
     obtain ⟨A2,B2,hA2,_,vC⟩:=hseg.cut j
     rw [hpv] at h3
     simp only [Option.bind_some] at h3
     have how':=how
     rcases how.2 with ⟨hv0,hn⟩ | ⟨b',cap,cur,hv0,_,hg,_⟩
     ·rw [hv0] at h3;simp [Value.ownBlock] at h3
     ·rw [hv0] at h3
      simp only [Value.ownBlock,Option.some.injEq] at h3
      subst h3
      subst hv0
      have hrange:w.rangeAt b' 0 xs:=fun k v hk=>by
       have hk':k < es.length*sz:=by
        rw [← how.1]
        rcases Nat.lt_or_ge k xs.length with h | h
        ·exact h
        ·rw [List.getElem?_eq_none h] at hk;cases hk
       rw [Nat.zero_add,how'.cellAt k hk',hk]
      have xN:w.rangeAt b' (i*sz+j) (((xs.drop (i*sz)).take sz).drop j):=by
       have h0:=FC hrange (i*sz) sz
       intro k v hk
       rw [List.getElem?_drop] at hk
       have:=h0 _ _ hk
       rwa [show 0+i*sz+(j+k)=i*sz+j+k by omega] at this
      refine ⟨h1,?_,fun b hb=>by cases hb⟩
      show aV (G.still g.all) w (a.tmps.getD t undef) _ _
      rw [h5]
      have hsh:=(vC.share (S:=T) (fun b hb=>by rw [hT,hT',hA2];simp [hb]))
      refine .v (aS.pt (hsh.keep ⟨?_,fun _ _=>rfl⟩ (fun _ h=>by cases h)) (fun u hu=>hone u ?_) (.inr ⟨_,h4⟩) (fun k u hk=>xN k u hk))
      ·rintro b (hb | hb)
       ·exact .inl hb
       ·exact .inr ⟨_,hown b hb⟩
      ·exact List.mem_of_mem_drop (List.mem_of_mem_take (List.mem_of_mem_drop hu))
    ·cases ho
   ·cases ho
  ·cases ho
 ·cases ho
theorem jB.drop {p:bB} {N:Nat} {q:List (Nat × X)} {a:Act} {w:World} (h:jB p N q a w) {d:Nat} (hd:d < N) (v:Value):jB p N (vR q d (.d (.v .any))) (a.put (some d) v) w:=by
 obtain ⟨g,S⟩:=h
 exact ⟨_,S.iL (Calm.refl w) hd (.v (.any v))⟩
end
end Go.Rf
end
