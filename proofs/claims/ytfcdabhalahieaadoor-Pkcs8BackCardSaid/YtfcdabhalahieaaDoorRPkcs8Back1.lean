import Derived.Test.YtfcdabhalahieaaDoorRPkcs8Back0
set_option linter.unusedSectionVars false
set_option linter.unusedSimpArgs false
set_option linter.unusedVariables false
section
namespace Go.Rf
open Go.RowKit
set_option linter.unusedVariables false
set_option linter.unusedSimpArgs false
variable [Tabs]
def wipeT (t:Option Nat) (l:List (Nat × X)):List (Nat × X):=match t with
 | none=>l
 | some t=>(t,.dead) :: kill (isT t) l
def G.setB (g:G) (id:Nat) (t:Option Nat) (T:List Nat):G :=
 { g with own:=fun b=>if b∈T then some (.inr id) else if g.own b=some (.inr id) then none else match t with
            | some t=>if g.own b=some (.inl t) then none else g.own b
            | none=>g.own b,
          TE:=fun s=>match t with
            | some t=>if s=t then [] else g.TE s
            | none=>g.TE s,
          TB:=fun i=>if i=id then T else g.TB i }
def St.setBox (st:St) (id:Nat) (t:Option Nat) (cs:List D):St:={ env:=kill (isB id) (wipeT t st.env),box:=st.box.set id (.cells cs) }
section
variable {P:Program} {C:Ctx} {g:G} {st:St} {a:Act} {w w':World}
theorem SRep.setBox (S:SRep C g st a w) {id:Nat} {t:Option Nat} {cs cs':List D} {cur cur':Array Value} {el:TypeId} {A A':List Nat} (hb:st.box[id]? = some (.cells cs)) (hT:g.TB id=g.loc id :: A)
 (hh:w.heap[g.loc id]? = some (.cells cur el (0,0))) (hg:w'.heap[g.loc id]? = some (.cells cur' el (0,0))) (ho:w'.os=w.os) (htp:w'.tape=w.tape) (hou:w'.output=w.output) (hsz:w'.heap.size=w.heap.size)
 (hoth:∀ b,b≠g.loc id→w'.heap[b]? = w.heap[b]?) (hr:RepDL g w cur'.toList cs' A') (h1:∀ u∈cur'.toList,u.oneCell'=true) (hn:(g.loc id :: A').Nodup)
 (hA:∀ b∈A',b∈A∨∃ q,t=some q∧g.own b=some (.inl q)) (htN:∀ q,t=some q→q < C.N) :
 SRep C (g.setB id t (g.loc id :: A')) (st.setBox id t cs') a w':=by
 have hid:id < st.box.length:=by
  rcases Nat.lt_or_ge id st.box.length with h | h
  ·exact h
  ·rw [List.getElem?_eq_none h] at hb;cases hb
 have hown:∀ b∈g.TB id,g.own b=some (.inr id):=(S.box id _ hb).2
 have hlo:g.own (g.loc id)=some (.inr id):=hown _ (by rw [hT];simp)
 have hAo:∀ b∈A',g.own b=some (.inr id)∨∃ q,t=some q∧g.own b=some (.inl q):=fun b hb'=>(hA b hb').imp (fun h=>hown b (by rw [hT];simp [h])) (fun h=>h)
 have hne:∀ b∈A',b≠g.loc id:=fun b hb' e=>(List.nodup_cons.1 hn).1 (e ▸ hb')
 let chg:Nat ⊕ Nat→Prop:=fun h=>h=.inr id∨∃ q,t=some q∧h=.inl q
 have notin:∀ b h,g.own b=some h→¬ chg h→b∉g.loc id :: A':=by
  intro b h ho' hc hb'
  rcases List.mem_cons.1 hb' with rfl | hb'
  ·rw [hlo] at ho';cases ho';exact hc (.inl rfl)
  ·rcases hAo b hb' with h2 | ⟨q,hq,h2⟩
   ·rw [h2] at ho';cases ho';exact hc (.inl rfl)
   ·rw [h2] at ho';cases ho';exact hc (.inr ⟨q,hq,rfl⟩)
 have k:KeepsG g (g.setB id t (g.loc id :: A')) w w':=⟨fun _ h=>h,Nat.le_refl _,fun _ _=>rfl,fun b hb'=>hoth b (fun e=>(S.own _ _ hlo).2.2 (e ▸ hb'))⟩
 refine S.change chg S.defers S.tmps ho htp hou (Nat.le_of_eq hsz.symm) (fun _ h=>h) (fun _ h=>.inl h) (fun b hb'=>by rw [hsz];exact S.publt b hb') (by simpa [St.setBox,G.setB] using S.n) (Nat.le_refl _) (fun _ _=>rfl) ?_ ?_ ?_ ?_ ?_ ?_ ?_ ?_ ?_
 ·intro b hb' h
  refine hoth b (fun e=>?_)
  subst e
  rcases h with h | ⟨h,h2,h3⟩ | ⟨h2,h3⟩
  ·exact (S.own _ _ hlo).2.2 h
  ·rw [hlo] at h2;cases h2;exact h3 (.inl rfl)
  ·rcases (S.own _ _ hlo).1 with h4 | h4
   ·omega
   ·exact h3 h4
 ·intro b h ho' hc
  simp only [G.setB]
  rw [if_neg (notin b h ho' hc),if_neg (by rw [ho'];intro e;exact hc (.inl (Option.some.inj e)))]
  cases t with
  | none=>exact ho'
  | some q =>
   simp only
   rw [if_neg (by rw [ho'];intro e;exact hc (.inr ⟨q,rfl,Option.some.inj e⟩))]
   exact ho'
 ·intro s hs
  refine ⟨rfl,?_⟩
  simp only [G.setB]
  cases t with
  | none=>rfl
  | some q =>
   simp only
   rw [if_neg (fun e=>hs (.inr ⟨q,rfl,by rw [e]⟩))]
 ·intro i hi
  have hi':i≠id:=fun e=>hi (.inl (by rw [e]))
  exact ⟨by simp only [G.setB];rw [if_neg hi'],by simp only [St.setBox];rw [List.getElem?_set_ne (fun e=>hi' e.symm)]⟩
 ·intro s y hy
  simp only [St.setBox,look_kill] at hy
  have main:∀ z q,look st.env s=some z→t=some q→s≠q→y=(z.kill (isT q)).kill (isB id) →
   (¬ chg (.inl s)∧(look st.env s=some y∧(∀ h,y.rootH=some h→¬ chg h)∨y=.dead∧∃ z,look st.env s=some z)):=by
   intro z q hz hq' hsq hyz
   have hnc:¬ chg (.inl s):=by
    rintro (e | ⟨q',hq2,e⟩)
    ·cases e
    ·rw [hq'] at hq2;cases hq2;cases e;exact hsq rfl
   refine ⟨hnc,?_⟩
   by_cases hdd:y=.dead
   ·exact .inr ⟨hdd,z,hz⟩
   ·rcases X.kill_cases (isT q) z with h | ⟨h,_⟩
    ·exact (hdd (by rw [hyz,h];rfl)).elim
    ·rw [h] at hyz
     rcases X.kill_cases (isB id) z with h3 | ⟨h3,_⟩
     ·exact (hdd (by rw [hyz,h3])).elim
     ·rw [h3] at hyz
      subst hyz
      refine .inl ⟨hz,fun r hr e=>?_⟩
      rcases e with e | ⟨q',hq2,e⟩
      ·exact X.killR_rootH (q:=.b id 0) h3 hdd r hr e
      ·rw [hq'] at hq2
       cases hq2
       exact X.kill_rootH h hdd r hr e
  cases t with
  | none =>
   simp only [wipeT] at hy
   cases hl:look st.env s with
   | none=>rw [hl] at hy;cases hy
   | some z =>
    rw [hl] at hy
    simp only [Option.map_some,Option.some.injEq] at hy
    have hnc:¬ chg (.inl s):=by
     rintro (e | ⟨q,hq',e⟩)
     ·cases e
     ·cases hq'
    refine .inl ⟨hnc,?_⟩
    by_cases hdd:y=.dead
    ·exact .inr ⟨hdd,z,rfl⟩
    ·rcases X.kill_cases (isB id) z with h | ⟨h,_⟩
     ·exact (hdd (by rw [← hy,h])).elim
     ·rw [h] at hy
      subst hy
      refine .inl ⟨rfl,fun r hr e=>?_⟩
      rcases e with e | ⟨q,hq',e⟩
      ·exact X.killR_rootH (q:=.b id 0) h hdd r hr e
      ·cases hq'
  | some q =>
   simp only [wipeT,look] at hy
   cases hbq:Nat.beq s q with
   | true =>
    have:=Nat.eq_of_beq_eq_true hbq
    subst this
    rw [hbq] at hy
    cases hy
    exact .inr ⟨htN s rfl,trivial,by simp [G.setB]⟩
   | false =>
    have hsq:s≠q:=fun e=>by rw [e,Nat.beq_refl] at hbq;cases hbq
    rw [hbq] at hy
    simp only [look_kill] at hy
    cases hl:look st.env s with
    | none=>rw [hl] at hy;cases hy
    | some z =>
     rw [hl] at hy
     simp only [Option.map_some,Option.some.injEq] at hy
     have:=main z q hl rfl hsq hy.symm
     rw [hl] at this
     exact .inl this
 ·intro i b hb' hc
  rcases hc with hc | ⟨q,_,hc⟩
  ·cases hc
   simp only [St.setBox] at hb'
   rw [List.getElem?_set_self hid] at hb'
   cases hb'
   have e1:(g.setB id t (g.loc id :: A')).TB id=g.loc id :: A':=by simp [G.setB]
   rw [e1]
   refine ⟨⟨cur',el,A',rfl,hg,hr.keep k (fun b hb'=>hoth b (hne b hb')),h1⟩,fun b hb'=>?_⟩
   simp only [G.setB]
   rw [if_pos hb']
  ·cases hc
 ·intro s hs
  rcases hs with hs | ⟨q,hq,hs⟩
  ·cases hs
  ·cases hs
   simp [G.setB,hq]
 ·intro i hi
  rcases hi with hi | ⟨q,_,hi⟩
  ·cases hi;simp only [G.setB,if_true];exact hn
  ·cases hi
 ·intro b h ho'
  simp only [G.setB] at ho'
  by_cases hb':b∈g.loc id :: A'
  ·have:∃ h',g.own b=some h':=by
    rcases List.mem_cons.1 hb' with rfl | hb'
    ·exact ⟨_,hlo⟩
    ·rcases hAo b hb' with h2 | ⟨q,_,h2⟩
     ·exact ⟨_,h2⟩
     ·exact ⟨_,h2⟩
   obtain ⟨h',h2⟩:=this
   exact .inr ⟨.inl ⟨h',h2⟩,by rw [hsz];exact (S.own b h' h2).2.1,(S.own b h' h2).2.2⟩
  ·rw [if_neg hb'] at ho'
   split at ho'
   ·cases ho'
   ·cases t with
    | none=>exact .inl ⟨ho',(S.own b h ho').2.2⟩
    | some q =>
     simp only at ho'
     split at ho'
     ·cases ho'
     ·exact .inl ⟨ho',(S.own b h ho').2.2⟩
end
end Go.Rf
end
section
namespace Go.Rf
open Go.RowKit
set_option linter.unusedVariables false
set_option linter.unusedSimpArgs false
variable [Tabs]
section
variable {P:Program} {C:Ctx} {g:G} {st:St} {a:Act} {w w':World}
theorem storeAt_run {w:World} {t:TypeId} {b off:Nat} {v:Value} {cur:Array Value} {el:TypeId} (hh:w.heap[b]? = some (.cells cur el (0,0))) (hs:sizeT P t=some v.cells.size) (hl:off+v.cells.size≤cur.size) (h1:∀ u∈v.cells.toList,u.oneCell'=true) :
 (Instr.storeAt t (.pointer (some ⟨b,off,none⟩)) v).run P w=.ok () (w.setRow b (cur.toList.take off++v.cells.toList++cur.toList.drop (off+v.cells.size)).toArray):=by
 have:=run_storeCells_at P b off el v.cells.toList 0 cur w hh (by simpa using hl) h1
 simp only [Nat.add_zero,Array.length_toList] at this
 unfold sizeT at hs
 cases hi:P.info? t with
 | none=>rw [hi] at hs;cases hs
 | some i =>
  rw [hi] at hs
  have hs:i.size=v.cells.size:=Option.some.inj hs
  simp only [Instr.storeAt,Instr.sureAddr,storeVar,Sem.run_bind,Sem.run_pure,Result.andThen_ok,sizeOf,typeInfo,run_program,hi,hs]
  rw [if_neg (by simp)]
  exact this
theorem OpOk.store {o:Oper} {e e1:E} {t:TypeId} {s id off:Nat} {x:Operand} {src:Option Nat} {cs ds:List D} (ho:o.op=.store t (.tmp s) x) (hd:o.dst=none) (h1:All e1.ob→All e.ob)
 (hl:look e1.st.env s=some (.d (.ptr id off))) (hb:e1.st.box[id]? = some (.cells cs)) (hlen:off+ds.length≤cs.length) (hsz:sizeT P t=some ds.length)
 (hrun:All e1.ob→∀ g a w,SRep C g e.st a w→∃ g1 T,SRep C g1 e1.st a w∧RepDL g1 w (a.eval x).cells.toList ds T∧(∀ u∈(a.eval x).cells.toList,u.oneCell'=true)∧T.Nodup∧∀ b∈T,∃ q,src=some q∧g1.own b=some (.inl q)) (hsrc:∀ q,src=some q→∃ y,look e1.st.env q=some y) :
 OpOk P C o e { e1 with st:=e1.st.setBox id src (cs.take off++ds++cs.drop (off+ds.length)) }:=by
 intro hA
 refine ⟨h1 hA,fun g a w S next Q hn=>?_⟩
 obtain ⟨g1,T,S1,hr,hone,hTn,hTo⟩:=hrun hA g a w S
 obtain ⟨_,h2,_⟩:=S1.env s _ hl
 have h2:RepD g1 w (a.tmps.getD s undef) (.ptr id off) (g1.TE s):=h2
 have hptr:a.eval (.tmp s)=.pointer (some ⟨g1.loc id,off,none⟩):=by
  show a.tmps.getD s undef=_
  generalize a.tmps.getD s undef=v at h2
  generalize g1.TE s=T at h2
  cases h2
  rfl
 obtain ⟨⟨cur,el,A,hT,hh,hrc,hc1⟩,hown⟩:=S1.box id _ hb
 have hcl:cur.size=cs.length:=by rw [← Array.length_toList];exact hrc.length
 have hvl:(a.eval x).cells.size=ds.length:=by rw [← Array.length_toList];exact hr.length
 obtain ⟨A1,B1,hAB,hd1,hdr⟩:=hrc.cut off
 obtain ⟨M,B2,hMB,_,hd2⟩:=hdr.cut ds.length
 rw [List.drop_drop,List.drop_drop] at hd2
 subst hMB
 have hst:=storeAt_run (P:=P) (t:=t) (b:=g1.loc id) (off:=off) (v:=a.eval x) hh (by rw [hvl];exact hsz) (by rw [hvl,hcl];exact hlen) hone
 have hexec:(execOp a.eval o).run P w=.ok .skip (w.setRow (g1.loc id) (cur.toList.take off++(a.eval x).cells.toList++cur.toList.drop (off+(a.eval x).cells.size)).toArray):=by
  unfold execOp
  simp only [ho,hptr,Sem.run_bind,hst,Result.andThen_ok,Sem.run_pure]
 unfold Oper.wp
 rw [hexec,Oper.upon_skip,hd]
 have hn':=S1.nodB id
 rw [hT,hAB] at hn'
 have hnA:=List.nodup_append.1 (List.nodup_cons.1 hn').2
 have hnM:=List.nodup_append.1 hnA.2.1
 have hTown:∀ b∈T,b∉g1.loc id :: (A1++(M++B2)):=fun b hb' hm=>by
  obtain ⟨q,_,hq⟩:=hTo b hb'
  have:=hown b (by rw [hT,hAB];exact hm)
  rw [hq] at this;cases this
 refine hn _ _ _ (S1.setBox (t:=src) (A':=A1++T++B2) (cur:=cur) (el:=el) (w':=w.setRow (g1.loc id) (cur.toList.take off++(a.eval x).cells.toList++cur.toList.drop (off+(a.eval x).cells.size)).toArray) hb hT hh (setRow_heap w _ cur _ el _ hh) rfl rfl rfl (by simp) (fun b hb'=>setRow_other w _ b _ hb') ?_ ?_ ?_ ?_ ?_) (fun h=>by rw [ho] at h;cases h)
 ·simp only [List.toList_toArray]
  rw [hvl]
  exact (hd1.app hr).app hd2
 ·intro u hu
  simp only [List.toList_toArray,List.mem_append] at hu
  rcases hu with (h | h) | h
  ·exact hc1 u (List.mem_of_mem_take h)
  ·exact hone u h
  ·exact hc1 u (List.mem_of_mem_drop h)
 ·refine List.nodup_cons.2 ⟨fun h=>?_,?_⟩
  ·simp only [List.mem_append] at h
   rcases h with (h | h) | h
   ·exact (List.nodup_cons.1 hn').1 (by simp [h])
   ·exact hTown _ h (by simp)
   ·exact (List.nodup_cons.1 hn').1 (by simp [h])
  ·refine List.nodup_append.2 ⟨List.nodup_append.2 ⟨hnA.1,hTn,fun b hb' c hc e=>?_⟩,hnM.2.1,fun b hb' c hc e=>?_⟩
   ·subst e;exact hTown b hc (by simp [hb'])
   ·subst e
    rcases List.mem_append.1 hb' with h | h
    ·exact hnA.2.2 b h b (by simp [hc]) rfl
    ·exact hTown b h (by simp [hc])
 ·intro b hb'
  simp only [List.mem_append] at hb'
  rcases hb' with (h | h) | h
  ·exact .inl (by rw [hAB];simp [h])
  ·exact .inr (hTo b h)
  ·exact .inl (by rw [hAB];simp [h])
 ·intro q hq
  obtain ⟨y,hy⟩:=hsrc q hq
  exact (S1.env q y hy).1
def sizeIs (P:Program) (t:TypeId) (n:Nat):Bool:=match sizeT P t with
 | some k=>Nat.beq k n
 | none=>false
theorem sizeIs_eq {t:TypeId} {n:Nat} (h:sizeIs P t n=true):sizeT P t=some n:=by
 unfold sizeIs at h
 split at h
 ·rename_i k hk
  rw [hk,Nat.eq_of_beq_eq_true h]
 ·cases h
def evStoreB (P:Program) (o:Oper) (t:TypeId) (s:Nat) (x:Operand) (e:E):Option E :=
 match o.dst with
 | some _=>none
 | none=>match look e.st.env s with
  | some (.d (.ptr id off))=>match x,(match x with | .tmp q=>look e.st.env q | _=>none) with
   | .tmp q,some (.d (.v (.row (some el) sz es)))=>match e.st.box[id]? with
    | some (.cells cs)=>match Nat.ble (off+1) cs.length && sizeIs P t 1 with
     | true=>some { e with st:=e.st.setBox id (some q) (cs.take off++[.v (.row (some el) sz es)]++cs.drop (off+1)) }
     | false=>none
    | _=>none
   | .tmp _,some (.al (.top (.b i c)))=>match e.st.box[id]? with
    | some (.cells cs)=>match Nat.ble (off+1) cs.length && sizeIs P t 1 && Nat.beq i id && Nat.beq c off with
     | true=>some e
     | false=>none
    | _=>none
   | .tmp q,some (.d (.ptr i f))=>match e.st.box[id]? with
    | some (.cells cs)=>match Nat.ble (off+1) cs.length && sizeIs P t 1 with
     | true=>some { e with st:=e.st.setBox id none (cs.take off++[.ptr i f]++cs.drop (off+1)) }
     | false=>none
    | _=>none
   | _,_=>match val x e with
    | some (u,e)=>match look e.st.env s,e.st.box[id]? with
     | some (.d (.ptr id' off')),some (.cells cs)=>match u.flatOk && Nat.ble (off+u.cells.length) cs.length && sizeIs P t u.cells.length && Nat.beq id id' && Nat.beq off off' with
      | true=>some { e with st:=e.st.setBox id none (cs.take off++dv u.cells++cs.drop (off+(dv u.cells).length)) }
      | false=>none
     | _,_=>none
    | none=>none
  | _=>none
theorem evStoreB_ok {o:Oper} {t:TypeId} {s:Nat} {x:Operand} {e e':E} (ho:o.op=.store t (.tmp s) x) (h:evStoreB P o t s x e=some e'):OpOk P C o e e':=by
 unfold evStoreB at h
 split at h
 ·cases h
 rename_i hd
 split at h
 ·rename_i id off hl
  split at h
  ·rename_i q el sz es hq
   split at h
   ·rename_i cs hb
    split at h
    ·rename_i hc
     cases h
     rw [Bool.and_eq_true] at hc
     have c1:=Nat.le_of_ble_eq_true hc.1
     have c2:=sizeIs_eq hc.2
     have hq:look e.st.env q=some (.d (.v (.row (some el) sz es))):=hq
     refine OpOk.store (ds:=[.v (.row (some el) sz es)]) ho hd (fun h=>h) hl hb (by simpa using c1) c2 (fun _ g a w S=>?_) (fun q' e'=>by cases e';exact ⟨_,hq⟩)
     obtain ⟨_,h2,h3⟩:=S.env q _ hq
     have h2:RepD g w (a.eval (.tmp q)) (.v (.row (some el) sz es)) (g.TE q):=h2
     have hone:=h2.inv.one rfl
     refine ⟨g,g.TE q,S,?_,?_,S.nodE q,fun b hb'=>⟨q,rfl,h3 b hb'⟩⟩
     ·rw [cells_one hone]
      have:=RepDL.cons h2 (RepDL.nil (g:=g) (w:=w))
      simpa using this
     ·rw [cells_one hone];simpa using hone
    ·cases h
   ·cases h
  ·rename_i q i cc hq
   split at h
   ·rename_i cs hb
    split at h
    ·rename_i hc
     cases h
     simp only [Bool.and_eq_true] at hc
     obtain ⟨⟨⟨c1,c2⟩,c3⟩,c4⟩:=hc
     have c1:=Nat.le_of_ble_eq_true c1
     have c2:=sizeIs_eq c2
     have c3:=Nat.eq_of_beq_eq_true c3
     have c4:=Nat.eq_of_beq_eq_true c4
     subst c3
     subst c4
     have hq:look e.st.env q=some (.al (.top (.b i cc))):=hq
     refine fun hA=>⟨hA,fun g a w S next Q hn=>?_⟩
     obtain ⟨_,h2,_⟩:=S.env s _ hl
     have h2:RepD g w (a.tmps.getD s undef) (.ptr i cc) (g.TE s):=h2
     have hptr:a.eval (.tmp s)=.pointer (some ⟨g.loc i,cc,none⟩):=by
      show a.tmps.getD s undef=_
      generalize a.tmps.getD s undef=v at h2
      generalize g.TE s=T at h2
      cases h2
      rfl
     obtain ⟨⟨cur,el,A,hT,hh,hrc,hc1⟩,hown⟩:=S.box i _ hb
     have hcl:cur.size=cs.length:=by rw [← Array.length_toList];exact hrc.length
     obtain ⟨_,⟨_,h3⟩,_⟩:=S.env q _ hq
     have h3:pvR g a w (.b i cc)=some (a.eval (.tmp q)):=h3
     simp only [pvR] at h3
     split at h3
     rotate_left
     ·cases h3
     simp only [World.cell?,hh] at h3
     have hget:cur.toList[cc]? = some (a.eval (.tmp q)):=by simpa using h3
     have hone:=hc1 _ (List.mem_of_getElem? hget)
     have hcells:=cells_one hone
     have hst:=storeAt_run (P:=P) (t:=t) (b:=g.loc i) (off:=cc) (v:=a.eval (.tmp q)) hh (by rw [hcells];exact c2) (by rw [hcells,hcl];simpa using c1) (by rw [hcells];simpa using hone)
     have hsame:(cur.toList.take cc++(a.eval (.tmp q)).cells.toList++cur.toList.drop (cc+(a.eval (.tmp q)).cells.size)).toArray=cur:=by
      rw [hcells]
      apply Array.ext'
      simp only [List.size_toArray,List.length_cons,List.length_nil,Nat.zero_add,List.append_assoc]
      have hlt:cc < cur.toList.length:=(List.getElem?_eq_some_iff.1 hget).1
      have e1:cur.toList[cc]=a.eval (.tmp q):=(List.getElem?_eq_some_iff.1 hget).2
      conv=>rhs;rw [← List.take_append_drop cc cur.toList,List.drop_eq_getElem_cons hlt,e1]
      rfl
     rw [hsame,setRow_self w _ cur el _ hh] at hst
     have hexec:(execOp a.eval o).run P w=.ok .skip w:=by
      unfold execOp
      simp only [ho,hptr,Sem.run_bind,hst,Result.andThen_ok,Sem.run_pure]
     unfold Oper.wp
     rw [hexec,Oper.upon_skip,hd]
     exact hn _ _ _ S (fun h=>by rw [ho] at h;cases h)
    ·cases h
   ·cases h
  ·rename_i q i f hq
   split at h
   ·rename_i cs hb
    split at h
    ·rename_i hc
     cases h
     rw [Bool.and_eq_true] at hc
     have c1:=Nat.le_of_ble_eq_true hc.1
     have c2:=sizeIs_eq hc.2
     have hq:look e.st.env q=some (.d (.ptr i f)):=hq
     refine OpOk.store (src:=none) (ds:=[.ptr i f]) ho hd (fun h=>h) hl hb (by simpa using c1) c2 (fun _ g a w S=>?_) (fun q' e'=>by cases e')
     obtain ⟨_,h2,h3⟩:=S.env q _ hq
     have h2:RepD g w (a.eval (.tmp q)) (.ptr i f) (g.TE q):=h2
     have hT:=h2.noOwn rfl
     rw [hT] at h2
     have hone:(a.eval (.tmp q)).oneCell'=true:=by generalize a.eval (.tmp q)=v at h2;cases h2;rfl
     refine ⟨g,[],S,?_,?_,List.nodup_nil,fun b hb'=>by cases hb'⟩
     ·rw [cells_one hone]
      have:=RepDL.cons h2 (RepDL.nil (g:=g) (w:=w))
      simpa using this
     ·rw [cells_one hone];simpa using hone
    ·cases h
   ·cases h
  ·split at h
   ·rename_i u e1 hv
    split at h
    ·rename_i id' off' cs hl1 hb
     split at h
     ·rename_i hc
      cases h
      simp only [Bool.and_eq_true] at hc
      obtain ⟨⟨⟨⟨c1,c2⟩,c3⟩,c4⟩,c5⟩:=hc
      have c2:=Nat.le_of_ble_eq_true c2
      have c3:=sizeIs_eq c3
      have c4:=Nat.eq_of_beq_eq_true c4
      have c5:=Nat.eq_of_beq_eq_true c5
      subst c4
      subst c5
      refine OpOk.store (src:=none) (ds:=dv u.cells) ho hd (fun hA=>(val_ok (C:=C) hv hA).1) hl1 hb (by rw [dv_length];exact c2) (by rw [dv_length];exact c3) (fun hA g a w S=>?_) (fun q' e'=>by cases e')
      obtain ⟨g1,k1,S1,r1⟩:=(val_ok (C:=C) hv hA).2 g a w S
      obtain ⟨r3,r4⟩:=r1.flat c1
      exact ⟨g1,[],S1,r3.dv,r3.one r4,List.nodup_nil,fun b hb'=>by cases hb'⟩
     ·cases h
    ·cases h
   ·cases h
 ·cases h
end
end Go.Rf
end
section
namespace Go.Rf
open Go.RowKit
set_option linter.unusedVariables false
set_option linter.unusedSimpArgs false
variable [Tabs]
def holdB:Root→Root→Bool
 | .t a,.t b=>Nat.beq a b
 | .b a _,.b b _=>Nat.beq a b
 | _,_=>false
theorem holdB_eq {r q:Root} (h:r.holder=q.holder):holdB r q=true:=by
 cases r<;>cases q<;>simp_all [Root.holder,holdB]
theorem holdB_ne {r q:Root} (h:holdB r q=false):r.holder≠q.holder:=fun e=>by rw [holdB_eq e] at h;cases h
def rootB:Root→Root→Bool
 | .t a,.t b=>Nat.beq a b
 | .b a c,.b b d=>Nat.beq a b && Nat.beq c d
 | _,_=>false
theorem rootB_eq {r q:Root} (h:rootB r q=true):r=q:=by
 cases r<;>cases q<;>simp_all [rootB]
def X.killO (r:Root):X→X
 | .al (.elt q sz i j)=>match holdB q r with
  | true=>.dead
  | false=>.al (.elt q sz i j)
 | .pa q sz i j=>match holdB q r with
  | true=>match rootB q r with
   | true=>.pa q sz i j
   | false=>.dead
  | false=>.pa q sz i j
 | x=>x
def killO (r:Root):List (Nat × X)→List (Nat × X)
 | []=>[]
 | (k,x) :: l=>(k,x.killO r) :: killO r l
theorem look_killO (r:Root):∀ (l:List (Nat × X)) (t:Nat),look (killO r l) t=(look l t).map (X.killO r)
 | [],_=>rfl
 | (k,x) :: l,t=>by
  simp only [killO,look]
  cases Nat.beq t k with
  | true=>rfl
  | false=>exact look_killO r l t
theorem X.killO_cases (r:Root) (x:X):x.killO r=.dead∨(x.killO r=x∧((∀ h,x.rootH=some h→h≠r.holder)∨(∃ q,x=.al (.top q))∨∃ sz i j,x=.pa r sz i j)):=by
 cases x with
 | al p =>
  cases p with
  | top q=>exact .inr ⟨rfl,.inr (.inl ⟨q,rfl⟩)⟩
  | elt q sz i j =>
   simp only [X.killO]
   cases h:holdB q r with
   | true=>exact .inl rfl
   | false=>exact .inr ⟨rfl,.inl fun h' hq=>by cases hq;exact holdB_ne h⟩
 | pa q sz i j =>
  simp only [X.killO]
  cases h:holdB q r with
  | true =>
   cases h2:rootB q r with
   | true=>exact .inr ⟨rfl,.inr (.inr ⟨sz,i,j,by rw [rootB_eq h2]⟩)⟩
   | false=>exact .inl rfl
  | false=>exact .inr ⟨rfl,.inl fun h' hq=>by cases hq;exact holdB_ne h⟩
 | d d=>exact .inr ⟨rfl,.inl fun h' hq=>by cases hq⟩
 | dead=>exact .inl rfl
section
variable {C:Ctx} {g:G} {st:St} {a:Act} {w w':World}
theorem RepDL.setK {g:G} {w:World}:∀ {vs:List Value} {ds:List D} {T:List Nat} {c:Nat} {d:D},RepDL g w vs ds T→ds[c]? = some d →
 ∃ v T1 Tc T2,vs[c]? = some v∧T=T1++(Tc++T2)∧RepD g w v d Tc∧∀ g' w' d' T',KeepsG g g' w w'→(∀ b∈T1++T2,w'.heap[b]? = w.heap[b]?)→RepD g' w' v d' T'→RepDL g' w' vs (ds.set c d') (T1++(T'++T2))
 | _,_,_,_,_,.nil,h=>by simp at h
 | _,_,_,0,d,.cons (v:=v) (A:=A) (B:=B) h1 h2,h=>by
  simp only [List.getElem?_cons_zero,Option.some.injEq] at h
  subst h
  exact ⟨v,[],A,B,rfl,rfl,h1,fun g' w' d' T' k hs h'=>(RepDL.cons h' (h2.keep k hs):RepDL g' w' _ _ (T'++B))⟩
 | _,_,_,c+1,d,.cons (A:=A) (B:=B) h1 h2,h=>by
  simp only [List.getElem?_cons_succ] at h
  obtain ⟨v,T1,Tc,T2,e1,e2,e3,e4⟩:=h2.setK h
  subst e2
  refine ⟨v,A++T1,Tc,T2,by simpa using e1,by simp,e3,fun g' w' d' T' k hs h'=>?_⟩
  have:=RepDL.cons (h1.keep k (fun b hb=>hs b (by simp [hb]))) (e4 g' w' d' T' k (fun b hb=>hs b (by simp only [List.mem_append] at hb ⊢;rcases hb with h | h<;>simp [h])) h')
  simpa using this
def St.reset (st:St) (r:Root) (u:V) (src:Option Nat):St:=match r with
 | .t s=>{ env:=(s,.d (.v u)) :: killO (.t s) (wipeT src st.env),box:=st.box }
 | .b id c=>match st.box[id]? with
  | some (.cells cs)=>{ env:=killO (.b id c) (wipeT src st.env),box:=st.box.set id (.cells (cs.set c (.v u))) }
  | _=>st
def G.reset (g:G) (h:Nat ⊕ Nat) (T T' N:List Nat) (src:Option Nat):G :=
 { g with own:=fun b=>if b∈T' then some h else if b∈T then none else match src with
            | some q=>if g.own b=some (.inl q) then none else g.own b
            | none=>g.own b,
          TE:=fun t=>if h=.inl t then N else match src with
            | some q=>if t=q then [] else g.TE t
            | none=>g.TE t,
          TB:=fun i=>if h=.inr i then N else g.TB i }
theorem look_wipe2 {src:Option Nat} {l:List (Nat × X)} {t:Nat} {y:X} {r:Root} (h:look (killO r (wipeT src l)) t=some y) :
 (src=some t∧y=.dead)∨(src≠some t∧∃ z,look l t=some z∧(y=.dead∨(y=z∧(∀ q,src=some q→∀ h,z.rootH=some h→h≠.inl q)∧((∀ h,z.rootH=some h→h≠r.holder)∨(∃ q,z=.al (.top q))∨∃ sz i j,z=.pa r sz i j)))):=by
 rw [look_killO] at h
 cases src with
 | none =>
  simp only [wipeT] at h
  refine .inr ⟨by simp,?_⟩
  cases hl:look l t with
  | none=>rw [hl] at h;cases h
  | some z =>
   rw [hl] at h
   simp only [Option.map_some,Option.some.injEq] at h
   refine ⟨z,rfl,?_⟩
   rcases X.killO_cases r z with h2 | ⟨h2,h3⟩
   ·exact .inl (by rw [← h,h2])
   ·exact .inr ⟨by rw [← h,h2],by simp,h3⟩
 | some q =>
  simp only [wipeT,look] at h
  cases hb:Nat.beq t q with
  | true =>
   have:=Nat.eq_of_beq_eq_true hb
   subst this
   rw [hb] at h
   simp only [Option.map_some,Option.some.injEq] at h
   exact .inl ⟨rfl,h ▸ rfl⟩
  | false =>
   rw [hb] at h
   have htq:t≠q:=fun e=>by rw [e,Nat.beq_refl] at hb;cases hb
   refine .inr ⟨fun e=>htq (Option.some.inj e).symm,?_⟩
   simp only [look_kill] at h
   cases hl:look l t with
   | none=>rw [hl] at h;cases h
   | some z =>
    rw [hl] at h
    simp only [Option.map_some,Option.some.injEq] at h
    refine ⟨z,rfl,?_⟩
    rcases X.kill_cases (isT q) z with h1 | ⟨h1,_⟩
    ·rw [h1] at h;exact .inl (h ▸ rfl)
    ·rw [h1] at h
     rcases X.killO_cases r z with h2 | ⟨h2,h3⟩
     ·exact .inl (by rw [← h,h2])
     ·by_cases hd:z=.dead
      ·exact .inl (by rw [← h,h2,hd])
      ·exact .inr ⟨by rw [← h,h2],fun q' e h' hh=>by cases e;exact X.kill_rootH h1 hd h' hh,h3⟩
theorem SRep.lens (S:SRep C g st a w) {r:Root} {u:V} (hu:rootVal st r=some u):∃ v T,pvR g a w r=some v∧Rep g.pub w v u T∧T.Nodup∧(∀ b∈T,g.own b=some r.holder) ∧
 ∀ (w':World) (u':V) (T':List Nat) (src:Option Nat),w'.os=w.os→w'.tape=w.tape→w'.output=w.output→w.heap.size≤w'.heap.size →
  (∀ b,b < w.heap.size→b∉T→w'.heap[b]? = w.heap[b]?)→Rep g.pub w' v u' T'→T'.Nodup→(∀ b∈T',b∈T∨∃ q,src=some q∧g.own b=some (.inl q)) →
  (∀ q,src=some q→q < C.N∧r.holder≠.inl q)→(∀ b,v.ownBlock=some b→b∈T→b∈T') →
  ∃ g',g'.pub=g.pub∧(∀ b∈T,b∉T'→g'.own b=none)∧SRep C g' (st.reset r u' src) a w':=by
 have main:∀ (v:Value) (T:List Nat) (w':World) (u':V) (T' N:List Nat) (src:Option Nat) (st':St) (hh:r.holder=r.holder),pvR g a w r=some v→T.Nodup→(∀ b∈T,g.own b=some r.holder) →
  w'.os=w.os→w'.tape=w.tape→w'.output=w.output→w.heap.size≤w'.heap.size →
  (∀ b,b < w.heap.size→b∉T→w'.heap[b]? = w.heap[b]?)→(∀ b∈T',b∈T∨∃ q,src=some q∧g.own b=some (.inl q)) →
  (∀ q,src=some q→q < C.N∧r.holder≠.inl q)→(∀ b,v.ownBlock=some b→b∈T→b∈T') →
  N.Nodup→(∀ b∈N,b∈T'∨(b∉T∧g.own b=some r.holder)) →
  st'.box.length=st.box.length →
  (∀ i,r.holder≠.inr i→st'.box[i]? = st.box[i]?)→(∀ t,r.holder≠.inl t→look st'.env t=look (killO r (wipeT src st.env)) t) →
  (∀ t y,r.holder=.inl t→look st'.env t=some y→t < C.N∧XRep (g.reset r.holder T T' N src) a w' (a.tmps.getD t undef) y N) →
  (∀ i b,r.holder=.inr i→st'.box[i]? = some b→BRep (g.reset r.holder T T' N src) w' (g.loc i) b N) →
  (∀ i c,r=.b i c→g.loc i∉T) →
  SRep C (g.reset r.holder T T' N src) st' a w':=by
  intro v T w' u' T' N src st' _ hpv hTn hTo ho ht hou hsz hsame hT' hsrc hblk hNn hN hlen hbx henv hE hB hloc
  have ownT':∀ b∈T',∃ h,g.own b=some h:=fun b hb=>by
   rcases hT' b hb with h | ⟨q,_,h⟩
   ·exact ⟨_,hTo b h⟩
   ·exact ⟨_,h⟩
  let chg:Nat ⊕ Nat→Prop:=fun h=>h=r.holder∨∃ q,src=some q∧h=.inl q
  have notin:∀ b h,g.own b=some h→¬ chg h→b∉T'∧b∉T:=by
   intro b h hb hc
   refine ⟨fun hb'=>?_,fun hb'=>?_⟩
   ·rcases hT' b hb' with h2 | ⟨q,hq,h2⟩
    ·rw [hTo b h2] at hb;cases hb;exact hc (.inl rfl)
    ·rw [h2] at hb;cases hb;exact hc (.inr ⟨q,hq,rfl⟩)
   ·rw [hTo b hb'] at hb;cases hb;exact hc (.inl rfl)
  have ownR:∀ b∈N,(g.reset r.holder T T' N src).own b=some r.holder:=by
   intro b hb
   simp only [G.reset]
   rcases hN b hb with h | ⟨h1,h2⟩
   ·rw [if_pos h]
   ·by_cases h3:b∈T'
    ·rw [if_pos h3]
    ·rw [if_neg h3,if_neg h1]
     cases src with
     | none=>exact h2
     | some q =>
      simp only
      rw [if_neg (fun e=>(hsrc q rfl).2 (by rw [h2] at e;exact Option.some.inj e))]
      exact h2
  have k:KeepsG g (g.reset r.holder T T' N src) w w':=⟨fun _ h=>h,Nat.le_refl _,fun _ _=>rfl,fun b hb=>hsame b (S.publt b hb) (fun h=>(S.own b _ (hTo b h)).2.2 hb)⟩
  have keepO:∀ b,g.own b=some r.holder→b∉T→(g.reset r.holder T T' N src).own b=some r.holder:=by
   intro b hb hn
   simp only [G.reset]
   by_cases h3:b∈T'
   ·rw [if_pos h3]
   ·rw [if_neg h3,if_neg hn]
    cases src with
    | none=>exact hb
    | some q =>
     simp only
     rw [if_neg (fun e=>(hsrc q rfl).2 (by rw [hb] at e;exact Option.some.inj e))]
     exact hb
  have hpvR:∀ q u,q.holder=r.holder→pvR g a w q=some u→pvR (g.reset r.holder T T' N src) a w' q=some u:=by
   intro q u hq h
   cases q with
   | t x=>exact h
   | b id c =>
    simp only [pvR] at h ⊢
    split at h
    ·rename_i hc
     cases r with
     | t x=>simp [Root.holder] at hq
     | b i c' =>
      have hq':id=i:=by simpa [Root.holder] using hq
      subst hq'
      have hnl:=hloc id c' rfl
      have:(g.reset (Root.b id c').holder T T' N src).own (g.loc id)=some (.inr id):=keepO _ hc.2 hnl
      rw [if_pos ⟨hc.1,this⟩,← h]
      exact cell?_same (hsame _ (by have:=(S.own _ _ hc.2).2.1;exact this) hnl)
    ·cases h
  refine S.change chg S.defers S.tmps ho ht hou hsz (fun _ h=>h) (fun _ h=>.inl h) (fun b hb=>Nat.lt_of_lt_of_le (S.publt b hb) hsz) (by rw [hlen];exact S.n) (Nat.le_refl _) (fun _ _=>rfl) ?_ ?_ ?_ ?_ ?_ ?_ ?_ ?_ ?_
  ·intro b hb h
   refine hsame b hb (fun hbT=>?_)
   have hbo:=hTo b hbT
   rcases h with h | ⟨h,h2,h3⟩ | ⟨h2,h3⟩
   ·exact (S.own b _ hbo).2.2 h
   ·rw [hbo] at h2;cases h2;exact h3 (.inl rfl)
   ·rcases (S.own b _ hbo).1 with h4 | h4
    ·omega
    ·exact h3 h4
  ·intro b h hb hc
   obtain ⟨n1,n2⟩:=notin b h hb hc
   simp only [G.reset]
   rw [if_neg n1,if_neg n2]
   cases src with
   | none=>exact hb
   | some q =>
    simp only
    rw [if_neg (by rw [hb];intro e;exact hc (.inr ⟨q,rfl,Option.some.inj e⟩))]
    exact hb
  ·intro t ht'
   refine ⟨rfl,?_⟩
   simp only [G.reset]
   rw [if_neg (fun e=>ht' (.inl e.symm))]
   cases src with
   | none=>rfl
   | some q =>
    simp only
    rw [if_neg (fun e=>ht' (.inr ⟨q,rfl,by rw [e]⟩))]
  ·intro i hi
   refine ⟨?_,hbx i (fun e=>hi (.inl e.symm))⟩
   simp only [G.reset]
   rw [if_neg (fun e=>hi (.inl e.symm))]
  ·intro t y hy
   by_cases hr:r.holder=.inl t
   ·obtain ⟨h1,h2⟩:=hE t y hr hy
    have e1:(g.reset r.holder T T' N src).TE t=N:=by simp [G.reset,hr]
    refine .inr ⟨h1,by rw [e1];exact h2,fun b hb=>?_⟩
    rw [e1] at hb
    rw [ownR b hb,hr]
   ·rw [henv t hr] at hy
    rcases look_wipe2 hy with ⟨hs,rfl⟩ | ⟨hs,z,hz,h⟩
    ·refine .inr ⟨(hsrc t hs).1,trivial,?_⟩
     have:(g.reset r.holder T T' N src).TE t=[]:=by simp [G.reset,hr,hs]
     rw [this];simp
    ·have hnc:¬ chg (.inl t):=by
      rintro (e | ⟨q,hq,e⟩)
      ·exact hr e.symm
      ·cases e;exact hs hq
     rcases h with rfl | ⟨rfl,h1,h2⟩
     ·exact .inl ⟨hnc,.inr ⟨rfl,z,hz⟩⟩
     ·by_cases hrt:∀ h,y.rootH=some h→h≠r.holder
      ·refine .inl ⟨hnc,.inl ⟨hz,fun h hh e=>?_⟩⟩
       rcases e with e | ⟨q,hq,e⟩
       ·exact hrt h hh e
       ·exact h1 q hq h hh e
      ·obtain ⟨k1,k2,k3⟩:=S.env t y hz
       have eTE:(g.reset r.holder T T' N src).TE t=g.TE t:=by
        simp only [G.reset]
        rw [if_neg hr]
        cases src with
        | none=>rfl
        | some q =>
         simp only
         rw [if_neg (fun e=>hs (by rw [e]))]
       have kT:∀ b∈g.TE t,(g.reset r.holder T T' N src).own b=some (.inl t):=fun b hb=>by
        have hb':=k3 b hb
        obtain ⟨n1,n2⟩:=notin b _ hb' hnc
        simp only [G.reset]
        rw [if_neg n1,if_neg n2]
        cases src with
        | none=>exact hb'
        | some q =>
         simp only
         rw [if_neg (by rw [hb'];intro e;exact hnc (.inr ⟨q,rfl,Option.some.inj e⟩))]
         exact hb'
       refine .inr ⟨k1,?_,by rw [eTE];exact kT⟩
       rw [eTE]
       rcases h2 with h2 | ⟨q,rfl⟩ | ⟨sz,i,j,rfl⟩
       ·exact (hrt h2).elim
       ·refine ⟨k2.1,?_⟩
        have hq:q.holder=r.holder:=Classical.byContradiction fun hne=>hrt (fun h hh e=>by
         simp only [X.rootH,Pl.root,Option.some.injEq] at hh
         exact hne (hh.trans e))
        exact hpvR q _ hq k2.2
       ·obtain ⟨e1,b,e2,e3,e4⟩:=k2
        rw [hpv] at e2
        refine ⟨e1,b,?_,?_,e4⟩
        ·rw [hpvR r v rfl hpv];exact e2
        ·by_cases hbT:b∈T
         ·have:b∈T':=hblk b e2 hbT
          simp only [G.reset]
          rw [if_pos this]
         ·exact keepO b e3 hbT
  ·intro i b hb hc
   rcases hc with hc | ⟨q,_,hc⟩
   ·have e1:(g.reset r.holder T T' N src).TB i=N:=by simp [G.reset,← hc]
    rw [e1]
    refine ⟨hB i b hc.symm hb,fun b hb=>?_⟩
    rw [ownR b hb,hc]
   ·cases hc
  ·intro t hc
   rcases hc with hc | ⟨q,hq,hc⟩
   ·simp only [G.reset]
    rw [if_pos hc.symm];exact hNn
   ·cases hc
    simp only [G.reset]
    split
    ·exact hNn
    ·simp [hq]
  ·intro i hc
   rcases hc with hc | ⟨q,hq,hc⟩
   ·simp only [G.reset]
    rw [if_pos hc.symm];exact hNn
   ·cases hc
  ·intro b h hb
   simp only [G.reset] at hb
   by_cases hb1:b∈T'
   ·obtain ⟨h',h2⟩:=ownT' b hb1
    exact .inr ⟨.inl ⟨h',h2⟩,Nat.lt_of_lt_of_le (S.own b h' h2).2.1 hsz,(S.own b h' h2).2.2⟩
   ·rw [if_neg hb1] at hb
    split at hb
    ·cases hb
    ·cases src with
     | none=>exact .inl ⟨hb,(S.own b h hb).2.2⟩
     | some q =>
      simp only at hb
      split at hb
      ·cases hb
      ·exact .inl ⟨hb,(S.own b h hb).2.2⟩
 cases r with
 | t s =>
  simp only [rootVal] at hu
  split at hu
  ·rename_i x hx
   cases hu
   obtain ⟨h1,h2,h3⟩:=S.env s _ hx
   have hpv:pvR g a w (.t s)=some (a.tmps.getD s undef):=by
    have:s < a.tmps.size:=by rw [S.tmps];exact h1
    simp [pvR,Array.getD_eq_getD_getElem?,this]
   refine ⟨a.tmps.getD s undef,g.TE s,hpv,RepD.inv h2,S.nodE s,h3,?_⟩
   intro w' u' T' src ho ht hou hsz hsame hR hn hT' hsrc hblk
   refine ⟨g.reset (Root.t s).holder (g.TE s) T' T' src,rfl,fun b hb hb'=>?_,main _ (g.TE s) w' u' T' T' src (st.reset (.t s) u' src) rfl hpv (S.nodE s) h3 ho ht hou hsz hsame hT' hsrc hblk hn (fun b hb=>.inl hb) rfl (fun _ _=>rfl) ?_ ?_ ?_ ?_⟩
   ·simp only [G.reset];rw [if_neg hb',if_pos hb]
   ·intro t htr
    have:Nat.beq t s=false:=by
     cases hb:Nat.beq t s with
     | true=>exact (htr (by rw [Nat.eq_of_beq_eq_true hb];rfl)).elim
     | false=>rfl
    simp only [St.reset,look,this]
   ·intro t y htr hy
    have hts:s=t:=by simpa [Root.holder] using htr
    subst hts
    simp only [St.reset,look,Nat.beq_refl] at hy
    cases hy
    exact ⟨h1,.v hR⟩
   ·intro i b hr;cases hr
   ·intro i c hr;cases hr
  ·cases hu
 | b id c =>
  simp only [rootVal] at hu
  split at hu
  ·rename_i cs hb
   split at hu
   ·rename_i x hx
    cases hu
    obtain ⟨⟨cur,e,A,hT,hh,hr,h1⟩,h2⟩:=S.box id _ hb
    have hid:id < st.box.length:=by
     rcases Nat.lt_or_ge id st.box.length with h | h
     ·exact h
     ·rw [List.getElem?_eq_none h] at hb;cases hb
    obtain ⟨v,T1,Tc,T2,e1,e2,e3,e4⟩:=hr.setK hx
    have hn:=S.nodB id
    rw [hT,e2] at hn
    have hn2:(T1++(Tc++T2)).Nodup:=(List.nodup_cons.1 hn).2
    have hTc:Tc.Nodup:=(List.nodup_append.1 (List.nodup_append.1 hn2).2.1).1
    have ho:∀ b,b∈g.TB id→g.own b=some (.inr id):=h2
    have hTcm:∀ b∈Tc,g.own b=some (.inr id):=fun b hb=>ho b (by rw [hT,e2];simp [hb])
    have hlo:g.own (g.loc id)=some (.inr id):=ho _ (by rw [hT];simp)
    have hlc:g.loc id∉Tc:=fun h=>(List.nodup_cons.1 hn).1 (by simp [h])
    have hdis:∀ b∈T1++T2,b∉Tc:=by
     intro b hb hb'
     rcases List.mem_append.1 hb with h | h
     ·exact (List.nodup_append.1 hn2).2.2 b h b (by simp [hb']) rfl
     ·exact (List.nodup_append.1 (List.nodup_append.1 hn2).2.1).2.2 b hb' b h rfl
    have hpv:pvR g a w (.b id c)=some v:=by
     simp only [pvR]
     rw [if_pos ⟨by rw [S.n];exact hid,hlo⟩]
     simp only [World.cell?,hh]
     simpa using e1
    refine ⟨v,Tc,hpv,RepD.inv e3,hTc,hTcm,?_⟩
    intro w' u' T' src ho' ht hou hsz hsame hR hTn' hT' hsrc hblk
    have hT'2:∀ b∈T',b∉g.loc id :: (T1++T2):=by
     intro b hb hb'
     rcases hT' b hb with h | ⟨q,hq,h⟩
     ·rcases List.mem_cons.1 hb' with rfl | h'
      ·exact hlc h
      ·exact hdis b h' h
     ·have:b∈g.TB id:=by
       rw [hT,e2]
       rcases List.mem_cons.1 hb' with rfl | h'
       ·simp
       ·rcases List.mem_append.1 h' with h' | h'<;>simp [h']
      rw [ho b this] at h;cases h
    have hNn:(g.loc id :: (T1++(T'++T2))).Nodup:=by
     refine List.nodup_cons.2 ⟨fun h=>?_,?_⟩
     ·rcases List.mem_append.1 h with h | h
      ·exact (List.nodup_cons.1 hn).1 (by simp [h])
      ·rcases List.mem_append.1 h with h | h
       ·exact hT'2 _ h (by simp)
       ·exact (List.nodup_cons.1 hn).1 (by simp [h])
     ·have n1:=List.nodup_append.1 hn2
      have n2:=List.nodup_append.1 n1.2.1
      refine List.nodup_append.2 ⟨n1.1,List.nodup_append.2 ⟨hTn',n2.2.1,fun x hx y hy e=>?_⟩,fun x hx y hy e=>?_⟩
      ·subst e;exact hT'2 x hx (by simp [hy])
      ·subst e
       rcases List.mem_append.1 hy with h | h
       ·exact hT'2 x h (by simp [hx])
       ·exact n1.2.2 x hx x (by simp [h]) rfl
    have hstb:st.reset (.b id c) u' src={ env:=killO (.b id c) (wipeT src st.env),box:=st.box.set id (.cells (cs.set c (.v u'))) }:=by simp only [St.reset,hb]
    have hsz':∀ b,g.own b=some (.inr id)→b < w.heap.size:=fun b hb=>(S.own b _ hb).2.1
    refine ⟨g.reset (Root.b id c).holder Tc T' (g.loc id :: (T1++(T'++T2))) src,rfl,fun b hb hb'=>?_,?_⟩
    ·simp only [G.reset];rw [if_neg hb',if_pos hb]
    rw [hstb]
    refine main v Tc w' u' T' _ src _ rfl hpv hTc hTcm ho' ht hou hsz hsame hT' hsrc hblk hNn ?_ ?_ ?_ ?_ ?_ ?_ ?_
    ·intro b hb'
     rcases List.mem_cons.1 hb' with rfl | hb'
     ·exact .inr ⟨hlc,hlo⟩
     ·rcases List.mem_append.1 hb' with h | h
      ·exact .inr ⟨hdis b (by simp [h]),ho b (by rw [hT,e2];simp [h])⟩
      ·rcases List.mem_append.1 h with h | h
       ·exact .inl h
       ·exact .inr ⟨hdis b (by simp [h]),ho b (by rw [hT,e2];simp [h])⟩
    ·simp
    ·intro i hi
     have hi':id≠i:=fun e=>hi (by rw [e];rfl)
     exact List.getElem?_set_ne hi'
    ·intro t _;rfl
    ·intro t y hr;cases hr
    ·intro i b hr hb'
     have hi:id=i:=by simpa [Root.holder] using hr
     subst hi
     rw [List.getElem?_set_self hid] at hb'
     cases hb'
     have hhw:w'.heap[g.loc id]? = some (.cells cur e (0,0)):=(hsame _ (hsz' _ hlo) hlc).trans hh
     have k:KeepsG g (g.reset (Root.b id c).holder Tc T' (g.loc id :: (T1++(T'++T2))) src) w w':=⟨fun _ h=>h,Nat.le_refl _,fun _ _=>rfl,fun b hb=>hsame b (S.publt b hb) (fun h=>(S.own b _ (hTcm b h)).2.2 hb)⟩
     refine ⟨cur,e,T1++(T'++T2),rfl,hhw,?_,h1⟩
     refine e4 _ w' _ T' k (fun b hb=>hsame b (hsz' b (ho b ?_)) (hdis b hb)) (.v hR)
     rw [hT,e2]
     rcases List.mem_append.1 hb with h | h<;>simp [h]
    ·intro i c' hr
     have hi:id=i:=by cases hr;rfl
     subst hi
     exact hlc
   ·cases hu
  ·cases hu
end
end Go.Rf
end
section
namespace Go.Rf
open Go.RowKit
set_option linter.unusedVariables false
set_option linter.unusedSimpArgs false
variable [Tabs]
def setC (el:V) (j:Nat) (ds:List V):V:=match el with
 | .agg cs=>.agg (cs.take j++ds++cs.drop (j+ds.length))
 | x=>match ds with
  | [d]=>d
  | _=>x
def oneD:V→Bool
 | .agg _=>false
 | _=>true
def setOk (el:V) (j:Nat) (ds:List V):Bool:=match el with
 | .agg cs=>Nat.ble (j+ds.length) cs.length
 | _=>match ds with
  | [d]=>oneD d && Nat.beq j 0
  | _=>false
theorem setC_cells {el:V} {j:Nat} {ds:List V} (h:setOk el j ds=true):(setC el j ds).cells=el.cells.take j++ds++el.cells.drop (j+ds.length)∧j+ds.length≤el.cells.length:=by
 cases el with
 | agg cs=>exact ⟨rfl,Nat.le_of_ble_eq_true h⟩
 | _ =>
  simp only [setOk] at h
  split at h
  ·rename_i d
   rw [Bool.and_eq_true] at h
   have hj:=Nat.eq_of_beq_eq_true h.2
   subst hj
   refine ⟨?_,by simp [V.cells]⟩
   have hd:=h.1
   cases d<;>simp_all [setC,V.cells,oneD]
  ·cases h
theorem flat_set {sz:Nat} {el el2:V} {j:Nat} {ds:List V} (h2:el2.cells=el.cells.take j++ds++el.cells.drop (j+ds.length)) (hj:j+ds.length≤el.cells.length):∀ {es:List V} {i:Nat},(∀ e∈es,e.cells.length=sz)→es[i]? = some el →
 (es.set i el2).flatMap V.cells=(es.flatMap V.cells).take (i*sz+j)++ds++(es.flatMap V.cells).drop (i*sz+j+ds.length)
 | [],i,_,h=>by simp at h
 | e :: es,0,hs,h=>by
  simp only [List.getElem?_cons_zero,Option.some.injEq] at h
  subst h
  simp only [List.set_cons_zero,List.flatMap_cons,h2,Nat.zero_mul,Nat.zero_add]
  rw [List.take_append_of_le_length (by omega),List.drop_append_of_le_length (by omega)]
  simp
 | e :: es,i+1,hs,h=>by
  simp only [List.getElem?_cons_succ] at h
  have ih:=flat_set h2 hj (es:=es) (i:=i) (fun e he=>hs e (by simp [he])) h
  have he:=hs e (by simp)
  simp only [List.set_cons_succ,List.flatMap_cons,ih]
  have e1:(i+1)*sz+j=e.cells.length+(i*sz+j):=by rw [he,Nat.add_mul,Nat.one_mul];omega
  have e2:(i+1)*sz+j+ds.length=e.cells.length+(i*sz+j+ds.length):=by rw [e1];omega
  rw [e1,← e1,e2,e1,List.take_length_add_append,List.drop_length_add_append]
  simp
section
variable {P:Program} {C:Ctx} {g:G} {st:St} {a:Act} {w w':World}
theorem setRow_grown (w:World) (b:Nat) (cs:Array Value):w.grownBy (w.setRow b cs) (some b) :=
 ⟨rfl,rfl,rfl,by simp,fun k _ hk=>setRow_other w b k cs (fun e=>hk (by rw [e]))⟩
theorem OpOk.storeP {o:Oper} {e e1:E} {t:TypeId} {s sz i j et:Nat} {r:Root} {x:Operand} {src:Option Nat} {es es' ds:List V} {el el':V} (ho:o.op=.store t (.tmp s) x) (hd:o.dst=none)
 (hl:look e1.st.env s=some (.pa r sz i j)) (hu:rootVal e1.st r=some (.row (some et) sz es)) (hsz:sizeT P t=some ds.length) (hok:setOk el j ds=true)
 (hrun:All e1.ob→All e.ob∧∀ g a w,SRep C g e.st a w→∃ g1 T,SRep C g1 e1.st a w∧RepL g1.pub w (a.eval x).cells.toList ds T∧(∀ u∈(a.eval x).cells.toList,u.oneCell'=true)∧T.Nodup∧∀ b∈T,∃ q,src=some q∧g1.own b=some (.inl q))
 (hsrc:∀ q,src=some q→(∃ y,look e1.st.env q=some y)∧r.holder≠.inl q) (hel:All e1.ob→es[i]? = some el) (hfit:All e1.ob→Fit (setC el j ds) el') (hes:All e1.ob→es.set i el'=es') :
 OpOk P C o e { e1 with st:=e1.st.reset r (.row (some et) sz es') src }:=by
 intro hA
 obtain ⟨h0,hrun⟩:=hrun hA
 refine ⟨h0,fun g a w S next Q hn=>?_⟩
 obtain ⟨g1,T,S1,hr,hone,hTn,hTo⟩:=hrun g a w S
 obtain ⟨_,⟨_,b,h3,h4,h5⟩,_⟩:=S1.env s _ hl
 obtain ⟨v,TT,hpv,hR,hTTn,hTTo,lens⟩:=S1.lens hu
 obtain ⟨xs,A,hT,hc,hl',h1,how⟩:=own_inv hR
 obtain ⟨hcells,hj⟩:=setC_cells hok
 have hel:=hel hA
 rw [hpv] at h3
 simp only [Option.bind_some] at h3
 have hi:i < es.length:=(List.getElem?_eq_some_iff.1 hel).1
 have hels:el.cells.length=sz:=hc el (List.mem_of_getElem? hel)
 rcases how.2 with ⟨hv0,hn0⟩ | ⟨b',cap,cur,hv0,hb0,hg,hnc,hcm,hcs,htk⟩
 ·omega
 rw [hv0] at h3
 simp only [Value.ownBlock,Option.some.injEq] at h3
 subst h3
 have hvl:(a.eval x).cells.size=ds.length:=by rw [← Array.length_toList];exact hr.length
 have hoff:i*sz+j+ds.length≤es.length*sz:=by
  have:(i+1)*sz≤es.length*sz:=Nat.mul_le_mul_right _ hi
  rw [Nat.add_mul,Nat.one_mul] at this
  omega
 have hcap:es.length*sz≤cap*sz:=Nat.mul_le_mul_right _ hnc
 have hst:=storeAt_run (P:=P) (t:=t) (b:=b') (off:=i*sz+j) (v:=a.eval x) hg (by rw [hvl];exact hsz) (by rw [hvl,hcs];omega) hone
 have hexec:(execOp a.eval o).run P w=.ok .skip (w.setRow b' (cur.toList.take (i*sz+j)++(a.eval x).cells.toList++cur.toList.drop (i*sz+j+(a.eval x).cells.size)).toArray):=by
  unfold execOp
  simp only [ho,Act.eval,h5,Sem.run_bind]
  simp only [Act.eval] at hst
  simp only [hst,Result.andThen_ok,Sem.run_pure]
 unfold Oper.wp
 rw [hexec,Oper.upon_skip,hd]
 generalize hw2:w.setRow b' (cur.toList.take (i*sz+j)++(a.eval x).cells.toList++cur.toList.drop (i*sz+j+(a.eval x).cells.size)).toArray=w2
 have hgr:w.grownBy w2 (some b'):=hw2 ▸ setRow_grown w b' _
 have hbT:b'∈TT:=by rw [hT,hv0];simp [Value.ownBlock]
 rw [hT] at hTTn
 have hn1:=List.nodup_append.1 hTTn
 have hbA:b'∉A:=fun h=>hn1.2.2 b' (by rw [hv0];simp [Value.ownBlock]) b' h rfl
 obtain ⟨A1,B1,hAB,hd1,hdr⟩:=hl'.cut (i*sz+j)
 obtain ⟨M,B2,hMB,_,hd2⟩:=hdr.cut ds.length
 rw [List.drop_drop,List.drop_drop] at hd2
 subst hMB
 have npub:∀ b,g1.pub b→w2.heap[b]? = w.heap[b]?:=fun b hb=>hgr.block b (S1.publt b hb) (fun e=>by cases e;exact (S1.own _ _ (hTTo _ hbT)).2.2 hb)
 have sameA:∀ b∈A,w2.heap[b]? = w.heap[b]?:=fun b hb=>hgr.block b (S1.own b _ (hTTo b (by rw [hT];simp [hb]))).2.1 (fun e=>by cases e;exact hbA hb)
 have sameT:∀ b∈T,w2.heap[b]? = w.heap[b]?:=fun b hb=>by
  obtain ⟨q,hq,ho'⟩:=hTo b hb
  refine hgr.block b (S1.own b _ ho').2.1 (fun e=>?_)
  cases e
  rw [hTTo _ hbT] at ho'
  exact (hsrc q hq).2 (Option.some.inj ho')
 have kk:Keeps g1.pub g1.pub w w2:=⟨fun _ h=>h,npub⟩
 have hnew:RepL g1.pub w2 (xs.take (i*sz+j)++(a.eval x).cells.toList++xs.drop (i*sz+j+ds.length)) (es'.flatMap V.cells) (A1++T++B2):=by
  have hfl:=flat_set hcells hj hc hel
  have h6:RepL g1.pub w2 (xs.take (i*sz+j)++(a.eval x).cells.toList++xs.drop (i*sz+j+ds.length)) ((es.set i (setC el j ds)).flatMap V.cells) (A1++T++B2):=by
   rw [hfl]
   exact ((hd1.keep kk (fun b hb=>sameA b (by rw [hAB];simp [hb]))).app (hr.keep kk sameT)).app (hd2.keep kk (fun b hb=>sameA b (by rw [hAB];simp [hb])))
  refine h6.fit (FitL.flat ?_)
  rw [← hes hA]
  have:∀ (es:List V) (i:Nat),FitL (es.set i (setC el j ds)) (es.set i el'):=by
   intro es
   induction es with
   | nil=>intro i;exact FitL.refl _
   | cons c cs ih =>
    intro i
    cases i with
    | zero=>exact .cons (hfit hA) (FitL.refl _)
    | succ i=>exact .cons (.refl _) (ih i)
  exact this es i
 have hxl:(xs.take (i*sz+j)++(a.eval x).cells.toList++xs.drop (i*sz+j+ds.length)).length=es.length*sz:=by
  simp only [List.length_append,List.length_take,List.length_drop,Array.length_toList,hvl,how.1]
  omega
 have hsizes:∀ e∈es',e.cells.length=sz:=by
  have:FitL [setC el j ds] [el']:=.cons (hfit hA) .nil
  have hle:el'.cells.length=sz:=this.sizes (sz:=sz) (by
   intro e he
   simp only [List.mem_singleton] at he
   subst he
   rw [hcells]
   simp only [List.length_append,List.length_take,List.length_drop]
   omega) _ (by simp)
  intro e he
  rw [← hes hA] at he
  rcases List.mem_or_eq_of_mem_set he with h | h
  ·exact hc e h
  ·rw [h];exact hle
 have hlen':es'.length=es.length:=by rw [← hes hA];simp
 have hown':w2.ownsRow 0 et sz v es'.length (xs.take (i*sz+j)++(a.eval x).cells.toList++xs.drop (i*sz+j+ds.length)):=by
  rw [hlen']
  refine ⟨hxl,.inr ⟨b',cap,(cur.toList.take (i*sz+j)++(a.eval x).cells.toList++cur.toList.drop (i*sz+j+(a.eval x).cells.size)).toArray,hv0,hb0,?_,hnc,hcm,?_,?_⟩⟩
  ·rw [← hw2];exact setRow_heap w _ cur _ et _ hg
  ·simp only [List.size_toArray,List.length_append,List.length_take,List.length_drop,Array.length_toList,hvl,hcs]
   omega
  ·have hcl:cur.toList.length=cap*sz:=by rw [Array.length_toList,hcs]
   have hcx:cur.toList=xs++cur.toList.drop (es.length*sz):=by rw [← htk,List.take_append_drop]
   have hxsl:xs.length=es.length*sz:=how.1
   have q1:cur.toList.take (i*sz+j)=xs.take (i*sz+j):=by rw [← htk,List.take_take,Nat.min_eq_left (by omega)]
   have q2:cur.toList.drop (i*sz+j+(a.eval x).cells.size)=xs.drop (i*sz+j+ds.length)++cur.toList.drop (es.length*sz):=by
    rw [hvl]
    conv=>lhs;rw [hcx]
    rw [List.drop_append_of_le_length (by omega)]
   rw [List.toList_toArray,q1,q2,← List.append_assoc]
   rw [List.take_append_of_le_length (by rw [hxl];exact Nat.le_refl _)]
   rw [List.take_of_length_le (by rw [hxl];exact Nat.le_refl _)]
 have hRep:Rep g1.pub w2 v (.row (some et) sz es') (v.ownBlock.toList++(A1++T++B2)):=by
  refine Rep.own hsizes hnew (fun u hu=>?_) hown'
  simp only [List.mem_append] at hu
  rcases hu with (h | h) | h
  ·exact h1 u (List.mem_of_mem_take h)
  ·exact hone u h
  ·exact h1 u (List.mem_of_mem_drop h)
 have hTT:∀ b∈T,b∉TT:=fun b hb hb'=>by
  obtain ⟨q,hq,ho'⟩:=hTo b hb
  rw [hTTo b hb'] at ho'
  exact (hsrc q hq).2 (Option.some.inj ho')
 have hAn:=List.nodup_append.1 (hAB ▸ hn1.2.1:(A1++(M++B2)).Nodup)
 have hMn:=List.nodup_append.1 hAn.2.1
 have hAT:∀ b,b∈A→b∈TT:=fun b hb=>by rw [hT];simp [hb]
 have p1:(v.ownBlock.toList++(A1++T++B2)).Nodup:=by
  refine List.nodup_append.2 ⟨hn1.1,List.nodup_append.2 ⟨List.nodup_append.2 ⟨hAn.1,hTn,fun b hb c hcc e=>?_⟩,hMn.2.1,fun b hb c hcc e=>?_⟩,fun b hb c hcc e=>?_⟩
  ·subst e;exact hTT b hcc (hAT b (by rw [hAB];simp [hb]))
  ·subst e
   rcases List.mem_append.1 hb with h | h
   ·exact hAn.2.2 b h b (by simp [hcc]) rfl
   ·exact hTT b h (hAT b (by rw [hAB];simp [hcc]))
  ·subst e
   have hbTT:b∈TT:=by rw [hT];simp only [List.mem_append];exact .inl hb
   simp only [List.mem_append] at hcc
   rcases hcc with (h | h) | h
   ·exact hn1.2.2 b hb b (by rw [hAB];simp [h]) rfl
   ·exact hTT b h hbTT
   ·exact hn1.2.2 b hb b (by rw [hAB];simp [h]) rfl
 have p2:∀ b∈v.ownBlock.toList++(A1++T++B2),b∈TT∨∃ q,src=some q∧g1.own b=some (.inl q):=by
  intro b hb
  simp only [List.mem_append] at hb
  rcases hb with h | (h | h) | h
  ·exact .inl (by rw [hT];simp only [List.mem_append];exact .inl h)
  ·exact .inl (hAT b (by rw [hAB];simp [h]))
  ·exact .inr (hTo b h)
  ·exact .inl (hAT b (by rw [hAB];simp [h]))
 have p3:∀ q,src=some q→q < C.N∧r.holder≠.inl q:=fun q hq=>by
  obtain ⟨⟨y,hy⟩,h⟩:=hsrc q hq
  exact ⟨(S1.env q y hy).1,h⟩
 obtain ⟨g',hpub',hfree,S'⟩:=lens w2 (.row (some et) sz es') _ src hgr.os hgr.tape hgr.output hgr.size (fun b hb hb'=>hgr.block b hb (fun e=>by cases e;exact hb' hbT)) hRep p1 p2 p3 (fun b hb _=>by simp [hb])
 exact hn g' _ _ S' (fun h=>by rw [ho] at h;cases h)
def evStoreP (P:Program) (o:Oper) (t:TypeId) (s:Nat) (x:Operand) (e:E):Option E :=
 match o.dst with
 | some _=>none
 | none=>match hint e with
  | some (el,e)=>match hint e with
   | some (el',e)=>match hint e with
    | some (.row (some _) _ es',e)=>match x,(match x with | .tmp q=>look e.st.env q | _=>none) with
     | .tmp q,some (.d (.v (.row (some eq) sq qs)))=>match look e.st.env s with
      | some (.pa r sz i j)=>match rootVal e.st r with
       | some (.row (some et) sz' es)=>match Nat.beq sz sz' && sizeIs P t 1 && setOk el j [.row (some eq) sq qs] && not (holdB r (.t q)) with
        | true=>some { need (es.set i el'=es') (need (Fit (setC el j [.row (some eq) sq qs]) el') (need (es[i]? = some el) e)) with st:=e.st.reset r (.row (some et) sz es') (some q) }
        | false=>none
       | _=>none
      | _=>none
     | _,_=>match val x e with
      | some (u,e)=>match look e.st.env s with
       | some (.pa r sz i j)=>match rootVal e.st r with
        | some (.row (some et) sz' es)=>match Nat.beq sz sz' && u.flatOk && sizeIs P t u.cells.length && setOk el j u.cells with
         | true=>some { need (es.set i el'=es') (need (Fit (setC el j u.cells) el') (need (es[i]? = some el) e)) with st:=e.st.reset r (.row (some et) sz es') none }
         | false=>none
        | _=>none
       | _=>none
      | none=>none
    | _=>none
   | none=>none
  | none=>none
theorem evStoreP_ok {o:Oper} {t:TypeId} {s:Nat} {x:Operand} {e e':E} (ho:o.op=.store t (.tmp s) x) (h:evStoreP P o t s x e=some e'):OpOk P C o e e':=by
 unfold evStoreP at h
 split at h
 ·cases h
 rename_i hd
 split at h
 rotate_left
 ·cases h
 rename_i el e1 hh1
 split at h
 rotate_left
 ·cases h
 rename_i el' e2 hh2
 split at h
 rotate_left
 ·cases h
 rename_i eh sh es' e3 hh3
 obtain ⟨a1,a2⟩:=hint_eq hh1
 obtain ⟨b1,b2⟩:=hint_eq hh2
 obtain ⟨c1,c2⟩:=hint_eq hh3
 have hob:e3.ob=e.ob:=by rw [c1,b1,a1]
 have hst:e3.st=e.st:=by rw [c2,b2,a2]
 split at h
 ·rename_i q eq sq qs hq
  split at h
  ·rename_i r sz i j hl
   split at h
   ·rename_i et sz' es hu
    split at h
    ·rename_i hc
     cases h
     simp only [Bool.and_eq_true] at hc
     obtain ⟨⟨⟨k1,k2⟩,k3⟩,k4⟩:=hc
     have k1:=Nat.eq_of_beq_eq_true k1
     subst k1
     have k2:=sizeIs_eq k2
     have k4:holdB r (.t q)=false:=by simpa using k4
     have hq:look e3.st.env q=some (.d (.v (.row (some eq) sq qs))):=hq
     refine OpOk.storeP (e1:=need (es.set i el'=es') (need (Fit (setC el j [.row (some eq) sq qs]) el') (need (es[i]? = some el) e3))) (src:=some q) (ds:=[.row (some eq) sq qs]) (el:=el) (el':=el') ho hd hl hu k2 k3 (fun hA=>?_) (fun q' e'=>?_) (fun hA=>?_) (fun hA=>?_) (fun hA=>?_)
     ·obtain ⟨hA,_⟩:=All.snoc hA
      obtain ⟨hA,_⟩:=All.snoc hA
      obtain ⟨hA,_⟩:=All.snoc hA
      refine ⟨hob ▸ hA,fun g a w S=>?_⟩
      have S:SRep C g e3.st a w:=hst ▸ S
      obtain ⟨_,h2,h3⟩:=S.env q _ hq
      have h2:RepD g w (a.eval (.tmp q)) (.v (.row (some eq) sq qs)) (g.TE q):=h2
      have hone:=h2.inv.one rfl
      refine ⟨g,g.TE q,S,?_,?_,S.nodE q,fun b hb'=>⟨q,rfl,h3 b hb'⟩⟩
      ·rw [cells_one hone]
       have:=RepL.cons h2.inv (RepL.nil (p:=g.pub) (w:=w))
       simpa using this
      ·rw [cells_one hone];simpa using hone
     ·cases e'
      exact ⟨⟨_,hq⟩,holdB_ne k4⟩
     ·exact (All.snoc (All.snoc (All.snoc hA).1).1).2
     ·exact (All.snoc (All.snoc hA).1).2
     ·exact (All.snoc hA).2
    ·cases h
   ·cases h
  ·cases h
 ·split at h
  ·rename_i u e4 hv
   split at h
   ·rename_i r sz i j hl
    split at h
    ·rename_i et sz' es hu
     split at h
     ·rename_i hc
      cases h
      simp only [Bool.and_eq_true] at hc
      obtain ⟨⟨⟨k1,k2⟩,k3⟩,k4⟩:=hc
      have k1:=Nat.eq_of_beq_eq_true k1
      subst k1
      have k3:=sizeIs_eq k3
      refine OpOk.storeP (e1:=need (es.set i el'=es') (need (Fit (setC el j u.cells) el') (need (es[i]? = some el) e4))) (src:=none) (el:=el) (el':=el') ho hd hl hu k3 k4 (fun hA=>?_) (fun q' e'=>by cases e') (fun hA=>?_) (fun hA=>?_) (fun hA=>?_)
      ·obtain ⟨hA,_⟩:=All.snoc hA
       obtain ⟨hA,_⟩:=All.snoc hA
       obtain ⟨hA,_⟩:=All.snoc hA
       obtain ⟨h0,k⟩:=val_ok (C:=C) hv hA
       refine ⟨hob ▸ h0,fun g a w S=>?_⟩
       obtain ⟨g1,k1,S1,r1⟩:=k g a w (hst ▸ S)
       obtain ⟨r3,r4⟩:=r1.flat k2
       exact ⟨g1,[],S1,r3,r3.one r4,List.nodup_nil,fun b hb'=>by cases hb'⟩
      ·exact (All.snoc (All.snoc (All.snoc hA).1).1).2
      ·exact (All.snoc (All.snoc hA).1).2
      ·exact (All.snoc hA).2
     ·cases h
    ·cases h
   ·cases h
  ·cases h
end
end Go.Rf
end
section
namespace Go.Rf
open Go.RowKit
set_option linter.unusedVariables false
set_option linter.unusedSimpArgs false
variable [Tabs]
theorem RepL.setAt {p:Pub} {w:World}:∀ {vs:List Value} {ds:List V} {T:List Nat} {c:Nat} {d:V},RepL p w vs ds T→ds[c]? = some d →
 ∃ v T1 Tc T2,vs[c]? = some v∧T=T1++(Tc++T2)∧Rep p w v d Tc∧RepL p w vs (ds.set c .any) (T1++T2)
 | _,_,_,_,_,.nil,h=>by simp at h
 | _,_,_,0,d,.cons (v:=v) (A:=A) (B:=B) h1 h2,h=>by
  simp only [List.getElem?_cons_zero,Option.some.injEq] at h
  subst h
  exact ⟨v,[],A,B,rfl,rfl,h1,(RepL.cons (A:=[]) (.any v) h2)⟩
 | _,_,_,c+1,d,.cons (A:=A) (B:=B) h1 h2,h=>by
  simp only [List.getElem?_cons_succ] at h
  obtain ⟨v,T1,Tc,T2,e1,e2,e3,e4⟩:=h2.setAt h
  subst e2
  refine ⟨v,A++T1,Tc,T2,by simpa using e1,by simp,e3,?_⟩
  have:=RepL.cons h1 e4
  simpa using this
theorem set_any {cs:List V} {c:Nat} {u:V} (h:cs[c]? = some u):cs.set c .any=cs.take c++[.any]++cs.drop (c+1):=by
 have hc:=(List.getElem?_eq_some_iff.1 h).1
 rw [List.set_eq_take_append_cons_drop,if_pos hc]
 simp
section
variable {P:Program} {C:Ctx} {g:G} {st:St} {a:Act} {w w':World}
theorem SRep.pluck (S:SRep C g st a w) {r:Root} {et sz i j:Nat} {es:List V} {el u:V} (hu:rootVal st r=some (.row (some et) sz es)) (hel:es[i]? = some el) (hok:setOk el j [.any]=true) (hc:el.cells[j]? = some u) :
 ∃ v Tc g',pv g a w (.elt r sz i j)=some v∧g'.pub=g.pub∧Rep g'.pub w v u Tc∧Tc.Nodup∧(∀ b∈Tc,g'.own b=none∧¬ g'.pub b∧(C.W.heap.size≤b∨C.Fz b)∧b < w.heap.size) ∧
  SRep C g' (st.reset r (.row (some et) sz (es.set i (setC el j [.any]))) none) a w:=by
 obtain ⟨v,T,hpv,hR,hTn,hTo,lens⟩:=S.lens hu
 obtain ⟨xs,A,hT,hcs,hl,h1,how⟩:=own_inv hR
 obtain ⟨hcells,hj⟩:=setC_cells hok
 simp only [List.length_cons,List.length_nil,Nat.zero_add] at hcells hj
 have hi:i < es.length:=(List.getElem?_eq_some_iff.1 hel).1
 have hels:el.cells.length=sz:=hcs el (List.mem_of_getElem? hel)
 have hfl:=flat_set (sz:=sz) (ds:=[.any]) (by simpa using hcells) (by simpa using hj) hcs hel
 simp only [List.length_cons,List.length_nil,Nat.zero_add] at hfl
 have hget:(es.flatMap V.cells)[i*sz+j]? = some u:=by
  obtain ⟨T1,A1,T2,_,_⟩:=RepL.elem hcs hl hel
  have key:∀ (es:List V) (i:Nat),(∀ e∈es,e.cells.length=sz)→es[i]? = some el→(es.flatMap V.cells)[i*sz+j]? = some u:=by
   intro es
   induction es with
   | nil=>intro i _ h;simp at h
   | cons e es ih =>
    intro i hs h
    cases i with
    | zero =>
     simp only [List.getElem?_cons_zero,Option.some.injEq] at h
     subst h
     rw [List.flatMap_cons,Nat.zero_mul,Nat.zero_add,List.getElem?_append_left (by omega)]
     exact hc
    | succ i =>
     simp only [List.getElem?_cons_succ] at h
     have he:=hs e (by simp)
     rw [List.flatMap_cons,List.getElem?_append_right (by rw [he,Nat.add_mul];omega),he,show (i+1)*sz+j - sz=i*sz+j by rw [Nat.add_mul];omega]
     exact ih i (fun e he=>hs e (by simp [he])) h
  exact key es i hcs hel
 obtain ⟨x,T1,Tc,T2,f1,f2,f3,f4⟩:=hl.setAt hget
 rw [set_any hget] at f4
 rw [← hfl] at f4
 have hn1:=List.nodup_append.1 (hT ▸ hTn)
 have hA:=List.nodup_append.1 (f2 ▸ hn1.2.1:(T1++(Tc++T2)).Nodup)
 have hA2:=List.nodup_append.1 hA.2.1
 have inT:∀ b,b∈T1∨b∈Tc∨b∈T2→b∈T:=fun b hb=>by
  rw [hT,f2]
  rcases hb with h | h | h<;>simp [h]
 have hlen:(es.set i (setC el j [.any])).length=es.length:=by simp
 have hRep:Rep g.pub w v (.row (some et) sz (es.set i (setC el j [.any]))) (v.ownBlock.toList++(T1++T2)):=by
  refine Rep.own (fun e he=>?_) f4 h1 (by rw [hlen];exact how)
  rcases List.mem_or_eq_of_mem_set he with h | h
  ·exact hcs e h
  ·rw [h,hcells]
   simp only [List.length_append,List.length_take,List.length_drop,List.length_cons,List.length_nil]
   omega
 have hdis:∀ b∈Tc,b∉v.ownBlock.toList++(T1++T2):=by
  intro b hb hb'
  simp only [List.mem_append] at hb'
  rcases hb' with h | h | h
  ·exact hn1.2.2 b h b (by rw [f2];simp [hb]) rfl
  ·exact hA.2.2 b h b (by simp [hb]) rfl
  ·exact hA2.2.2 b hb b h rfl
 have p1:(v.ownBlock.toList++(T1++T2)).Nodup:=by
  refine List.nodup_append.2 ⟨hn1.1,List.nodup_append.2 ⟨hA.1,hA2.2.1,fun b hb c hc e=>hA.2.2 b hb c (by simp [hc]) e⟩,fun b hb c hc e=>hn1.2.2 b hb c ?_ e⟩
  rw [f2]
  rcases List.mem_append.1 hc with h | h<;>simp [h]
 obtain ⟨g',hp,hf,S'⟩:=lens w (.row (some et) sz (es.set i (setC el j [.any]))) _ none rfl rfl rfl (Nat.le_refl _) (fun _ _ _=>rfl) hRep p1 (fun b hb=>.inl (by
  simp only [List.mem_append] at hb
  rcases hb with h | h | h
  ·rw [hT];simp only [List.mem_append];exact .inl h
  ·exact inT b (.inl h)
  ·exact inT b (.inr (.inr h)))) (by simp) (fun b hb _=>by simp [hb])
 refine ⟨x,Tc,g',?_,hp,hp ▸ f3,hA2.1,fun b hb=>?_,S'⟩
 ·simp only [pv,hpv,Option.bind_some]
  rcases how.2 with ⟨hv0,hn0⟩ | ⟨b',cap,cur,hv0,_,hg,_⟩
  ·omega
  ·rw [hv0]
   simp only [Value.ownBlock]
   rw [if_pos (hTo b' (by rw [hT,hv0];simp [Value.ownBlock]))]
   have hw:=how
   rw [hv0] at hw
   have hlt:i*sz+j < es.length*sz:=by
    have:(i+1)*sz≤es.length*sz:=Nat.mul_le_mul_right _ hi
    rw [Nat.add_mul,Nat.one_mul] at this
    omega
   rw [hw.cellAt _ hlt,f1]
 ·have hb':=hTo b (inT b (.inr (.inl hb)))
  have:=S.own b _ hb'
  exact ⟨hf b (inT b (.inr (.inl hb))) (hdis b hb),hp ▸ this.2.2,this.1,this.2.1⟩
theorem append_core (S:SRep C g st a w) {ts:Array TypeId} {ty t tx el:Nat} {i:TypeInfo} {z:Value} {v x:Value} {es es2 es':List V} {news:List Value} {T:List Nat} {d:Nat} (hts:ts = #[t,tx]) (hu:P.underlying t=some (.slice el)) (hi:P.info? el=some i) (hz:i.zero=some z)
 (k1:z.cells.size=i.size) (k3:140737488355328 / i.bytes≤maxLen) (hsz:es.length+es2.length≤140737488355328 / i.bytes) (hfit:FitL (es++es2) es') (hd:d < C.N)
 (hR:Rep g.pub w v (.row (some el) i.size es) T) (hTn:T.Nodup) (hfree:∀ b∈T,g.own b=none∧¬ g.pub b∧(C.W.heap.size≤b∨C.Fz b)∧b < w.heap.size)
 (hnew:g.own w.heap.size=none) (hsrc:Src P tx i.size es2.length news x w) (hnews:RepL g.pub w news (es2.flatMap V.cells) []) (hsize2:∀ e∈es2,e.cells.length=i.size) :
 ∃ v' w' T',(Builtin.append_ ts ty #[v,x]).run P w=.ok v' w'∧SRep C (g.put d T' fun _=>False) (st.put d (.d (.v (.row (some el) i.size es')))) (a.put (some d) v') w':=by
 subst hts
 have hb:(es.length+es2.length)*i.bytes≤140737488355328:=Nat.le_trans (Nat.mul_le_mul_right _ hsz) (Nat.div_mul_le_self _ _)
 have hm:es.length+es2.length≤maxLen:=Nat.le_trans hsz k3
 obtain ⟨xs,A,hT,h1,h2,h3,how0⟩:=own_inv hR
 obtain ⟨v',w',hr,how,hgr,hblk⟩:=append_run (P:=P) w t tx ty el i z i.size i.bytes hu hi hz rfl rfl k1 v es.length xs how0 x es2.length news hsrc hm hb
 refine ⟨v',w',v'.ownBlock.toList++(A++[]),hr,?_⟩
 have hpubw:∀ b,g.pub b→w'.heap[b]? = w.heap[b]?:=fun b hb'=>hgr.block b (S.publt b hb') (fun e=>by
  have hbT:b∈T:=by rw [hT,← e];simp
  exact (hfree b hbT).2.1 hb')
 have hAw:∀ b∈A,w'.heap[b]? = w.heap[b]?:=fun b hb'=>by
  have hbT:b∈T:=by rw [hT];simp [hb']
  refine hgr.block b (hfree b hbT).2.2.2 (fun e=>?_)
  rw [hT] at hTn
  exact (List.nodup_append.1 hTn).2.2 b (by rw [← e];simp) b hb' rfl
 have hfl:(es++es2).flatMap V.cells=es.flatMap V.cells++es2.flatMap V.cells:=by simp
 have hall:RepL g.pub w' (xs++news) (es'.flatMap V.cells) (A++[]):=by
  refine RepL.fit (ds:=(es++es2).flatMap V.cells) ?_ hfit.flat
  rw [hfl]
  exact (h2.keep ⟨fun _ h=>h,hpubw⟩ hAw).app (hnews.keep ⟨fun _ h=>h,hpubw⟩ (fun _ h=>by cases h))
 have hRep:Rep g.pub w' v' (.row (some el) i.size es') (v'.ownBlock.toList++(A++[])):=by
  refine Rep.own (hfit.sizes (fun e he=>?_)) hall (fun u hu'=>?_) ?_
  ·rcases List.mem_append.1 he with he | he
   ·exact h1 e he
   ·exact hsize2 e he
  ·rcases List.mem_append.1 hu' with hu' | hu'
   ·exact h3 u hu'
   ·exact hsrc.one u hu'
  ·rw [← hfit.length,List.length_append];exact how
 refine S.putF (row:=v.ownBlock) hgr (fun b hb'=>?_) hd ?_ ?_ hRep
 ·have:=hfree b (by rw [hT,hb'];simp)
  exact ⟨this.1,this.2.1,this.2.2.1⟩
 ·rw [List.append_nil,List.nodup_append]
  rw [hT] at hTn
  refine ⟨by cases v'.ownBlock<;>simp,(List.nodup_append.1 hTn).2.1,fun b hb1 c hc1 e=>?_⟩
  subst e
  simp only [Option.mem_toList] at hb1
  rcases (hblk b hb1).1 with h5 | h5
  ·exact (List.nodup_append.1 hTn).2.2 b (by rw [h5];simp) b hc1 rfl
  ·have:=(hfree b (by rw [hT];simp [hc1])).2.2.2;omega
 ·intro b hb'
  simp only [List.append_nil,List.mem_append,Option.mem_toList] at hb'
  rcases hb' with hb' | hb'
  ·obtain ⟨h5,h6⟩:=hblk b hb'
   rcases h5 with h5 | h5
   ·have:=hfree b (by rw [hT,h5];simp)
    exact ⟨this.1,this.2.1,this.2.2.1,h6⟩
   ·subst h5
    exact ⟨hnew,fun hp'=>by have:=S.publt _ hp';omega,.inl S.size,h6⟩
  ·have:=hfree b (by rw [hT];simp [hb'])
   exact ⟨this.1,this.2.1,this.2.2.1,Nat.lt_of_lt_of_le this.2.2.2 hgr.size⟩
def evAppendE (P:Program) (N:Nat) (o:Oper) (ts:Array TypeId) (s x:Operand) (e:E):Option E :=
 match dstOf N o with
 | none=>none
 | some d=>match ts.toList with
  | [t,tx]=>match P.underlying t with
   | some (.slice el)=>match P.info? el with
    | some i=>match i.zero with
     | some z=>match Nat.beq z.cells.size i.size && Nat.ble (140737488355328 / i.bytes) maxLen with
      | true=>match appX P tx i.size x e with
       | some (es2,e)=>match s with
        | .tmp q=>match look e.st.env q with
         | some (.al (.elt r sz j c))=>match rootVal e.st r with
          | some (.row (some et) sz' os)=>match hint e with
           | some (oe,e)=>match oe.cells[c]? with
            | some (.row (some e1) s1 es)=>match hint e with
             | some (.row (some _) _ es',e)=>match Nat.beq sz sz' && Nat.beq e1 el && Nat.beq s1 i.size && setOk oe c [.any] with
              | true=>some { (need (es.length+es2.length≤140737488355328 / i.bytes) (need (FitL (es++es2) es') (need (os[j]? = some oe) e))) with st:=(e.st.reset r (.row (some et) sz (os.set j (setC oe c [.any]))) none).put d (.d (.v (.row (some el) i.size es'))) }
              | false=>none
             | _=>none
            | _=>none
           | none=>none
          | _=>none
         | _=>none
        | _=>none
       | none=>none
      | false=>none
     | none=>none
    | none=>none
   | _=>none
  | _=>none
theorem SRep.newNone (S:SRep C g st a w):g.own w.heap.size=none:=by
 cases ho:g.own w.heap.size with
 | none=>rfl
 | some h'=>have:=(S.own _ _ ho).2.1;omega
theorem evAppendE_ok {o:Oper} {c:Call} {s x:Operand} {e e':E} (ho:o.op=.call c) (hc:c.callee=.builtin .append) (ha:c.args = #[s,x]) (h:evAppendE P C.N o c.argTypes s x e=some e'):OpOk P C o e e':=by
 unfold evAppendE at h
 split at h
 ·cases h
 rename_i d hd
 obtain ⟨hdd,hdN⟩:=dstOf_eq hd
 split at h
 rotate_left
 ·cases h
 rename_i t tx hts
 have hts:c.argTypes = #[t,tx]:=by
  rw [← Array.toArray_toList (xs:=c.argTypes),hts]
 split at h
 rotate_left
 ·cases h
 rename_i el hu
 split at h
 rotate_left
 ·cases h
 rename_i i hi
 split at h
 rotate_left
 ·cases h
 rename_i z hz
 split at h
 rotate_left
 ·cases h
 rename_i hck
 simp only [Bool.and_eq_true] at hck
 have k1:=Nat.eq_of_beq_eq_true hck.1
 have k3:=Nat.le_of_ble_eq_true hck.2
 split at h
 rotate_left
 ·cases h
 rename_i es2 e1 hx
 split at h
 rotate_left
 ·cases h
 rename_i q
 split at h
 rotate_left
 ·cases h
 rename_i r sz j cc hl
 split at h
 rotate_left
 ·cases h
 rename_i et sz' os hrv
 split at h
 rotate_left
 ·cases h
 rename_i oe e2 hh
 split at h
 rotate_left
 ·cases h
 rename_i e1' s1 es hcell
 split at h
 rotate_left
 ·cases h
 rename_i e3' s3' es' e3 hh2
 split at h
 rotate_left
 ·cases h
 rename_i hck2
 simp only [Bool.and_eq_true] at hck2
 obtain ⟨⟨⟨m1,m2⟩,m3⟩,m4⟩:=hck2
 have m1:=Nat.eq_of_beq_eq_true m1
 have m2:=Nat.eq_of_beq_eq_true m2
 have m3:=Nat.eq_of_beq_eq_true m3
 subst m1
 subst m2
 subst m3
 cases h
 obtain ⟨q1,q2⟩:=hint_eq hh
 obtain ⟨p1,p2⟩:=hint_eq hh2
 have hob:e3.ob=e1.ob:=by rw [p1,q1]
 have hst:e3.st=e1.st:=by rw [p2,q2]
 intro hA
 obtain ⟨hA,hsz⟩:=All.snoc (l:=e3.ob++_++_) hA
 obtain ⟨hA,hfit⟩:=All.snoc (l:=e3.ob++_) hA
 obtain ⟨hA,hel⟩:=All.snoc (l:=e3.ob) hA
 obtain ⟨h0,kx⟩:=appX_ok (C:=C) hx (hob ▸ hA)
 refine ⟨h0,fun g a w S next Q hn=>?_⟩
 obtain ⟨g1,news,kk,S1,hsrc,hnews,hsize2⟩:=kx g a w S
 obtain ⟨v,Tc,g2,hpv,hp,hR,hTn,hfree,S2⟩:=S1.pluck hrv hel m4 hcell
 obtain ⟨_,hal,_⟩:=S1.env q _ hl
 have hv:a.eval (.tmp q)=v:=by
  have:=hal.2
  rw [hpv] at this
  exact (Option.some.inj this).symm
 obtain ⟨v',w',T',hr,S3⟩:=append_core (P:=P) (ts:=c.argTypes) (ty:=o.type) (x:=a.eval x) S2 hts hu hi hz k1 k3 hsz hfit hdN hR hTn hfree S2.newNone hsrc (by rw [hp];exact hnews) hsize2
 refine wp_of_run (v:=v') (w':=w') ?_ ?_
 ·unfold execOp
  simp only [ho,resolve,hc,ha,Sem.run_bind,Sem.run_pure,Result.andThen_ok,invoke,builtin,List.map_toArray,List.map_cons,List.map_nil,hv,hr]
 ·rw [hdd]
  refine hn (g2.put d T' fun _=>False) _ _ ?_ (fun h=>by rw [ho] at h;simp [calmK,hc] at h)
  show SRep C _ ((e3.st.reset r _ none).put d _) _ _
  rw [hst]
  exact S3
end
end Go.Rf
end
section
namespace Go.Rf
open Go.RowKit
set_option linter.unusedVariables false
set_option linter.unusedSimpArgs false
variable [Tabs]
inductive FitD:D→D→Prop
 | refl (d:D):FitD d d
 | v {x y:V}:Fit x y→FitD (.v x) (.v y)
inductive FitDL:List D→List D→Prop
 | nil:FitDL [] []
 | cons {c d:D} {cs ds:List D}:FitD c d→FitDL cs ds→FitDL (c :: cs) (d :: ds)
theorem FitDL.refl:∀ l:List D,FitDL l l
 | []=>.nil
 | c :: cs=>.cons (.refl c) (FitDL.refl cs)
theorem RepD.fit {g:G} {w:World} {v:Value} {c d:D} {T:List Nat} (h:RepD g w v c T) (f:FitD c d):RepD g w v d T:=by
 cases f with
 | refl=>exact h
 | v f=>exact .v (h.inv.fit f)
theorem RepDL.fit {g:G} {w:World}:∀ {vs:List Value} {cs ds:List D} {T:List Nat},RepDL g w vs cs T→FitDL cs ds→RepDL g w vs ds T
 | _,_,_,_,.nil,.nil=>.nil
 | _,_,_,_,.cons h1 h2,.cons f1 f2=>.cons (h1.fit f1) (h2.fit f2)
theorem FitDL.of:∀ {a b:List V},FitL a b→FitDL (dv a) (dv b)
 | _,_,.nil=>.nil
 | _,_,.cons f g=>.cons (.v f) (FitDL.of g)
inductive FitLL:List (List V)→List (List V)→Prop
 | nil:FitLL [] []
 | cons {c d:List V} {cs ds:List (List V)}:FitL c d→FitLL cs ds→FitLL (c :: cs) (d :: ds)
theorem FitLL.refl:∀ l:List (List V),FitLL l l
 | []=>.nil
 | c :: cs=>.cons (FitL.refl c) (FitLL.refl cs)
theorem FitLL.length:∀ {a b:List (List V)},FitLL a b→a.length=b.length
 | _,_,.nil=>rfl
 | _,_,.cons _ g=>by simp [g.length]
theorem FitLL.get:∀ {a b:List (List V)} {i:Nat} {d:List V},FitLL a b→b[i]? = some d→∃ c,a[i]? = some c∧FitL c d
 | _,_,_,_,.nil,h=>by simp at h
 | _,_,0,_,.cons f _,h=>by
  simp only [List.getElem?_cons_zero,Option.some.injEq] at h
  exact ⟨_,rfl,h ▸ f⟩
 | _,_,i+1,_,.cons _ g,h=>by
  simp only [List.getElem?_cons_succ] at h ⊢
  exact g.get h
structure Lent (g g':G) (w w':World):Prop where
 os:w'.os=w.os
 tape:w'.tape=w.tape
 output:w'.output=w.output
 size:w.heap.size≤w'.heap.size
 same:∀ b,b < w.heap.size→g.own b=none→w'.heap[b]? = w.heap[b]?
 n:g'.n=g.n
 loc:∀ i,i < g.n→g'.loc i=g.loc i
 pub:∀ b,g.pub b→g'.pub b
 pub':∀ b,g'.pub b→g.pub b∨w.heap.size≤b∨∃ h,g.own b=some h
 publt:∀ b,g'.pub b→b < w'.heap.size
 own:∀ b h,g'.own b=some h→(w.heap.size≤b∨∃ h',g.own b=some h')∧b < w'.heap.size∧¬ g'.pub b
def Boxes (g:G) (w:World) (bs:List (List V)):Prop:=∀ i c,bs[i]? = some c→BRep g w (g.loc i) (.cells (dv c)) (g.TB i)∧(g.TB i).Nodup∧∀ b∈g.TB i,g.own b=some (.inr i)
def ConX (P:Program) (f:FuncId) (us:List D) (bs:List (List V)) (r:D) (bs':List (List V)):Prop :=
 (∀ vs w,(callFunc f vs).run P w=.ok (.enter f vs) w) ∧
 ∀ (g:G) (w:World) (vs:List Value),g.n=bs.length→(∀ b,g.pub b→b < w.heap.size)→Tabs.t g.pub w→RepDL g w vs us []→Boxes g w bs→(∀ b h,g.own b=some h→b < w.heap.size∧¬ g.pub b) →
  Calls P f vs.toArray w fun e w'=>∃ (v:Value) (T:List Nat) (g':G),e=.returned v∧Lent g g' w w'∧RepD g' w' v r T∧T.Nodup∧(∀ b∈T,g'.own b=some (.inl 0))∧Boxes g' w' bs'
def ConX' (P:Program) (f:FuncId) (us:List D) (bs:List (List V)) (r:D) (bs':List (List V)):Prop:=∃ us' bs1,FitDL us us'∧FitLL bs bs1∧ConX P f us' bs1 r bs'
theorem ConX.c {P:Program} {f:FuncId} {us:List D} {bs bs':List (List V)} {r:D} (h:ConX P f us bs r bs'):ConX' P f us bs r bs':=⟨us,bs,FitDL.refl us,FitLL.refl bs,h⟩
theorem ConX.n {P:Program} {f:FuncId} {us us':List D} {bs bs1 bs':List (List V)} {r:D} (h:ConX P f us' bs1 r bs') (f1:FitDL us us') (f2:FitLL bs bs1):ConX' P f us bs r bs':=⟨us',bs1,f1,f2,h⟩
theorem BRep.fitV {g:G} {w:World} {l:Nat} {c d:List V} {T:List Nat} (h:BRep g w l (.cells (dv c)) T) (f:FitL c d):BRep g w l (.cells (dv d)) T:=by
 obtain ⟨cur,e,A,h1,h2,h3,h4⟩:=h
 exact ⟨cur,e,A,h1,h2,h3.fit (FitDL.of f),h4⟩
theorem Boxes.fit {g:G} {w:World} {bs bs':List (List V)} (h:Boxes g w bs) (f:FitLL bs bs'):Boxes g w bs':=fun i d hd=>by
 obtain ⟨c,hc,fc⟩:=f.get hd
 obtain ⟨h1,h2,h3⟩:=h i c hc
 exact ⟨h1.fitV fc,h2,h3⟩
theorem BRep.gV {g g':G} {w:World} {l:Nat} {c:List V} {T:List Nat} (h:BRep g w l (.cells (dv c)) T) (hp:g'.pub=g.pub):BRep g' w l (.cells (dv c)) T:=by
 obtain ⟨cur,e,A,h1,h2,h3,h4⟩:=h
 refine ⟨cur,e,A,h1,h2,?_,h4⟩
 have:=h3.undv
 rw [← hp] at this
 exact this.dv
section
variable {P:Program} {C:Ctx} {g:G} {st:St} {a:Act} {w w':World}
def idxOf (id:Nat):List Nat→Option Nat
 | []=>none
 | x :: l=>match Nat.beq id x with
  | true=>some 0
  | false=>(idxOf id l).map (· + 1)
theorem idxOf_get:∀ {l:List Nat} {id j:Nat},idxOf id l=some j→l[j]? = some id
 | [],_,_,h=>by simp [idxOf] at h
 | x :: l,id,j,h=>by
  simp only [idxOf] at h
  cases hb:Nat.beq id x with
  | true =>
   rw [hb] at h
   simp only [Option.some.injEq] at h
   subst h
   simp [Nat.eq_of_beq_eq_true hb]
  | false =>
   rw [hb] at h
   simp only at h
   cases hi:idxOf id l with
   | none=>rw [hi] at h;cases h
   | some k =>
    rw [hi] at h
    simp only [Option.map_some,Option.some.injEq] at h
    subst h
    simpa using idxOf_get hi
def distN:List Nat→Bool
 | []=>true
 | x :: l=>match (idxOf x l) with
  | none=>distN l
  | some _=>false
theorem idxOf_none:∀ {l:List Nat} {id:Nat},idxOf id l=none→id∉l
 | [],_,_=>by simp
 | x :: l,id,h=>by
  simp only [idxOf] at h
  cases hb:Nat.beq id x with
  | true=>rw [hb] at h;cases h
  | false =>
   rw [hb] at h
   simp only [Option.map_eq_none_iff] at h
   have:=idxOf_none h
   intro hm
   rcases List.mem_cons.1 hm with rfl | hm
   ·rw [Nat.beq_refl] at hb;cases hb
   ·exact this hm
theorem distN_ok:∀ {l:List Nat},distN l=true→l.Nodup
 | [],_=>List.nodup_nil
 | x :: l,h=>by
  simp only [distN] at h
  split at h
  ·rename_i hi
   exact List.nodup_cons.2 ⟨idxOf_none hi,distN_ok h⟩
  ·cases h
theorem nodup_idx:∀ {l:List Nat},l.Nodup→∀ {i j x:Nat},l[i]? = some x→l[j]? = some x→i=j
 | [],_,i,_,_,hi,_=>by simp at hi
 | y :: l,hn,0,0,_,_,_=>rfl
 | y :: l,hn,0,j+1,x,hi,hj=>by
  simp only [List.getElem?_cons_zero,Option.some.injEq,List.getElem?_cons_succ] at hi hj
  subst hi
  exact ((List.nodup_cons.1 hn).1 (List.mem_of_getElem? hj)).elim
 | y :: l,hn,i+1,0,x,hi,hj=>by
  simp only [List.getElem?_cons_zero,Option.some.injEq,List.getElem?_cons_succ] at hi hj
  subst hj
  exact ((List.nodup_cons.1 hn).1 (List.mem_of_getElem? hi)).elim
 | y :: l,hn,i+1,j+1,x,hi,hj=>by
  simp only [List.getElem?_cons_succ] at hi hj
  rw [nodup_idx (List.nodup_cons.1 hn).2 hi hj]
def G.lend (g:G) (ids:List Nat):G :=
 { pub:=g.pub,own:=fun b=>(ids.findIdx? fun id=>decide (b∈g.TB id)).map .inr,n:=ids.length,loc:=fun j=>g.loc (ids.getD j 0),TE:=fun _=>[],TB:=fun j=>if j < ids.length then g.TB (ids.getD j 0) else [] }
def killI (ids:List Nat) (l:List (Nat × X)):List (Nat × X):=match ids with
 | []=>l
 | id :: ids=>kill (isB id) (killI ids l)
def setI (bx:List Box):List Nat→List (List V)→List Box
 | id :: ids,c :: cs=>setI (bx.set id (.cells (dv c))) ids cs
 | _,_=>bx
def St.lent (st:St) (ids:List Nat) (bs':List (List V)):St:={ env:=killI ids st.env,box:=setI st.box ids bs' }
theorem look_killI {t:Nat}:∀ {ids:List Nat} {l:List (Nat × X)} {y:X},look (killI ids l) t=some y→y=.dead∧(∃ z,look l t=some z)∨look l t=some y∧∀ h,y.rootH=some h→∀ id∈ids,h≠.inr id
 | [],l,y,h=>.inr ⟨h,by simp⟩
 | id :: ids,l,y,h=>by
  simp only [killI,look_kill] at h
  cases hl:look (killI ids l) t with
  | none=>rw [hl] at h;cases h
  | some z =>
   rw [hl] at h
   simp only [Option.map_some,Option.some.injEq] at h
   rcases look_killI hl with ⟨rfl,z',hz⟩ | ⟨hz,hr⟩
   ·exact .inl ⟨h ▸ rfl,z',hz⟩
   ·by_cases hd:y=.dead
    ·exact .inl ⟨hd,z,hz⟩
    ·rcases X.kill_cases (isB id) z with h1 | ⟨h1,_⟩
     ·exact (hd (by rw [← h,h1])).elim
     ·rw [h1] at h
      subst h
      refine .inr ⟨hz,fun h' hh i hi=>?_⟩
      rcases List.mem_cons.1 hi with rfl | hi
      ·exact X.killR_rootH (q:=.b i 0) h1 hd h' hh
      ·exact hr h' hh i hi
theorem setI_length:∀ {ids:List Nat} {cs:List (List V)} {bx:List Box},(setI bx ids cs).length=bx.length
 | [],_,_=>by simp [setI]
 | _ :: _,[],_=>by simp [setI]
 | id :: ids,c :: cs,bx=>by simp only [setI,setI_length,List.length_set]
theorem setI_ne:∀ {ids:List Nat} {cs:List (List V)} {bx:List Box} {i:Nat},i∉ids→(setI bx ids cs)[i]? = bx[i]?
 | [],_,_,_,_=>by simp [setI]
 | _ :: _,[],_,_,_=>by simp [setI]
 | id :: ids,c :: cs,bx,i,h=>by
  simp only [List.mem_cons,not_or] at h
  simp only [setI]
  rw [setI_ne h.2,List.getElem?_set_ne (fun e=>h.1 e.symm)]
theorem setI_at:∀ {ids:List Nat} {cs:List (List V)} {bx:List Box} {j id:Nat},ids.Nodup→ids.length=cs.length→ids[j]? = some id→id < bx.length→∃ c,cs[j]? = some c∧(setI bx ids cs)[id]? = some (.cells (dv c))
 | [],_,_,_,_,_,_,h,_=>by simp at h
 | _ :: _,[],_,_,_,_,h,_,_=>by simp at h
 | x :: ids,c :: cs,bx,0,id,hn,hl,h,hb=>by
  simp only [List.getElem?_cons_zero,Option.some.injEq] at h
  subst h
  refine ⟨c,rfl,?_⟩
  simp only [setI]
  rw [setI_ne (List.nodup_cons.1 hn).1,List.getElem?_set_self hb]
 | x :: ids,c :: cs,bx,j+1,id,hn,hl,h,hb=>by
  simp only [List.getElem?_cons_succ] at h
  simp only [setI,List.getElem?_cons_succ]
  exact setI_at (List.nodup_cons.1 hn).2 (by simpa using hl) h (by simpa using hb)
def G.back (g g':G) (ids:List Nat):G :=
 { pub:=g'.pub,own:=fun b=>match g'.own b with
     | some (.inr j)=>if j < ids.length then some (.inr (ids.getD j 0)) else none
     | some (.inl _)=>none
     | none=>if (ids.any fun id=>decide (b∈g.TB id))=true then none else g.own b,
   n:=g.n,loc:=g.loc,TE:=g.TE,TB:=fun i=>match idxOf i ids with
     | some j=>g'.TB j
     | none=>g.TB i }
theorem idxOf_of:∀ {l:List Nat} {j id:Nat},l.Nodup→l[j]? = some id→idxOf id l=some j
 | [],_,_,_,h=>by simp at h
 | x :: l,0,id,_,h=>by
  simp only [List.getElem?_cons_zero,Option.some.injEq] at h
  subst h
  simp [idxOf,Nat.beq_refl]
 | x :: l,j+1,id,hn,h=>by
  simp only [List.getElem?_cons_succ] at h
  have hne:Nat.beq id x=false:=by
   cases hb:Nat.beq id x with
   | true =>
    have:=Nat.eq_of_beq_eq_true hb
    subst this
    exact ((List.nodup_cons.1 hn).1 (List.mem_of_getElem? h)).elim
   | false=>rfl
  simp only [idxOf,hne,idxOf_of (List.nodup_cons.1 hn).2 h,Option.map_some]
theorem SRep.lendOk (S:SRep C g st a w) {ids:List Nat} {bs:List (List V)} (hn:ids.Nodup) (hl:ids.length=bs.length) (hb:∀ (j id:Nat),ids[j]? = some id→∃ c,bs[j]? = some c∧st.box[id]? = some (Box.cells (dv c))) :
 Boxes (g.lend ids) w bs∧(∀ b h,(g.lend ids).own b=some h→∃ j id,h=.inr j∧ids[j]? = some id∧b∈g.TB id∧g.own b=some (.inr id))∧(∀ j id b,ids[j]? = some id→b∈g.TB id→(g.lend ids).own b=some (.inr j)):=by
 have hown:∀ j id b,ids[j]? = some id→b∈g.TB id→g.own b=some (.inr id):=fun j id b hj hbm=>by
  obtain ⟨c,_,hc⟩:=hb j id hj
  exact (S.box id _ hc).2 b hbm
 have h2:∀ b h,(g.lend ids).own b=some h→∃ j id,h=.inr j∧ids[j]? = some id∧b∈g.TB id∧g.own b=some (.inr id):=by
  intro b h ho
  simp only [G.lend] at ho
  cases hf:ids.findIdx? (fun id=>decide (b∈g.TB id)) with
  | none=>rw [hf] at ho;cases ho
  | some j =>
   rw [hf] at ho
   simp only [Option.map_some,Option.some.injEq] at ho
   obtain ⟨hj,hp,_⟩:=List.findIdx?_eq_some_iff_getElem.1 hf
   have hm:b∈g.TB ids[j]:=by simpa using hp
   exact ⟨j,ids[j],ho.symm,List.getElem?_eq_getElem hj,hm,hown j _ b (List.getElem?_eq_getElem hj) hm⟩
 have h3:∀ j id b,ids[j]? = some id→b∈g.TB id→(g.lend ids).own b=some (.inr j):=by
  intro j id b hj hm
  cases hf:ids.findIdx? (fun id=>decide (b∈g.TB id)) with
  | none =>
   have:=List.findIdx?_eq_none_iff.1 hf id (List.mem_of_getElem? hj)
   simp [hm] at this
  | some k =>
   have ho:(g.lend ids).own b=some (.inr k):=by simp only [G.lend,hf,Option.map_some]
   obtain ⟨j',id',e1,e2,e3,e4⟩:=h2 b _ ho
   cases e1
   rw [hown j id b hj hm] at e4
   cases e4
   rw [ho,nodup_idx hn e2 hj]
 refine ⟨fun j c hc=>?_,h2,h3⟩
 have hj:j < ids.length:=by rw [hl];exact (List.getElem?_eq_some_iff.1 hc).1
 have hid:ids[j]? = some ids[j]:=List.getElem?_eq_getElem hj
 obtain ⟨c',hc',hbx⟩:=hb j _ hid
 rw [hc] at hc'
 cases hc'
 obtain ⟨h1,h4⟩:=S.box _ _ hbx
 have eT:(g.lend ids).TB j=g.TB ids[j]:=by simp only [G.lend];rw [if_pos hj,List.getD_eq_getElem?_getD,hid];rfl
 have eL:(g.lend ids).loc j=g.loc ids[j]:=by simp only [G.lend];rw [List.getD_eq_getElem?_getD,hid];rfl
 rw [eT,eL]
 exact ⟨h1.gV rfl,S.nodB _,fun b hbm=>h3 j _ b hid hbm⟩
theorem SRep.lentOk (S:SRep C g st a w) {ids:List Nat} {bs bs':List (List V)} {g':G} (hn:ids.Nodup) (hl:ids.length=bs.length) (hl':ids.length=bs'.length) (hb:∀ (j id:Nat),ids[j]? = some id→∃ c,bs[j]? = some c∧st.box[id]? = some (Box.cells (dv c)))
 (hL:Lent (g.lend ids) g' w w') (hB:Boxes g' w' bs'):KeepsG g (g.back g' ids) w w'∧SRep C (g.back g' ids) (st.lent ids bs') a w' ∧
  ∀ b,g'.own b=some (.inl 0)→(g.back g' ids).own b=none∧¬ (g.back g' ids).pub b∧(C.W.heap.size≤b∨C.Fz b)∧b < w'.heap.size:=by
 obtain ⟨hBx,hown1,hown2⟩:=S.lendOk hn hl hb
 have hlt:∀ j id,ids[j]? = some id→id < st.box.length:=fun j id hj=>by
  obtain ⟨c,_,hc⟩:=hb j id hj
  exact (List.getElem?_eq_some_iff.1 hc).1
 have hgn:∀ j id,ids[j]? = some id→id < g.n:=fun j id hj=>by rw [S.n];exact hlt j id hj
 have hgd:∀ j id,ids[j]? = some id→ids.getD j 0=id:=fun j id hj=>by rw [List.getD_eq_getElem?_getD,hj];rfl
 have notlent:∀ b,(∀ (j id:Nat),ids[j]? = some id→b∉g.TB id)→(g.lend ids).own b=none:=fun b h=>by
  cases ho:(g.lend ids).own b with
  | none=>rfl
  | some k=>obtain ⟨j,id,_,e2,e3,_⟩:=hown1 b k ho;exact (h j id e2 e3).elim
 have same:∀ b,b < w.heap.size→(∀ (j id:Nat),ids[j]? = some id→b∉g.TB id)→w'.heap[b]? = w.heap[b]?:=fun b hb1 h=>hL.same b hb1 (notlent b h)
 have own3:∀ j id b,ids[j]? = some id→b∈g.TB id→g.own b=some (.inr id):=fun j id b hj hm=>by
  obtain ⟨c,_,hc⟩:=hb j id hj
  exact (S.box id _ hc).2 b hm
 have anyB:∀ b,(ids.any fun id=>decide (b∈g.TB id))=true↔∃ (j id:Nat),ids[j]? = some id∧b∈g.TB id:=fun b=>by
  rw [List.any_eq_true]
  constructor
  ·rintro ⟨id,h1,h2⟩
   obtain ⟨j,hj⟩:=List.getElem?_of_mem h1
   exact ⟨j,id,hj,by simpa using h2⟩
  ·rintro ⟨j,id,h1,h2⟩
   exact ⟨id,List.mem_of_getElem? h1,by simpa using h2⟩
 have newB:∀ b h,g'.own b=some h→w.heap.size≤b∨∃ (j id:Nat),ids[j]? = some id∧b∈g.TB id:=fun b h ho=>by
  rcases (hL.own b h ho).1 with h1 | ⟨h',h1⟩
  ·exact .inl h1
  ·obtain ⟨j,id,_,e2,e3,_⟩:=hown1 b h' h1
   exact .inr ⟨j,id,e2,e3⟩
 have fz:∀ b h,g'.own b=some h→C.W.heap.size≤b∨C.Fz b:=fun b h ho=>by
  rcases newB b h ho with h1 | ⟨j,id,h1,h2⟩
  ·exact .inl (Nat.le_trans S.size h1)
  ·exact (S.own b _ (own3 j id b h1 h2)).1
 let chg:Nat ⊕ Nat→Prop:=fun h=>∃ (j id:Nat),ids[j]? = some id∧h=.inr id
 have keepOwn:∀ b h,g.own b=some h→¬ chg h→(g.back g' ids).own b=some h:=by
  intro b h ho hc
  have hnot:¬ ∃ (j id:Nat),ids[j]? = some id∧b∈g.TB id:=by
   rintro ⟨j,id,h1,h2⟩
   rw [own3 j id b h1 h2] at ho
   cases ho
   exact hc ⟨j,id,h1,rfl⟩
  have h1:g'.own b=none:=by
   cases h2:g'.own b with
   | none=>rfl
   | some k =>
    rcases newB b k h2 with h3 | h3
    ·have:=(S.own b h ho).2.1;omega
    ·exact (hnot h3).elim
  simp only [G.back,h1]
  rw [if_neg (by rw [anyB];exact hnot)]
  exact ho
 have k:KeepsG g (g.back g' ids) w w':=⟨fun b hb1=>hL.pub b hb1,Nat.le_refl _,fun _ _=>rfl,fun b hb1=>same b (S.publt b hb1) fun j id hj hm=>(S.own b _ (own3 j id b hj hm)).2.2 hb1⟩
 refine ⟨k,?_,?_⟩
 ·refine S.change chg S.defers S.tmps hL.os hL.tape hL.output hL.size (fun b hb1=>hL.pub b hb1) ?_ hL.publt ?_ (Nat.le_refl _) (fun _ _=>rfl) ?_ keepOwn ?_ ?_ ?_ ?_ ?_ ?_ ?_
  ·intro b hb1
   rcases hL.pub' b hb1 with h | h | ⟨h,h1⟩
   ·exact .inl h
   ·exact .inr (.inl h)
   ·obtain ⟨j,id,_,_,_,e4⟩:=hown1 b h h1
    exact .inr (.inr ⟨_,e4⟩)
  ·show g.n=_
   simp only [St.lent,setI_length]
   exact S.n
  ·intro b hb1 h
   refine same b hb1 fun j id hj hm=>?_
   have ho:=own3 j id b hj hm
   rcases h with h | ⟨h,h1,h2⟩ | ⟨h1,h2⟩
   ·exact (S.own b _ ho).2.2 h
   ·rw [ho] at h1;cases h1;exact h2 ⟨j,id,hj,rfl⟩
   ·rcases (S.own b _ ho).1 with h3 | h3
    ·omega
    ·exact h2 h3
  ·intro t _;exact ⟨rfl,rfl⟩
  ·intro i hi
   have hni:i∉ids:=fun hm=>by
    obtain ⟨j,hj⟩:=List.getElem?_of_mem hm
    exact hi ⟨j,i,hj,rfl⟩
   refine ⟨?_,by simp only [St.lent];exact setI_ne hni⟩
   simp only [G.back]
   cases hx:idxOf i ids with
   | none=>rfl
   | some j=>exact (hni (List.mem_of_getElem? (idxOf_get hx))).elim
  ·intro t y hy
   simp only [St.lent] at hy
   refine .inl ⟨?_,?_⟩
   ·rintro ⟨_,_,_,e⟩;cases e
   ·rcases look_killI hy with ⟨h,z,hz⟩ | ⟨h,hr⟩
    ·exact .inr ⟨h,z,hz⟩
    ·refine .inl ⟨h,fun h' hh=>?_⟩
     rintro ⟨j,id,hj,e⟩
     exact hr h' hh id (List.mem_of_getElem? hj) e
  ·rintro i b hb1 ⟨j,id,hj,e⟩
   cases e
   obtain ⟨c,hc,hs⟩:=setI_at (bx:=st.box) hn hl' hj (hlt j i hj)
   simp only [St.lent] at hb1
   rw [hs] at hb1
   cases hb1
   obtain ⟨h1,h2,h3⟩:=hB j c hc
   have eT:(g.back g' ids).TB i=g'.TB j:=by simp only [G.back,idxOf_of hn hj]
   have hjl:j < ids.length:=(List.getElem?_eq_some_iff.1 hj).1
   have eL:g'.loc j=(g.back g' ids).loc i:=by
    rw [hL.loc j (by simpa [G.lend] using hjl)]
    show g.loc (ids.getD j 0)=g.loc i
    rw [hgd j i hj]
   rw [eT,← eL]
   refine ⟨h1.gV rfl,fun b hm=>?_⟩
   simp only [G.back,h3 b hm]
   rw [if_pos hjl,hgd j i hj]
  ·rintro t ⟨_,_,_,e⟩;cases e
  ·rintro i ⟨j,id,hj,e⟩
   cases e
   have eT:(g.back g' ids).TB i=g'.TB j:=by simp only [G.back,idxOf_of hn hj]
   rw [eT]
   obtain ⟨c,hc,_⟩:=setI_at (bx:=st.box) hn hl' hj (hlt j i hj)
   exact (hB j c hc).2.1
  ·intro b h ho
   simp only [G.back] at ho
   split at ho
   ·rename_i j hj
    split at ho
    ·cases ho
     have:=hL.own b _ hj
     refine .inr ⟨?_,this.2.1,this.2.2⟩
     rcases newB b _ hj with h1 | ⟨j',id,h1,h2⟩
     ·exact .inr (.inl h1)
     ·exact .inl ⟨_,own3 j' id b h1 h2⟩
    ·cases ho
   ·cases ho
   ·split at ho
    ·cases ho
    ·rename_i hnone hany
     refine .inl ⟨ho,fun hp=>?_⟩
     rcases hL.pub' b hp with h1 | h1 | ⟨h',h1⟩
     ·exact (S.own b h ho).2.2 h1
     ·have:=(S.own b h ho).2.1;omega
     ·obtain ⟨j,id,_,e2,e3,_⟩:=hown1 b h' h1
      exact hany ((anyB b).2 ⟨j,id,e2,e3⟩)
 ·intro b hb1
  have:=hL.own b _ hb1
  refine ⟨by simp only [G.back,hb1],this.2.2,fz b _ hb1,this.2.1⟩
end
end Go.Rf
end
section
namespace Go.Rf
open Go.RowKit
set_option linter.unusedVariables false
set_option linter.unusedSimpArgs false
variable [Tabs]
def argX (ids:List Nat) (x:Operand) (e:E):Option (D × List Nat × E) :=
 match (match x with | .tmp t=>look e.st.env t | _=>none) with
 | some (.d (.ptr id off))=>match idxOf id ids with
  | some j=>some (.ptr j off,ids,e)
  | none=>some (.ptr ids.length off,ids++[id],e)
 | _=>match val x e with
  | some (u,e)=>some (.v u,ids,e)
  | none=>none
def argsX (ids:List Nat):List Operand→E→Option (List D × List Nat × E)
 | [],e=>some ([],ids,e)
 | x :: xs,e=>match argX ids x e with
  | some (u,ids,e)=>match argsX ids xs e with
   | some (us,ids,e)=>some (u :: us,ids,e)
   | none=>none
  | none=>none
def boxesV (st:St):List Nat→Option (List (List V))
 | []=>some []
 | id :: ids=>match st.box[id]? with
  | some (.cells cs)=>match undv cs,boxesV st ids with
   | some c,some l=>some (c :: l)
   | _,_=>none
  | _=>none
def unaggs:List V→Option (List (List V))
 | []=>some []
 | .agg c :: l=>match unaggs l with
  | some r=>some (c :: r)
  | none=>none
 | _=>none
theorem boxesV_get {st:St}:∀ {ids:List Nat} {bs:List (List V)},boxesV st ids=some bs→ids.length=bs.length∧∀ (j id:Nat),ids[j]? = some id→∃ c,bs[j]? = some c∧st.box[id]? = some (Box.cells (dv c))
 | [],bs,h=>by cases h;exact ⟨rfl,fun j id h=>by simp at h⟩
 | x :: ids,bs,h=>by
  simp only [boxesV] at h
  split at h
  ·rename_i cs hb
   split at h
   ·rename_i c l hu hl
    cases h
    obtain ⟨h1,h2⟩:=boxesV_get hl
    refine ⟨by simp [h1],fun j id hj=>?_⟩
    cases j with
    | zero =>
     simp only [List.getElem?_cons_zero,Option.some.injEq] at hj
     subst hj
     exact ⟨c,rfl,by rw [hb,undv_eq hu]⟩
    | succ j =>
     simp only [List.getElem?_cons_succ] at hj ⊢
     exact h2 j id hj
   ·cases h
  ·cases h
section
variable {P:Program} {C:Ctx} {g:G} {st:St} {a:Act} {w w':World}
inductive ArgD (g:G) (w:World) (ids:List Nat):Value→D→Prop
 | v {u:Value} {x:V}:Rep g.pub w u x []→ArgD g w ids u (.v x)
 | ptr {j id off:Nat}:ids[j]? = some id→id < g.n→ArgD g w ids (.pointer (some ⟨g.loc id,off,none⟩)) (.ptr j off)
inductive ArgDL (g:G) (w:World) (ids:List Nat):List Value→List D→Prop
 | nil:ArgDL g w ids [] []
 | cons {v:Value} {d:D} {vs:List Value} {ds:List D}:ArgD g w ids v d→ArgDL g w ids vs ds→ArgDL g w ids (v :: vs) (d :: ds)
theorem ArgD.up {g':G} {ids ids':List Nat} {v:Value} {d:D} (h:ArgD g w ids v d) (k:KeepsG g g' w w) (hp:∀ (j x:Nat),ids[j]? = some x→ids'[j]? = some x):ArgD g' w ids' v d:=by
 cases h with
 | v h=>exact .v (h.keep k.k (fun _ h=>by cases h))
 | ptr h1 h2=>rw [← k.loc _ h2];exact .ptr (hp _ _ h1) (Nat.lt_of_lt_of_le h2 k.n)
theorem ArgDL.lend {ids:List Nat}:∀ {vs:List Value} {ds:List D},ArgDL g w ids vs ds→RepDL (g.lend ids) w vs ds []
 | _,_,.nil=>.nil
 | _,_,.cons h1 h2=>by
  refine RepDL.cons (A:=[]) (B:=[]) ?_ h2.lend
  cases h1 with
  | v h=>exact .v h
  | @ptr j id off h hl =>
   have:(g.lend ids).loc j=g.loc id:=by simp only [G.lend];rw [List.getD_eq_getElem?_getD,h];rfl
   rw [← this]
   exact .ptr (by simpa [G.lend] using (List.getElem?_eq_some_iff.1 h).1)
theorem argX_ok {ids ids':List Nat} {x:Operand} {e e':E} {u:D} (h:argX ids x e=some (u,ids',e')):All e'.ob→All e.ob∧(∀ (j y:Nat),ids[j]? = some y→ids'[j]? = some y)∧∀ g a w,SRep C g e.st a w →
 ∃ g',KeepsG g g' w w∧SRep C g' e'.st a w∧ArgD g' w ids' (a.eval x) u:=by
 intro hA
 unfold argX at h
 split at h
 ·rename_i id off hx
  have hk:∃ t,x=.tmp t∧look e.st.env t=some (.d (.ptr id off)):=by
   cases x with
   | tmp t=>exact ⟨t,rfl,hx⟩
   | _=>cases hx
  obtain ⟨t,rfl,hl⟩:=hk
  have rep:∀ g a w,SRep C g e.st a w→id < g.n∧a.eval (.tmp t)=.pointer (some ⟨g.loc id,off,none⟩):=by
   intro g a w S
   have h2:RepD g w (a.tmps.getD t undef) (.ptr id off) (g.TE t):=(S.env t _ hl).2.1
   show id < g.n∧a.tmps.getD t undef=_
   generalize a.tmps.getD t undef=v at h2
   generalize g.TE t=T at h2
   cases h2 with
   | ptr h=>exact ⟨h,rfl⟩
  split at h
  ·rename_i j hj
   cases h
   refine ⟨hA,fun _ _ h=>h,fun g a w S=>⟨g,KeepsG.refl g w,S,?_⟩⟩
   obtain ⟨h1,h2⟩:=rep g a w S
   rw [h2]
   exact .ptr (idxOf_get hj) h1
  ·cases h
   refine ⟨hA,fun j y h=>?_,fun g a w S=>⟨g,KeepsG.refl g w,S,?_⟩⟩
   ·rw [List.getElem?_append_left (List.getElem?_eq_some_iff.1 h).1];exact h
   obtain ⟨h1,h2⟩:=rep g a w S
   rw [h2]
   exact .ptr (by simp) h1
 ·split at h
  ·rename_i u e1 hv
   cases h
   obtain ⟨h0,k⟩:=val_ok (C:=C) hv hA
   refine ⟨h0,fun _ _ h=>h,fun g a w S=>?_⟩
   obtain ⟨g',kk,S',r⟩:=k g a w S
   exact ⟨g',kk,S',.v r⟩
  ·cases h
theorem argsX_ok:∀ {xs:List Operand} {ids ids':List Nat} {e e':E} {us:List D},argsX ids xs e=some (us,ids',e')→All e'.ob→All e.ob∧(∀ (j y:Nat),ids[j]? = some y→ids'[j]? = some y)∧∀ g a w,SRep C g e.st a w →
 ∃ g',KeepsG g g' w w∧SRep C g' e'.st a w∧ArgDL g' w ids' (xs.map a.eval) us
 | [],ids,ids',e,e',us,h,hA=>by
  cases h
  exact ⟨hA,fun _ _ h=>h,fun g a w S=>⟨g,KeepsG.refl g w,S,.nil⟩⟩
 | x :: xs,ids,ids',e,e',us,h,hA=>by
  simp only [argsX] at h
  split at h
  ·rename_i u ids1 e1 h1
   split at h
   ·rename_i us2 ids2 e2 h2
    cases h
    obtain ⟨a1,p1,k1⟩:=argsX_ok h2 hA
    obtain ⟨a0,p0,k0⟩:=argX_ok (C:=C) h1 a1
    refine ⟨a0,fun j y h=>p1 j y (p0 j y h),fun g a w S=>?_⟩
    obtain ⟨g1,kk1,S1,r1⟩:=k0 g a w S
    obtain ⟨g2,kk2,S2,r2⟩:=k1 g1 a w S1
    exact ⟨g2,kk1.trans kk2,S2,.cons (r1.up kk2 p1) r2⟩
   ·cases h
  ·cases h
def evCallX (N:Nat) (P:Program) (o:Oper) (f:Operand) (xs:List Operand) (e:E):Option E :=
 match val f e with
 | some (u,e)=>match fnOf u with
  | some (n,[])=>match argsX [] xs e with
   | some (us,ids,e)=>match distN ids,boxesV e.st ids with
    | true,some bs=>match hint e with
     | some (r,e)=>match hint e with
      | some (.tup hs,e)=>match unaggs hs with
       | some bs'=>match Nat.beq ids.length bs'.length with
        | true=>match o.dst with
         | none=>some { need (ConX' P n us bs (.v r) bs') e with st:=e.st.lent ids bs' }
         | some _=>match dstOf N o with
          | some d=>some { need (ConX' P n us bs (.v r) bs') e with st:=(e.st.lent ids bs').put d (.d (.v r)) }
          | none=>none
        | false=>none
       | none=>none
      | _=>none
     | none=>none
    | _,_=>none
   | none=>none
  | _=>none
 | none=>none
def lends (e:E):List Operand→Bool
 | []=>false
 | .tmp t :: xs=>match look e.st.env t with
  | some (.d (.ptr _ _))=>true
  | _=>lends e xs
 | _ :: xs=>lends e xs
theorem evCallX_ok {o:Oper} {c:Call} {f:Operand} {e e':E} (ho:o.op=.call c) (hc:c.callee=.value f) (h:evCallX C.N P o f c.args.toList e=some e') (hcalm:calmK P o.op=false):OpOk P C o e e':=by
 unfold evCallX at h
 split at h
 rotate_left
 ·cases h
 rename_i u0 e1 hf
 split at h
 rotate_left
 ·cases h
 rename_i n hfn
 have hfn:=fnOf_eq hfn
 subst hfn
 split at h
 rotate_left
 ·cases h
 rename_i us ids e2 hv
 split at h
 rotate_left
 ·cases h
 rename_i bs hdn hbs
 split at h
 rotate_left
 ·cases h
 rename_i r e3 hh1
 split at h
 rotate_left
 ·cases h
 rename_i hs e4 hh2
 split at h
 rotate_left
 ·cases h
 rename_i bs' hun
 split at h
 rotate_left
 ·cases h
 rename_i hlen
 have hlen:=Nat.eq_of_beq_eq_true hlen
 obtain ⟨a1,a2⟩:=hint_eq hh1
 obtain ⟨b1,b2⟩:=hint_eq hh2
 have hob:e4.ob=e2.ob:=by rw [b1,a1]
 have hst:e4.st=e2.st:=by rw [b2,a2]
 obtain ⟨hl,hbx⟩:=boxesV_get hbs
 have hnd:=distN_ok hdn
 have main:∀ (obl:ConX' P n us bs (.v r) bs') (hA:All e4.ob) g a w,SRep C g e.st a w→∀ (Q:Exit→Act→World→Prop) (next:Act→World→Prop),
  (∀ (v:Value) (w':World) (T:List Nat) (g2:G),SRep C g2 (e2.st.lent ids bs') a w'→T.Nodup→(∀ b∈T,g2.own b=none∧¬ g2.pub b∧(C.W.heap.size≤b∨C.Fz b)∧b < w'.heap.size)→Rep g2.pub w' v r T→next (a.put o.dst v) w')→o.wp P a w next Q:=by
  intro obl hA g a w S Q next hn
  obtain ⟨us',bs1,hf1,hf2,hen,hcon⟩:=obl
  obtain ⟨hA1,_,kv⟩:=argsX_ok (C:=C) hv (hob ▸ hA)
  obtain ⟨_,kf⟩:=val_ok (C:=C) hf hA1
  obtain ⟨g0,k0,S0,r0⟩:=kf g a w S
  obtain ⟨g1,k1,S1,r1⟩:=kv g0 a w S0
  have hfv:a.eval f=.func (.func n) #[] #[]:=by
   obtain ⟨vs0,h1,h2⟩:=r0.clo_inv
   cases h2
   exact h1
  have hargs:(c.args.map a.eval)=(c.args.toList.map a.eval).toArray:=by apply Array.ext';rw [Array.toList_map]
  unfold Oper.wp
  have:(execOp a.eval o).run P w=.ok (.enter n (c.args.toList.map a.eval).toArray) w:=by
   unfold execOp
   simp only [ho,resolve,hc,hfv,hargs,Deferred.ofValue,Sem.run_bind,Sem.run_pure,Result.andThen_ok,invoke]
   simpa using hen _ w
  rw [this,Oper.upon_enter]
  obtain ⟨hB,hown1,hown2⟩:=S1.lendOk hnd hl hbx
  refine (hcon (g1.lend ids) w _ (by rw [← hf2.length,← hl];rfl) S1.publt S1.tab (r1.lend.fit hf1) (hB.fit hf2) (fun b h ho'=>?_)).mono fun ee w' he=>?_
  ·obtain ⟨j,id,_,_,_,h4⟩:=hown1 b h ho'
   exact ⟨(S1.own b _ h4).2.1,(S1.own b _ h4).2.2⟩
  ·obtain ⟨v,T,g',rfl,hL,hR,hT,hTo,hB'⟩:=he
   obtain ⟨kk,S2,hfree⟩:=S1.lentOk hnd hl hlen hbx hL hB'
   exact hn v w' T _ S2 hT (fun b hb=>hfree b (hTo b hb)) hR.inv
 split at h
 ·rename_i hd
  cases h
  intro hA
  obtain ⟨hA,obl⟩:=All.snoc (l:=e4.ob) hA
  have h0:=(val_ok (C:=C) hf (argsX_ok (C:=C) hv (hob ▸ hA)).1).1
  refine ⟨h0,fun g a w S next Q hn=>main obl hA g a w S Q next fun v w' T g2 S2 hT hfree hR=>?_⟩
  rw [hd]
  refine hn g2 _ _ ?_ (fun h=>by rw [hcalm] at h;cases h)
  show SRep C g2 (e4.st.lent ids bs') _ _
  rw [hst]
  exact S2
 ·split at h
  ·rename_i d hd
   cases h
   obtain ⟨hdd,hdN⟩:=dstOf_eq hd
   intro hA
   obtain ⟨hA,obl⟩:=All.snoc (l:=e4.ob) hA
   have h0:=(val_ok (C:=C) hf (argsX_ok (C:=C) hv (hob ▸ hA)).1).1
   refine ⟨h0,fun g a w S next Q hn=>main obl hA g a w S Q next fun v w' T g2 S2 hT hfree hR=>?_⟩
   rw [hdd]
   refine hn (g2.put d T fun _=>False) _ _ ?_ (fun h=>by rw [hcalm] at h;cases h)
   show SRep C _ ((e4.st.lent ids bs').put d _) _ _
   rw [hst]
   exact S2.putF (row:=none) ⟨rfl,rfl,rfl,Nat.le_refl _,fun _ _ _=>rfl⟩ (by simp) hdN hT hfree hR
  ·cases h
end
end Go.Rf
end
section
namespace Go.Rf
open Go.RowKit
set_option linter.unusedVariables false
set_option linter.unusedSimpArgs false
variable [Tabs]
section
variable {P:Program} {C:Ctx} {g:G} {st:St} {a:Act} {w w':World}
theorem SRep.setIter (S:SRep C g st a w) {id:Nat} {s:ByteArray} {pos pos':Nat} (hb:st.box[id]? = some (.iter s pos)) (hh:w'.heap[g.loc id]? = some (.stringIter s pos')) (ho:w'.os=w.os) (ht:w'.tape=w.tape) (hu:w'.output=w.output) (hsz:w'.heap.size=w.heap.size)
 (hoth:∀ b,b≠g.loc id→w'.heap[b]? = w.heap[b]?):SRep C g { env:=kill (isB id) st.env,box:=st.box.set id (.iter s pos') } a w':=by
 have hid:id < st.box.length:=(List.getElem?_eq_some_iff.1 hb).1
 obtain ⟨⟨hT,_⟩,hown⟩:=S.box id _ hb
 have hlo:g.own (g.loc id)=some (.inr id):=hown _ (by rw [hT];simp)
 refine S.change (fun h=>h=.inr id) S.defers S.tmps ho ht hu (Nat.le_of_eq hsz.symm) (fun _ h=>h) (fun _ h=>.inl h) (fun b hb'=>by rw [hsz];exact S.publt b hb') (by simpa using S.n) (Nat.le_refl _) (fun _ _=>rfl) ?_ (fun b h ho _=>ho) (fun t _=>⟨rfl,rfl⟩) (fun i hi=>⟨rfl,?_⟩) ?_ ?_ (fun t h=>by cases h) (fun i h=>by cases h;exact S.nodB id) (fun b h ho=>.inl ⟨ho,(S.own b h ho).2.2⟩)
 ·intro b hb' h
  refine hoth b (fun e=>?_)
  subst e
  rcases h with h | ⟨h,h2,h3⟩ | ⟨h2,h3⟩
  ·exact (S.own _ _ hlo).2.2 h
  ·rw [hlo] at h2;cases h2;exact h3 rfl
  ·rcases (S.own _ _ hlo).1 with h4 | h4
   ·omega
   ·exact h3 h4
 ·rw [List.getElem?_set_ne (fun e=>hi (by rw [e]))]
 ·intro t y hy
  simp only [look_kill] at hy
  refine .inl ⟨(fun e=>by cases e),?_⟩
  cases hl:look st.env t with
  | none=>rw [hl] at hy;cases hy
  | some z =>
   rw [hl] at hy
   simp only [Option.map_some,Option.some.injEq] at hy
   by_cases hdd:y=.dead
   ·exact .inr ⟨hdd,z,rfl⟩
   ·rcases X.kill_cases (isB id) z with h | ⟨h,_⟩
    ·exact (hdd (by rw [← hy,h])).elim
    ·rw [h] at hy
     subst hy
     exact .inl ⟨rfl,X.killR_rootH (q:=.b id 0) h hdd⟩
 ·intro i b hb' hc
  cases hc
  rw [List.getElem?_set_self hid] at hb'
  cases hb'
  exact ⟨⟨hT,hh⟩,hown⟩
def evRange (P:Program) (N:Nat) (o:Oper) (t:TypeId) (x:Operand) (e:E):Option E :=
 match dstOf N o with
 | none=>none
 | some d=>match P.underlying t with
  | some .string=>match val x e with
   | some (.lit (.string s),e)=>some { e with st:=({ e.st with box:=e.st.box++[Box.iter s 0] }:St).put d (.d (.ptr e.st.box.length 0)) }
   | _=>none
  | _=>none
theorem evRange_ok {o:Oper} {t:TypeId} {x:Operand} {e e':E} (ho:o.op=.range t x) (h:evRange P C.N o t x e=some e'):OpOk P C o e e':=by
 unfold evRange at h
 split at h
 ·cases h
 rename_i d hd
 obtain ⟨hdd,hdN⟩:=dstOf_eq hd
 split at h
 ·rename_i hu
  split at h
  ·rename_i s e1 hv
   cases h
   intro hA
   obtain ⟨h0,k⟩:=val_ok (C:=C) hv hA
   refine ⟨h0,fun g a w S next Q hn=>?_⟩
   obtain ⟨g1,k1,S1,r1⟩:=k g a w S
   have hx:a.eval x=.string s:=r1.lit_inv
   refine wp_of_run (v:=.pointer (some ⟨w.heap.size,0,none⟩)) (w':=w.alloc (.stringIter s 0)) ?_ ?_
   ·unfold execOp
    simp only [ho,hx,Sem.run_bind,run_range_string w t s hu,Result.andThen_ok,Sem.run_pure]
    rfl
   ·rw [hdd]
    have S2:=S1.newObj (.stringIter s 0) (.iter s 0) fun g2 _=>⟨rfl,by show (w.heap.push _)[w.heap.size]? = _;rw [Array.getElem?_push_size]⟩
    refine hn _ _ _ (S2.put0 (Calm.refl _) hdN (v:=.pointer (some ⟨w.heap.size,0,none⟩)) (D:=.ptr e1.st.box.length 0) ?_) (fun _=>Calm.alloc w _)
    have e1':(g1.newB w.heap.size []).loc g1.n=w.heap.size:=by simp [G.newB]
    rw [← S1.n]
    have:RepD (g1.newB w.heap.size []) (w.alloc (.stringIter s 0)) (.pointer (some ⟨(g1.newB w.heap.size []).loc g1.n,0,none⟩)) (.ptr g1.n 0) []:=.ptr (by simp [G.newB])
    rw [e1'] at this
    exact this
  ·cases h
 ·cases h
def evNext (N:Nat) (o:Oper) (x:Operand) (isS:Bool) (e:E):Option E :=
 match dstOf N o,isS with
 | some d,true=>match x with
  | .tmp t=>match look e.st.env t with
   | some (.d (.ptr id 0))=>match e.st.box[id]? with
    | some (.iter s pos)=>match hint e with
     | some (.kb true,e)=>some ({ (need (pos < s.size) e) with st:=({ env:=kill (isB id) e.st.env,box:=e.st.box.set id (.iter s (pos+(Utf8.decode s pos).2)) }:St).put d (.d (.v (.tup [.kb true,.lit (.int .i64 (pos:Int)),.lit (.int .i32 (Utf8.decode s pos).1)]))) })
     | some (.kb false,e)=>some ((need (¬ pos < s.size) e).put d (.tup [.kb false]))
     | _=>none
    | _=>none
   | _=>none
  | _=>none
 | _,_=>none
theorem evNext_ok {o:Oper} {x:Operand} {isS:Bool} {e e':E} (ho:o.op=.next x isS) (h:evNext C.N o x isS e=some e') (hcalm:calmK P o.op=false):OpOk P C o e e':=by
 unfold evNext at h
 split at h
 rotate_left
 ·cases h
 rename_i d hd
 obtain ⟨hdd,hdN⟩:=dstOf_eq hd
 split at h
 rotate_left
 ·cases h
 rename_i t
 split at h
 rotate_left
 ·cases h
 rename_i id hl
 split at h
 rotate_left
 ·cases h
 rename_i s pos hb
 have ptr:∀ g a w,SRep C g e.st a w→a.eval (.tmp t)=.pointer (some ⟨g.loc id,0,none⟩)∧w.heap[g.loc id]? = some (.stringIter s pos):=by
  intro g a w S
  have h2:RepD g w (a.tmps.getD t undef) (.ptr id 0) (g.TE t):=(S.env t _ hl).2.1
  refine ⟨?_,(S.box id _ hb).1.2⟩
  show a.tmps.getD t undef=_
  generalize a.tmps.getD t undef=v at h2
  generalize g.TE t=T at h2
  cases h2
  rfl
 split at h
 ·rename_i e1 hh
  obtain ⟨q1,q2⟩:=hint_eq hh
  cases h
  intro hA
  obtain ⟨hA,hlt⟩:=All.snoc (l:=e1.ob) hA
  refine ⟨q1 ▸ hA,fun g a w S next Q hn=>?_⟩
  obtain ⟨hp,hg⟩:=ptr g a w S
  refine wp_of_run (v:=.tuple #[.bool true,.int .i64 pos,.int .i32 (Utf8.decode s pos).1]) (w':={ w with heap:=w.heap.setIfInBounds (g.loc id) (.stringIter s (pos+(Utf8.decode s pos).2)) }) ?_ ?_
  ·unfold execOp
   simp only [ho,hp]
   simp [Instr.next,getObj,setObj,Sem.run,hg,Result.andThen,hlt,goInt]
  ·rw [hdd]
   have hlt2:g.loc id < w.heap.size:=by
    rcases Nat.lt_or_ge (g.loc id) w.heap.size with h | h
    ·exact h
    ·rw [Array.getElem?_eq_none h] at hg;cases hg
   have S2:=S.setIter (w':={ w with heap:=w.heap.setIfInBounds (g.loc id) (.stringIter s (pos+(Utf8.decode s pos).2)) }) hb (pos':=pos+(Utf8.decode s pos).2) (by simp [hlt2]) rfl rfl rfl (by simp) (fun b hb'=>by simp only [Array.getElem?_setIfInBounds];rw [if_neg (fun e=>hb' e.symm)])
   refine hn (g.put d [] fun _=>False) _ _ ?_ (fun h=>by rw [hcalm] at h;cases h)
   show SRep C _ (({ env:=kill (isB id) e1.st.env,box:=e1.st.box.set id (.iter s (pos+(Utf8.decode s pos).2)) }:St).put d _) _ _
   rw [q2]
   exact S2.put0 (Calm.refl _) hdN (.v (.tup (vs:=[.bool true,.int .i64 pos,.int .i32 (Utf8.decode s pos).1]) (.cons (A:=[]) (.kb true) (.cons (A:=[]) (.lit _) (.cons (A:=[]) (.lit _) .nil)))))
 ·rename_i e1 hh
  obtain ⟨q1,q2⟩:=hint_eq hh
  cases h
  intro hA
  obtain ⟨hA,hlt⟩:=All.snoc (l:=e1.ob) hA
  refine ⟨q1 ▸ hA,fun g a w S next Q hn=>?_⟩
  obtain ⟨hp,hg⟩:=ptr g a w S
  refine wp_of_run (v:=.tuple #[.bool false]) (w':=w) ?_ ?_
  ·unfold execOp
   simp only [ho,hp]
   simp [Instr.next,getObj,Sem.run,hg,Result.andThen,hlt]
  ·rw [hdd]
   refine hn (g.put d [] fun _=>False) _ _ ?_ (fun h=>by rw [hcalm] at h;cases h)
   show SRep C _ (e1.st.put d _) _ _
   rw [q2]
   exact S.put0 (Calm.refl _) hdN (.v (.tup (vs:=[.bool false]) (.cons (A:=[]) (.kb false) .nil)))
 ·cases h
end
end Go.Rf
end
section
namespace Go.Rf
open Go.RowKit
set_option linter.unusedVariables false
set_option linter.unusedSimpArgs false
variable [Tabs]
def eqFs (P:Program) (g:TypeId→V→V→Option Bool):List Field→List V→List V→Option Bool
 | [],_,_=>some true
 | f :: fs,cs,ds=>match f.name == "_" with
  | true=>none
  | false=>match partV P f.type (cs.drop f.offset),partV P f.type (ds.drop f.offset) with
   | some u,some v=>match g f.type u v with
    | some b=>match fs with
     | []=>some b
     | _ :: _=>match eqFs P g fs cs ds with
      | some r=>some (b && r)
      | none=>none
    | none=>none
   | _,_=>none
def eqB:V→V→Option Bool
 | .lit (.bool a),.lit (.bool b)=>some (a == b)
 | _,_=>none
def eqI:V→V→Option Bool
 | .lit (.int k a),.lit (.int k' b)=>match k == k' with
  | true=>some (a == b)
  | false=>none
 | _,_=>none
def eqT:V→V→Option Bool
 | .lit (.string a),.lit (.string b)=>some (a == b)
 | _,_=>none
theorem eqB_inv {u v:V} {r:Bool} (h:eqB u v=some r):∃ a b,u=.lit (.bool a)∧v=.lit (.bool b)∧r=(a == b):=by
 unfold eqB at h
 split at h
 ·exact ⟨_,_,rfl,rfl,(Option.some.inj h).symm⟩
 ·cases h
theorem eqI_inv {u v:V} {r:Bool} (h:eqI u v=some r):∃ k a b,u=.lit (.int k a)∧v=.lit (.int k b)∧r=(a == b):=by
 unfold eqI at h
 split at h
 ·split at h
  ·rename_i hk
   exact ⟨_,_,_,rfl,by rw [eq_of_beq hk],(Option.some.inj h).symm⟩
  ·cases h
 ·cases h
theorem eqT_inv {u v:V} {r:Bool} (h:eqT u v=some r):∃ a b,u=.lit (.string a)∧v=.lit (.string b)∧r=(a == b):=by
 unfold eqT at h
 split at h
 ·exact ⟨_,_,rfl,rfl,(Option.some.inj h).symm⟩
 ·cases h
def eqV (P:Program):Nat→TypeId→V→V→Option Bool
 | 0,_,_,_=>none
 | d+1,t,u,v=>match P.underlying t with
  | some (.struct fs)=>match u,v,P.stoodInHeld t with
   | .agg cs,.agg ds,false=>eqFs P (eqV P d) fs.toList cs ds
   | _,_,_=>none
  | some .bool=>eqB u v
  | some (.int _)=>eqI u v
  | some .string=>eqT u v
  | _=>none
section
variable {P:Program} {C:Ctx}
theorem eqFs_ok {p:Pub} {w:World} {D:Nat} {g:TypeId→V→V→Option Bool} (hg:∀ t u v b,g t u v=some b→∀ x y,Rep p w x u []→Rep p w y v []→(Op.equalIn D t x y).run P w=.ok b w) {xs ys:List Value} {cs ds:List V} (h1:RepL p w xs cs []) (h2:RepL p w ys ds []) :
 ∀ {fs:List Field} {r:Bool},eqFs P g fs cs ds=some r→(Op.eqFields D xs.toArray ys.toArray fs).run P w=.ok r w
 | [],r,h=>by cases h;simp [Op.eqFields]
 | f :: fs,r,h=>by
  rw [eqFs] at h
  split at h
  ·cases h
  rename_i hn
  have hn':f.name ≠ "_" := by simpa using hn
  split at h
  rotate_left
  ·cases h
  rename_i u v hu hv
  split at h
  rotate_left
  ·cases h
  rename_i b hb
  obtain ⟨x,hx,rx⟩:=part_run h1 hu
  obtain ⟨y,hy,ry⟩:=part_run h2 hv
  have he:=hg _ _ _ _ hb x y rx ry
  split at h
  ·cases h
   simp only [Op.eqFields,if_pos hn',Sem.run_bind,hx,hy,he,Result.andThen_ok]
   cases r<;>simp
  ·split at h
   ·rename_i r' hr
    cases h
    have ih:=eqFs_ok hg h1 h2 hr
    rw [Op.eqFields]
    simp only [if_pos hn',Sem.run_bind,hx,hy,he,Result.andThen_ok]
    cases b
    ·simp
    ·simpa using ih
   ·cases h
theorem eqV_ok {p:Pub} {w:World}:∀ {d:Nat} {t:TypeId} {u v:V} {b:Bool},eqV P d t u v=some b→∀ x y,Rep p w x u []→Rep p w y v []→∀ D,d≤D→(Op.equalIn D t x y).run P w=.ok b w
 | 0,t,u,v,b,h,_,_,_,_,_,_=>by simp [eqV] at h
 | d+1,t,u,v,b,h,x,y,hx,hy,D,hD=>by
  obtain ⟨D,rfl⟩:∃ D',D=D'+1:=⟨D - 1,by omega⟩
  rw [eqV] at h
  split at h
  ·rename_i fs hu
   split at h
   ·rename_i cs ds hst
    obtain ⟨xs,rfl,r1⟩:=hx.agg_inv
    obtain ⟨ys,rfl,r2⟩:=hy.agg_inv
    have hf:P.fieldsOf t=fs:=by simp [Program.fieldsOf,hu]
    rw [run_equalIn_struct (P:=P) w D t xs.toArray ys.toArray (by rw [hf];exact hu) hst,hf]
    exact eqFs_ok (fun t u v b hb x y hx hy=>eqV_ok hb x y hx hy D (by omega)) r1 r2 h
   ·cases h
  ·rename_i hu
   obtain ⟨a,c,rfl,rfl,rfl⟩:=eqB_inv h
   have e1:=hx.lit_inv
   have e2:=hy.lit_inv
   subst e1
   subst e2
   simp only [Op.equalIn,Sem.run_bind,run_underlying hu,Result.andThen_ok,if_true,Sem.run_pure]
  ·rename_i ki hu
   obtain ⟨k,a,c,rfl,rfl,rfl⟩:=eqI_inv h
   have e1:=hx.lit_inv
   have e2:=hy.lit_inv
   subst e1
   subst e2
   simp only [Op.equalIn,Sem.run_bind,run_underlying hu,Result.andThen_ok,if_true,Sem.run_pure]
  ·rename_i hu
   obtain ⟨a,c,rfl,rfl,rfl⟩:=eqT_inv h
   have e1:=hx.lit_inv
   have e2:=hy.lit_inv
   subst e1
   subst e2
   simp only [Op.equalIn,Sem.run_bind,run_underlying hu,Result.andThen_ok,if_true,Sem.run_pure]
  ·cases h
def evEqS (P:Program) (N:Nat) (o:Oper) (op:BinOp) (t:TypeId) (x y:Operand) (e:E):Option E :=
 match dstOf N o with
 | none=>none
 | some d=>match P.eqGuardType P.depth t with
  | true=>none
  | false=>match vals [x,y] e with
   | some ([.agg cs,.agg ds],e)=>match eqV P 12 t (.agg cs) (.agg ds),op with
    | some b,.eql=>some (e.put d (.lit (.bool b)))
    | some b,.neq=>some (e.put d (.lit (.bool (!b))))
    | _,_=>none
   | _=>none
theorem eqS_run {o:Oper} {op:BinOp} {t ty:TypeId} {x y:Operand} {cs ds:List V} {b:Bool} {v:Value} (hgd:P.eqGuardType P.depth t=false) (hb:eqV P 12 t (.agg cs) (.agg ds)=some b) (hop:op=.eql∧v=.bool b∨op=.neq∧v=.bool (!b)) (ho:o.op=.binOp op t x y ty) (ρ:Operand→Value) (w:World) (p:Pub) (hr:RepL p w ([x,y].map ρ) [.agg cs,.agg ds] []):(execOp ρ o).run P w=.ok (.value v) w:=by
 simp only [List.map_cons,List.map_nil] at hr
 generalize hT:([]:List Nat)=T at hr
 cases hr with
 | @cons _ _ _ _ A B r1 r2 =>
  have hA:=(List.append_eq_nil_iff.1 hT.symm)
  rw [hA.1] at r1
  rw [hA.2] at r2
  generalize hT2:([]:List Nat)=T2 at r2
  cases r2 with
  | @cons _ _ _ _ A2 B2 r3 r4 =>
   have hA2:=(List.append_eq_nil_iff.1 hT2.symm)
   rw [hA2.1] at r3
   have he:=eqV_ok hb _ _ r1 r3 Op.maxDepth (by decide)
   obtain ⟨xs,ex,_⟩:=r1.agg_inv
   obtain ⟨ys,ey,_⟩:=r3.agg_inv
   rw [ex,ey] at he
   have hgrd:(eqGuard op t x y (.agg xs.toArray) (.agg ys.toArray)).run P w=.ok () w:=by
    unfold eqGuard
    rcases hop with ⟨rfl,_⟩ | ⟨rfl,_⟩<;>simp [Sem.run_bind,run_program,hgd]
   unfold execOp
   simp only [ho,ex,ey,Sem.run_bind,hgrd,Result.andThen_ok]
   rcases hop with ⟨rfl,rfl⟩ | ⟨rfl,rfl⟩<;>simp only [binOp,Op.equal,Sem.run_bind,he,Result.andThen_ok,Sem.run_pure]
theorem evEqS_ok {o:Oper} {op:BinOp} {t ty:TypeId} {x y:Operand} {e e':E} (ho:o.op=.binOp op t x y ty) (h:evEqS P C.N o op t x y e=some e'):OpOk P C o e e':=by
 unfold evEqS at h
 split at h
 ·cases h
 rename_i d hd
 split at h
 ·cases h
 rename_i hgd
 split at h
 rotate_left
 ·cases h
 rename_i cs ds e1 hv
 split at h
 ·rename_i b hb
  cases h
  exact OpOk.of0 hd hv rfl (fun h=>h) fun hA ρ w p hr=>⟨_,eqS_run hgd hb (.inl ⟨rfl,rfl⟩) ho ρ w p hr,.lit _⟩
 ·rename_i b hb
  cases h
  exact OpOk.of0 hd hv rfl (fun h=>h) fun hA ρ w p hr=>⟨_,eqS_run hgd hb (.inr ⟨rfl,rfl⟩) ho ρ w p hr,.lit _⟩
 ·cases h
end
end Go.Rf
end
section
namespace Go.Rf
open Go.RowKit
set_option linter.unusedVariables false
set_option linter.unusedSimpArgs false
variable [Tabs]
section
variable {P:Program} {C:Ctx}
def ownAgg (e:E) (x:Operand):Bool:=match x with
 | .tmp q=>match look e.st.env q with
  | some (.d (.v (.agg us)))=>!(V.agg us).noOwn
  | _=>false
 | _=>false
def evStoreM (P:Program) (o:Oper) (t:TypeId) (s:Nat) (x:Operand) (e:E):Option E :=
 match o.dst with
 | some _=>none
 | none=>match look e.st.env s with
  | some (.d (.ptr id off))=>match x with
   | .tmp q=>match look e.st.env q with
    | some (.d (.v (.agg us)))=>match e.st.box[id]? with
     | some (.cells cs)=>match V.flatOk (.agg us) && Nat.ble (off+us.length) cs.length && sizeIs P t us.length with
      | true=>some { e with st:=e.st.setBox id (some q) (cs.take off++dv us++cs.drop (off+(dv us).length)) }
      | false=>none
     | _=>none
    | _=>none
   | _=>none
  | _=>none
theorem evStoreM_ok {o:Oper} {t:TypeId} {s:Nat} {x:Operand} {e e':E} (ho:o.op=.store t (.tmp s) x) (h:evStoreM P o t s x e=some e'):OpOk P C o e e':=by
 unfold evStoreM at h
 split at h
 ·cases h
 rename_i hd
 split at h
 ·rename_i id off hl
  split at h
  ·rename_i q
   split at h
   ·rename_i us hq
    split at h
    ·rename_i cs hb
     split at h
     ·rename_i hc
      cases h
      simp only [Bool.and_eq_true] at hc
      obtain ⟨⟨c1,c2⟩,c3⟩:=hc
      have c2:=Nat.le_of_ble_eq_true c2
      have c3:=sizeIs_eq c3
      refine OpOk.store (src:=some q) (ds:=dv us) ho hd (fun h=>h) hl hb (by rw [dv_length];exact c2) (by rw [dv_length];exact c3) (fun _ g a w S=>?_) (fun q' e'=>by cases e';exact ⟨_,hq⟩)
      obtain ⟨_,h2,h3⟩:=S.env q _ hq
      have h2:=RepD.inv (show RepD g w (a.eval (.tmp q)) (.v (.agg us)) (g.TE q) from h2)
      obtain ⟨r3,r4⟩:=h2.flat c1
      exact ⟨g,g.TE q,S,r3.dv,r3.one r4,S.nodE q,fun b hb'=>⟨q,rfl,h3 b hb'⟩⟩
     ·cases h
    ·cases h
   ·cases h
  ·cases h
 ·cases h
end
end Go.Rf
end
section
namespace Go.Rf
open Go.RowKit
set_option linter.unusedVariables false
set_option linter.unusedSimpArgs false
variable [Tabs]
section
variable {P:Program} {C:Ctx}
def evBsliceM (P:Program) (N:Nat) (o:Oper) (t:TypeId) (len:Nat) (parts:List (Nat × Operand)) (e:E):Option E :=
 match dstOf N o with
 | none=>none
 | some d=>match parts with
  | [(0,.tmp q)]=>match Nat.beq len 1 with
   | true=>match look e.st.env q with
    | some (.d (.v (.agg us)))=>match P.underlying t with
     | some (.slice el)=>match sizeT P el with
      | some sz=>match zeroV P el with
       | some _=>match V.flatOk (.agg us) && Nat.beq us.length sz && Nat.ble 1 sz && Nat.ble sz 16777216 with
        | true=>some { e with st:=(e.st.wipe (.t q)).put d (.d (.v (.row (some el) sz [.agg us]))) }
        | false=>none
       | none=>none
      | none=>none
     | _=>none
    | _=>none
   | false=>none
  | _=>none
theorem bslice1_run {o:Oper} {t el:TypeId} {sz:Nat} {zs:List V} {x:Operand} {parts:Array (Nat × Operand)} (ho:o.op=.buildSlice t 1 parts) (hp:parts.toList=[(0,x)]) (hu:P.underlying t=some (.slice el)) (hs:sizeT P el=some sz) (hz:zeroV P el=some zs)
 (h1:1≤sz) (h2:sz≤16777216) (ρ:Operand→Value) (w:World) (hc:(ρ x).cells.size=sz):(execOp ρ o).run P w=.ok (.value (.slice (some ⟨w.heap.size,0,none⟩) 1 1)) (w.alloc (.cells (ρ x).cells el)):=by
 obtain ⟨it,zv,hit,hzv,_,hzr⟩:=zeroV_ok hz
 unfold sizeT at hs
 rw [hit] at hs
 have hs:it.size=sz:=Option.some.inj hs
 let xs:Array Value:=(Array.range (1*sz)).map (zv.cells[· % zv.cells.size]!)
 have hxs:xs.size=1*sz:=by simp [xs]
 obtain ⟨ys,g1,g2⟩:=fill_all (size:=sz) [ρ x] 0 xs (by simp [hc]) (by rw [hxs];simp)
 have hys:ys=(ρ x).cells:=by
  apply Array.ext'
  rw [g2]
  simp only [Nat.zero_mul,List.take_zero,List.nil_append,Nat.zero_add,List.length_singleton,List.flatMap_singleton]
  rw [List.drop_of_length_le (by rw [Array.length_toList,hxs];exact Nat.le_refl _),List.append_nil]
 have hb:(Instr.buildSlice t 1 (parts.map fun (i,x)=>(i,ρ x))).run P w=.ok (.slice (some ⟨w.heap.size,0,none⟩) 1 1) (w.alloc (.cells (ρ x).cells el)):=by
  have e4:(parts.map fun (i,x)=>(i,ρ x)).toList=(List.range' 0 [ρ x].length).zip [ρ x]:=by
   rw [Array.toList_map,hp];rfl
  simp only [xs] at g1
  simp only [Instr.buildSlice,Sem.run_bind,run_underlying hu,Result.andThen_ok,sizeOf,typeInfo,run_program,hit,Sem.run_pure,hs]
  rw [if_neg (by omega),if_neg (by omega)]
  simp only [Sem.run_bind,zeroValue,typeInfo,run_program,hit,hzv,Sem.run_pure,Result.andThen_ok,e4,g1,newRow,run_newObj,World.alloc_eq]
  rw [hys]
 unfold execOp
 simp only [ho,Sem.run_bind,hb,Result.andThen_ok,Sem.run_pure]
theorem evBsliceM_ok {o:Oper} {t:TypeId} {len:Nat} {parts:Array (Nat × Operand)} {e e':E} (ho:o.op=.buildSlice t len parts) (h:evBsliceM P C.N o t len parts.toList e=some e'):OpOk P C o e e':=by
 unfold evBsliceM at h
 split at h
 ·cases h
 rename_i d hd
 obtain ⟨hdd,hdN⟩:=dstOf_eq hd
 split at h
 ·rename_i q hpl
  split at h
  ·rename_i hlen
   have hlen:=Nat.eq_of_beq_eq_true hlen
   subst hlen
   split at h
   ·rename_i us hq
    split at h
    ·rename_i el hu
     split at h
     ·rename_i sz hs
      split at h
      ·rename_i zs hz
       split at h
       ·rename_i hc
        cases h
        simp only [Bool.and_eq_true] at hc
        obtain ⟨⟨⟨c1,c2⟩,c3⟩,c4⟩:=hc
        have c2:=Nat.eq_of_beq_eq_true c2
        have c3:=Nat.le_of_ble_eq_true c3
        have c4:=Nat.le_of_ble_eq_true c4
        refine fun hA=>⟨hA,fun g a w S next Q hn=>?_⟩
        obtain ⟨v,T,T',hpv,hR,hTn,hTo,hTo',kw,S2⟩:=S.take (r:=.t q) (u:=.agg us) (by simp only [rootVal,hq])
        have hx:a.eval (.tmp q)=v:=by
         show a.tmps.getD q undef=v
         rw [Array.getD_eq_getD_getElem?,show a.tmps[q]? = some v from hpv];rfl
        obtain ⟨hf1,hf2⟩:=hR.flat c1
        have hf1:RepL g.pub w v.cells.toList us T:=hf1
        have hcs:(a.eval (.tmp q)).cells.size=sz:=by rw [hx,← Array.length_toList,hf1.length,c2]
        refine wp_of_run (bslice1_run ho hpl hu hs hz c3 c4 a.eval w hcs) ?_
        rw [hdd]
        have hgr:=World.grownBy_alloc w (.cells (a.eval (.tmp q)).cells el) none
        have cm:=Calm.of hgr
        have hfree:∀ b∈T,(g.wipe (Root.t q).holder T').own b=none∧¬ g.pub b∧(C.W.heap.size≤b∨C.Fz b)∧b < w.heap.size:=by
         intro b hb'
         obtain ⟨o1,o2⟩:=hTo b hb'
         have:=S.own b _ o1
         refine ⟨?_,this.2.2,this.1,this.2.1⟩
         simp only [G.wipe]
         rw [if_pos ⟨o1,o2⟩]
        have hnew:(g.wipe (Root.t q).holder T').own w.heap.size=none:=by
         simp only [G.wipe]
         split
         ·rfl
         ·cases ho':g.own w.heap.size with
          | none=>rfl
          | some h'=>have:=(S.own _ _ ho').2.1;omega
        have how:=World.ownsRow_lit (base:=0) (e:=el) (size:=sz) w (a.eval (.tmp q)).cells 1 (Nat.zero_le _) (by decide) (by rw [hcs,Nat.one_mul])
        have hall:RepL g.pub (w.alloc (.cells (a.eval (.tmp q)).cells el)) (a.eval (.tmp q)).cells.toList ([V.agg us].flatMap V.cells) T:=by
         rw [List.flatMap_singleton,hx]
         exact hf1.keep ⟨fun _ h=>h,fun b hb=>by rw [← hx];exact cm.same b (S.publt b hb)⟩ (fun b hb=>by rw [← hx];exact cm.same b (hfree b hb).2.2.2)
        have hRep:=Rep.own (p:=g.pub) (w:=w.alloc (.cells (a.eval (.tmp q)).cells el)) (es:=[V.agg us]) (A:=T) (v:=.slice (some ⟨w.heap.size,0,none⟩) 1 1) (by simp [V.cells,c2]) hall (fun u hu=>by rw [hx] at hu;exact hf1.one hf2 u hu) how
        refine hn ((g.wipe (Root.t q).holder T').put d (w.heap.size :: T) fun _=>False) _ _ ?_ (fun _=>cm)
        refine S2.putF (row:=none) hgr (by simp) hdN ?_ ?_ (show Rep g.pub _ _ _ (w.heap.size :: T) from hRep)
        ·refine List.nodup_cons.2 ⟨fun hb=>?_,hTn⟩
         have:=(hfree _ hb).2.2.2;omega
        ·intro b hb
         rcases List.mem_cons.1 hb with rfl | hb
         ·exact ⟨hnew,fun hp'=>by have:=S.publt _ hp';omega,.inl S.size,by simp⟩
         ·have:=hfree b hb
          exact ⟨this.1,this.2.1,this.2.2.1,Nat.lt_of_lt_of_le this.2.2.2 cm.size⟩
       ·cases h
      ·cases h
     ·cases h
    ·cases h
   ·cases h
  ·cases h
 ·cases h
def evAppendM (P:Program) (N:Nat) (o:Oper) (ts:Array TypeId) (s x:Operand) (e:E):Option E :=
 match dstOf N o with
 | none=>none
 | some d=>match ts.toList with
  | [t,tx]=>match P.underlying t with
   | some (.slice el)=>match P.info? el with
    | some i=>match i.zero with
     | some z=>match Nat.beq z.cells.size i.size && Nat.ble 1 i.bytes && Nat.ble (140737488355328 / i.bytes) maxLen with
      | true=>match x with
       | .tmp q=>match look e.st.env q with
        | some (.d (.v (.row (some _) s2 es2)))=>match P.underlying tx with
         | some (.slice _)=>match Nat.beq s2 i.size && Nat.ble 1 s2 with
          | true=>match hint e with
           | some (.kb true,e1)=>match appS (e1.st.wipe (.t q)) el i.size s with
            | some (r,es)=>match hint e1 with
             | some (.row (some e') s' es',e2)=>match Nat.beq e' el && Nat.beq s' i.size with
              | true=>some ({ (need (es.length+es2.length≤140737488355328 / i.bytes) (need (FitL (es++es2) es') e2)) with st:=(wipeO (e2.st.wipe (.t q)) r).put d (.d (.v (.row (some el) i.size es'))) })
              | false=>none
             | _=>none
            | none=>none
           | _=>none
          | false=>none
         | _=>none
        | _=>none
       | _=>none
      | false=>none
     | none=>none
    | none=>none
   | _=>none
  | _=>none
theorem evAppendM_ok {o:Oper} {c:Call} {s x:Operand} {e e':E} (ho:o.op=.call c) (hc:c.callee=.builtin .append) (ha:c.args = #[s,x]) (h:evAppendM P C.N o c.argTypes s x e=some e'):OpOk P C o e e':=by
 unfold evAppendM at h
 split at h
 ·cases h
 rename_i d hd
 obtain ⟨hdd,hdN⟩:=dstOf_eq hd
 split at h
 rotate_left
 ·cases h
 rename_i t tx hts
 have hts:c.argTypes = #[t,tx]:=by rw [← Array.toArray_toList (xs:=c.argTypes),hts]
 split at h
 rotate_left
 ·cases h
 rename_i el hu
 split at h
 rotate_left
 ·cases h
 rename_i i hi
 split at h
 rotate_left
 ·cases h
 rename_i z hz
 split at h
 rotate_left
 ·cases h
 rename_i hck
 simp only [Bool.and_eq_true] at hck
 obtain ⟨⟨k1,k2⟩,k3⟩:=hck
 have k1:=Nat.eq_of_beq_eq_true k1
 have k2:=Nat.le_of_ble_eq_true k2
 have k3:=Nat.le_of_ble_eq_true k3
 split at h
 rotate_left
 ·cases h
 rename_i q
 split at h
 rotate_left
 ·cases h
 rename_i et2 s2 es2 hq
 split at h
 rotate_left
 ·cases h
 rename_i ex hux
 split at h
 rotate_left
 ·cases h
 rename_i hck3
 rw [Bool.and_eq_true] at hck3
 have k4:=Nat.eq_of_beq_eq_true hck3.1
 subst k4
 split at h
 rotate_left
 ·cases h
 rename_i e1 hh1
 obtain ⟨p1,p2⟩:=hint_eq hh1
 split at h
 rotate_left
 ·cases h
 rename_i r es hs
 split at h
 rotate_left
 ·cases h
 rename_i e'' s' es' e2 hh
 split at h
 rotate_left
 ·cases h
 rename_i hck2
 rw [Bool.and_eq_true] at hck2
 have c1:=Nat.eq_of_beq_eq_true hck2.1
 have c2:=Nat.eq_of_beq_eq_true hck2.2
 subst c1
 subst c2
 cases h
 obtain ⟨q1,q2⟩:=hint_eq hh
 intro hA
 obtain ⟨hA,hsz⟩:=All.snoc (l:=e2.ob++_) hA
 obtain ⟨hA,hfit⟩:=All.snoc (l:=e2.ob) hA
 have hA0:All e.ob:=by rw [← p1,← q1];exact hA
 refine ⟨hA0,fun g a w S next Q hn=>?_⟩
 have hst2:e2.st=e.st:=q2.trans p2
 rw [p2] at hs
 obtain ⟨y,T2,T2',hpy,hR2,hTn2,hTo2,hTo2',kw2,S1⟩:=S.take (r:=.t q) (u:=.row (some et2) i.size es2) (by simp only [rootVal,hq])
 have hy:a.eval (.tmp q)=y:=by
  show a.tmps.getD q undef=y
  rw [Array.getD_eq_getD_getElem?,show a.tmps[q]? = some y from hpy];rfl
 obtain ⟨news,A2,hT2,hsize2,hnews,hone2,how2⟩:=own_inv hR2
 have hsrc:Src P tx i.size es2.length news (a.eval (.tmp q)) w:=by
  rw [hy]
  have how2':=how2
  rcases how2.2 with ⟨hv,hn0⟩ | ⟨b,cap,cur,hv,_,hg,_⟩
  ·rw [hv,hn0]
   have:news=[]:=List.eq_nil_of_length_eq_zero (by rw [how2.1,hn0];simp)
   subst this
   exact Src.slice hux (by simp) (by simp) (by simp) (fun _=>rfl)
  ·rw [hv] at how2' ⊢
   exact Src.slice hux how2'.1 hone2 (fun j v hj=>⟨_,rfl,how2'.cells (g:=b) rfl j v hj⟩) (by simp)
 have hfree2:∀ b∈T2,(g.wipe (Root.t q).holder T2').own b=none∧¬ g.pub b∧(C.W.heap.size≤b∨C.Fz b)∧b < w.heap.size:=by
  intro b hb'
  obtain ⟨o1,o2⟩:=hTo2 b hb'
  have:=S.own b _ o1
  refine ⟨?_,this.2.2,this.1,this.2.1⟩
  simp only [G.wipe]
  rw [if_pos ⟨o1,o2⟩]
 have hA2T:∀ b∈A2,b∈T2:=fun b hb=>by rw [hT2];simp [hb]
 have hnd2:A2.Nodup:=by rw [hT2] at hTn2;exact (List.nodup_append.1 hTn2).2.1
 generalize hg1:g.wipe (Root.t q).holder T2'=g1 at *
 have hp1:g1.pub=g.pub:=by rw [← hg1];rfl
 have hnews:RepL g1.pub w news (es2.flatMap V.cells) A2:=by rw [hp1];exact hnews
 have hfree2:∀ b∈A2,g1.own b=none∧¬ g1.pub b∧(C.W.heap.size≤b∨C.Fz b)∧b < w.heap.size:=fun b hb=>by rw [hp1];exact hfree2 b (hA2T b hb)
 have hb:(es.length+es2.length)*i.bytes≤140737488355328:=Nat.le_trans (Nat.mul_le_mul_right _ hsz) (Nat.div_mul_le_self _ _)
 have hm:es.length+es2.length≤maxLen:=Nat.le_trans hsz k3
 have exec:∀ v',∀ w',(Builtin.append_ c.argTypes o.type #[a.eval s,a.eval (.tmp q)]).run P w=.ok v' w'→(execOp a.eval o).run P w=.ok (.value v') w':=by
  intro v' w' hr
  unfold execOp
  simp only [ho,resolve,hc,ha,Sem.run_bind,Sem.run_pure,Result.andThen_ok,invoke,builtin,List.map_toArray,List.map_cons,List.map_nil,hr]
 rcases appS_ok S1 hs with ⟨rfl,rfl,hv⟩ | ⟨qq,rfl,hp⟩
 ·
  obtain ⟨v',w',hr,how,hgr,hblk⟩:=append_run (P:=P) w t tx o.type e'' i z i.size i.bytes hu hi hz rfl rfl k1 (.slice none 0 0) 0 [] (World.ownsRow_nil w 0 e'' i.size) (a.eval (.tmp q)) es2.length news hsrc (by simpa using hm) (by simpa using hb)
  refine wp_of_run (exec v' w' (by rw [hts,hv];exact hr)) ?_
  rw [hdd]
  simp only [Nat.zero_add,List.nil_append] at how
  have hfit':FitL es2 es':=by simpa using hfit
  have hRep:Rep g1.pub w' v' (.row (some e'') i.size es') (v'.ownBlock.toList++A2):=by
   refine Rep.own (hfit'.sizes hsize2) ((hnews.keep ⟨fun _ h=>h,fun b hb=>hgr.block b (S1.publt b hb) (by simp [Value.ownBlock])⟩ (fun b hb=>hgr.block b (hfree2 b hb).2.2.2 (by simp [Value.ownBlock]))).fit hfit'.flat) hsrc.one ?_
   rw [← hfit'.length];exact how
  refine hn (g1.put d (v'.ownBlock.toList++A2) fun _=>False) _ _ ?_ (fun h=>by rw [ho] at h;simp [calmK,hc] at h)
  show SRep C _ ((e2.st.wipe (.t q)).put d _) _ _
  rw [hst2]
  have hbn:∀ b,v'.ownBlock=some b→b=w.heap.size:=fun b hb'=>by
   rcases (hblk b hb').1 with h1 | h1
   ·simp [Value.ownBlock] at h1
   ·exact h1
  refine S1.putF (row:=none) hgr (by simp) hdN ?_ ?_ hRep
  ·refine List.nodup_append.2 ⟨by cases v'.ownBlock<;>simp,hnd2,fun b hb1 c hc1 e=>?_⟩
   subst e
   have:=hbn b (by simpa using hb1)
   have:=(hfree2 b hc1).2.2.2
   omega
  ·intro b hb'
   rcases List.mem_append.1 hb' with hb' | hb'
   ·have hb':v'.ownBlock=some b:=by simpa using hb'
    have hbw:=hbn b hb'
    have h2:=(hblk b hb').2
    subst hbw
    refine ⟨?_,?_,.inl S1.size,h2⟩
    ·cases ho':g1.own w.heap.size with
     | none=>rfl
     | some h'=>have:=(S1.own _ _ ho').2.1;omega
    ·intro hp';have:=S1.publt _ hp';omega
   ·have:=hfree2 b hb'
    exact ⟨this.1,this.2.1,this.2.2.1,Nat.lt_of_lt_of_le this.2.2.2 hgr.size⟩
 ·
  obtain ⟨v,T,T',hpv,hR,hTn,hTo,hTo',kw,S2⟩:=S1.take (peek_root hp)
  obtain ⟨_,hpv',_⟩:=peek_ok S1 hp
  have hv:v=a.eval s:=by rw [hpv] at hpv';exact Option.some.inj hpv'
  subst hv
  obtain ⟨xs,A,hT,h1,h2,h3,how0⟩:=own_inv hR
  obtain ⟨v',w',hr,how,hgr,hblk⟩:=append_run (P:=P) w t tx o.type e'' i z i.size i.bytes hu hi hz rfl rfl k1 (a.eval s) es.length xs how0 (a.eval (.tmp q)) es2.length news hsrc hm hb
  refine wp_of_run (exec v' w' (by rw [hts];exact hr)) ?_
  rw [hdd]
  have hpubw:∀ b,g1.pub b→w'.heap[b]? = w.heap[b]?:=fun b hb'=>hgr.block b (S1.publt b hb') (fun e=>by
   have hbT:b∈T:=by rw [hT,← e];simp
   exact (S1.own b _ (hTo b hbT).1).2.2 hb')
  have hAw:∀ b∈A,w'.heap[b]? = w.heap[b]?:=fun b hb'=>by
   have hbT:b∈T:=by rw [hT];simp [hb']
   refine hgr.block b (S1.own b _ (hTo b hbT).1).2.1 (fun e=>?_)
   rw [hT] at hTn
   exact (List.nodup_append.1 hTn).2.2 b (by rw [← e];simp) b hb' rfl
  have hd2:∀ b∈A2,b∉T:=fun b hb1 hb2=>by
   have:=(hTo b hb2).1
   rw [(hfree2 b hb1).1] at this
   cases this
  have hA2w:∀ b∈A2,w'.heap[b]? = w.heap[b]?:=fun b hb'=>hgr.block b (hfree2 b hb').2.2.2 (fun e=>hd2 b hb' (by rw [hT,← e];simp))
  have hfl:(es++es2).flatMap V.cells=es.flatMap V.cells++es2.flatMap V.cells:=by simp
  have hall:RepL g1.pub w' (xs++news) (es'.flatMap V.cells) (A++A2):=by
   refine RepL.fit (ds:=(es++es2).flatMap V.cells) ?_ hfit.flat
   rw [hfl]
   exact (h2.keep ⟨fun _ h=>h,hpubw⟩ hAw).app (hnews.keep ⟨fun _ h=>h,hpubw⟩ hA2w)
  have hRep:Rep g1.pub w' v' (.row (some e'') i.size es') (v'.ownBlock.toList++(A++A2)):=by
   refine Rep.own (hfit.sizes (fun e he=>?_)) hall (fun u hu'=>?_) ?_
   ·rcases List.mem_append.1 he with he | he
    ·exact h1 e he
    ·exact hsize2 e he
   ·rcases List.mem_append.1 hu' with hu' | hu'
    ·exact h3 u hu'
    ·exact hsrc.one u hu'
   ·rw [← hfit.length,List.length_append];exact how
  refine hn ((g1.wipe qq.holder T').put d (v'.ownBlock.toList++(A++A2)) fun _=>False) _ _ ?_ (fun h=>by rw [ho] at h;simp [calmK,hc] at h)
  show SRep C _ (((e2.st.wipe (.t q)).wipe qq).put d _) _ _
  rw [hst2]
  have hfree:∀ b∈T,(g1.wipe qq.holder T').own b=none∧¬ g1.pub b∧(C.W.heap.size≤b∨C.Fz b)∧b < w.heap.size:=by
   intro b hb'
   obtain ⟨o1,o2⟩:=hTo b hb'
   have:=S1.own b _ o1
   refine ⟨?_,this.2.2,this.1,this.2.1⟩
   simp only [G.wipe]
   rw [if_pos ⟨o1,o2⟩]
  have hfreeA2:∀ b∈A2,(g1.wipe qq.holder T').own b=none:=fun b hb'=>by
   simp only [G.wipe]
   split
   ·rfl
   ·exact (hfree2 b hb').1
  have hnew:(g1.wipe qq.holder T').own w.heap.size=none:=by
   simp only [G.wipe]
   split
   ·rfl
   ·cases ho':g1.own w.heap.size with
    | none=>rfl
    | some h'=>have:=(S1.own _ _ ho').2.1;omega
  have hTA:T=(a.eval s).ownBlock.toList++A:=hT
  have hndT:=hTn
  rw [hTA] at hndT
  refine S2.putF (row:=(a.eval s).ownBlock) hgr (fun b hb'=>?_) hdN ?_ ?_ hRep
  ·have:=hfree b (by rw [hT,hb'];simp)
   exact ⟨this.1,this.2.1,this.2.2.1⟩
  ·refine List.nodup_append.2 ⟨by cases v'.ownBlock<;>simp,List.nodup_append.2 ⟨(List.nodup_append.1 hndT).2.1,hnd2,fun b hb1 c hc1 e=>?_⟩,fun b hb1 c hc1 e=>?_⟩
   ·subst e
    exact hd2 b hc1 (by rw [hTA];simp [hb1])
   ·subst e
    have hb1:v'.ownBlock=some b:=by simpa using hb1
    rcases (hblk b hb1).1 with h5 | h5
    ·rcases List.mem_append.1 hc1 with hc1 | hc1
     ·exact (List.nodup_append.1 hndT).2.2 b (by rw [h5];simp) b hc1 rfl
     ·exact hd2 b hc1 (by rw [hTA,h5];simp)
    ·rcases List.mem_append.1 hc1 with hc1 | hc1
     ·have:=(hfree b (by rw [hTA];simp [hc1])).2.2.2;omega
     ·have:=(hfree2 b hc1).2.2.2;omega
  ·intro b hb'
   rcases List.mem_append.1 hb' with hb' | hb'
   ·have hb':v'.ownBlock=some b:=by simpa using hb'
    obtain ⟨h5,h6⟩:=hblk b hb'
    rcases h5 with h5 | h5
    ·have:=hfree b (by rw [hTA,h5];simp)
     exact ⟨this.1,this.2.1,this.2.2.1,h6⟩
    ·subst h5
     exact ⟨hnew,fun hp'=>by have:=S1.publt _ hp';omega,.inl S1.size,h6⟩
   ·rcases List.mem_append.1 hb' with hb' | hb'
    ·have:=hfree b (by rw [hTA];simp [hb'])
     exact ⟨this.1,this.2.1,this.2.2.1,Nat.lt_of_lt_of_le this.2.2.2 hgr.size⟩
    ·have:=hfree2 b hb'
     exact ⟨hfreeA2 b hb',this.2.1,this.2.2.1,Nat.lt_of_lt_of_le this.2.2.2 hgr.size⟩
end
end Go.Rf
end
section
namespace Go.Rf
open Go.RowKit
set_option linter.unusedVariables false
set_option linter.unusedSimpArgs false
variable [Tabs]
section
variable {P:Program} {C:Ctx}
def evNil (N:Nat) (o:Oper) (x:Operand) (e:E):Option E :=
 match dstOf N o with
 | none=>none
 | some d=>match x with
  | .tmp t=>match look e.st.env t with
   | some (.d (.v (.pt cs)))=>some (e.put d (.pt cs))
   | some (.d (.ptr i f))=>some { e with st:=e.st.put d (.d (.ptr i f)) }
   | some (.pa r sz i j)=>match (X.pa r sz i j).kill (isT d) with
    | .pa _ _ _ _=>some { e with st:=e.st.put d (.pa r sz i j) }
    | _=>none
   | _=>none
  | _=>none
theorem evNil_ok {o:Oper} {x:Operand} {e e':E} (ho:o.op=.nilCheck x) (h:evNil C.N o x e=some e'):OpOk P C o e e':=by
 unfold evNil at h
 split at h
 ·cases h
 rename_i d hd
 obtain ⟨hdd,hdN⟩:=dstOf_eq hd
 split at h
 ·rename_i t
  have run:∀ {a:Act} {w:World} {q:Addr},a.eval (.tmp t)=.pointer (some q)→(execOp a.eval o).run P w=.ok (.value (.pointer (some q))) w:=by
   intro a w q hx
   unfold execOp
   simp only [ho,hx,Sem.run_pure]
  split at h
  ·rename_i cs hl
   cases h
   refine OpOk.vv hd id fun _ g a w S=>?_
   obtain ⟨_,h2,_⟩:=S.env t _ hl
   have h2:=RepD.inv h2
   have h3:=h2.noOwn rfl
   rw [h3] at h2
   refine ⟨a.tmps.getD t undef,g,S,?_,h2⟩
   generalize hv:a.tmps.getD t undef=v at h2
   cases h2
   exact run hv
  ·rename_i i f hl
   cases h
   refine fun hA=>⟨hA,fun g a w S next Q hn=>?_⟩
   obtain ⟨_,h2,_⟩:=S.env t _ hl
   have h2:RepD g w (a.tmps.getD t undef) (.ptr i f) (g.TE t):=h2
   have h3:=h2.noOwn rfl
   rw [h3] at h2
   have h2':=h2
   generalize hv:a.tmps.getD t undef=v at h2
   cases h2 with
   | ptr hid =>
    refine wp_of_run (run hv) ?_
    rw [hdd]
    rw [hv] at h2'
    exact hn _ _ _ (S.put0 (Calm.refl w) hdN h2') (fun _=>Calm.refl w)
  ·rename_i r sz i j hl
   split at h
   ·rename_i hk
    cases h
    have hk:(X.pa r sz i j).kill (isT d)=.pa r sz i j:=by
     rcases X.kill_cases (isT d) (X.pa r sz i j) with h | h
     ·rw [h] at hk;cases hk
     ·exact h.1
    refine fun hA=>⟨hA,fun g a w S next Q hn=>?_⟩
    obtain ⟨h1,⟨_,h2⟩,h3⟩:=S.env t _ hl
    obtain ⟨b,_,_,h5⟩:=h2
    refine wp_of_run (run h5) ?_
    rw [hdd,← h5]
    exact hn _ _ _ (S.putA hdN hk (by simp) ⟨rfl,⟨b,by assumption,by assumption,h5⟩⟩ (by simp)) (fun _=>Calm.refl w)
   ·cases h
  ·cases h
 ·cases h
def evLen0 (P:Program) (N:Nat) (o:Oper) (ts:Array TypeId) (x:Operand) (e:E):Option E :=
 match dstOf N o with
 | none=>none
 | some d=>match peek e.st x with
  | some (_,.nil _ _)=>match ts[0]? with
   | some t=>match P.underlying t with
    | some (.slice _)=>some (e.put d (.lit (.int .i64 0)))
    | _=>none
   | none=>none
  | _=>none
theorem evLen0_ok {o:Oper} {c:Call} {x:Operand} {e e':E} (ho:o.op=.call c) (hc:c.callee=.builtin .len) (ha:c.args = #[x]) (h:evLen0 P C.N o c.argTypes x e=some e'):OpOk P C o e e':=by
 unfold evLen0 at h
 split at h
 ·cases h
 rename_i d hd
 split at h
 ·rename_i r el sz hp
  split at h
  ·rename_i t ht
   split at h
   ·rename_i el' hu
    cases h
    refine OpOk.vv hd id fun _ g a w S=>⟨.int .i64 0,g,S,?_,.lit _⟩
    obtain ⟨T,_,hr,_⟩:=peek_ok S hp
    have hv:a.eval x=.slice none 0 0:=by generalize a.eval x=v at hr;cases hr;rfl
    unfold execOp
    simp only [ho,resolve,hc,ha,Sem.run_bind,Sem.run_pure,Result.andThen_ok,invoke,builtin,List.map_toArray,List.map_cons,List.map_nil,hv,Builtin.len_,ht,List.getElem?_toArray,List.getElem?_cons_zero,run_underlying hu,goInt]
    rfl
   ·cases h
  ·cases h
 ·cases h
def pickO (v:Bool) (a b:Operand):Operand:=match v with
 | true=>a
 | false=>b
def evPick (N:Nat) (o:Oper) (c a b:Operand) (e:E):Option E :=
 match c with
 | .tmp t=>match look e.st.env t with
  | some (.d (.v (.kb v)))=>match dstOf N o with
   | some d=>match val (pickO v a b) e with
    | some (u,e)=>some (e.put d u)
    | none=>none
   | none=>none
  | _=>evLit N o [c,a,b] pickR e
 | _=>evLit N o [c,a,b] pickR e
theorem evPick_ok {o:Oper} {c x y:Operand} {e e':E} (ho:o.op=.pick c x y) (h:evPick C.N o c x y e=some e'):OpOk P C o e e':=by
 have lit:∀ {c},o.op=.pick c x y→evLit C.N o [c,x,y] pickR e=some e'→OpOk P C o e e':=fun ho h=>evLit_ok h fun vs v obs hf hA ρ w hρ=>pickR_ok ho hf ρ w hρ
 unfold evPick at h
 split at h
 ·rename_i t
  split at h
  ·rename_i v hl
   split at h
   ·rename_i d hd
    split at h
    ·rename_i u e1 hv
     cases h
     intro hA
     obtain ⟨hdd,hdN⟩:=dstOf_eq hd
     obtain ⟨h0,k⟩:=val_ok (C:=C) hv hA
     refine ⟨h0,fun g a w S next Q hn=>?_⟩
     obtain ⟨g1,k1,S1,r1⟩:=k g a w S
     have hc:a.eval (.tmp t)=.bool v:=RepD.kb (S.env t _ hl).2.1
     refine wp_of_run (v:=a.eval (pickO v x y)) (w':=w) ?_ ?_
     ·unfold execOp
      simp only [ho,hc,asBool,Sem.run_bind,Sem.run_pure,Result.andThen_ok]
      cases v<;>rfl
     ·rw [hdd]
      exact hn _ _ _ (S1.put0 (Calm.refl w) hdN (.v r1)) (fun _=>Calm.refl w)
    ·cases h
   ·cases h
  ·exact lit ho h
 ·exact lit ho h
def isElt (e:E) (s:Operand):Bool:=match s with
 | .tmp q=>match look e.st.env q with
  | some (.al (.elt _ _ _ _))=>true
  | _=>false
 | _=>false
def evCallC (P:Program) (N:Nat) (o:Oper) (c:Call) (e:E):Option E:=match c.callee with
 | .builtin .len=>match c.args.toList with
  | [x]=>match peek e.st x with
   | some (_,.row _ _ _)=>evLen P N o c.argTypes x e
   | some (_,.nil _ _)=>evLen0 P N o c.argTypes x e
   | _=>evLit N o c.args.toList (bltR P .len c.argTypes o.type) e
  | _=>none
 | .builtin .append=>match c.args.toList with
  | [s,x]=>match isElt e s with
   | true=>evAppendE P N o c.argTypes s x e
   | false=>match evAppend P N o c.argTypes s x e with
    | some e'=>some e'
    | none=>evAppendM P N o c.argTypes s x e
  | _=>none
 | .builtin b=>evLit N o c.args.toList (bltR P b c.argTypes o.type) e
 | .value f=>match lends e c.args.toList with
  | true=>match calmK P o.op with
   | false=>evCallX N P o f c.args.toList e
   | true=>none
  | false=>evCall N P o f c.args.toList e
 | _=>none
def evMakeFunc (N:Nat) (o:Oper) (fn:Fn) (first captured:List Operand) (e:E):Option E :=
 match dstOf N o with
 | none=>none
 | some d=>match fn,first with
  | .func f,[]=>match vals captured e with
   | some (us,e)=>some (e.put d (.clo f us))
   | none=>none
  | _,_=>none
theorem evMakeFunc_ok {o:Oper} {fn:Fn} {first captured:Array Operand} {e e':E} (ho:o.op=.makeFunc fn first captured) (h:evMakeFunc C.N o fn first.toList captured.toList e=some e'):OpOk P C o e e':=by
 unfold evMakeFunc at h
 split at h
 ·cases h
 rename_i d hd
 split at h
 ·rename_i f hf
  split at h
  ·rename_i us e1 hv
   cases h
   refine OpOk.of0 hd hv rfl (fun h=>h) fun hA ρ w p hr=>?_
   refine ⟨.func (.func f) #[] (captured.map ρ),?_,?_⟩
   ·have h0:first = #[]:=by rw [← Array.toArray_toList (xs:=first),hf]
    unfold execOp
    simp only [ho,h0,Instr.makeFunc,Sem.run_bind,Sem.run_pure,Result.andThen_ok,Array.map_empty,List.map_toArray,List.map_nil]
   ·have:captured.map ρ=(captured.toList.map ρ).toArray:=by apply Array.ext';rw [Array.toList_map]
    rw [this]
    exact .clo hr
  ·cases h
 ·cases h
def ev1 (P:Program) (N:Nat) (o:Oper) (e:E):Option E:=match o.op with
 | .move x=>evMove P N o false x e
 | .assign x=>evMove P N o true x e
 | .binOp op t x y _=>match P.underlying t with
  | some (.struct _)=>evEqS P N o op t x y e
  | _=>evLit N o [x,y] (binR P op t x y) e
 | .unOp op _ x=>evLit N o [x] (unR P op) e
 | .pick c a b=>evPick N o c a b e
 | .convert s t x=>match P.underlying s,P.underlying t with
  | some (.slice _),some .string=>evStr P N o s t x e
  | some .string,some (.slice _)=>evBytes P N o s t x e
  | _,_=>evLit N o [x] (convR P s t) e
 | .index t x i=>evLit N o [x,i] (ixR P t) e
 | .slice t x lo hi none=>match P.underlying t with
  | some .string=>evLit N o (x :: (lo.toList++hi.toList)) (slR P t lo.isSome hi.isSome) e
  | _=>evCut P N o t x lo hi e
 | .indexAddr t x i=>match P.underlying t with
  | some (.array _ _)=>evIaddrA P N o t x i e
  | _=>evIaddr P N o t x i e
 | .fieldAddr s x f=>evFaddr P N o s x f e
 | .load t x=>match x with
  | .tmp s=>match look e.st.env s with
   | some (.d (.ptr _ _))=>match evLoadB P N o t s e with
    | some e'=>some e'
    | none=>evLoadM P N o t s e
   | _=>evLoad P N o t x e
  | _=>none
 | .store t x y=>match x with
  | .tmp s=>match look e.st.env s with
   | some (.pa _ _ _ _)=>evStoreP P o t s y e
   | _=>match ownAgg e y with
    | true=>evStoreM P o t s y e
    | false=>evStoreB P o t s y e
  | _=>none
 | .box t x=>evBox P N o t x e
 | .alloc t=>evAlloc P N o t e
 | .field t x f=>evField P N o t x f e
 | .extract x i=>match isOwnT e x i with
  | true=>evExtractO N o x i e
  | false=>evExtract N o x i e
 | .build t parts=>evBuild P N o t parts.toList e
 | .buildSlice t len parts=>match hint e with
  | some (.tup [],e1)=>evBsliceM P N o t len parts.toList e1
  | _=>evBslice P N o t len parts.toList e
 | .makeSlice t l c=>evMslice P N o t l c e
 | .call c=>evCallC P N o c e
 | .nilCheck x=>evNil N o x e
 | .makeFunc fn first captured=>evMakeFunc N o fn first.toList captured.toList e
 | .range t x=>evRange P N o t x e
 | .next x s=>evNext N o x s e
 | _=>none
theorem arr1 {α:Type} {a:Array α} {x:α} (h:a.toList=[x]):a = #[x]:=by rw [← Array.toArray_toList (xs:=a),h]
theorem arr2 {α:Type} {a:Array α} {x y:α} (h:a.toList=[x,y]):a = #[x,y]:=by rw [← Array.toArray_toList (xs:=a),h]
theorem evCallC_ok {o:Oper} {c:Call} {e e':E} (ho:o.op=.call c) (h:evCallC P C.N o c e=some e'):OpOk P C o e e':=by
 unfold evCallC at h
 split at h
 ·rename_i hc
  split at h
  ·rename_i x hx
   split at h
   ·exact evLen_ok ho hc (arr1 hx) h
   ·exact evLen0_ok ho hc (arr1 hx) h
   ·exact evLit_ok h fun vs v obs hf hA ρ w hρ=>bltR_ok ho hc hf ρ w hρ
  ·cases h
 ·rename_i hc
  split at h
  ·rename_i s x hx
   split at h
   ·exact evAppendE_ok ho hc (arr2 hx) h
   ·split at h
    ·rename_i h1
     cases h
     exact evAppend_ok ho hc (arr2 hx) h1
    ·exact evAppendM_ok ho hc (arr2 hx) h
  ·cases h
 ·rename_i b hc _ _
  exact evLit_ok h fun vs v obs hf hA ρ w hρ=>bltR_ok ho ‹_› hf ρ w hρ
 ·rename_i f hc
  split at h
  ·split at h
   ·exact evCallX_ok ho hc h ‹_›
   ·cases h
  ·exact evCall_ok ho hc h
 ·cases h
theorem ev1_ok {o:Oper} {e e':E} (h:ev1 P C.N o e=some e'):OpOk P C o e e':=by
 unfold ev1 at h
 split at h
 ·exact evMove_ok (.inl ‹_›) h
 ·exact evMove_ok (.inr ‹_›) h
 ·split at h
  ·exact evEqS_ok ‹_› h
  ·exact evLit_ok h fun vs v obs hf hA ρ w hρ=>binR_ok ‹_› hf hA ρ w hρ
 ·exact evLit_ok h fun vs v obs hf hA ρ w hρ=>unR_ok ‹_› hf ρ w hρ
 ·exact evPick_ok ‹_› h
 ·split at h
  ·exact evStr_ok ‹_› h
  ·exact evBytes_ok ‹_› h
  ·exact evLit_ok h fun vs v obs hf hA ρ w hρ=>convR_ok ‹_› hf hA ρ w hρ
 ·exact evLit_ok h fun vs v obs hf hA ρ w hρ=>ixR_ok ‹_› hf hA ρ w hρ
 ·split at h
  ·exact evLit_ok h fun vs v obs hf hA ρ w hρ=>slR_ok ‹_› hf hA ρ w hρ
  ·exact evCut_ok ‹_› h
 ·split at h
  ·exact evIaddrA_ok ‹_› h
  ·exact evIaddr_ok ‹_› h
 ·exact evFaddr_ok ‹_› h
 ·split at h
  ·split at h
   ·split at h
    ·rename_i hb
     cases h
     exact evLoadB_ok ‹_› hb
    ·exact evLoadM_ok ‹_› h
   ·exact evLoad_ok ‹_› h
  ·cases h
 ·split at h
  ·split at h
   ·exact evStoreP_ok ‹_› h
   ·split at h
    ·exact evStoreM_ok ‹_› h
    ·exact evStoreB_ok ‹_› h
  ·cases h
 ·exact evBox_ok ‹_› h
 ·exact evAlloc_ok ‹_› h
 ·exact evField_ok ‹_› h
 ·split at h
  ·exact evExtractO_ok ‹_› h
  ·exact evExtract_ok ‹_› h
 ·exact evBuild_ok ‹_› h
 ·split at h
  ·rename_i e1 hh
   obtain ⟨q1,q2⟩:=hint_eq hh
   have:=evBsliceM_ok (C:=C) ‹_› h
   unfold OpOk at this ⊢
   rw [q1,q2] at this
   exact this
  ·exact evBslice_ok ‹_› h
 ·exact evMslice_ok ‹_› h
 ·exact evCallC_ok ‹_› h
 ·exact evNil_ok ‹_› h
 ·exact evMakeFunc_ok ‹_› h
 ·exact evRange_ok ‹_› h
 ·rename_i ho;exact evNext_ok ho h (by rw [ho];rfl)
 ·cases h
def skipE (N:Nat) (o:Oper) (e:E):Option E:=match o.dst with
 | none=>some e
 | some _=>match dstOf N o with
  | some d=>some (e.put d (.lit undef))
  | none=>none
def guardT (ops:Array Oper) (j:Nat):Option Nat:=match ops[j]? with
 | some o=>o.dst
 | none=>none
def evOp (P:Program) (N:Nat) (ops:Array Oper) (o:Oper) (e:E):Option E:=match o.guard with
 | none=>ev1 P N o e
 | some (j,want)=>match guardT ops j with
  | some d=>match look e.st.env d with
   | some (.d (.v (.kb v)))=>match v == want with
    | true=>ev1 P N o e
    | false=>skipE N o e
   | some (.d (.v (.lit (.bool b))))=>match hint e with
    | some (.lit (.bool v),e)=>match v == want with
     | true=>ev1 P N o { need (b=v) e with st:=e.st.setT d (.d (.v (.kb v))) }
     | false=>skipE N o { need (b=v) e with st:=e.st.setT d (.d (.v (.kb v))) }
    | _=>none
   | some (.d (.v (.lit (.tuple t))))=>match Nat.beq t.size 0 with
    | true=>skipE N o e
    | false=>none
   | _=>none
  | none=>none
def lookF:List (Nat × V)→Nat→Option V
 | [],_=>none
 | (k,v) :: l,t=>match Nat.beq t k with
  | true=>some v
  | false=>lookF l t
def fixE (N:Nat) (o:Oper) (e:E):E:=match e.fx with
 | []=>e
 | _ :: _=>match dstOf N o with
  | none=>e
  | some d=>match lookF e.fx d with
   | none=>e
   | some u=>match look e.st.env d with
    | some (.d (.v x))=>{ need (Fit x u) e with st:={ e.st with env:=(d,.d (.v u)) :: e.st.env } }
    | _=>e
def evOps (P:Program) (N:Nat) (ops:Array Oper):List Nat→E→Option E
 | [],e=>some e
 | i :: l,e=>match ops[i]? with
  | none=>none
  | some o=>match evOp P N ops o e with
   | none=>none
   | some e=>evOps P N ops l (fixE N o e)
theorem fixE_eq (N:Nat) (o:Oper) (e:E):fixE N o e=e∨∃ d x u,look e.st.env d=some (.d (.v x))∧fixE N o e={ need (Fit x u) e with st:={ e.st with env:=(d,.d (.v u)) :: e.st.env } }:=by
 unfold fixE
 split
 ·exact .inl rfl
 ·split
  ·exact .inl rfl
  ·split
   ·exact .inl rfl
   ·split
    ·rename_i d _ _ u _ _ x h
     exact .inr ⟨d,x,u,h,rfl⟩
    ·exact .inl rfl
theorem fixE_ok {P:Program} {C:Ctx} {o:Oper} {e:E} (hA:All (fixE C.N o e).ob):All e.ob∧∀ g a w,SRep C g e.st a w→SRep C g (fixE C.N o e).st a w:=by
 rcases fixE_eq C.N o e with h | ⟨d,x,u,h4,h⟩
 ·rw [h] at hA ⊢;exact ⟨hA,fun _ _ _ S=>S⟩
 ·rw [h] at hA ⊢
  obtain ⟨hA1,hf⟩:=All.snoc (l:=e.ob) hA
  refine ⟨hA1,fun g a w S=>?_⟩
  obtain ⟨k1,k2,k3⟩:=S.env d _ h4
  refine S.change (fun _=>False) S.defers S.tmps rfl rfl rfl (Nat.le_refl _) (fun _ h=>h) (fun _ h=>.inl h) S.publt S.n (Nat.le_refl _) (fun _ _=>rfl) (fun _ _ _=>rfl)
   (fun b h ho _=>ho) (fun t _=>⟨rfl,rfl⟩) (fun i _=>⟨rfl,rfl⟩) (fun t y hy=>?_) (fun id b _ h=>h.elim) (fun t h=>h.elim) (fun i h=>h.elim) (fun b h ho=>.inl ⟨ho,(S.own b h ho).2.2⟩)
  simp only [look] at hy
  cases hb:Nat.beq t d with
  | true =>
   rw [hb] at hy
   cases hy
   have:=Nat.eq_of_beq_eq_true hb
   subst this
   exact .inr ⟨k1,.v ((RepD.inv k2).fit hf),k3⟩
  | false =>
   rw [hb] at hy
   exact .inl ⟨fun h=>h,.inl ⟨hy,fun _ _ h=>h⟩⟩
def WOk (P:Program) (C:Ctx) (ops:Array Oper) (o:Oper) (e e':E):Prop :=
 All e'.ob→All e.ob∧∀ g a w,SRep C g e.st a w→∀ (next:Act→World→Prop) (Q:Exit→Act→World→Prop),(∀ g' a' w',SRep C g' e'.st a' w'→(calmK P o.op=true→Calm w w')→next a' w') →
  (if Region.wanted o (yielded ops a.tmps) then o.wp P a w next Q∨(o.asks P a w∧LetsOut Q) else next (a.put o.dst undef) w)
theorem SRep.known {g:G} {st:St} {a:Act} {w:World} (S:SRep C g st a w) {d:Nat} {b:Bool} (h:look st.env d=some (.d (.v (.lit (.bool b))))):SRep C g (st.setT d (.d (.v (.kb b)))) a w:=by
 obtain ⟨h1,h2,h3⟩:=S.env d _ h
 have hv:=RepD.lit h2
 have hT:g.TE d=[]:=by
  have h2:RepD g w (a.tmps.getD d undef) (.v (.lit (.bool b))) (g.TE d):=h2
  exact h2.noOwn rfl
 refine S.change (fun _=>False) S.defers S.tmps rfl rfl rfl (Nat.le_refl _) (fun _ h=>h) (fun _ h=>.inl h) S.publt S.n (Nat.le_refl _) (fun _ _=>rfl) (fun _ _ _=>rfl)
  (fun b h ho _=>ho) (fun t _=>⟨rfl,rfl⟩) (fun i _=>⟨rfl,rfl⟩) (fun t x hx=>?_) (fun id b _ h=>h.elim) (fun t h=>h.elim) (fun i h=>h.elim) (fun b h ho=>.inl ⟨ho,(S.own b h ho).2.2⟩)
 simp only [St.setT,look] at hx
 cases hb:Nat.beq t d with
 | true =>
  have:=Nat.eq_of_beq_eq_true hb
  subst this
  rw [hb] at hx
  cases hx
  refine .inr ⟨h1,?_,h3⟩
  rw [hv,hT]
  exact .v (.kb b)
 | false =>
  rw [hb] at hx
  simp only [look_killE] at hx
  cases hl:look st.env t with
  | none=>rw [hl] at hx;cases hx
  | some z =>
   rw [hl] at hx
   simp only [Option.map_some,Option.some.injEq] at hx
   rcases X.killE_cases (isT d) z with h | h
   ·exact .inl ⟨fun h=>h,.inr ⟨by rw [← hx,h],z,rfl⟩⟩
   ·rw [h] at hx
    subst hx
    exact .inl ⟨fun h=>h,.inl ⟨rfl,fun _ _ h=>h⟩⟩
theorem yield_of {ops:Array Oper} {g:G} {st:St} {a:Act} {w:World} (S:SRep C g st a w) {j d:Nat} (hd:guardT ops j=some d) {x:X} (hl:look st.env d=some x) {b:Bool} (hv:a.tmps.getD d undef=.bool b):yielded ops a.tmps j=some b:=by
 obtain ⟨h1,_,_⟩:=S.env d _ hl
 have hlt:d < a.tmps.size:=by rw [S.tmps];exact h1
 have:a.tmps[d]? = some (.bool b):=by
  rw [Array.getD_eq_getD_getElem?,Array.getElem?_eq_getElem hlt] at hv
  rw [Array.getElem?_eq_getElem hlt]
  exact congrArg some hv
 unfold guardT at hd
 split at hd
 ·rename_i oj hoj
  simp [yielded,hoj,hd,this]
 ·cases hd
theorem skip_ok {ops:Array Oper} {o:Oper} {e e':E} (h:skipE C.N o e=some e'):All e'.ob→All e.ob∧∀ g a w,SRep C g e.st a w→Region.wanted o (yielded ops a.tmps)=false→∀ (next:Act→World→Prop) (Q:Exit→Act→World→Prop),(∀ g' a' w',SRep C g' e'.st a' w'→(calmK P o.op=true→Calm w w')→next a' w') →
 (if Region.wanted o (yielded ops a.tmps) then o.wp P a w next Q∨(o.asks P a w∧LetsOut Q) else next (a.put o.dst undef) w):=by
 intro hA
 unfold skipE at h
 split at h
 ·rename_i hd
  cases h
  refine ⟨hA,fun g a w S hno next Q hn=>?_⟩
  rw [if_neg (by rw [hno];simp),hd]
  exact hn g a w S (fun _=>Calm.refl w)
 ·split at h
  ·rename_i d hd
   cases h
   obtain ⟨hdd,hdN⟩:=dstOf_eq hd
   refine ⟨hA,fun g a w S hno next Q hn=>?_⟩
   rw [if_neg (by rw [hno];simp),hdd]
   exact hn _ _ _ (S.put0 (Calm.refl w) hdN (.v (.lit _))) (fun _=>Calm.refl w)
  ·cases h
theorem evOp_ok {ops:Array Oper} {o:Oper} {e e':E} (h:evOp P C.N ops o e=some e'):WOk P C ops o e e':=by
 unfold evOp at h
 split at h
 ·rename_i hg
  intro hA
  obtain ⟨h0,k⟩:=ev1_ok (C:=C) h hA
  refine ⟨h0,fun g a w S next Q hn=>?_⟩
  rw [if_pos (by simp [Region.wanted,hg])]
  exact .inl (k g a w S next Q hn)
 ·rename_i j want hg
  have wt:∀ {a:Act} {v:Bool},yielded ops a.tmps j=some v→(v == want)=true→Region.wanted o (yielded ops a.tmps)=true:=by
   intro a v hy hv
   have:=eq_of_beq hv
   simp [Region.wanted,hg,hy,this]
  have wf:∀ {a:Act} {v:Bool},yielded ops a.tmps j=some v→(v == want)=false→Region.wanted o (yielded ops a.tmps)=false:=by
   intro a v hy hv
   simp only [Region.wanted,hg,hy]
   cases v<;>cases want<;>simp_all
  split at h
  ·rename_i d hd
   split at h
   ·rename_i v hl
    split at h
    ·rename_i hvw
     intro hA
     obtain ⟨h0,k⟩:=ev1_ok (C:=C) h hA
     refine ⟨h0,fun g a w S next Q hn=>?_⟩
     have hy:=yield_of S hd hl (RepD.kb (S.env d _ hl).2.1)
     rw [if_pos (wt hy hvw)]
     exact .inl (k g a w S next Q hn)
    ·rename_i hvw
     intro hA
     obtain ⟨h0,k⟩:=skip_ok (P:=P) (C:=C) (ops:=ops) h hA
     refine ⟨h0,fun g a w S next Q hn=>?_⟩
     have hy:=yield_of S hd hl (RepD.kb (S.env d _ hl).2.1)
     exact k g a w S (wf hy hvw) next Q hn
   ·rename_i b hl
    split at h
    ·rename_i v e1 hh
     obtain ⟨q1,q2⟩:=hint_eq hh
     split at h
     ·rename_i hvw
      intro hA
      obtain ⟨hA,k⟩:=ev1_ok (C:=C) h hA
      obtain ⟨hA1,hbv⟩:=All.snoc (l:=e1.ob) hA
      subst hbv
      refine ⟨q1 ▸ hA1,fun g a w S next Q hn=>?_⟩
      have hy:=yield_of S hd hl (RepD.lit (S.env d _ hl).2.1)
      rw [if_pos (wt hy hvw)]
      refine .inl (k g a w ?_ next Q hn)
      show SRep C g (e1.st.setT d _) a w
      rw [q2]
      exact S.known hl
     ·rename_i hvw
      intro hA
      obtain ⟨hA,k⟩:=skip_ok (P:=P) (C:=C) (ops:=ops) h hA
      obtain ⟨hA1,hbv⟩:=All.snoc (l:=e1.ob) hA
      subst hbv
      refine ⟨q1 ▸ hA1,fun g a w S next Q hn=>?_⟩
      have hy:=yield_of S hd hl (RepD.lit (S.env d _ hl).2.1)
      refine k g a w ?_ (wf hy hvw) next Q hn
      show SRep C g (e1.st.setT d _) a w
      rw [q2]
      exact S.known hl
    ·cases h
   ·rename_i t hl
    split at h
    ·rename_i ht
     intro hA
     obtain ⟨h0,k⟩:=skip_ok (P:=P) (C:=C) (ops:=ops) h hA
     refine ⟨h0,fun g a w S next Q hn=>k g a w S ?_ next Q hn⟩
     have hv:=RepD.lit (S.env d _ hl).2.1
     unfold guardT at hd
     split at hd
     ·rename_i oj hoj
      have:yielded ops a.tmps j=none:=by
       simp only [yielded,hoj,Option.bind_some,hd]
       obtain ⟨h1,_,_⟩:=S.env d _ hl
       have hlt:d < a.tmps.size:=by rw [S.tmps];exact h1
       rw [Array.getD_eq_getD_getElem?,Array.getElem?_eq_getElem hlt] at hv
       rw [Array.getElem?_eq_getElem hlt]
       simp only [Option.getD_some] at hv
       simp only [hv]
      simp [Region.wanted,hg,this]
     ·cases hd
    ·cases h
   ·cases h
  ·cases h
theorem evOps_ok {ops:Array Oper}:∀ {l:List Nat} {e e':E},evOps P C.N ops l e=some e'→All e'.ob→All e.ob∧∀ g a w,SRep C g e.st a w→∀ (Q:Exit→Act→World→Prop),(∀ g' a' w',SRep C g' e'.st a' w'→Q .normal a' w')→wpOps P ops Q l a w
 | [],e,e',h,hA=>by
  cases h
  exact ⟨hA,fun g a w S Q hn=>hn g a w S⟩
 | i :: l,e,e',h,hA=>by
  simp only [evOps] at h
  cases hoi:ops[i]? with
  | none=>rw [hoi] at h;cases h
  | some o =>
   rw [hoi] at h
   simp only at h
   cases h1:evOp P C.N ops o e with
   | none=>rw [h1] at h;cases h
   | some e1 =>
    rw [h1] at h
    obtain ⟨hA1,k2⟩:=evOps_ok (l:=l) h hA
    obtain ⟨hA2,k3⟩:=fixE_ok (P:=P) (C:=C) hA1
    obtain ⟨hA0,k1⟩:=evOp_ok (C:=C) h1 hA2
    refine ⟨hA0,fun g a w S Q hn=>?_⟩
    have:=k1 g a w S (wpOps P ops Q l) Q (fun g' a' w' S' _=>k2 g' a' w' (k3 g' a' w' S') Q hn)
    simp only [wpOps,hoi]
    exact this
def outS:Option E→St
 | some e=>e.st
 | none=>default
def outO:Option E→Option (List Prop)
 | some e=>some e.ob
 | none=>none
theorem Good.regF {Q:Exit→St→Prop} {st:St} {id N:Nat} {ops:Array Oper} {obs:List Prop} (hN:C.N=N) (hs:List V) (hA:All obs) (rw:List (Nat × Value)) (fx:List (Nat × V)) (h:outO (evOps P N ops (List.range ops.size) ⟨hs,[],st,rw,fx⟩)=some obs)
 (k:Q .normal (outS (evOps P N ops (List.range ops.size) ⟨hs,[],st,rw,fx⟩))):Good P C (.region id ops false) Q st:=by
 subst hN
 intro g a w S
 cases he:evOps P C.N ops (List.range ops.size) ⟨hs,[],st,rw,fx⟩ with
 | none=>rw [he] at h;cases h
 | some e' =>
  rw [he] at h k
  cases h
  obtain ⟨_,key⟩:=evOps_ok (C:=C) he hA
  exact wp_region (key g a w S _ fun g' a' w' S'=>⟨g',e'.st,S',k⟩)
theorem Good.reg {Q:Exit→St→Prop} {st:St} {id N:Nat} {ops:Array Oper} {obs:List Prop} (hN:C.N=N) (hs:List V) (hA:All obs) (rw:List (Nat × Value)) (h:outO (evOps P N ops (List.range ops.size) ⟨hs,[],st,rw,[]⟩)=some obs)
 (k:Q .normal (outS (evOps P N ops (List.range ops.size) ⟨hs,[],st,rw,[]⟩))):Good P C (.region id ops false) Q st:=Good.regF hN hs hA rw [] h k
end
end Go.Rf
end
section
namespace Go.Rf
open Go.RowKit
set_option linter.unusedVariables false
set_option linter.unusedSimpArgs false
variable [Tabs]
def entE:Nat→List V→List (Nat × X)
 | _,[]=>[]
 | i,u :: us=>(i,.d (.v u)) :: entE (i+1) us
def enter (us:List V):St:={ env:=entE 0 us,box:=[] }
theorem look_ent:∀ {us:List V} {k t:Nat} {x:X},look (entE k us) t=some x→∃ u,us[t - k]? = some u∧k≤t∧x=.d (.v u)
 | [],_,_,_,h=>by simp [entE,look] at h
 | u :: us,k,t,x,h=>by
  simp only [entE,look] at h
  cases hb:Nat.beq t k with
  | true =>
   rw [hb] at h
   have:=Nat.eq_of_beq_eq_true hb
   subst this
   cases h
   exact ⟨u,by simp,Nat.le_refl _,rfl⟩
  | false =>
   rw [hb] at h
   obtain ⟨v,h1,h2,h3⟩:=look_ent h
   refine ⟨v,?_,by omega,h3⟩
   rw [show t - k=(t - (k+1))+1 by omega,List.getElem?_cons_succ]
   exact h1
def resC0 (P:Program) (st:St) (q:Nat) (t:TypeId):Option (Option Root × V):=match look st.env q with
 | some (.d (.ptr id off))=>match st.box[id]? with
  | some (.cells cs)=>match partB P t (cs.drop off) with
   | some (.v u)=>some (none,u)
   | some (.d (.v u))=>match u.noOwn with
    | true=>some (none,u)
    | false=>none
   | some .own=>match rootVal st (.b id off) with
    | some u=>some (some (.b id off),u)
    | none=>none
   | _=>none
  | _=>none
 | _=>none
def resM (P:Program) (st:St) (q:Nat) (t:TypeId):Option (Option Root × V):=match look st.env q with
 | some (.d (.ptr id off))=>match Nat.beq off 0 with
  | true=>match st.box[id]? with
   | some (.cells cs)=>match rowT P t with
    | some true=>match sizeT P t with
     | some n=>match Nat.beq n cs.length with
      | true=>match undv cs with
       | some us=>some (some (.b id 0),.agg us)
       | none=>none
      | false=>none
     | none=>none
    | _=>none
   | _=>none
  | false=>none
 | _=>none
def resC (P:Program) (st:St) (q:Nat) (t:TypeId):Option (Option Root × V):=match resC0 P st q t with
 | some x=>some x
 | none=>resM P st q t
def resL (P:Program) (st:St):List ResultVar→Option (List (Option Root × V))
 | []=>some []
 | .tmp t :: rs=>match peek st (.tmp t) with
  | some (r,u)=>match resL P st rs with
   | some l=>some ((match u.noOwn with | true=>none | false=>some r,u) :: l)
   | none=>none
  | none=>none
 | .cell q t :: rs=>match resC P st q t with
  | some x=>match resL P st rs with
   | some l=>some (x :: l)
   | none=>none
  | none=>none
def freeB (r:Root):List (Option Root × V)→Bool
 | []=>true
 | (some q,_) :: l=>match holdB r q with
  | true=>false
  | false=>freeB r l
 | (none,_) :: l=>freeB r l
def distB:List (Option Root × V)→Bool
 | []=>true
 | (some r,_) :: l=>match freeB r l with
  | true=>distB l
  | false=>false
 | (none,_) :: l=>distB l
def resV:List (Option Root × V)→V
 | [(_,u)]=>u
 | l=>.tup (l.map (·.2))
def fin (P:Program) (fn:Func) (r:V):Exit→St→Prop
 | .normal,st | .ret,st=>∃ l,resL P st fn.results.toList=some l∧distB l=true∧Fit (resV l) r
 | _,_=>False
section
variable {P:Program} {C:Ctx} {g:G} {st:St} {a:Act} {w:World}
def resF (tmps:Array Value):ResultVar→Sem Value
 | .tmp t=>pure (tmps.getD t undef)
 | .cell a t=>do loadVar t (← asAddr (tmps.getD a undef))
theorem results_eq (fn:Func) (tmps:Array Value):results fn tmps=(do let vs ← fn.results.mapM (resF tmps);pure (if h:vs.size=1 then vs[0] else .tuple vs)):=by
 unfold results
 congr 2
theorem freeB_ok {r:Root}:∀ {l:List (Option Root × V)},freeB r l=true→∀ q u,(some q,u)∈l→r.holder≠q.holder
 | [],_,q,u,h=>by cases h
 | (some q',u') :: l,hf,q,u,h=>by
  simp only [freeB] at hf
  split at hf
  ·cases hf
  ·rename_i hb
   rcases List.mem_cons.1 h with h | h
   ·cases h
    intro e
    rw [holdB_eq e] at hb;cases hb
   ·exact freeB_ok hf q u h
 | (none,u') :: l,hf,q,u,h=>by
  rcases List.mem_cons.1 h with h | h
  ·cases h
  ·exact freeB_ok (by simpa only [freeB] using hf) q u h
theorem resC0_ok (S:SRep C g st a w) {q:Nat} {t:TypeId} {ro:Option Root} {u:V} (h:resC0 P st q t=some (ro,u)) :
 ∃ v T,(resF a.tmps (.cell q t)).run P w=.ok v w∧Rep g.pub w v u T∧T.Nodup∧(∀ r,ro=some r→∀ b∈T,g.own b=some r.holder)∧(ro=none→T=[]):=by
 unfold resC0 at h
 split at h
 ·rename_i id off hl
  split at h
  ·rename_i cs hb
   obtain ⟨_,h2,_⟩:=S.env q _ hl
   have h2:RepD g w (a.tmps.getD q undef) (.ptr id off) (g.TE q):=h2
   obtain ⟨⟨cur,el,A,hT,hh,hr,h1⟩,hown⟩:=S.box id _ hb
   obtain ⟨A1,B1,hAB,_,hd2⟩:=hr.cut off
   have hx:a.tmps.getD q undef=.pointer (some ⟨g.loc id,off,none⟩):=by
    generalize a.tmps.getD q undef=v at h2
    generalize g.TE q=T at h2
    cases h2
    rfl
   have hrg:w.rangeAt (g.loc id) off (cur.toList.drop off):=fun j v hj=>by
    rw [List.getElem?_drop] at hj
    simp only [World.cell?,hh]
    simpa using hj
   have exec:∀ v,(Instr.loadAt t (.pointer (some ⟨g.loc id,off,none⟩))).run P w=.ok v w→(resF a.tmps (.cell q t)).run P w=.ok v w:=fun v hv=>by
    simp only [resF,hx,asAddr,Sem.run_bind,Sem.run_pure,Result.andThen_ok]
    simpa only [Instr.loadAt,Instr.sureAddr,Sem.run_bind,Sem.run_pure,Result.andThen_ok] using hv
   cases hp:partB P t (cs.drop off) with
   | none=>rw [hp] at h;cases h
   | some pr =>
    rw [hp] at h
    unfold partB at hp
    split at hp
    ·rename_i ht
     split at hp
     ·rename_i n hn
      split at hp
      ·rename_i hle
       have hle:=Nat.le_of_ble_eq_true hle
       split at hp
       ·rename_i us hus
        split at hp
        ·rename_i hno
         cases hp
         cases h
         obtain ⟨A2,B2,_,h3,_⟩:=hd2.cut n
         rw [undv_eq hus] at h3
         have h4:=h3.undv
         have hA2:=h4.noOwn hno
         subst hA2
         exact ⟨_,[],exec _ (loadVar_agg ht hn hrg (by rw [hd2.length];exact hle)),.agg h4,List.nodup_nil,fun r hr=>(by cases hr),fun _=>rfl⟩
        ·cases hp
       ·cases hp
      ·cases hp
     ·cases hp
    ·rename_i ht
     split at hp
     ·rename_i c cs' hcs
      have hd3:=hd2
      rw [hcs] at hd3
      generalize hys:cur.toList.drop off=ys at hd3 hrg
      cases hd3 with
      | @cons v _ vs _ A2 B2 r1 r2 =>
       have hc:=hrg 0 v rfl
       rw [Nat.add_zero] at hc
       have hrun:=exec v (loadVar_one ht hc)
       split at hp
       ·cases hp
        simp only at h
        split at h
        ·rename_i u' hu
         cases h
         obtain ⟨v',T,hpv,hR,hTo,hTn⟩:=rootVal_ok S hu
         refine ⟨v',T,?_,hR,hTn,fun r hr=>by cases hr;exact hTo,fun e=>by cases e⟩
         simp only [pvR] at hpv
         split at hpv
         ·rw [hc] at hpv;cases hpv;exact hrun
         ·cases hpv
        ·cases h
       ·cases hp
       ·cases hp
       ·split at hp
        ·rename_i hno
         cases hp
         have hA2:=r1.noOwn hno
         subst hA2
         cases c with
         | v u' =>
          simp only at h
          split at h
          ·cases h
           exact ⟨v,[],hrun,r1.inv,List.nodup_nil,fun r hr=>(by cases hr),fun _=>rfl⟩
          ·cases h
         | _=>simp at h
        ·cases hp
     ·cases hp
    ·cases hp
  ·cases h
 ·cases h
theorem resM_ok (S:SRep C g st a w) {q:Nat} {t:TypeId} {ro:Option Root} {u:V} (h:resM P st q t=some (ro,u)) :
 ∃ v T,(resF a.tmps (.cell q t)).run P w=.ok v w∧Rep g.pub w v u T∧T.Nodup∧(∀ r,ro=some r→∀ b∈T,g.own b=some r.holder)∧(ro=none→T=[]):=by
 unfold resM at h
 split at h
 ·rename_i id off hl
  split at h
  ·rename_i hoff
   have hoff:=Nat.eq_of_beq_eq_true hoff
   subst hoff
   split at h
   ·rename_i cs hb
    split at h
    ·rename_i ht
     split at h
     ·rename_i n hn
      split at h
      ·rename_i hnl
       have hnl:=Nat.eq_of_beq_eq_true hnl
       split at h
       ·rename_i us hus
        cases h
        obtain ⟨_,h2,_⟩:=S.env q _ hl
        have h2:RepD g w (a.tmps.getD q undef) (.ptr id 0) (g.TE q):=h2
        obtain ⟨⟨cur,el,A,hT,hh,hr,h1⟩,hown⟩:=S.box id _ hb
        have hx:a.tmps.getD q undef=.pointer (some ⟨g.loc id,0,none⟩):=by
         generalize a.tmps.getD q undef=v at h2
         generalize g.TE q=T at h2
         cases h2
         rfl
        have hrg:w.rangeAt (g.loc id) 0 cur.toList:=fun j v hj=>by
         simp only [World.cell?,hh]
         simpa using hj
        have hlen:=hr.length
        have hload:=loadVar_agg (P:=P) ht hn hrg (by omega)
        rw [List.take_of_length_le (by omega)] at hload
        rw [undv_eq hus] at hr
        have hnd:=S.nodB id
        rw [hT] at hnd
        refine ⟨_,A,?_,.agg hr.undv,(List.nodup_cons.1 hnd).2,fun r hr b hb=>?_,fun h=>by cases h⟩
        ·simp only [resF,hx,asAddr,Sem.run_bind,Sem.run_pure,Result.andThen_ok]
         simpa only [Instr.loadAt,Instr.sureAddr,Sem.run_bind,Sem.run_pure,Result.andThen_ok] using hload
        ·cases hr
         exact hown b (by rw [hT];exact List.mem_cons_of_mem _ hb)
       ·cases h
      ·cases h
     ·cases h
    ·cases h
   ·cases h
  ·cases h
 ·cases h
theorem resC_ok (S:SRep C g st a w) {q:Nat} {t:TypeId} {ro:Option Root} {u:V} (h:resC P st q t=some (ro,u)) :
 ∃ v T,(resF a.tmps (.cell q t)).run P w=.ok v w∧Rep g.pub w v u T∧T.Nodup∧(∀ r,ro=some r→∀ b∈T,g.own b=some r.holder)∧(ro=none→T=[]):=by
 unfold resC at h
 split at h
 ·rename_i h0;cases h;exact resC0_ok S h0
 ·exact resM_ok S h
theorem resL_ok (S:SRep C g st a w):∀ {rs:List ResultVar} {l:List (Option Root × V)},resL P st rs=some l→distB l=true →
 ∃ vs T,(rs.mapM (resF a.tmps)).run P w=.ok vs w∧RepL g.pub w vs (l.map (·.2)) T∧T.Nodup ∧
  ∀ b∈T,∃ q u,(some q,u)∈l∧g.own b=some q.holder
 | [],l,h,_=>by cases h;exact ⟨[],[],rfl,.nil,List.nodup_nil,by simp⟩
 | .cell q t :: rs,l,h,hd=>by
  simp only [resL] at h
  split at h
  ·rename_i x hx
   split at h
   ·rename_i l' hl
    cases h
    obtain ⟨ro,u⟩:=x
    obtain ⟨v,T,hv,hR,hn,hown,hnone⟩:=resC_ok (P:=P) S hx
    have hmap:∀ vs,(rs.mapM (resF a.tmps)).run P w=.ok vs w→((ResultVar.cell q t :: rs).mapM (resF a.tmps)).run P w=.ok (v :: vs) w:=fun vs hvs=>by
     simp only [List.mapM_cons,Sem.run_bind,hv,Result.andThen_ok,hvs,Sem.run_pure]
    cases ro with
    | none =>
     have hT:=hnone rfl
     subst hT
     simp only [distB] at hd
     obtain ⟨vs,T',h1,h2,h3,h4⟩:=resL_ok S hl hd
     refine ⟨v :: vs,[]++T',hmap vs h1,.cons hR h2,by simpa using h3,fun b hb=>?_⟩
     obtain ⟨q,u',h5,h6⟩:=h4 b (by simpa using hb)
     exact ⟨q,u',List.mem_cons_of_mem _ h5,h6⟩
    | some r =>
     simp only [distB] at hd
     split at hd
     ·rename_i hf
      obtain ⟨vs,T',h1,h2,h3,h4⟩:=resL_ok S hl hd
      refine ⟨v :: vs,T++T',hmap vs h1,.cons hR h2,?_,fun b hb=>?_⟩
      ·refine List.nodup_append.2 ⟨hn,h3,fun b hb c hc e=>?_⟩
       subst e
       obtain ⟨q,u',h5,h6⟩:=h4 b hc
       have:=hown r rfl b hb
       rw [this] at h6
       exact freeB_ok hf q u' h5 (Option.some.inj h6)
      ·rcases List.mem_append.1 hb with hb | hb
       ·exact ⟨r,u,by simp,hown r rfl b hb⟩
       ·obtain ⟨q,u',h5,h6⟩:=h4 b hb
        exact ⟨q,u',List.mem_cons_of_mem _ h5,h6⟩
     ·cases hd
   ·cases h
  ·cases h
 | .tmp t :: rs,l,h,hd=>by
  simp only [resL] at h
  split at h
  ·rename_i r u hp
   split at h
   ·rename_i l' hl
    cases h
    obtain ⟨T,_,hR,hown,hn⟩:=peek_ok S hp
    cases hno:u.noOwn with
    | true =>
     rw [hno] at hd
     simp only at hd
     have hT:=hR.noOwn hno
     subst hT
     obtain ⟨vs,T',h1,h2,h3,h4⟩:=resL_ok S hl hd
     refine ⟨a.tmps.getD t undef :: vs,[]++T',?_,.cons hR h2,by simpa using h3,fun b hb=>?_⟩
     ·simp only [List.mapM_cons,resF,Sem.run_bind,Sem.run_pure,Result.andThen_ok,h1]
     ·obtain ⟨q,u',h5,h6⟩:=h4 b (by simpa using hb)
      exact ⟨q,u',List.mem_cons_of_mem _ h5,h6⟩
    | false =>
     rw [hno] at hd
     simp only [distB] at hd
     split at hd
     ·rename_i hf
      obtain ⟨vs,T',h1,h2,h3,h4⟩:=resL_ok S hl hd
      refine ⟨a.tmps.getD t undef :: vs,T++T',?_,.cons hR h2,?_,fun b hb=>?_⟩
      ·simp only [List.mapM_cons,resF,Sem.run_bind,Sem.run_pure,Result.andThen_ok,h1]
      ·refine List.nodup_append.2 ⟨hn,h3,fun b hb c hc e=>?_⟩
       subst e
       obtain ⟨q,u',h5,h6⟩:=h4 b hc
       have:=hown b hb
       rw [this] at h6
       exact freeB_ok hf q u' h5 (Option.some.inj h6)
      ·rcases List.mem_append.1 hb with hb | hb
       ·exact ⟨r,u,by simp,hown b hb⟩
       ·obtain ⟨q,u',h5,h6⟩:=h4 b hb
        exact ⟨q,u',List.mem_cons_of_mem _ h5,h6⟩
     ·cases hd
   ·cases h
  ·cases h
end
theorem fin_main {P:Program} {C:Ctx} {a:Act} {fn:Func} {r:V} {g':G} {st':St} {w':World} (S':SRep C g' st' a w') (hF:∀ b,¬ C.Fz b):(∃ l,resL P st' fn.results.toList=some l∧distB l=true∧Fit (resV l) r)→a.defers=[]∧∃ v,(results fn a.tmps).run P w'=.ok v w' ∧
 ∃ (v':Value) (T:List Nat) (q:Pub),Ending.returned v=.returned v'∧Calm C.W w'∧(∀ b,q b→C.W.heap.size≤b∧b < w'.heap.size)∧T.Nodup∧(∀ b∈T,C.W.heap.size≤b∧b < w'.heap.size∧¬ q b)∧Rep (fun b=>C.p0 b∨q b) w' v' r T:=by
 rintro ⟨l,hl,hd,hfit⟩
 obtain ⟨vs',T,h1,h2,h3,h4⟩:=resL_ok (P:=P) S' hl hd
 refine ⟨S'.defers,?_⟩
 have hT:∀ b∈T,C.W.heap.size≤b∧b < w'.heap.size∧¬ g'.pub b:=fun b hb=>by
  obtain ⟨q,u,_,ho⟩:=h4 b hb
  obtain ⟨k1,k2,k3⟩:=S'.own b _ ho
  exact ⟨k1.resolve_right (hF b),k2,k3⟩
 have hpub:∀ b,g'.pub b→C.p0 b∨(g'.pub b∧C.W.heap.size≤b):=fun b hb=>by
  rcases S'.pub b hb with h | h | h
  ·exact .inl h
  ·exact .inr ⟨hb,h⟩
  ·exact (hF _ h).elim
 have hcalm:Calm C.W w':=⟨S'.os,S'.tape,S'.output,S'.size,fun b hb=>S'.frame b hb (hF b)⟩
 have fin:∀ v,Rep g'.pub w' v (resV l) T→(results fn a.tmps).run P w'=.ok v w'→∃ v,(results fn a.tmps).run P w'=.ok v w' ∧
  ∃ (v':Value) (T:List Nat) (q:Pub),Ending.returned v=.returned v'∧Calm C.W w'∧(∀ b,q b→C.W.heap.size≤b∧b < w'.heap.size)∧T.Nodup∧(∀ b∈T,C.W.heap.size≤b∧b < w'.heap.size∧¬ q b)∧Rep (fun b=>C.p0 b∨q b) w' v' r T:=fun v hR hrun =>
  ⟨v,hrun,v,T,fun b=>g'.pub b∧C.W.heap.size≤b,rfl,hcalm,fun b hb=>⟨hb.2,S'.publt b hb.1⟩,h3,fun b hb=>⟨(hT b hb).1,(hT b hb).2.1,fun h=>(hT b hb).2.2 h.1⟩,(hR.keep ⟨hpub,fun _ _=>rfl⟩ (fun _ _=>rfl)).fit hfit⟩
 have hm:(results fn a.tmps).run P w'=.ok (if h:vs'.toArray.size=1 then vs'.toArray[0] else .tuple vs'.toArray) w':=by
  rw [results_eq,Sem.run_bind,Array.mapM_eq_mapM_toList,Sem.run_map,h1]
  rfl
 by_cases hsz:vs'.length=1
 ·match vs',h2,hm,hsz with
  | [v],h2,hm,_ =>
   have hll:l.length=1:=by have:=h2.length;simpa using this.symm
   match l,hll,h2,fin with
   | [(ro,u)],_,h2,fin =>
    generalize hT':T=T0 at h2 fin
    cases h2 with
    | @cons _ _ _ _ A B r1 r2 =>
     cases r2
     refine fin v (by rw [List.append_nil];exact r1) (by rw [hm];simp)
 ·refine fin (.tuple vs'.toArray) ?_ (by rw [hm];simp [hsz])
  have hll:l.length≠1:=by have:=h2.length;simp at this;omega
  have:resV l=.tup (l.map (·.2)):=by
   unfold resV
   split
   ·simp at hll
   ·rfl
  rw [this]
  exact .tup h2
theorem enter_rep {us:List V} {p:Pub} {w:World} {vs:List Value} (N:Nat) (hN:us.length≤N) (hp:∀ b,p b→b < w.heap.size) (htab:Tabs.t p w) (hr:RepL p w vs us []) :
 SRep { W:=w,p0:=p,Fz:=fun _=>False,N:=N } { pub:=p,own:=fun _=>none,n:=0,loc:=fun _=>0,TE:=fun _=>[],TB:=fun _=>[] } (enter us) { tmps:=vs.toArray++Array.replicate (N - vs.toArray.size) undef,defers:=[] } w:=by
 have hvl:vs.length=us.length:=hr.length
 refine ⟨rfl,?_,rfl,rfl,rfl,Nat.le_refl _,fun _ _ _=>rfl,fun b hb=>.inl hb,hp,rfl,?_,fun _=>List.nodup_nil,fun id b hb=>?_,fun _=>List.nodup_nil,fun b h ho=>?_,fun i l h=>(by simp at h),htab⟩
 ·simp [hvl];omega
 ·intro t x hx
  obtain ⟨u,h1,_,rfl⟩:=look_ent hx
  rw [Nat.sub_zero] at h1
  obtain ⟨v,A,h2,h3,h4⟩:=hr.get h1
  have hA:A=[]:=List.eq_nil_iff_forall_not_mem.2 fun b hb=>by cases h4 b hb
  subst hA
  have htl:t < vs.length:=by
   rcases Nat.lt_or_ge t vs.length with h | h
   ·exact h
   ·rw [List.getElem?_eq_none h] at h2;cases h2
  refine ⟨?_,?_,fun b hb=>by cases hb⟩
  ·show t < N;omega
  ·have e:({ tmps:=vs.toArray++Array.replicate (N - vs.toArray.size) undef,defers:=[] }:Act).tmps.getD t undef=v:=by
    rw [Array.getD_eq_getD_getElem?,Array.getElem?_append_left (by simpa using htl)]
    simp [h2]
   show RepD _ w _ (.v u) []
   rw [e]
   exact .v h3
 ·simp [enter] at hb
 ·cases ho
theorem con_of_good {P:Program} {f:FuncId} {fn:Func} {c:Code} {us:List V} {r:V} (hf:P.funcs[f]? = some fn) (hb:fn.body=some c) (hname:(fn.name == "runtime.NumGoroutine")=false) (hN:Nat.ble us.length fn.ntmps=true)
 (h:∀ C:Ctx,C.N=fn.ntmps→C.L.length=0→Good P C c (fin P fn r) (enter us)):Con P f us r:=by
 refine ⟨fun vs w=>by
  have h1:fn.name ≠ "runtime.NumGoroutine" := by simpa using hname
  simp [callFunc,hf,h1,hb],fun p w vs hp htab hr=>?_⟩
 have hN:=Nat.le_of_ble_eq_true hN
 have S:=enter_rep fn.ntmps hN hp htab hr
 refine calls_of_wp hf hb (wp_mono (h _ rfl rfl _ _ w S) fun e a w' ⟨g',st',S',hq⟩=>?_)
 cases e with
 | normal=>exact fin_main S' (fun _ h=>h) hq
 | ret=>exact fin_main S' (fun _ h=>h) hq
 | _=>exact hq.elim
def resO (P:Program) (fn:Func) (st:St):Option V:=match resL P st fn.results.toList with
 | some l=>match distB l with
  | true=>some (resV l)
  | false=>none
 | none=>none
theorem fin_fit {P:Program} {fn:Func} {st:St} {u r:V} (hf:Fit u r) (h:resO P fn st=some u):∃ l,resL P st fn.results.toList=some l∧distB l=true∧Fit (resV l) r:=by
 unfold resO at h
 split at h
 ·rename_i l hl
  split at h
  ·rename_i hd
   cases h
   exact ⟨l,hl,hd,hf⟩
  ·cases h
 ·cases h
theorem Good.done {P:Program} {C:Ctx} {fn:Func} {st:St} {r:V} (h:resO P fn st=some r):Good P C .ret (fin P fn r) st:=Good.ret (fin_fit (.refl r) h)
theorem fin.done {P:Program} {fn:Func} {st:St} {r:V} (h:resO P fn st=some r):fin P fn r .normal st:=fin_fit (.refl r) h
theorem fin.doneR {P:Program} {fn:Func} {st:St} {r:V} (h:resO P fn st=some r):fin P fn r .ret st:=fin_fit (.refl r) h
end Go.Rf
end
section
namespace Go.Rf
open Go.RowKit
set_option linter.unusedVariables false
set_option linter.unusedSimpArgs false
variable [Tabs]
def co (m:Nat) (x:X):Option X:=match m with
 | 0=>some x
 | 1=>match x with
  | .d (.v (.nil e sz))=>some (.d (.v (.row (some e) sz [])))
  | _=>none
 | 2=>match x with
  | .d (.v (.nil _ sz))=>some (.d (.v (.row none sz [])))
  | _=>none
 | 4=>match x with
  | .d (.v (.kb b))=>some (.d (.v (.lit (.bool b))))
  | _=>none
 | _=>none
def restr (l:List (Nat × X)):List (Nat × Nat)→Option (List (Nat × X))
 | []=>some []
 | (t,m) :: ks=>match look l t with
  | some x=>match co m x with
   | some y=>match restr l ks with
    | some r=>some ((t,y) :: r)
    | none=>none
   | none=>none
  | none=>none
def Wk (C:Ctx) (st st':St):Prop:=∀ g a w,SRep C g st a w→∃ g',SRep C g' st' a w
theorem look_restr {l:List (Nat × X)}:∀ {ks:List (Nat × Nat)} {r:List (Nat × X)} {t:Nat} {y:X},restr l ks=some r→look r t=some y→∃ m x,look l t=some x∧co m x=some y
 | [],r,t,y,h,hy=>by cases h;simp [look] at hy
 | (s,m) :: ks,r,t,y,h,hy=>by
  simp only [restr] at h
  split at h
  ·rename_i x hx
   split at h
   ·rename_i z hz
    split at h
    ·rename_i r' hr
     cases h
     simp only [look] at hy
     cases hb:Nat.beq t s with
     | true =>
      rw [hb] at hy
      cases hy
      have:=Nat.eq_of_beq_eq_true hb
      subst this
      exact ⟨m,x,hx,hz⟩
     | false =>
      rw [hb] at hy
      exact look_restr hr hy
    ·cases h
   ·cases h
  ·cases h
theorem Wk.of {C:Ctx} (ks:List (Nat × Nat)) {st:St} {env:List (Nat × X)} {box:List Box} (h:restr st.env ks=some env) (hb:st.box=box):Wk C st ⟨env,box⟩:=by
 subst hb
 intro g a w S
 refine ⟨g,S.change (fun _=>False) S.defers S.tmps rfl rfl rfl (Nat.le_refl _) (fun _ h=>h) (fun _ h=>.inl h) S.publt S.n (Nat.le_refl _) (fun _ _=>rfl) (fun _ _ _=>rfl)
  (fun b h ho _=>ho) (fun t _=>⟨rfl,rfl⟩) (fun i _=>⟨rfl,rfl⟩) (fun t y hy=>?_) (fun id b _ h=>h.elim) (fun t h=>h.elim) (fun i h=>h.elim) (fun b h ho=>.inl ⟨ho,(S.own b h ho).2.2⟩)⟩
 obtain ⟨m,x,hx,hc⟩:=look_restr h hy
 have same:x=y→(¬ False∧(look st.env t=some y∧(∀ h,y.rootH=some h→¬ False)∨y=.dead∧∃ y,look st.env t=some y))∨(t < C.N∧XRep g a w (a.tmps.getD t undef) y (g.TE t)∧(∀ b∈g.TE t,g.own b=some (.inl t))):=fun e=>by
  subst e
  exact .inl ⟨fun h=>h,.inl ⟨hx,fun _ _ h=>h⟩⟩
 unfold co at hc
 split at hc
 ·exact same (Option.some.inj hc)
 ·split at hc
  ·cases hc
   obtain ⟨h1,h2,h3⟩:=S.env t _ hx
   exact .inr ⟨h1,.v ((RepD.inv h2).fit (.nilO _ _)),h3⟩
  ·cases hc
 ·split at hc
  ·cases hc
   obtain ⟨h1,h2,h3⟩:=S.env t _ hx
   exact .inr ⟨h1,.v ((RepD.inv h2).fit (.nilS _ _ _)),h3⟩
  ·cases hc
 ·split at hc
  ·cases hc
   obtain ⟨h1,h2,h3⟩:=S.env t _ hx
   have hv:=RepD.kb h2
   have hT:g.TE t=[]:=(RepD.inv h2).noOwn rfl
   refine .inr ⟨h1,?_,h3⟩
   rw [hv,hT]
   exact .v (.lit _)
  ·cases hc
 ·cases hc
section
variable {P:Program} {C:Ctx} {Q:Exit→St→Prop} {st st':St}
theorem Wk.good {c:Code} (W:Wk C st st') (h:Good P C c Q st'):Good P C c Q st:=fun g a w S=>let ⟨g',S'⟩:=W g a w S;h g' a w S'
theorem Wk.sh (t:Nat) {d u:D} (ht:look st.env t=some (.d d)) (hu:d.shr=u) (h:Wk C (st.setT t (.d u)) st'):Wk C st st':=fun g a w S=>by
 subst hu
 exact h _ a w (S.shareT ht).2
end
theorem ifS {α:Type} {p:Prop} [Decidable p] {x:Option α} {r:α} (h:(if p then x else none)=some r):p∧x=some r:=by
 by_cases c:p
 ·rw [if_pos c] at h;exact ⟨c,h⟩
 ·rw [if_neg c] at h;cases h
theorem ifC {α:Type} {p:Prop} [Decidable p] {x y r:α} (h:(if p then x else y)=r):(p∧x=r)∨(¬ p∧y=r):=by
 by_cases c:p
 ·rw [if_pos c] at h;exact .inl ⟨c,h⟩
 ·rw [if_neg c] at h;exact .inr ⟨c,h⟩
theorem bindS {α β:Type} {x:Option α} {f:α→Option β} {r:β} (h:x.bind f=some r):∃ t,x=some t∧f t=some r:=Option.bind_eq_some_iff.1 h
end Go.Rf
end
section
namespace Go.Rf
open Go.RowKit
set_option linter.unusedVariables false
set_option linter.unusedSimpArgs false
variable [Tabs]
mutual
def D.bnd (n:Nat):D→Bool
 | .v _=>true
 | .ptr i _=>Nat.blt i n
 | .agg cs=>bndL n cs
 | .tup cs=>bndL n cs
 | .fn _ cs=>bndL n cs
def bndL (n:Nat):List D→Bool
 | []=>true
 | d :: ds=>match d.bnd n with
  | true=>bndL n ds
  | false=>false
end
def Root.bnd (n:Nat):Root→Bool
 | .t _=>true
 | .b i _=>Nat.blt i n
def X.bnd (n:Nat):X→Bool
 | .d y=>D.bnd n y
 | .al p=>Root.bnd n p.root
 | .pa r _ _ _=>Root.bnd n r
 | .dead=>true
def bndE (n:Nat):List (Nat × X)→Bool
 | []=>true
 | (_,x) :: l=>match x.bnd n with
  | true=>bndE n l
  | false=>false
def Box.bnd (n:Nat):Box→Bool
 | .cells cs=>bndL n cs
 | _=>true
def bndB (n:Nat):List Box→Bool
 | []=>true
 | b :: l=>match b.bnd n with
  | true=>bndB n l
  | false=>false
theorem bndE_look {n:Nat}:∀ {l:List (Nat × X)} {t:Nat} {x:X},bndE n l=true→look l t=some x→x.bnd n=true
 | [],_,_,_,h=>by simp [look] at h
 | (k,y) :: l,t,x,hb,h=>by
  simp only [bndE] at hb
  split at hb
  ·rename_i hy
   simp only [look] at h
   cases hk:Nat.beq t k with
   | true=>rw [hk] at h;cases h;exact hy
   | false=>rw [hk] at h;exact bndE_look hb h
  ·cases hb
theorem bndB_get {n:Nat}:∀ {l:List Box} {i:Nat} {b:Box},bndB n l=true→l[i]? = some b→b.bnd n=true
 | [],_,_,_,h=>by simp at h
 | c :: l,i,b,hb,h=>by
  simp only [bndB] at hb
  split at hb
  ·rename_i hc
   cases i with
   | zero=>simp only [List.getElem?_cons_zero,Option.some.injEq] at h;subst h;exact hc
   | succ i=>simp only [List.getElem?_cons_succ] at h;exact bndB_get hb h
  ·cases hb
def G.shrink (g:G) (n:Nat):G :=
 { g with n:=n,own:=fun b=>match g.own b with
     | some (.inr id)=>if id < n then some (.inr id) else none
     | x=>x,TB:=fun i=>if i < n then g.TB i else [] }
mutual
theorem RepD.shrink {g:G} {n:Nat} {w:World} {v:Value} {d:D} {T:List Nat}:RepD g w v d T→d.bnd n=true→RepD (g.shrink n) w v d T
 | .v h,_=>.v h
 | .ptr (id:=id) h,hb=>RepD.ptr (g:=g.shrink n) (by simpa [D.bnd,G.shrink] using hb)
 | .agg h,hb=>.agg (h.shrink (by simpa [D.bnd] using hb))
 | .tup h,hb=>.tup (h.shrink (by simpa [D.bnd] using hb))
 | .fn h,hb=>.fn (h.shrink (by simpa [D.bnd] using hb))
theorem RepDL.shrink {g:G} {n:Nat} {w:World} {vs:List Value} {ds:List D} {T:List Nat}:RepDL g w vs ds T→bndL n ds=true→RepDL (g.shrink n) w vs ds T
 | .nil,_=>.nil
 | .cons (d:=d) h1 h2,hb=>by
  simp only [bndL] at hb
  cases hc:d.bnd n with
  | false=>rw [hc] at hb;cases hb
  | true=>rw [hc] at hb;exact .cons (h1.shrink hc) (h2.shrink hb)
end
section
variable {C:Ctx} {g:G} {st:St} {a:Act} {w:World}
theorem own_shrinkT {n b t:Nat}:(g.shrink n).own b=some (.inl t)↔g.own b=some (.inl t):=by
 simp only [G.shrink]
 split
 ·rename_i id h;rw [h];split<;>simp
 ·rfl
theorem own_shrinkB {n b i:Nat} (hi:i < n):(g.shrink n).own b=some (.inr i)↔g.own b=some (.inr i):=by
 simp only [G.shrink]
 split
 ·rename_i id h
  rw [h]
  split
  ·rfl
  ·rename_i hn
   constructor
   ·intro e;cases e
   ·intro e;cases e;exact (hn hi).elim
 ·rfl
theorem pvR_shrink {n:Nat} (hn:n≤g.n) {r:Root} (hb:r.bnd n=true):pvR (g.shrink n) a w r=pvR g a w r:=by
 cases r with
 | t x=>rfl
 | b id c =>
  have hi:id < n:=by simpa [Root.bnd] using hb
  simp only [pvR]
  have e1:(id < (g.shrink n).n∧(g.shrink n).own ((g.shrink n).loc id)=some (.inr id))=(id < g.n∧g.own (g.loc id)=some (.inr id)):=by
   apply propext
   constructor
   ·rintro ⟨h1,h2⟩;exact ⟨Nat.lt_of_lt_of_le hi hn,(own_shrinkB hi).1 h2⟩
   ·rintro ⟨h1,h2⟩;exact ⟨hi,(own_shrinkB hi).2 h2⟩
  simp only [e1]
  rfl
theorem holder_shrink {n b:Nat} {r:Root} (hb:r.bnd n=true):(g.shrink n).own b=some r.holder↔g.own b=some r.holder:=by
 cases r with
 | t x=>exact own_shrinkT
 | b id c=>exact own_shrinkB (by simpa [Root.bnd] using hb)
theorem XRep.shrink {n:Nat} (hn:n≤g.n) {v:Value} {x:X} {T:List Nat} (h:XRep g a w v x T) (hb:x.bnd n=true):XRep (g.shrink n) a w v x T:=by
 cases x with
 | d d=>exact RepD.shrink h hb
 | al p =>
  refine ⟨h.1,?_⟩
  have h:=h.2
  cases p with
  | top r =>
   have hb:Root.bnd n r=true:=hb
   simp only [pv] at h ⊢;rw [pvR_shrink hn hb];exact h
  | elt r sz i j =>
   have hb:Root.bnd n r=true:=hb
   simp only [pv] at h ⊢
   rw [pvR_shrink hn hb]
   cases hq:(pvR g a w r).bind Value.ownBlock with
   | none=>rw [hq] at h;cases h
   | some b =>
    rw [hq] at h
    simp only at h ⊢
    by_cases ho:g.own b=some r.holder
    ·rw [if_pos ho] at h;rw [if_pos ((holder_shrink hb).2 ho)];exact h
    ·rw [if_neg ho] at h;cases h
 | pa r sz i j =>
  obtain ⟨h1,b,h2,h3,h4⟩:=h
  exact ⟨h1,b,by rw [pvR_shrink hn hb];exact h2,(holder_shrink hb).2 h3,h4⟩
 | dead=>trivial
theorem SRep.shrink (S:SRep C g st a w) {n:Nat} (hn:n≤st.box.length) (hE:bndE n st.env=true) (hB:bndB n (st.box.take n)=true) (hL:C.L.length≤n):SRep C (g.shrink n) ⟨st.env,st.box.take n⟩ a w:=by
 have hgn:n≤g.n:=by rw [S.n];exact hn
 refine ⟨S.defers,S.tmps,S.os,S.tape,S.output,S.size,S.frame,S.pub,S.publt,?_,?_,S.nodE,?_,?_,?_,fun i l h=>⟨Nat.lt_of_lt_of_le (List.getElem?_eq_some_iff.1 h).1 hL,(S.lent i l h).2⟩,S.tab⟩
 ·simp only [List.length_take,G.shrink];omega
 ·intro t x hx
  obtain ⟨h1,h2,h3⟩:=S.env t x hx
  exact ⟨h1,h2.shrink hgn (bndE_look hE hx),fun b hb=>own_shrinkT.2 (h3 b hb)⟩
 ·intro id b hb
  have hi:id < n:=by
   rcases Nat.lt_or_ge id n with h | h
   ·exact h
   ·rw [List.getElem?_eq_none (by rw [List.length_take];omega)] at hb;cases hb
  have hb':st.box[id]? = some b:=by rw [List.getElem?_take] at hb;split at hb<;>simp_all
  obtain ⟨h1,h2⟩:=S.box id b hb'
  have hT:(g.shrink n).TB id=g.TB id:=by simp [G.shrink,hi]
  rw [hT]
  refine ⟨?_,fun c hc=>(own_shrinkB hi).2 (h2 c hc)⟩
  have hbb:=bndB_get hB hb
  cases b with
  | cells cs =>
   obtain ⟨cur,e,A,k1,k2,k3,k4⟩:=h1
   exact ⟨cur,e,A,k1,k2,k3.shrink hbb,k4⟩
  | iter s pos=>exact h1
  | gone=>exact h1
 ·intro id
  simp only [G.shrink]
  split
  ·exact S.nodB id
  ·exact List.nodup_nil
 ·intro b h ho
  have:g.own b=some h:=by
   simp only [G.shrink] at ho
   split at ho
   ·rename_i id hq
    split at ho
    ·rw [hq];exact ho
    ·cases ho
   ·exact ho
  exact S.own b h this
end
theorem Wk.ofB {C:Ctx} {L:Nat} (hL:C.L.length=L) (n:Nat) (ks:List (Nat × Nat)) {st:St} {env:List (Nat × X)} {box:List Box} (h:restr st.env ks=some env) (hE:(Nat.ble n st.box.length && bndE n env && bndB n (st.box.take n) && Nat.ble L n)=true) (hb:st.box.take n=box):Wk C st ⟨env,box⟩:=by
 subst hb
 intro g a w S
 obtain ⟨g',S'⟩:=Wk.of ks h rfl g a w S
 simp only [Bool.and_eq_true] at hE
 exact ⟨_,S'.shrink (Nat.le_of_ble_eq_true hE.1.1.1) hE.1.1.2 hE.1.2 (by rw [hL];exact Nat.le_of_ble_eq_true hE.2)⟩
end Go.Rf
end
section
namespace Go.Rf
open Go.RowKit
set_option linter.unusedVariables false
set_option linter.unusedSimpArgs false
variable [Tabs]
theorem Wk.box {C:Ctx} (id:Nat) {st st':St} {c d:List V} (hb:st.box[id]? = some (.cells (dv c))) (f:FitL c d) (h:Wk C { st with box:=st.box.set id (.cells (dv d)) } st'):Wk C st st':=fun g a w S=>by
 have hid:id < st.box.length:=(List.getElem?_eq_some_iff.1 hb).1
 refine h g a w (S.change (fun h=>h=.inr id) S.defers S.tmps rfl rfl rfl (Nat.le_refl _) (fun _ h=>h) (fun _ h=>.inl h) S.publt (by simpa using S.n) (Nat.le_refl _) (fun _ _=>rfl) (fun _ _ _=>rfl)
  (fun b h ho _=>ho) (fun t _=>⟨rfl,rfl⟩) (fun i hi=>⟨rfl,?_⟩) (fun t y hy=>?_) (fun i b hb' hc=>?_) (fun t h=>by cases h) (fun i h=>by cases h;exact S.nodB id) (fun b h ho=>.inl ⟨ho,(S.own b h ho).2.2⟩))
 ·rw [List.getElem?_set_ne (fun e=>hi (by rw [e]))]
 ·by_cases hr:∀ h,y.rootH=some h→¬ h=.inr id
  ·exact .inl ⟨(fun e=>by cases e),.inl ⟨hy,hr⟩⟩
  ·obtain ⟨h1,h2,h3⟩:=S.env t y hy
   exact .inr ⟨h1,h2,h3⟩
 ·cases hc
  rw [List.getElem?_set_self hid] at hb'
  cases hb'
  obtain ⟨h1,h2⟩:=S.box id _ hb
  exact ⟨h1.fitV f,h2⟩
theorem Wk.fx {C:Ctx} (t:Nat) {st st':St} {x u:V} (hl:look st.env t=some (.d (.v x))) (hf:Fit x u) (h:Wk C { st with env:=(t,.d (.v u)) :: st.env } st'):Wk C st st':=fun g a w S=>by
 obtain ⟨k1,k2,k3⟩:=S.env t _ hl
 refine h g a w (S.change (fun _=>False) S.defers S.tmps rfl rfl rfl (Nat.le_refl _) (fun _ h=>h) (fun _ h=>.inl h) S.publt S.n (Nat.le_refl _) (fun _ _=>rfl) (fun _ _ _=>rfl)
  (fun b h ho _=>ho) (fun t _=>⟨rfl,rfl⟩) (fun i _=>⟨rfl,rfl⟩) (fun s y hy=>?_) (fun id b _ h=>h.elim) (fun t h=>h.elim) (fun i h=>h.elim) (fun b h ho=>.inl ⟨ho,(S.own b h ho).2.2⟩))
 simp only [look] at hy
 cases hb:Nat.beq s t with
 | true =>
  rw [hb] at hy
  cases hy
  have:=Nat.eq_of_beq_eq_true hb
  subst this
  exact .inr ⟨k1,.v ((RepD.inv k2).fit hf),k3⟩
 | false =>
  rw [hb] at hy
  exact .inl ⟨fun h=>h,.inl ⟨hy,fun _ _ h=>h⟩⟩
def entX:Nat→List D→List (Nat × X)
 | _,[]=>[]
 | i,u :: us=>(i,.d u) :: entX (i+1) us
def enterX (us:List D) (bs:List (List V)):St:={ env:=entX 0 us,box:=bs.map fun c=>.cells (dv c) }
theorem look_entX:∀ {us:List D} {k t:Nat} {x:X},look (entX k us) t=some x→∃ u,us[t - k]? = some u∧k≤t∧x=.d u
 | [],_,_,_,h=>by simp [entX,look] at h
 | u :: us,k,t,x,h=>by
  simp only [entX,look] at h
  cases hb:Nat.beq t k with
  | true =>
   rw [hb] at h
   have:=Nat.eq_of_beq_eq_true hb
   subst this
   cases h
   exact ⟨u,by simp,Nat.le_refl _,rfl⟩
  | false =>
   rw [hb] at h
   obtain ⟨v,h1,h2,h3⟩:=look_entX h
   refine ⟨v,?_,by omega,h3⟩
   rw [show t - k=(t - (k+1))+1 by omega,List.getElem?_cons_succ]
   exact h1
def lowB (n:Nat):List (Option Root × V)→Bool
 | []=>true
 | (some (.b id _),_) :: l=>match Nat.ble n id with
  | true=>lowB n l
  | false=>false
 | _ :: l=>lowB n l
theorem lowB_ok {n:Nat}:∀ {l:List (Option Root × V)},lowB n l=true→∀ q u,(some q,u)∈l→∀ i,i < n→q.holder≠.inr i
 | [],_,q,u,h=>by cases h
 | (none,_) :: l,hf,q,u,h=>by
  rcases List.mem_cons.1 h with h | h
  ·cases h
  ·exact lowB_ok (by simpa only [lowB] using hf) q u h
 | (some (.t x),_) :: l,hf,q,u,h=>by
  rcases List.mem_cons.1 h with h | h
  ·cases h;intro i _ e;cases e
  ·exact lowB_ok (by simpa only [lowB] using hf) q u h
 | (some (.b id c),_) :: l,hf,q,u,h=>by
  simp only [lowB] at hf
  split at hf
  ·rename_i hle
   have hle:=Nat.le_of_ble_eq_true hle
   rcases List.mem_cons.1 h with h | h
   ·cases h
    intro i hi e
    simp only [Root.holder,Sum.inr.injEq] at e
    omega
   ·exact lowB_ok hf q u h
  ·cases hf
def resD (fn:Func) (st:St) (n:Nat):Option D:=match fn.results.toList with
 | [.tmp t]=>match look st.env t with
  | some (.d d)=>match d.noOwn with
   | true=>match d.bnd n with
    | true=>some d
    | false=>none
   | false=>none
  | _=>none
 | _=>none
def finX (P:Program) (fn:Func) (r:D) (bs':List (List V)):Exit→St→Prop
 | .normal,st | .ret,st=>(∃ bs1,boxesV st (List.range bs'.length)=some bs1∧FitLL bs1 bs') ∧
  ((∃ l u,r=.v u∧resL P st fn.results.toList=some l∧distB l=true∧lowB bs'.length l=true∧Fit (resV l) u)∨resD fn st bs'.length=some r)
 | _,_=>False
theorem conX_of_good {P:Program} {f:FuncId} {fn:Func} {c:Code} {us:List D} {bs bs':List (List V)} {r:D} (hf:P.funcs[f]? = some fn) (hb:fn.body=some c) (hname:(fn.name == "runtime.NumGoroutine")=false) (hN:(Nat.ble us.length fn.ntmps && Nat.beq bs.length bs'.length)=true)
 (h:∀ C:Ctx,C.N=fn.ntmps→C.L.length=bs.length→Good P C c (finX P fn r bs') (enterX us bs)):ConX P f us bs r bs':=by
 rw [Bool.and_eq_true] at hN
 have hNb:=Nat.eq_of_beq_eq_true hN.2
 have hN:=Nat.le_of_ble_eq_true hN.1
 refine ⟨fun vs w=>by
  have h1:fn.name ≠ "runtime.NumGoroutine" := by simpa using hname
  simp [callFunc,hf,h1,hb],fun g w vs hgn hp htab hr hB hown=>?_⟩
 let C:Ctx:={ W:=w,p0:=g.pub,Fz:=fun b=>∃ h,g.own b=some h,N:=fn.ntmps,L:=(List.range bs.length).map g.loc }
 have hCL:C.L.length=bs.length:=by simp [C]
 let gi:G:={ pub:=g.pub,own:=fun b=>(match g.own b with
   | some (.inr i)=>if i < g.n then some (.inr i) else none
   | _=>none),n:=g.n,loc:=g.loc,TE:=fun _=>[],TB:=fun i=>if i < g.n then g.TB i else [] }
 have kgi:KeepsG g gi w w:=⟨fun _ h=>h,Nat.le_refl _,fun _ _=>rfl,fun _ _=>rfl⟩
 have hvl:vs.length=us.length:=hr.length
 have giown:∀ b h,gi.own b=some h→∃ i,h=.inr i∧i < g.n∧g.own b=some (.inr i):=fun b h ho=>by
  simp only [gi] at ho
  split at ho
  ·rename_i i hi
   split at ho
   ·rename_i hl;cases ho;exact ⟨i,rfl,hl,hi⟩
   ·cases ho
  ·cases ho
 have get:∀ {vs:List Value} {us:List D} {t:Nat} {u:D},RepDL g w vs us []→us[t]? = some u→∃ v,vs[t]? = some v∧RepD g w v u []:=by
  intro vs us t u h hu
  obtain ⟨v,Tc,h1,h2,h3,_⟩:=h.get hu
  have:Tc=[]:=List.eq_nil_iff_forall_not_mem.2 fun b hb=>by cases h3 b hb
  subst this
  exact ⟨v,h1,h2⟩
 have S:SRep C gi (enterX us bs) { tmps:=vs.toArray++Array.replicate (fn.ntmps - vs.toArray.size) undef,defers:=[] } w:=by
  refine ⟨rfl,?_,rfl,rfl,rfl,Nat.le_refl _,fun _ _ _=>rfl,fun b hb=>.inl hb,hp,?_,?_,fun _=>List.nodup_nil,fun id b hb=>?_,fun i=>?_,fun b h ho=>?_,fun i l h=>?_,htab⟩
  ·simp [C,hvl];omega
  ·simp only [gi,enterX,List.length_map];exact hgn
  ·intro t x hx
   obtain ⟨u,h1,_,rfl⟩:=look_entX hx
   rw [Nat.sub_zero] at h1
   obtain ⟨v,h2,h3⟩:=get hr h1
   have htl:t < vs.length:=(List.getElem?_eq_some_iff.1 h2).1
   refine ⟨?_,?_,fun b hb=>by cases hb⟩
   ·show t < fn.ntmps;omega
   ·have e:({ tmps:=vs.toArray++Array.replicate (fn.ntmps - vs.toArray.size) undef,defers:=[] }:Act).tmps.getD t undef=v:=by
     rw [Array.getD_eq_getD_getElem?,Array.getElem?_append_left (by simpa using htl)]
     simp [h2]
    show RepD gi w _ u []
    rw [e]
    exact h3.keep kgi (fun _ h=>by cases h)
  ·simp only [enterX,List.getElem?_map,Option.map_eq_some_iff] at hb
   obtain ⟨c,hc,rfl⟩:=hb
   have hid:id < g.n:=by rw [hgn];exact (List.getElem?_eq_some_iff.1 hc).1
   obtain ⟨h1,_,h3⟩:=hB id c hc
   have eT:gi.TB id=g.TB id:=by simp only [gi];rw [if_pos hid]
   rw [eT]
   refine ⟨h1.gV rfl,fun b hb=>?_⟩
   simp only [gi,h3 b hb]
   rw [if_pos hid]
  ·simp only [gi]
   split
   ·rename_i hi
    rw [hgn] at hi
    exact (hB i _ (List.getElem?_eq_getElem hi)).2.1
   ·exact List.nodup_nil
  ·obtain ⟨i,rfl,_,h1⟩:=giown b h ho
   have:=hown b _ h1
   exact ⟨.inr ⟨_,h1⟩,this.1,this.2⟩
  ·have hi:i < bs.length:=by rw [← hCL];exact (List.getElem?_eq_some_iff.1 h).1
   refine ⟨by simp only [gi];omega,?_⟩
   simp only [C,List.getElem?_map,List.getElem?_range hi,Option.map_some,Option.some.injEq] at h
   exact h
 refine calls_of_wp hf hb (wp_mono (h C rfl hCL gi _ w S) fun e a w' ⟨g1,st',S',hq⟩=>?_)
 have main:((∃ bs1,boxesV st' (List.range bs'.length)=some bs1∧FitLL bs1 bs')∧((∃ l u,r=.v u∧resL P st' fn.results.toList=some l∧distB l=true∧lowB bs'.length l=true∧Fit (resV l) u)∨resD fn st' bs'.length=some r)) →
  a.defers=[]∧∃ v,(results fn a.tmps).run P w'=.ok v w'∧∃ (v':Value) (T:List Nat) (g':G),Ending.returned v=.returned v'∧Lent g g' w w'∧RepD g' w' v' r T∧T.Nodup∧(∀ b∈T,g'.own b=some (.inl 0))∧Boxes g' w' bs':=by
  rintro ⟨⟨bs1,hbs1,hfit1⟩,hres⟩
  refine ⟨S'.defers,?_⟩
  obtain ⟨hl1,hbx⟩:=boxesV_get hbs1
  have hloc:∀ i,i < bs.length→g1.loc i=g.loc i∧i < g1.n:=fun i hi=>by
   have:=S'.lent i (g.loc i) (by simp only [C,List.getElem?_map,List.getElem?_range hi,Option.map_some])
   exact ⟨this.2,this.1⟩
  have close:∀ (T:List Nat),(∀ b∈T,∃ h,g1.own b=some h∧∀ i,i < bs'.length→h≠.inr i) →
   ∃ g':G,g'.n=g.n∧(∀ i,i < g.n→g'.loc i=g.loc i)∧(∀ b,g1.pub b→g'.pub b)∧Lent g g' w w'∧(∀ b∈T,g'.own b=some (.inl 0))∧Boxes g' w' bs':=by
   intro T hT
   refine ⟨{ pub:=fun b=>g.pub b∨g1.pub b,own:=fun b=>if b∈T then some (.inl 0) else (match g1.own b with
     | some (.inr i)=>if i < g.n then some (.inr i) else none
     | _=>none),n:=g.n,loc:=g.loc,TE:=fun _=>[],TB:=g1.TB },rfl,fun _ _=>rfl,fun _ h=>.inr h,?_,fun b hb=>by simp [hb],?_⟩
   ·have own':∀ b h,(if b∈T then some (Sum.inl 0) else match g1.own b with
     | some (.inr i)=>if i < g.n then some (Sum.inr i) else none
     | _=>none)=some h→∃ h',g1.own b=some h':=fun b h ho=>by
     split at ho
     ·rename_i hb
      obtain ⟨h',h1,_⟩:=hT b hb
      exact ⟨h',h1⟩
     ·split at ho
      ·rename_i i hi;exact ⟨_,hi⟩
      ·cases ho
    refine ⟨S'.os,S'.tape,S'.output,S'.size,fun b hb hn=>S'.frame b hb (fun ⟨h,hh⟩=>by rw [hn] at hh;cases hh),rfl,fun _ _=>rfl,fun b h=>.inl h,?_,?_,?_⟩
    ·rintro b (h | h)
     ·exact .inl h
     ·exact S'.pub b h
    ·rintro b (h | h)
     ·exact Nat.lt_of_lt_of_le (hp b h) S'.size
     ·exact S'.publt b h
    ·intro b h ho
     obtain ⟨h',h1⟩:=own' b h ho
     obtain ⟨k1,k2,k3⟩:=S'.own b h' h1
     refine ⟨k1,k2,?_⟩
     rintro (h | h)
     ·rcases k1 with k1 | ⟨h'',k1⟩
      ·have:=hp b h
       have k1:w.heap.size≤b:=k1
       omega
      ·exact (hown b _ k1).2 h
     ·exact k3 h
   ·intro i d hd
    have hi:i < bs'.length:=(List.getElem?_eq_some_iff.1 hd).1
    obtain ⟨c1,hc1,fc⟩:=hfit1.get hd
    obtain ⟨c2,hc2,hbx2⟩:=hbx i i (by rw [List.getElem?_range hi])
    rw [hc1] at hc2
    cases hc2
    obtain ⟨h1,h2⟩:=S'.box i _ hbx2
    have hib:i < bs.length:=by rw [hNb];exact hi
    rw [(hloc i hib).1] at h1
    have h1:=h1.fitV fc
    refine ⟨?_,S'.nodB i,fun b hb=>?_⟩
    ·obtain ⟨cur,e,A,q1,q2,q3,q4⟩:=h1
     refine ⟨cur,e,A,q1,q2,?_,q4⟩
     exact (q3.undv.keep ⟨fun b hb=>.inr hb,fun _ _=>rfl⟩ (fun _ _=>rfl)).dv
    ·have hbo:=h2 b hb
     have hnT:b∉T:=fun hm=>by
      obtain ⟨h',h3,h4⟩:=hT b hm
      rw [hbo] at h3
      exact h4 i hi (Option.some.inj h3).symm
     show (if b∈T then _ else _)=_
     rw [if_neg hnT,hbo]
     show (if i < g.n then _ else _)=_
     rw [if_pos (by rw [hgn];exact hib)]
  rcases hres with ⟨l,u,rfl,hl,hd,hlow,hfit⟩ | hres
  ·obtain ⟨vs',T,h1,h2,h3,h4⟩:=resL_ok (P:=P) S' hl hd
   obtain ⟨g',n1,n2,n3,n4,n5,n6⟩:=close T (fun b hb=>by
    obtain ⟨q,u',h5,h6⟩:=h4 b hb
    exact ⟨_,h6,fun i hi=>lowB_ok hlow q u' h5 i hi⟩)
   have fin:∀ v,Rep g1.pub w' v (resV l) T→(results fn a.tmps).run P w'=.ok v w'→∃ v,(results fn a.tmps).run P w'=.ok v w'∧∃ (v':Value) (T:List Nat) (g':G),Ending.returned v=.returned v'∧Lent g g' w w'∧RepD g' w' v' (.v u) T∧T.Nodup∧(∀ b∈T,g'.own b=some (.inl 0))∧Boxes g' w' bs':=fun v hR hrun =>
    ⟨v,hrun,v,T,g',rfl,n4,.v ((hR.keep ⟨n3,fun _ _=>rfl⟩ (fun _ _=>rfl)).fit hfit),h3,n5,n6⟩
   have hm:(results fn a.tmps).run P w'=.ok (if h:vs'.toArray.size=1 then vs'.toArray[0] else .tuple vs'.toArray) w':=by
    rw [results_eq,Sem.run_bind,Array.mapM_eq_mapM_toList,Sem.run_map,h1]
    rfl
   by_cases hsz:vs'.length=1
   ·match vs',h2,hm,hsz with
    | [v],h2,hm,_ =>
     have hll:l.length=1:=by have:=h2.length;simpa using this.symm
     match l,hll,h2,fin with
     | [(ro,u)],_,h2,fin =>
      generalize hT':T=T0 at h2 fin
      cases h2 with
      | @cons _ _ _ _ A B r1 r2 =>
       cases r2
       refine fin v (by rw [List.append_nil];exact r1) (by rw [hm];simp)
   ·refine fin (.tuple vs'.toArray) ?_ (by rw [hm];simp [hsz])
    have hll:l.length≠1:=by have:=h2.length;simp at this;omega
    have:resV l=.tup (l.map (·.2)):=by
     unfold resV
     split
     ·simp at hll
     ·rfl
    rw [this]
    exact .tup h2
  ·unfold resD at hres
   split at hres
   ·rename_i t hrs
    split at hres
    ·rename_i d hl
     split at hres
     ·rename_i hno
      split at hres
      ·rename_i hbnd
       cases hres
       obtain ⟨g',n1,n2,n3,n4,n5,n6⟩:=close [] (by simp)
       obtain ⟨_,hR,_⟩:=S'.env t _ hl
       have hR:RepD g1 w' (a.tmps.getD t undef) r (g1.TE t):=hR
       have hT:=hR.noOwn hno
       rw [hT] at hR
       refine ⟨a.tmps.getD t undef,?_,_,[],g',rfl,n4,?_,List.nodup_nil,n5,n6⟩
       ·rw [results_eq,Sem.run_bind,Array.mapM_eq_mapM_toList,Sem.run_map,hrs]
        simp [resF]
       ·have h1:RepD (g1.shrink bs'.length) w' (a.tmps.getD t undef) r []:=hR.shrink hbnd
        have hn':(g1.shrink bs'.length).n=g'.n:=by rw [n1,hgn,hNb];rfl
        refine RepD.keep (g:=g1.shrink bs'.length) ⟨n3,Nat.le_of_eq hn',fun i hi=>?_,fun _ _=>rfl⟩ h1 (fun _ h=>by cases h)
        have hi:i < bs'.length:=hi
        rw [n2 i (by rw [hgn,hNb];exact hi)]
        exact (hloc i (by rw [hNb];exact hi)).1.symm
      ·cases hres
     ·cases hres
    ·cases hres
   ·cases hres
 cases e with
 | normal=>exact main hq
 | ret=>exact main hq
 | _=>exact hq.elim
def resXO (P:Program) (fn:Func) (st:St) (n:Nat):Option (V × List (List V)):=match resL P st fn.results.toList with
 | some l=>match distB l with
  | true=>match lowB n l with
   | true=>match boxesV st (List.range n) with
    | some bs=>some (resV l,bs)
    | none=>none
   | false=>none
  | false=>none
 | none=>none
theorem finX_fit {P:Program} {fn:Func} {st:St} {u r:V} {bs bs':List (List V)} {n:Nat} (hf:Fit u r) (hfb:FitLL bs bs') (h:resXO P fn st n=some (u,bs)) (hn:bs'.length=n):finX P fn (.v r) bs' .normal st:=by
 subst hn
 unfold resXO at h
 split at h
 ·rename_i l hl
  split at h
  ·rename_i hd
   split at h
   ·rename_i hw
    split at h
    ·rename_i bs1 hb
     cases h
     exact ⟨⟨_,hb,hfb⟩,.inl ⟨l,r,rfl,hl,hd,hw,hf⟩⟩
    ·cases h
   ·cases h
  ·cases h
 ·cases h
theorem finX_fitR {P:Program} {fn:Func} {st:St} {u r:V} {bs bs':List (List V)} {n:Nat} (hf:Fit u r) (hfb:FitLL bs bs') (h:resXO P fn st n=some (u,bs)) (hn:bs'.length=n):finX P fn (.v r) bs' .ret st:=finX_fit hf hfb h hn
end Go.Rf
end
section
namespace Go.Rf
open Go.RowKit
set_option linter.unusedVariables false
set_option linter.unusedSimpArgs false
variable [Tabs]
def ren (p:List Nat) (id:Nat):Nat:=match idxOf id p with
 | some j=>j
 | none=>id
mutual
def D.ren (p:List Nat):D→D
 | .v x=>.v x
 | .ptr i o=>.ptr (Rf.ren p i) o
 | .agg cs=>.agg (renDL p cs)
 | .tup cs=>.tup (renDL p cs)
 | .fn f cs=>.fn f (renDL p cs)
def renDL (p:List Nat):List D→List D
 | []=>[]
 | d :: ds=>d.ren p :: renDL p ds
end
def Root.ren (p:List Nat):Root→Root
 | .t x=>.t x
 | .b i c=>.b (Rf.ren p i) c
def Pl.ren (p:List Nat):Pl→Pl
 | .top r=>.top (r.ren p)
 | .elt r sz i j=>.elt (r.ren p) sz i j
def X.ren (p:List Nat):X→X
 | .d x=>.d (x.ren p)
 | .al q=>.al (q.ren p)
 | .pa r sz i j=>.pa (r.ren p) sz i j
 | .dead=>.dead
def renE (p:List Nat):List (Nat × X)→List (Nat × X)
 | []=>[]
 | (t,x) :: l=>(t,x.ren p) :: renE p l
def Box.ren (p:List Nat):Box→Box
 | .cells cs=>.cells (renDL p cs)
 | b=>b
def renB (p:List Nat) (bx:List Box):List Box:=p.map fun i=>match bx[i]? with
 | some b=>b.ren p
 | none=>.gone
def permOk (p:List Nat) (n:Nat):Bool:=Nat.beq p.length n && distN p && p.all (fun i=>Nat.blt i n)
theorem look_renE (p:List Nat):∀ (l:List (Nat × X)) (t:Nat),look (renE p l) t=(look l t).map (X.ren p)
 | [],_=>rfl
 | (k,x) :: l,t=>by
  simp only [renE,look]
  cases Nat.beq t k with
  | true=>rfl
  | false=>exact look_renE p l t
section
variable {p:List Nat} {n:Nat}
theorem perm_get (hp:permOk p n=true) {id:Nat} (hid:id < n):∃ j,idxOf id p=some j∧j < n:=by
 simp only [permOk,Bool.and_eq_true] at hp
 obtain ⟨⟨h1,h2⟩,h3⟩:=hp
 have h1:=Nat.eq_of_beq_eq_true h1
 have h2:=distN_ok h2
 cases hj:idxOf id p with
 | some j=>exact ⟨j,rfl,by rw [← h1];exact (List.getElem?_eq_some_iff.1 (idxOf_get hj)).1⟩
 | none =>
  exfalso
  have hn:=idxOf_none hj
  have hsub:p ⊆ (List.range n).erase id:=fun x hx=>by
   have hx':x < n:=by simpa using List.all_eq_true.1 h3 x hx
   exact (List.mem_erase_of_ne (fun e:x=id=>hn (by rw [← e];exact hx))).2 (List.mem_range.2 hx')
  have:=List.Nodup.length_le_of_subset h2 hsub
  rw [List.length_erase_of_mem (List.mem_range.2 hid),List.length_range] at this
  omega
theorem ren_lt (hp:permOk p n=true) {id:Nat} (hid:id < n):ren p id < n∧p[ren p id]? = some id:=by
 obtain ⟨j,h1,h2⟩:=perm_get hp hid
 simp only [ren,h1]
 exact ⟨h2,idxOf_get h1⟩
theorem ren_ge (hp:permOk p n=true) {id:Nat} (hid:¬ id < n):ren p id=id:=by
 simp only [permOk,Bool.and_eq_true] at hp
 cases hj:idxOf id p with
 | some j =>
  have:=List.all_eq_true.1 hp.2 id (List.mem_of_getElem? (idxOf_get hj))
  exact (hid (by simpa using this)).elim
 | none=>simp only [ren,hj]
theorem ren_inj (hp:permOk p n=true) {i j:Nat} (h:ren p i=ren p j):i=j:=by
 by_cases hi:i < n
 ·by_cases hj:j < n
  ·have h1:=(ren_lt hp hi).2
   rw [h,(ren_lt hp hj).2] at h1
   exact (Option.some.inj h1).symm
  ·rw [ren_ge hp hj] at h
   have:=(ren_lt hp hi).1
   omega
 ·by_cases hj:j < n
  ·rw [ren_ge hp hi] at h
   have:=(ren_lt hp hj).1
   omega
  ·rw [ren_ge hp hi,ren_ge hp hj] at h;exact h
end
def renH (p:List Nat):Nat ⊕ Nat→Nat ⊕ Nat
 | .inl t=>.inl t
 | .inr i=>.inr (ren p i)
def G.ren (g:G) (p:List Nat):G :=
 { pub:=g.pub,own:=fun b=>(g.own b).map (renH p),n:=g.n,loc:=fun k=>match p[k]? with
     | some i=>g.loc i
     | none=>g.loc k,TE:=g.TE,TB:=fun k=>match p[k]? with
     | some i=>g.TB i
     | none=>g.TB k }
section
variable {C:Ctx} {g:G} {st:St} {a:Act} {w:World} {p:List Nat}
theorem G.ren_loc (hp:permOk p g.n=true) {id:Nat} (hid:id < g.n):(g.ren p).loc (Rf.ren p id)=g.loc id:=by simp only [G.ren,(ren_lt hp hid).2]
theorem G.ren_TB (hp:permOk p g.n=true) {id:Nat} (hid:id < g.n):(g.ren p).TB (Rf.ren p id)=g.TB id:=by simp only [G.ren,(ren_lt hp hid).2]
theorem holder_ren (r:Root):(r.ren p).holder=renH p r.holder:=by cases r<;>rfl
theorem renH_inj (hp:permOk p g.n=true) {h k:Nat ⊕ Nat} (e:renH p h=renH p k):h=k:=by
 cases h<;>cases k<;>simp only [renH,Sum.inl.injEq,Sum.inr.injEq,reduceCtorEq] at e
 ·rw [e]
 ·rw [ren_inj hp e]
theorem own_ren (hp:permOk p g.n=true) {b:Nat} {h:Nat ⊕ Nat}:(g.ren p).own b=some (renH p h)↔g.own b=some h:=by
 simp only [G.ren,Option.map_eq_some_iff]
 constructor
 ·rintro ⟨k,h1,h2⟩
  rw [h1,renH_inj hp h2]
 ·intro h1;exact ⟨h,h1,rfl⟩
mutual
theorem RepD.ren (hp:permOk p g.n=true) {v:Value} {d:D} {T:List Nat}:RepD g w v d T→RepD (g.ren p) w v (d.ren p) T
 | .v h=>.v h
 | .ptr h=>by
  rw [← G.ren_loc hp h,D.ren]
  exact .ptr (ren_lt hp h).1
 | .agg h=>by rw [D.ren];exact .agg (h.ren hp)
 | .tup h=>by rw [D.ren];exact .tup (h.ren hp)
 | .fn h=>by rw [D.ren];exact .fn (h.ren hp)
theorem RepDL.ren (hp:permOk p g.n=true) {vs:List Value} {ds:List D} {T:List Nat}:RepDL g w vs ds T→RepDL (g.ren p) w vs (renDL p ds) T
 | .nil=>.nil
 | .cons h1 h2=>by rw [renDL];exact .cons (h1.ren hp) (h2.ren hp)
end
theorem pvR_ren (hp:permOk p g.n=true) {r:Root} {v:Value} (h:pvR g a w r=some v):pvR (g.ren p) a w (r.ren p)=some v:=by
 cases r with
 | t x=>exact h
 | b id c =>
  simp only [pvR,Root.ren] at h ⊢
  split at h
  ·rename_i hc
   have e1:=G.ren_loc hp hc.1
   have e2:(g.ren p).own (g.loc id)=some (.inr (Rf.ren p id)):=(own_ren hp (h:=.inr id)).2 hc.2
   rw [if_pos ⟨(ren_lt hp hc.1).1,by rw [e1];exact e2⟩,e1]
   exact h
  ·cases h
theorem XRep.ren (hp:permOk p g.n=true) {v:Value} {x:X} {T:List Nat} (h:XRep g a w v x T):XRep (g.ren p) a w v (x.ren p) T:=by
 cases x with
 | d d=>exact RepD.ren hp h
 | al q =>
  refine ⟨h.1,?_⟩
  have h:=h.2
  cases q with
  | top r=>exact pvR_ren hp h
  | elt r sz i j =>
   simp only [pv,Pl.ren] at h ⊢
   cases hv:pvR g a w r with
   | none=>rw [hv] at h;cases h
   | some u =>
    rw [hv] at h
    rw [pvR_ren hp hv]
    simp only [Option.bind_some] at h ⊢
    cases hb:u.ownBlock with
    | none=>rw [hb] at h;cases h
    | some b =>
     rw [hb] at h
     simp only at h ⊢
     split at h
     ·rename_i ho
      rw [if_pos (by rw [holder_ren];exact (own_ren hp).2 ho)];exact h
     ·cases h
 | pa r sz i j =>
  obtain ⟨h1,b,h2,h3,h4⟩:=h
  refine ⟨h1,b,?_,by rw [holder_ren];exact (own_ren hp).2 h3,h4⟩
  cases hu:pvR g a w r with
  | none=>rw [hu] at h2;cases h2
  | some u=>rw [hu] at h2;rw [pvR_ren hp hu];exact h2
 | dead=>trivial
theorem SRep.ren (S:SRep C g st a w) (hp:permOk p st.box.length=true) (hL:C.L.length=0∨∀ i,i < C.L.length→p[i]? = some i):SRep C (g.ren p) ⟨renE p st.env,renB p st.box⟩ a w:=by
 have hp':permOk p g.n=true:=by rw [S.n];exact hp
 have hpl:p.length=g.n:=by simp only [permOk,Bool.and_eq_true] at hp';exact Nat.eq_of_beq_eq_true hp'.1.1
 refine ⟨S.defers,S.tmps,S.os,S.tape,S.output,S.size,S.frame,S.pub,S.publt,?_,?_,S.nodE,?_,?_,?_,?_,S.tab⟩
 ·simp only [G.ren,renB,List.length_map];exact hpl.symm
 ·intro t x hx
  simp only [look_renE] at hx
  cases hl:look st.env t with
  | none=>rw [hl] at hx;cases hx
  | some y =>
   rw [hl] at hx
   simp only [Option.map_some,Option.some.injEq] at hx
   subst hx
   obtain ⟨h1,h2,h3⟩:=S.env t y hl
   exact ⟨h1,XRep.ren hp' h2,fun b hb=>(own_ren hp' (h:=.inl t)).2 (h3 b hb)⟩
 ·intro k b hb
  simp only [renB,List.getElem?_map,Option.map_eq_some_iff] at hb
  obtain ⟨i,hi,rfl⟩:=hb
  have hin:i < g.n:=by
   simp only [permOk,Bool.and_eq_true] at hp'
   simpa using List.all_eq_true.1 hp'.2 i (List.mem_of_getElem? hi)
  have hil:i < st.box.length:=by rw [← S.n];exact hin
  have hk:Rf.ren p i=k:=by
   have hd:p.Nodup:=by simp only [permOk,Bool.and_eq_true] at hp';exact distN_ok hp'.1.2
   exact nodup_idx hd (ren_lt hp' hin).2 hi
  obtain ⟨b0,hb0⟩:∃ b0,st.box[i]? = some b0:=⟨_,List.getElem?_eq_getElem hil⟩
  obtain ⟨h1,h2⟩:=S.box i b0 hb0
  rw [hb0,← hk,G.ren_loc hp' hin,G.ren_TB hp' hin]
  refine ⟨?_,fun b hb=>(own_ren hp' (h:=.inr i)).2 (h2 b hb)⟩
  cases b0 with
  | cells cs =>
   obtain ⟨cur,e,A,q1,q2,q3,q4⟩:=h1
   exact ⟨cur,e,A,q1,q2,q3.ren hp',q4⟩
  | iter s pos=>exact h1
  | gone=>exact h1
 ·intro k
  simp only [G.ren]
  split
  ·exact S.nodB _
  ·exact S.nodB _
 ·intro b h ho
  simp only [G.ren,Option.map_eq_some_iff] at ho
  obtain ⟨k,h1,_⟩:=ho
  exact S.own b k h1
 ·intro i l h
  obtain ⟨h1,h2⟩:=S.lent i l h
  have hlt:=(List.getElem?_eq_some_iff.1 h).1
  refine ⟨h1,?_⟩
  rcases hL with hL | hL
  ·omega
  ·simp only [G.ren,hL i hlt];exact h2
end
theorem SRep.publish {C:Ctx} {g:G} {st:St} {a:Act} {w:World} (S:SRep C g st a w) {t id off:Nat} {us:List V} (ht:look st.env t=some (.d (.ptr id off))) (hb:st.box[id]? = some (.cells (dv us))) :
 ∃ g',SRep C g' { env:=(t,.d (.v (.pt ((shrL us).drop off)))) :: kill (isB id) st.env,box:=st.box.set id .gone } a w:=by
 obtain ⟨htN,htx,hto⟩:=S.env t _ ht
 have htx:RepD g w (a.tmps.getD t undef) (.ptr id off) (g.TE t):=htx
 obtain ⟨⟨cur,el,A,hT,hh,hr,hc1⟩,hown⟩:=S.box id _ hb
 have hid:id < st.box.length:=(List.getElem?_eq_some_iff.1 hb).1
 have hTt:g.TE t=[]:=htx.noOwn rfl
 have hx:a.tmps.getD t undef=.pointer (some ⟨g.loc id,off,none⟩):=by
  generalize a.tmps.getD t undef=v at htx
  generalize g.TE t=T at htx
  cases htx
  rfl
 let g':G:={ g with pub:=g.pub.share (g.TB id),own:=fun b=>if b∈g.TB id then none else g.own b,TB:=fun i=>if i=id then [] else g.TB i }
 have k:KeepsG g g' w w:=⟨fun b hb=>.inl hb,Nat.le_refl _,fun _ _=>rfl,fun _ _=>rfl⟩
 have hm:∀ b h,g.own b=some h→h≠.inr id→b∉g.TB id:=fun b h ho hn hb=>hn (by rw [hown b hb] at ho;exact (Option.some.inj ho).symm)
 refine ⟨g',S.change (fun h=>h=.inr id) S.defers S.tmps rfl rfl rfl (Nat.le_refl _) (fun b hb=>.inl hb) ?_ ?_ (by simpa using S.n) (Nat.le_refl _) (fun _ _=>rfl) (fun _ _ _=>rfl) ?_ ?_ ?_ ?_ ?_ ?_ ?_ ?_⟩
 ·rintro b (hb | hb)
  ·exact .inl hb
  ·exact .inr (.inr ⟨_,hown b hb⟩)
 ·rintro b (hb | hb)
  ·exact S.publt b hb
  ·exact (S.own b _ (hown b hb)).2.1
 ·intro b h ho hc
  simp only [g']
  rw [if_neg (hm b h ho hc),ho]
 ·intro t' _;exact ⟨rfl,rfl⟩
 ·intro i hi
  have hi':i≠id:=fun e=>hi (by rw [e])
  exact ⟨by simp [g',hi'],by rw [List.getElem?_set_ne (fun e=>hi' e.symm)]⟩
 ·intro s y hy
  simp only [look] at hy
  cases hbq:Nat.beq s t with
  | true =>
   have:=Nat.eq_of_beq_eq_true hbq
   subst this
   rw [hbq] at hy
   cases hy
   have eT:g'.TE s=[]:=hTt
   refine .inr ⟨htN,?_,by rw [eT];simp⟩
   rw [eT,hx]
   have hsh:=(hr.undv.share (S:=g.TB id) (fun b hb=>by rw [hT];simp [hb]))
   obtain ⟨A1,B1,hAB,_,hd⟩:=hsh.cut off
   have hB:=(List.append_eq_nil_iff.1 hAB.symm).2
   subst hB
   refine .v (.pt hd (fun u hu=>hc1 u (List.mem_of_mem_drop hu)) (.inr (by rw [hT];simp)) (fun j u hj=>?_))
   rw [List.getElem?_drop] at hj
   simp only [World.cell?,hh]
   simpa using hj
  | false =>
   rw [hbq] at hy
   simp only [look_kill] at hy
   refine .inl ⟨(fun e=>by cases e),?_⟩
   cases hl:look st.env s with
   | none=>rw [hl] at hy;cases hy
   | some z =>
    rw [hl] at hy
    simp only [Option.map_some,Option.some.injEq] at hy
    by_cases hdd:y=.dead
    ·exact .inr ⟨hdd,z,rfl⟩
    ·rcases X.kill_cases (isB id) z with h | ⟨h,_⟩
     ·exact (hdd (by rw [← hy,h])).elim
     ·rw [h] at hy
      subst hy
      exact .inl ⟨rfl,X.killR_rootH (q:=.b id 0) h hdd⟩
 ·intro i b hb' hc
  cases hc
  rw [List.getElem?_set_self hid] at hb'
  cases hb'
  have:g'.TB id=[]:=by simp [g']
  rw [this]
  exact ⟨rfl,by simp⟩
 ·intro s hs;cases hs
 ·intro i hi
  cases hi
  simp [g']
 ·intro b h ho
  simp only [g'] at ho
  split at ho
  ·cases ho
  ·rename_i hnb
   refine .inl ⟨ho,?_⟩
   rintro (h1 | h1)
   ·exact (S.own b h ho).2.2 h1
   ·exact hnb h1
def pubSt (t id off:Nat) (us':List V) (st:St):St:={ env:=(t,.d (.v (.pt us'))) :: kill (isB id) st.env,box:=st.box.set id .gone }
theorem Good.publish {P:Program} {C:Ctx} {Q:Exit→St→Prop} {st:St} (t id off:Nat) {us us':List V} {c:Code} (ht:look st.env t=some (.d (.ptr id off))) (hb:st.box[id]? = some (.cells (dv us))) (hu:(shrL us).drop off=us') (h:Good P C c Q (pubSt t id off us' st)):Good P C c Q st:=fun g a w S=>by
 subst hu
 obtain ⟨g',S'⟩:=S.publish ht hb
 exact h g' a w S'
theorem Wk.pub {C:Ctx} {st st':St} (t id off:Nat) {us us':List V} (ht:look st.env t=some (.d (.ptr id off))) (hb:st.box[id]? = some (.cells (dv us))) (hu:(shrL us).drop off=us') (h:Wk C (pubSt t id off us' st) st'):Wk C st st':=fun g a w S=>by
 subst hu
 obtain ⟨g',S'⟩:=S.publish ht hb
 exact h g' a w S'
end Go.Rf
end
section
namespace Go.Rf
open Go.RowKit
set_option linter.unusedVariables false
set_option linter.unusedSimpArgs false
variable [Tabs]
abbrev S (s:ByteArray):V:=.lit (.string s)
abbrev I (n:Int):V:=.lit (.int .i64 n)
abbrev K (k:IntKind) (n:Int):V:=.lit (.int k n)
abbrev B (b:Bool):V:=.lit (.bool b)
abbrev Fl (n:Nat):V:=.lit (.float .f64 n)
abbrev Cx (p:Nat × Nat):V:=.lit (.complex .f64 p.1 p.2)
section
variable {P:Program} {C:Ctx} {Q:Exit→St→Prop} {st st':St}
def cutQ (I:St→Prop) (Q:Exit→St→Prop):Exit→St→Prop
 | .normal,st=>I st
 | e,st=>Q e st
theorem Good.cut (I:St→Prop) {c:Code} (h:Good P C c (cutQ I Q) st) (k:∀ st,I st→Q .normal st):Good P C c Q st :=
 h.mono fun e st h=>by
  cases e with
  | normal=>exact k st h
  | _=>exact h
theorem Rounds.mono {c:Code}:∀ {m n:Nat} {st:St},m≤n→Rounds P C c Q m st→Rounds P C c Q n st
 | 0,_,_,_,h=>h.elim
 | m+1,0,_,h,_=>by omega
 | m+1,n+1,st,h,r=>Good.mono r fun e st' h'=>by
  cases e with
  | normal=>exact Rounds.mono (Nat.le_of_succ_le_succ h) h'
  | _=>exact h'
theorem Good.loopN {x:Code} (I:Nat→St→Prop) (n:Nat) (h0:I n st) (hs:∀ n,(∀ st,¬ I 0 st)∧∀ st,I (n+1) st→Good P C x (thenS (fun st=>∃ m,m≤n∧I m st) Q) st):Good P C (.loop x) Q st:=by
 refine Good.loop n ?_
 have all:∀ n m st,m≤n→I m st→Rounds P C x Q m st:=by
  intro n
  induction n with
  | zero =>
   intro m st hm h
   have:m=0:=by omega
   subst this
   exact ((hs 0).1 st h).elim
  | succ n ih =>
   intro m st hm h
   cases m with
   | zero=>exact ((hs 0).1 st h).elim
   | succ m =>
    refine ((hs m).2 st h).mono fun e st' h'=>?_
    cases e with
    | normal =>
     obtain ⟨m',hm',hI⟩:=h'
     exact (ih m' st' (by omega) hI).mono hm'
    | _=>exact h'
 exact all n n st (Nat.le_refl _) h0
theorem Good.share (t:Nat) {d u:D} {c:Code} (ht:look st.env t=some (.d d)) (hu:d.shr=u) (h:Good P C c Q (st.setT t (.d u))):Good P C c Q st:=fun g a w S=>by
 subst hu
 exact h _ a w (S.shareT ht).2
end
theorem lenM {α:Type} (f:α→V) (l:List α):((l.map f).length:Int)=(l.length:Int):=by rw [List.length_map]
theorem ltM {α:Type} (f:α→V) {l:List α} {n:Int} (c:n < (l.length:Int)):n < ((l.map f).length:Int):=by rw [List.length_map];exact c
theorem ltH {α:Type} (f:α→V) {l:List α} {n:Int} {m:Nat} {X:V} (c:n < (l.length:Int)):n < (((l.map f).set m X).length:Int):=by rw [List.length_set,List.length_map];exact c
theorem leM {α:Type} (f:α→V) {l:List α} {n:Int} (c:n≤(l.length:Int)):n≤((l.map f).length:Int):=by rw [List.length_map];exact c
theorem atM {α:Type} (f:α→V) (d:α) {l:List α} {n:Int} (h0:0≤n) (c:n < (l.length:Int)):(l.map f)[n.toNat]? = some (f (l.getD n.toNat d)):=by
 have:n.toNat < l.length:=by omega
 rw [List.getElem?_map,List.getD_eq_getElem?_getD,List.getElem?_eq_getElem this]
 rfl
theorem setM {α:Type} (f:α→V) {l:List α} {n:Nat} {x:α}:(l.map f).set n (f x)=(l.set n x).map f:=by rw [List.map_set]
theorem atH {α:Type} (f:α→V) {l:List α} {n:Int} {X:V} (h0:0≤n) (c:n < (l.length:Int)):((l.map f).set n.toNat X)[n.toNat]? = some X:=by
 by_cases h:n.toNat < l.length
 ·rw [List.getElem?_set_self (by rw [List.length_map];exact h)]
 ·omega
theorem setH {α:Type} (f:α→V) {l:List α} {n:Nat} {X:V} {x:α}:((l.map f).set n X).set n (f x)=(l.set n x).map f:=by rw [List.set_set,List.map_set]
theorem fitM {α:Type} (f:α→V) (l m:List α) {es:List V} (h:FitL es (m.map f)):FitL (l.map f++es) ((l++m).map f):=by
 rw [List.map_append];exact (FitL.refl _).app h
theorem takeM {α:Type} (f:α→V) {l:List α} {n:Nat}:(l.map f).take n=(l.take n).map f:=List.map_take.symm
theorem cutM {α:Type} (f:α→V) {l:List α} {n m:Nat}:((l.map f).drop n).take (m - n)=((l.take m).drop n).map f:=by
 rw [List.drop_take,List.map_take,List.map_drop]
theorem cutMlo {α:Type} (f:α→V) {l:List α} {n:Nat}:((l.map f).drop n).take ((l.map f).length - n)=(l.drop n).map f:=by
 rw [List.take_of_length_le (by rw [List.length_drop];exact Nat.le_refl _),List.map_drop]
theorem shrM {α:Type} (o:Option Nat) (sz:Nat) (f g:α→V) (l:List α) (h:∀ x,(f x).shr=g x):(V.row o sz (l.map f)).shr=.row none sz (l.map g):=by
 rw [V.shr,shrL_eq,List.map_map]
 congr 1
 exact List.map_congr_left fun x _=>h x
theorem bneF {α:Type} [BEq α] [LawfulBEq α] {a b:α} (h:a=b):(a != b)=false:=by rw [h];exact bne_self_eq_false b
theorem notT {b:Bool} (h:b=false):(!b)=true:=by rw [h];rfl
theorem notF {b:Bool} (h:b=true):(!b)=false:=by rw [h];rfl
theorem litL (l:List UInt8):(⟨l.toArray⟩:ByteArray).toList=l:=by rw [ByteArray.toList_eq]
end Go.Rf
end
section
namespace Go.Rf
open Go.RowKit
set_option linter.unusedVariables false
variable [Tabs]
def lookJ (l:Nat):List (Nat × Code × (Nat→St→Prop))→Option (Nat→St→Prop)
 | []=>none
 | (k,_,I) :: ls=>match Nat.beq l k with
  | true=>some I
  | false=>lookJ l ls
def jumpQ (c:Code) (ls:List (Nat × Code × (Nat→St→Prop))) (b:Nat→Prop) (Q:Exit→St→Prop):Exit→St→Prop
 | .goto l,st=>match lookJ l ls with
  | some I=>∃ n,b n∧I n st
  | none=>findLabel c l=none∧Q (.goto l) st
 | e,st=>Q e st
theorem lookJ_mem {l:Nat}:∀ {ls:List (Nat × Code × (Nat→St→Prop))} {I:Nat→St→Prop},lookJ l ls=some I→∃ R,(l,R,I)∈ls
 | [],_,h=>by simp [lookJ] at h
 | (k,R,I') :: ls,I,h=>by
  simp only [lookJ] at h
  split at h
  ·rename_i hb
   cases h
   rw [Nat.eq_of_beq_eq_true hb]
   exact ⟨R,by simp⟩
  ·obtain ⟨R',hm⟩:=lookJ_mem h
   exact ⟨R',by simp [hm]⟩
theorem All.get {α:Type} {f:α→Prop}:∀ {l:List α},All (l.map f)→∀ x∈l,f x
 | [],_,x,h=>by cases h
 | y :: l,.cons h t,x,hx=>by
  rcases List.mem_cons.1 hx with rfl | hx
  ·exact h
  ·exact t.get x hx
theorem Good.scope {P:Program} {C:Ctx} {c:Code} {Q:Exit→St→Prop} {st:St} (ls:List (Nat × Code × (Nat→St→Prop))) (hR:All (ls.map fun x=>findLabel c x.1=some x.2.1))
 (first:Good P C c (jumpQ c ls (fun _=>True) Q) st) (pass:All (ls.map fun x=>∀ n st,x.2.2 n st→Good P C x.2.1 (jumpQ c ls (fun m=>m < n) Q) st)):Good P C (.scope c) Q st:=by
 intro g a w S b k cs
 have hg:∀ l R,findLabel c l=some R→gotoIn l (.inScope c :: k)=some (.code R :: .inScope c :: k):=fun l R hf=>by simp [gotoIn,hf]
 have key:∀ n l I g st a w,lookJ l ls=some I→I n st→SRep C g st a w→∃ R,findLabel c l=some R∧∃ e a' w',(∃ g st,SRep C g st a' w'∧Q e st)∧Arrives P (lone (b.at a (.code R :: .inScope c :: k)) cs w) b k cs e a' w':=by
  intro n
  induction n using Nat.strongRecOn with
  | _ n ih =>
   intro l I g st a w hl hI S
   obtain ⟨R,hm⟩:=lookJ_mem hl
   have hf:findLabel c l=some R:=hR.get _ hm
   refine ⟨R,hf,?_⟩
   obtain ⟨e,a₁,w₁,⟨g₁,st₁,S₁,hq⟩,harr⟩:=pass.get _ hm n st hI g a w S b (.inScope c :: k) cs
   cases e with
   | normal=>exact ⟨.normal,a₁,w₁,⟨g₁,st₁,S₁,hq⟩,Steps.trans harr (.one step_inScope)⟩
   | exit id=>exact ⟨.exit id,a₁,w₁,⟨g₁,st₁,S₁,hq⟩,fun k' hk=>harr k' (by simp [exitTo,hk])⟩
   | goto l' =>
    simp only [jumpQ] at hq
    split at hq
    ·rename_i I' hl'
     obtain ⟨n',hlt,hI'⟩:=hq
     obtain ⟨R',hf',e₂,a₂,w₂,hq₂,harr₂⟩:=ih n' hlt l' I' g₁ st₁ a₁ w₁ hl' hI' S₁
     exact ⟨e₂,a₂,w₂,hq₂,.of_steps (harr _ (hg l' R' hf')) harr₂⟩
    ·exact ⟨.goto l',a₁,w₁,⟨g₁,st₁,S₁,hq.2⟩,fun k' hk=>harr k' (by simp [gotoIn,hq.1,hk])⟩
   | ret=>exact ⟨_,a₁,w₁,⟨g₁,st₁,S₁,hq⟩,harr⟩
   | panic ch=>exact ⟨_,a₁,w₁,⟨g₁,st₁,S₁,hq⟩,harr⟩
   | outgrown=>exact ⟨_,a₁,w₁,⟨g₁,st₁,S₁,hq⟩,harr⟩
 obtain ⟨e,a₁,w₁,⟨g₁,st₁,S₁,hq⟩,harr⟩:=first g a w S b (.inScope c :: k) cs
 cases e with
 | normal=>exact ⟨.normal,a₁,w₁,⟨g₁,st₁,S₁,hq⟩,.head step_scope (Steps.trans harr (.one step_inScope))⟩
 | exit id=>exact ⟨.exit id,a₁,w₁,⟨g₁,st₁,S₁,hq⟩,fun k' hk=>.head step_scope (harr k' (by simp [exitTo,hk]))⟩
 | goto l' =>
  simp only [jumpQ] at hq
  split at hq
  ·rename_i I' hl'
   obtain ⟨n',_,hI'⟩:=hq
   obtain ⟨R',hf',e₂,a₂,w₂,hq₂,harr₂⟩:=key n' l' I' g₁ st₁ a₁ w₁ hl' hI' S₁
   exact ⟨e₂,a₂,w₂,hq₂,.of_steps (.head step_scope (harr _ (hg l' R' hf'))) harr₂⟩
  ·exact ⟨.goto l',a₁,w₁,⟨g₁,st₁,S₁,hq.2⟩,fun k' hk=>.head step_scope (harr k' (by simp [gotoIn,hq.1,hk]))⟩
 | ret=>exact ⟨_,a₁,w₁,⟨g₁,st₁,S₁,hq⟩,.of_steps (.one step_scope) harr⟩
 | panic ch=>exact ⟨_,a₁,w₁,⟨g₁,st₁,S₁,hq⟩,.of_steps (.one step_scope) harr⟩
 | outgrown=>exact ⟨_,a₁,w₁,⟨g₁,st₁,S₁,hq⟩,.of_steps (.one step_scope) harr⟩
end Go.Rf
end
section
namespace Go.Rf
open Go.RowKit
set_option linter.unusedVariables false
variable [Tabs]
def lvo (o e:Nat):Option Nat:=match o with
 | 0=>none
 | _+1=>some e
def rd (xs:List Int) (i:Int):Int:=xs.getD i.toNat 0
def rdOf {α:Type} (d:α) (xs:List α) (i:Int):α:=xs.getD i.toNat d
def bytesOf (s:ByteArray):List Int:=s.data.toList.map fun b=>(b.toNat:Int)
theorem bindI {α β:Type} {a:α} {f:α→Option β} {r:Option β} (h:(some a).bind f=r):f a=r:=h
theorem repM0 {α:Type} (f:α→V) (n:Nat) (x:α):List.replicate n (f x)=(List.replicate n x).map f:=by rw [List.map_replicate]
theorem natLe {m:Int} {L:Nat} (h:m.toNat≤L):m≤(L:Int):=by omega
theorem shrC {a a':V} {l l':List V} (h:a.shr=a') (t:shrL l=l'):shrL (a :: l)=a' :: l':=by rw [shrL,h,t]
theorem ptS {l l':List V} (h:shrL l=l'):V.pt (shrL l)=.pt l':=by rw [h]
theorem aggS {l l':List V} (h:shrL l=l'):(V.agg l).shr=.agg l':=by rw [V.shr,h]
theorem limM1 {α:Type} (f:α→V) {l:List α} {L:Nat} (c:l.length < L):(l.map f).length+1≤L:=by rw [List.length_map];exact c
theorem limMn {α:Type} (f:α→V) {l:List α} {n L:Nat} (c:l.length+n < L):(l.map f).length+n≤L:=by rw [List.length_map];omega
theorem limM2 {α β:Type} (f:α→V) (g:β→V) {l:List α} {m:List β} {L:Nat} (c:l.length+m.length < L):(l.map f).length+(m.map g).length≤L:=by rw [List.length_map,List.length_map];omega
theorem bytesV_map (s:ByteArray):bytesV s=(bytesOf s).map (K .u8):=by
 unfold bytesV bytesOf
 rw [List.map_map];rfl
theorem fitB (l:List Int) (s:ByteArray):FitL (l.map (K .u8)++bytesV s) ((l++bytesOf s).map (K .u8)):=by
 rw [List.map_append,bytesV_map];exact FitL.refl _
theorem limB (f:Int→V) {l:List Int} {s:ByteArray} {L:Nat} (c:l.length+s.size < L):(l.map f).length+(bytesV s).length≤L:=by
 rw [List.length_map,bytesV,List.length_map,Array.length_toList]
 exact Nat.le_of_lt c
theorem strN (l:List Int):StrRep (l.map (K .u8)) (strOfNums l):=⟨l,rfl,rfl⟩
theorem strV {a b l m:List UInt8} (h:a=l) (k:b=m):Value.bool (a == b)=.bool (l == m):=by rw [h,k]
theorem fitR {o:Option Nat} {sz:Nat} {m n:List V} (h:FitL m n):Fit (.row o sz m) (.row o sz n):=.row h
end Go.Rf
end
section
namespace Go.Rf
open Go.RowKit
set_option linter.unusedVariables false
set_option linter.unusedSimpArgs false
variable [Tabs]
def Indep {α:Type} (P:Program) (s:Sem α):Prop:=∀ w w' w1 x,s.run P w=.ok x w1→w1=w∧s.run P w'=.ok x w'
section
variable {P:Program} {α β:Type}
theorem Indep.pure (a:α):Indep P (pure a:Sem α):=fun w w' w1 x h=>by
 simp only [Sem.run_pure,Result.ok.injEq] at h ⊢
 obtain ⟨rfl,rfl⟩:=h
 exact ⟨rfl,by simp⟩
theorem Indep.halt (h:Halt):Indep P (.halt h:Sem α):=fun w w' w1 x hh=>by cases hh
theorem Indep.stuck (s:String):Indep P (Go.stuck s:Sem α):=.halt _
theorem Indep.unsup (s:Unsupported):Indep P (unsupported s:Sem α):=.halt _
theorem Indep.bind {x:Sem α} {f:α→Sem β} (hx:Indep P x) (hf:∀ a,Indep P (f a)):Indep P (x >>= f):=fun w w' w1 b h=>by
 simp only [Sem.run_bind] at h ⊢
 cases hr:x.run P w with
 | ok a w2 =>
  rw [hr] at h
  simp only [Result.andThen_ok] at h
  obtain ⟨rfl,e⟩:=hx w w' w2 a hr
  rw [e]
  simp only [Result.andThen_ok]
  exact hf a w2 w' w1 b h
 | halt q w2=>rw [hr] at h;cases h
theorem Indep.prog:Indep P program:=fun w w' w1 x h=>by
 simp only [run_program,Result.ok.injEq] at h ⊢
 obtain ⟨rfl,rfl⟩:=h
 exact ⟨rfl,by simp⟩
theorem Indep.underlying (t:TypeId):Indep P (underlying t):=by
 unfold Go.underlying
 refine .bind .prog fun p=>?_
 split
 ·exact .pure _
 ·exact .stuck _
theorem Indep.info (t:TypeId):Indep P (typeInfo t):=by
 unfold typeInfo
 refine .bind .prog fun p=>?_
 split
 ·exact .pure _
 ·exact .stuck _
theorem Indep.sizeOf (t:TypeId):Indep P (sizeOf t):=.bind (.info t) fun i=>.pure _
theorem Indep.isAgg (t:TypeId):Indep P (isAgg t):=by
 unfold Go.isAgg
 refine .bind (.underlying t) fun d=>?_
 split<;>exact .pure _
theorem Indep.part (t:TypeId) (cs:Array Value) (o:Nat):Indep P (part t cs o):=by
 unfold Go.part
 refine .bind (.isAgg t) fun b=>?_
 split
 ·exact .bind (.sizeOf t) fun n=>.pure _
 ·split
  ·exact .pure _
  ·exact .stuck _
theorem Indep.asIntOf (v:Value):Indep P (asIntOf v):=by
 unfold Go.asIntOf
 split
 ·exact .pure _
 ·exact .unsup _
 ·exact .stuck _
theorem Indep.asBool (v:Value):Indep P (asBool v):=by
 unfold Go.asBool
 split
 ·exact .pure _
 ·exact .stuck _
theorem Indep.asAgg (v:Value):Indep P (asAgg v):=by
 unfold Go.asAgg
 split
 ·exact .pure _
 ·exact .stuck _
theorem Indep.sureAddr (v:Value):Indep P (Instr.sureAddr v):=by
 unfold Instr.sureAddr
 split
 ·exact .pure _
 ·exact .stuck _
def Never {α:Type} (P:Program) (s:Sem α):Prop:=∀ w w1 x,s.run P w≠.ok x w1
theorem Never.indep {s:Sem α} (h:Never P s):Indep P s:=fun w w' w1 x hh=>(h w w1 x hh).elim
theorem Never.halt (h:Halt):Never P (.halt h:Sem α):=fun w w1 x hh=>by cases hh
theorem Never.bind {x:Sem α} {f:α→Sem β} (hf:∀ a,Never P (f a)):Never P (x >>= f):=fun w w1 b h=>by
 simp only [Sem.run_bind] at h
 cases hr:x.run P w with
 | ok a w2=>rw [hr] at h;exact hf a _ _ _ h
 | halt q w2=>rw [hr] at h;cases h
theorem Never.rt (e:RuntimeError):Never P (runtimePanic e:Sem α):=by
 unfold runtimePanic
 refine .bind fun p=>?_
 cases e<;>first | exact .halt _ | (unfold goPanic;exact .halt _) | (unfold goPanic;exact .bind fun _=>.bind fun _=>.halt _)
theorem Never.bounds (k:IntKind) (x y:Int) (c:BoundsCode):Never P (boundsPanic k x y c:Sem α):=by
 unfold boundsPanic
 dsimp only
 split<;>exact .bind fun b=>.rt _
theorem Indep.zero (t:TypeId):Indep P (zeroValue t):=by
 unfold zeroValue
 refine .bind (.info t) fun i=>?_
 split
 ·exact .pure _
 ·exact .unsup _
theorem Indep.indexAt (t:TypeId) (x i:Value):Indep P (Instr.indexAt t x i):=by
 unfold Instr.indexAt
 repeat' (first | exact .pure _ | exact .stuck _ | exact .unsup _ | exact (Never.bounds _ _ _ _).indep | exact .sizeOf _ | exact .underlying _ | exact .sureAddr _ | exact .asIntOf _ | (refine .bind ?_ fun q=>?_) | split | dsimp only)
theorem Indep.extract (x:Value) (i:Nat):Indep P (Instr.extract x i):=by
 unfold Instr.extract
 repeat' (first | exact .pure _ | exact .stuck _ | split)
theorem Indep.field (t:TypeId) (x:Value) (i:Nat):Indep P (Instr.field t x i):=by
 unfold Instr.field
 repeat' (first | exact .pure _ | exact .stuck _ | exact .underlying _ | exact .asAgg _ | exact .part _ _ _ | (refine .bind ?_ fun q=>?_) | split)
theorem Indep.index (t:TypeId) (x i:Value):Indep P (Instr.index t x i):=by
 unfold Instr.index
 repeat' (first | exact .pure _ | exact .stuck _ | exact (Never.bounds _ _ _ _).indep | exact .sizeOf _ | exact .underlying _ | exact .asIntOf _ | exact .part _ _ _ | (refine .bind ?_ fun q=>?_) | split | dsimp only)
theorem Indep.mapM {α β:Type} {f:α→Sem β} (hf:∀ a,Indep P (f a)):∀ l:List α,Indep P (l.mapM f)
 | []=>by rw [List.mapM_nil];exact .pure _
 | a :: l=>by
  rw [List.mapM_cons]
  exact .bind (hf a) fun b=>.bind (Indep.mapM hf l) fun bs=>.pure _
theorem Indep.mapA {α β:Type} {f:α→Sem β} (hf:∀ a,Indep P (f a)) (l:Array α):Indep P (l.mapM f):=by
 rw [Array.mapM_eq_mapM_toList]
 intro w w' w1 x h
 simp only [Sem.run_map] at h ⊢
 cases hr:(l.toList.mapM f).run P w with
 | ok a w2 =>
  rw [hr] at h
  obtain ⟨e1,e2⟩:=Indep.mapM hf l.toList w w' w2 a hr
  rw [e2]
  simp only [Result.andThen_ok,Result.ok.injEq] at h ⊢
  exact ⟨by rw [← h.2,e1],h.1,trivial⟩
 | halt q w2=>rw [hr] at h;cases h
theorem Indep.build (t:TypeId) (ps:Array (Nat × Value)):Indep P (Instr.build t ps):=by
 unfold Instr.build
 repeat' (first | exact .pure _ | exact .stuck _ | exact .zero _ | exact .sizeOf _ | exact .underlying _ | exact .mapA (fun f=>.bind (.sizeOf _) fun _=>.pure _) _ | (refine .bind ?_ fun q=>?_) | split)
end
end Go.Rf
end
section
namespace Go.Rf
open Go.RowKit
set_option linter.unusedVariables false
set_option linter.unusedSimpArgs false
variable [Tabs]
section
variable {P:Program}
def indepOp (ρ:Operand→Value):Op→Bool
 | .move _ | .assign _ | .field _ _ _ | .extract _ _ | .build _ _ | .indexAddr _ _ _ | .pick _ _ _=>true
 | .nilCheck x=>match ρ x with
  | .pointer (some _)=>true
  | _=>false
 | _=>false
theorem Indep.op {ρ:Operand→Value} {o:Oper} (h:indepOp ρ o.op=true):Indep P (execOp ρ o):=by
 unfold execOp
 cases ho:o.op<;>rw [ho] at h<;>simp only [indepOp] at h<;>try (cases h;done)
 all_goals dsimp only
 case move=>exact .pure _
 case assign=>exact .pure _
 case pick=>exact .bind (.asBool _) fun _=>.pure _
 case build=>exact .bind (.build _ _) fun _=>.pure _
 case field=>exact .bind (.field _ _ _) fun _=>.pure _
 case indexAddr=>exact .bind (.indexAt _ _ _) fun _=>.pure _
 case extract=>exact .bind (.extract _ _) fun _=>.pure _
 case nilCheck x =>
  split at h
  ·rename_i a hx;rw [hx];exact .pure _
  ·cases h
end
def Ctx.still (p:Pub) (w:World) (N:Nat):Ctx:={ W:=w,p0:=p,Fz:=fun _=>False,N:=N }
def QRep (p:Pub) (N:Nat) (q:List (Nat × X)) (a:Act) (w:World):Prop:=∃ g,SRep (Ctx.still p w N) g ⟨q,[]⟩ a w
section
variable {P:Program} {C:Ctx}
theorem QRep.pubB {p:Pub} {N:Nat} {q:List (Nat × X)} {g:G} {a:Act} {w:World} (S:SRep (Ctx.still p w N) g ⟨q,[]⟩ a w) (b:Nat) (h:g.pub b):p b:=by
 rcases S.pub b h with h1 | h1 | h1
 ·exact h1
 ·have:=S.publt b h
  simp only [Ctx.still] at h1
  omega
 ·exact h1.elim
theorem wp_value {o:Oper} {a:Act} {w:World} {next:Act→World→Prop} (hi:Indep P (execOp a.eval o)) (hv:∀ w' x,(execOp a.eval o).run P w=.ok x w'→∃ v,x=.value v) (h:o.wp P a w next fun _ _ _=>False) :
 ∃ v,(∀ w',(execOp a.eval o).run P w'=.ok (.value v) w')∧next (a.put o.dst v) w:=by
 unfold Oper.wp at h
 cases hr:(execOp a.eval o).run P w with
 | halt q w1 =>
  rw [hr] at h
  cases q<;>simp only [Oper.upon] at h
 | ok x w1 =>
  obtain ⟨v,rfl⟩:=hv _ _ hr
  rw [hr,Oper.upon_value] at h
  obtain ⟨rfl,_⟩:=hi w w w1 _ hr
  exact ⟨v,fun w'=>(hi w1 w' w1 _ hr).2,h⟩
theorem indep_value {ρ:Operand→Value} {o:Oper} (h:indepOp ρ o.op=true) {w w':World} {x:Next} (hr:(execOp ρ o).run P w=.ok x w'):∃ v,x=.value v:=by
 have bindv:∀ (s:Sem Value),((do let v ← s;pure (Next.value v):Sem Next).run P w=.ok x w')→∃ v,x=.value v:=fun s hs=>by
  simp only [Sem.run_bind] at hs
  cases hq:s.run P w with
  | ok v w2=>rw [hq] at hs;simp only [Result.andThen_ok,Sem.run_pure,Result.ok.injEq] at hs;exact ⟨v,hs.1.symm⟩
  | halt q w2=>rw [hq] at hs;cases hs
 have purev:∀ {w w':World} (v:Value),((pure (Next.value v):Sem Next).run P w=.ok x w')→∃ v,x=.value v:=fun v hs=>by
  simp only [Sem.run_pure,Result.ok.injEq] at hs;exact ⟨v,hs.1.symm⟩
 unfold execOp at hr
 cases ho:o.op<;>rw [ho] at h hr<;>simp only [indepOp] at h<;>try (cases h;done)
 all_goals dsimp only at hr
 case move=>exact purev _ hr
 case assign=>exact purev _ hr
 case pick c y z =>
  simp only [Sem.run_bind] at hr
  cases hq:(asBool (ρ c)).run P w with
  | ok v w2=>rw [hq] at hr;exact purev _ hr
  | halt q w2=>rw [hq] at hr;cases hr
 case build=>exact bindv _ hr
 case field=>exact bindv _ hr
 case indexAddr=>exact bindv _ hr
 case extract=>exact bindv _ hr
 case nilCheck y =>
  split at h
  ·rename_i b hx;rw [hx] at hr;exact purev _ hr
  ·cases h
end
end Go.Rf
end
section
namespace Go.Rf
open Go.RowKit
set_option linter.unusedVariables false
set_option linter.unusedSimpArgs false
variable [Tabs]
section
variable {P:Program} {ops:Array Oper} {Q:Exit→Act→World→Prop}
def anyS (P:Program) (ops:Array Oper) (Q:Exit→Act→World→Prop) (S:Array Bool→World→Prop):Nat→Array Bool→Act→World→Prop
 | 0,L,a,w=>Region.ready .any ops L=[]∧Q .normal a w
 | n+1,L,a,w=>(Region.ready .any ops L=[]→Q .normal a w) ∧
  ∀ i∈Region.ready .any ops L,wpOp P ops Q i (fun a' w'=>S (L.setIfInBounds i true) w'∧anyS P ops Q S n (L.setIfInBounds i true) a' w') a w
theorem anyS.any {S:Array Bool→World→Prop}:∀ (n:Nat) (L:Array Bool) (a:Act) (w:World),anyS P ops Q S n L a w→wpAny P .any ops Q n L a w
 | 0,_,_,_,h=>h
 | n+1,_,_,_,h=>⟨h.1,fun i hi=>wpOp_mono (fun a' w' h'=>anyS.any n _ a' w' h'.2) (h.2 i hi)⟩
def Shut (ops:Array Oper) (L:Array Bool):Prop:=∀ j o,ops[j]? = some o→L.getD j false=true→∀ e∈o.after,Region.binds .any e=true→L.getD e.on false=true
theorem Shut.add {L:Array Bool} (h:Shut ops L) {i:Nat} (hi:i∈Region.ready .any ops L):Shut ops (L.setIfInBounds i true):=by
 intro j o hj hl e he hb
 by_cases hij:i=j
 ·subst hij
  obtain ⟨_,o',ho',hall⟩:=mem_ready.1 hi
  rw [hj] at ho'
  cases ho'
  exact getD_set_true (hall e he hb)
 ·rw [getD_set_ne false hij] at hl
  exact getD_set_true (h j o hj hl e he hb)
def direct (ops:Array Oper) (j:Nat):List Nat:=match ops[j]? with
 | some o=>(o.after.toList.filter fun e=>Region.binds .any e).map (·.on)
 | none=>[]
def pathB (ops:Array Oper) (i:Nat):List Nat→Nat→Bool
 | [],j=>(direct ops j).contains i
 | d :: p,j=>(direct ops j).contains d && pathB ops i p d
theorem Shut.direct {L:Array Bool} (h:Shut ops L) {j b:Nat} (hj:L.getD j false=true) (hb:b∈direct ops j):L.getD b false=true:=by
 unfold Rf.direct at hb
 split at hb
 ·rename_i o ho
  simp only [List.mem_map,List.mem_filter] at hb
  obtain ⟨e,⟨h1,h2⟩,rfl⟩:=hb
  exact h j o ho hj e (Array.mem_toList_iff.1 h1) h2
 ·cases hb
theorem Shut.path {L:Array Bool} (h:Shut ops L) {i:Nat}:∀ {p:List Nat} {j:Nat},L.getD j false=true→pathB ops i p j=true→L.getD i false=true
 | [],j,hj,hp=>h.direct hj (by simpa [pathB] using hp)
 | d :: p,j,hj,hp=>by
  simp only [pathB,Bool.and_eq_true] at hp
  exact Shut.path h (p:=p) (h.direct hj (by simpa using hp.1)) hp.2
def SL (P:Program) (ops:Array Oper) (Sq:World→Prop) (L:Array Bool) (w:World):Prop:=(∀ j o,ops[j]? = some o→L.getD j false=true→calmK P o.op=true)→Sq w
theorem SL.iff {Sq:World→Prop} {L:Array Bool} {w:World} {i:Nat} {o:Oper} (hi:ops[i]? = some o) (hc:calmK P o.op=true):SL P ops Sq (L.setIfInBounds i true) w↔SL P ops Sq L w:=by
 unfold SL
 constructor
 ·intro h k
  refine h fun j o' hj hl=>?_
  by_cases hij:i=j
  ·subst hij;rw [hi] at hj;cases hj;exact hc
  ·rw [getD_set_ne false hij] at hl;exact k j o' hj hl
 ·intro h k
  refine h fun j o' hj hl=>?_
  exact k j o' hj (getD_set_true hl)
def aheadB (P:Program) (ops:Array Oper) (i:Nat) (ps:List (List Nat)):Bool:=(List.range ops.size).all fun j=>match ops[j]? with
 | some o=>calmK P o.op || ps.any fun p=>pathB ops i p j
 | none=>true
theorem ahead_calm {Sq:World→Prop} {L:Array Bool} {w:World} {i:Nat} {ps:List (List Nat)} (hS:Shut ops L) (ha:aheadB P ops i ps=true) (hn:L.getD i true=false) (h:SL P ops Sq L w):Sq w:=by
 refine h fun j o hj hl=>?_
 have hlt:=(Array.getElem?_eq_some_iff.1 hj).1
 have:=List.all_eq_true.1 ha j (List.mem_range.2 hlt)
 simp only [hj,Bool.or_eq_true] at this
 rcases this with h1 | h1
 ·exact h1
 ·obtain ⟨p,_,hp⟩:=List.any_eq_true.1 h1
  have:=hS.path hl hp
  rcases Nat.lt_or_ge i L.size with h' | h'
  ·simp [h'] at hn this;rw [hn] at this;cases this
  ·simp [Array.getElem?_eq_none h'] at hn
theorem anyS.first {Sq R:World→Prop} {i:Nat} {oi:Oper} {v:Value} (hi:ops[i]? = some oi) (hs:Region.noSelect ops=true) (hR:∀ L w,Shut ops L→L.getD i true=false→SL P ops Sq L w→R w) (hc:calmK P oi.op=true)
 (hQ:∀ c a w,Q (.panic c) (a.put oi.dst v) w→Q (.panic c) a w) :
 ∀ (n:Nat) (L:Array Bool) (a:Act) (w:World),Shut ops L →
  (∀ j oj,ops[j]? = some oj→j≠i→L.getD j true=false→(∀ e∈oj.after,Region.binds .any e=true→e.on≠i)→oi.apart ops oj=true) →
  i∈Region.ready .any ops L→YieldsIf P ops R oi v a→SL P ops Sq L w →
  anyS P ops Q (SL P ops Sq) n (L.setIfInBounds i true) (a.put oi.dst v) w→anyS P ops Q (SL P ops Sq) (n+1) L a w:=by
 intro n
 have hsel:=Region.noSelect_spec hs
 induction n with
 | zero =>
  intro L a w hsh hfree hr hy hS H
  refine ⟨fun h=>(by rw [h] at hr;cases hr),fun j hj=>?_⟩
  by_cases hji:j=i
  ·subst hji
   exact hy.wpOp hi (hR L w hsh (mem_ready.1 hr).1 hS) ⟨(SL.iff hi hc).2 hS,H⟩
  ·have:=ready_mono hj hji
   rw [H.1] at this
   cases this
 | succ n ih =>
  intro L a w hsh hfree hr hy hS H
  refine ⟨fun h=>(by rw [h] at hr;cases hr),fun j hj=>?_⟩
  by_cases hji:j=i
  ·subst hji
   exact hy.wpOp hi (hR L w hsh (mem_ready.1 hr).1 hS) ⟨(SL.iff hi hc).2 hS,H⟩
  ·have h1:=H.2 j (ready_mono hj hji)
   obtain ⟨hjun,oj,hoj,hall⟩:=mem_ready.1 hj
   have hnot:∀ e∈oj.after,Region.binds .any e=true→e.on≠i:=fun e he hb heq=>by
    have h1:=hall e he hb
    have h0:=(mem_ready.1 hr).1
    rw [heq] at h1
    rcases Nat.lt_or_ge i L.size with h' | h'
    ·simp [h'] at h0 h1;rw [h0] at h1;cases h1
    ·simp [Array.getElem?_eq_none h'] at h1
   have h2:=wpOp_putIf hoj (hfree j oj hoj hji hjun hnot) (fun cs b=>hsel i oi cs b hi) (fun cs b=>hsel j oj cs b hoj) hQ hy h1
   refine wpOp_mono (fun a' w' h3=>?_) h2
   obtain ⟨hy',hS',H'⟩:=h3
   have hcomm:(L.setIfInBounds i true).setIfInBounds j true=(L.setIfInBounds j true).setIfInBounds i true:=Array.setIfInBounds_comm _ _ (fun e=>hji e.symm)
   rw [hcomm] at hS' H'
   have hS'':=(SL.iff (L:=L.setIfInBounds j true) hi hc).1 hS'
   refine ⟨hS'',ih (L.setIfInBounds j true) a' w' (hsh.add hj) (fun k ok hk hki hun hno=>?_) (ready_mono hr (Ne.symm hji)) hy' hS'' H'⟩
   refine hfree k ok hk hki ?_ hno
   by_cases hjk:j=k
   ·subst hjk;exact hjun
   ·rw [getD_set_ne true hjk] at hun;exact hun
end
end Go.Rf
end
section
namespace Go.Rf
open Go.RowKit
set_option linter.unusedVariables false
set_option linter.unusedSimpArgs false
variable [Tabs]
section
variable {P:Program} {C:Ctx}
theorem wp_form {o:Oper} {a:Act} {w:World} {next:Act→World→Prop} {Q:Exit→Act→World→Prop} (h:o.wp P a w next Q) :
 o.wp P a w (fun a' w'=>next a' w'∧((∃ v,a'=a.put o.dst v)∨a'.defers≠[])) Q:=by
 unfold Oper.wp at h ⊢
 generalize (execOp a.eval o).run P w=r at *
 cases r with
 | ok n w' =>
  cases n<;>simp only [Oper.upon] at h ⊢
  case value u=>exact ⟨h,.inl ⟨u,rfl⟩⟩
  case skip=>exact ⟨h,.inl ⟨undef,rfl⟩⟩
  case defer d=>exact ⟨h,.inr (by cases o.dst<;>simp [Act.put])⟩
  case enter f args =>
   refine Calls.mono h fun e w'' he=>?_
   cases e with
   | returned u=>exact ⟨he,.inl ⟨u,rfl⟩⟩
   | panicked c=>exact he
   | outgrown=>exact he
  case row row args=>exact Rows.mono h fun u w'' he=>⟨he,.inl ⟨u,rfl⟩⟩
 | halt x w' =>
  cases x<;>simp only [Oper.upon] at h ⊢
  case panic u=>exact h
def qPick (v:Option V) (u:V):Option (V × List Prop):=match v with
 | none=>match u.noOwn with
  | true=>some (u,[])
  | false=>none
 | some v=>some (v,[u.shr=v])
def qOne (env:St) (t:Nat) (v:Option V):Option (V × List Prop):=match look env.env t with
 | some (.d (.v u))=>qPick v u
 | some (.al (.top r))=>match rootVal env r with
  | some u=>qPick v u
  | none=>none
 | some (.d (.ptr id off))=>match env.box[id]?,v with
  | some (.cells cs),some u=>match undv (cs.drop off) with
   | some us=>some (u,[V.pt (shrL us)=u])
   | none=>none
  | _,_=>none
 | some (.pa r sz i j)=>match rootVal env r with
  | some (.row (some _) sz' es)=>match v with
   | some (.tup [x,u])=>match Nat.beq sz sz' with
    | true=>some (u,[es[i]? = some x,V.pt (shrL (x.cells.drop j))=u])
    | false=>none
   | _=>none
  | _=>none
 | _=>none
def qInit (env:St):List (Nat × Option V)→Option (List (Nat × X) × List Prop)
 | []=>some ([],[])
 | (t,v) :: l=>match qOne env t v with
  | some (u,o)=>match qInit env l with
   | some (r,os)=>some ((t,.d (.v u)) :: r,o++os)
   | none=>none
  | none=>none
theorem look_qInit {env:St}:∀ {l:List (Nat × Option V)} {q:List (Nat × X)} {os:List Prop} {t:Nat} {y:X},qInit env l=some (q,os)→All os→look q t=some y→∃ v u o,qOne env t v=some (u,o)∧All o∧y=.d (.v u)
 | [],q,os,t,y,h,_,hy=>by cases h;simp [look] at hy
 | (s,v) :: l,q,os,t,y,h,hA,hy=>by
  simp only [qInit] at h
  split at h
  ·rename_i u o ho
   split at h
   ·rename_i r os' hr
    cases h
    simp only [look] at hy
    cases hb:Nat.beq t s with
    | true =>
     rw [hb] at hy
     cases hy
     have:=Nat.eq_of_beq_eq_true hb
     subst this
     exact ⟨v,u,o,ho,hA.left,rfl⟩
    | false=>rw [hb] at hy;exact look_qInit hr (All.right hA) hy
   ·cases h
  ·cases h
def G.all (g:G):Pub:=fun b=>g.pub b∨∃ h,g.own b=some h
def G.still (p:Pub):G:={ pub:=p,own:=fun _=>none,n:=0,loc:=fun _=>0,TE:=fun _=>[],TB:=fun _=>[] }
theorem QRep.start {g:G} {st:St} {a:Act} {w:World} (S:SRep C g st a w) {ks:List (Nat × Option V)} {q:List (Nat × X)} {os:List Prop} (hq:qInit st ks=some (q,os)) (hA:All os):QRep g.all C.N q a w:=by
 have plt:∀ b,g.all b→b < w.heap.size:=by
  rintro b (h | ⟨h,ho⟩)
  ·exact S.publt b h
  ·exact (S.own b h ho).2.1
 have pick:∀ {val:Value} {u r:V} {v:Option V} {o:List Prop} {T:List Nat} {h:Nat ⊕ Nat},RepD g w val (.v u) T→(∀ b∈T,g.own b=some h)→qPick v u=some (r,o)→All o→Rep g.all w val r []:=by
  intro val u r v o T h hr ho hp hA
  unfold qPick at hp
  split at hp
  ·split at hp
   ·rename_i hn
    cases hp
    have hr:=RepD.inv hr
    have hT:=hr.noOwn hn
    subst hT
    exact hr.keep ⟨fun b hb=>.inl hb,fun _ _=>rfl⟩ (fun _ h=>by cases h)
   ·cases hp
  ·cases hp
   have e:u.shr=r:=by cases hA with | cons h _=>exact h
   rw [← e]
   have:=Rep.share (S:=T) (RepD.inv hr) (fun b hb=>hb)
   refine this.keep ⟨?_,fun _ _=>rfl⟩ (fun _ h=>by cases h)
   rintro b (hb | hb)
   ·exact .inl hb
   ·exact .inr ⟨h,ho b hb⟩
 refine ⟨G.still g.all,S.defers,S.tmps,rfl,rfl,rfl,Nat.le_refl _,fun _ _ _=>rfl,fun b hb=>.inl hb,plt,rfl,?_,fun _=>List.nodup_nil,fun id b hb=>by simp at hb,fun _=>List.nodup_nil,fun b h ho=>(by cases ho),fun i l h=>(by simp [Ctx.still] at h),Tabs.s ⟨fun b hb=>.inl hb,fun _ _=>rfl⟩ S.tab⟩
 intro t y hy
 obtain ⟨v,u,o,ho,hAo,rfl⟩:=look_qInit hq hA hy
 unfold qOne at ho
 split at ho
 ·rename_i u' hl
  obtain ⟨h1,h2,h3⟩:=S.env t _ hl
  exact ⟨h1,.v (pick h2 h3 ho hAo),fun b hb=>by cases hb⟩
 ·rename_i r hl
  split at ho
  ·rename_i u' hu
   obtain ⟨h1,h2,h3⟩:=S.env t _ hl
   obtain ⟨v',T,k1,k2,k3,_⟩:=rootVal_ok S hu
   have hv:pvR g a w r=some (a.tmps.getD t undef):=h2.2
   rw [k1] at hv
   have e:v'=a.tmps.getD t undef:=Option.some.inj hv
   subst e
   exact ⟨h1,.v (pick (.v k2) k3 ho hAo),fun b hb=>by cases hb⟩
  ·cases ho
 ·rename_i id off hl
  split at ho
  ·rename_i cs u0 hb
   split at ho
   ·rename_i us hus
    cases ho
    have hu:V.pt (shrL us)=u:=by cases hAo with | cons h _=>exact h
    subst hu
    obtain ⟨h1,h2,h3⟩:=S.env t _ hl
    have h2:RepD g w (a.tmps.getD t undef) (.ptr id off) (g.TE t):=h2
    obtain ⟨⟨cur,el,A,hT,hh,hr,hc1⟩,hown⟩:=S.box id _ hb
    obtain ⟨A1,B1,hAB,_,hd⟩:=hr.cut off
    rw [undv_eq hus] at hd
    have hd:=hd.undv
    have hx:a.tmps.getD t undef=.pointer (some ⟨g.loc id,off,none⟩):=by
     generalize a.tmps.getD t undef=v at h2
     generalize g.TE t=T at h2
     cases h2
     rfl
    refine ⟨h1,?_,fun b hb=>by cases hb⟩
    show RepD (G.still g.all) w (a.tmps.getD t undef) _ _
    rw [hx]
    have hsh:=(hd.share (S:=g.TB id) (fun b hb=>by rw [hT,hAB];simp [hb]))
    refine .v (Rep.pt (hsh.keep ⟨?_,fun _ _=>rfl⟩ (fun _ h=>by cases h)) (fun u hu=>hc1 u (List.mem_of_mem_drop hu)) ?_ (fun j u hj=>?_))
    ·rintro b (hb | hb)
     ·exact .inl hb
     ·exact .inr ⟨_,hown b hb⟩
    ·exact .inr ⟨_,hown _ (by rw [hT];simp)⟩
    ·rw [List.getElem?_drop] at hj
     simp only [World.cell?,hh]
     simpa using hj
   ·cases ho
  ·cases ho
 ·rename_i r sz i j hl
  split at ho
  ·rename_i et sz' es hrv
   split at ho
   ·rename_i x u0
    split at ho
    ·rename_i hb
     have hb:=Nat.eq_of_beq_eq_true hb
     subst hb
     cases ho
     cases hAo with
     | cons hel hAo =>
     have hu:V.pt (shrL (x.cells.drop j))=u:=by cases hAo with | cons h _=>exact h
     subst hu
     obtain ⟨h1,⟨_,b,h3,h4,h5⟩,_⟩:=S.env t _ hl
     obtain ⟨rv,T,hpv,hr,hown,_⟩:=rootVal_ok S hrv
     obtain ⟨xs,A,hT,hc,hl',hone,how⟩:=own_inv hr
     obtain ⟨T1,A1,T2,hT',hseg⟩:=RepL.elem hc hl' hel
     obtain ⟨A2,B2,hA2,_,hseg2⟩:=hseg.cut j
     rw [hpv] at h3
     simp only [Option.bind_some] at h3
     have how':=how
     rcases how.2 with ⟨hv0,hn⟩ | ⟨b',cap,cur,hv0,_,hg,_⟩
     ·rw [hv0] at h3;simp [Value.ownBlock] at h3
     ·rw [hv0] at h3
      simp only [Value.ownBlock,Option.some.injEq] at h3
      subst h3
      subst hv0
      have hrange:w.rangeAt b' 0 xs:=fun k v hk=>by
       have hk':k < es.length*sz:=by
        rw [← how.1]
        rcases Nat.lt_or_ge k xs.length with h | h
        ·exact h
        ·rw [List.getElem?_eq_none h] at hk;cases hk
       rw [Nat.zero_add,how'.cellAt k hk',hk]
      have hrange2:w.rangeAt b' (i*sz+j) (((xs.drop (i*sz)).take sz).drop j):=by
       have h0:=rangeAt_seg hrange (i*sz) sz
       intro k v hk
       rw [List.getElem?_drop] at hk
       have:=h0 _ _ hk
       rwa [show 0+i*sz+(j+k)=i*sz+j+k by omega] at this
      refine ⟨h1,?_,fun b hb=>by cases hb⟩
      show RepD (G.still g.all) w (a.tmps.getD t undef) _ _
      rw [h5]
      have hsh:=(hseg2.share (S:=T) (fun b hb=>by rw [hT,hT',hA2];simp [hb]))
      refine .v (Rep.pt (hsh.keep ⟨?_,fun _ _=>rfl⟩ (fun _ h=>by cases h)) (fun u hu=>hone u ?_) (.inr ⟨_,h4⟩) (fun k u hk=>hrange2 k u hk))
      ·rintro b (hb | hb)
       ·exact .inl hb
       ·exact .inr ⟨_,hown b hb⟩
      ·exact List.mem_of_mem_drop (List.mem_of_mem_take (List.mem_of_mem_drop hu))
    ·cases ho
   ·cases ho
  ·cases ho
 ·cases ho
theorem QRep.drop {p:Pub} {N:Nat} {q:List (Nat × X)} {a:Act} {w:World} (h:QRep p N q a w) {d:Nat} (hd:d < N) (v:Value):QRep p N (putE q d (.d (.v .any))) (a.put (some d) v) w:=by
 obtain ⟨g,S⟩:=h
 exact ⟨_,S.put0 (Calm.refl w) hd (.v (.any v))⟩
end
end Go.Rf
end
