import Derived.Test.YtdombjceoocnhaaGreatDoorRSec1Back1
set_option linter.unusedSectionVars false
set_option linter.unusedSimpArgs false
set_option linter.unusedVariables false
namespace Go.Rf
open Go.RowKit
section
variable [Tabs]
def setC (el:V) (j:Nat) (ds:List V):V:=match el with
 | .agg cs=>.agg (cs.take j++ds++cs.drop (j+ds.length))
 | x=>match ds with
  | [d]=>d
  | _=>x
def oneD:V→Bool
 | .agg _=>false
 | _=>true
def setOk (el:V) (j:Nat) (ds:List V):Bool:=match el with
 | .agg cs=>Nat.ble (j+ds.length) cs.length
 | _=>match ds with
  | [d]=>oneD d && Nat.beq j 0
  | _=>false
theorem setC_cells {el:V} {j:Nat} {ds:List V} (h:setOk el j ds=true):(setC el j ds).cells=el.cells.take j++ds++el.cells.drop (j+ds.length)∧j+ds.length≤el.cells.length:=by
 cases el with
 | agg cs=>exact ⟨rfl,Nat.le_of_ble_eq_true h⟩
 | _ =>
  simp only [setOk] at h
  split at h
  ·rename_i d
   rw [Bool.and_eq_true] at h
   have hj:=Nat.eq_of_beq_eq_true h.2
   subst hj
   refine ⟨?_,by simp [V.cells]⟩
   have hd:=h.1
   cases d<;>simp_all [setC,V.cells,oneD]
  ·cases h
theorem flat_set {sz:Nat} {el el2:V} {j:Nat} {ds:List V} (h2:el2.cells=el.cells.take j++ds++el.cells.drop (j+ds.length)) (hj:j+ds.length≤el.cells.length):∀ {es:List V} {i:Nat},(∀ e∈es,e.cells.length=sz)→es[i]? = some el →
 (es.set i el2).flatMap V.cells=(es.flatMap V.cells).take (i*sz+j)++ds++(es.flatMap V.cells).drop (i*sz+j+ds.length)
 | [],i,_,h=>by simp at h
 | e :: es,0,hs,h=>by
  simp only [List.getElem?_cons_zero,Option.some.injEq] at h
  subst h
  simp only [List.set_cons_zero,List.flatMap_cons,h2,Nat.zero_mul,Nat.zero_add]
  rw [List.take_append_of_le_length (by omega),List.drop_append_of_le_length (by omega)]
  simp
 | e :: es,i+1,hs,h=>by
  simp only [List.getElem?_cons_succ] at h
  have ih:=flat_set h2 hj (es:=es) (i:=i) (fun e he=>hs e (by simp [he])) h
  have he:=hs e (by simp)
  simp only [List.set_cons_succ,List.flatMap_cons,ih]
  have e1:(i+1)*sz+j=e.cells.length+(i*sz+j):=by rw [he,Nat.add_mul,Nat.one_mul];omega
  have e2:(i+1)*sz+j+ds.length=e.cells.length+(i*sz+j+ds.length):=by rw [e1];omega
  rw [e1,← e1,e2,e1,List.take_length_add_append,List.drop_length_add_append]
  simp
section
variable {P:Program} {C:Ctx} {g:G} {st:St} {a:Act} {w w':World}
theorem setRow_grown (w:World) (b:Nat) (cs:Array Value):w.grownBy (w.setRow b cs) (some b) :=
 ⟨rfl,rfl,rfl,by simp,fun k _ hk=>setRow_other w b k cs (fun e=>hk (by rw [e]))⟩
theorem OpOk.storeP {o:Oper} {e e1:E} {t:TypeId} {s sz i j et:Nat} {r:Root} {x:Operand} {src:Option Nat} {es es' ds:List V} {el el':V} (ho:o.op=.store t (.tmp s) x) (hd:o.dst=none)
 (hl:look e1.st.env s=some (.pa r sz i j)) (hu:rootVal e1.st r=some (.row (some et) sz es)) (hsz:sizeT P t=some ds.length) (hok:setOk el j ds=true)
 (hrun:All e1.ob→All e.ob∧∀ g a w,SRep C g e.st a w→∃ g1 T,SRep C g1 e1.st a w∧RepL g1.pub w (a.eval x).cells.toList ds T∧(∀ u∈(a.eval x).cells.toList,u.oneCell'=true)∧T.Nodup∧∀ b∈T,∃ q,src=some q∧g1.own b=some (.inl q))
 (hsrc:∀ q,src=some q→(∃ y,look e1.st.env q=some y)∧r.holder≠.inl q) (hel:All e1.ob→es[i]? = some el) (hfit:All e1.ob→Fit (setC el j ds) el') (hes:All e1.ob→es.set i el'=es') :
 OpOk P C o e { e1 with st:=e1.st.reset r (.row (some et) sz es') src }:=by
 intro hA
 obtain ⟨h0,hrun⟩:=hrun hA
 refine ⟨h0,fun g a w S next Q hn=>?_⟩
 obtain ⟨g1,T,S1,hr,hone,hTn,hTo⟩:=hrun g a w S
 obtain ⟨_,⟨_,b,h3,h4,h5⟩,_⟩:=S1.env s _ hl
 obtain ⟨v,TT,hpv,hR,hTTn,hTTo,lens⟩:=S1.lens hu
 obtain ⟨xs,A,hT,hc,hl',h1,how⟩:=own_inv hR
 obtain ⟨hcells,hj⟩:=setC_cells hok
 have hel:=hel hA
 rw [hpv] at h3
 simp only [Option.bind_some] at h3
 have hi:i < es.length:=(List.getElem?_eq_some_iff.1 hel).1
 have hels:el.cells.length=sz:=hc el (List.mem_of_getElem? hel)
 rcases how.2 with ⟨hv0,hn0⟩ | ⟨b',cap,cur,hv0,hb0,hg,hnc,hcm,hcs,htk⟩
 ·omega
 rw [hv0] at h3
 simp only [Value.ownBlock,Option.some.injEq] at h3
 subst h3
 have hvl:(a.eval x).cells.size=ds.length:=by rw [← Array.length_toList];exact hr.length
 have hoff:i*sz+j+ds.length≤es.length*sz:=by
  have:(i+1)*sz≤es.length*sz:=Nat.mul_le_mul_right _ hi
  rw [Nat.add_mul,Nat.one_mul] at this
  omega
 have hcap:es.length*sz≤cap*sz:=Nat.mul_le_mul_right _ hnc
 have hst:=storeAt_run (P:=P) (t:=t) (b:=b') (off:=i*sz+j) (v:=a.eval x) hg (by rw [hvl];exact hsz) (by rw [hvl,hcs];omega) hone
 have hexec:(execOp a.eval o).run P w=.ok .skip (w.setRow b' (cur.toList.take (i*sz+j)++(a.eval x).cells.toList++cur.toList.drop (i*sz+j+(a.eval x).cells.size)).toArray):=by
  unfold execOp
  simp only [ho,Act.eval,h5,Sem.run_bind]
  simp only [Act.eval] at hst
  simp only [hst,Result.andThen_ok,Sem.run_pure]
 unfold Oper.wp
 rw [hexec,Oper.upon_skip,hd]
 generalize hw2:w.setRow b' (cur.toList.take (i*sz+j)++(a.eval x).cells.toList++cur.toList.drop (i*sz+j+(a.eval x).cells.size)).toArray=w2
 have hgr:w.grownBy w2 (some b'):=hw2 ▸ setRow_grown w b' _
 have hbT:b'∈TT:=by rw [hT,hv0];simp [Value.ownBlock]
 rw [hT] at hTTn
 have hn1:=List.nodup_append.1 hTTn
 have hbA:b'∉A:=fun h=>hn1.2.2 b' (by rw [hv0];simp [Value.ownBlock]) b' h rfl
 obtain ⟨A1,B1,hAB,hd1,hdr⟩:=hl'.cut (i*sz+j)
 obtain ⟨M,B2,hMB,_,hd2⟩:=hdr.cut ds.length
 rw [List.drop_drop,List.drop_drop] at hd2
 subst hMB
 have npub:∀ b,g1.pub b→w2.heap[b]? = w.heap[b]?:=fun b hb=>hgr.block b (S1.publt b hb) (fun e=>by cases e;exact (S1.own _ _ (hTTo _ hbT)).2.2 hb)
 have sameA:∀ b∈A,w2.heap[b]? = w.heap[b]?:=fun b hb=>hgr.block b (S1.own b _ (hTTo b (by rw [hT];simp [hb]))).2.1 (fun e=>by cases e;exact hbA hb)
 have sameT:∀ b∈T,w2.heap[b]? = w.heap[b]?:=fun b hb=>by
  obtain ⟨q,hq,ho'⟩:=hTo b hb
  refine hgr.block b (S1.own b _ ho').2.1 (fun e=>?_)
  cases e
  rw [hTTo _ hbT] at ho'
  exact (hsrc q hq).2 (Option.some.inj ho')
 have kk:Keeps g1.pub g1.pub w w2:=⟨fun _ h=>h,npub⟩
 have hnew:RepL g1.pub w2 (xs.take (i*sz+j)++(a.eval x).cells.toList++xs.drop (i*sz+j+ds.length)) (es'.flatMap V.cells) (A1++T++B2):=by
  have hfl:=flat_set hcells hj hc hel
  have h6:RepL g1.pub w2 (xs.take (i*sz+j)++(a.eval x).cells.toList++xs.drop (i*sz+j+ds.length)) ((es.set i (setC el j ds)).flatMap V.cells) (A1++T++B2):=by
   rw [hfl]
   exact ((hd1.keep kk (fun b hb=>sameA b (by rw [hAB];simp [hb]))).app (hr.keep kk sameT)).app (hd2.keep kk (fun b hb=>sameA b (by rw [hAB];simp [hb])))
  refine h6.fit (FitL.flat ?_)
  rw [← hes hA]
  have:∀ (es:List V) (i:Nat),FitL (es.set i (setC el j ds)) (es.set i el'):=by
   intro es
   induction es with
   | nil=>intro i;exact FitL.refl _
   | cons c cs ih =>
    intro i
    cases i with
    | zero=>exact .cons (hfit hA) (FitL.refl _)
    | succ i=>exact .cons (.refl _) (ih i)
  exact this es i
 have hxl:(xs.take (i*sz+j)++(a.eval x).cells.toList++xs.drop (i*sz+j+ds.length)).length=es.length*sz:=by
  simp only [List.length_append,List.length_take,List.length_drop,Array.length_toList,hvl,how.1]
  omega
 have hsizes:∀ e∈es',e.cells.length=sz:=by
  have:FitL [setC el j ds] [el']:=.cons (hfit hA) .nil
  have hle:el'.cells.length=sz:=this.sizes (sz:=sz) (by
   intro e he
   simp only [List.mem_singleton] at he
   subst he
   rw [hcells]
   simp only [List.length_append,List.length_take,List.length_drop]
   omega) _ (by simp)
  intro e he
  rw [← hes hA] at he
  rcases List.mem_or_eq_of_mem_set he with h | h
  ·exact hc e h
  ·rw [h];exact hle
 have hlen':es'.length=es.length:=by rw [← hes hA];simp
 have hown':w2.ownsRow 0 et sz v es'.length (xs.take (i*sz+j)++(a.eval x).cells.toList++xs.drop (i*sz+j+ds.length)):=by
  rw [hlen']
  refine ⟨hxl,.inr ⟨b',cap,(cur.toList.take (i*sz+j)++(a.eval x).cells.toList++cur.toList.drop (i*sz+j+(a.eval x).cells.size)).toArray,hv0,hb0,?_,hnc,hcm,?_,?_⟩⟩
  ·rw [← hw2];exact setRow_heap w _ cur _ et _ hg
  ·simp only [List.size_toArray,List.length_append,List.length_take,List.length_drop,Array.length_toList,hvl,hcs]
   omega
  ·have hcl:cur.toList.length=cap*sz:=by rw [Array.length_toList,hcs]
   have hcx:cur.toList=xs++cur.toList.drop (es.length*sz):=by rw [← htk,List.take_append_drop]
   have hxsl:xs.length=es.length*sz:=how.1
   have q1:cur.toList.take (i*sz+j)=xs.take (i*sz+j):=by rw [← htk,List.take_take,Nat.min_eq_left (by omega)]
   have q2:cur.toList.drop (i*sz+j+(a.eval x).cells.size)=xs.drop (i*sz+j+ds.length)++cur.toList.drop (es.length*sz):=by
    rw [hvl]
    conv=>lhs;rw [hcx]
    rw [List.drop_append_of_le_length (by omega)]
   rw [List.toList_toArray,q1,q2,← List.append_assoc]
   rw [List.take_append_of_le_length (by rw [hxl];exact Nat.le_refl _)]
   rw [List.take_of_length_le (by rw [hxl];exact Nat.le_refl _)]
 have hRep:Rep g1.pub w2 v (.row (some et) sz es') (v.ownBlock.toList++(A1++T++B2)):=by
  refine Rep.own hsizes hnew (fun u hu=>?_) hown'
  simp only [List.mem_append] at hu
  rcases hu with (h | h) | h
  ·exact h1 u (List.mem_of_mem_take h)
  ·exact hone u h
  ·exact h1 u (List.mem_of_mem_drop h)
 have hTT:∀ b∈T,b∉TT:=fun b hb hb'=>by
  obtain ⟨q,hq,ho'⟩:=hTo b hb
  rw [hTTo b hb'] at ho'
  exact (hsrc q hq).2 (Option.some.inj ho')
 have hAn:=List.nodup_append.1 (hAB ▸ hn1.2.1:(A1++(M++B2)).Nodup)
 have hMn:=List.nodup_append.1 hAn.2.1
 have hAT:∀ b,b∈A→b∈TT:=fun b hb=>by rw [hT];simp [hb]
 have p1:(v.ownBlock.toList++(A1++T++B2)).Nodup:=by
  refine List.nodup_append.2 ⟨hn1.1,List.nodup_append.2 ⟨List.nodup_append.2 ⟨hAn.1,hTn,fun b hb c hcc e=>?_⟩,hMn.2.1,fun b hb c hcc e=>?_⟩,fun b hb c hcc e=>?_⟩
  ·subst e;exact hTT b hcc (hAT b (by rw [hAB];simp [hb]))
  ·subst e
   rcases List.mem_append.1 hb with h | h
   ·exact hAn.2.2 b h b (by simp [hcc]) rfl
   ·exact hTT b h (hAT b (by rw [hAB];simp [hcc]))
  ·subst e
   have hbTT:b∈TT:=by rw [hT];simp only [List.mem_append];exact .inl hb
   simp only [List.mem_append] at hcc
   rcases hcc with (h | h) | h
   ·exact hn1.2.2 b hb b (by rw [hAB];simp [h]) rfl
   ·exact hTT b h hbTT
   ·exact hn1.2.2 b hb b (by rw [hAB];simp [h]) rfl
 have p2:∀ b∈v.ownBlock.toList++(A1++T++B2),b∈TT∨∃ q,src=some q∧g1.own b=some (.inl q):=by
  intro b hb
  simp only [List.mem_append] at hb
  rcases hb with h | (h | h) | h
  ·exact .inl (by rw [hT];simp only [List.mem_append];exact .inl h)
  ·exact .inl (hAT b (by rw [hAB];simp [h]))
  ·exact .inr (hTo b h)
  ·exact .inl (hAT b (by rw [hAB];simp [h]))
 have p3:∀ q,src=some q→q < C.N∧r.holder≠.inl q:=fun q hq=>by
  obtain ⟨⟨y,hy⟩,h⟩:=hsrc q hq
  exact ⟨(S1.env q y hy).1,h⟩
 obtain ⟨g',hpub',hfree,S'⟩:=lens w2 (.row (some et) sz es') _ src hgr.os hgr.tape hgr.output hgr.size (fun b hb hb'=>hgr.block b hb (fun e=>by cases e;exact hb' hbT)) hRep p1 p2 p3 (fun b hb _=>by simp [hb])
 exact hn g' _ _ S' (fun h=>by rw [ho] at h;cases h)
def evStoreP (P:Program) (o:Oper) (t:TypeId) (s:Nat) (x:Operand) (e:E):Option E :=
 match o.dst with
 | some _=>none
 | none=>match hint e with
  | some (el,e)=>match hint e with
   | some (el',e)=>match hint e with
    | some (.row (some _) _ es',e)=>match x,(match x with | .tmp q=>look e.st.env q | _=>none) with
     | .tmp q,some (.d (.v (.row (some eq) sq qs)))=>match look e.st.env s with
      | some (.pa r sz i j)=>match rootVal e.st r with
       | some (.row (some et) sz' es)=>match Nat.beq sz sz' && sizeIs P t 1 && setOk el j [.row (some eq) sq qs] && not (holdB r (.t q)) with
        | true=>some { need (es.set i el'=es') (need (Fit (setC el j [.row (some eq) sq qs]) el') (need (es[i]? = some el) e)) with st:=e.st.reset r (.row (some et) sz es') (some q) }
        | false=>none
       | _=>none
      | _=>none
     | _,_=>match val x e with
      | some (u,e)=>match look e.st.env s with
       | some (.pa r sz i j)=>match rootVal e.st r with
        | some (.row (some et) sz' es)=>match Nat.beq sz sz' && u.flatOk && sizeIs P t u.cells.length && setOk el j u.cells with
         | true=>some { need (es.set i el'=es') (need (Fit (setC el j u.cells) el') (need (es[i]? = some el) e)) with st:=e.st.reset r (.row (some et) sz es') none }
         | false=>none
        | _=>none
       | _=>none
      | none=>none
    | _=>none
   | none=>none
  | none=>none
theorem evStoreP_ok {o:Oper} {t:TypeId} {s:Nat} {x:Operand} {e e':E} (ho:o.op=.store t (.tmp s) x) (h:evStoreP P o t s x e=some e'):OpOk P C o e e':=by
 unfold evStoreP at h
 split at h
 ·cases h
 rename_i hd
 split at h
 rotate_left
 ·cases h
 rename_i el e1 hh1
 split at h
 rotate_left
 ·cases h
 rename_i el' e2 hh2
 split at h
 rotate_left
 ·cases h
 rename_i eh sh es' e3 hh3
 obtain ⟨a1,a2⟩:=hint_eq hh1
 obtain ⟨b1,b2⟩:=hint_eq hh2
 obtain ⟨c1,c2⟩:=hint_eq hh3
 have hob:e3.ob=e.ob:=by rw [c1,b1,a1]
 have hst:e3.st=e.st:=by rw [c2,b2,a2]
 split at h
 ·rename_i q eq sq qs hq
  split at h
  ·rename_i r sz i j hl
   split at h
   ·rename_i et sz' es hu
    split at h
    ·rename_i hc
     cases h
     simp only [Bool.and_eq_true] at hc
     obtain ⟨⟨⟨k1,k2⟩,k3⟩,k4⟩:=hc
     have k1:=Nat.eq_of_beq_eq_true k1
     subst k1
     have k2:=sizeIs_eq k2
     have k4:holdB r (.t q)=false:=by simpa using k4
     have hq:look e3.st.env q=some (.d (.v (.row (some eq) sq qs))):=hq
     refine OpOk.storeP (e1:=need (es.set i el'=es') (need (Fit (setC el j [.row (some eq) sq qs]) el') (need (es[i]? = some el) e3))) (src:=some q) (ds:=[.row (some eq) sq qs]) (el:=el) (el':=el') ho hd hl hu k2 k3 (fun hA=>?_) (fun q' e'=>?_) (fun hA=>?_) (fun hA=>?_) (fun hA=>?_)
     ·obtain ⟨hA,_⟩:=All.snoc hA
      obtain ⟨hA,_⟩:=All.snoc hA
      obtain ⟨hA,_⟩:=All.snoc hA
      refine ⟨hob ▸ hA,fun g a w S=>?_⟩
      have S:SRep C g e3.st a w:=hst ▸ S
      obtain ⟨_,h2,h3⟩:=S.env q _ hq
      have h2:RepD g w (a.eval (.tmp q)) (.v (.row (some eq) sq qs)) (g.TE q):=h2
      have hone:=h2.inv.one rfl
      refine ⟨g,g.TE q,S,?_,?_,S.nodE q,fun b hb'=>⟨q,rfl,h3 b hb'⟩⟩
      ·rw [cells_one hone]
       have:=RepL.cons h2.inv (RepL.nil (p:=g.pub) (w:=w))
       simpa using this
      ·rw [cells_one hone];simpa using hone
     ·cases e'
      exact ⟨⟨_,hq⟩,holdB_ne k4⟩
     ·exact (All.snoc (All.snoc (All.snoc hA).1).1).2
     ·exact (All.snoc (All.snoc hA).1).2
     ·exact (All.snoc hA).2
    ·cases h
   ·cases h
  ·cases h
 ·split at h
  ·rename_i u e4 hv
   split at h
   ·rename_i r sz i j hl
    split at h
    ·rename_i et sz' es hu
     split at h
     ·rename_i hc
      cases h
      simp only [Bool.and_eq_true] at hc
      obtain ⟨⟨⟨k1,k2⟩,k3⟩,k4⟩:=hc
      have k1:=Nat.eq_of_beq_eq_true k1
      subst k1
      have k3:=sizeIs_eq k3
      refine OpOk.storeP (e1:=need (es.set i el'=es') (need (Fit (setC el j u.cells) el') (need (es[i]? = some el) e4))) (src:=none) (el:=el) (el':=el') ho hd hl hu k3 k4 (fun hA=>?_) (fun q' e'=>by cases e') (fun hA=>?_) (fun hA=>?_) (fun hA=>?_)
      ·obtain ⟨hA,_⟩:=All.snoc hA
       obtain ⟨hA,_⟩:=All.snoc hA
       obtain ⟨hA,_⟩:=All.snoc hA
       obtain ⟨h0,k⟩:=val_ok (C:=C) hv hA
       refine ⟨hob ▸ h0,fun g a w S=>?_⟩
       obtain ⟨g1,k1,S1,r1⟩:=k g a w (hst ▸ S)
       obtain ⟨r3,r4⟩:=r1.flat k2
       exact ⟨g1,[],S1,r3,r3.one r4,List.nodup_nil,fun b hb'=>by cases hb'⟩
      ·exact (All.snoc (All.snoc (All.snoc hA).1).1).2
      ·exact (All.snoc (All.snoc hA).1).2
      ·exact (All.snoc hA).2
     ·cases h
    ·cases h
   ·cases h
  ·cases h
end
theorem RepL.setAt {p:Pub} {w:World}:∀ {vs:List Value} {ds:List V} {T:List Nat} {c:Nat} {d:V},RepL p w vs ds T→ds[c]? = some d →
 ∃ v T1 Tc T2,vs[c]? = some v∧T=T1++(Tc++T2)∧Rep p w v d Tc∧RepL p w vs (ds.set c .any) (T1++T2)
 | _,_,_,_,_,.nil,h=>by simp at h
 | _,_,_,0,d,.cons (v:=v) (A:=A) (B:=B) h1 h2,h=>by
  simp only [List.getElem?_cons_zero,Option.some.injEq] at h
  subst h
  exact ⟨v,[],A,B,rfl,rfl,h1,(RepL.cons (A:=[]) (.any v) h2)⟩
 | _,_,_,c+1,d,.cons (A:=A) (B:=B) h1 h2,h=>by
  simp only [List.getElem?_cons_succ] at h
  obtain ⟨v,T1,Tc,T2,e1,e2,e3,e4⟩:=h2.setAt h
  subst e2
  refine ⟨v,A++T1,Tc,T2,by simpa using e1,by simp,e3,?_⟩
  have:=RepL.cons h1 e4
  simpa using this
theorem set_any {cs:List V} {c:Nat} {u:V} (h:cs[c]? = some u):cs.set c .any=cs.take c++[.any]++cs.drop (c+1):=by
 have hc:=(List.getElem?_eq_some_iff.1 h).1
 rw [List.set_eq_take_append_cons_drop,if_pos hc]
 simp
section
variable {P:Program} {C:Ctx} {g:G} {st:St} {a:Act} {w w':World}
theorem SRep.pluck (S:SRep C g st a w) {r:Root} {et sz i j:Nat} {es:List V} {el u:V} (hu:rootVal st r=some (.row (some et) sz es)) (hel:es[i]? = some el) (hok:setOk el j [.any]=true) (hc:el.cells[j]? = some u) :
 ∃ v Tc g',pv g a w (.elt r sz i j)=some v∧g'.pub=g.pub∧Rep g'.pub w v u Tc∧Tc.Nodup∧(∀ b∈Tc,g'.own b=none∧¬ g'.pub b∧(C.W.heap.size≤b∨C.Fz b)∧b < w.heap.size) ∧
  SRep C g' (st.reset r (.row (some et) sz (es.set i (setC el j [.any]))) none) a w:=by
 obtain ⟨v,T,hpv,hR,hTn,hTo,lens⟩:=S.lens hu
 obtain ⟨xs,A,hT,hcs,hl,h1,how⟩:=own_inv hR
 obtain ⟨hcells,hj⟩:=setC_cells hok
 simp only [List.length_cons,List.length_nil,Nat.zero_add] at hcells hj
 have hi:i < es.length:=(List.getElem?_eq_some_iff.1 hel).1
 have hels:el.cells.length=sz:=hcs el (List.mem_of_getElem? hel)
 have hfl:=flat_set (sz:=sz) (ds:=[.any]) (by simpa using hcells) (by simpa using hj) hcs hel
 simp only [List.length_cons,List.length_nil,Nat.zero_add] at hfl
 have hget:(es.flatMap V.cells)[i*sz+j]? = some u:=by
  obtain ⟨T1,A1,T2,_,_⟩:=RepL.elem hcs hl hel
  have key:∀ (es:List V) (i:Nat),(∀ e∈es,e.cells.length=sz)→es[i]? = some el→(es.flatMap V.cells)[i*sz+j]? = some u:=by
   intro es
   induction es with
   | nil=>intro i _ h;simp at h
   | cons e es ih =>
    intro i hs h
    cases i with
    | zero =>
     simp only [List.getElem?_cons_zero,Option.some.injEq] at h
     subst h
     rw [List.flatMap_cons,Nat.zero_mul,Nat.zero_add,List.getElem?_append_left (by omega)]
     exact hc
    | succ i =>
     simp only [List.getElem?_cons_succ] at h
     have he:=hs e (by simp)
     rw [List.flatMap_cons,List.getElem?_append_right (by rw [he,Nat.add_mul];omega),he,show (i+1)*sz+j - sz=i*sz+j by rw [Nat.add_mul];omega]
     exact ih i (fun e he=>hs e (by simp [he])) h
  exact key es i hcs hel
 obtain ⟨x,T1,Tc,T2,f1,f2,f3,f4⟩:=hl.setAt hget
 rw [set_any hget] at f4
 rw [← hfl] at f4
 have hn1:=List.nodup_append.1 (hT ▸ hTn)
 have hA:=List.nodup_append.1 (f2 ▸ hn1.2.1:(T1++(Tc++T2)).Nodup)
 have hA2:=List.nodup_append.1 hA.2.1
 have inT:∀ b,b∈T1∨b∈Tc∨b∈T2→b∈T:=fun b hb=>by
  rw [hT,f2]
  rcases hb with h | h | h<;>simp [h]
 have hlen:(es.set i (setC el j [.any])).length=es.length:=by simp
 have hRep:Rep g.pub w v (.row (some et) sz (es.set i (setC el j [.any]))) (v.ownBlock.toList++(T1++T2)):=by
  refine Rep.own (fun e he=>?_) f4 h1 (by rw [hlen];exact how)
  rcases List.mem_or_eq_of_mem_set he with h | h
  ·exact hcs e h
  ·rw [h,hcells]
   simp only [List.length_append,List.length_take,List.length_drop,List.length_cons,List.length_nil]
   omega
 have hdis:∀ b∈Tc,b∉v.ownBlock.toList++(T1++T2):=by
  intro b hb hb'
  simp only [List.mem_append] at hb'
  rcases hb' with h | h | h
  ·exact hn1.2.2 b h b (by rw [f2];simp [hb]) rfl
  ·exact hA.2.2 b h b (by simp [hb]) rfl
  ·exact hA2.2.2 b hb b h rfl
 have p1:(v.ownBlock.toList++(T1++T2)).Nodup:=by
  refine List.nodup_append.2 ⟨hn1.1,List.nodup_append.2 ⟨hA.1,hA2.2.1,fun b hb c hc e=>hA.2.2 b hb c (by simp [hc]) e⟩,fun b hb c hc e=>hn1.2.2 b hb c ?_ e⟩
  rw [f2]
  rcases List.mem_append.1 hc with h | h<;>simp [h]
 obtain ⟨g',hp,hf,S'⟩:=lens w (.row (some et) sz (es.set i (setC el j [.any]))) _ none rfl rfl rfl (Nat.le_refl _) (fun _ _ _=>rfl) hRep p1 (fun b hb=>.inl (by
  simp only [List.mem_append] at hb
  rcases hb with h | h | h
  ·rw [hT];simp only [List.mem_append];exact .inl h
  ·exact inT b (.inl h)
  ·exact inT b (.inr (.inr h)))) (by simp) (fun b hb _=>by simp [hb])
 refine ⟨x,Tc,g',?_,hp,hp ▸ f3,hA2.1,fun b hb=>?_,S'⟩
 ·simp only [pv,hpv,Option.bind_some]
  rcases how.2 with ⟨hv0,hn0⟩ | ⟨b',cap,cur,hv0,_,hg,_⟩
  ·omega
  ·rw [hv0]
   simp only [Value.ownBlock]
   rw [if_pos (hTo b' (by rw [hT,hv0];simp [Value.ownBlock]))]
   have hw:=how
   rw [hv0] at hw
   have hlt:i*sz+j < es.length*sz:=by
    have:(i+1)*sz≤es.length*sz:=Nat.mul_le_mul_right _ hi
    rw [Nat.add_mul,Nat.one_mul] at this
    omega
   rw [hw.cellAt _ hlt,f1]
 ·have hb':=hTo b (inT b (.inr (.inl hb)))
  have:=S.own b _ hb'
  exact ⟨hf b (inT b (.inr (.inl hb))) (hdis b hb),hp ▸ this.2.2,this.1,this.2.1⟩
theorem append_core (S:SRep C g st a w) {ts:Array TypeId} {ty t tx el:Nat} {i:TypeInfo} {z:Value} {v x:Value} {es es2 es':List V} {news:List Value} {T:List Nat} {d:Nat} (hts:ts = #[t,tx]) (hu:P.underlying t=some (.slice el)) (hi:P.info? el=some i) (hz:i.zero=some z)
 (k1:z.cells.size=i.size) (k3:140737488355328 / i.bytes≤maxLen) (hsz:es.length+es2.length≤140737488355328 / i.bytes) (hfit:FitL (es++es2) es') (hd:d < C.N)
 (hR:Rep g.pub w v (.row (some el) i.size es) T) (hTn:T.Nodup) (hfree:∀ b∈T,g.own b=none∧¬ g.pub b∧(C.W.heap.size≤b∨C.Fz b)∧b < w.heap.size)
 (hnew:g.own w.heap.size=none) (hsrc:Src P tx i.size es2.length news x w) (hnews:RepL g.pub w news (es2.flatMap V.cells) []) (hsize2:∀ e∈es2,e.cells.length=i.size) :
 ∃ v' w' T',(Builtin.append_ ts ty #[v,x]).run P w=.ok v' w'∧SRep C (g.put d T' fun _=>False) (st.put d (.d (.v (.row (some el) i.size es')))) (a.put (some d) v') w':=by
 subst hts
 have hb:(es.length+es2.length)*i.bytes≤140737488355328:=Nat.le_trans (Nat.mul_le_mul_right _ hsz) (Nat.div_mul_le_self _ _)
 have hm:es.length+es2.length≤maxLen:=Nat.le_trans hsz k3
 obtain ⟨xs,A,hT,h1,h2,h3,how0⟩:=own_inv hR
 obtain ⟨v',w',hr,how,hgr,hblk⟩:=append_run (P:=P) w t tx ty el i z i.size i.bytes hu hi hz rfl rfl k1 v es.length xs how0 x es2.length news hsrc hm hb
 refine ⟨v',w',v'.ownBlock.toList++(A++[]),hr,?_⟩
 have hpubw:∀ b,g.pub b→w'.heap[b]? = w.heap[b]?:=fun b hb'=>hgr.block b (S.publt b hb') (fun e=>by
  have hbT:b∈T:=by rw [hT,← e];simp
  exact (hfree b hbT).2.1 hb')
 have hAw:∀ b∈A,w'.heap[b]? = w.heap[b]?:=fun b hb'=>by
  have hbT:b∈T:=by rw [hT];simp [hb']
  refine hgr.block b (hfree b hbT).2.2.2 (fun e=>?_)
  rw [hT] at hTn
  exact (List.nodup_append.1 hTn).2.2 b (by rw [← e];simp) b hb' rfl
 have hfl:(es++es2).flatMap V.cells=es.flatMap V.cells++es2.flatMap V.cells:=by simp
 have hall:RepL g.pub w' (xs++news) (es'.flatMap V.cells) (A++[]):=by
  refine RepL.fit (ds:=(es++es2).flatMap V.cells) ?_ hfit.flat
  rw [hfl]
  exact (h2.keep ⟨fun _ h=>h,hpubw⟩ hAw).app (hnews.keep ⟨fun _ h=>h,hpubw⟩ (fun _ h=>by cases h))
 have hRep:Rep g.pub w' v' (.row (some el) i.size es') (v'.ownBlock.toList++(A++[])):=by
  refine Rep.own (hfit.sizes (fun e he=>?_)) hall (fun u hu'=>?_) ?_
  ·rcases List.mem_append.1 he with he | he
   ·exact h1 e he
   ·exact hsize2 e he
  ·rcases List.mem_append.1 hu' with hu' | hu'
   ·exact h3 u hu'
   ·exact hsrc.one u hu'
  ·rw [← hfit.length,List.length_append];exact how
 refine S.putF (row:=v.ownBlock) hgr (fun b hb'=>?_) hd ?_ ?_ hRep
 ·have:=hfree b (by rw [hT,hb'];simp)
  exact ⟨this.1,this.2.1,this.2.2.1⟩
 ·rw [List.append_nil,List.nodup_append]
  rw [hT] at hTn
  refine ⟨by cases v'.ownBlock<;>simp,(List.nodup_append.1 hTn).2.1,fun b hb1 c hc1 e=>?_⟩
  subst e
  simp only [Option.mem_toList] at hb1
  rcases (hblk b hb1).1 with h5 | h5
  ·exact (List.nodup_append.1 hTn).2.2 b (by rw [h5];simp) b hc1 rfl
  ·have:=(hfree b (by rw [hT];simp [hc1])).2.2.2;omega
 ·intro b hb'
  simp only [List.append_nil,List.mem_append,Option.mem_toList] at hb'
  rcases hb' with hb' | hb'
  ·obtain ⟨h5,h6⟩:=hblk b hb'
   rcases h5 with h5 | h5
   ·have:=hfree b (by rw [hT,h5];simp)
    exact ⟨this.1,this.2.1,this.2.2.1,h6⟩
   ·subst h5
    exact ⟨hnew,fun hp'=>by have:=S.publt _ hp';omega,.inl S.size,h6⟩
  ·have:=hfree b (by rw [hT];simp [hb'])
   exact ⟨this.1,this.2.1,this.2.2.1,Nat.lt_of_lt_of_le this.2.2.2 hgr.size⟩
def evAppendE (P:Program) (N:Nat) (o:Oper) (ts:Array TypeId) (s x:Operand) (e:E):Option E :=
 match dstOf N o with
 | none=>none
 | some d=>match ts.toList with
  | [t,tx]=>match P.underlying t with
   | some (.slice el)=>match P.info? el with
    | some i=>match i.zero with
     | some z=>match Nat.beq z.cells.size i.size && Nat.ble (140737488355328 / i.bytes) maxLen with
      | true=>match appX P tx i.size x e with
       | some (es2,e)=>match s with
        | .tmp q=>match look e.st.env q with
         | some (.al (.elt r sz j c))=>match rootVal e.st r with
          | some (.row (some et) sz' os)=>match hint e with
           | some (oe,e)=>match oe.cells[c]? with
            | some (.row (some e1) s1 es)=>match hint e with
             | some (.row (some _) _ es',e)=>match Nat.beq sz sz' && Nat.beq e1 el && Nat.beq s1 i.size && setOk oe c [.any] with
              | true=>some { (need (es.length+es2.length≤140737488355328 / i.bytes) (need (FitL (es++es2) es') (need (os[j]? = some oe) e))) with st:=(e.st.reset r (.row (some et) sz (os.set j (setC oe c [.any]))) none).put d (.d (.v (.row (some el) i.size es'))) }
              | false=>none
             | _=>none
            | _=>none
           | none=>none
          | _=>none
         | _=>none
        | _=>none
       | none=>none
      | false=>none
     | none=>none
    | none=>none
   | _=>none
  | _=>none
theorem SRep.newNone (S:SRep C g st a w):g.own w.heap.size=none:=by
 cases ho:g.own w.heap.size with
 | none=>rfl
 | some h'=>have:=(S.own _ _ ho).2.1;omega
theorem evAppendE_ok {o:Oper} {c:Call} {s x:Operand} {e e':E} (ho:o.op=.call c) (hc:c.callee=.builtin .append) (ha:c.args = #[s,x]) (h:evAppendE P C.N o c.argTypes s x e=some e'):OpOk P C o e e':=by
 unfold evAppendE at h
 split at h
 ·cases h
 rename_i d hd
 obtain ⟨hdd,hdN⟩:=dstOf_eq hd
 split at h
 rotate_left
 ·cases h
 rename_i t tx hts
 have hts:c.argTypes = #[t,tx]:=by
  rw [← Array.toArray_toList (xs:=c.argTypes),hts]
 split at h
 rotate_left
 ·cases h
 rename_i el hu
 split at h
 rotate_left
 ·cases h
 rename_i i hi
 split at h
 rotate_left
 ·cases h
 rename_i z hz
 split at h
 rotate_left
 ·cases h
 rename_i hck
 simp only [Bool.and_eq_true] at hck
 have k1:=Nat.eq_of_beq_eq_true hck.1
 have k3:=Nat.le_of_ble_eq_true hck.2
 split at h
 rotate_left
 ·cases h
 rename_i es2 e1 hx
 split at h
 rotate_left
 ·cases h
 rename_i q
 split at h
 rotate_left
 ·cases h
 rename_i r sz j cc hl
 split at h
 rotate_left
 ·cases h
 rename_i et sz' os hrv
 split at h
 rotate_left
 ·cases h
 rename_i oe e2 hh
 split at h
 rotate_left
 ·cases h
 rename_i e1' s1 es hcell
 split at h
 rotate_left
 ·cases h
 rename_i e3' s3' es' e3 hh2
 split at h
 rotate_left
 ·cases h
 rename_i hck2
 simp only [Bool.and_eq_true] at hck2
 obtain ⟨⟨⟨m1,m2⟩,m3⟩,m4⟩:=hck2
 have m1:=Nat.eq_of_beq_eq_true m1
 have m2:=Nat.eq_of_beq_eq_true m2
 have m3:=Nat.eq_of_beq_eq_true m3
 subst m1
 subst m2
 subst m3
 cases h
 obtain ⟨q1,q2⟩:=hint_eq hh
 obtain ⟨p1,p2⟩:=hint_eq hh2
 have hob:e3.ob=e1.ob:=by rw [p1,q1]
 have hst:e3.st=e1.st:=by rw [p2,q2]
 intro hA
 obtain ⟨hA,hsz⟩:=All.snoc (l:=e3.ob++_++_) hA
 obtain ⟨hA,hfit⟩:=All.snoc (l:=e3.ob++_) hA
 obtain ⟨hA,hel⟩:=All.snoc (l:=e3.ob) hA
 obtain ⟨h0,kx⟩:=appX_ok (C:=C) hx (hob ▸ hA)
 refine ⟨h0,fun g a w S next Q hn=>?_⟩
 obtain ⟨g1,news,kk,S1,hsrc,hnews,hsize2⟩:=kx g a w S
 obtain ⟨v,Tc,g2,hpv,hp,hR,hTn,hfree,S2⟩:=S1.pluck hrv hel m4 hcell
 obtain ⟨_,hal,_⟩:=S1.env q _ hl
 have hv:a.eval (.tmp q)=v:=by
  have:=hal.2
  rw [hpv] at this
  exact (Option.some.inj this).symm
 obtain ⟨v',w',T',hr,S3⟩:=append_core (P:=P) (ts:=c.argTypes) (ty:=o.type) (x:=a.eval x) S2 hts hu hi hz k1 k3 hsz hfit hdN hR hTn hfree S2.newNone hsrc (by rw [hp];exact hnews) hsize2
 refine wp_of_run (v:=v') (w':=w') ?_ ?_
 ·unfold execOp
  simp only [ho,resolve,hc,ha,Sem.run_bind,Sem.run_pure,Result.andThen_ok,invoke,builtin,List.map_toArray,List.map_cons,List.map_nil,hv,hr]
 ·rw [hdd]
  refine hn (g2.put d T' fun _=>False) _ _ ?_ (fun h=>by rw [ho] at h;simp [calmK,hc] at h)
  show SRep C _ ((e3.st.reset r _ none).put d _) _ _
  rw [hst]
  exact S3
end
inductive FitD:D→D→Prop
 | refl (d:D):FitD d d
 | v {x y:V}:Fit x y→FitD (.v x) (.v y)
inductive FitDL:List D→List D→Prop
 | nil:FitDL [] []
 | cons {c d:D} {cs ds:List D}:FitD c d→FitDL cs ds→FitDL (c :: cs) (d :: ds)
theorem FitDL.refl:∀ l:List D,FitDL l l
 | []=>.nil
 | c :: cs=>.cons (.refl c) (FitDL.refl cs)
theorem RepD.fit {g:G} {w:World} {v:Value} {c d:D} {T:List Nat} (h:RepD g w v c T) (f:FitD c d):RepD g w v d T:=by
 cases f with
 | refl=>exact h
 | v f=>exact .v (h.inv.fit f)
theorem RepDL.fit {g:G} {w:World}:∀ {vs:List Value} {cs ds:List D} {T:List Nat},RepDL g w vs cs T→FitDL cs ds→RepDL g w vs ds T
 | _,_,_,_,.nil,.nil=>.nil
 | _,_,_,_,.cons h1 h2,.cons f1 f2=>.cons (h1.fit f1) (h2.fit f2)
theorem FitDL.of:∀ {a b:List V},FitL a b→FitDL (dv a) (dv b)
 | _,_,.nil=>.nil
 | _,_,.cons f g=>.cons (.v f) (FitDL.of g)
inductive FitLL:List (List V)→List (List V)→Prop
 | nil:FitLL [] []
 | cons {c d:List V} {cs ds:List (List V)}:FitL c d→FitLL cs ds→FitLL (c :: cs) (d :: ds)
theorem FitLL.refl:∀ l:List (List V),FitLL l l
 | []=>.nil
 | c :: cs=>.cons (FitL.refl c) (FitLL.refl cs)
theorem FitLL.length:∀ {a b:List (List V)},FitLL a b→a.length=b.length
 | _,_,.nil=>rfl
 | _,_,.cons _ g=>by simp [g.length]
theorem FitLL.get:∀ {a b:List (List V)} {i:Nat} {d:List V},FitLL a b→b[i]? = some d→∃ c,a[i]? = some c∧FitL c d
 | _,_,_,_,.nil,h=>by simp at h
 | _,_,0,_,.cons f _,h=>by
  simp only [List.getElem?_cons_zero,Option.some.injEq] at h
  exact ⟨_,rfl,h ▸ f⟩
 | _,_,i+1,_,.cons _ g,h=>by
  simp only [List.getElem?_cons_succ] at h ⊢
  exact g.get h
structure Lent (g g':G) (w w':World):Prop where
 os:w'.os=w.os
 tape:w'.tape=w.tape
 output:w'.output=w.output
 size:w.heap.size≤w'.heap.size
 same:∀ b,b < w.heap.size→g.own b=none→w'.heap[b]? = w.heap[b]?
 n:g'.n=g.n
 loc:∀ i,i < g.n→g'.loc i=g.loc i
 pub:∀ b,g.pub b→g'.pub b
 pub':∀ b,g'.pub b→g.pub b∨w.heap.size≤b∨∃ h,g.own b=some h
 publt:∀ b,g'.pub b→b < w'.heap.size
 own:∀ b h,g'.own b=some h→(w.heap.size≤b∨∃ h',g.own b=some h')∧b < w'.heap.size∧¬ g'.pub b
def Boxes (g:G) (w:World) (bs:List (List V)):Prop:=∀ i c,bs[i]? = some c→BRep g w (g.loc i) (.cells (dv c)) (g.TB i)∧(g.TB i).Nodup∧∀ b∈g.TB i,g.own b=some (.inr i)
def ConX (P:Program) (f:FuncId) (us:List D) (bs:List (List V)) (r:D) (bs':List (List V)):Prop :=
 (∀ vs w,(callFunc f vs).run P w=.ok (.enter f vs) w) ∧
 ∀ (g:G) (w:World) (vs:List Value),g.n=bs.length→(∀ b,g.pub b→b < w.heap.size)→Tabs.t g.pub w→RepDL g w vs us []→Boxes g w bs→(∀ b h,g.own b=some h→b < w.heap.size∧¬ g.pub b) →
  Calls P f vs.toArray w fun e w'=>∃ (v:Value) (T:List Nat) (g':G),e=.returned v∧Lent g g' w w'∧RepD g' w' v r T∧T.Nodup∧(∀ b∈T,g'.own b=some (.inl 0))∧Boxes g' w' bs'
def ConX' (P:Program) (f:FuncId) (us:List D) (bs:List (List V)) (r:D) (bs':List (List V)):Prop:=∃ us' bs1,FitDL us us'∧FitLL bs bs1∧ConX P f us' bs1 r bs'
theorem ConX.c {P:Program} {f:FuncId} {us:List D} {bs bs':List (List V)} {r:D} (h:ConX P f us bs r bs'):ConX' P f us bs r bs':=⟨us,bs,FitDL.refl us,FitLL.refl bs,h⟩
theorem ConX.n {P:Program} {f:FuncId} {us us':List D} {bs bs1 bs':List (List V)} {r:D} (h:ConX P f us' bs1 r bs') (f1:FitDL us us') (f2:FitLL bs bs1):ConX' P f us bs r bs':=⟨us',bs1,f1,f2,h⟩
theorem BRep.fitV {g:G} {w:World} {l:Nat} {c d:List V} {T:List Nat} (h:BRep g w l (.cells (dv c)) T) (f:FitL c d):BRep g w l (.cells (dv d)) T:=by
 obtain ⟨cur,e,A,h1,h2,h3,h4⟩:=h
 exact ⟨cur,e,A,h1,h2,h3.fit (FitDL.of f),h4⟩
theorem Boxes.fit {g:G} {w:World} {bs bs':List (List V)} (h:Boxes g w bs) (f:FitLL bs bs'):Boxes g w bs':=fun i d hd=>by
 obtain ⟨c,hc,fc⟩:=f.get hd
 obtain ⟨h1,h2,h3⟩:=h i c hc
 exact ⟨h1.fitV fc,h2,h3⟩
theorem BRep.gV {g g':G} {w:World} {l:Nat} {c:List V} {T:List Nat} (h:BRep g w l (.cells (dv c)) T) (hp:g'.pub=g.pub):BRep g' w l (.cells (dv c)) T:=by
 obtain ⟨cur,e,A,h1,h2,h3,h4⟩:=h
 refine ⟨cur,e,A,h1,h2,?_,h4⟩
 have:=h3.undv
 rw [← hp] at this
 exact this.dv
section
variable {P:Program} {C:Ctx} {g:G} {st:St} {a:Act} {w w':World}
def idxOf (id:Nat):List Nat→Option Nat
 | []=>none
 | x :: l=>match Nat.beq id x with
  | true=>some 0
  | false=>(idxOf id l).map (· + 1)
theorem idxOf_get:∀ {l:List Nat} {id j:Nat},idxOf id l=some j→l[j]? = some id
 | [],_,_,h=>by simp [idxOf] at h
 | x :: l,id,j,h=>by
  simp only [idxOf] at h
  cases hb:Nat.beq id x with
  | true =>
   rw [hb] at h
   simp only [Option.some.injEq] at h
   subst h
   simp [Nat.eq_of_beq_eq_true hb]
  | false =>
   rw [hb] at h
   simp only at h
   cases hi:idxOf id l with
   | none=>rw [hi] at h;cases h
   | some k =>
    rw [hi] at h
    simp only [Option.map_some,Option.some.injEq] at h
    subst h
    simpa using idxOf_get hi
def distN:List Nat→Bool
 | []=>true
 | x :: l=>match (idxOf x l) with
  | none=>distN l
  | some _=>false
theorem idxOf_none:∀ {l:List Nat} {id:Nat},idxOf id l=none→id∉l
 | [],_,_=>by simp
 | x :: l,id,h=>by
  simp only [idxOf] at h
  cases hb:Nat.beq id x with
  | true=>rw [hb] at h;cases h
  | false =>
   rw [hb] at h
   simp only [Option.map_eq_none_iff] at h
   have:=idxOf_none h
   intro hm
   rcases List.mem_cons.1 hm with rfl | hm
   ·rw [Nat.beq_refl] at hb;cases hb
   ·exact this hm
theorem distN_ok:∀ {l:List Nat},distN l=true→l.Nodup
 | [],_=>List.nodup_nil
 | x :: l,h=>by
  simp only [distN] at h
  split at h
  ·rename_i hi
   exact List.nodup_cons.2 ⟨idxOf_none hi,distN_ok h⟩
  ·cases h
theorem nodup_idx:∀ {l:List Nat},l.Nodup→∀ {i j x:Nat},l[i]? = some x→l[j]? = some x→i=j
 | [],_,i,_,_,hi,_=>by simp at hi
 | y :: l,hn,0,0,_,_,_=>rfl
 | y :: l,hn,0,j+1,x,hi,hj=>by
  simp only [List.getElem?_cons_zero,Option.some.injEq,List.getElem?_cons_succ] at hi hj
  subst hi
  exact ((List.nodup_cons.1 hn).1 (List.mem_of_getElem? hj)).elim
 | y :: l,hn,i+1,0,x,hi,hj=>by
  simp only [List.getElem?_cons_zero,Option.some.injEq,List.getElem?_cons_succ] at hi hj
  subst hj
  exact ((List.nodup_cons.1 hn).1 (List.mem_of_getElem? hi)).elim
 | y :: l,hn,i+1,j+1,x,hi,hj=>by
  simp only [List.getElem?_cons_succ] at hi hj
  rw [nodup_idx (List.nodup_cons.1 hn).2 hi hj]
def G.lend (g:G) (ids:List Nat):G :=
 { pub:=g.pub,own:=fun b=>(ids.findIdx? fun id=>decide (b∈g.TB id)).map .inr,n:=ids.length,loc:=fun j=>g.loc (ids.getD j 0),TE:=fun _=>[],TB:=fun j=>if j < ids.length then g.TB (ids.getD j 0) else [] }
def killI (ids:List Nat) (l:List (Nat × X)):List (Nat × X):=match ids with
 | []=>l
 | id :: ids=>kill (isB id) (killI ids l)
def setI (bx:List Box):List Nat→List (List V)→List Box
 | id :: ids,c :: cs=>setI (bx.set id (.cells (dv c))) ids cs
 | _,_=>bx
def St.lent (st:St) (ids:List Nat) (bs':List (List V)):St:={ env:=killI ids st.env,box:=setI st.box ids bs' }
theorem look_killI {t:Nat}:∀ {ids:List Nat} {l:List (Nat × X)} {y:X},look (killI ids l) t=some y→y=.dead∧(∃ z,look l t=some z)∨look l t=some y∧∀ h,y.rootH=some h→∀ id∈ids,h≠.inr id
 | [],l,y,h=>.inr ⟨h,by simp⟩
 | id :: ids,l,y,h=>by
  simp only [killI,look_kill] at h
  cases hl:look (killI ids l) t with
  | none=>rw [hl] at h;cases h
  | some z =>
   rw [hl] at h
   simp only [Option.map_some,Option.some.injEq] at h
   rcases look_killI hl with ⟨rfl,z',hz⟩ | ⟨hz,hr⟩
   ·exact .inl ⟨h ▸ rfl,z',hz⟩
   ·by_cases hd:y=.dead
    ·exact .inl ⟨hd,z,hz⟩
    ·rcases X.kill_cases (isB id) z with h1 | ⟨h1,_⟩
     ·exact (hd (by rw [← h,h1])).elim
     ·rw [h1] at h
      subst h
      refine .inr ⟨hz,fun h' hh i hi=>?_⟩
      rcases List.mem_cons.1 hi with rfl | hi
      ·exact X.killR_rootH (q:=.b i 0) h1 hd h' hh
      ·exact hr h' hh i hi
theorem setI_length:∀ {ids:List Nat} {cs:List (List V)} {bx:List Box},(setI bx ids cs).length=bx.length
 | [],_,_=>by simp [setI]
 | _ :: _,[],_=>by simp [setI]
 | id :: ids,c :: cs,bx=>by simp only [setI,setI_length,List.length_set]
theorem setI_ne:∀ {ids:List Nat} {cs:List (List V)} {bx:List Box} {i:Nat},i∉ids→(setI bx ids cs)[i]? = bx[i]?
 | [],_,_,_,_=>by simp [setI]
 | _ :: _,[],_,_,_=>by simp [setI]
 | id :: ids,c :: cs,bx,i,h=>by
  simp only [List.mem_cons,not_or] at h
  simp only [setI]
  rw [setI_ne h.2,List.getElem?_set_ne (fun e=>h.1 e.symm)]
theorem setI_at:∀ {ids:List Nat} {cs:List (List V)} {bx:List Box} {j id:Nat},ids.Nodup→ids.length=cs.length→ids[j]? = some id→id < bx.length→∃ c,cs[j]? = some c∧(setI bx ids cs)[id]? = some (.cells (dv c))
 | [],_,_,_,_,_,_,h,_=>by simp at h
 | _ :: _,[],_,_,_,_,h,_,_=>by simp at h
 | x :: ids,c :: cs,bx,0,id,hn,hl,h,hb=>by
  simp only [List.getElem?_cons_zero,Option.some.injEq] at h
  subst h
  refine ⟨c,rfl,?_⟩
  simp only [setI]
  rw [setI_ne (List.nodup_cons.1 hn).1,List.getElem?_set_self hb]
 | x :: ids,c :: cs,bx,j+1,id,hn,hl,h,hb=>by
  simp only [List.getElem?_cons_succ] at h
  simp only [setI,List.getElem?_cons_succ]
  exact setI_at (List.nodup_cons.1 hn).2 (by simpa using hl) h (by simpa using hb)
def G.back (g g':G) (ids:List Nat):G :=
 { pub:=g'.pub,own:=fun b=>match g'.own b with
     | some (.inr j)=>if j < ids.length then some (.inr (ids.getD j 0)) else none
     | some (.inl _)=>none
     | none=>if (ids.any fun id=>decide (b∈g.TB id))=true then none else g.own b,
   n:=g.n,loc:=g.loc,TE:=g.TE,TB:=fun i=>match idxOf i ids with
     | some j=>g'.TB j
     | none=>g.TB i }
theorem idxOf_of:∀ {l:List Nat} {j id:Nat},l.Nodup→l[j]? = some id→idxOf id l=some j
 | [],_,_,_,h=>by simp at h
 | x :: l,0,id,_,h=>by
  simp only [List.getElem?_cons_zero,Option.some.injEq] at h
  subst h
  simp [idxOf,Nat.beq_refl]
 | x :: l,j+1,id,hn,h=>by
  simp only [List.getElem?_cons_succ] at h
  have hne:Nat.beq id x=false:=by
   cases hb:Nat.beq id x with
   | true =>
    have:=Nat.eq_of_beq_eq_true hb
    subst this
    exact ((List.nodup_cons.1 hn).1 (List.mem_of_getElem? h)).elim
   | false=>rfl
  simp only [idxOf,hne,idxOf_of (List.nodup_cons.1 hn).2 h,Option.map_some]
theorem SRep.lendOk (S:SRep C g st a w) {ids:List Nat} {bs:List (List V)} (hn:ids.Nodup) (hl:ids.length=bs.length) (hb:∀ (j id:Nat),ids[j]? = some id→∃ c,bs[j]? = some c∧st.box[id]? = some (Box.cells (dv c))) :
 Boxes (g.lend ids) w bs∧(∀ b h,(g.lend ids).own b=some h→∃ j id,h=.inr j∧ids[j]? = some id∧b∈g.TB id∧g.own b=some (.inr id))∧(∀ j id b,ids[j]? = some id→b∈g.TB id→(g.lend ids).own b=some (.inr j)):=by
 have hown:∀ j id b,ids[j]? = some id→b∈g.TB id→g.own b=some (.inr id):=fun j id b hj hbm=>by
  obtain ⟨c,_,hc⟩:=hb j id hj
  exact (S.box id _ hc).2 b hbm
 have h2:∀ b h,(g.lend ids).own b=some h→∃ j id,h=.inr j∧ids[j]? = some id∧b∈g.TB id∧g.own b=some (.inr id):=by
  intro b h ho
  simp only [G.lend] at ho
  cases hf:ids.findIdx? (fun id=>decide (b∈g.TB id)) with
  | none=>rw [hf] at ho;cases ho
  | some j =>
   rw [hf] at ho
   simp only [Option.map_some,Option.some.injEq] at ho
   obtain ⟨hj,hp,_⟩:=List.findIdx?_eq_some_iff_getElem.1 hf
   have hm:b∈g.TB ids[j]:=by simpa using hp
   exact ⟨j,ids[j],ho.symm,List.getElem?_eq_getElem hj,hm,hown j _ b (List.getElem?_eq_getElem hj) hm⟩
 have h3:∀ j id b,ids[j]? = some id→b∈g.TB id→(g.lend ids).own b=some (.inr j):=by
  intro j id b hj hm
  cases hf:ids.findIdx? (fun id=>decide (b∈g.TB id)) with
  | none =>
   have:=List.findIdx?_eq_none_iff.1 hf id (List.mem_of_getElem? hj)
   simp [hm] at this
  | some k =>
   have ho:(g.lend ids).own b=some (.inr k):=by simp only [G.lend,hf,Option.map_some]
   obtain ⟨j',id',e1,e2,e3,e4⟩:=h2 b _ ho
   cases e1
   rw [hown j id b hj hm] at e4
   cases e4
   rw [ho,nodup_idx hn e2 hj]
 refine ⟨fun j c hc=>?_,h2,h3⟩
 have hj:j < ids.length:=by rw [hl];exact (List.getElem?_eq_some_iff.1 hc).1
 have hid:ids[j]? = some ids[j]:=List.getElem?_eq_getElem hj
 obtain ⟨c',hc',hbx⟩:=hb j _ hid
 rw [hc] at hc'
 cases hc'
 obtain ⟨h1,h4⟩:=S.box _ _ hbx
 have eT:(g.lend ids).TB j=g.TB ids[j]:=by simp only [G.lend];rw [if_pos hj,List.getD_eq_getElem?_getD,hid];rfl
 have eL:(g.lend ids).loc j=g.loc ids[j]:=by simp only [G.lend];rw [List.getD_eq_getElem?_getD,hid];rfl
 rw [eT,eL]
 exact ⟨h1.gV rfl,S.nodB _,fun b hbm=>h3 j _ b hid hbm⟩
theorem SRep.lentOk (S:SRep C g st a w) {ids:List Nat} {bs bs':List (List V)} {g':G} (hn:ids.Nodup) (hl:ids.length=bs.length) (hl':ids.length=bs'.length) (hb:∀ (j id:Nat),ids[j]? = some id→∃ c,bs[j]? = some c∧st.box[id]? = some (Box.cells (dv c)))
 (hL:Lent (g.lend ids) g' w w') (hB:Boxes g' w' bs'):KeepsG g (g.back g' ids) w w'∧SRep C (g.back g' ids) (st.lent ids bs') a w' ∧
  ∀ b,g'.own b=some (.inl 0)→(g.back g' ids).own b=none∧¬ (g.back g' ids).pub b∧(C.W.heap.size≤b∨C.Fz b)∧b < w'.heap.size:=by
 obtain ⟨hBx,hown1,hown2⟩:=S.lendOk hn hl hb
 have hlt:∀ j id,ids[j]? = some id→id < st.box.length:=fun j id hj=>by
  obtain ⟨c,_,hc⟩:=hb j id hj
  exact (List.getElem?_eq_some_iff.1 hc).1
 have hgn:∀ j id,ids[j]? = some id→id < g.n:=fun j id hj=>by rw [S.n];exact hlt j id hj
 have hgd:∀ j id,ids[j]? = some id→ids.getD j 0=id:=fun j id hj=>by rw [List.getD_eq_getElem?_getD,hj];rfl
 have notlent:∀ b,(∀ (j id:Nat),ids[j]? = some id→b∉g.TB id)→(g.lend ids).own b=none:=fun b h=>by
  cases ho:(g.lend ids).own b with
  | none=>rfl
  | some k=>obtain ⟨j,id,_,e2,e3,_⟩:=hown1 b k ho;exact (h j id e2 e3).elim
 have same:∀ b,b < w.heap.size→(∀ (j id:Nat),ids[j]? = some id→b∉g.TB id)→w'.heap[b]? = w.heap[b]?:=fun b hb1 h=>hL.same b hb1 (notlent b h)
 have own3:∀ j id b,ids[j]? = some id→b∈g.TB id→g.own b=some (.inr id):=fun j id b hj hm=>by
  obtain ⟨c,_,hc⟩:=hb j id hj
  exact (S.box id _ hc).2 b hm
 have anyB:∀ b,(ids.any fun id=>decide (b∈g.TB id))=true↔∃ (j id:Nat),ids[j]? = some id∧b∈g.TB id:=fun b=>by
  rw [List.any_eq_true]
  constructor
  ·rintro ⟨id,h1,h2⟩
   obtain ⟨j,hj⟩:=List.getElem?_of_mem h1
   exact ⟨j,id,hj,by simpa using h2⟩
  ·rintro ⟨j,id,h1,h2⟩
   exact ⟨id,List.mem_of_getElem? h1,by simpa using h2⟩
 have newB:∀ b h,g'.own b=some h→w.heap.size≤b∨∃ (j id:Nat),ids[j]? = some id∧b∈g.TB id:=fun b h ho=>by
  rcases (hL.own b h ho).1 with h1 | ⟨h',h1⟩
  ·exact .inl h1
  ·obtain ⟨j,id,_,e2,e3,_⟩:=hown1 b h' h1
   exact .inr ⟨j,id,e2,e3⟩
 have fz:∀ b h,g'.own b=some h→C.W.heap.size≤b∨C.Fz b:=fun b h ho=>by
  rcases newB b h ho with h1 | ⟨j,id,h1,h2⟩
  ·exact .inl (Nat.le_trans S.size h1)
  ·exact (S.own b _ (own3 j id b h1 h2)).1
 let chg:Nat ⊕ Nat→Prop:=fun h=>∃ (j id:Nat),ids[j]? = some id∧h=.inr id
 have keepOwn:∀ b h,g.own b=some h→¬ chg h→(g.back g' ids).own b=some h:=by
  intro b h ho hc
  have hnot:¬ ∃ (j id:Nat),ids[j]? = some id∧b∈g.TB id:=by
   rintro ⟨j,id,h1,h2⟩
   rw [own3 j id b h1 h2] at ho
   cases ho
   exact hc ⟨j,id,h1,rfl⟩
  have h1:g'.own b=none:=by
   cases h2:g'.own b with
   | none=>rfl
   | some k =>
    rcases newB b k h2 with h3 | h3
    ·have:=(S.own b h ho).2.1;omega
    ·exact (hnot h3).elim
  simp only [G.back,h1]
  rw [if_neg (by rw [anyB];exact hnot)]
  exact ho
 have k:KeepsG g (g.back g' ids) w w':=⟨fun b hb1=>hL.pub b hb1,Nat.le_refl _,fun _ _=>rfl,fun b hb1=>same b (S.publt b hb1) fun j id hj hm=>(S.own b _ (own3 j id b hj hm)).2.2 hb1⟩
 refine ⟨k,?_,?_⟩
 ·refine S.change chg S.defers S.tmps hL.os hL.tape hL.output hL.size (fun b hb1=>hL.pub b hb1) ?_ hL.publt ?_ (Nat.le_refl _) (fun _ _=>rfl) ?_ keepOwn ?_ ?_ ?_ ?_ ?_ ?_ ?_
  ·intro b hb1
   rcases hL.pub' b hb1 with h | h | ⟨h,h1⟩
   ·exact .inl h
   ·exact .inr (.inl h)
   ·obtain ⟨j,id,_,_,_,e4⟩:=hown1 b h h1
    exact .inr (.inr ⟨_,e4⟩)
  ·show g.n=_
   simp only [St.lent,setI_length]
   exact S.n
  ·intro b hb1 h
   refine same b hb1 fun j id hj hm=>?_
   have ho:=own3 j id b hj hm
   rcases h with h | ⟨h,h1,h2⟩ | ⟨h1,h2⟩
   ·exact (S.own b _ ho).2.2 h
   ·rw [ho] at h1;cases h1;exact h2 ⟨j,id,hj,rfl⟩
   ·rcases (S.own b _ ho).1 with h3 | h3
    ·omega
    ·exact h2 h3
  ·intro t _;exact ⟨rfl,rfl⟩
  ·intro i hi
   have hni:i∉ids:=fun hm=>by
    obtain ⟨j,hj⟩:=List.getElem?_of_mem hm
    exact hi ⟨j,i,hj,rfl⟩
   refine ⟨?_,by simp only [St.lent];exact setI_ne hni⟩
   simp only [G.back]
   cases hx:idxOf i ids with
   | none=>rfl
   | some j=>exact (hni (List.mem_of_getElem? (idxOf_get hx))).elim
  ·intro t y hy
   simp only [St.lent] at hy
   refine .inl ⟨?_,?_⟩
   ·rintro ⟨_,_,_,e⟩;cases e
   ·rcases look_killI hy with ⟨h,z,hz⟩ | ⟨h,hr⟩
    ·exact .inr ⟨h,z,hz⟩
    ·refine .inl ⟨h,fun h' hh=>?_⟩
     rintro ⟨j,id,hj,e⟩
     exact hr h' hh id (List.mem_of_getElem? hj) e
  ·rintro i b hb1 ⟨j,id,hj,e⟩
   cases e
   obtain ⟨c,hc,hs⟩:=setI_at (bx:=st.box) hn hl' hj (hlt j i hj)
   simp only [St.lent] at hb1
   rw [hs] at hb1
   cases hb1
   obtain ⟨h1,h2,h3⟩:=hB j c hc
   have eT:(g.back g' ids).TB i=g'.TB j:=by simp only [G.back,idxOf_of hn hj]
   have hjl:j < ids.length:=(List.getElem?_eq_some_iff.1 hj).1
   have eL:g'.loc j=(g.back g' ids).loc i:=by
    rw [hL.loc j (by simpa [G.lend] using hjl)]
    show g.loc (ids.getD j 0)=g.loc i
    rw [hgd j i hj]
   rw [eT,← eL]
   refine ⟨h1.gV rfl,fun b hm=>?_⟩
   simp only [G.back,h3 b hm]
   rw [if_pos hjl,hgd j i hj]
  ·rintro t ⟨_,_,_,e⟩;cases e
  ·rintro i ⟨j,id,hj,e⟩
   cases e
   have eT:(g.back g' ids).TB i=g'.TB j:=by simp only [G.back,idxOf_of hn hj]
   rw [eT]
   obtain ⟨c,hc,_⟩:=setI_at (bx:=st.box) hn hl' hj (hlt j i hj)
   exact (hB j c hc).2.1
  ·intro b h ho
   simp only [G.back] at ho
   split at ho
   ·rename_i j hj
    split at ho
    ·cases ho
     have:=hL.own b _ hj
     refine .inr ⟨?_,this.2.1,this.2.2⟩
     rcases newB b _ hj with h1 | ⟨j',id,h1,h2⟩
     ·exact .inr (.inl h1)
     ·exact .inl ⟨_,own3 j' id b h1 h2⟩
    ·cases ho
   ·cases ho
   ·split at ho
    ·cases ho
    ·rename_i hnone hany
     refine .inl ⟨ho,fun hp=>?_⟩
     rcases hL.pub' b hp with h1 | h1 | ⟨h',h1⟩
     ·exact (S.own b h ho).2.2 h1
     ·have:=(S.own b h ho).2.1;omega
     ·obtain ⟨j,id,_,e2,e3,_⟩:=hown1 b h' h1
      exact hany ((anyB b).2 ⟨j,id,e2,e3⟩)
 ·intro b hb1
  have:=hL.own b _ hb1
  refine ⟨by simp only [G.back,hb1],this.2.2,fz b _ hb1,this.2.1⟩
end
def argX (ids:List Nat) (x:Operand) (e:E):Option (D × List Nat × E) :=
 match (match x with | .tmp t=>look e.st.env t | _=>none) with
 | some (.d (.ptr id off))=>match idxOf id ids with
  | some j=>some (.ptr j off,ids,e)
  | none=>some (.ptr ids.length off,ids++[id],e)
 | _=>match val x e with
  | some (u,e)=>some (.v u,ids,e)
  | none=>none
def argsX (ids:List Nat):List Operand→E→Option (List D × List Nat × E)
 | [],e=>some ([],ids,e)
 | x :: xs,e=>match argX ids x e with
  | some (u,ids,e)=>match argsX ids xs e with
   | some (us,ids,e)=>some (u :: us,ids,e)
   | none=>none
  | none=>none
def boxesV (st:St):List Nat→Option (List (List V))
 | []=>some []
 | id :: ids=>match st.box[id]? with
  | some (.cells cs)=>match undv cs,boxesV st ids with
   | some c,some l=>some (c :: l)
   | _,_=>none
  | _=>none
def unaggs:List V→Option (List (List V))
 | []=>some []
 | .agg c :: l=>match unaggs l with
  | some r=>some (c :: r)
  | none=>none
 | _=>none
theorem boxesV_get {st:St}:∀ {ids:List Nat} {bs:List (List V)},boxesV st ids=some bs→ids.length=bs.length∧∀ (j id:Nat),ids[j]? = some id→∃ c,bs[j]? = some c∧st.box[id]? = some (Box.cells (dv c))
 | [],bs,h=>by cases h;exact ⟨rfl,fun j id h=>by simp at h⟩
 | x :: ids,bs,h=>by
  simp only [boxesV] at h
  split at h
  ·rename_i cs hb
   split at h
   ·rename_i c l hu hl
    cases h
    obtain ⟨h1,h2⟩:=boxesV_get hl
    refine ⟨by simp [h1],fun j id hj=>?_⟩
    cases j with
    | zero =>
     simp only [List.getElem?_cons_zero,Option.some.injEq] at hj
     subst hj
     exact ⟨c,rfl,by rw [hb,undv_eq hu]⟩
    | succ j =>
     simp only [List.getElem?_cons_succ] at hj ⊢
     exact h2 j id hj
   ·cases h
  ·cases h
section
variable {P:Program} {C:Ctx} {g:G} {st:St} {a:Act} {w w':World}
inductive ArgD (g:G) (w:World) (ids:List Nat):Value→D→Prop
 | v {u:Value} {x:V}:Rep g.pub w u x []→ArgD g w ids u (.v x)
 | ptr {j id off:Nat}:ids[j]? = some id→id < g.n→ArgD g w ids (.pointer (some ⟨g.loc id,off,none⟩)) (.ptr j off)
inductive ArgDL (g:G) (w:World) (ids:List Nat):List Value→List D→Prop
 | nil:ArgDL g w ids [] []
 | cons {v:Value} {d:D} {vs:List Value} {ds:List D}:ArgD g w ids v d→ArgDL g w ids vs ds→ArgDL g w ids (v :: vs) (d :: ds)
theorem ArgD.up {g':G} {ids ids':List Nat} {v:Value} {d:D} (h:ArgD g w ids v d) (k:KeepsG g g' w w) (hp:∀ (j x:Nat),ids[j]? = some x→ids'[j]? = some x):ArgD g' w ids' v d:=by
 cases h with
 | v h=>exact .v (h.keep k.k (fun _ h=>by cases h))
 | ptr h1 h2=>rw [← k.loc _ h2];exact .ptr (hp _ _ h1) (Nat.lt_of_lt_of_le h2 k.n)
theorem ArgDL.lend {ids:List Nat}:∀ {vs:List Value} {ds:List D},ArgDL g w ids vs ds→RepDL (g.lend ids) w vs ds []
 | _,_,.nil=>.nil
 | _,_,.cons h1 h2=>by
  refine RepDL.cons (A:=[]) (B:=[]) ?_ h2.lend
  cases h1 with
  | v h=>exact .v h
  | @ptr j id off h hl =>
   have:(g.lend ids).loc j=g.loc id:=by simp only [G.lend];rw [List.getD_eq_getElem?_getD,h];rfl
   rw [← this]
   exact .ptr (by simpa [G.lend] using (List.getElem?_eq_some_iff.1 h).1)
theorem argX_ok {ids ids':List Nat} {x:Operand} {e e':E} {u:D} (h:argX ids x e=some (u,ids',e')):All e'.ob→All e.ob∧(∀ (j y:Nat),ids[j]? = some y→ids'[j]? = some y)∧∀ g a w,SRep C g e.st a w →
 ∃ g',KeepsG g g' w w∧SRep C g' e'.st a w∧ArgD g' w ids' (a.eval x) u:=by
 intro hA
 unfold argX at h
 split at h
 ·rename_i id off hx
  have hk:∃ t,x=.tmp t∧look e.st.env t=some (.d (.ptr id off)):=by
   cases x with
   | tmp t=>exact ⟨t,rfl,hx⟩
   | _=>cases hx
  obtain ⟨t,rfl,hl⟩:=hk
  have rep:∀ g a w,SRep C g e.st a w→id < g.n∧a.eval (.tmp t)=.pointer (some ⟨g.loc id,off,none⟩):=by
   intro g a w S
   have h2:RepD g w (a.tmps.getD t undef) (.ptr id off) (g.TE t):=(S.env t _ hl).2.1
   show id < g.n∧a.tmps.getD t undef=_
   generalize a.tmps.getD t undef=v at h2
   generalize g.TE t=T at h2
   cases h2 with
   | ptr h=>exact ⟨h,rfl⟩
  split at h
  ·rename_i j hj
   cases h
   refine ⟨hA,fun _ _ h=>h,fun g a w S=>⟨g,KeepsG.refl g w,S,?_⟩⟩
   obtain ⟨h1,h2⟩:=rep g a w S
   rw [h2]
   exact .ptr (idxOf_get hj) h1
  ·cases h
   refine ⟨hA,fun j y h=>?_,fun g a w S=>⟨g,KeepsG.refl g w,S,?_⟩⟩
   ·rw [List.getElem?_append_left (List.getElem?_eq_some_iff.1 h).1];exact h
   obtain ⟨h1,h2⟩:=rep g a w S
   rw [h2]
   exact .ptr (by simp) h1
 ·split at h
  ·rename_i u e1 hv
   cases h
   obtain ⟨h0,k⟩:=val_ok (C:=C) hv hA
   refine ⟨h0,fun _ _ h=>h,fun g a w S=>?_⟩
   obtain ⟨g',kk,S',r⟩:=k g a w S
   exact ⟨g',kk,S',.v r⟩
  ·cases h
theorem argsX_ok:∀ {xs:List Operand} {ids ids':List Nat} {e e':E} {us:List D},argsX ids xs e=some (us,ids',e')→All e'.ob→All e.ob∧(∀ (j y:Nat),ids[j]? = some y→ids'[j]? = some y)∧∀ g a w,SRep C g e.st a w →
 ∃ g',KeepsG g g' w w∧SRep C g' e'.st a w∧ArgDL g' w ids' (xs.map a.eval) us
 | [],ids,ids',e,e',us,h,hA=>by
  cases h
  exact ⟨hA,fun _ _ h=>h,fun g a w S=>⟨g,KeepsG.refl g w,S,.nil⟩⟩
 | x :: xs,ids,ids',e,e',us,h,hA=>by
  simp only [argsX] at h
  split at h
  ·rename_i u ids1 e1 h1
   split at h
   ·rename_i us2 ids2 e2 h2
    cases h
    obtain ⟨a1,p1,k1⟩:=argsX_ok h2 hA
    obtain ⟨a0,p0,k0⟩:=argX_ok (C:=C) h1 a1
    refine ⟨a0,fun j y h=>p1 j y (p0 j y h),fun g a w S=>?_⟩
    obtain ⟨g1,kk1,S1,r1⟩:=k0 g a w S
    obtain ⟨g2,kk2,S2,r2⟩:=k1 g1 a w S1
    exact ⟨g2,kk1.trans kk2,S2,.cons (r1.up kk2 p1) r2⟩
   ·cases h
  ·cases h
def evCallX (N:Nat) (P:Program) (o:Oper) (f:Operand) (xs:List Operand) (e:E):Option E :=
 match val f e with
 | some (u,e)=>match fnOf u with
  | some (n,[])=>match argsX [] xs e with
   | some (us,ids,e)=>match distN ids,boxesV e.st ids with
    | true,some bs=>match hint e with
     | some (r,e)=>match hint e with
      | some (.tup hs,e)=>match unaggs hs with
       | some bs'=>match Nat.beq ids.length bs'.length with
        | true=>match o.dst with
         | none=>some { need (ConX' P n us bs (.v r) bs') e with st:=e.st.lent ids bs' }
         | some _=>match dstOf N o with
          | some d=>some { need (ConX' P n us bs (.v r) bs') e with st:=(e.st.lent ids bs').put d (.d (.v r)) }
          | none=>none
        | false=>none
       | none=>none
      | _=>none
     | none=>none
    | _,_=>none
   | none=>none
  | _=>none
 | none=>none
def lends (e:E):List Operand→Bool
 | []=>false
 | .tmp t :: xs=>match look e.st.env t with
  | some (.d (.ptr _ _))=>true
  | _=>lends e xs
 | _ :: xs=>lends e xs
theorem evCallX_ok {o:Oper} {c:Call} {f:Operand} {e e':E} (ho:o.op=.call c) (hc:c.callee=.value f) (h:evCallX C.N P o f c.args.toList e=some e') (hcalm:calmK P o.op=false):OpOk P C o e e':=by
 unfold evCallX at h
 split at h
 rotate_left
 ·cases h
 rename_i u0 e1 hf
 split at h
 rotate_left
 ·cases h
 rename_i n hfn
 have hfn:=fnOf_eq hfn
 subst hfn
 split at h
 rotate_left
 ·cases h
 rename_i us ids e2 hv
 split at h
 rotate_left
 ·cases h
 rename_i bs hdn hbs
 split at h
 rotate_left
 ·cases h
 rename_i r e3 hh1
 split at h
 rotate_left
 ·cases h
 rename_i hs e4 hh2
 split at h
 rotate_left
 ·cases h
 rename_i bs' hun
 split at h
 rotate_left
 ·cases h
 rename_i hlen
 have hlen:=Nat.eq_of_beq_eq_true hlen
 obtain ⟨a1,a2⟩:=hint_eq hh1
 obtain ⟨b1,b2⟩:=hint_eq hh2
 have hob:e4.ob=e2.ob:=by rw [b1,a1]
 have hst:e4.st=e2.st:=by rw [b2,a2]
 obtain ⟨hl,hbx⟩:=boxesV_get hbs
 have hnd:=distN_ok hdn
 have main:∀ (obl:ConX' P n us bs (.v r) bs') (hA:All e4.ob) g a w,SRep C g e.st a w→∀ (Q:Exit→Act→World→Prop) (next:Act→World→Prop),
  (∀ (v:Value) (w':World) (T:List Nat) (g2:G),SRep C g2 (e2.st.lent ids bs') a w'→T.Nodup→(∀ b∈T,g2.own b=none∧¬ g2.pub b∧(C.W.heap.size≤b∨C.Fz b)∧b < w'.heap.size)→Rep g2.pub w' v r T→next (a.put o.dst v) w')→o.wp P a w next Q:=by
  intro obl hA g a w S Q next hn
  obtain ⟨us',bs1,hf1,hf2,hen,hcon⟩:=obl
  obtain ⟨hA1,_,kv⟩:=argsX_ok (C:=C) hv (hob ▸ hA)
  obtain ⟨_,kf⟩:=val_ok (C:=C) hf hA1
  obtain ⟨g0,k0,S0,r0⟩:=kf g a w S
  obtain ⟨g1,k1,S1,r1⟩:=kv g0 a w S0
  have hfv:a.eval f=.func (.func n) #[] #[]:=by
   obtain ⟨vs0,h1,h2⟩:=r0.clo_inv
   cases h2
   exact h1
  have hargs:(c.args.map a.eval)=(c.args.toList.map a.eval).toArray:=by apply Array.ext';rw [Array.toList_map]
  unfold Oper.wp
  have:(execOp a.eval o).run P w=.ok (.enter n (c.args.toList.map a.eval).toArray) w:=by
   unfold execOp
   simp only [ho,resolve,hc,hfv,hargs,Deferred.ofValue,Sem.run_bind,Sem.run_pure,Result.andThen_ok,invoke]
   simpa using hen _ w
  rw [this,Oper.upon_enter]
  obtain ⟨hB,hown1,hown2⟩:=S1.lendOk hnd hl hbx
  refine (hcon (g1.lend ids) w _ (by rw [← hf2.length,← hl];rfl) S1.publt S1.tab (r1.lend.fit hf1) (hB.fit hf2) (fun b h ho'=>?_)).mono fun ee w' he=>?_
  ·obtain ⟨j,id,_,_,_,h4⟩:=hown1 b h ho'
   exact ⟨(S1.own b _ h4).2.1,(S1.own b _ h4).2.2⟩
  ·obtain ⟨v,T,g',rfl,hL,hR,hT,hTo,hB'⟩:=he
   obtain ⟨kk,S2,hfree⟩:=S1.lentOk hnd hl hlen hbx hL hB'
   exact hn v w' T _ S2 hT (fun b hb=>hfree b (hTo b hb)) hR.inv
 split at h
 ·rename_i hd
  cases h
  intro hA
  obtain ⟨hA,obl⟩:=All.snoc (l:=e4.ob) hA
  have h0:=(val_ok (C:=C) hf (argsX_ok (C:=C) hv (hob ▸ hA)).1).1
  refine ⟨h0,fun g a w S next Q hn=>main obl hA g a w S Q next fun v w' T g2 S2 hT hfree hR=>?_⟩
  rw [hd]
  refine hn g2 _ _ ?_ (fun h=>by rw [hcalm] at h;cases h)
  show SRep C g2 (e4.st.lent ids bs') _ _
  rw [hst]
  exact S2
 ·split at h
  ·rename_i d hd
   cases h
   obtain ⟨hdd,hdN⟩:=dstOf_eq hd
   intro hA
   obtain ⟨hA,obl⟩:=All.snoc (l:=e4.ob) hA
   have h0:=(val_ok (C:=C) hf (argsX_ok (C:=C) hv (hob ▸ hA)).1).1
   refine ⟨h0,fun g a w S next Q hn=>main obl hA g a w S Q next fun v w' T g2 S2 hT hfree hR=>?_⟩
   rw [hdd]
   refine hn (g2.put d T fun _=>False) _ _ ?_ (fun h=>by rw [hcalm] at h;cases h)
   show SRep C _ ((e4.st.lent ids bs').put d _) _ _
   rw [hst]
   exact S2.putF (row:=none) ⟨rfl,rfl,rfl,Nat.le_refl _,fun _ _ _=>rfl⟩ (by simp) hdN hT hfree hR
  ·cases h
end
section
variable {P:Program} {C:Ctx} {g:G} {st:St} {a:Act} {w w':World}
theorem SRep.setIter (S:SRep C g st a w) {id:Nat} {s:ByteArray} {pos pos':Nat} (hb:st.box[id]? = some (.iter s pos)) (hh:w'.heap[g.loc id]? = some (.stringIter s pos')) (ho:w'.os=w.os) (ht:w'.tape=w.tape) (hu:w'.output=w.output) (hsz:w'.heap.size=w.heap.size)
 (hoth:∀ b,b≠g.loc id→w'.heap[b]? = w.heap[b]?):SRep C g { env:=kill (isB id) st.env,box:=st.box.set id (.iter s pos') } a w':=by
 have hid:id < st.box.length:=(List.getElem?_eq_some_iff.1 hb).1
 obtain ⟨⟨hT,_⟩,hown⟩:=S.box id _ hb
 have hlo:g.own (g.loc id)=some (.inr id):=hown _ (by rw [hT];simp)
 refine S.change (fun h=>h=.inr id) S.defers S.tmps ho ht hu (Nat.le_of_eq hsz.symm) (fun _ h=>h) (fun _ h=>.inl h) (fun b hb'=>by rw [hsz];exact S.publt b hb') (by simpa using S.n) (Nat.le_refl _) (fun _ _=>rfl) ?_ (fun b h ho _=>ho) (fun t _=>⟨rfl,rfl⟩) (fun i hi=>⟨rfl,?_⟩) ?_ ?_ (fun t h=>by cases h) (fun i h=>by cases h;exact S.nodB id) (fun b h ho=>.inl ⟨ho,(S.own b h ho).2.2⟩)
 ·intro b hb' h
  refine hoth b (fun e=>?_)
  subst e
  rcases h with h | ⟨h,h2,h3⟩ | ⟨h2,h3⟩
  ·exact (S.own _ _ hlo).2.2 h
  ·rw [hlo] at h2;cases h2;exact h3 rfl
  ·rcases (S.own _ _ hlo).1 with h4 | h4
   ·omega
   ·exact h3 h4
 ·rw [List.getElem?_set_ne (fun e=>hi (by rw [e]))]
 ·intro t y hy
  simp only [look_kill] at hy
  refine .inl ⟨(fun e=>by cases e),?_⟩
  cases hl:look st.env t with
  | none=>rw [hl] at hy;cases hy
  | some z =>
   rw [hl] at hy
   simp only [Option.map_some,Option.some.injEq] at hy
   by_cases hdd:y=.dead
   ·exact .inr ⟨hdd,z,rfl⟩
   ·rcases X.kill_cases (isB id) z with h | ⟨h,_⟩
    ·exact (hdd (by rw [← hy,h])).elim
    ·rw [h] at hy
     subst hy
     exact .inl ⟨rfl,X.killR_rootH (q:=.b id 0) h hdd⟩
 ·intro i b hb' hc
  cases hc
  rw [List.getElem?_set_self hid] at hb'
  cases hb'
  exact ⟨⟨hT,hh⟩,hown⟩
def evRange (P:Program) (N:Nat) (o:Oper) (t:TypeId) (x:Operand) (e:E):Option E :=
 match dstOf N o with
 | none=>none
 | some d=>match P.underlying t with
  | some .string=>match val x e with
   | some (.lit (.string s),e)=>some { e with st:=({ e.st with box:=e.st.box++[Box.iter s 0] }:St).put d (.d (.ptr e.st.box.length 0)) }
   | _=>none
  | _=>none
theorem evRange_ok {o:Oper} {t:TypeId} {x:Operand} {e e':E} (ho:o.op=.range t x) (h:evRange P C.N o t x e=some e'):OpOk P C o e e':=by
 unfold evRange at h
 split at h
 ·cases h
 rename_i d hd
 obtain ⟨hdd,hdN⟩:=dstOf_eq hd
 split at h
 ·rename_i hu
  split at h
  ·rename_i s e1 hv
   cases h
   intro hA
   obtain ⟨h0,k⟩:=val_ok (C:=C) hv hA
   refine ⟨h0,fun g a w S next Q hn=>?_⟩
   obtain ⟨g1,k1,S1,r1⟩:=k g a w S
   have hx:a.eval x=.string s:=r1.lit_inv
   refine wp_of_run (v:=.pointer (some ⟨w.heap.size,0,none⟩)) (w':=w.alloc (.stringIter s 0)) ?_ ?_
   ·unfold execOp
    simp only [ho,hx,Sem.run_bind,run_range_string w t s hu,Result.andThen_ok,Sem.run_pure]
    rfl
   ·rw [hdd]
    have S2:=S1.newObj (.stringIter s 0) (.iter s 0) fun g2 _=>⟨rfl,by show (w.heap.push _)[w.heap.size]? = _;rw [Array.getElem?_push_size]⟩
    refine hn _ _ _ (S2.put0 (Calm.refl _) hdN (v:=.pointer (some ⟨w.heap.size,0,none⟩)) (D:=.ptr e1.st.box.length 0) ?_) (fun _=>Calm.alloc w _)
    have e1':(g1.newB w.heap.size []).loc g1.n=w.heap.size:=by simp [G.newB]
    rw [← S1.n]
    have:RepD (g1.newB w.heap.size []) (w.alloc (.stringIter s 0)) (.pointer (some ⟨(g1.newB w.heap.size []).loc g1.n,0,none⟩)) (.ptr g1.n 0) []:=.ptr (by simp [G.newB])
    rw [e1'] at this
    exact this
  ·cases h
 ·cases h
def evNext (N:Nat) (o:Oper) (x:Operand) (isS:Bool) (e:E):Option E :=
 match dstOf N o,isS with
 | some d,true=>match x with
  | .tmp t=>match look e.st.env t with
   | some (.d (.ptr id 0))=>match e.st.box[id]? with
    | some (.iter s pos)=>match hint e with
     | some (.kb true,e)=>some ({ (need (pos < s.size) e) with st:=({ env:=kill (isB id) e.st.env,box:=e.st.box.set id (.iter s (pos+(Utf8.decode s pos).2)) }:St).put d (.d (.v (.tup [.kb true,.lit (.int .i64 (pos:Int)),.lit (.int .i32 (Utf8.decode s pos).1)]))) })
     | some (.kb false,e)=>some ((need (¬ pos < s.size) e).put d (.tup [.kb false]))
     | _=>none
    | _=>none
   | _=>none
  | _=>none
 | _,_=>none
theorem evNext_ok {o:Oper} {x:Operand} {isS:Bool} {e e':E} (ho:o.op=.next x isS) (h:evNext C.N o x isS e=some e') (hcalm:calmK P o.op=false):OpOk P C o e e':=by
 unfold evNext at h
 split at h
 rotate_left
 ·cases h
 rename_i d hd
 obtain ⟨hdd,hdN⟩:=dstOf_eq hd
 split at h
 rotate_left
 ·cases h
 rename_i t
 split at h
 rotate_left
 ·cases h
 rename_i id hl
 split at h
 rotate_left
 ·cases h
 rename_i s pos hb
 have ptr:∀ g a w,SRep C g e.st a w→a.eval (.tmp t)=.pointer (some ⟨g.loc id,0,none⟩)∧w.heap[g.loc id]? = some (.stringIter s pos):=by
  intro g a w S
  have h2:RepD g w (a.tmps.getD t undef) (.ptr id 0) (g.TE t):=(S.env t _ hl).2.1
  refine ⟨?_,(S.box id _ hb).1.2⟩
  show a.tmps.getD t undef=_
  generalize a.tmps.getD t undef=v at h2
  generalize g.TE t=T at h2
  cases h2
  rfl
 split at h
 ·rename_i e1 hh
  obtain ⟨q1,q2⟩:=hint_eq hh
  cases h
  intro hA
  obtain ⟨hA,hlt⟩:=All.snoc (l:=e1.ob) hA
  refine ⟨q1 ▸ hA,fun g a w S next Q hn=>?_⟩
  obtain ⟨hp,hg⟩:=ptr g a w S
  refine wp_of_run (v:=.tuple #[.bool true,.int .i64 pos,.int .i32 (Utf8.decode s pos).1]) (w':={ w with heap:=w.heap.setIfInBounds (g.loc id) (.stringIter s (pos+(Utf8.decode s pos).2)) }) ?_ ?_
  ·unfold execOp
   simp only [ho,hp]
   simp [Instr.next,getObj,setObj,Sem.run,hg,Result.andThen,hlt,goInt]
  ·rw [hdd]
   have hlt2:g.loc id < w.heap.size:=by
    rcases Nat.lt_or_ge (g.loc id) w.heap.size with h | h
    ·exact h
    ·rw [Array.getElem?_eq_none h] at hg;cases hg
   have S2:=S.setIter (w':={ w with heap:=w.heap.setIfInBounds (g.loc id) (.stringIter s (pos+(Utf8.decode s pos).2)) }) hb (pos':=pos+(Utf8.decode s pos).2) (by simp [hlt2]) rfl rfl rfl (by simp) (fun b hb'=>by simp only [Array.getElem?_setIfInBounds];rw [if_neg (fun e=>hb' e.symm)])
   refine hn (g.put d [] fun _=>False) _ _ ?_ (fun h=>by rw [hcalm] at h;cases h)
   show SRep C _ (({ env:=kill (isB id) e1.st.env,box:=e1.st.box.set id (.iter s (pos+(Utf8.decode s pos).2)) }:St).put d _) _ _
   rw [q2]
   exact S2.put0 (Calm.refl _) hdN (.v (.tup (vs:=[.bool true,.int .i64 pos,.int .i32 (Utf8.decode s pos).1]) (.cons (A:=[]) (.kb true) (.cons (A:=[]) (.lit _) (.cons (A:=[]) (.lit _) .nil)))))
 ·rename_i e1 hh
  obtain ⟨q1,q2⟩:=hint_eq hh
  cases h
  intro hA
  obtain ⟨hA,hlt⟩:=All.snoc (l:=e1.ob) hA
  refine ⟨q1 ▸ hA,fun g a w S next Q hn=>?_⟩
  obtain ⟨hp,hg⟩:=ptr g a w S
  refine wp_of_run (v:=.tuple #[.bool false]) (w':=w) ?_ ?_
  ·unfold execOp
   simp only [ho,hp]
   simp [Instr.next,getObj,Sem.run,hg,Result.andThen,hlt]
  ·rw [hdd]
   refine hn (g.put d [] fun _=>False) _ _ ?_ (fun h=>by rw [hcalm] at h;cases h)
   show SRep C _ (e1.st.put d _) _ _
   rw [q2]
   exact S.put0 (Calm.refl _) hdN (.v (.tup (vs:=[.bool false]) (.cons (A:=[]) (.kb false) .nil)))
 ·cases h
end
def eqFs (P:Program) (g:TypeId→V→V→Option Bool):List Field→List V→List V→Option Bool
 | [],_,_=>some true
 | f :: fs,cs,ds=>match f.name == "_" with
  | true=>none
  | false=>match partV P f.type (cs.drop f.offset),partV P f.type (ds.drop f.offset) with
   | some u,some v=>match g f.type u v with
    | some b=>match fs with
     | []=>some b
     | _ :: _=>match eqFs P g fs cs ds with
      | some r=>some (b && r)
      | none=>none
    | none=>none
   | _,_=>none
def eqB:V→V→Option Bool
 | .lit (.bool a),.lit (.bool b)=>some (a == b)
 | _,_=>none
def eqI:V→V→Option Bool
 | .lit (.int k a),.lit (.int k' b)=>match k == k' with
  | true=>some (a == b)
  | false=>none
 | _,_=>none
def eqT:V→V→Option Bool
 | .lit (.string a),.lit (.string b)=>some (a == b)
 | _,_=>none
theorem eqB_inv {u v:V} {r:Bool} (h:eqB u v=some r):∃ a b,u=.lit (.bool a)∧v=.lit (.bool b)∧r=(a == b):=by
 unfold eqB at h
 split at h
 ·exact ⟨_,_,rfl,rfl,(Option.some.inj h).symm⟩
 ·cases h
theorem eqI_inv {u v:V} {r:Bool} (h:eqI u v=some r):∃ k a b,u=.lit (.int k a)∧v=.lit (.int k b)∧r=(a == b):=by
 unfold eqI at h
 split at h
 ·split at h
  ·rename_i hk
   exact ⟨_,_,_,rfl,by rw [eq_of_beq hk],(Option.some.inj h).symm⟩
  ·cases h
 ·cases h
theorem eqT_inv {u v:V} {r:Bool} (h:eqT u v=some r):∃ a b,u=.lit (.string a)∧v=.lit (.string b)∧r=(a == b):=by
 unfold eqT at h
 split at h
 ·exact ⟨_,_,rfl,rfl,(Option.some.inj h).symm⟩
 ·cases h
def eqV (P:Program):Nat→TypeId→V→V→Option Bool
 | 0,_,_,_=>none
 | d+1,t,u,v=>match P.underlying t with
  | some (.struct fs)=>match u,v,P.stoodInHeld t with
   | .agg cs,.agg ds,false=>eqFs P (eqV P d) fs.toList cs ds
   | _,_,_=>none
  | some .bool=>eqB u v
  | some (.int _)=>eqI u v
  | some .string=>eqT u v
  | _=>none
section
variable {P:Program} {C:Ctx}
theorem eqFs_ok {p:Pub} {w:World} {D:Nat} {g:TypeId→V→V→Option Bool} (hg:∀ t u v b,g t u v=some b→∀ x y,Rep p w x u []→Rep p w y v []→(Op.equalIn D t x y).run P w=.ok b w) {xs ys:List Value} {cs ds:List V} (h1:RepL p w xs cs []) (h2:RepL p w ys ds []) :
 ∀ {fs:List Field} {r:Bool},eqFs P g fs cs ds=some r→(Op.eqFields D xs.toArray ys.toArray fs).run P w=.ok r w
 | [],r,h=>by cases h;simp [Op.eqFields]
 | f :: fs,r,h=>by
  rw [eqFs] at h
  split at h
  ·cases h
  rename_i hn
  have hn':f.name ≠ "_" := by simpa using hn
  split at h
  rotate_left
  ·cases h
  rename_i u v hu hv
  split at h
  rotate_left
  ·cases h
  rename_i b hb
  obtain ⟨x,hx,rx⟩:=part_run h1 hu
  obtain ⟨y,hy,ry⟩:=part_run h2 hv
  have he:=hg _ _ _ _ hb x y rx ry
  split at h
  ·cases h
   simp only [Op.eqFields,if_pos hn',Sem.run_bind,hx,hy,he,Result.andThen_ok]
   cases r<;>simp
  ·split at h
   ·rename_i r' hr
    cases h
    have ih:=eqFs_ok hg h1 h2 hr
    rw [Op.eqFields]
    simp only [if_pos hn',Sem.run_bind,hx,hy,he,Result.andThen_ok]
    cases b
    ·simp
    ·simpa using ih
   ·cases h
theorem eqV_ok {p:Pub} {w:World}:∀ {d:Nat} {t:TypeId} {u v:V} {b:Bool},eqV P d t u v=some b→∀ x y,Rep p w x u []→Rep p w y v []→∀ D,d≤D→(Op.equalIn D t x y).run P w=.ok b w
 | 0,t,u,v,b,h,_,_,_,_,_,_=>by simp [eqV] at h
 | d+1,t,u,v,b,h,x,y,hx,hy,D,hD=>by
  obtain ⟨D,rfl⟩:∃ D',D=D'+1:=⟨D - 1,by omega⟩
  rw [eqV] at h
  split at h
  ·rename_i fs hu
   split at h
   ·rename_i cs ds hst
    obtain ⟨xs,rfl,r1⟩:=hx.agg_inv
    obtain ⟨ys,rfl,r2⟩:=hy.agg_inv
    have hf:P.fieldsOf t=fs:=by simp [Program.fieldsOf,hu]
    rw [run_equalIn_struct (P:=P) w D t xs.toArray ys.toArray (by rw [hf];exact hu) hst,hf]
    exact eqFs_ok (fun t u v b hb x y hx hy=>eqV_ok hb x y hx hy D (by omega)) r1 r2 h
   ·cases h
  ·rename_i hu
   obtain ⟨a,c,rfl,rfl,rfl⟩:=eqB_inv h
   have e1:=hx.lit_inv
   have e2:=hy.lit_inv
   subst e1
   subst e2
   simp only [Op.equalIn,Sem.run_bind,run_underlying hu,Result.andThen_ok,if_true,Sem.run_pure]
  ·rename_i ki hu
   obtain ⟨k,a,c,rfl,rfl,rfl⟩:=eqI_inv h
   have e1:=hx.lit_inv
   have e2:=hy.lit_inv
   subst e1
   subst e2
   simp only [Op.equalIn,Sem.run_bind,run_underlying hu,Result.andThen_ok,if_true,Sem.run_pure]
  ·rename_i hu
   obtain ⟨a,c,rfl,rfl,rfl⟩:=eqT_inv h
   have e1:=hx.lit_inv
   have e2:=hy.lit_inv
   subst e1
   subst e2
   simp only [Op.equalIn,Sem.run_bind,run_underlying hu,Result.andThen_ok,if_true,Sem.run_pure]
  ·cases h
def evEqS (P:Program) (N:Nat) (o:Oper) (op:BinOp) (t:TypeId) (x y:Operand) (e:E):Option E :=
 match dstOf N o with
 | none=>none
 | some d=>match P.eqGuardType P.depth t with
  | true=>none
  | false=>match vals [x,y] e with
   | some ([.agg cs,.agg ds],e)=>match eqV P 12 t (.agg cs) (.agg ds),op with
    | some b,.eql=>some (e.put d (.lit (.bool b)))
    | some b,.neq=>some (e.put d (.lit (.bool (!b))))
    | _,_=>none
   | _=>none
theorem eqS_run {o:Oper} {op:BinOp} {t ty:TypeId} {x y:Operand} {cs ds:List V} {b:Bool} {v:Value} (hgd:P.eqGuardType P.depth t=false) (hb:eqV P 12 t (.agg cs) (.agg ds)=some b) (hop:op=.eql∧v=.bool b∨op=.neq∧v=.bool (!b)) (ho:o.op=.binOp op t x y ty) (ρ:Operand→Value) (w:World) (p:Pub) (hr:RepL p w ([x,y].map ρ) [.agg cs,.agg ds] []):(execOp ρ o).run P w=.ok (.value v) w:=by
 simp only [List.map_cons,List.map_nil] at hr
 generalize hT:([]:List Nat)=T at hr
 cases hr with
 | @cons _ _ _ _ A B r1 r2 =>
  have hA:=(List.append_eq_nil_iff.1 hT.symm)
  rw [hA.1] at r1
  rw [hA.2] at r2
  generalize hT2:([]:List Nat)=T2 at r2
  cases r2 with
  | @cons _ _ _ _ A2 B2 r3 r4 =>
   have hA2:=(List.append_eq_nil_iff.1 hT2.symm)
   rw [hA2.1] at r3
   have he:=eqV_ok hb _ _ r1 r3 Op.maxDepth (by decide)
   obtain ⟨xs,ex,_⟩:=r1.agg_inv
   obtain ⟨ys,ey,_⟩:=r3.agg_inv
   rw [ex,ey] at he
   have hgrd:(eqGuard op t x y (.agg xs.toArray) (.agg ys.toArray)).run P w=.ok () w:=by
    unfold eqGuard
    rcases hop with ⟨rfl,_⟩ | ⟨rfl,_⟩<;>simp [Sem.run_bind,run_program,hgd]
   unfold execOp
   simp only [ho,ex,ey,Sem.run_bind,hgrd,Result.andThen_ok]
   rcases hop with ⟨rfl,rfl⟩ | ⟨rfl,rfl⟩<;>simp only [binOp,Op.equal,Sem.run_bind,he,Result.andThen_ok,Sem.run_pure]
theorem evEqS_ok {o:Oper} {op:BinOp} {t ty:TypeId} {x y:Operand} {e e':E} (ho:o.op=.binOp op t x y ty) (h:evEqS P C.N o op t x y e=some e'):OpOk P C o e e':=by
 unfold evEqS at h
 split at h
 ·cases h
 rename_i d hd
 split at h
 ·cases h
 rename_i hgd
 split at h
 rotate_left
 ·cases h
 rename_i cs ds e1 hv
 split at h
 ·rename_i b hb
  cases h
  exact OpOk.of0 hd hv rfl (fun h=>h) fun hA ρ w p hr=>⟨_,eqS_run hgd hb (.inl ⟨rfl,rfl⟩) ho ρ w p hr,.lit _⟩
 ·rename_i b hb
  cases h
  exact OpOk.of0 hd hv rfl (fun h=>h) fun hA ρ w p hr=>⟨_,eqS_run hgd hb (.inr ⟨rfl,rfl⟩) ho ρ w p hr,.lit _⟩
 ·cases h
end
section
variable {P:Program} {C:Ctx}
def ownAgg (e:E) (x:Operand):Bool:=match x with
 | .tmp q=>match look e.st.env q with
  | some (.d (.v (.agg us)))=>!(V.agg us).noOwn
  | _=>false
 | _=>false
def evStoreM (P:Program) (o:Oper) (t:TypeId) (s:Nat) (x:Operand) (e:E):Option E :=
 match o.dst with
 | some _=>none
 | none=>match look e.st.env s with
  | some (.d (.ptr id off))=>match x with
   | .tmp q=>match look e.st.env q with
    | some (.d (.v (.agg us)))=>match e.st.box[id]? with
     | some (.cells cs)=>match V.flatOk (.agg us) && Nat.ble (off+us.length) cs.length && sizeIs P t us.length with
      | true=>some { e with st:=e.st.setBox id (some q) (cs.take off++dv us++cs.drop (off+(dv us).length)) }
      | false=>none
     | _=>none
    | _=>none
   | _=>none
  | _=>none
theorem evStoreM_ok {o:Oper} {t:TypeId} {s:Nat} {x:Operand} {e e':E} (ho:o.op=.store t (.tmp s) x) (h:evStoreM P o t s x e=some e'):OpOk P C o e e':=by
 unfold evStoreM at h
 split at h
 ·cases h
 rename_i hd
 split at h
 ·rename_i id off hl
  split at h
  ·rename_i q
   split at h
   ·rename_i us hq
    split at h
    ·rename_i cs hb
     split at h
     ·rename_i hc
      cases h
      simp only [Bool.and_eq_true] at hc
      obtain ⟨⟨c1,c2⟩,c3⟩:=hc
      have c2:=Nat.le_of_ble_eq_true c2
      have c3:=sizeIs_eq c3
      refine OpOk.store (src:=some q) (ds:=dv us) ho hd (fun h=>h) hl hb (by rw [dv_length];exact c2) (by rw [dv_length];exact c3) (fun _ g a w S=>?_) (fun q' e'=>by cases e';exact ⟨_,hq⟩)
      obtain ⟨_,h2,h3⟩:=S.env q _ hq
      have h2:=RepD.inv (show RepD g w (a.eval (.tmp q)) (.v (.agg us)) (g.TE q) from h2)
      obtain ⟨r3,r4⟩:=h2.flat c1
      exact ⟨g,g.TE q,S,r3.dv,r3.one r4,S.nodE q,fun b hb'=>⟨q,rfl,h3 b hb'⟩⟩
     ·cases h
    ·cases h
   ·cases h
  ·cases h
 ·cases h
end
section
variable {P:Program} {C:Ctx}
def evBsliceM (P:Program) (N:Nat) (o:Oper) (t:TypeId) (len:Nat) (parts:List (Nat × Operand)) (e:E):Option E :=
 match dstOf N o with
 | none=>none
 | some d=>match parts with
  | [(0,.tmp q)]=>match Nat.beq len 1 with
   | true=>match look e.st.env q with
    | some (.d (.v (.agg us)))=>match P.underlying t with
     | some (.slice el)=>match sizeT P el with
      | some sz=>match zeroV P el with
       | some _=>match V.flatOk (.agg us) && Nat.beq us.length sz && Nat.ble 1 sz && Nat.ble sz 16777216 with
        | true=>some { e with st:=(e.st.wipe (.t q)).put d (.d (.v (.row (some el) sz [.agg us]))) }
        | false=>none
       | none=>none
      | none=>none
     | _=>none
    | _=>none
   | false=>none
  | _=>none
theorem bslice1_run {o:Oper} {t el:TypeId} {sz:Nat} {zs:List V} {x:Operand} {parts:Array (Nat × Operand)} (ho:o.op=.buildSlice t 1 parts) (hp:parts.toList=[(0,x)]) (hu:P.underlying t=some (.slice el)) (hs:sizeT P el=some sz) (hz:zeroV P el=some zs)
 (h1:1≤sz) (h2:sz≤16777216) (ρ:Operand→Value) (w:World) (hc:(ρ x).cells.size=sz):(execOp ρ o).run P w=.ok (.value (.slice (some ⟨w.heap.size,0,none⟩) 1 1)) (w.alloc (.cells (ρ x).cells el)):=by
 obtain ⟨it,zv,hit,hzv,_,hzr⟩:=zeroV_ok hz
 unfold sizeT at hs
 rw [hit] at hs
 have hs:it.size=sz:=Option.some.inj hs
 let xs:Array Value:=(Array.range (1*sz)).map (zv.cells[· % zv.cells.size]!)
 have hxs:xs.size=1*sz:=by simp [xs]
 obtain ⟨ys,g1,g2⟩:=fill_all (size:=sz) [ρ x] 0 xs (by simp [hc]) (by rw [hxs];simp)
 have hys:ys=(ρ x).cells:=by
  apply Array.ext'
  rw [g2]
  simp only [Nat.zero_mul,List.take_zero,List.nil_append,Nat.zero_add,List.length_singleton,List.flatMap_singleton]
  rw [List.drop_of_length_le (by rw [Array.length_toList,hxs];exact Nat.le_refl _),List.append_nil]
 have hb:(Instr.buildSlice t 1 (parts.map fun (i,x)=>(i,ρ x))).run P w=.ok (.slice (some ⟨w.heap.size,0,none⟩) 1 1) (w.alloc (.cells (ρ x).cells el)):=by
  have e4:(parts.map fun (i,x)=>(i,ρ x)).toList=(List.range' 0 [ρ x].length).zip [ρ x]:=by
   rw [Array.toList_map,hp];rfl
  simp only [xs] at g1
  simp only [Instr.buildSlice,Sem.run_bind,run_underlying hu,Result.andThen_ok,sizeOf,typeInfo,run_program,hit,Sem.run_pure,hs]
  rw [if_neg (by omega),if_neg (by omega)]
  simp only [Sem.run_bind,zeroValue,typeInfo,run_program,hit,hzv,Sem.run_pure,Result.andThen_ok,e4,g1,newRow,run_newObj,World.alloc_eq]
  rw [hys]
 unfold execOp
 simp only [ho,Sem.run_bind,hb,Result.andThen_ok,Sem.run_pure]
theorem evBsliceM_ok {o:Oper} {t:TypeId} {len:Nat} {parts:Array (Nat × Operand)} {e e':E} (ho:o.op=.buildSlice t len parts) (h:evBsliceM P C.N o t len parts.toList e=some e'):OpOk P C o e e':=by
 unfold evBsliceM at h
 split at h
 ·cases h
 rename_i d hd
 obtain ⟨hdd,hdN⟩:=dstOf_eq hd
 split at h
 ·rename_i q hpl
  split at h
  ·rename_i hlen
   have hlen:=Nat.eq_of_beq_eq_true hlen
   subst hlen
   split at h
   ·rename_i us hq
    split at h
    ·rename_i el hu
     split at h
     ·rename_i sz hs
      split at h
      ·rename_i zs hz
       split at h
       ·rename_i hc
        cases h
        simp only [Bool.and_eq_true] at hc
        obtain ⟨⟨⟨c1,c2⟩,c3⟩,c4⟩:=hc
        have c2:=Nat.eq_of_beq_eq_true c2
        have c3:=Nat.le_of_ble_eq_true c3
        have c4:=Nat.le_of_ble_eq_true c4
        refine fun hA=>⟨hA,fun g a w S next Q hn=>?_⟩
        obtain ⟨v,T,T',hpv,hR,hTn,hTo,hTo',kw,S2⟩:=S.take (r:=.t q) (u:=.agg us) (by simp only [rootVal,hq])
        have hx:a.eval (.tmp q)=v:=by
         show a.tmps.getD q undef=v
         rw [Array.getD_eq_getD_getElem?,show a.tmps[q]? = some v from hpv];rfl
        obtain ⟨hf1,hf2⟩:=hR.flat c1
        have hf1:RepL g.pub w v.cells.toList us T:=hf1
        have hcs:(a.eval (.tmp q)).cells.size=sz:=by rw [hx,← Array.length_toList,hf1.length,c2]
        refine wp_of_run (bslice1_run ho hpl hu hs hz c3 c4 a.eval w hcs) ?_
        rw [hdd]
        have hgr:=World.grownBy_alloc w (.cells (a.eval (.tmp q)).cells el) none
        have cm:=Calm.of hgr
        have hfree:∀ b∈T,(g.wipe (Root.t q).holder T').own b=none∧¬ g.pub b∧(C.W.heap.size≤b∨C.Fz b)∧b < w.heap.size:=by
         intro b hb'
         obtain ⟨o1,o2⟩:=hTo b hb'
         have:=S.own b _ o1
         refine ⟨?_,this.2.2,this.1,this.2.1⟩
         simp only [G.wipe]
         rw [if_pos ⟨o1,o2⟩]
        have hnew:(g.wipe (Root.t q).holder T').own w.heap.size=none:=by
         simp only [G.wipe]
         split
         ·rfl
         ·cases ho':g.own w.heap.size with
          | none=>rfl
          | some h'=>have:=(S.own _ _ ho').2.1;omega
        have how:=World.ownsRow_lit (base:=0) (e:=el) (size:=sz) w (a.eval (.tmp q)).cells 1 (Nat.zero_le _) (by decide) (by rw [hcs,Nat.one_mul])
        have hall:RepL g.pub (w.alloc (.cells (a.eval (.tmp q)).cells el)) (a.eval (.tmp q)).cells.toList ([V.agg us].flatMap V.cells) T:=by
         rw [List.flatMap_singleton,hx]
         exact hf1.keep ⟨fun _ h=>h,fun b hb=>by rw [← hx];exact cm.same b (S.publt b hb)⟩ (fun b hb=>by rw [← hx];exact cm.same b (hfree b hb).2.2.2)
        have hRep:=Rep.own (p:=g.pub) (w:=w.alloc (.cells (a.eval (.tmp q)).cells el)) (es:=[V.agg us]) (A:=T) (v:=.slice (some ⟨w.heap.size,0,none⟩) 1 1) (by simp [V.cells,c2]) hall (fun u hu=>by rw [hx] at hu;exact hf1.one hf2 u hu) how
        refine hn ((g.wipe (Root.t q).holder T').put d (w.heap.size :: T) fun _=>False) _ _ ?_ (fun _=>cm)
        refine S2.putF (row:=none) hgr (by simp) hdN ?_ ?_ (show Rep g.pub _ _ _ (w.heap.size :: T) from hRep)
        ·refine List.nodup_cons.2 ⟨fun hb=>?_,hTn⟩
         have:=(hfree _ hb).2.2.2;omega
        ·intro b hb
         rcases List.mem_cons.1 hb with rfl | hb
         ·exact ⟨hnew,fun hp'=>by have:=S.publt _ hp';omega,.inl S.size,by simp⟩
         ·have:=hfree b hb
          exact ⟨this.1,this.2.1,this.2.2.1,Nat.lt_of_lt_of_le this.2.2.2 cm.size⟩
       ·cases h
      ·cases h
     ·cases h
    ·cases h
   ·cases h
  ·cases h
 ·cases h
def evAppendM (P:Program) (N:Nat) (o:Oper) (ts:Array TypeId) (s x:Operand) (e:E):Option E :=
 match dstOf N o with
 | none=>none
 | some d=>match ts.toList with
  | [t,tx]=>match P.underlying t with
   | some (.slice el)=>match P.info? el with
    | some i=>match i.zero with
     | some z=>match Nat.beq z.cells.size i.size && Nat.ble 1 i.bytes && Nat.ble (140737488355328 / i.bytes) maxLen with
      | true=>match x with
       | .tmp q=>match look e.st.env q with
        | some (.d (.v (.row (some _) s2 es2)))=>match P.underlying tx with
         | some (.slice _)=>match Nat.beq s2 i.size && Nat.ble 1 s2 with
          | true=>match hint e with
           | some (.kb true,e1)=>match appS (e1.st.wipe (.t q)) el i.size s with
            | some (r,es)=>match hint e1 with
             | some (.row (some e') s' es',e2)=>match Nat.beq e' el && Nat.beq s' i.size with
              | true=>some ({ (need (es.length+es2.length≤140737488355328 / i.bytes) (need (FitL (es++es2) es') e2)) with st:=(wipeO (e2.st.wipe (.t q)) r).put d (.d (.v (.row (some el) i.size es'))) })
              | false=>none
             | _=>none
            | none=>none
           | _=>none
          | false=>none
         | _=>none
        | _=>none
       | _=>none
      | false=>none
     | none=>none
    | none=>none
   | _=>none
  | _=>none
theorem evAppendM_ok {o:Oper} {c:Call} {s x:Operand} {e e':E} (ho:o.op=.call c) (hc:c.callee=.builtin .append) (ha:c.args = #[s,x]) (h:evAppendM P C.N o c.argTypes s x e=some e'):OpOk P C o e e':=by
 unfold evAppendM at h
 split at h
 ·cases h
 rename_i d hd
 obtain ⟨hdd,hdN⟩:=dstOf_eq hd
 split at h
 rotate_left
 ·cases h
 rename_i t tx hts
 have hts:c.argTypes = #[t,tx]:=by rw [← Array.toArray_toList (xs:=c.argTypes),hts]
 split at h
 rotate_left
 ·cases h
 rename_i el hu
 split at h
 rotate_left
 ·cases h
 rename_i i hi
 split at h
 rotate_left
 ·cases h
 rename_i z hz
 split at h
 rotate_left
 ·cases h
 rename_i hck
 simp only [Bool.and_eq_true] at hck
 obtain ⟨⟨k1,k2⟩,k3⟩:=hck
 have k1:=Nat.eq_of_beq_eq_true k1
 have k2:=Nat.le_of_ble_eq_true k2
 have k3:=Nat.le_of_ble_eq_true k3
 split at h
 rotate_left
 ·cases h
 rename_i q
 split at h
 rotate_left
 ·cases h
 rename_i et2 s2 es2 hq
 split at h
 rotate_left
 ·cases h
 rename_i ex hux
 split at h
 rotate_left
 ·cases h
 rename_i hck3
 rw [Bool.and_eq_true] at hck3
 have k4:=Nat.eq_of_beq_eq_true hck3.1
 subst k4
 split at h
 rotate_left
 ·cases h
 rename_i e1 hh1
 obtain ⟨p1,p2⟩:=hint_eq hh1
 split at h
 rotate_left
 ·cases h
 rename_i r es hs
 split at h
 rotate_left
 ·cases h
 rename_i e'' s' es' e2 hh
 split at h
 rotate_left
 ·cases h
 rename_i hck2
 rw [Bool.and_eq_true] at hck2
 have c1:=Nat.eq_of_beq_eq_true hck2.1
 have c2:=Nat.eq_of_beq_eq_true hck2.2
 subst c1
 subst c2
 cases h
 obtain ⟨q1,q2⟩:=hint_eq hh
 intro hA
 obtain ⟨hA,hsz⟩:=All.snoc (l:=e2.ob++_) hA
 obtain ⟨hA,hfit⟩:=All.snoc (l:=e2.ob) hA
 have hA0:All e.ob:=by rw [← p1,← q1];exact hA
 refine ⟨hA0,fun g a w S next Q hn=>?_⟩
 have hst2:e2.st=e.st:=q2.trans p2
 rw [p2] at hs
 obtain ⟨y,T2,T2',hpy,hR2,hTn2,hTo2,hTo2',kw2,S1⟩:=S.take (r:=.t q) (u:=.row (some et2) i.size es2) (by simp only [rootVal,hq])
 have hy:a.eval (.tmp q)=y:=by
  show a.tmps.getD q undef=y
  rw [Array.getD_eq_getD_getElem?,show a.tmps[q]? = some y from hpy];rfl
 obtain ⟨news,A2,hT2,hsize2,hnews,hone2,how2⟩:=own_inv hR2
 have hsrc:Src P tx i.size es2.length news (a.eval (.tmp q)) w:=by
  rw [hy]
  have how2':=how2
  rcases how2.2 with ⟨hv,hn0⟩ | ⟨b,cap,cur,hv,_,hg,_⟩
  ·rw [hv,hn0]
   have:news=[]:=List.eq_nil_of_length_eq_zero (by rw [how2.1,hn0];simp)
   subst this
   exact Src.slice hux (by simp) (by simp) (by simp) (fun _=>rfl)
  ·rw [hv] at how2' ⊢
   exact Src.slice hux how2'.1 hone2 (fun j v hj=>⟨_,rfl,how2'.cells (g:=b) rfl j v hj⟩) (by simp)
 have hfree2:∀ b∈T2,(g.wipe (Root.t q).holder T2').own b=none∧¬ g.pub b∧(C.W.heap.size≤b∨C.Fz b)∧b < w.heap.size:=by
  intro b hb'
  obtain ⟨o1,o2⟩:=hTo2 b hb'
  have:=S.own b _ o1
  refine ⟨?_,this.2.2,this.1,this.2.1⟩
  simp only [G.wipe]
  rw [if_pos ⟨o1,o2⟩]
 have hA2T:∀ b∈A2,b∈T2:=fun b hb=>by rw [hT2];simp [hb]
 have hnd2:A2.Nodup:=by rw [hT2] at hTn2;exact (List.nodup_append.1 hTn2).2.1
 generalize hg1:g.wipe (Root.t q).holder T2'=g1 at *
 have hp1:g1.pub=g.pub:=by rw [← hg1];rfl
 have hnews:RepL g1.pub w news (es2.flatMap V.cells) A2:=by rw [hp1];exact hnews
 have hfree2:∀ b∈A2,g1.own b=none∧¬ g1.pub b∧(C.W.heap.size≤b∨C.Fz b)∧b < w.heap.size:=fun b hb=>by rw [hp1];exact hfree2 b (hA2T b hb)
 have hb:(es.length+es2.length)*i.bytes≤140737488355328:=Nat.le_trans (Nat.mul_le_mul_right _ hsz) (Nat.div_mul_le_self _ _)
 have hm:es.length+es2.length≤maxLen:=Nat.le_trans hsz k3
 have exec:∀ v',∀ w',(Builtin.append_ c.argTypes o.type #[a.eval s,a.eval (.tmp q)]).run P w=.ok v' w'→(execOp a.eval o).run P w=.ok (.value v') w':=by
  intro v' w' hr
  unfold execOp
  simp only [ho,resolve,hc,ha,Sem.run_bind,Sem.run_pure,Result.andThen_ok,invoke,builtin,List.map_toArray,List.map_cons,List.map_nil,hr]
 rcases appS_ok S1 hs with ⟨rfl,rfl,hv⟩ | ⟨qq,rfl,hp⟩
 ·
  obtain ⟨v',w',hr,how,hgr,hblk⟩:=append_run (P:=P) w t tx o.type e'' i z i.size i.bytes hu hi hz rfl rfl k1 (.slice none 0 0) 0 [] (World.ownsRow_nil w 0 e'' i.size) (a.eval (.tmp q)) es2.length news hsrc (by simpa using hm) (by simpa using hb)
  refine wp_of_run (exec v' w' (by rw [hts,hv];exact hr)) ?_
  rw [hdd]
  simp only [Nat.zero_add,List.nil_append] at how
  have hfit':FitL es2 es':=by simpa using hfit
  have hRep:Rep g1.pub w' v' (.row (some e'') i.size es') (v'.ownBlock.toList++A2):=by
   refine Rep.own (hfit'.sizes hsize2) ((hnews.keep ⟨fun _ h=>h,fun b hb=>hgr.block b (S1.publt b hb) (by simp [Value.ownBlock])⟩ (fun b hb=>hgr.block b (hfree2 b hb).2.2.2 (by simp [Value.ownBlock]))).fit hfit'.flat) hsrc.one ?_
   rw [← hfit'.length];exact how
  refine hn (g1.put d (v'.ownBlock.toList++A2) fun _=>False) _ _ ?_ (fun h=>by rw [ho] at h;simp [calmK,hc] at h)
  show SRep C _ ((e2.st.wipe (.t q)).put d _) _ _
  rw [hst2]
  have hbn:∀ b,v'.ownBlock=some b→b=w.heap.size:=fun b hb'=>by
   rcases (hblk b hb').1 with h1 | h1
   ·simp [Value.ownBlock] at h1
   ·exact h1
  refine S1.putF (row:=none) hgr (by simp) hdN ?_ ?_ hRep
  ·refine List.nodup_append.2 ⟨by cases v'.ownBlock<;>simp,hnd2,fun b hb1 c hc1 e=>?_⟩
   subst e
   have:=hbn b (by simpa using hb1)
   have:=(hfree2 b hc1).2.2.2
   omega
  ·intro b hb'
   rcases List.mem_append.1 hb' with hb' | hb'
   ·have hb':v'.ownBlock=some b:=by simpa using hb'
    have hbw:=hbn b hb'
    have h2:=(hblk b hb').2
    subst hbw
    refine ⟨?_,?_,.inl S1.size,h2⟩
    ·cases ho':g1.own w.heap.size with
     | none=>rfl
     | some h'=>have:=(S1.own _ _ ho').2.1;omega
    ·intro hp';have:=S1.publt _ hp';omega
   ·have:=hfree2 b hb'
    exact ⟨this.1,this.2.1,this.2.2.1,Nat.lt_of_lt_of_le this.2.2.2 hgr.size⟩
 ·
  obtain ⟨v,T,T',hpv,hR,hTn,hTo,hTo',kw,S2⟩:=S1.take (peek_root hp)
  obtain ⟨_,hpv',_⟩:=peek_ok S1 hp
  have hv:v=a.eval s:=by rw [hpv] at hpv';exact Option.some.inj hpv'
  subst hv
  obtain ⟨xs,A,hT,h1,h2,h3,how0⟩:=own_inv hR
  obtain ⟨v',w',hr,how,hgr,hblk⟩:=append_run (P:=P) w t tx o.type e'' i z i.size i.bytes hu hi hz rfl rfl k1 (a.eval s) es.length xs how0 (a.eval (.tmp q)) es2.length news hsrc hm hb
  refine wp_of_run (exec v' w' (by rw [hts];exact hr)) ?_
  rw [hdd]
  have hpubw:∀ b,g1.pub b→w'.heap[b]? = w.heap[b]?:=fun b hb'=>hgr.block b (S1.publt b hb') (fun e=>by
   have hbT:b∈T:=by rw [hT,← e];simp
   exact (S1.own b _ (hTo b hbT).1).2.2 hb')
  have hAw:∀ b∈A,w'.heap[b]? = w.heap[b]?:=fun b hb'=>by
   have hbT:b∈T:=by rw [hT];simp [hb']
   refine hgr.block b (S1.own b _ (hTo b hbT).1).2.1 (fun e=>?_)
   rw [hT] at hTn
   exact (List.nodup_append.1 hTn).2.2 b (by rw [← e];simp) b hb' rfl
  have hd2:∀ b∈A2,b∉T:=fun b hb1 hb2=>by
   have:=(hTo b hb2).1
   rw [(hfree2 b hb1).1] at this
   cases this
  have hA2w:∀ b∈A2,w'.heap[b]? = w.heap[b]?:=fun b hb'=>hgr.block b (hfree2 b hb').2.2.2 (fun e=>hd2 b hb' (by rw [hT,← e];simp))
  have hfl:(es++es2).flatMap V.cells=es.flatMap V.cells++es2.flatMap V.cells:=by simp
  have hall:RepL g1.pub w' (xs++news) (es'.flatMap V.cells) (A++A2):=by
   refine RepL.fit (ds:=(es++es2).flatMap V.cells) ?_ hfit.flat
   rw [hfl]
   exact (h2.keep ⟨fun _ h=>h,hpubw⟩ hAw).app (hnews.keep ⟨fun _ h=>h,hpubw⟩ hA2w)
  have hRep:Rep g1.pub w' v' (.row (some e'') i.size es') (v'.ownBlock.toList++(A++A2)):=by
   refine Rep.own (hfit.sizes (fun e he=>?_)) hall (fun u hu'=>?_) ?_
   ·rcases List.mem_append.1 he with he | he
    ·exact h1 e he
    ·exact hsize2 e he
   ·rcases List.mem_append.1 hu' with hu' | hu'
    ·exact h3 u hu'
    ·exact hsrc.one u hu'
   ·rw [← hfit.length,List.length_append];exact how
  refine hn ((g1.wipe qq.holder T').put d (v'.ownBlock.toList++(A++A2)) fun _=>False) _ _ ?_ (fun h=>by rw [ho] at h;simp [calmK,hc] at h)
  show SRep C _ (((e2.st.wipe (.t q)).wipe qq).put d _) _ _
  rw [hst2]
  have hfree:∀ b∈T,(g1.wipe qq.holder T').own b=none∧¬ g1.pub b∧(C.W.heap.size≤b∨C.Fz b)∧b < w.heap.size:=by
   intro b hb'
   obtain ⟨o1,o2⟩:=hTo b hb'
   have:=S1.own b _ o1
   refine ⟨?_,this.2.2,this.1,this.2.1⟩
   simp only [G.wipe]
   rw [if_pos ⟨o1,o2⟩]
  have hfreeA2:∀ b∈A2,(g1.wipe qq.holder T').own b=none:=fun b hb'=>by
   simp only [G.wipe]
   split
   ·rfl
   ·exact (hfree2 b hb').1
  have hnew:(g1.wipe qq.holder T').own w.heap.size=none:=by
   simp only [G.wipe]
   split
   ·rfl
   ·cases ho':g1.own w.heap.size with
    | none=>rfl
    | some h'=>have:=(S1.own _ _ ho').2.1;omega
  have hTA:T=(a.eval s).ownBlock.toList++A:=hT
  have hndT:=hTn
  rw [hTA] at hndT
  refine S2.putF (row:=(a.eval s).ownBlock) hgr (fun b hb'=>?_) hdN ?_ ?_ hRep
  ·have:=hfree b (by rw [hT,hb'];simp)
   exact ⟨this.1,this.2.1,this.2.2.1⟩
  ·refine List.nodup_append.2 ⟨by cases v'.ownBlock<;>simp,List.nodup_append.2 ⟨(List.nodup_append.1 hndT).2.1,hnd2,fun b hb1 c hc1 e=>?_⟩,fun b hb1 c hc1 e=>?_⟩
   ·subst e
    exact hd2 b hc1 (by rw [hTA];simp [hb1])
   ·subst e
    have hb1:v'.ownBlock=some b:=by simpa using hb1
    rcases (hblk b hb1).1 with h5 | h5
    ·rcases List.mem_append.1 hc1 with hc1 | hc1
     ·exact (List.nodup_append.1 hndT).2.2 b (by rw [h5];simp) b hc1 rfl
     ·exact hd2 b hc1 (by rw [hTA,h5];simp)
    ·rcases List.mem_append.1 hc1 with hc1 | hc1
     ·have:=(hfree b (by rw [hTA];simp [hc1])).2.2.2;omega
     ·have:=(hfree2 b hc1).2.2.2;omega
  ·intro b hb'
   rcases List.mem_append.1 hb' with hb' | hb'
   ·have hb':v'.ownBlock=some b:=by simpa using hb'
    obtain ⟨h5,h6⟩:=hblk b hb'
    rcases h5 with h5 | h5
    ·have:=hfree b (by rw [hTA,h5];simp)
     exact ⟨this.1,this.2.1,this.2.2.1,h6⟩
    ·subst h5
     exact ⟨hnew,fun hp'=>by have:=S1.publt _ hp';omega,.inl S1.size,h6⟩
   ·rcases List.mem_append.1 hb' with hb' | hb'
    ·have:=hfree b (by rw [hTA];simp [hb'])
     exact ⟨this.1,this.2.1,this.2.2.1,Nat.lt_of_lt_of_le this.2.2.2 hgr.size⟩
    ·have:=hfree2 b hb'
     exact ⟨hfreeA2 b hb',this.2.1,this.2.2.1,Nat.lt_of_lt_of_le this.2.2.2 hgr.size⟩
end
section
variable {P:Program} {C:Ctx}
def evNil (N:Nat) (o:Oper) (x:Operand) (e:E):Option E :=
 match dstOf N o with
 | none=>none
 | some d=>match x with
  | .tmp t=>match look e.st.env t with
   | some (.d (.v (.pt cs)))=>some (e.put d (.pt cs))
   | some (.d (.ptr i f))=>some { e with st:=e.st.put d (.d (.ptr i f)) }
   | some (.pa r sz i j)=>match (X.pa r sz i j).kill (isT d) with
    | .pa _ _ _ _=>some { e with st:=e.st.put d (.pa r sz i j) }
    | _=>none
   | _=>none
  | _=>none
theorem evNil_ok {o:Oper} {x:Operand} {e e':E} (ho:o.op=.nilCheck x) (h:evNil C.N o x e=some e'):OpOk P C o e e':=by
 unfold evNil at h
 split at h
 ·cases h
 rename_i d hd
 obtain ⟨hdd,hdN⟩:=dstOf_eq hd
 split at h
 ·rename_i t
  have run:∀ {a:Act} {w:World} {q:Addr},a.eval (.tmp t)=.pointer (some q)→(execOp a.eval o).run P w=.ok (.value (.pointer (some q))) w:=by
   intro a w q hx
   unfold execOp
   simp only [ho,hx,Sem.run_pure]
  split at h
  ·rename_i cs hl
   cases h
   refine OpOk.vv hd id fun _ g a w S=>?_
   obtain ⟨_,h2,_⟩:=S.env t _ hl
   have h2:=RepD.inv h2
   have h3:=h2.noOwn rfl
   rw [h3] at h2
   refine ⟨a.tmps.getD t undef,g,S,?_,h2⟩
   generalize hv:a.tmps.getD t undef=v at h2
   cases h2
   exact run hv
  ·rename_i i f hl
   cases h
   refine fun hA=>⟨hA,fun g a w S next Q hn=>?_⟩
   obtain ⟨_,h2,_⟩:=S.env t _ hl
   have h2:RepD g w (a.tmps.getD t undef) (.ptr i f) (g.TE t):=h2
   have h3:=h2.noOwn rfl
   rw [h3] at h2
   have h2':=h2
   generalize hv:a.tmps.getD t undef=v at h2
   cases h2 with
   | ptr hid =>
    refine wp_of_run (run hv) ?_
    rw [hdd]
    rw [hv] at h2'
    exact hn _ _ _ (S.put0 (Calm.refl w) hdN h2') (fun _=>Calm.refl w)
  ·rename_i r sz i j hl
   split at h
   ·rename_i hk
    cases h
    have hk:(X.pa r sz i j).kill (isT d)=.pa r sz i j:=by
     rcases X.kill_cases (isT d) (X.pa r sz i j) with h | h
     ·rw [h] at hk;cases hk
     ·exact h.1
    refine fun hA=>⟨hA,fun g a w S next Q hn=>?_⟩
    obtain ⟨h1,⟨_,h2⟩,h3⟩:=S.env t _ hl
    obtain ⟨b,_,_,h5⟩:=h2
    refine wp_of_run (run h5) ?_
    rw [hdd,← h5]
    exact hn _ _ _ (S.putA hdN hk (by simp) ⟨rfl,⟨b,by assumption,by assumption,h5⟩⟩ (by simp)) (fun _=>Calm.refl w)
   ·cases h
  ·cases h
 ·cases h
def evLen0 (P:Program) (N:Nat) (o:Oper) (ts:Array TypeId) (x:Operand) (e:E):Option E :=
 match dstOf N o with
 | none=>none
 | some d=>match peek e.st x with
  | some (_,.nil _ _)=>match ts[0]? with
   | some t=>match P.underlying t with
    | some (.slice _)=>some (e.put d (.lit (.int .i64 0)))
    | _=>none
   | none=>none
  | _=>none
theorem evLen0_ok {o:Oper} {c:Call} {x:Operand} {e e':E} (ho:o.op=.call c) (hc:c.callee=.builtin .len) (ha:c.args = #[x]) (h:evLen0 P C.N o c.argTypes x e=some e'):OpOk P C o e e':=by
 unfold evLen0 at h
 split at h
 ·cases h
 rename_i d hd
 split at h
 ·rename_i r el sz hp
  split at h
  ·rename_i t ht
   split at h
   ·rename_i el' hu
    cases h
    refine OpOk.vv hd id fun _ g a w S=>⟨.int .i64 0,g,S,?_,.lit _⟩
    obtain ⟨T,_,hr,_⟩:=peek_ok S hp
    have hv:a.eval x=.slice none 0 0:=by generalize a.eval x=v at hr;cases hr;rfl
    unfold execOp
    simp only [ho,resolve,hc,ha,Sem.run_bind,Sem.run_pure,Result.andThen_ok,invoke,builtin,List.map_toArray,List.map_cons,List.map_nil,hv,Builtin.len_,ht,List.getElem?_toArray,List.getElem?_cons_zero,run_underlying hu,goInt]
    rfl
   ·cases h
  ·cases h
 ·cases h
def pickO (v:Bool) (a b:Operand):Operand:=match v with
 | true=>a
 | false=>b
def evPick (N:Nat) (o:Oper) (c a b:Operand) (e:E):Option E :=
 match c with
 | .tmp t=>match look e.st.env t with
  | some (.d (.v (.kb v)))=>match dstOf N o with
   | some d=>match val (pickO v a b) e with
    | some (u,e)=>some (e.put d u)
    | none=>none
   | none=>none
  | _=>evLit N o [c,a,b] pickR e
 | _=>evLit N o [c,a,b] pickR e
theorem evPick_ok {o:Oper} {c x y:Operand} {e e':E} (ho:o.op=.pick c x y) (h:evPick C.N o c x y e=some e'):OpOk P C o e e':=by
 have lit:∀ {c},o.op=.pick c x y→evLit C.N o [c,x,y] pickR e=some e'→OpOk P C o e e':=fun ho h=>evLit_ok h fun vs v obs hf hA ρ w hρ=>pickR_ok ho hf ρ w hρ
 unfold evPick at h
 split at h
 ·rename_i t
  split at h
  ·rename_i v hl
   split at h
   ·rename_i d hd
    split at h
    ·rename_i u e1 hv
     cases h
     intro hA
     obtain ⟨hdd,hdN⟩:=dstOf_eq hd
     obtain ⟨h0,k⟩:=val_ok (C:=C) hv hA
     refine ⟨h0,fun g a w S next Q hn=>?_⟩
     obtain ⟨g1,k1,S1,r1⟩:=k g a w S
     have hc:a.eval (.tmp t)=.bool v:=RepD.kb (S.env t _ hl).2.1
     refine wp_of_run (v:=a.eval (pickO v x y)) (w':=w) ?_ ?_
     ·unfold execOp
      simp only [ho,hc,asBool,Sem.run_bind,Sem.run_pure,Result.andThen_ok]
      cases v<;>rfl
     ·rw [hdd]
      exact hn _ _ _ (S1.put0 (Calm.refl w) hdN (.v r1)) (fun _=>Calm.refl w)
    ·cases h
   ·cases h
  ·exact lit ho h
 ·exact lit ho h
def isElt (e:E) (s:Operand):Bool:=match s with
 | .tmp q=>match look e.st.env q with
  | some (.al (.elt _ _ _ _))=>true
  | _=>false
 | _=>false
def evCallC (P:Program) (N:Nat) (o:Oper) (c:Call) (e:E):Option E:=match c.callee with
 | .builtin .len=>match c.args.toList with
  | [x]=>match peek e.st x with
   | some (_,.row _ _ _)=>evLen P N o c.argTypes x e
   | some (_,.nil _ _)=>evLen0 P N o c.argTypes x e
   | _=>evLit N o c.args.toList (bltR P .len c.argTypes o.type) e
  | _=>none
 | .builtin .append=>match c.args.toList with
  | [s,x]=>match isElt e s with
   | true=>evAppendE P N o c.argTypes s x e
   | false=>match evAppend P N o c.argTypes s x e with
    | some e'=>some e'
    | none=>evAppendM P N o c.argTypes s x e
  | _=>none
 | .builtin b=>evLit N o c.args.toList (bltR P b c.argTypes o.type) e
 | .value f=>match lends e c.args.toList with
  | true=>match calmK P o.op with
   | false=>evCallX N P o f c.args.toList e
   | true=>none
  | false=>evCall N P o f c.args.toList e
 | _=>none
def evMakeFunc (N:Nat) (o:Oper) (fn:Fn) (first captured:List Operand) (e:E):Option E :=
 match dstOf N o with
 | none=>none
 | some d=>match fn,first with
  | .func f,[]=>match vals captured e with
   | some (us,e)=>some (e.put d (.clo f us))
   | none=>none
  | _,_=>none
theorem evMakeFunc_ok {o:Oper} {fn:Fn} {first captured:Array Operand} {e e':E} (ho:o.op=.makeFunc fn first captured) (h:evMakeFunc C.N o fn first.toList captured.toList e=some e'):OpOk P C o e e':=by
 unfold evMakeFunc at h
 split at h
 ·cases h
 rename_i d hd
 split at h
 ·rename_i f hf
  split at h
  ·rename_i us e1 hv
   cases h
   refine OpOk.of0 hd hv rfl (fun h=>h) fun hA ρ w p hr=>?_
   refine ⟨.func (.func f) #[] (captured.map ρ),?_,?_⟩
   ·have h0:first = #[]:=by rw [← Array.toArray_toList (xs:=first),hf]
    unfold execOp
    simp only [ho,h0,Instr.makeFunc,Sem.run_bind,Sem.run_pure,Result.andThen_ok,Array.map_empty,List.map_toArray,List.map_nil]
   ·have:captured.map ρ=(captured.toList.map ρ).toArray:=by apply Array.ext';rw [Array.toList_map]
    rw [this]
    exact .clo hr
  ·cases h
 ·cases h
def ev1 (P:Program) (N:Nat) (o:Oper) (e:E):Option E:=match o.op with
 | .move x=>evMove P N o false x e
 | .assign x=>evMove P N o true x e
 | .binOp op t x y _=>match P.underlying t with
  | some (.struct _)=>evEqS P N o op t x y e
  | _=>evLit N o [x,y] (binR P op t x y) e
 | .unOp op _ x=>evLit N o [x] (unR P op) e
 | .pick c a b=>evPick N o c a b e
 | .convert s t x=>match P.underlying s,P.underlying t with
  | some (.slice _),some .string=>evStr P N o s t x e
  | some .string,some (.slice _)=>evBytes P N o s t x e
  | _,_=>evLit N o [x] (convR P s t) e
 | .index t x i=>evLit N o [x,i] (ixR P t) e
 | .slice t x lo hi none=>match P.underlying t with
  | some .string=>evLit N o (x :: (lo.toList++hi.toList)) (slR P t lo.isSome hi.isSome) e
  | some (.array _ _)=>match lo,hi with
   | none,none=>evSliceP P N o t x e
   | _,_=>none
  | _=>evCut P N o t x lo hi e
 | .indexAddr t x i=>match P.underlying t with
  | some (.array _ _)=>evIaddrA P N o t x i e
  | _=>evIaddr P N o t x i e
 | .fieldAddr s x f=>evFaddr P N o s x f e
 | .load t x=>match x with
  | .tmp s=>match look e.st.env s with
   | some (.d (.ptr _ _))=>match evLoadB P N o t s e with
    | some e'=>some e'
    | none=>evLoadM P N o t s e
   | _=>evLoad P N o t x e
  | _=>none
 | .store t x y=>match x with
  | .tmp s=>match look e.st.env s with
   | some (.pa _ _ _ _)=>evStoreP P o t s y e
   | _=>match ownAgg e y with
    | true=>evStoreM P o t s y e
    | false=>evStoreB P o t s y e
  | _=>none
 | .box t x=>evBox P N o t x e
 | .alloc t=>evAlloc P N o t e
 | .field t x f=>evField P N o t x f e
 | .extract x i=>match isOwnT e x i with
  | true=>evExtractO N o x i e
  | false=>evExtract N o x i e
 | .build t parts=>evBuild P N o t parts.toList e
 | .buildSlice t len parts=>match hint e with
  | some (.tup [],e1)=>evBsliceM P N o t len parts.toList e1
  | _=>evBslice P N o t len parts.toList e
 | .makeSlice t l c=>evMslice P N o t l c e
 | .call c=>evCallC P N o c e
 | .nilCheck x=>evNil N o x e
 | .makeFunc fn first captured=>evMakeFunc N o fn first.toList captured.toList e
 | .range t x=>evRange P N o t x e
 | .next x s=>evNext N o x s e
 | _=>none
theorem arr1 {α:Type} {a:Array α} {x:α} (h:a.toList=[x]):a = #[x]:=by rw [← Array.toArray_toList (xs:=a),h]
theorem arr2 {α:Type} {a:Array α} {x y:α} (h:a.toList=[x,y]):a = #[x,y]:=by rw [← Array.toArray_toList (xs:=a),h]
theorem evCallC_ok {o:Oper} {c:Call} {e e':E} (ho:o.op=.call c) (h:evCallC P C.N o c e=some e'):OpOk P C o e e':=by
 unfold evCallC at h
 split at h
 ·rename_i hc
  split at h
  ·rename_i x hx
   split at h
   ·exact evLen_ok ho hc (arr1 hx) h
   ·exact evLen0_ok ho hc (arr1 hx) h
   ·exact evLit_ok h fun vs v obs hf hA ρ w hρ=>bltR_ok ho hc hf ρ w hρ
  ·cases h
 ·rename_i hc
  split at h
  ·rename_i s x hx
   split at h
   ·exact evAppendE_ok ho hc (arr2 hx) h
   ·split at h
    ·rename_i h1
     cases h
     exact evAppend_ok ho hc (arr2 hx) h1
    ·exact evAppendM_ok ho hc (arr2 hx) h
  ·cases h
 ·rename_i b hc _ _
  exact evLit_ok h fun vs v obs hf hA ρ w hρ=>bltR_ok ho ‹_› hf ρ w hρ
 ·rename_i f hc
  split at h
  ·split at h
   ·exact evCallX_ok ho hc h ‹_›
   ·cases h
  ·exact evCall_ok ho hc h
 ·cases h
theorem ev1_ok {o:Oper} {e e':E} (h:ev1 P C.N o e=some e'):OpOk P C o e e':=by
 unfold ev1 at h
 split at h
 ·exact evMove_ok (.inl ‹_›) h
 ·exact evMove_ok (.inr ‹_›) h
 ·split at h
  ·exact evEqS_ok ‹_› h
  ·exact evLit_ok h fun vs v obs hf hA ρ w hρ=>binR_ok ‹_› hf hA ρ w hρ
 ·exact evLit_ok h fun vs v obs hf hA ρ w hρ=>unR_ok ‹_› hf ρ w hρ
 ·exact evPick_ok ‹_› h
 ·split at h
  ·exact evStr_ok ‹_› h
  ·exact evBytes_ok ‹_› h
  ·exact evLit_ok h fun vs v obs hf hA ρ w hρ=>convR_ok ‹_› hf hA ρ w hρ
 ·exact evLit_ok h fun vs v obs hf hA ρ w hρ=>ixR_ok ‹_› hf hA ρ w hρ
 ·split at h
  ·exact evLit_ok h fun vs v obs hf hA ρ w hρ=>slR_ok ‹_› hf hA ρ w hρ
  ·split at h
   ·exact evSliceP_ok ‹_› h
   ·cases h
  ·exact evCut_ok ‹_› h
 ·split at h
  ·exact evIaddrA_ok ‹_› h
  ·exact evIaddr_ok ‹_› h
 ·exact evFaddr_ok ‹_› h
 ·split at h
  ·split at h
   ·split at h
    ·rename_i hb
     cases h
     exact evLoadB_ok ‹_› hb
    ·exact evLoadM_ok ‹_› h
   ·exact evLoad_ok ‹_› h
  ·cases h
 ·split at h
  ·split at h
   ·exact evStoreP_ok ‹_› h
   ·split at h
    ·exact evStoreM_ok ‹_› h
    ·exact evStoreB_ok ‹_› h
  ·cases h
 ·exact evBox_ok ‹_› h
 ·exact evAlloc_ok ‹_› h
 ·exact evField_ok ‹_› h
 ·split at h
  ·exact evExtractO_ok ‹_› h
  ·exact evExtract_ok ‹_› h
 ·exact evBuild_ok ‹_› h
 ·split at h
  ·rename_i e1 hh
   obtain ⟨q1,q2⟩:=hint_eq hh
   have:=evBsliceM_ok (C:=C) ‹_› h
   unfold OpOk at this ⊢
   rw [q1,q2] at this
   exact this
  ·exact evBslice_ok ‹_› h
 ·exact evMslice_ok ‹_› h
 ·exact evCallC_ok ‹_› h
 ·exact evNil_ok ‹_› h
 ·exact evMakeFunc_ok ‹_› h
 ·exact evRange_ok ‹_› h
 ·rename_i ho;exact evNext_ok ho h (by rw [ho];rfl)
 ·cases h
def skipE (N:Nat) (o:Oper) (e:E):Option E:=match o.dst with
 | none=>some e
 | some _=>match dstOf N o with
  | some d=>some (e.put d (.lit undef))
  | none=>none
def guardT (ops:Array Oper) (j:Nat):Option Nat:=match ops[j]? with
 | some o=>o.dst
 | none=>none
def evOp (P:Program) (N:Nat) (ops:Array Oper) (o:Oper) (e:E):Option E:=match o.guard with
 | none=>ev1 P N o e
 | some (j,want)=>match guardT ops j with
  | some d=>match look e.st.env d with
   | some (.d (.v (.kb v)))=>match v == want with
    | true=>ev1 P N o e
    | false=>skipE N o e
   | some (.d (.v (.lit (.bool b))))=>match hint e with
    | some (.lit (.bool v),e)=>match v == want with
     | true=>ev1 P N o { need (b=v) e with st:=e.st.setT d (.d (.v (.kb v))) }
     | false=>skipE N o { need (b=v) e with st:=e.st.setT d (.d (.v (.kb v))) }
    | _=>none
   | some (.d (.v (.lit (.tuple t))))=>match Nat.beq t.size 0 with
    | true=>skipE N o e
    | false=>none
   | _=>none
  | none=>none
def lookF:List (Nat × V)→Nat→Option V
 | [],_=>none
 | (k,v) :: l,t=>match Nat.beq t k with
  | true=>some v
  | false=>lookF l t
def fixE (N:Nat) (o:Oper) (e:E):E:=match e.fx with
 | []=>e
 | _ :: _=>match dstOf N o with
  | none=>e
  | some d=>match lookF e.fx d with
   | none=>e
   | some u=>match look e.st.env d with
    | some (.d (.v x))=>{ need (Fit x u) e with st:={ e.st with env:=(d,.d (.v u)) :: e.st.env } }
    | _=>e
def evOps (P:Program) (N:Nat) (ops:Array Oper):List Nat→E→Option E
 | [],e=>some e
 | i :: l,e=>match ops[i]? with
  | none=>none
  | some o=>match evOp P N ops o e with
   | none=>none
   | some e=>evOps P N ops l (fixE N o e)
theorem fixE_eq (N:Nat) (o:Oper) (e:E):fixE N o e=e∨∃ d x u,look e.st.env d=some (.d (.v x))∧fixE N o e={ need (Fit x u) e with st:={ e.st with env:=(d,.d (.v u)) :: e.st.env } }:=by
 unfold fixE
 split
 ·exact .inl rfl
 ·split
  ·exact .inl rfl
  ·split
   ·exact .inl rfl
   ·split
    ·rename_i d _ _ u _ _ x h
     exact .inr ⟨d,x,u,h,rfl⟩
    ·exact .inl rfl
theorem fixE_ok {P:Program} {C:Ctx} {o:Oper} {e:E} (hA:All (fixE C.N o e).ob):All e.ob∧∀ g a w,SRep C g e.st a w→SRep C g (fixE C.N o e).st a w:=by
 rcases fixE_eq C.N o e with h | ⟨d,x,u,h4,h⟩
 ·rw [h] at hA ⊢;exact ⟨hA,fun _ _ _ S=>S⟩
 ·rw [h] at hA ⊢
  obtain ⟨hA1,hf⟩:=All.snoc (l:=e.ob) hA
  refine ⟨hA1,fun g a w S=>?_⟩
  obtain ⟨k1,k2,k3⟩:=S.env d _ h4
  refine S.change (fun _=>False) S.defers S.tmps rfl rfl rfl (Nat.le_refl _) (fun _ h=>h) (fun _ h=>.inl h) S.publt S.n (Nat.le_refl _) (fun _ _=>rfl) (fun _ _ _=>rfl)
   (fun b h ho _=>ho) (fun t _=>⟨rfl,rfl⟩) (fun i _=>⟨rfl,rfl⟩) (fun t y hy=>?_) (fun id b _ h=>h.elim) (fun t h=>h.elim) (fun i h=>h.elim) (fun b h ho=>.inl ⟨ho,(S.own b h ho).2.2⟩)
  simp only [look] at hy
  cases hb:Nat.beq t d with
  | true =>
   rw [hb] at hy
   cases hy
   have:=Nat.eq_of_beq_eq_true hb
   subst this
   exact .inr ⟨k1,.v ((RepD.inv k2).fit hf),k3⟩
  | false =>
   rw [hb] at hy
   exact .inl ⟨fun h=>h,.inl ⟨hy,fun _ _ h=>h⟩⟩
def WOk (P:Program) (C:Ctx) (ops:Array Oper) (o:Oper) (e e':E):Prop :=
 All e'.ob→All e.ob∧∀ g a w,SRep C g e.st a w→∀ (next:Act→World→Prop) (Q:Exit→Act→World→Prop),(∀ g' a' w',SRep C g' e'.st a' w'→(calmK P o.op=true→Calm w w')→next a' w') →
  (if Region.wanted o (yielded ops a.tmps) then o.wp P a w next Q∨(o.asks P a w∧LetsOut Q) else next (a.put o.dst undef) w)
theorem SRep.known {g:G} {st:St} {a:Act} {w:World} (S:SRep C g st a w) {d:Nat} {b:Bool} (h:look st.env d=some (.d (.v (.lit (.bool b))))):SRep C g (st.setT d (.d (.v (.kb b)))) a w:=by
 obtain ⟨h1,h2,h3⟩:=S.env d _ h
 have hv:=RepD.lit h2
 have hT:g.TE d=[]:=by
  have h2:RepD g w (a.tmps.getD d undef) (.v (.lit (.bool b))) (g.TE d):=h2
  exact h2.noOwn rfl
 refine S.change (fun _=>False) S.defers S.tmps rfl rfl rfl (Nat.le_refl _) (fun _ h=>h) (fun _ h=>.inl h) S.publt S.n (Nat.le_refl _) (fun _ _=>rfl) (fun _ _ _=>rfl)
  (fun b h ho _=>ho) (fun t _=>⟨rfl,rfl⟩) (fun i _=>⟨rfl,rfl⟩) (fun t x hx=>?_) (fun id b _ h=>h.elim) (fun t h=>h.elim) (fun i h=>h.elim) (fun b h ho=>.inl ⟨ho,(S.own b h ho).2.2⟩)
 simp only [St.setT,look] at hx
 cases hb:Nat.beq t d with
 | true =>
  have:=Nat.eq_of_beq_eq_true hb
  subst this
  rw [hb] at hx
  cases hx
  refine .inr ⟨h1,?_,h3⟩
  rw [hv,hT]
  exact .v (.kb b)
 | false =>
  rw [hb] at hx
  simp only [look_killE] at hx
  cases hl:look st.env t with
  | none=>rw [hl] at hx;cases hx
  | some z =>
   rw [hl] at hx
   simp only [Option.map_some,Option.some.injEq] at hx
   rcases X.killE_cases (isT d) z with h | h
   ·exact .inl ⟨fun h=>h,.inr ⟨by rw [← hx,h],z,rfl⟩⟩
   ·rw [h] at hx
    subst hx
    exact .inl ⟨fun h=>h,.inl ⟨rfl,fun _ _ h=>h⟩⟩
theorem yield_of {ops:Array Oper} {g:G} {st:St} {a:Act} {w:World} (S:SRep C g st a w) {j d:Nat} (hd:guardT ops j=some d) {x:X} (hl:look st.env d=some x) {b:Bool} (hv:a.tmps.getD d undef=.bool b):yielded ops a.tmps j=some b:=by
 obtain ⟨h1,_,_⟩:=S.env d _ hl
 have hlt:d < a.tmps.size:=by rw [S.tmps];exact h1
 have:a.tmps[d]? = some (.bool b):=by
  rw [Array.getD_eq_getD_getElem?,Array.getElem?_eq_getElem hlt] at hv
  rw [Array.getElem?_eq_getElem hlt]
  exact congrArg some hv
 unfold guardT at hd
 split at hd
 ·rename_i oj hoj
  simp [yielded,hoj,hd,this]
 ·cases hd
theorem skip_ok {ops:Array Oper} {o:Oper} {e e':E} (h:skipE C.N o e=some e'):All e'.ob→All e.ob∧∀ g a w,SRep C g e.st a w→Region.wanted o (yielded ops a.tmps)=false→∀ (next:Act→World→Prop) (Q:Exit→Act→World→Prop),(∀ g' a' w',SRep C g' e'.st a' w'→(calmK P o.op=true→Calm w w')→next a' w') →
 (if Region.wanted o (yielded ops a.tmps) then o.wp P a w next Q∨(o.asks P a w∧LetsOut Q) else next (a.put o.dst undef) w):=by
 intro hA
 unfold skipE at h
 split at h
 ·rename_i hd
  cases h
  refine ⟨hA,fun g a w S hno next Q hn=>?_⟩
  rw [if_neg (by rw [hno];simp),hd]
  exact hn g a w S (fun _=>Calm.refl w)
 ·split at h
  ·rename_i d hd
   cases h
   obtain ⟨hdd,hdN⟩:=dstOf_eq hd
   refine ⟨hA,fun g a w S hno next Q hn=>?_⟩
   rw [if_neg (by rw [hno];simp),hdd]
   exact hn _ _ _ (S.put0 (Calm.refl w) hdN (.v (.lit _))) (fun _=>Calm.refl w)
  ·cases h
theorem evOp_ok {ops:Array Oper} {o:Oper} {e e':E} (h:evOp P C.N ops o e=some e'):WOk P C ops o e e':=by
 unfold evOp at h
 split at h
 ·rename_i hg
  intro hA
  obtain ⟨h0,k⟩:=ev1_ok (C:=C) h hA
  refine ⟨h0,fun g a w S next Q hn=>?_⟩
  rw [if_pos (by simp [Region.wanted,hg])]
  exact .inl (k g a w S next Q hn)
 ·rename_i j want hg
  have wt:∀ {a:Act} {v:Bool},yielded ops a.tmps j=some v→(v == want)=true→Region.wanted o (yielded ops a.tmps)=true:=by
   intro a v hy hv
   have:=eq_of_beq hv
   simp [Region.wanted,hg,hy,this]
  have wf:∀ {a:Act} {v:Bool},yielded ops a.tmps j=some v→(v == want)=false→Region.wanted o (yielded ops a.tmps)=false:=by
   intro a v hy hv
   simp only [Region.wanted,hg,hy]
   cases v<;>cases want<;>simp_all
  split at h
  ·rename_i d hd
   split at h
   ·rename_i v hl
    split at h
    ·rename_i hvw
     intro hA
     obtain ⟨h0,k⟩:=ev1_ok (C:=C) h hA
     refine ⟨h0,fun g a w S next Q hn=>?_⟩
     have hy:=yield_of S hd hl (RepD.kb (S.env d _ hl).2.1)
     rw [if_pos (wt hy hvw)]
     exact .inl (k g a w S next Q hn)
    ·rename_i hvw
     intro hA
     obtain ⟨h0,k⟩:=skip_ok (P:=P) (C:=C) (ops:=ops) h hA
     refine ⟨h0,fun g a w S next Q hn=>?_⟩
     have hy:=yield_of S hd hl (RepD.kb (S.env d _ hl).2.1)
     exact k g a w S (wf hy hvw) next Q hn
   ·rename_i b hl
    split at h
    ·rename_i v e1 hh
     obtain ⟨q1,q2⟩:=hint_eq hh
     split at h
     ·rename_i hvw
      intro hA
      obtain ⟨hA,k⟩:=ev1_ok (C:=C) h hA
      obtain ⟨hA1,hbv⟩:=All.snoc (l:=e1.ob) hA
      subst hbv
      refine ⟨q1 ▸ hA1,fun g a w S next Q hn=>?_⟩
      have hy:=yield_of S hd hl (RepD.lit (S.env d _ hl).2.1)
      rw [if_pos (wt hy hvw)]
      refine .inl (k g a w ?_ next Q hn)
      show SRep C g (e1.st.setT d _) a w
      rw [q2]
      exact S.known hl
     ·rename_i hvw
      intro hA
      obtain ⟨hA,k⟩:=skip_ok (P:=P) (C:=C) (ops:=ops) h hA
      obtain ⟨hA1,hbv⟩:=All.snoc (l:=e1.ob) hA
      subst hbv
      refine ⟨q1 ▸ hA1,fun g a w S next Q hn=>?_⟩
      have hy:=yield_of S hd hl (RepD.lit (S.env d _ hl).2.1)
      refine k g a w ?_ (wf hy hvw) next Q hn
      show SRep C g (e1.st.setT d _) a w
      rw [q2]
      exact S.known hl
    ·cases h
   ·rename_i t hl
    split at h
    ·rename_i ht
     intro hA
     obtain ⟨h0,k⟩:=skip_ok (P:=P) (C:=C) (ops:=ops) h hA
     refine ⟨h0,fun g a w S next Q hn=>k g a w S ?_ next Q hn⟩
     have hv:=RepD.lit (S.env d _ hl).2.1
     unfold guardT at hd
     split at hd
     ·rename_i oj hoj
      have:yielded ops a.tmps j=none:=by
       simp only [yielded,hoj,Option.bind_some,hd]
       obtain ⟨h1,_,_⟩:=S.env d _ hl
       have hlt:d < a.tmps.size:=by rw [S.tmps];exact h1
       rw [Array.getD_eq_getD_getElem?,Array.getElem?_eq_getElem hlt] at hv
       rw [Array.getElem?_eq_getElem hlt]
       simp only [Option.getD_some] at hv
       simp only [hv]
      simp [Region.wanted,hg,this]
     ·cases hd
    ·cases h
   ·cases h
  ·cases h
theorem evOps_ok {ops:Array Oper}:∀ {l:List Nat} {e e':E},evOps P C.N ops l e=some e'→All e'.ob→All e.ob∧∀ g a w,SRep C g e.st a w→∀ (Q:Exit→Act→World→Prop),(∀ g' a' w',SRep C g' e'.st a' w'→Q .normal a' w')→wpOps P ops Q l a w
 | [],e,e',h,hA=>by
  cases h
  exact ⟨hA,fun g a w S Q hn=>hn g a w S⟩
 | i :: l,e,e',h,hA=>by
  simp only [evOps] at h
  cases hoi:ops[i]? with
  | none=>rw [hoi] at h;cases h
  | some o =>
   rw [hoi] at h
   simp only at h
   cases h1:evOp P C.N ops o e with
   | none=>rw [h1] at h;cases h
   | some e1 =>
    rw [h1] at h
    obtain ⟨hA1,k2⟩:=evOps_ok (l:=l) h hA
    obtain ⟨hA2,k3⟩:=fixE_ok (P:=P) (C:=C) hA1
    obtain ⟨hA0,k1⟩:=evOp_ok (C:=C) h1 hA2
    refine ⟨hA0,fun g a w S Q hn=>?_⟩
    have:=k1 g a w S (wpOps P ops Q l) Q (fun g' a' w' S' _=>k2 g' a' w' (k3 g' a' w' S') Q hn)
    simp only [wpOps,hoi]
    exact this
def outS:Option E→St
 | some e=>e.st
 | none=>default
def outO:Option E→Option (List Prop)
 | some e=>some e.ob
 | none=>none
theorem Good.regF {Q:Exit→St→Prop} {st:St} {id N:Nat} {ops:Array Oper} {obs:List Prop} (hN:C.N=N) (hs:List V) (hA:All obs) (rw:List (Nat × Value)) (fx:List (Nat × V)) (h:outO (evOps P N ops (List.range ops.size) ⟨hs,[],st,rw,fx⟩)=some obs)
 (k:Q .normal (outS (evOps P N ops (List.range ops.size) ⟨hs,[],st,rw,fx⟩))):Good P C (.region id ops false) Q st:=by
 subst hN
 intro g a w S
 cases he:evOps P C.N ops (List.range ops.size) ⟨hs,[],st,rw,fx⟩ with
 | none=>rw [he] at h;cases h
 | some e' =>
  rw [he] at h k
  cases h
  obtain ⟨_,key⟩:=evOps_ok (C:=C) he hA
  exact wp_region (key g a w S _ fun g' a' w' S'=>⟨g',e'.st,S',k⟩)
theorem Good.reg {Q:Exit→St→Prop} {st:St} {id N:Nat} {ops:Array Oper} {obs:List Prop} (hN:C.N=N) (hs:List V) (hA:All obs) (rw:List (Nat × Value)) (h:outO (evOps P N ops (List.range ops.size) ⟨hs,[],st,rw,[]⟩)=some obs)
 (k:Q .normal (outS (evOps P N ops (List.range ops.size) ⟨hs,[],st,rw,[]⟩))):Good P C (.region id ops false) Q st:=Good.regF hN hs hA rw [] h k
end
def entE:Nat→List V→List (Nat × X)
 | _,[]=>[]
 | i,u :: us=>(i,.d (.v u)) :: entE (i+1) us
def enter (us:List V):St:={ env:=entE 0 us,box:=[] }
theorem look_ent:∀ {us:List V} {k t:Nat} {x:X},look (entE k us) t=some x→∃ u,us[t - k]? = some u∧k≤t∧x=.d (.v u)
 | [],_,_,_,h=>by simp [entE,look] at h
 | u :: us,k,t,x,h=>by
  simp only [entE,look] at h
  cases hb:Nat.beq t k with
  | true =>
   rw [hb] at h
   have:=Nat.eq_of_beq_eq_true hb
   subst this
   cases h
   exact ⟨u,by simp,Nat.le_refl _,rfl⟩
  | false =>
   rw [hb] at h
   obtain ⟨v,h1,h2,h3⟩:=look_ent h
   refine ⟨v,?_,by omega,h3⟩
   rw [show t - k=(t - (k+1))+1 by omega,List.getElem?_cons_succ]
   exact h1
def resC0 (P:Program) (st:St) (q:Nat) (t:TypeId):Option (Option Root × V):=match look st.env q with
 | some (.d (.ptr id off))=>match st.box[id]? with
  | some (.cells cs)=>match partB P t (cs.drop off) with
   | some (.v u)=>some (none,u)
   | some (.d (.v u))=>match u.noOwn with
    | true=>some (none,u)
    | false=>none
   | some .own=>match rootVal st (.b id off) with
    | some u=>some (some (.b id off),u)
    | none=>none
   | _=>none
  | _=>none
 | _=>none
def resM (P:Program) (st:St) (q:Nat) (t:TypeId):Option (Option Root × V):=match look st.env q with
 | some (.d (.ptr id off))=>match Nat.beq off 0 with
  | true=>match st.box[id]? with
   | some (.cells cs)=>match rowT P t with
    | some true=>match sizeT P t with
     | some n=>match Nat.beq n cs.length with
      | true=>match undv cs with
       | some us=>some (some (.b id 0),.agg us)
       | none=>none
      | false=>none
     | none=>none
    | _=>none
   | _=>none
  | false=>none
 | _=>none
def resC (P:Program) (st:St) (q:Nat) (t:TypeId):Option (Option Root × V):=match resC0 P st q t with
 | some x=>some x
 | none=>resM P st q t
def resL (P:Program) (st:St):List ResultVar→Option (List (Option Root × V))
 | []=>some []
 | .tmp t :: rs=>match peek st (.tmp t) with
  | some (r,u)=>match resL P st rs with
   | some l=>some ((match u.noOwn with | true=>none | false=>some r,u) :: l)
   | none=>none
  | none=>none
 | .cell q t :: rs=>match resC P st q t with
  | some x=>match resL P st rs with
   | some l=>some (x :: l)
   | none=>none
  | none=>none
def freeB (r:Root):List (Option Root × V)→Bool
 | []=>true
 | (some q,_) :: l=>match holdB r q with
  | true=>false
  | false=>freeB r l
 | (none,_) :: l=>freeB r l
def distB:List (Option Root × V)→Bool
 | []=>true
 | (some r,_) :: l=>match freeB r l with
  | true=>distB l
  | false=>false
 | (none,_) :: l=>distB l
def resV:List (Option Root × V)→V
 | [(_,u)]=>u
 | l=>.tup (l.map (·.2))
def fin (P:Program) (fn:Func) (r:V):Exit→St→Prop
 | .normal,st | .ret,st=>∃ l,resL P st fn.results.toList=some l∧distB l=true∧Fit (resV l) r
 | _,_=>False
section
variable {P:Program} {C:Ctx} {g:G} {st:St} {a:Act} {w:World}
def resF (tmps:Array Value):ResultVar→Sem Value
 | .tmp t=>pure (tmps.getD t undef)
 | .cell a t=>do loadVar t (← asAddr (tmps.getD a undef))
theorem results_eq (fn:Func) (tmps:Array Value):results fn tmps=(do let vs ← fn.results.mapM (resF tmps);pure (if h:vs.size=1 then vs[0] else .tuple vs)):=by
 unfold results
 congr 2
theorem freeB_ok {r:Root}:∀ {l:List (Option Root × V)},freeB r l=true→∀ q u,(some q,u)∈l→r.holder≠q.holder
 | [],_,q,u,h=>by cases h
 | (some q',u') :: l,hf,q,u,h=>by
  simp only [freeB] at hf
  split at hf
  ·cases hf
  ·rename_i hb
   rcases List.mem_cons.1 h with h | h
   ·cases h
    intro e
    rw [holdB_eq e] at hb;cases hb
   ·exact freeB_ok hf q u h
 | (none,u') :: l,hf,q,u,h=>by
  rcases List.mem_cons.1 h with h | h
  ·cases h
  ·exact freeB_ok (by simpa only [freeB] using hf) q u h
theorem resC0_ok (S:SRep C g st a w) {q:Nat} {t:TypeId} {ro:Option Root} {u:V} (h:resC0 P st q t=some (ro,u)) :
 ∃ v T,(resF a.tmps (.cell q t)).run P w=.ok v w∧Rep g.pub w v u T∧T.Nodup∧(∀ r,ro=some r→∀ b∈T,g.own b=some r.holder)∧(ro=none→T=[]):=by
 unfold resC0 at h
 split at h
 ·rename_i id off hl
  split at h
  ·rename_i cs hb
   obtain ⟨_,h2,_⟩:=S.env q _ hl
   have h2:RepD g w (a.tmps.getD q undef) (.ptr id off) (g.TE q):=h2
   obtain ⟨⟨cur,el,A,hT,hh,hr,h1⟩,hown⟩:=S.box id _ hb
   obtain ⟨A1,B1,hAB,_,hd2⟩:=hr.cut off
   have hx:a.tmps.getD q undef=.pointer (some ⟨g.loc id,off,none⟩):=by
    generalize a.tmps.getD q undef=v at h2
    generalize g.TE q=T at h2
    cases h2
    rfl
   have hrg:w.rangeAt (g.loc id) off (cur.toList.drop off):=fun j v hj=>by
    rw [List.getElem?_drop] at hj
    simp only [World.cell?,hh]
    simpa using hj
   have exec:∀ v,(Instr.loadAt t (.pointer (some ⟨g.loc id,off,none⟩))).run P w=.ok v w→(resF a.tmps (.cell q t)).run P w=.ok v w:=fun v hv=>by
    simp only [resF,hx,asAddr,Sem.run_bind,Sem.run_pure,Result.andThen_ok]
    simpa only [Instr.loadAt,Instr.sureAddr,Sem.run_bind,Sem.run_pure,Result.andThen_ok] using hv
   cases hp:partB P t (cs.drop off) with
   | none=>rw [hp] at h;cases h
   | some pr =>
    rw [hp] at h
    unfold partB at hp
    split at hp
    ·rename_i ht
     split at hp
     ·rename_i n hn
      split at hp
      ·rename_i hle
       have hle:=Nat.le_of_ble_eq_true hle
       split at hp
       ·rename_i us hus
        split at hp
        ·rename_i hno
         cases hp
         cases h
         obtain ⟨A2,B2,_,h3,_⟩:=hd2.cut n
         rw [undv_eq hus] at h3
         have h4:=h3.undv
         have hA2:=h4.noOwn hno
         subst hA2
         exact ⟨_,[],exec _ (loadVar_agg ht hn hrg (by rw [hd2.length];exact hle)),.agg h4,List.nodup_nil,fun r hr=>(by cases hr),fun _=>rfl⟩
        ·cases hp
       ·cases hp
      ·cases hp
     ·cases hp
    ·rename_i ht
     split at hp
     ·rename_i c cs' hcs
      have hd3:=hd2
      rw [hcs] at hd3
      generalize hys:cur.toList.drop off=ys at hd3 hrg
      cases hd3 with
      | @cons v _ vs _ A2 B2 r1 r2 =>
       have hc:=hrg 0 v rfl
       rw [Nat.add_zero] at hc
       have hrun:=exec v (loadVar_one ht hc)
       split at hp
       ·cases hp
        simp only at h
        split at h
        ·rename_i u' hu
         cases h
         obtain ⟨v',T,hpv,hR,hTo,hTn⟩:=rootVal_ok S hu
         refine ⟨v',T,?_,hR,hTn,fun r hr=>by cases hr;exact hTo,fun e=>by cases e⟩
         simp only [pvR] at hpv
         split at hpv
         ·rw [hc] at hpv;cases hpv;exact hrun
         ·cases hpv
        ·cases h
       ·cases hp
       ·cases hp
       ·split at hp
        ·rename_i hno
         cases hp
         have hA2:=r1.noOwn hno
         subst hA2
         cases c with
         | v u' =>
          simp only at h
          split at h
          ·cases h
           exact ⟨v,[],hrun,r1.inv,List.nodup_nil,fun r hr=>(by cases hr),fun _=>rfl⟩
          ·cases h
         | _=>simp at h
        ·cases hp
     ·cases hp
    ·cases hp
  ·cases h
 ·cases h
theorem resM_ok (S:SRep C g st a w) {q:Nat} {t:TypeId} {ro:Option Root} {u:V} (h:resM P st q t=some (ro,u)) :
 ∃ v T,(resF a.tmps (.cell q t)).run P w=.ok v w∧Rep g.pub w v u T∧T.Nodup∧(∀ r,ro=some r→∀ b∈T,g.own b=some r.holder)∧(ro=none→T=[]):=by
 unfold resM at h
 split at h
 ·rename_i id off hl
  split at h
  ·rename_i hoff
   have hoff:=Nat.eq_of_beq_eq_true hoff
   subst hoff
   split at h
   ·rename_i cs hb
    split at h
    ·rename_i ht
     split at h
     ·rename_i n hn
      split at h
      ·rename_i hnl
       have hnl:=Nat.eq_of_beq_eq_true hnl
       split at h
       ·rename_i us hus
        cases h
        obtain ⟨_,h2,_⟩:=S.env q _ hl
        have h2:RepD g w (a.tmps.getD q undef) (.ptr id 0) (g.TE q):=h2
        obtain ⟨⟨cur,el,A,hT,hh,hr,h1⟩,hown⟩:=S.box id _ hb
        have hx:a.tmps.getD q undef=.pointer (some ⟨g.loc id,0,none⟩):=by
         generalize a.tmps.getD q undef=v at h2
         generalize g.TE q=T at h2
         cases h2
         rfl
        have hrg:w.rangeAt (g.loc id) 0 cur.toList:=fun j v hj=>by
         simp only [World.cell?,hh]
         simpa using hj
        have hlen:=hr.length
        have hload:=loadVar_agg (P:=P) ht hn hrg (by omega)
        rw [List.take_of_length_le (by omega)] at hload
        rw [undv_eq hus] at hr
        have hnd:=S.nodB id
        rw [hT] at hnd
        refine ⟨_,A,?_,.agg hr.undv,(List.nodup_cons.1 hnd).2,fun r hr b hb=>?_,fun h=>by cases h⟩
        ·simp only [resF,hx,asAddr,Sem.run_bind,Sem.run_pure,Result.andThen_ok]
         simpa only [Instr.loadAt,Instr.sureAddr,Sem.run_bind,Sem.run_pure,Result.andThen_ok] using hload
        ·cases hr
         exact hown b (by rw [hT];exact List.mem_cons_of_mem _ hb)
       ·cases h
      ·cases h
     ·cases h
    ·cases h
   ·cases h
  ·cases h
 ·cases h
theorem resC_ok (S:SRep C g st a w) {q:Nat} {t:TypeId} {ro:Option Root} {u:V} (h:resC P st q t=some (ro,u)) :
 ∃ v T,(resF a.tmps (.cell q t)).run P w=.ok v w∧Rep g.pub w v u T∧T.Nodup∧(∀ r,ro=some r→∀ b∈T,g.own b=some r.holder)∧(ro=none→T=[]):=by
 unfold resC at h
 split at h
 ·rename_i h0;cases h;exact resC0_ok S h0
 ·exact resM_ok S h
theorem resL_ok (S:SRep C g st a w):∀ {rs:List ResultVar} {l:List (Option Root × V)},resL P st rs=some l→distB l=true →
 ∃ vs T,(rs.mapM (resF a.tmps)).run P w=.ok vs w∧RepL g.pub w vs (l.map (·.2)) T∧T.Nodup ∧
  ∀ b∈T,∃ q u,(some q,u)∈l∧g.own b=some q.holder
 | [],l,h,_=>by cases h;exact ⟨[],[],rfl,.nil,List.nodup_nil,by simp⟩
 | .cell q t :: rs,l,h,hd=>by
  simp only [resL] at h
  split at h
  ·rename_i x hx
   split at h
   ·rename_i l' hl
    cases h
    obtain ⟨ro,u⟩:=x
    obtain ⟨v,T,hv,hR,hn,hown,hnone⟩:=resC_ok (P:=P) S hx
    have hmap:∀ vs,(rs.mapM (resF a.tmps)).run P w=.ok vs w→((ResultVar.cell q t :: rs).mapM (resF a.tmps)).run P w=.ok (v :: vs) w:=fun vs hvs=>by
     simp only [List.mapM_cons,Sem.run_bind,hv,Result.andThen_ok,hvs,Sem.run_pure]
    cases ro with
    | none =>
     have hT:=hnone rfl
     subst hT
     simp only [distB] at hd
     obtain ⟨vs,T',h1,h2,h3,h4⟩:=resL_ok S hl hd
     refine ⟨v :: vs,[]++T',hmap vs h1,.cons hR h2,by simpa using h3,fun b hb=>?_⟩
     obtain ⟨q,u',h5,h6⟩:=h4 b (by simpa using hb)
     exact ⟨q,u',List.mem_cons_of_mem _ h5,h6⟩
    | some r =>
     simp only [distB] at hd
     split at hd
     ·rename_i hf
      obtain ⟨vs,T',h1,h2,h3,h4⟩:=resL_ok S hl hd
      refine ⟨v :: vs,T++T',hmap vs h1,.cons hR h2,?_,fun b hb=>?_⟩
      ·refine List.nodup_append.2 ⟨hn,h3,fun b hb c hc e=>?_⟩
       subst e
       obtain ⟨q,u',h5,h6⟩:=h4 b hc
       have:=hown r rfl b hb
       rw [this] at h6
       exact freeB_ok hf q u' h5 (Option.some.inj h6)
      ·rcases List.mem_append.1 hb with hb | hb
       ·exact ⟨r,u,by simp,hown r rfl b hb⟩
       ·obtain ⟨q,u',h5,h6⟩:=h4 b hb
        exact ⟨q,u',List.mem_cons_of_mem _ h5,h6⟩
     ·cases hd
   ·cases h
  ·cases h
 | .tmp t :: rs,l,h,hd=>by
  simp only [resL] at h
  split at h
  ·rename_i r u hp
   split at h
   ·rename_i l' hl
    cases h
    obtain ⟨T,_,hR,hown,hn⟩:=peek_ok S hp
    cases hno:u.noOwn with
    | true =>
     rw [hno] at hd
     simp only at hd
     have hT:=hR.noOwn hno
     subst hT
     obtain ⟨vs,T',h1,h2,h3,h4⟩:=resL_ok S hl hd
     refine ⟨a.tmps.getD t undef :: vs,[]++T',?_,.cons hR h2,by simpa using h3,fun b hb=>?_⟩
     ·simp only [List.mapM_cons,resF,Sem.run_bind,Sem.run_pure,Result.andThen_ok,h1]
     ·obtain ⟨q,u',h5,h6⟩:=h4 b (by simpa using hb)
      exact ⟨q,u',List.mem_cons_of_mem _ h5,h6⟩
    | false =>
     rw [hno] at hd
     simp only [distB] at hd
     split at hd
     ·rename_i hf
      obtain ⟨vs,T',h1,h2,h3,h4⟩:=resL_ok S hl hd
      refine ⟨a.tmps.getD t undef :: vs,T++T',?_,.cons hR h2,?_,fun b hb=>?_⟩
      ·simp only [List.mapM_cons,resF,Sem.run_bind,Sem.run_pure,Result.andThen_ok,h1]
      ·refine List.nodup_append.2 ⟨hn,h3,fun b hb c hc e=>?_⟩
       subst e
       obtain ⟨q,u',h5,h6⟩:=h4 b hc
       have:=hown b hb
       rw [this] at h6
       exact freeB_ok hf q u' h5 (Option.some.inj h6)
      ·rcases List.mem_append.1 hb with hb | hb
       ·exact ⟨r,u,by simp,hown b hb⟩
       ·obtain ⟨q,u',h5,h6⟩:=h4 b hb
        exact ⟨q,u',List.mem_cons_of_mem _ h5,h6⟩
     ·cases hd
   ·cases h
  ·cases h
end
theorem fin_main {P:Program} {C:Ctx} {a:Act} {fn:Func} {r:V} {g':G} {st':St} {w':World} (S':SRep C g' st' a w') (hF:∀ b,¬ C.Fz b):(∃ l,resL P st' fn.results.toList=some l∧distB l=true∧Fit (resV l) r)→a.defers=[]∧∃ v,(results fn a.tmps).run P w'=.ok v w' ∧
 ∃ (v':Value) (T:List Nat) (q:Pub),Ending.returned v=.returned v'∧Calm C.W w'∧(∀ b,q b→C.W.heap.size≤b∧b < w'.heap.size)∧T.Nodup∧(∀ b∈T,C.W.heap.size≤b∧b < w'.heap.size∧¬ q b)∧Rep (fun b=>C.p0 b∨q b) w' v' r T:=by
 rintro ⟨l,hl,hd,hfit⟩
 obtain ⟨vs',T,h1,h2,h3,h4⟩:=resL_ok (P:=P) S' hl hd
 refine ⟨S'.defers,?_⟩
 have hT:∀ b∈T,C.W.heap.size≤b∧b < w'.heap.size∧¬ g'.pub b:=fun b hb=>by
  obtain ⟨q,u,_,ho⟩:=h4 b hb
  obtain ⟨k1,k2,k3⟩:=S'.own b _ ho
  exact ⟨k1.resolve_right (hF b),k2,k3⟩
 have hpub:∀ b,g'.pub b→C.p0 b∨(g'.pub b∧C.W.heap.size≤b):=fun b hb=>by
  rcases S'.pub b hb with h | h | h
  ·exact .inl h
  ·exact .inr ⟨hb,h⟩
  ·exact (hF _ h).elim
 have hcalm:Calm C.W w':=⟨S'.os,S'.tape,S'.output,S'.size,fun b hb=>S'.frame b hb (hF b)⟩
 have fin:∀ v,Rep g'.pub w' v (resV l) T→(results fn a.tmps).run P w'=.ok v w'→∃ v,(results fn a.tmps).run P w'=.ok v w' ∧
  ∃ (v':Value) (T:List Nat) (q:Pub),Ending.returned v=.returned v'∧Calm C.W w'∧(∀ b,q b→C.W.heap.size≤b∧b < w'.heap.size)∧T.Nodup∧(∀ b∈T,C.W.heap.size≤b∧b < w'.heap.size∧¬ q b)∧Rep (fun b=>C.p0 b∨q b) w' v' r T:=fun v hR hrun =>
  ⟨v,hrun,v,T,fun b=>g'.pub b∧C.W.heap.size≤b,rfl,hcalm,fun b hb=>⟨hb.2,S'.publt b hb.1⟩,h3,fun b hb=>⟨(hT b hb).1,(hT b hb).2.1,fun h=>(hT b hb).2.2 h.1⟩,(hR.keep ⟨hpub,fun _ _=>rfl⟩ (fun _ _=>rfl)).fit hfit⟩
 have hm:(results fn a.tmps).run P w'=.ok (if h:vs'.toArray.size=1 then vs'.toArray[0] else .tuple vs'.toArray) w':=by
  rw [results_eq,Sem.run_bind,Array.mapM_eq_mapM_toList,Sem.run_map,h1]
  rfl
 by_cases hsz:vs'.length=1
 ·match vs',h2,hm,hsz with
  | [v],h2,hm,_ =>
   have hll:l.length=1:=by have:=h2.length;simpa using this.symm
   match l,hll,h2,fin with
   | [(ro,u)],_,h2,fin =>
    generalize hT':T=T0 at h2 fin
    cases h2 with
    | @cons _ _ _ _ A B r1 r2 =>
     cases r2
     refine fin v (by rw [List.append_nil];exact r1) (by rw [hm];simp)
 ·refine fin (.tuple vs'.toArray) ?_ (by rw [hm];simp [hsz])
  have hll:l.length≠1:=by have:=h2.length;simp at this;omega
  have:resV l=.tup (l.map (·.2)):=by
   unfold resV
   split
   ·simp at hll
   ·rfl
  rw [this]
  exact .tup h2
theorem enter_rep {us:List V} {p:Pub} {w:World} {vs:List Value} (N:Nat) (hN:us.length≤N) (hp:∀ b,p b→b < w.heap.size) (htab:Tabs.t p w) (hr:RepL p w vs us []) :
 SRep { W:=w,p0:=p,Fz:=fun _=>False,N:=N } { pub:=p,own:=fun _=>none,n:=0,loc:=fun _=>0,TE:=fun _=>[],TB:=fun _=>[] } (enter us) { tmps:=vs.toArray++Array.replicate (N - vs.toArray.size) undef,defers:=[] } w:=by
 have hvl:vs.length=us.length:=hr.length
 refine ⟨rfl,?_,rfl,rfl,rfl,Nat.le_refl _,fun _ _ _=>rfl,fun b hb=>.inl hb,hp,rfl,?_,fun _=>List.nodup_nil,fun id b hb=>?_,fun _=>List.nodup_nil,fun b h ho=>?_,fun i l h=>(by simp at h),htab⟩
 ·simp [hvl];omega
 ·intro t x hx
  obtain ⟨u,h1,_,rfl⟩:=look_ent hx
  rw [Nat.sub_zero] at h1
  obtain ⟨v,A,h2,h3,h4⟩:=hr.get h1
  have hA:A=[]:=List.eq_nil_iff_forall_not_mem.2 fun b hb=>by cases h4 b hb
  subst hA
  have htl:t < vs.length:=by
   rcases Nat.lt_or_ge t vs.length with h | h
   ·exact h
   ·rw [List.getElem?_eq_none h] at h2;cases h2
  refine ⟨?_,?_,fun b hb=>by cases hb⟩
  ·show t < N;omega
  ·have e:({ tmps:=vs.toArray++Array.replicate (N - vs.toArray.size) undef,defers:=[] }:Act).tmps.getD t undef=v:=by
    rw [Array.getD_eq_getD_getElem?,Array.getElem?_append_left (by simpa using htl)]
    simp [h2]
   show RepD _ w _ (.v u) []
   rw [e]
   exact .v h3
 ·simp [enter] at hb
 ·cases ho
theorem con_of_good {P:Program} {f:FuncId} {fn:Func} {c:Code} {us:List V} {r:V} (hf:P.funcs[f]? = some fn) (hb:fn.body=some c) (hname:(fn.name == "runtime.NumGoroutine")=false) (hN:Nat.ble us.length fn.ntmps=true)
 (h:∀ C:Ctx,C.N=fn.ntmps→C.L.length=0→Good P C c (fin P fn r) (enter us)):Con P f us r:=by
 refine ⟨fun vs w=>by
  have h1:fn.name ≠ "runtime.NumGoroutine" := by simpa using hname
  simp [callFunc,hf,h1,hb],fun p w vs hp htab hr=>?_⟩
 have hN:=Nat.le_of_ble_eq_true hN
 have S:=enter_rep fn.ntmps hN hp htab hr
 refine calls_of_wp hf hb (wp_mono (h _ rfl rfl _ _ w S) fun e a w' ⟨g',st',S',hq⟩=>?_)
 cases e with
 | normal=>exact fin_main S' (fun _ h=>h) hq
 | ret=>exact fin_main S' (fun _ h=>h) hq
 | _=>exact hq.elim
def resO (P:Program) (fn:Func) (st:St):Option V:=match resL P st fn.results.toList with
 | some l=>match distB l with
  | true=>some (resV l)
  | false=>none
 | none=>none
theorem fin_fit {P:Program} {fn:Func} {st:St} {u r:V} (hf:Fit u r) (h:resO P fn st=some u):∃ l,resL P st fn.results.toList=some l∧distB l=true∧Fit (resV l) r:=by
 unfold resO at h
 split at h
 ·rename_i l hl
  split at h
  ·rename_i hd
   cases h
   exact ⟨l,hl,hd,hf⟩
  ·cases h
 ·cases h
theorem Good.done {P:Program} {C:Ctx} {fn:Func} {st:St} {r:V} (h:resO P fn st=some r):Good P C .ret (fin P fn r) st:=Good.ret (fin_fit (.refl r) h)
theorem fin.done {P:Program} {fn:Func} {st:St} {r:V} (h:resO P fn st=some r):fin P fn r .normal st:=fin_fit (.refl r) h
theorem fin.doneR {P:Program} {fn:Func} {st:St} {r:V} (h:resO P fn st=some r):fin P fn r .ret st:=fin_fit (.refl r) h
end
end Go.Rf
