import Derived.Test.YtdombjceoocnhaaGreatDoorRSec1Tells1
set_option linter.unusedSectionVars false
set_option linter.unusedSimpArgs false
set_option linter.unusedVariables false
namespace Go.Rf
open Go.RowKit
section
variable [gp]
def dU (el:V) (j:Nat) (ds:List V):V:=match el with
 | .agg cs=>.agg (cs.take j++ds++cs.drop (j+ds.length))
 | x=>match ds with
  | [d]=>d
  | _=>x
def Yq:V→Bool
 | .agg _=>false
 | _=>true
def uB (el:V) (j:Nat) (ds:List V):Bool:=match el with
 | .agg cs=>Nat.ble (j+ds.length) cs.length
 | _=>match ds with
  | [d]=>Yq d && Nat.beq j 0
  | _=>false
theorem UI {el:V} {j:Nat} {ds:List V} (h:uB el j ds=true):(dU el j ds).cells=el.cells.take j++ds++el.cells.drop (j+ds.length)∧j+ds.length≤el.cells.length:=by
 cases el with
 | agg cs=>exact ⟨rfl,Nat.le_of_ble_eq_true h⟩
 | _ =>
  simp only [uB] at h
  split at h
  ·rename_i d
   rw [Bool.and_eq_true] at h
   have hj:=Nat.eq_of_beq_eq_true h.2
   subst hj
   refine ⟨?_,by simp [V.cells]⟩
   have hd:=h.1
   cases d<;>simp_all [dU,V.cells,Yq]
  ·cases h
theorem IE {sz:Nat} {el ZX:V} {j:Nat} {ds:List V} (h2:ZX.cells=el.cells.take j++ds++el.cells.drop (j+ds.length)) (hj:j+ds.length≤el.cells.length):∀ {es:List V} {i:Nat},(∀ e∈es,e.cells.length=sz)→es[i]? = some el →
 (es.set i ZX).flatMap V.cells=(es.flatMap V.cells).take (i*sz+j)++ds++(es.flatMap V.cells).drop (i*sz+j+ds.length)
 | [],i,_,h=>by simp at h
 | e :: es,0,hs,h=>by
  simp only [List.getElem?_cons_zero,Option.some.injEq] at h
  subst h
  simp only [List.set_cons_zero,List.flatMap_cons,h2,Nat.zero_mul,Nat.zero_add]
  rw [List.take_append_of_le_length (by omega),List.drop_append_of_le_length (by omega)]
  simp
 | e :: es,i+1,hs,h=>by
  simp only [List.getElem?_cons_succ] at h
  have ih:=IE h2 hj (es:=es) (i:=i) (fun e he=>hs e (by simp [he])) h
  have he:=hs e (by simp)
  simp only [List.set_cons_succ,List.flatMap_cons,ih]
  have e1:(i+1)*sz+j=e.cells.length+(i*sz+j):=by rw [he,Nat.add_mul,Nat.one_mul];omega
  have e2:(i+1)*sz+j+ds.length=e.cells.length+(i*sz+j+ds.length):=by rw [e1];omega
  rw [e1,← e1,e2,e1,List.take_length_add_append,List.drop_length_add_append]
  simp
section
variable {P:Program} {C:Ctx} {g:G} {st:St} {a:Act} {w w':World}
theorem abe (w:World) (b:Nat) (cs:Array Value):w.grownBy (w.setRow b cs) (some b) :=
 ⟨rfl,rfl,rfl,by simp,fun k _ hk=>setRow_other w b k cs (fun e=>hk (by rw [e]))⟩
theorem bC.Xk {o:Oper} {e e1:E} {t:TypeId} {s sz i j et:Nat} {r:Root} {x:Operand} {src:Option Nat} {es es' ds:List V} {el el':V} (ho:o.op=.store t (.tmp s) x) (hd:o.dst=none)
 (hl:look e1.st.env s=some (.pa r sz i j)) (hu:iN e1.st r=some (.row (some et) sz es)) (hsz:fK P t=some ds.length) (hok:uB el j ds=true)
 (hrun:All e1.ob→All e.ob∧∀ g a w,aH C g e.st a w→∃ g1 T,aH C g1 e1.st a w∧aM g1.aL w (a.eval x).cells.toList ds T∧(∀ u∈(a.eval x).cells.toList,u.oneCell'=true)∧T.Nodup∧∀ b∈T,∃ q,src=some q∧g1.own b=some (.inl q))
 (hsrc:∀ q,src=some q→(∃ y,look e1.st.env q=some y)∧r.holder≠.inl q) (hel:All e1.ob→es[i]? = some el) (hfit:All e1.ob→Fit (dU el j ds) el') (hes:All e1.ob→es.set i el'=es') :
 bC P C o e { e1 with st:=e1.st.reset r (.row (some et) sz es') src }:=by
 intro hA
 obtain ⟨h0,hrun⟩:=hrun hA
 refine ⟨h0,fun g a w S next Q hn=>?_⟩
 obtain ⟨g1,T,S1,hr,hone,gy,dF⟩:=hrun g a w S
 obtain ⟨_,⟨_,b,h3,h4,h5⟩,_⟩:=S1.env s _ hl
 obtain ⟨v,TT,hpv,hR,Yr,D6,lens⟩:=S1.lens hu
 obtain ⟨xs,A,hT,hc,hl',h1,how⟩:=nK hR
 obtain ⟨hcells,hj⟩:=UI hok
 have hel:=hel hA
 rw [hpv] at h3
 simp only [Option.bind_some] at h3
 have hi:i < es.length:=(List.getElem?_eq_some_iff.1 hel).1
 have hels:el.cells.length=sz:=hc el (List.mem_of_getElem? hel)
 rcases how.2 with ⟨hv0,hn0⟩ | ⟨b',cap,cur,hv0,hb0,hg,hnc,hcm,hcs,htk⟩
 ·omega
 rw [hv0] at h3
 simp only [Value.ownBlock,Option.some.injEq] at h3
 subst h3
 have hvl:(a.eval x).cells.size=ds.length:=by rw [← Array.length_toList];exact hr.length
 have hoff:i*sz+j+ds.length≤es.length*sz:=by
  have:(i+1)*sz≤es.length*sz:=Nat.mul_le_mul_right _ hi
  rw [Nat.add_mul,Nat.one_mul] at this
  omega
 have hcap:es.length*sz≤cap*sz:=Nat.mul_le_mul_right _ hnc
 have hst:=GN (P:=P) (t:=t) (b:=b') (off:=i*sz+j) (v:=a.eval x) hg (by rw [hvl];exact hsz) (by rw [hvl,hcs];omega) hone
 have yN:(execOp a.eval o).run P w=.ok .skip (w.setRow b' (cur.toList.take (i*sz+j)++(a.eval x).cells.toList++cur.toList.drop (i*sz+j+(a.eval x).cells.size)).toArray):=by
  unfold execOp
  simp only [ho,Act.eval,h5,Sem.run_bind]
  simp only [Act.eval] at hst
  simp only [hst,Result.andThen_ok,Sem.run_pure]
 unfold Oper.wp
 rw [yN,Oper.upon_skip,hd]
 generalize hw2:w.setRow b' (cur.toList.take (i*sz+j)++(a.eval x).cells.toList++cur.toList.drop (i*sz+j+(a.eval x).cells.size)).toArray=w2
 have hgr:w.grownBy w2 (some b'):=hw2 ▸ abe w b' _
 have jy:b'∈TT:=by rw [hT,hv0];simp [Value.ownBlock]
 rw [hT] at Yr
 have hn1:=List.nodup_append.1 Yr
 have hbA:b'∉A:=fun h=>hn1.2.2 b' (by rw [hv0];simp [Value.ownBlock]) b' h rfl
 obtain ⟨A1,B1,gu,hd1,hdr⟩:=hl'.cut (i*sz+j)
 obtain ⟨M,B2,Tj,_,hd2⟩:=hdr.cut ds.length
 rw [List.drop_drop,List.drop_drop] at hd2
 subst Tj
 have aiM:∀ b,g1.aL b→w2.heap[b]? = w.heap[b]?:=fun b hb=>hgr.block b (S1.dM b hb) (fun e=>by cases e;exact (S1.own _ _ (D6 _ jy)).2.2 hb)
 have XK:∀ b∈A,w2.heap[b]? = w.heap[b]?:=fun b hb=>hgr.block b (S1.own b _ (D6 b (by rw [hT];simp [hb]))).2.1 (fun e=>by cases e;exact hbA hb)
 have agR:∀ b∈T,w2.heap[b]? = w.heap[b]?:=fun b hb=>by
  obtain ⟨q,hq,ho'⟩:=dF b hb
  refine hgr.block b (S1.own b _ ho').2.1 (fun e=>?_)
  cases e
  rw [D6 _ jy] at ho'
  exact (hsrc q hq).2 (Option.some.inj ho')
 have kk:lU g1.aL g1.aL w w2:=⟨fun _ h=>h,aiM⟩
 have hnew:aM g1.aL w2 (xs.take (i*sz+j)++(a.eval x).cells.toList++xs.drop (i*sz+j+ds.length)) (es'.flatMap V.cells) (A1++T++B2):=by
  have hfl:=IE hcells hj hc hel
  have h6:aM g1.aL w2 (xs.take (i*sz+j)++(a.eval x).cells.toList++xs.drop (i*sz+j+ds.length)) ((es.set i (dU el j ds)).flatMap V.cells) (A1++T++B2):=by
   rw [hfl]
   exact ((hd1.keep kk (fun b hb=>XK b (by rw [gu];simp [hb]))).app (hr.keep kk agR)).app (hd2.keep kk (fun b hb=>XK b (by rw [gu];simp [hb])))
  refine h6.fit (aZ.flat ?_)
  rw [← hes hA]
  have:∀ (es:List V) (i:Nat),aZ (es.set i (dU el j ds)) (es.set i el'):=by
   intro es
   induction es with
   | nil=>intro i;exact aZ.refl _
   | cons c cs ih =>
    intro i
    cases i with
    | zero=>exact .cons (hfit hA) (aZ.refl _)
    | succ i=>exact .cons (.refl _) (ih i)
  exact this es i
 have hxl:(xs.take (i*sz+j)++(a.eval x).cells.toList++xs.drop (i*sz+j+ds.length)).length=es.length*sz:=by
  simp only [List.length_append,List.length_take,List.length_drop,Array.length_toList,hvl,how.1]
  omega
 have af2:∀ e∈es',e.cells.length=sz:=by
  have:aZ [dU el j ds] [el']:=.cons (hfit hA) .nil
  have hle:el'.cells.length=sz:=this.sizes (sz:=sz) (by
   intro e he
   simp only [List.mem_singleton] at he
   subst he
   rw [hcells]
   simp only [List.length_append,List.length_take,List.length_drop]
   omega) _ (by simp)
  intro e he
  rw [← hes hA] at he
  rcases List.mem_or_eq_of_mem_set he with h | h
  ·exact hc e h
  ·rw [h];exact hle
 have hlen':es'.length=es.length:=by rw [← hes hA];simp
 have hown':w2.ownsRow 0 et sz v es'.length (xs.take (i*sz+j)++(a.eval x).cells.toList++xs.drop (i*sz+j+ds.length)):=by
  rw [hlen']
  refine ⟨hxl,.inr ⟨b',cap,(cur.toList.take (i*sz+j)++(a.eval x).cells.toList++cur.toList.drop (i*sz+j+(a.eval x).cells.size)).toArray,hv0,hb0,?_,hnc,hcm,?_,?_⟩⟩
  ·rw [← hw2];exact setRow_heap w _ cur _ et _ hg
  ·simp only [List.size_toArray,List.length_append,List.length_take,List.length_drop,Array.length_toList,hvl,hcs]
   omega
  ·have hcl:cur.toList.length=cap*sz:=by rw [Array.length_toList,hcs]
   have hcx:cur.toList=xs++cur.toList.drop (es.length*sz):=by rw [← htk,List.take_append_drop]
   have anH:xs.length=es.length*sz:=how.1
   have q1:cur.toList.take (i*sz+j)=xs.take (i*sz+j):=by rw [← htk,List.take_take,Nat.min_eq_left (by omega)]
   have q2:cur.toList.drop (i*sz+j+(a.eval x).cells.size)=xs.drop (i*sz+j+ds.length)++cur.toList.drop (es.length*sz):=by
    rw [hvl]
    conv=>lhs;rw [hcx]
    rw [List.drop_append_of_le_length (by omega)]
   rw [List.toList_toArray,q1,q2,← List.append_assoc]
   rw [List.take_append_of_le_length (by rw [hxl];exact Nat.le_refl _)]
   rw [List.take_of_length_le (by rw [hxl];exact Nat.le_refl _)]
 have kL:aP g1.aL w2 v (.row (some et) sz es') (v.ownBlock.toList++(A1++T++B2)):=by
  refine aP.own af2 hnew (fun u hu=>?_) hown'
  simp only [List.mem_append] at hu
  rcases hu with (h | h) | h
  ·exact h1 u (List.mem_of_mem_take h)
  ·exact hone u h
  ·exact h1 u (List.mem_of_mem_drop h)
 have Tm:∀ b∈T,b∉TT:=fun b hb hb'=>by
  obtain ⟨q,hq,ho'⟩:=dF b hb
  rw [D6 b hb'] at ho'
  exact (hsrc q hq).2 (Option.some.inj ho')
 have hAn:=List.nodup_append.1 (gu ▸ hn1.2.1:(A1++(M++B2)).Nodup)
 have hMn:=List.nodup_append.1 hAn.2.1
 have Gp:∀ b,b∈A→b∈TT:=fun b hb=>by rw [hT];simp [hb]
 have p1:(v.ownBlock.toList++(A1++T++B2)).Nodup:=by
  refine List.nodup_append.2 ⟨hn1.1,List.nodup_append.2 ⟨List.nodup_append.2 ⟨hAn.1,gy,fun b hb c hcc e=>?_⟩,hMn.2.1,fun b hb c hcc e=>?_⟩,fun b hb c hcc e=>?_⟩
  ·subst e;exact Tm b hcc (Gp b (by rw [gu];simp [hb]))
  ·subst e
   rcases List.mem_append.1 hb with h | h
   ·exact hAn.2.2 b h b (by simp [hcc]) rfl
   ·exact Tm b h (Gp b (by rw [gu];simp [hcc]))
  ·subst e
   have aiN:b∈TT:=by rw [hT];simp only [List.mem_append];exact .inl hb
   simp only [List.mem_append] at hcc
   rcases hcc with (h | h) | h
   ·exact hn1.2.2 b hb b (by rw [gu];simp [h]) rfl
   ·exact Tm b h aiN
   ·exact hn1.2.2 b hb b (by rw [gu];simp [h]) rfl
 have p2:∀ b∈v.ownBlock.toList++(A1++T++B2),b∈TT∨∃ q,src=some q∧g1.own b=some (.inl q):=by
  intro b hb
  simp only [List.mem_append] at hb
  rcases hb with h | (h | h) | h
  ·exact .inl (by rw [hT];simp only [List.mem_append];exact .inl h)
  ·exact .inl (Gp b (by rw [gu];simp [h]))
  ·exact .inr (dF b h)
  ·exact .inl (Gp b (by rw [gu];simp [h]))
 have p3:∀ q,src=some q→q < C.N∧r.holder≠.inl q:=fun q hq=>by
  obtain ⟨⟨y,hy⟩,h⟩:=hsrc q hq
  exact ⟨(S1.env q y hy).1,h⟩
 obtain ⟨g',XG,hfree,S'⟩:=lens w2 (.row (some et) sz es') _ src hgr.os hgr.tape hgr.output hgr.size (fun b hb hb'=>hgr.block b hb (fun e=>by cases e;exact hb' jy)) kL p1 p2 p3 (fun b hb _=>by simp [hb])
 exact hn g' _ _ S' (fun h=>by rw [ho] at h;cases h)
def IG (P:Program) (o:Oper) (t:TypeId) (s:Nat) (x:Operand) (e:E):Option E :=
 match o.dst with
 | some _=>none
 | none=>match hint e with
  | some (el,e)=>match hint e with
   | some (el',e)=>match hint e with
    | some (.row (some _) _ es',e)=>match x,(match x with | .tmp q=>look e.st.env q | _=>none) with
     | .tmp q,some (.d (.v (.row (some eq) sq qs)))=>match look e.st.env s with
      | some (.pa r sz i j)=>match iN e.st r with
       | some (.row (some et) iQ es)=>match Nat.beq sz iQ && qC P t 1 && uB el j [.row (some eq) sq qs] && not (holdB r (.t q)) with
        | true=>some { need (es.set i el'=es') (need (Fit (dU el j [.row (some eq) sq qs]) el') (need (es[i]? = some el) e)) with st:=e.st.reset r (.row (some et) sz es') (some q) }
        | false=>none
       | _=>none
      | _=>none
     | _,_=>match val x e with
      | some (u,e)=>match look e.st.env s with
       | some (.pa r sz i j)=>match iN e.st r with
        | some (.row (some et) iQ es)=>match Nat.beq sz iQ && u.qA && qC P t u.cells.length && uB el j u.cells with
         | true=>some { need (es.set i el'=es') (need (Fit (dU el j u.cells) el') (need (es[i]? = some el) e)) with st:=e.st.reset r (.row (some et) sz es') none }
         | false=>none
        | _=>none
       | _=>none
      | none=>none
    | _=>none
   | none=>none
  | none=>none
theorem abJ {o:Oper} {t:TypeId} {s:Nat} {x:Operand} {e e':E} (ho:o.op=.store t (.tmp s) x) (h:IG P o t s x e=some e'):bC P C o e e':=by
 unfold IG at h
 split at h
 ·cases h
 rename_i hd
 split at h
 rotate_left
 ·cases h
 rename_i el e1 vz
 split at h
 rotate_left
 ·cases h
 rename_i el' e2 BA
 split at h
 rotate_left
 ·cases h
 rename_i eh sh es' e3 hh3
 obtain ⟨a1,a2⟩:=gW vz
 obtain ⟨b1,b2⟩:=gW BA
 obtain ⟨c1,c2⟩:=gW hh3
 have cu:e3.ob=e.ob:=by rw [c1,b1,a1]
 have hst:e3.st=e.st:=by rw [c2,b2,a2]
 split at h
 ·rename_i q eq sq qs hq
  split at h
  ·rename_i r sz i j hl
   split at h
   ·rename_i et iQ es hu
    split at h
    ·rename_i hc
     cases h
     simp only [Bool.and_eq_true] at hc
     obtain ⟨⟨⟨k1,k2⟩,k3⟩,k4⟩:=hc
     have k1:=Nat.eq_of_beq_eq_true k1
     subst k1
     have k2:=tY k2
     have k4:holdB r (.t q)=false:=by simpa using k4
     have hq:look e3.st.env q=some (.d (.v (.row (some eq) sq qs))):=hq
     refine bC.Xk (e1:=need (es.set i el'=es') (need (Fit (dU el j [.row (some eq) sq qs]) el') (need (es[i]? = some el) e3))) (src:=some q) (ds:=[.row (some eq) sq qs]) (el:=el) (el':=el') ho hd hl hu k2 k3 (fun hA=>?_) (fun q' e'=>?_) (fun hA=>?_) (fun hA=>?_) (fun hA=>?_)
     ·obtain ⟨hA,_⟩:=All.snoc hA
      obtain ⟨hA,_⟩:=All.snoc hA
      obtain ⟨hA,_⟩:=All.snoc hA
      refine ⟨cu ▸ hA,fun g a w S=>?_⟩
      have S:aH C g e3.st a w:=hst ▸ S
      obtain ⟨_,h2,h3⟩:=S.env q _ hq
      have h2:aV g w (a.eval (.tmp q)) (.v (.row (some eq) sq qs)) (g.TE q):=h2
      have hone:=h2.inv.one rfl
      refine ⟨g,g.TE q,S,?_,?_,S.nV q,fun b hb'=>⟨q,rfl,h3 b hb'⟩⟩
      ·rw [cells_one hone]
       have:=aM.cons h2.inv (aM.nil (p:=g.aL) (w:=w))
       simpa using this
      ·rw [cells_one hone];simpa using hone
     ·cases e'
      exact ⟨⟨_,hq⟩,IC k4⟩
     ·exact (All.snoc (All.snoc (All.snoc hA).1).1).2
     ·exact (All.snoc (All.snoc hA).1).2
     ·exact (All.snoc hA).2
    ·cases h
   ·cases h
  ·cases h
 ·split at h
  ·rename_i u e4 hv
   split at h
   ·rename_i r sz i j hl
    split at h
    ·rename_i et iQ es hu
     split at h
     ·rename_i hc
      cases h
      simp only [Bool.and_eq_true] at hc
      obtain ⟨⟨⟨k1,k2⟩,k3⟩,k4⟩:=hc
      have k1:=Nat.eq_of_beq_eq_true k1
      subst k1
      have k3:=tY k3
      refine bC.Xk (e1:=need (es.set i el'=es') (need (Fit (dU el j u.cells) el') (need (es[i]? = some el) e4))) (src:=none) (el:=el) (el':=el') ho hd hl hu k3 k4 (fun hA=>?_) (fun q' e'=>by cases e') (fun hA=>?_) (fun hA=>?_) (fun hA=>?_)
      ·obtain ⟨hA,_⟩:=All.snoc hA
       obtain ⟨hA,_⟩:=All.snoc hA
       obtain ⟨hA,_⟩:=All.snoc hA
       obtain ⟨h0,k⟩:=val_ok (C:=C) hv hA
       refine ⟨cu ▸ h0,fun g a w S=>?_⟩
       obtain ⟨g1,k1,S1,r1⟩:=k g a w (hst ▸ S)
       obtain ⟨r3,r4⟩:=r1.flat k2
       exact ⟨g1,[],S1,r3,r3.one r4,List.nodup_nil,fun b hb'=>by cases hb'⟩
      ·exact (All.snoc (All.snoc (All.snoc hA).1).1).2
      ·exact (All.snoc (All.snoc hA).1).2
      ·exact (All.snoc hA).2
     ·cases h
    ·cases h
   ·cases h
  ·cases h
end
theorem aM.setAt {p:aW} {w:World}:∀ {vs:List Value} {ds:List V} {T:List Nat} {c:Nat} {d:V},aM p w vs ds T→ds[c]? = some d →
 ∃ v T1 Tc T2,vs[c]? = some v∧T=T1++(Tc++T2)∧aP p w v d Tc∧aM p w vs (ds.set c .any) (T1++T2)
 | _,_,_,_,_,.nil,h=>by simp at h
 | _,_,_,0,d,.cons (v:=v) (A:=A) (B:=B) h1 h2,h=>by
  simp only [List.getElem?_cons_zero,Option.some.injEq] at h
  subst h
  exact ⟨v,[],A,B,rfl,rfl,h1,(aM.cons (A:=[]) (.any v) h2)⟩
 | _,_,_,c+1,d,.cons (A:=A) (B:=B) h1 h2,h=>by
  simp only [List.getElem?_cons_succ] at h
  obtain ⟨v,T1,Tc,T2,e1,e2,e3,e4⟩:=h2.setAt h
  subst e2
  refine ⟨v,A++T1,Tc,T2,by simpa using e1,by simp,e3,?_⟩
  have:=aM.cons h1 e4
  simpa using this
theorem aeN {cs:List V} {c:Nat} {u:V} (h:cs[c]? = some u):cs.set c .any=cs.take c++[.any]++cs.drop (c+1):=by
 have hc:=(List.getElem?_eq_some_iff.1 h).1
 rw [List.set_eq_take_append_cons_drop,if_pos hc]
 simp
section
variable {P:Program} {C:Ctx} {g:G} {st:St} {a:Act} {w w':World}
theorem aH.agS (S:aH C g st a w) {r:Root} {et sz i j:Nat} {es:List V} {el u:V} (hu:iN st r=some (.row (some et) sz es)) (hel:es[i]? = some el) (hok:uB el j [.any]=true) (hc:el.cells[j]? = some u) :
 ∃ v Tc g',pv g a w (.iY r sz i j)=some v∧g'.aL=g.aL∧aP g'.aL w v u Tc∧Tc.Nodup∧(∀ b∈Tc,g'.own b=none∧¬ g'.aL b∧(C.W.heap.size≤b∨C.Fz b)∧b < w.heap.size) ∧
  aH C g' (st.reset r (.row (some et) sz (es.set i (dU el j [.any]))) none) a w:=by
 obtain ⟨v,T,hpv,hR,gy,dF,lens⟩:=S.lens hu
 obtain ⟨xs,A,hT,hcs,hl,h1,how⟩:=nK hR
 obtain ⟨hcells,hj⟩:=UI hok
 simp only [List.length_cons,List.length_nil,Nat.zero_add] at hcells hj
 have hi:i < es.length:=(List.getElem?_eq_some_iff.1 hel).1
 have hels:el.cells.length=sz:=hcs el (List.mem_of_getElem? hel)
 have hfl:=IE (sz:=sz) (ds:=[.any]) (by simpa using hcells) (by simpa using hj) hcs hel
 simp only [List.length_cons,List.length_nil,Nat.zero_add] at hfl
 have hget:(es.flatMap V.cells)[i*sz+j]? = some u:=by
  obtain ⟨T1,A1,T2,_,_⟩:=aM.elem hcs hl hel
  have key:∀ (es:List V) (i:Nat),(∀ e∈es,e.cells.length=sz)→es[i]? = some el→(es.flatMap V.cells)[i*sz+j]? = some u:=by
   intro es
   induction es with
   | nil=>intro i _ h;simp at h
   | cons e es ih =>
    intro i hs h
    cases i with
    | zero =>
     simp only [List.getElem?_cons_zero,Option.some.injEq] at h
     subst h
     rw [List.flatMap_cons,Nat.zero_mul,Nat.zero_add,List.getElem?_append_left (by omega)]
     exact hc
    | succ i =>
     simp only [List.getElem?_cons_succ] at h
     have he:=hs e (by simp)
     rw [List.flatMap_cons,List.getElem?_append_right (by rw [he,Nat.add_mul];omega),he,show (i+1)*sz+j - sz=i*sz+j by rw [Nat.add_mul];omega]
     exact ih i (fun e he=>hs e (by simp [he])) h
  exact key es i hcs hel
 obtain ⟨x,T1,Tc,T2,f1,f2,f3,f4⟩:=hl.setAt hget
 rw [aeN hget] at f4
 rw [← hfl] at f4
 have hn1:=List.nodup_append.1 (hT ▸ gy)
 have hA:=List.nodup_append.1 (f2 ▸ hn1.2.1:(T1++(Tc++T2)).Nodup)
 have hA2:=List.nodup_append.1 hA.2.1
 have inT:∀ b,b∈T1∨b∈Tc∨b∈T2→b∈T:=fun b hb=>by
  rw [hT,f2]
  rcases hb with h | h | h<;>simp [h]
 have hlen:(es.set i (dU el j [.any])).length=es.length:=by simp
 have kL:aP g.aL w v (.row (some et) sz (es.set i (dU el j [.any]))) (v.ownBlock.toList++(T1++T2)):=by
  refine aP.own (fun e he=>?_) f4 h1 (by rw [hlen];exact how)
  rcases List.mem_or_eq_of_mem_set he with h | h
  ·exact hcs e h
  ·rw [h,hcells]
   simp only [List.length_append,List.length_take,List.length_drop,List.length_cons,List.length_nil]
   omega
 have wU:∀ b∈Tc,b∉v.ownBlock.toList++(T1++T2):=by
  intro b hb hb'
  simp only [List.mem_append] at hb'
  rcases hb' with h | h | h
  ·exact hn1.2.2 b h b (by rw [f2];simp [hb]) rfl
  ·exact hA.2.2 b h b (by simp [hb]) rfl
  ·exact hA2.2.2 b hb b h rfl
 have p1:(v.ownBlock.toList++(T1++T2)).Nodup:=by
  refine List.nodup_append.2 ⟨hn1.1,List.nodup_append.2 ⟨hA.1,hA2.2.1,fun b hb c hc e=>hA.2.2 b hb c (by simp [hc]) e⟩,fun b hb c hc e=>hn1.2.2 b hb c ?_ e⟩
  rw [f2]
  rcases List.mem_append.1 hc with h | h<;>simp [h]
 obtain ⟨g',hp,hf,S'⟩:=lens w (.row (some et) sz (es.set i (dU el j [.any]))) _ none rfl rfl rfl (Nat.le_refl _) (fun _ _ _=>rfl) kL p1 (fun b hb=>.inl (by
  simp only [List.mem_append] at hb
  rcases hb with h | h | h
  ·rw [hT];simp only [List.mem_append];exact .inl h
  ·exact inT b (.inl h)
  ·exact inT b (.inr (.inr h)))) (by simp) (fun b hb _=>by simp [hb])
 refine ⟨x,Tc,g',?_,hp,hp ▸ f3,hA2.1,fun b hb=>?_,S'⟩
 ·simp only [pv,hpv,Option.bind_some]
  rcases how.2 with ⟨hv0,hn0⟩ | ⟨b',cap,cur,hv0,_,hg,_⟩
  ·omega
  ·rw [hv0]
   simp only [Value.ownBlock]
   rw [if_pos (dF b' (by rw [hT,hv0];simp [Value.ownBlock]))]
   have hw:=how
   rw [hv0] at hw
   have hlt:i*sz+j < es.length*sz:=by
    have:(i+1)*sz≤es.length*sz:=Nat.mul_le_mul_right _ hi
    rw [Nat.add_mul,Nat.one_mul] at this
    omega
   rw [hw.cellAt _ hlt,f1]
 ·have hb':=dF b (inT b (.inr (.inl hb)))
  have:=S.own b _ hb'
  exact ⟨hf b (inT b (.inr (.inl hb))) (wU b hb),hp ▸ this.2.2,this.1,this.2.1⟩
theorem abK (S:aH C g st a w) {ts:Array TypeId} {ty t tx el:Nat} {i:TypeInfo} {z:Value} {v x:Value} {es es2 es':List V} {news:List Value} {T:List Nat} {d:Nat} (hts:ts = #[t,tx]) (hu:P.underlying t=some (.slice el)) (hi:P.info? el=some i) (hz:i.zero=some z)
 (k1:z.cells.size=i.size) (k3:140737488355328 / i.bytes≤maxLen) (hsz:es.length+es2.length≤140737488355328 / i.bytes) (hfit:aZ (es++es2) es') (hd:d < C.N)
 (hR:aP g.aL w v (.row (some el) i.size es) T) (gy:T.Nodup) (hfree:∀ b∈T,g.own b=none∧¬ g.aL b∧(C.W.heap.size≤b∨C.Fz b)∧b < w.heap.size)
 (hnew:g.own w.heap.size=none) (hsrc:Src P tx i.size es2.length news x w) (hnews:aM g.aL w news (es2.flatMap V.cells) []) (qB:∀ e∈es2,e.cells.length=i.size) :
 ∃ v' w' T',(Builtin.append_ ts ty #[v,x]).run P w=.ok v' w'∧aH C (g.put d T' fun _=>False) (st.put d (.d (.v (.row (some el) i.size es')))) (a.put (some d) v') w':=by
 subst hts
 have hb:(es.length+es2.length)*i.bytes≤140737488355328:=Nat.le_trans (Nat.mul_le_mul_right _ hsz) (Nat.div_mul_le_self _ _)
 have hm:es.length+es2.length≤maxLen:=Nat.le_trans hsz k3
 obtain ⟨xs,A,hT,h1,h2,h3,zY⟩:=nK hR
 obtain ⟨v',w',hr,how,hgr,hblk⟩:=xW (P:=P) w t tx ty el i z i.size i.bytes hu hi hz rfl rfl k1 v es.length xs zY x es2.length news hsrc hm hb
 refine ⟨v',w',v'.ownBlock.toList++(A++[]),hr,?_⟩
 have rJ:∀ b,g.aL b→w'.heap[b]? = w.heap[b]?:=fun b hb'=>hgr.block b (S.dM b hb') (fun e=>by
  have jy:b∈T:=by rw [hT,← e];simp
  exact (hfree b jy).2.1 hb')
 have Bu:∀ b∈A,w'.heap[b]? = w.heap[b]?:=fun b hb'=>by
  have jy:b∈T:=by rw [hT];simp [hb']
  refine hgr.block b (hfree b jy).2.2.2 (fun e=>?_)
  rw [hT] at gy
  exact (List.nodup_append.1 gy).2.2 b (by rw [← e];simp) b hb' rfl
 have hfl:(es++es2).flatMap V.cells=es.flatMap V.cells++es2.flatMap V.cells:=by simp
 have hall:aM g.aL w' (xs++news) (es'.flatMap V.cells) (A++[]):=by
  refine aM.fit (ds:=(es++es2).flatMap V.cells) ?_ hfit.flat
  rw [hfl]
  exact (h2.keep ⟨fun _ h=>h,rJ⟩ Bu).app (hnews.keep ⟨fun _ h=>h,rJ⟩ (fun _ h=>by cases h))
 have kL:aP g.aL w' v' (.row (some el) i.size es') (v'.ownBlock.toList++(A++[])):=by
  refine aP.own (hfit.sizes (fun e he=>?_)) hall (fun u hu'=>?_) ?_
  ·rcases List.mem_append.1 he with he | he
   ·exact h1 e he
   ·exact qB e he
  ·rcases List.mem_append.1 hu' with hu' | hu'
   ·exact h3 u hu'
   ·exact hsrc.one u hu'
  ·rw [← hfit.length,List.length_append];exact how
 refine S.r9 (row:=v.ownBlock) hgr (fun b hb'=>?_) hd ?_ ?_ kL
 ·have:=hfree b (by rw [hT,hb'];simp)
  exact ⟨this.1,this.2.1,this.2.2.1⟩
 ·rw [List.append_nil,List.nodup_append]
  rw [hT] at gy
  refine ⟨by cases v'.ownBlock<;>simp,(List.nodup_append.1 gy).2.1,fun b hb1 c hc1 e=>?_⟩
  subst e
  simp only [Option.mem_toList] at hb1
  rcases (hblk b hb1).1 with h5 | h5
  ·exact (List.nodup_append.1 gy).2.2 b (by rw [h5];simp) b hc1 rfl
  ·have:=(hfree b (by rw [hT];simp [hc1])).2.2.2;omega
 ·intro b hb'
  simp only [List.append_nil,List.mem_append,Option.mem_toList] at hb'
  rcases hb' with hb' | hb'
  ·obtain ⟨h5,h6⟩:=hblk b hb'
   rcases h5 with h5 | h5
   ·have:=hfree b (by rw [hT,h5];simp)
    exact ⟨this.1,this.2.1,this.2.2.1,h6⟩
   ·subst h5
    exact ⟨hnew,fun hp'=>by have:=S.dM _ hp';omega,.inl S.size,h6⟩
  ·have:=hfree b (by rw [hT];simp [hb'])
   exact ⟨this.1,this.2.1,this.2.2.1,Nat.lt_of_lt_of_le this.2.2.2 hgr.size⟩
def Hu (P:Program) (N:Nat) (o:Oper) (ts:Array TypeId) (s x:Operand) (e:E):Option E :=
 match dS N o with
 | none=>none
 | some d=>match ts.toList with
  | [t,tx]=>match P.underlying t with
   | some (.slice el)=>match P.info? el with
    | some i=>match i.zero with
     | some z=>match Nat.beq z.cells.size i.size && Nat.ble (140737488355328 / i.bytes) maxLen with
      | true=>match DZ P tx i.size x e with
       | some (es2,e)=>match s with
        | .tmp q=>match look e.st.env q with
         | some (.al (.iY r sz j c))=>match iN e.st r with
          | some (.row (some et) iQ os)=>match hint e with
           | some (oe,e)=>match oe.cells[c]? with
            | some (.row (some e1) s1 es)=>match hint e with
             | some (.row (some _) _ es',e)=>match Nat.beq sz iQ && Nat.beq e1 el && Nat.beq s1 i.size && uB oe c [.any] with
              | true=>some { (need (es.length+es2.length≤140737488355328 / i.bytes) (need (aZ (es++es2) es') (need (os[j]? = some oe) e))) with st:=(e.st.reset r (.row (some et) sz (os.set j (dU oe c [.any]))) none).put d (.d (.v (.row (some el) i.size es'))) }
              | false=>none
             | _=>none
            | _=>none
           | none=>none
          | _=>none
         | _=>none
        | _=>none
       | none=>none
      | false=>none
     | none=>none
    | none=>none
   | _=>none
  | _=>none
theorem aH.aeO (S:aH C g st a w):g.own w.heap.size=none:=by
 cases ho:g.own w.heap.size with
 | none=>rfl
 | some h'=>have:=(S.own _ _ ho).2.1;omega
theorem abf {o:Oper} {c:Call} {s x:Operand} {e e':E} (ho:o.op=.call c) (hc:c.callee=.builtin .append) (ha:c.args = #[s,x]) (h:Hu P C.N o c.argTypes s x e=some e'):bC P C o e e':=by
 unfold Hu at h
 split at h
 ·cases h
 rename_i d hd
 obtain ⟨hdd,hdN⟩:=fC hd
 split at h
 rotate_left
 ·cases h
 rename_i t tx hts
 have hts:c.argTypes = #[t,tx]:=by
  rw [← Array.toArray_toList (xs:=c.argTypes),hts]
 split at h
 rotate_left
 ·cases h
 rename_i el hu
 split at h
 rotate_left
 ·cases h
 rename_i i hi
 split at h
 rotate_left
 ·cases h
 rename_i z hz
 split at h
 rotate_left
 ·cases h
 rename_i hck
 simp only [Bool.and_eq_true] at hck
 have k1:=Nat.eq_of_beq_eq_true hck.1
 have k3:=Nat.le_of_ble_eq_true hck.2
 split at h
 rotate_left
 ·cases h
 rename_i es2 e1 hx
 split at h
 rotate_left
 ·cases h
 rename_i q
 split at h
 rotate_left
 ·cases h
 rename_i r sz j cc hl
 split at h
 rotate_left
 ·cases h
 rename_i et iQ os Bt
 split at h
 rotate_left
 ·cases h
 rename_i oe e2 hh
 split at h
 rotate_left
 ·cases h
 rename_i ZY s1 es hcell
 split at h
 rotate_left
 ·cases h
 rename_i e3' s3' es' e3 BA
 split at h
 rotate_left
 ·cases h
 rename_i pX
 simp only [Bool.and_eq_true] at pX
 obtain ⟨⟨⟨m1,m2⟩,m3⟩,m4⟩:=pX
 have m1:=Nat.eq_of_beq_eq_true m1
 have m2:=Nat.eq_of_beq_eq_true m2
 have m3:=Nat.eq_of_beq_eq_true m3
 subst m1
 subst m2
 subst m3
 cases h
 obtain ⟨q1,q2⟩:=gW hh
 obtain ⟨p1,p2⟩:=gW BA
 have cu:e3.ob=e1.ob:=by rw [p1,q1]
 have hst:e3.st=e1.st:=by rw [p2,q2]
 intro hA
 obtain ⟨hA,hsz⟩:=All.snoc (l:=e3.ob++_++_) hA
 obtain ⟨hA,hfit⟩:=All.snoc (l:=e3.ob++_) hA
 obtain ⟨hA,hel⟩:=All.snoc (l:=e3.ob) hA
 obtain ⟨h0,kx⟩:=Wx (C:=C) hx (cu ▸ hA)
 refine ⟨h0,fun g a w S next Q hn=>?_⟩
 obtain ⟨g1,news,kk,S1,hsrc,hnews,qB⟩:=kx g a w S
 obtain ⟨v,Tc,g2,hpv,hp,hR,gy,hfree,S2⟩:=S1.agS Bt hel m4 hcell
 obtain ⟨_,hal,_⟩:=S1.env q _ hl
 have hv:a.eval (.tmp q)=v:=by
  have:=hal.2
  rw [hpv] at this
  exact (Option.some.inj this).symm
 obtain ⟨v',w',T',hr,S3⟩:=abK (P:=P) (ts:=c.argTypes) (ty:=o.type) (x:=a.eval x) S2 hts hu hi hz k1 k3 hsz hfit hdN hR gy hfree S2.aeO hsrc (by rw [hp];exact hnews) qB
 refine fq (v:=v') (w':=w') ?_ ?_
 ·unfold execOp
  simp only [ho,resolve,hc,ha,Sem.run_bind,Sem.run_pure,Result.andThen_ok,invoke,builtin,List.map_toArray,List.map_cons,List.map_nil,hv,hr]
 ·rw [hdd]
  refine hn (g2.put d T' fun _=>False) _ _ ?_ (fun h=>by rw [ho] at h;simp [jL,hc] at h)
  show aH C _ ((e3.st.reset r _ none).put d _) _ _
  rw [hst]
  exact S3
end
inductive eH:D→D→Prop
 | refl (d:D):eH d d
 | v {x y:V}:Fit x y→eH (.v x) (.v y)
inductive gF:List D→List D→Prop
 | nil:gF [] []
 | cons {c d:D} {cs ds:List D}:eH c d→gF cs ds→gF (c :: cs) (d :: ds)
theorem gF.refl:∀ l:List D,gF l l
 | []=>.nil
 | c :: cs=>.cons (.refl c) (gF.refl cs)
theorem aV.fit {g:G} {w:World} {v:Value} {c d:D} {T:List Nat} (h:aV g w v c T) (f:eH c d):aV g w v d T:=by
 cases f with
 | refl=>exact h
 | v f=>exact .v (h.inv.fit f)
theorem bZ.fit {g:G} {w:World}:∀ {vs:List Value} {cs ds:List D} {T:List Nat},bZ g w vs cs T→gF cs ds→bZ g w vs ds T
 | _,_,_,_,.nil,.nil=>.nil
 | _,_,_,_,.cons h1 h2,.cons f1 f2=>.cons (h1.fit f1) (h2.fit f2)
theorem gF.of:∀ {a b:List V},aZ a b→gF (dv a) (dv b)
 | _,_,.nil=>.nil
 | _,_,.cons f g=>.cons (.v f) (gF.of g)
inductive cz:List (List V)→List (List V)→Prop
 | nil:cz [] []
 | cons {c d:List V} {cs ds:List (List V)}:aZ c d→cz cs ds→cz (c :: cs) (d :: ds)
theorem cz.refl:∀ l:List (List V),cz l l
 | []=>.nil
 | c :: cs=>.cons (aZ.refl c) (cz.refl cs)
theorem cz.length:∀ {a b:List (List V)},cz a b→a.length=b.length
 | _,_,.nil=>rfl
 | _,_,.cons _ g=>by simp [g.length]
theorem cz.get:∀ {a b:List (List V)} {i:Nat} {d:List V},cz a b→b[i]? = some d→∃ c,a[i]? = some c∧aZ c d
 | _,_,_,_,.nil,h=>by simp at h
 | _,_,0,_,.cons f _,h=>by
  simp only [List.getElem?_cons_zero,Option.some.injEq] at h
  exact ⟨_,rfl,h ▸ f⟩
 | _,_,i+1,_,.cons _ g,h=>by
  simp only [List.getElem?_cons_succ] at h ⊢
  exact g.get h
structure Aa (g g':G) (w w':World):Prop where
 os:w'.os=w.os
 tape:w'.tape=w.tape
 output:w'.output=w.output
 size:w.heap.size≤w'.heap.size
 same:∀ b,b < w.heap.size→g.own b=none→w'.heap[b]? = w.heap[b]?
 n:g'.n=g.n
 loc:∀ i,i < g.n→g'.loc i=g.loc i
 aL:∀ b,g.aL b→g'.aL b
 Yt:∀ b,g'.aL b→g.aL b∨w.heap.size≤b∨∃ h,g.own b=some h
 dM:∀ b,g'.aL b→b < w'.heap.size
 own:∀ b h,g'.own b=some h→(w.heap.size≤b∨∃ h',g.own b=some h')∧b < w'.heap.size∧¬ g'.aL b
def pU (g:G) (w:World) (bs:List (List V)):Prop:=∀ i c,bs[i]? = some c→kZ g w (g.loc i) (.cells (dv c)) (g.TB i)∧(g.TB i).Nodup∧∀ b∈g.TB i,g.own b=some (.inr i)
def lY (P:Program) (f:FuncId) (us:List D) (bs:List (List V)) (r:D) (bs':List (List V)):Prop :=
 (∀ vs w,(callFunc f vs).run P w=.ok (.enter f vs) w) ∧
 ∀ (g:G) (w:World) (vs:List Value),g.n=bs.length→(∀ b,g.aL b→b < w.heap.size)→gp.t g.aL w→bZ g w vs us []→pU g w bs→(∀ b h,g.own b=some h→b < w.heap.size∧¬ g.aL b) →
  Calls P f vs.toArray w fun e w'=>∃ (v:Value) (T:List Nat) (g':G),e=.returned v∧Aa g g' w w'∧aV g' w' v r T∧T.Nodup∧(∀ b∈T,g'.own b=some (.inl 0))∧pU g' w' bs'
def yO (P:Program) (f:FuncId) (us:List D) (bs:List (List V)) (r:D) (bs':List (List V)):Prop:=∃ us' l7,gF us us'∧cz bs l7∧lY P f us' l7 r bs'
theorem lY.c {P:Program} {f:FuncId} {us:List D} {bs bs':List (List V)} {r:D} (h:lY P f us bs r bs'):yO P f us bs r bs':=⟨us,bs,gF.refl us,cz.refl bs,h⟩
theorem lY.n {P:Program} {f:FuncId} {us us':List D} {bs l7 bs':List (List V)} {r:D} (h:lY P f us' l7 r bs') (f1:gF us us') (f2:cz bs l7):yO P f us bs r bs':=⟨us',l7,f1,f2,h⟩
theorem kZ.ML {g:G} {w:World} {l:Nat} {c d:List V} {T:List Nat} (h:kZ g w l (.cells (dv c)) T) (f:aZ c d):kZ g w l (.cells (dv d)) T:=by
 obtain ⟨cur,e,A,h1,h2,h3,h4⟩:=h
 exact ⟨cur,e,A,h1,h2,h3.fit (gF.of f),h4⟩
theorem pU.fit {g:G} {w:World} {bs bs':List (List V)} (h:pU g w bs) (f:cz bs bs'):pU g w bs':=fun i d hd=>by
 obtain ⟨c,hc,fc⟩:=f.get hd
 obtain ⟨h1,h2,h3⟩:=h i c hc
 exact ⟨h1.ML fc,h2,h3⟩
theorem kZ.gV {g g':G} {w:World} {l:Nat} {c:List V} {T:List Nat} (h:kZ g w l (.cells (dv c)) T) (hp:g'.aL=g.aL):kZ g' w l (.cells (dv c)) T:=by
 obtain ⟨cur,e,A,h1,h2,h3,h4⟩:=h
 refine ⟨cur,e,A,h1,h2,?_,h4⟩
 have:=h3.jO
 rw [← hp] at this
 exact this.dv
section
variable {P:Program} {C:Ctx} {g:G} {st:St} {a:Act} {w w':World}
def idxOf (id:Nat):List Nat→Option Nat
 | []=>none
 | x :: l=>match Nat.beq id x with
  | true=>some 0
  | false=>(idxOf id l).map (· + 1)
theorem vR:∀ {l:List Nat} {id j:Nat},idxOf id l=some j→l[j]? = some id
 | [],_,_,h=>by simp [idxOf] at h
 | x :: l,id,j,h=>by
  simp only [idxOf] at h
  cases hb:Nat.beq id x with
  | true =>
   rw [hb] at h
   simp only [Option.some.injEq] at h
   subst h
   simp [Nat.eq_of_beq_eq_true hb]
  | false =>
   rw [hb] at h
   simp only at h
   cases hi:idxOf id l with
   | none=>rw [hi] at h;cases h
   | some k =>
    rw [hi] at h
    simp only [Option.map_some,Option.some.injEq] at h
    subst h
    simpa using vR hi
def yP:List Nat→Bool
 | []=>true
 | x :: l=>match (idxOf x l) with
  | none=>yP l
  | some _=>false
theorem G6:∀ {l:List Nat} {id:Nat},idxOf id l=none→id∉l
 | [],_,_=>by simp
 | x :: l,id,h=>by
  simp only [idxOf] at h
  cases hb:Nat.beq id x with
  | true=>rw [hb] at h;cases h
  | false =>
   rw [hb] at h
   simp only [Option.map_eq_none_iff] at h
   have:=G6 h
   intro hm
   rcases List.mem_cons.1 hm with rfl | hm
   ·rw [Nat.beq_refl] at hb;cases hb
   ·exact this hm
theorem Cb:∀ {l:List Nat},yP l=true→l.Nodup
 | [],_=>List.nodup_nil
 | x :: l,h=>by
  simp only [yP] at h
  split at h
  ·rename_i hi
   exact List.nodup_cons.2 ⟨G6 hi,Cb h⟩
  ·cases h
theorem Hw:∀ {l:List Nat},l.Nodup→∀ {i j x:Nat},l[i]? = some x→l[j]? = some x→i=j
 | [],_,i,_,_,hi,_=>by simp at hi
 | y :: l,hn,0,0,_,_,_=>rfl
 | y :: l,hn,0,j+1,x,hi,hj=>by
  simp only [List.getElem?_cons_zero,Option.some.injEq,List.getElem?_cons_succ] at hi hj
  subst hi
  exact ((List.nodup_cons.1 hn).1 (List.mem_of_getElem? hj)).elim
 | y :: l,hn,i+1,0,x,hi,hj=>by
  simp only [List.getElem?_cons_zero,Option.some.injEq,List.getElem?_cons_succ] at hi hj
  subst hj
  exact ((List.nodup_cons.1 hn).1 (List.mem_of_getElem? hi)).elim
 | y :: l,hn,i+1,j+1,x,hi,hj=>by
  simp only [List.getElem?_cons_succ] at hi hj
  rw [Hw (List.nodup_cons.1 hn).2 hi hj]
def G.iP (g:G) (ids:List Nat):G :=
 { aL:=g.aL,own:=fun b=>(ids.findIdx? fun id=>decide (b∈g.TB id)).map .inr,n:=ids.length,loc:=fun j=>g.loc (ids.getD j 0),TE:=fun _=>[],TB:=fun j=>if j < ids.length then g.TB (ids.getD j 0) else [] }
def yQ (ids:List Nat) (l:List (Nat × X)):List (Nat × X):=match ids with
 | []=>l
 | id :: ids=>kill (jw id) (yQ ids l)
def ni (bx:List gH):List Nat→List (List V)→List gH
 | id :: ids,c :: cs=>ni (bx.set id (.cells (dv c))) ids cs
 | _,_=>bx
def St.kK (st:St) (ids:List Nat) (bs':List (List V)):St:={ env:=yQ ids st.env,box:=ni st.box ids bs' }
theorem UJ {t:Nat}:∀ {ids:List Nat} {l:List (Nat × X)} {y:X},look (yQ ids l) t=some y→y=.dead∧(∃ z,look l t=some z)∨look l t=some y∧∀ h,y.fV=some h→∀ id∈ids,h≠.inr id
 | [],l,y,h=>.inr ⟨h,by simp⟩
 | id :: ids,l,y,h=>by
  simp only [yQ,mQ] at h
  cases hl:look (yQ ids l) t with
  | none=>rw [hl] at h;cases h
  | some z =>
   rw [hl] at h
   simp only [Option.map_some,Option.some.injEq] at h
   rcases UJ hl with ⟨rfl,z',hz⟩ | ⟨hz,hr⟩
   ·exact .inl ⟨h ▸ rfl,z',hz⟩
   ·by_cases hd:y=.dead
    ·exact .inl ⟨hd,z,hz⟩
    ·rcases X.iL (jw id) z with h1 | ⟨h1,_⟩
     ·exact (hd (by rw [← h,h1])).elim
     ·rw [h1] at h
      subst h
      refine .inr ⟨hz,fun h' hh i hi=>?_⟩
      rcases List.mem_cons.1 hi with rfl | hi
      ·exact X.vN (q:=.b i 0) h1 hd h' hh
      ·exact hr h' hh i hi
theorem Uv:∀ {ids:List Nat} {cs:List (List V)} {bx:List gH},(ni bx ids cs).length=bx.length
 | [],_,_=>by simp [ni]
 | _ :: _,[],_=>by simp [ni]
 | id :: ids,c :: cs,bx=>by simp only [ni,Uv,List.length_set]
theorem Jg:∀ {ids:List Nat} {cs:List (List V)} {bx:List gH} {i:Nat},i∉ids→(ni bx ids cs)[i]? = bx[i]?
 | [],_,_,_,_=>by simp [ni]
 | _ :: _,[],_,_,_=>by simp [ni]
 | id :: ids,c :: cs,bx,i,h=>by
  simp only [List.mem_cons,not_or] at h
  simp only [ni]
  rw [Jg h.2,List.getElem?_set_ne (fun e=>h.1 e.symm)]
theorem Jh:∀ {ids:List Nat} {cs:List (List V)} {bx:List gH} {j id:Nat},ids.Nodup→ids.length=cs.length→ids[j]? = some id→id < bx.length→∃ c,cs[j]? = some c∧(ni bx ids cs)[id]? = some (.cells (dv c))
 | [],_,_,_,_,_,_,h,_=>by simp at h
 | _ :: _,[],_,_,_,_,h,_,_=>by simp at h
 | x :: ids,c :: cs,bx,0,id,hn,hl,h,hb=>by
  simp only [List.getElem?_cons_zero,Option.some.injEq] at h
  subst h
  refine ⟨c,rfl,?_⟩
  simp only [ni]
  rw [Jg (List.nodup_cons.1 hn).1,List.getElem?_set_self hb]
 | x :: ids,c :: cs,bx,j+1,id,hn,hl,h,hb=>by
  simp only [List.getElem?_cons_succ] at h
  simp only [ni,List.getElem?_cons_succ]
  exact Jh (List.nodup_cons.1 hn).2 (by simpa using hl) h (by simpa using hb)
def G.back (g g':G) (ids:List Nat):G :=
 { aL:=g'.aL,own:=fun b=>match g'.own b with
     | some (.inr j)=>if j < ids.length then some (.inr (ids.getD j 0)) else none
     | some (.inl _)=>none
     | none=>if (ids.any fun id=>decide (b∈g.TB id))=true then none else g.own b,
   n:=g.n,loc:=g.loc,TE:=g.TE,TB:=fun i=>match idxOf i ids with
     | some j=>g'.TB j
     | none=>g.TB i }
theorem II:∀ {l:List Nat} {j id:Nat},l.Nodup→l[j]? = some id→idxOf id l=some j
 | [],_,_,_,h=>by simp at h
 | x :: l,0,id,_,h=>by
  simp only [List.getElem?_cons_zero,Option.some.injEq] at h
  subst h
  simp [idxOf,Nat.beq_refl]
 | x :: l,j+1,id,hn,h=>by
  simp only [List.getElem?_cons_succ] at h
  have hne:Nat.beq id x=false:=by
   cases hb:Nat.beq id x with
   | true =>
    have:=Nat.eq_of_beq_eq_true hb
    subst this
    exact ((List.nodup_cons.1 hn).1 (List.mem_of_getElem? h)).elim
   | false=>rfl
  simp only [idxOf,hne,II (List.nodup_cons.1 hn).2 h,Option.map_some]
theorem aH.Xl (S:aH C g st a w) {ids:List Nat} {bs:List (List V)} (hn:ids.Nodup) (hl:ids.length=bs.length) (hb:∀ (j id:Nat),ids[j]? = some id→∃ c,bs[j]? = some c∧st.box[id]? = some (gH.cells (dv c))) :
 pU (g.iP ids) w bs∧(∀ b h,(g.iP ids).own b=some h→∃ j id,h=.inr j∧ids[j]? = some id∧b∈g.TB id∧g.own b=some (.inr id))∧(∀ j id b,ids[j]? = some id→b∈g.TB id→(g.iP ids).own b=some (.inr j)):=by
 have hown:∀ j id b,ids[j]? = some id→b∈g.TB id→g.own b=some (.inr id):=fun j id b hj Tn=>by
  obtain ⟨c,_,hc⟩:=hb j id hj
  exact (S.box id _ hc).2 b Tn
 have h2:∀ b h,(g.iP ids).own b=some h→∃ j id,h=.inr j∧ids[j]? = some id∧b∈g.TB id∧g.own b=some (.inr id):=by
  intro b h ho
  simp only [G.iP] at ho
  cases hf:ids.findIdx? (fun id=>decide (b∈g.TB id)) with
  | none=>rw [hf] at ho;cases ho
  | some j =>
   rw [hf] at ho
   simp only [Option.map_some,Option.some.injEq] at ho
   obtain ⟨hj,hp,_⟩:=List.findIdx?_eq_some_iff_getElem.1 hf
   have hm:b∈g.TB ids[j]:=by simpa using hp
   exact ⟨j,ids[j],ho.symm,List.getElem?_eq_getElem hj,hm,hown j _ b (List.getElem?_eq_getElem hj) hm⟩
 have h3:∀ j id b,ids[j]? = some id→b∈g.TB id→(g.iP ids).own b=some (.inr j):=by
  intro j id b hj hm
  cases hf:ids.findIdx? (fun id=>decide (b∈g.TB id)) with
  | none =>
   have:=List.findIdx?_eq_none_iff.1 hf id (List.mem_of_getElem? hj)
   simp [hm] at this
  | some k =>
   have ho:(g.iP ids).own b=some (.inr k):=by simp only [G.iP,hf,Option.map_some]
   obtain ⟨j',id',e1,e2,e3,e4⟩:=h2 b _ ho
   cases e1
   rw [hown j id b hj hm] at e4
   cases e4
   rw [ho,Hw hn e2 hj]
 refine ⟨fun j c hc=>?_,h2,h3⟩
 have hj:j < ids.length:=by rw [hl];exact (List.getElem?_eq_some_iff.1 hc).1
 have hid:ids[j]? = some ids[j]:=List.getElem?_eq_getElem hj
 obtain ⟨c',hc',hbx⟩:=hb j _ hid
 rw [hc] at hc'
 cases hc'
 obtain ⟨h1,h4⟩:=S.box _ _ hbx
 have eT:(g.iP ids).TB j=g.TB ids[j]:=by simp only [G.iP];rw [if_pos hj,List.getD_eq_getElem?_getD,hid];rfl
 have eL:(g.iP ids).loc j=g.loc ids[j]:=by simp only [G.iP];rw [List.getD_eq_getElem?_getD,hid];rfl
 rw [eT,eL]
 exact ⟨h1.gV rfl,S.mr _,fun b Tn=>h3 j _ b hid Tn⟩
theorem aH.af3 (S:aH C g st a w) {ids:List Nat} {bs bs':List (List V)} {g':G} (hn:ids.Nodup) (hl:ids.length=bs.length) (hl':ids.length=bs'.length) (hb:∀ (j id:Nat),ids[j]? = some id→∃ c,bs[j]? = some c∧st.box[id]? = some (gH.cells (dv c)))
 (hL:Aa (g.iP ids) g' w w') (hB:pU g' w' bs'):dI g (g.back g' ids) w w'∧aH C (g.back g' ids) (st.kK ids bs') a w' ∧
  ∀ b,g'.own b=some (.inl 0)→(g.back g' ids).own b=none∧¬ (g.back g' ids).aL b∧(C.W.heap.size≤b∨C.Fz b)∧b < w'.heap.size:=by
 obtain ⟨hBx,hown1,hown2⟩:=S.Xl hn hl hb
 have hlt:∀ j id,ids[j]? = some id→id < st.box.length:=fun j id hj=>by
  obtain ⟨c,_,hc⟩:=hb j id hj
  exact (List.getElem?_eq_some_iff.1 hc).1
 have hgn:∀ j id,ids[j]? = some id→id < g.n:=fun j id hj=>by rw [S.n];exact hlt j id hj
 have hgd:∀ j id,ids[j]? = some id→ids.getD j 0=id:=fun j id hj=>by rw [List.getD_eq_getElem?_getD,hj];rfl
 have aeP:∀ b,(∀ (j id:Nat),ids[j]? = some id→b∉g.TB id)→(g.iP ids).own b=none:=fun b h=>by
  cases ho:(g.iP ids).own b with
  | none=>rfl
  | some k=>obtain ⟨j,id,_,e2,e3,_⟩:=hown1 b k ho;exact (h j id e2 e3).elim
 have same:∀ b,b < w.heap.size→(∀ (j id:Nat),ids[j]? = some id→b∉g.TB id)→w'.heap[b]? = w.heap[b]?:=fun b hb1 h=>hL.same b hb1 (aeP b h)
 have Ab:∀ j id b,ids[j]? = some id→b∈g.TB id→g.own b=some (.inr id):=fun j id b hj hm=>by
  obtain ⟨c,_,hc⟩:=hb j id hj
  exact (S.box id _ hc).2 b hm
 have Yu:∀ b,(ids.any fun id=>decide (b∈g.TB id))=true↔∃ (j id:Nat),ids[j]? = some id∧b∈g.TB id:=fun b=>by
  rw [List.any_eq_true]
  constructor
  ·rintro ⟨id,h1,h2⟩
   obtain ⟨j,hj⟩:=List.getElem?_of_mem h1
   exact ⟨j,id,hj,by simpa using h2⟩
  ·rintro ⟨j,id,h1,h2⟩
   exact ⟨id,List.mem_of_getElem? h1,by simpa using h2⟩
 have gX:∀ b h,g'.own b=some h→w.heap.size≤b∨∃ (j id:Nat),ids[j]? = some id∧b∈g.TB id:=fun b h ho=>by
  rcases (hL.own b h ho).1 with h1 | ⟨h',h1⟩
  ·exact .inl h1
  ·obtain ⟨j,id,_,e2,e3,_⟩:=hown1 b h' h1
   exact .inr ⟨j,id,e2,e3⟩
 have fz:∀ b h,g'.own b=some h→C.W.heap.size≤b∨C.Fz b:=fun b h ho=>by
  rcases gX b h ho with h1 | ⟨j,id,h1,h2⟩
  ·exact .inl (Nat.le_trans S.size h1)
  ·exact (S.own b _ (Ab j id b h1 h2)).1
 let ib:Nat ⊕ Nat→Prop:=fun h=>∃ (j id:Nat),ids[j]? = some id∧h=.inr id
 have aeQ:∀ b h,g.own b=some h→¬ ib h→(g.back g' ids).own b=some h:=by
  intro b h ho hc
  have hnot:¬ ∃ (j id:Nat),ids[j]? = some id∧b∈g.TB id:=by
   rintro ⟨j,id,h1,h2⟩
   rw [Ab j id b h1 h2] at ho
   cases ho
   exact hc ⟨j,id,h1,rfl⟩
  have h1:g'.own b=none:=by
   cases h2:g'.own b with
   | none=>rfl
   | some k =>
    rcases gX b k h2 with h3 | h3
    ·have:=(S.own b h ho).2.1;omega
    ·exact (hnot h3).elim
  simp only [G.back,h1]
  rw [if_neg (by rw [Yu];exact hnot)]
  exact ho
 have k:dI g (g.back g' ids) w w':=⟨fun b hb1=>hL.aL b hb1,Nat.le_refl _,fun _ _=>rfl,fun b hb1=>same b (S.dM b hb1) fun j id hj hm=>(S.own b _ (Ab j id b hj hm)).2.2 hb1⟩
 refine ⟨k,?_,?_⟩
 ·refine S.change ib S.defers S.tmps hL.os hL.tape hL.output hL.size (fun b hb1=>hL.aL b hb1) ?_ hL.dM ?_ (Nat.le_refl _) (fun _ _=>rfl) ?_ aeQ ?_ ?_ ?_ ?_ ?_ ?_ ?_
  ·intro b hb1
   rcases hL.Yt b hb1 with h | h | ⟨h,h1⟩
   ·exact .inl h
   ·exact .inr (.inl h)
   ·obtain ⟨j,id,_,_,_,e4⟩:=hown1 b h h1
    exact .inr (.inr ⟨_,e4⟩)
  ·show g.n=_
   simp only [St.kK,Uv]
   exact S.n
  ·intro b hb1 h
   refine same b hb1 fun j id hj hm=>?_
   have ho:=Ab j id b hj hm
   rcases h with h | ⟨h,h1,h2⟩ | ⟨h1,h2⟩
   ·exact (S.own b _ ho).2.2 h
   ·rw [ho] at h1;cases h1;exact h2 ⟨j,id,hj,rfl⟩
   ·rcases (S.own b _ ho).1 with h3 | h3
    ·omega
    ·exact h2 h3
  ·intro t _;exact ⟨rfl,rfl⟩
  ·intro i hi
   have hni:i∉ids:=fun hm=>by
    obtain ⟨j,hj⟩:=List.getElem?_of_mem hm
    exact hi ⟨j,i,hj,rfl⟩
   refine ⟨?_,by simp only [St.kK];exact Jg hni⟩
   simp only [G.back]
   cases hx:idxOf i ids with
   | none=>rfl
   | some j=>exact (hni (List.mem_of_getElem? (vR hx))).elim
  ·intro t y hy
   simp only [St.kK] at hy
   refine .inl ⟨?_,?_⟩
   ·rintro ⟨_,_,_,e⟩;cases e
   ·rcases UJ hy with ⟨h,z,hz⟩ | ⟨h,hr⟩
    ·exact .inr ⟨h,z,hz⟩
    ·refine .inl ⟨h,fun h' hh=>?_⟩
     rintro ⟨j,id,hj,e⟩
     exact hr h' hh id (List.mem_of_getElem? hj) e
  ·rintro i b hb1 ⟨j,id,hj,e⟩
   cases e
   obtain ⟨c,hc,hs⟩:=Jh (bx:=st.box) hn hl' hj (hlt j i hj)
   simp only [St.kK] at hb1
   rw [hs] at hb1
   cases hb1
   obtain ⟨h1,h2,h3⟩:=hB j c hc
   have eT:(g.back g' ids).TB i=g'.TB j:=by simp only [G.back,II hn hj]
   have hjl:j < ids.length:=(List.getElem?_eq_some_iff.1 hj).1
   have eL:g'.loc j=(g.back g' ids).loc i:=by
    rw [hL.loc j (by simpa [G.iP] using hjl)]
    show g.loc (ids.getD j 0)=g.loc i
    rw [hgd j i hj]
   rw [eT,← eL]
   refine ⟨h1.gV rfl,fun b hm=>?_⟩
   simp only [G.back,h3 b hm]
   rw [if_pos hjl,hgd j i hj]
  ·rintro t ⟨_,_,_,e⟩;cases e
  ·rintro i ⟨j,id,hj,e⟩
   cases e
   have eT:(g.back g' ids).TB i=g'.TB j:=by simp only [G.back,II hn hj]
   rw [eT]
   obtain ⟨c,hc,_⟩:=Jh (bx:=st.box) hn hl' hj (hlt j i hj)
   exact (hB j c hc).2.1
  ·intro b h ho
   simp only [G.back] at ho
   split at ho
   ·rename_i j hj
    split at ho
    ·cases ho
     have:=hL.own b _ hj
     refine .inr ⟨?_,this.2.1,this.2.2⟩
     rcases gX b _ hj with h1 | ⟨j',id,h1,h2⟩
     ·exact .inr (.inl h1)
     ·exact .inl ⟨_,Ab j' id b h1 h2⟩
    ·cases ho
   ·cases ho
   ·split at ho
    ·cases ho
    ·rename_i hnone hany
     refine .inl ⟨ho,fun hp=>?_⟩
     rcases hL.Yt b hp with h1 | h1 | ⟨h',h1⟩
     ·exact (S.own b h ho).2.2 h1
     ·have:=(S.own b h ho).2.1;omega
     ·obtain ⟨j,id,_,e2,e3,_⟩:=hown1 b h' h1
      exact hany ((Yu b).2 ⟨j,id,e2,e3⟩)
 ·intro b hb1
  have:=hL.own b _ hb1
  refine ⟨by simp only [G.back,hb1],this.2.2,fz b _ hb1,this.2.1⟩
end
def MM (ids:List Nat) (x:Operand) (e:E):Option (D × List Nat × E) :=
 match (match x with | .tmp t=>look e.st.env t | _=>none) with
 | some (.d (.ptr id off))=>match idxOf id ids with
  | some j=>some (.ptr j off,ids,e)
  | none=>some (.ptr ids.length off,ids++[id],e)
 | _=>match val x e with
  | some (u,e)=>some (.v u,ids,e)
  | none=>none
def C9 (ids:List Nat):List Operand→E→Option (List D × List Nat × E)
 | [],e=>some ([],ids,e)
 | x :: xs,e=>match MM ids x e with
  | some (u,ids,e)=>match C9 ids xs e with
   | some (us,ids,e)=>some (u :: us,ids,e)
   | none=>none
  | none=>none
def uw (st:St):List Nat→Option (List (List V))
 | []=>some []
 | id :: ids=>match st.box[id]? with
  | some (.cells cs)=>match jO cs,uw st ids with
   | some c,some l=>some (c :: l)
   | _,_=>none
  | _=>none
def Xm:List V→Option (List (List V))
 | []=>some []
 | .agg c :: l=>match Xm l with
  | some r=>some (c :: r)
  | none=>none
 | _=>none
theorem G7 {st:St}:∀ {ids:List Nat} {bs:List (List V)},uw st ids=some bs→ids.length=bs.length∧∀ (j id:Nat),ids[j]? = some id→∃ c,bs[j]? = some c∧st.box[id]? = some (gH.cells (dv c))
 | [],bs,h=>by cases h;exact ⟨rfl,fun j id h=>by simp at h⟩
 | x :: ids,bs,h=>by
  simp only [uw] at h
  split at h
  ·rename_i cs hb
   split at h
   ·rename_i c l hu hl
    cases h
    obtain ⟨h1,h2⟩:=G7 hl
    refine ⟨by simp [h1],fun j id hj=>?_⟩
    cases j with
    | zero =>
     simp only [List.getElem?_cons_zero,Option.some.injEq] at hj
     subst hj
     exact ⟨c,rfl,by rw [hb,um hu]⟩
    | succ j =>
     simp only [List.getElem?_cons_succ] at hj ⊢
     exact h2 j id hj
   ·cases h
  ·cases h
section
variable {P:Program} {C:Ctx} {g:G} {st:St} {a:Act} {w w':World}
inductive uT (g:G) (w:World) (ids:List Nat):Value→D→Prop
 | v {u:Value} {x:V}:aP g.aL w u x []→uT g w ids u (.v x)
 | ptr {j id off:Nat}:ids[j]? = some id→id < g.n→uT g w ids (.pointer (some ⟨g.loc id,off,none⟩)) (.ptr j off)
inductive wo (g:G) (w:World) (ids:List Nat):List Value→List D→Prop
 | nil:wo g w ids [] []
 | cons {v:Value} {d:D} {vs:List Value} {ds:List D}:uT g w ids v d→wo g w ids vs ds→wo g w ids (v :: vs) (d :: ds)
theorem uT.up {g':G} {ids nX:List Nat} {v:Value} {d:D} (h:uT g w ids v d) (k:dI g g' w w) (hp:∀ (j x:Nat),ids[j]? = some x→nX[j]? = some x):uT g' w nX v d:=by
 cases h with
 | v h=>exact .v (h.keep k.k (fun _ h=>by cases h))
 | ptr h1 h2=>rw [← k.loc _ h2];exact .ptr (hp _ _ h1) (Nat.lt_of_lt_of_le h2 k.n)
theorem wo.iP {ids:List Nat}:∀ {vs:List Value} {ds:List D},wo g w ids vs ds→bZ (g.iP ids) w vs ds []
 | _,_,.nil=>.nil
 | _,_,.cons h1 h2=>by
  refine bZ.cons (A:=[]) (B:=[]) ?_ h2.iP
  cases h1 with
  | v h=>exact .v h
  | @ptr j id off h hl =>
   have:(g.iP ids).loc j=g.loc id:=by simp only [G.iP];rw [List.getD_eq_getElem?_getD,h];rfl
   rw [← this]
   exact .ptr (by simpa [G.iP] using (List.getElem?_eq_some_iff.1 h).1)
theorem aeR {ids nX:List Nat} {x:Operand} {e e':E} {u:D} (h:MM ids x e=some (u,nX,e')):All e'.ob→All e.ob∧(∀ (j y:Nat),ids[j]? = some y→nX[j]? = some y)∧∀ g a w,aH C g e.st a w →
 ∃ g',dI g g' w w∧aH C g' e'.st a w∧uT g' w nX (a.eval x) u:=by
 intro hA
 unfold MM at h
 split at h
 ·rename_i id off hx
  have hk:∃ t,x=.tmp t∧look e.st.env t=some (.d (.ptr id off)):=by
   cases x with
   | tmp t=>exact ⟨t,rfl,hx⟩
   | _=>cases hx
  obtain ⟨t,rfl,hl⟩:=hk
  have rep:∀ g a w,aH C g e.st a w→id < g.n∧a.eval (.tmp t)=.pointer (some ⟨g.loc id,off,none⟩):=by
   intro g a w S
   have h2:aV g w (a.tmps.getD t undef) (.ptr id off) (g.TE t):=(S.env t _ hl).2.1
   show id < g.n∧a.tmps.getD t undef=_
   generalize a.tmps.getD t undef=v at h2
   generalize g.TE t=T at h2
   cases h2 with
   | ptr h=>exact ⟨h,rfl⟩
  split at h
  ·rename_i j hj
   cases h
   refine ⟨hA,fun _ _ h=>h,fun g a w S=>⟨g,dI.refl g w,S,?_⟩⟩
   obtain ⟨h1,h2⟩:=rep g a w S
   rw [h2]
   exact .ptr (vR hj) h1
  ·cases h
   refine ⟨hA,fun j y h=>?_,fun g a w S=>⟨g,dI.refl g w,S,?_⟩⟩
   ·rw [List.getElem?_append_left (List.getElem?_eq_some_iff.1 h).1];exact h
   obtain ⟨h1,h2⟩:=rep g a w S
   rw [h2]
   exact .ptr (by simp) h1
 ·split at h
  ·rename_i u e1 hv
   cases h
   obtain ⟨h0,k⟩:=val_ok (C:=C) hv hA
   refine ⟨h0,fun _ _ h=>h,fun g a w S=>?_⟩
   obtain ⟨g',kk,S',r⟩:=k g a w S
   exact ⟨g',kk,S',.v r⟩
  ·cases h
theorem Cc:∀ {xs:List Operand} {ids nX:List Nat} {e e':E} {us:List D},C9 ids xs e=some (us,nX,e')→All e'.ob→All e.ob∧(∀ (j y:Nat),ids[j]? = some y→nX[j]? = some y)∧∀ g a w,aH C g e.st a w →
 ∃ g',dI g g' w w∧aH C g' e'.st a w∧wo g' w nX (xs.map a.eval) us
 | [],ids,nX,e,e',us,h,hA=>by
  cases h
  exact ⟨hA,fun _ _ h=>h,fun g a w S=>⟨g,dI.refl g w,S,.nil⟩⟩
 | x :: xs,ids,nX,e,e',us,h,hA=>by
  simp only [C9] at h
  split at h
  ·rename_i u anI e1 h1
   split at h
   ·rename_i us2 anJ e2 h2
    cases h
    obtain ⟨a1,p1,k1⟩:=Cc h2 hA
    obtain ⟨a0,p0,k0⟩:=aeR (C:=C) h1 a1
    refine ⟨a0,fun j y h=>p1 j y (p0 j y h),fun g a w S=>?_⟩
    obtain ⟨g1,S9,S1,r1⟩:=k0 g a w S
    obtain ⟨g2,Bn,S2,r2⟩:=k1 g1 a w S1
    exact ⟨g2,S9.trans Bn,S2,.cons (r1.up Bn p1) r2⟩
   ·cases h
  ·cases h
def Ji (N:Nat) (P:Program) (o:Oper) (f:Operand) (xs:List Operand) (e:E):Option E :=
 match val f e with
 | some (u,e)=>match D5 u with
  | some (n,[])=>match C9 [] xs e with
   | some (us,ids,e)=>match yP ids,uw e.st ids with
    | true,some bs=>match hint e with
     | some (r,e)=>match hint e with
      | some (.aD hs,e)=>match Xm hs with
       | some bs'=>match Nat.beq ids.length bs'.length with
        | true=>match o.dst with
         | none=>some { need (yO P n us bs (.v r) bs') e with st:=e.st.kK ids bs' }
         | some _=>match dS N o with
          | some d=>some { need (yO P n us bs (.v r) bs') e with st:=(e.st.kK ids bs').put d (.d (.v r)) }
          | none=>none
        | false=>none
       | none=>none
      | _=>none
     | none=>none
    | _,_=>none
   | none=>none
  | _=>none
 | none=>none
def Ka (e:E):List Operand→Bool
 | []=>false
 | .tmp t :: xs=>match look e.st.env t with
  | some (.d (.ptr _ _))=>true
  | _=>Ka e xs
 | _ :: xs=>Ka e xs
theorem ach {o:Oper} {c:Call} {f:Operand} {e e':E} (ho:o.op=.call c) (hc:c.callee=.value f) (h:Ji C.N P o f c.args.toList e=some e') (hcalm:jL P o.op=false):bC P C o e e':=by
 unfold Ji at h
 split at h
 rotate_left
 ·cases h
 rename_i u0 e1 hf
 split at h
 rotate_left
 ·cases h
 rename_i n hfn
 have hfn:=Wz hfn
 subst hfn
 split at h
 rotate_left
 ·cases h
 rename_i us ids e2 hv
 split at h
 rotate_left
 ·cases h
 rename_i bs hdn hbs
 split at h
 rotate_left
 ·cases h
 rename_i r e3 vz
 split at h
 rotate_left
 ·cases h
 rename_i hs e4 BA
 split at h
 rotate_left
 ·cases h
 rename_i bs' hun
 split at h
 rotate_left
 ·cases h
 rename_i hlen
 have hlen:=Nat.eq_of_beq_eq_true hlen
 obtain ⟨a1,a2⟩:=gW vz
 obtain ⟨b1,b2⟩:=gW BA
 have cu:e4.ob=e2.ob:=by rw [b1,a1]
 have hst:e4.st=e2.st:=by rw [b2,a2]
 obtain ⟨hl,hbx⟩:=G7 hbs
 have hnd:=Cb hdn
 have main:∀ (nz:yO P n us bs (.v r) bs') (hA:All e4.ob) g a w,aH C g e.st a w→∀ (Q:Exit→Act→World→Prop) (next:Act→World→Prop),
  (∀ (v:Value) (w':World) (T:List Nat) (g2:G),aH C g2 (e2.st.kK ids bs') a w'→T.Nodup→(∀ b∈T,g2.own b=none∧¬ g2.aL b∧(C.W.heap.size≤b∨C.Fz b)∧b < w'.heap.size)→aP g2.aL w' v r T→next (a.put o.dst v) w')→o.wp P a w next Q:=by
  intro nz hA g a w S Q next hn
  obtain ⟨us',l7,hf1,hf2,hen,hcon⟩:=nz
  obtain ⟨hA1,_,kv⟩:=Cc (C:=C) hv (cu ▸ hA)
  obtain ⟨_,kf⟩:=val_ok (C:=C) hf hA1
  obtain ⟨g0,k0,S0,r0⟩:=kf g a w S
  obtain ⟨g1,k1,S1,r1⟩:=kv g0 a w S0
  have sP:a.eval f=.func (.func n) #[] #[]:=by
   obtain ⟨Tg,h1,h2⟩:=r0.WA
   cases h2
   exact h1
  have hargs:(c.args.map a.eval)=(c.args.toList.map a.eval).toArray:=by apply Array.ext';rw [Array.toList_map]
  unfold Oper.wp
  have:(execOp a.eval o).run P w=.ok (.enter n (c.args.toList.map a.eval).toArray) w:=by
   unfold execOp
   simp only [ho,resolve,hc,sP,hargs,Deferred.ofValue,Sem.run_bind,Sem.run_pure,Result.andThen_ok,invoke]
   simpa using hen _ w
  rw [this,Oper.upon_enter]
  obtain ⟨hB,hown1,hown2⟩:=S1.Xl hnd hl hbx
  refine (hcon (g1.iP ids) w _ (by rw [← hf2.length,← hl];rfl) S1.dM S1.tab (r1.iP.fit hf1) (hB.fit hf2) (fun b h ho'=>?_)).mono fun ee w' he=>?_
  ·obtain ⟨j,id,_,_,_,h4⟩:=hown1 b h ho'
   exact ⟨(S1.own b _ h4).2.1,(S1.own b _ h4).2.2⟩
  ·obtain ⟨v,T,g',rfl,hL,hR,hT,dF,hB'⟩:=he
   obtain ⟨kk,S2,hfree⟩:=S1.af3 hnd hl hlen hbx hL hB'
   exact hn v w' T _ S2 hT (fun b hb=>hfree b (dF b hb)) hR.inv
 split at h
 ·rename_i hd
  cases h
  intro hA
  obtain ⟨hA,nz⟩:=All.snoc (l:=e4.ob) hA
  have h0:=(val_ok (C:=C) hf (Cc (C:=C) hv (cu ▸ hA)).1).1
  refine ⟨h0,fun g a w S next Q hn=>main nz hA g a w S Q next fun v w' T g2 S2 hT hfree hR=>?_⟩
  rw [hd]
  refine hn g2 _ _ ?_ (fun h=>by rw [hcalm] at h;cases h)
  show aH C g2 (e4.st.kK ids bs') _ _
  rw [hst]
  exact S2
 ·split at h
  ·rename_i d hd
   cases h
   obtain ⟨hdd,hdN⟩:=fC hd
   intro hA
   obtain ⟨hA,nz⟩:=All.snoc (l:=e4.ob) hA
   have h0:=(val_ok (C:=C) hf (Cc (C:=C) hv (cu ▸ hA)).1).1
   refine ⟨h0,fun g a w S next Q hn=>main nz hA g a w S Q next fun v w' T g2 S2 hT hfree hR=>?_⟩
   rw [hdd]
   refine hn (g2.put d T fun _=>False) _ _ ?_ (fun h=>by rw [hcalm] at h;cases h)
   show aH C _ ((e4.st.kK ids bs').put d _) _ _
   rw [hst]
   exact S2.r9 (row:=none) ⟨rfl,rfl,rfl,Nat.le_refl _,fun _ _ _=>rfl⟩ (by simp) hdN hT hfree hR
  ·cases h
end
section
variable {P:Program} {C:Ctx} {g:G} {st:St} {a:Act} {w w':World}
theorem aH.setIter (S:aH C g st a w) {id:Nat} {s:ByteArray} {pos pos':Nat} (hb:st.box[id]? = some (.iter s pos)) (hh:w'.heap[g.loc id]? = some (.stringIter s pos')) (ho:w'.os=w.os) (ht:w'.tape=w.tape) (hu:w'.output=w.output) (hsz:w'.heap.size=w.heap.size)
 (hoth:∀ b,b≠g.loc id→w'.heap[b]? = w.heap[b]?):aH C g { env:=kill (jw id) st.env,box:=st.box.set id (.iter s pos') } a w':=by
 have hid:id < st.box.length:=(List.getElem?_eq_some_iff.1 hb).1
 obtain ⟨⟨hT,_⟩,hown⟩:=S.box id _ hb
 have hlo:g.own (g.loc id)=some (.inr id):=hown _ (by rw [hT];simp)
 refine S.change (fun h=>h=.inr id) S.defers S.tmps ho ht hu (Nat.le_of_eq hsz.symm) (fun _ h=>h) (fun _ h=>.inl h) (fun b hb'=>by rw [hsz];exact S.dM b hb') (by simpa using S.n) (Nat.le_refl _) (fun _ _=>rfl) ?_ (fun b h ho _=>ho) (fun t _=>⟨rfl,rfl⟩) (fun i hi=>⟨rfl,?_⟩) ?_ ?_ (fun t h=>by cases h) (fun i h=>by cases h;exact S.mr id) (fun b h ho=>.inl ⟨ho,(S.own b h ho).2.2⟩)
 ·intro b hb' h
  refine hoth b (fun e=>?_)
  subst e
  rcases h with h | ⟨h,h2,h3⟩ | ⟨h2,h3⟩
  ·exact (S.own _ _ hlo).2.2 h
  ·rw [hlo] at h2;cases h2;exact h3 rfl
  ·rcases (S.own _ _ hlo).1 with h4 | h4
   ·omega
   ·exact h3 h4
 ·rw [List.getElem?_set_ne (fun e=>hi (by rw [e]))]
 ·intro t y hy
  simp only [mQ] at hy
  refine .inl ⟨(fun e=>by cases e),?_⟩
  cases hl:look st.env t with
  | none=>rw [hl] at hy;cases hy
  | some z =>
   rw [hl] at hy
   simp only [Option.map_some,Option.some.injEq] at hy
   by_cases hdd:y=.dead
   ·exact .inr ⟨hdd,z,rfl⟩
   ·rcases X.iL (jw id) z with h | ⟨h,_⟩
    ·exact (hdd (by rw [← hy,h])).elim
    ·rw [h] at hy
     subst hy
     exact .inl ⟨rfl,X.vN (q:=.b id 0) h hdd⟩
 ·intro i b hb' hc
  cases hc
  rw [List.getElem?_set_self hid] at hb'
  cases hb'
  exact ⟨⟨hT,hh⟩,hown⟩
def Jj (P:Program) (N:Nat) (o:Oper) (t:TypeId) (x:Operand) (e:E):Option E :=
 match dS N o with
 | none=>none
 | some d=>match P.underlying t with
  | some .string=>match val x e with
   | some (.lit (.string s),e)=>some { e with st:=({ e.st with box:=e.st.box++[gH.iter s 0] }:St).put d (.d (.ptr e.st.box.length 0)) }
   | _=>none
  | _=>none
theorem aci {o:Oper} {t:TypeId} {x:Operand} {e e':E} (ho:o.op=.range t x) (h:Jj P C.N o t x e=some e'):bC P C o e e':=by
 unfold Jj at h
 split at h
 ·cases h
 rename_i d hd
 obtain ⟨hdd,hdN⟩:=fC hd
 split at h
 ·rename_i hu
  split at h
  ·rename_i s e1 hv
   cases h
   intro hA
   obtain ⟨h0,k⟩:=val_ok (C:=C) hv hA
   refine ⟨h0,fun g a w S next Q hn=>?_⟩
   obtain ⟨g1,k1,S1,r1⟩:=k g a w S
   have hx:a.eval x=.string s:=r1.jX
   refine fq (v:=.pointer (some ⟨w.heap.size,0,none⟩)) (w':=w.alloc (.stringIter s 0)) ?_ ?_
   ·unfold execOp
    simp only [ho,hx,Sem.run_bind,run_range_string w t s hu,Result.andThen_ok,Sem.run_pure]
    rfl
   ·rw [hdd]
    have S2:=S1.newObj (.stringIter s 0) (.iter s 0) fun g2 _=>⟨rfl,by show (w.heap.push _)[w.heap.size]? = _;rw [Array.getElem?_push_size]⟩
    refine hn _ _ _ (S2.iG (Calm.refl _) hdN (v:=.pointer (some ⟨w.heap.size,0,none⟩)) (D:=.ptr e1.st.box.length 0) ?_) (fun _=>Calm.alloc w _)
    have ZY:(g1.gX w.heap.size []).loc g1.n=w.heap.size:=by simp [G.gX]
    rw [← S1.n]
    have:aV (g1.gX w.heap.size []) (w.alloc (.stringIter s 0)) (.pointer (some ⟨(g1.gX w.heap.size []).loc g1.n,0,none⟩)) (.ptr g1.n 0) []:=.ptr (by simp [G.gX])
    rw [ZY] at this
    exact this
  ·cases h
 ·cases h
def JJ (N:Nat) (o:Oper) (x:Operand) (xN:Bool) (e:E):Option E :=
 match dS N o,xN with
 | some d,true=>match x with
  | .tmp t=>match look e.st.env t with
   | some (.d (.ptr id 0))=>match e.st.box[id]? with
    | some (.iter s pos)=>match hint e with
     | some (.kb true,e)=>some ({ (need (pos < s.size) e) with st:=({ env:=kill (jw id) e.st.env,box:=e.st.box.set id (.iter s (pos+(Utf8.decode s pos).2)) }:St).put d (.d (.v (.aD [.kb true,.lit (.int .i64 (pos:Int)),.lit (.int .i32 (Utf8.decode s pos).1)]))) })
     | some (.kb false,e)=>some ((need (¬ pos < s.size) e).put d (.aD [.kb false]))
     | _=>none
    | _=>none
   | _=>none
  | _=>none
 | _,_=>none
theorem ac0 {o:Oper} {x:Operand} {xN:Bool} {e e':E} (ho:o.op=.next x xN) (h:JJ C.N o x xN e=some e') (hcalm:jL P o.op=false):bC P C o e e':=by
 unfold JJ at h
 split at h
 rotate_left
 ·cases h
 rename_i d hd
 obtain ⟨hdd,hdN⟩:=fC hd
 split at h
 rotate_left
 ·cases h
 rename_i t
 split at h
 rotate_left
 ·cases h
 rename_i id hl
 split at h
 rotate_left
 ·cases h
 rename_i s pos hb
 have ptr:∀ g a w,aH C g e.st a w→a.eval (.tmp t)=.pointer (some ⟨g.loc id,0,none⟩)∧w.heap[g.loc id]? = some (.stringIter s pos):=by
  intro g a w S
  have h2:aV g w (a.tmps.getD t undef) (.ptr id 0) (g.TE t):=(S.env t _ hl).2.1
  refine ⟨?_,(S.box id _ hb).1.2⟩
  show a.tmps.getD t undef=_
  generalize a.tmps.getD t undef=v at h2
  generalize g.TE t=T at h2
  cases h2
  rfl
 split at h
 ·rename_i e1 hh
  obtain ⟨q1,q2⟩:=gW hh
  cases h
  intro hA
  obtain ⟨hA,hlt⟩:=All.snoc (l:=e1.ob) hA
  refine ⟨q1 ▸ hA,fun g a w S next Q hn=>?_⟩
  obtain ⟨hp,hg⟩:=ptr g a w S
  refine fq (v:=.tuple #[.bool true,.int .i64 pos,.int .i32 (Utf8.decode s pos).1]) (w':={ w with heap:=w.heap.setIfInBounds (g.loc id) (.stringIter s (pos+(Utf8.decode s pos).2)) }) ?_ ?_
  ·unfold execOp
   simp only [ho,hp]
   simp [Instr.next,getObj,setObj,Sem.run,hg,Result.andThen,hlt,goInt]
  ·rw [hdd]
   have hlt2:g.loc id < w.heap.size:=by
    rcases Nat.lt_or_ge (g.loc id) w.heap.size with h | h
    ·exact h
    ·rw [Array.getElem?_eq_none h] at hg;cases hg
   have S2:=S.setIter (w':={ w with heap:=w.heap.setIfInBounds (g.loc id) (.stringIter s (pos+(Utf8.decode s pos).2)) }) hb (pos':=pos+(Utf8.decode s pos).2) (by simp [hlt2]) rfl rfl rfl (by simp) (fun b hb'=>by simp only [Array.getElem?_setIfInBounds];rw [if_neg (fun e=>hb' e.symm)])
   refine hn (g.put d [] fun _=>False) _ _ ?_ (fun h=>by rw [hcalm] at h;cases h)
   show aH C _ (({ env:=kill (jw id) e1.st.env,box:=e1.st.box.set id (.iter s (pos+(Utf8.decode s pos).2)) }:St).put d _) _ _
   rw [q2]
   exact S2.iG (Calm.refl _) hdN (.v (.aD (vs:=[.bool true,.int .i64 pos,.int .i32 (Utf8.decode s pos).1]) (.cons (A:=[]) (.kb true) (.cons (A:=[]) (.lit _) (.cons (A:=[]) (.lit _) .nil)))))
 ·rename_i e1 hh
  obtain ⟨q1,q2⟩:=gW hh
  cases h
  intro hA
  obtain ⟨hA,hlt⟩:=All.snoc (l:=e1.ob) hA
  refine ⟨q1 ▸ hA,fun g a w S next Q hn=>?_⟩
  obtain ⟨hp,hg⟩:=ptr g a w S
  refine fq (v:=.tuple #[.bool false]) (w':=w) ?_ ?_
  ·unfold execOp
   simp only [ho,hp]
   simp [Instr.next,getObj,Sem.run,hg,Result.andThen,hlt]
  ·rw [hdd]
   refine hn (g.put d [] fun _=>False) _ _ ?_ (fun h=>by rw [hcalm] at h;cases h)
   show aH C _ (e1.st.put d _) _ _
   rw [q2]
   exact S.iG (Calm.refl _) hdN (.v (.aD (vs:=[.bool false]) (.cons (A:=[]) (.kb false) .nil)))
 ·cases h
end
def D7 (P:Program) (g:TypeId→V→V→Option Bool):List Field→List V→List V→Option Bool
 | [],_,_=>some true
 | f :: fs,cs,ds=>match f.name == "_" with
  | true=>none
  | false=>match kX P f.type (cs.drop f.offset),kX P f.type (ds.drop f.offset) with
   | some u,some v=>match g f.type u v with
    | some b=>match fs with
     | []=>some b
     | _ :: _=>match D7 P g fs cs ds with
      | some r=>some (b && r)
      | none=>none
    | none=>none
   | _,_=>none
def Tp:V→V→Option Bool
 | .lit (.bool a),.lit (.bool b)=>some (a == b)
 | _,_=>none
def Tq:V→V→Option Bool
 | .lit (.int k a),.lit (.int k' b)=>match k == k' with
  | true=>some (a == b)
  | false=>none
 | _,_=>none
def Tt:V→V→Option Bool
 | .lit (.string a),.lit (.string b)=>some (a == b)
 | _,_=>none
theorem aeS {u v:V} {r:Bool} (h:Tp u v=some r):∃ a b,u=.lit (.bool a)∧v=.lit (.bool b)∧r=(a == b):=by
 unfold Tp at h
 split at h
 ·exact ⟨_,_,rfl,rfl,(Option.some.inj h).symm⟩
 ·cases h
theorem aeT {u v:V} {r:Bool} (h:Tq u v=some r):∃ k a b,u=.lit (.int k a)∧v=.lit (.int k b)∧r=(a == b):=by
 unfold Tq at h
 split at h
 ·split at h
  ·rename_i hk
   exact ⟨_,_,_,rfl,by rw [eq_of_beq hk],(Option.some.inj h).symm⟩
  ·cases h
 ·cases h
theorem aeU {u v:V} {r:Bool} (h:Tt u v=some r):∃ a b,u=.lit (.string a)∧v=.lit (.string b)∧r=(a == b):=by
 unfold Tt at h
 split at h
 ·exact ⟨_,_,rfl,rfl,(Option.some.inj h).symm⟩
 ·cases h
def sS (P:Program):Nat→TypeId→V→V→Option Bool
 | 0,_,_,_=>none
 | d+1,t,u,v=>match P.underlying t with
  | some (.struct fs)=>match u,v,P.stoodInHeld t with
   | .agg cs,.agg ds,false=>D7 P (sS P d) fs.toList cs ds
   | _,_,_=>none
  | some .bool=>Tp u v
  | some (.int _)=>Tq u v
  | some .string=>Tt u v
  | _=>none
section
variable {P:Program} {C:Ctx}
theorem WB {p:aW} {w:World} {D:Nat} {g:TypeId→V→V→Option Bool} (hg:∀ t u v b,g t u v=some b→∀ x y,aP p w x u []→aP p w y v []→(Op.equalIn D t x y).run P w=.ok b w) {xs ys:List Value} {cs ds:List V} (h1:aM p w xs cs []) (h2:aM p w ys ds []) :
 ∀ {fs:List Field} {r:Bool},D7 P g fs cs ds=some r→(Op.eqFields D xs.toArray ys.toArray fs).run P w=.ok r w
 | [],r,h=>by cases h;simp [Op.eqFields]
 | f :: fs,r,h=>by
  rw [D7] at h
  split at h
  ·cases h
  rename_i hn
  have hn':f.name ≠ "_" := by simpa using hn
  split at h
  rotate_left
  ·cases h
  rename_i u v hu hv
  split at h
  rotate_left
  ·cases h
  rename_i b hb
  obtain ⟨x,hx,rx⟩:=Ip h1 hu
  obtain ⟨y,hy,ry⟩:=Ip h2 hv
  have he:=hg _ _ _ _ hb x y rx ry
  split at h
  ·cases h
   simp only [Op.eqFields,if_pos hn',Sem.run_bind,hx,hy,he,Result.andThen_ok]
   cases r<;>simp
  ·split at h
   ·rename_i r' hr
    cases h
    have ih:=WB hg h1 h2 hr
    rw [Op.eqFields]
    simp only [if_pos hn',Sem.run_bind,hx,hy,he,Result.andThen_ok]
    cases b
    ·simp
    ·simpa using ih
   ·cases h
theorem Xn {p:aW} {w:World}:∀ {d:Nat} {t:TypeId} {u v:V} {b:Bool},sS P d t u v=some b→∀ x y,aP p w x u []→aP p w y v []→∀ D,d≤D→(Op.equalIn D t x y).run P w=.ok b w
 | 0,t,u,v,b,h,_,_,_,_,_,_=>by simp [sS] at h
 | d+1,t,u,v,b,h,x,y,hx,hy,D,hD=>by
  obtain ⟨D,rfl⟩:∃ D',D=D'+1:=⟨D - 1,by omega⟩
  rw [sS] at h
  split at h
  ·rename_i fs hu
   split at h
   ·rename_i cs ds hst
    obtain ⟨xs,rfl,r1⟩:=hx.uk
    obtain ⟨ys,rfl,r2⟩:=hy.uk
    have hf:P.fieldsOf t=fs:=by simp [Program.fieldsOf,hu]
    rw [run_equalIn_struct (P:=P) w D t xs.toArray ys.toArray (by rw [hf];exact hu) hst,hf]
    exact WB (fun t u v b hb x y hx hy=>Xn hb x y hx hy D (by omega)) r1 r2 h
   ·cases h
  ·rename_i hu
   obtain ⟨a,c,rfl,rfl,rfl⟩:=aeS h
   have e1:=hx.jX
   have e2:=hy.jX
   subst e1
   subst e2
   simp only [Op.equalIn,Sem.run_bind,run_underlying hu,Result.andThen_ok,if_true,Sem.run_pure]
  ·rename_i ki hu
   obtain ⟨k,a,c,rfl,rfl,rfl⟩:=aeT h
   have e1:=hx.jX
   have e2:=hy.jX
   subst e1
   subst e2
   simp only [Op.equalIn,Sem.run_bind,run_underlying hu,Result.andThen_ok,if_true,Sem.run_pure]
  ·rename_i hu
   obtain ⟨a,c,rfl,rfl,rfl⟩:=aeU h
   have e1:=hx.jX
   have e2:=hy.jX
   subst e1
   subst e2
   simp only [Op.equalIn,Sem.run_bind,run_underlying hu,Result.andThen_ok,if_true,Sem.run_pure]
  ·cases h
theorem aeV {o:Oper} {op:BinOp} {t ty:TypeId} {x y:Operand} {cs ds:List V} {b:Bool} {v:Value} (hgd:P.eqGuardType P.depth t=false) (hb:sS P 12 t (.agg cs) (.agg ds)=some b) (hop:op=.eql∧v=.bool b∨op=.neq∧v=.bool (!b)) (ho:o.op=.binOp op t x y ty) (ρ:Operand→Value) (w:World) (p:aW) (hr:aM p w ([x,y].map ρ) [.agg cs,.agg ds] []):(execOp ρ o).run P w=.ok (.value v) w:=by
 simp only [List.map_cons,List.map_nil] at hr
 generalize hT:([]:List Nat)=T at hr
 cases hr with
 | @cons _ _ _ _ A B r1 r2 =>
  have hA:=(List.append_eq_nil_iff.1 hT.symm)
  rw [hA.1] at r1
  rw [hA.2] at r2
  generalize xQ:([]:List Nat)=T2 at r2
  cases r2 with
  | @cons _ _ _ _ A2 B2 r3 r4 =>
   have hA2:=(List.append_eq_nil_iff.1 xQ.symm)
   rw [hA2.1] at r3
   have he:=Xn hb _ _ r1 r3 Op.maxDepth (by decide)
   obtain ⟨xs,ex,_⟩:=r1.uk
   obtain ⟨ys,ey,_⟩:=r3.uk
   rw [ex,ey] at he
   have aiO:(eqGuard op t x y (.agg xs.toArray) (.agg ys.toArray)).run P w=.ok () w:=by
    unfold eqGuard
    rcases hop with ⟨rfl,_⟩ | ⟨rfl,_⟩<;>simp [Sem.run_bind,run_program,hgd]
   unfold execOp
   simp only [ho,ex,ey,Sem.run_bind,aiO,Result.andThen_ok]
   rcases hop with ⟨rfl,rfl⟩ | ⟨rfl,rfl⟩<;>simp only [binOp,Op.equal,Sem.run_bind,he,Result.andThen_ok,Sem.run_pure]
end
section
variable {P:Program} {C:Ctx}
def af4 (e:E) (x:Operand):Bool:=match x with
 | .tmp q=>match look e.st.env q with
  | some (.d (.v (.agg us)))=>!(V.agg us).bI
  | _=>false
 | _=>false
def IJ (P:Program) (o:Oper) (t:TypeId) (s:Nat) (x:Operand) (e:E):Option E :=
 match o.dst with
 | some _=>none
 | none=>match look e.st.env s with
  | some (.d (.ptr id off))=>match x with
   | .tmp q=>match look e.st.env q with
    | some (.d (.v (.agg us)))=>match e.st.box[id]? with
     | some (.cells cs)=>match V.qA (.agg us) && Nat.ble (off+us.length) cs.length && qC P t us.length with
      | true=>some { e with st:=e.st.nN id (some q) (cs.take off++dv us++cs.drop (off+(dv us).length)) }
      | false=>none
     | _=>none
    | _=>none
   | _=>none
  | _=>none
theorem abL {o:Oper} {t:TypeId} {s:Nat} {x:Operand} {e e':E} (ho:o.op=.store t (.tmp s) x) (h:IJ P o t s x e=some e'):bC P C o e e':=by
 unfold IJ at h
 split at h
 ·cases h
 rename_i hd
 split at h
 ·rename_i id off hl
  split at h
  ·rename_i q
   split at h
   ·rename_i us hq
    split at h
    ·rename_i cs hb
     split at h
     ·rename_i hc
      cases h
      simp only [Bool.and_eq_true] at hc
      obtain ⟨⟨c1,c2⟩,c3⟩:=hc
      have c2:=Nat.le_of_ble_eq_true c2
      have c3:=tY c3
      refine bC.store (src:=some q) (ds:=dv us) ho hd (fun h=>h) hl hb (by rw [yg];exact c2) (by rw [yg];exact c3) (fun _ g a w S=>?_) (fun q' e'=>by cases e';exact ⟨_,hq⟩)
      obtain ⟨_,h2,h3⟩:=S.env q _ hq
      have h2:=aV.inv (show aV g w (a.eval (.tmp q)) (.v (.agg us)) (g.TE q) from h2)
      obtain ⟨r3,r4⟩:=h2.flat c1
      exact ⟨g,g.TE q,S,r3.dv,r3.one r4,S.nV q,fun b hb'=>⟨q,rfl,h3 b hb'⟩⟩
     ·cases h
    ·cases h
   ·cases h
  ·cases h
 ·cases h
end
section
variable {P:Program} {C:Ctx}
def Hy (P:Program) (N:Nat) (o:Oper) (t:TypeId) (len:Nat) (parts:List (Nat × Operand)) (e:E):Option E :=
 match dS N o with
 | none=>none
 | some d=>match parts with
  | [(0,.tmp q)]=>match Nat.beq len 1 with
   | true=>match look e.st.env q with
    | some (.d (.v (.agg us)))=>match P.underlying t with
     | some (.slice el)=>match fK P el with
      | some sz=>match zeroV P el with
       | some _=>match V.qA (.agg us) && Nat.beq us.length sz && Nat.ble 1 sz && Nat.ble sz 16777216 with
        | true=>some { e with st:=(e.st.dH (.t q)).put d (.d (.v (.row (some el) sz [.agg us]))) }
        | false=>none
       | none=>none
      | none=>none
     | _=>none
    | _=>none
   | false=>none
  | _=>none
theorem abM {o:Oper} {t el:TypeId} {sz:Nat} {zs:List V} {x:Operand} {parts:Array (Nat × Operand)} (ho:o.op=.buildSlice t 1 parts) (hp:parts.toList=[(0,x)]) (hu:P.underlying t=some (.slice el)) (hs:fK P el=some sz) (hz:zeroV P el=some zs)
 (h1:1≤sz) (h2:sz≤16777216) (ρ:Operand→Value) (w:World) (hc:(ρ x).cells.size=sz):(execOp ρ o).run P w=.ok (.value (.slice (some ⟨w.heap.size,0,none⟩) 1 1)) (w.alloc (.cells (ρ x).cells el)):=by
 obtain ⟨it,zv,hit,hzv,_,xO⟩:=yo hz
 unfold fK at hs
 rw [hit] at hs
 have hs:it.size=sz:=Option.some.inj hs
 let xs:Array Value:=(Array.range (1*sz)).map (zv.cells[· % zv.cells.size]!)
 have hxs:xs.size=1*sz:=by simp [xs]
 obtain ⟨ys,g1,g2⟩:=Iq (size:=sz) [ρ x] 0 xs (by simp [hc]) (by rw [hxs];simp)
 have hys:ys=(ρ x).cells:=by
  apply Array.ext'
  rw [g2]
  simp only [Nat.zero_mul,List.take_zero,List.nil_append,Nat.zero_add,List.length_singleton,List.flatMap_singleton]
  rw [List.drop_of_length_le (by rw [Array.length_toList,hxs];exact Nat.le_refl _),List.append_nil]
 have hb:(Instr.buildSlice t 1 (parts.map fun (i,x)=>(i,ρ x))).run P w=.ok (.slice (some ⟨w.heap.size,0,none⟩) 1 1) (w.alloc (.cells (ρ x).cells el)):=by
  have e4:(parts.map fun (i,x)=>(i,ρ x)).toList=(List.range' 0 [ρ x].length).zip [ρ x]:=by
   rw [Array.toList_map,hp];rfl
  simp only [xs] at g1
  simp only [Instr.buildSlice,Sem.run_bind,run_underlying hu,Result.andThen_ok,sizeOf,typeInfo,run_program,hit,Sem.run_pure,hs]
  rw [if_neg (by omega),if_neg (by omega)]
  simp only [Sem.run_bind,zeroValue,typeInfo,run_program,hit,hzv,Sem.run_pure,Result.andThen_ok,e4,g1,newRow,run_newObj,World.alloc_eq]
  rw [hys]
 unfold execOp
 simp only [ho,Sem.run_bind,hb,Result.andThen_ok,Sem.run_pure]
theorem abg {o:Oper} {t:TypeId} {len:Nat} {parts:Array (Nat × Operand)} {e e':E} (ho:o.op=.buildSlice t len parts) (h:Hy P C.N o t len parts.toList e=some e'):bC P C o e e':=by
 unfold Hy at h
 split at h
 ·cases h
 rename_i d hd
 obtain ⟨hdd,hdN⟩:=fC hd
 split at h
 ·rename_i q hpl
  split at h
  ·rename_i hlen
   have hlen:=Nat.eq_of_beq_eq_true hlen
   subst hlen
   split at h
   ·rename_i us hq
    split at h
    ·rename_i el hu
     split at h
     ·rename_i sz hs
      split at h
      ·rename_i zs hz
       split at h
       ·rename_i hc
        cases h
        simp only [Bool.and_eq_true] at hc
        obtain ⟨⟨⟨c1,c2⟩,c3⟩,c4⟩:=hc
        have c2:=Nat.eq_of_beq_eq_true c2
        have c3:=Nat.le_of_ble_eq_true c3
        have c4:=Nat.le_of_ble_eq_true c4
        refine fun hA=>⟨hA,fun g a w S next Q hn=>?_⟩
        obtain ⟨v,T,T',hpv,hR,gy,dF,MF,kw,S2⟩:=S.take (r:=.t q) (u:=.agg us) (by simp only [iN,hq])
        have hx:a.eval (.tmp q)=v:=by
         show a.tmps.getD q undef=v
         rw [Array.getD_eq_getD_getElem?,show a.tmps[q]? = some v from hpv];rfl
        obtain ⟨hf1,hf2⟩:=hR.flat c1
        have hf1:aM g.aL w v.cells.toList us T:=hf1
        have hcs:(a.eval (.tmp q)).cells.size=sz:=by rw [hx,← Array.length_toList,hf1.length,c2]
        refine fq (abM ho hpl hu hs hz c3 c4 a.eval w hcs) ?_
        rw [hdd]
        have hgr:=World.grownBy_alloc w (.cells (a.eval (.tmp q)).cells el) none
        have cm:=Calm.of hgr
        have hfree:∀ b∈T,(g.dH (Root.t q).holder T').own b=none∧¬ g.aL b∧(C.W.heap.size≤b∨C.Fz b)∧b < w.heap.size:=by
         intro b hb'
         obtain ⟨o1,o2⟩:=dF b hb'
         have:=S.own b _ o1
         refine ⟨?_,this.2.2,this.1,this.2.1⟩
         simp only [G.dH]
         rw [if_pos ⟨o1,o2⟩]
        have hnew:(g.dH (Root.t q).holder T').own w.heap.size=none:=by
         simp only [G.dH]
         split
         ·rfl
         ·cases ho':g.own w.heap.size with
          | none=>rfl
          | some h'=>have:=(S.own _ _ ho').2.1;omega
        have how:=World.ownsRow_lit (base:=0) (e:=el) (size:=sz) w (a.eval (.tmp q)).cells 1 (Nat.zero_le _) (by decide) (by rw [hcs,Nat.one_mul])
        have hall:aM g.aL (w.alloc (.cells (a.eval (.tmp q)).cells el)) (a.eval (.tmp q)).cells.toList ([V.agg us].flatMap V.cells) T:=by
         rw [List.flatMap_singleton,hx]
         exact hf1.keep ⟨fun _ h=>h,fun b hb=>by rw [← hx];exact cm.same b (S.dM b hb)⟩ (fun b hb=>by rw [← hx];exact cm.same b (hfree b hb).2.2.2)
        have kL:=aP.own (p:=g.aL) (w:=w.alloc (.cells (a.eval (.tmp q)).cells el)) (es:=[V.agg us]) (A:=T) (v:=.slice (some ⟨w.heap.size,0,none⟩) 1 1) (by simp [V.cells,c2]) hall (fun u hu=>by rw [hx] at hu;exact hf1.one hf2 u hu) how
        refine hn ((g.dH (Root.t q).holder T').put d (w.heap.size :: T) fun _=>False) _ _ ?_ (fun _=>cm)
        refine S2.r9 (row:=none) hgr (by simp) hdN ?_ ?_ (show aP g.aL _ _ _ (w.heap.size :: T) from kL)
        ·refine List.nodup_cons.2 ⟨fun hb=>?_,gy⟩
         have:=(hfree _ hb).2.2.2;omega
        ·intro b hb
         rcases List.mem_cons.1 hb with rfl | hb
         ·exact ⟨hnew,fun hp'=>by have:=S.dM _ hp';omega,.inl S.size,by simp⟩
         ·have:=hfree b hb
          exact ⟨this.1,this.2.1,this.2.2.1,Nat.lt_of_lt_of_le this.2.2.2 cm.size⟩
       ·cases h
      ·cases h
     ·cases h
    ·cases h
   ·cases h
  ·cases h
 ·cases h
def Hz (P:Program) (N:Nat) (o:Oper) (ts:Array TypeId) (s x:Operand) (e:E):Option E :=
 match dS N o with
 | none=>none
 | some d=>match ts.toList with
  | [t,tx]=>match P.underlying t with
   | some (.slice el)=>match P.info? el with
    | some i=>match i.zero with
     | some z=>match Nat.beq z.cells.size i.size && Nat.ble 1 i.bytes && Nat.ble (140737488355328 / i.bytes) maxLen with
      | true=>match x with
       | .tmp q=>match look e.st.env q with
        | some (.d (.v (.row (some _) s2 es2)))=>match P.underlying tx with
         | some (.slice _)=>match Nat.beq s2 i.size && Nat.ble 1 s2 with
          | true=>match hint e with
           | some (.kb true,e1)=>match DY (e1.st.dH (.t q)) el i.size s with
            | some (r,es)=>match hint e1 with
             | some (.row (some e') s' es',e2)=>match Nat.beq e' el && Nat.beq s' i.size with
              | true=>some ({ (need (es.length+es2.length≤140737488355328 / i.bytes) (need (aZ (es++es2) es') e2)) with st:=(XI (e2.st.dH (.t q)) r).put d (.d (.v (.row (some el) i.size es'))) })
              | false=>none
             | _=>none
            | none=>none
           | _=>none
          | false=>none
         | _=>none
        | _=>none
       | _=>none
      | false=>none
     | none=>none
    | none=>none
   | _=>none
  | _=>none
theorem abh {o:Oper} {c:Call} {s x:Operand} {e e':E} (ho:o.op=.call c) (hc:c.callee=.builtin .append) (ha:c.args = #[s,x]) (h:Hz P C.N o c.argTypes s x e=some e'):bC P C o e e':=by
 unfold Hz at h
 split at h
 ·cases h
 rename_i d hd
 obtain ⟨hdd,hdN⟩:=fC hd
 split at h
 rotate_left
 ·cases h
 rename_i t tx hts
 have hts:c.argTypes = #[t,tx]:=by rw [← Array.toArray_toList (xs:=c.argTypes),hts]
 split at h
 rotate_left
 ·cases h
 rename_i el hu
 split at h
 rotate_left
 ·cases h
 rename_i i hi
 split at h
 rotate_left
 ·cases h
 rename_i z hz
 split at h
 rotate_left
 ·cases h
 rename_i hck
 simp only [Bool.and_eq_true] at hck
 obtain ⟨⟨k1,k2⟩,k3⟩:=hck
 have k1:=Nat.eq_of_beq_eq_true k1
 have k2:=Nat.le_of_ble_eq_true k2
 have k3:=Nat.le_of_ble_eq_true k3
 split at h
 rotate_left
 ·cases h
 rename_i q
 split at h
 rotate_left
 ·cases h
 rename_i et2 s2 es2 hq
 split at h
 rotate_left
 ·cases h
 rename_i ex ZZ
 split at h
 rotate_left
 ·cases h
 rename_i Yv
 rw [Bool.and_eq_true] at Yv
 have k4:=Nat.eq_of_beq_eq_true Yv.1
 subst k4
 split at h
 rotate_left
 ·cases h
 rename_i e1 vz
 obtain ⟨p1,p2⟩:=gW vz
 split at h
 rotate_left
 ·cases h
 rename_i r es hs
 split at h
 rotate_left
 ·cases h
 rename_i kR s' es' e2 hh
 split at h
 rotate_left
 ·cases h
 rename_i pX
 rw [Bool.and_eq_true] at pX
 have c1:=Nat.eq_of_beq_eq_true pX.1
 have c2:=Nat.eq_of_beq_eq_true pX.2
 subst c1
 subst c2
 cases h
 obtain ⟨q1,q2⟩:=gW hh
 intro hA
 obtain ⟨hA,hsz⟩:=All.snoc (l:=e2.ob++_) hA
 obtain ⟨hA,hfit⟩:=All.snoc (l:=e2.ob) hA
 have om:All e.ob:=by rw [← p1,← q1];exact hA
 refine ⟨om,fun g a w S next Q hn=>?_⟩
 have Yw:e2.st=e.st:=q2.trans p2
 rw [p2] at hs
 obtain ⟨y,T2,T2',hpy,hR2,Yx,aiP,anE,kw2,S1⟩:=S.take (r:=.t q) (u:=.row (some et2) i.size es2) (by simp only [iN,hq])
 have hy:a.eval (.tmp q)=y:=by
  show a.tmps.getD q undef=y
  rw [Array.getD_eq_getD_getElem?,show a.tmps[q]? = some y from hpy];rfl
 obtain ⟨news,A2,xQ,qB,hnews,agT,MN⟩:=nK hR2
 have hsrc:Src P tx i.size es2.length news (a.eval (.tmp q)) w:=by
  rw [hy]
  have Kb:=MN
  rcases MN.2 with ⟨hv,hn0⟩ | ⟨b,cap,cur,hv,_,hg,_⟩
  ·rw [hv,hn0]
   have:news=[]:=List.eq_nil_of_length_eq_zero (by rw [MN.1,hn0];simp)
   subst this
   exact Src.slice ZZ (by simp) (by simp) (by simp) (fun _=>rfl)
  ·rw [hv] at Kb ⊢
   exact Src.slice ZZ Kb.1 agT (fun j v hj=>⟨_,rfl,Kb.cells (g:=b) rfl j v hj⟩) (by simp)
 have pQ:∀ b∈T2,(g.dH (Root.t q).holder T2').own b=none∧¬ g.aL b∧(C.W.heap.size≤b∨C.Fz b)∧b < w.heap.size:=by
  intro b hb'
  obtain ⟨o1,o2⟩:=aiP b hb'
  have:=S.own b _ o1
  refine ⟨?_,this.2.2,this.1,this.2.1⟩
  simp only [G.dH]
  rw [if_pos ⟨o1,o2⟩]
 have aiQ:∀ b∈A2,b∈T2:=fun b hb=>by rw [xQ];simp [hb]
 have Yy:A2.Nodup:=by rw [xQ] at Yx;exact (List.nodup_append.1 Yx).2.1
 generalize hg1:g.dH (Root.t q).holder T2'=g1 at *
 have hp1:g1.aL=g.aL:=by rw [← hg1];rfl
 have hnews:aM g1.aL w news (es2.flatMap V.cells) A2:=by rw [hp1];exact hnews
 have pQ:∀ b∈A2,g1.own b=none∧¬ g1.aL b∧(C.W.heap.size≤b∨C.Fz b)∧b < w.heap.size:=fun b hb=>by rw [hp1];exact pQ b (aiQ b hb)
 have hb:(es.length+es2.length)*i.bytes≤140737488355328:=Nat.le_trans (Nat.mul_le_mul_right _ hsz) (Nat.div_mul_le_self _ _)
 have hm:es.length+es2.length≤maxLen:=Nat.le_trans hsz k3
 have exec:∀ v',∀ w',(Builtin.append_ c.argTypes o.type #[a.eval s,a.eval (.tmp q)]).run P w=.ok v' w'→(execOp a.eval o).run P w=.ok (.value v') w':=by
  intro v' w' hr
  unfold execOp
  simp only [ho,resolve,hc,ha,Sem.run_bind,Sem.run_pure,Result.andThen_ok,invoke,builtin,List.map_toArray,List.map_cons,List.map_nil,hr]
 rcases Wy S1 hs with ⟨rfl,rfl,hv⟩ | ⟨qq,rfl,hp⟩
 ·
  obtain ⟨v',w',hr,how,hgr,hblk⟩:=xW (P:=P) w t tx o.type kR i z i.size i.bytes hu hi hz rfl rfl k1 (.slice none 0 0) 0 [] (World.ownsRow_nil w 0 kR i.size) (a.eval (.tmp q)) es2.length news hsrc (by simpa using hm) (by simpa using hb)
  refine fq (exec v' w' (by rw [hts,hv];exact hr)) ?_
  rw [hdd]
  simp only [Nat.zero_add,List.nil_append] at how
  have uz:aZ es2 es':=by simpa using hfit
  have kL:aP g1.aL w' v' (.row (some kR) i.size es') (v'.ownBlock.toList++A2):=by
   refine aP.own (uz.sizes qB) ((hnews.keep ⟨fun _ h=>h,fun b hb=>hgr.block b (S1.dM b hb) (by simp [Value.ownBlock])⟩ (fun b hb=>hgr.block b (pQ b hb).2.2.2 (by simp [Value.ownBlock]))).fit uz.flat) hsrc.one ?_
   rw [← uz.length];exact how
  refine hn (g1.put d (v'.ownBlock.toList++A2) fun _=>False) _ _ ?_ (fun h=>by rw [ho] at h;simp [jL,hc] at h)
  show aH C _ ((e2.st.dH (.t q)).put d _) _ _
  rw [Yw]
  have hbn:∀ b,v'.ownBlock=some b→b=w.heap.size:=fun b hb'=>by
   rcases (hblk b hb').1 with h1 | h1
   ·simp [Value.ownBlock] at h1
   ·exact h1
  refine S1.r9 (row:=none) hgr (by simp) hdN ?_ ?_ kL
  ·refine List.nodup_append.2 ⟨by cases v'.ownBlock<;>simp,Yy,fun b hb1 c hc1 e=>?_⟩
   subst e
   have:=hbn b (by simpa using hb1)
   have:=(pQ b hc1).2.2.2
   omega
  ·intro b hb'
   rcases List.mem_append.1 hb' with hb' | hb'
   ·have hb':v'.ownBlock=some b:=by simpa using hb'
    have hbw:=hbn b hb'
    have h2:=(hblk b hb').2
    subst hbw
    refine ⟨?_,?_,.inl S1.size,h2⟩
    ·cases ho':g1.own w.heap.size with
     | none=>rfl
     | some h'=>have:=(S1.own _ _ ho').2.1;omega
    ·intro hp';have:=S1.dM _ hp';omega
   ·have:=pQ b hb'
    exact ⟨this.1,this.2.1,this.2.2.1,Nat.lt_of_lt_of_le this.2.2.2 hgr.size⟩
 ·
  obtain ⟨v,T,T',hpv,hR,gy,dF,MF,kw,S2⟩:=S1.take (Ht hp)
  obtain ⟨_,si,_⟩:=mW S1 hp
  have hv:v=a.eval s:=by rw [hpv] at si;exact Option.some.inj si
  subst hv
  obtain ⟨xs,A,hT,h1,h2,h3,zY⟩:=nK hR
  obtain ⟨v',w',hr,how,hgr,hblk⟩:=xW (P:=P) w t tx o.type kR i z i.size i.bytes hu hi hz rfl rfl k1 (a.eval s) es.length xs zY (a.eval (.tmp q)) es2.length news hsrc hm hb
  refine fq (exec v' w' (by rw [hts];exact hr)) ?_
  rw [hdd]
  have rJ:∀ b,g1.aL b→w'.heap[b]? = w.heap[b]?:=fun b hb'=>hgr.block b (S1.dM b hb') (fun e=>by
   have jy:b∈T:=by rw [hT,← e];simp
   exact (S1.own b _ (dF b jy).1).2.2 hb')
  have Bu:∀ b∈A,w'.heap[b]? = w.heap[b]?:=fun b hb'=>by
   have jy:b∈T:=by rw [hT];simp [hb']
   refine hgr.block b (S1.own b _ (dF b jy).1).2.1 (fun e=>?_)
   rw [hT] at gy
   exact (List.nodup_append.1 gy).2.2 b (by rw [← e];simp) b hb' rfl
  have hd2:∀ b∈A2,b∉T:=fun b hb1 hb2=>by
   have:=(dF b hb2).1
   rw [(pQ b hb1).1] at this
   cases this
  have aiR:∀ b∈A2,w'.heap[b]? = w.heap[b]?:=fun b hb'=>hgr.block b (pQ b hb').2.2.2 (fun e=>hd2 b hb' (by rw [hT,← e];simp))
  have hfl:(es++es2).flatMap V.cells=es.flatMap V.cells++es2.flatMap V.cells:=by simp
  have hall:aM g1.aL w' (xs++news) (es'.flatMap V.cells) (A++A2):=by
   refine aM.fit (ds:=(es++es2).flatMap V.cells) ?_ hfit.flat
   rw [hfl]
   exact (h2.keep ⟨fun _ h=>h,rJ⟩ Bu).app (hnews.keep ⟨fun _ h=>h,rJ⟩ aiR)
  have kL:aP g1.aL w' v' (.row (some kR) i.size es') (v'.ownBlock.toList++(A++A2)):=by
   refine aP.own (hfit.sizes (fun e he=>?_)) hall (fun u hu'=>?_) ?_
   ·rcases List.mem_append.1 he with he | he
    ·exact h1 e he
    ·exact qB e he
   ·rcases List.mem_append.1 hu' with hu' | hu'
    ·exact h3 u hu'
    ·exact hsrc.one u hu'
   ·rw [← hfit.length,List.length_append];exact how
  refine hn ((g1.dH qq.holder T').put d (v'.ownBlock.toList++(A++A2)) fun _=>False) _ _ ?_ (fun h=>by rw [ho] at h;simp [jL,hc] at h)
  show aH C _ (((e2.st.dH (.t q)).dH qq).put d _) _ _
  rw [Yw]
  have hfree:∀ b∈T,(g1.dH qq.holder T').own b=none∧¬ g1.aL b∧(C.W.heap.size≤b∨C.Fz b)∧b < w.heap.size:=by
   intro b hb'
   obtain ⟨o1,o2⟩:=dF b hb'
   have:=S1.own b _ o1
   refine ⟨?_,this.2.2,this.1,this.2.1⟩
   simp only [G.dH]
   rw [if_pos ⟨o1,o2⟩]
  have aeW:∀ b∈A2,(g1.dH qq.holder T').own b=none:=fun b hb'=>by
   simp only [G.dH]
   split
   ·rfl
   ·exact (pQ b hb').1
  have hnew:(g1.dH qq.holder T').own w.heap.size=none:=by
   simp only [G.dH]
   split
   ·rfl
   ·cases ho':g1.own w.heap.size with
    | none=>rfl
    | some h'=>have:=(S1.own _ _ ho').2.1;omega
  have xR:T=(a.eval s).ownBlock.toList++A:=hT
  have MO:=gy
  rw [xR] at MO
  refine S2.r9 (row:=(a.eval s).ownBlock) hgr (fun b hb'=>?_) hdN ?_ ?_ kL
  ·have:=hfree b (by rw [hT,hb'];simp)
   exact ⟨this.1,this.2.1,this.2.2.1⟩
  ·refine List.nodup_append.2 ⟨by cases v'.ownBlock<;>simp,List.nodup_append.2 ⟨(List.nodup_append.1 MO).2.1,Yy,fun b hb1 c hc1 e=>?_⟩,fun b hb1 c hc1 e=>?_⟩
   ·subst e
    exact hd2 b hc1 (by rw [xR];simp [hb1])
   ·subst e
    have hb1:v'.ownBlock=some b:=by simpa using hb1
    rcases (hblk b hb1).1 with h5 | h5
    ·rcases List.mem_append.1 hc1 with hc1 | hc1
     ·exact (List.nodup_append.1 MO).2.2 b (by rw [h5];simp) b hc1 rfl
     ·exact hd2 b hc1 (by rw [xR,h5];simp)
    ·rcases List.mem_append.1 hc1 with hc1 | hc1
     ·have:=(hfree b (by rw [xR];simp [hc1])).2.2.2;omega
     ·have:=(pQ b hc1).2.2.2;omega
  ·intro b hb'
   rcases List.mem_append.1 hb' with hb' | hb'
   ·have hb':v'.ownBlock=some b:=by simpa using hb'
    obtain ⟨h5,h6⟩:=hblk b hb'
    rcases h5 with h5 | h5
    ·have:=hfree b (by rw [xR,h5];simp)
     exact ⟨this.1,this.2.1,this.2.2.1,h6⟩
    ·subst h5
     exact ⟨hnew,fun hp'=>by have:=S1.dM _ hp';omega,.inl S1.size,h6⟩
   ·rcases List.mem_append.1 hb' with hb' | hb'
    ·have:=hfree b (by rw [xR];simp [hb'])
     exact ⟨this.1,this.2.1,this.2.2.1,Nat.lt_of_lt_of_le this.2.2.2 hgr.size⟩
    ·have:=pQ b hb'
     exact ⟨aeW b hb',this.2.1,this.2.2.1,Nat.lt_of_lt_of_le this.2.2.2 hgr.size⟩
end
section
variable {P:Program} {C:Ctx}
def Da (N:Nat) (o:Oper) (x:Operand) (e:E):Option E :=
 match dS N o with
 | none=>none
 | some d=>match x with
  | .tmp t=>match look e.st.env t with
   | some (.d (.v (.pt cs)))=>some (e.put d (.pt cs))
   | some (.d (.ptr i f))=>some { e with st:=e.st.put d (.d (.ptr i f)) }
   | some (.pa r sz i j)=>match (X.pa r sz i j).kill (cK d) with
    | .pa _ _ _ _=>some { e with st:=e.st.put d (.pa r sz i j) }
    | _=>none
   | _=>none
  | _=>none
theorem adV {o:Oper} {x:Operand} {e e':E} (ho:o.op=.nilCheck x) (h:Da C.N o x e=some e'):bC P C o e e':=by
 unfold Da at h
 split at h
 ·cases h
 rename_i d hd
 obtain ⟨hdd,hdN⟩:=fC hd
 split at h
 ·rename_i t
  have run:∀ {a:Act} {w:World} {q:Addr},a.eval (.tmp t)=.pointer (some q)→(execOp a.eval o).run P w=.ok (.value (.pointer (some q))) w:=by
   intro a w q hx
   unfold execOp
   simp only [ho,hx,Sem.run_pure]
  split at h
  ·rename_i cs hl
   cases h
   refine bC.vv hd id fun _ g a w S=>?_
   obtain ⟨_,h2,_⟩:=S.env t _ hl
   have h2:=aV.inv h2
   have h3:=h2.bI rfl
   rw [h3] at h2
   refine ⟨a.tmps.getD t undef,g,S,?_,h2⟩
   generalize hv:a.tmps.getD t undef=v at h2
   cases h2
   exact run hv
  ·rename_i i f hl
   cases h
   refine fun hA=>⟨hA,fun g a w S next Q hn=>?_⟩
   obtain ⟨_,h2,_⟩:=S.env t _ hl
   have h2:aV g w (a.tmps.getD t undef) (.ptr i f) (g.TE t):=h2
   have h3:=h2.bI rfl
   rw [h3] at h2
   have h2':=h2
   generalize hv:a.tmps.getD t undef=v at h2
   cases h2 with
   | ptr hid =>
    refine fq (run hv) ?_
    rw [hdd]
    rw [hv] at h2'
    exact hn _ _ _ (S.iG (Calm.refl w) hdN h2') (fun _=>Calm.refl w)
  ·rename_i r sz i j hl
   split at h
   ·rename_i hk
    cases h
    have hk:(X.pa r sz i j).kill (cK d)=.pa r sz i j:=by
     rcases X.iL (cK d) (X.pa r sz i j) with h | h
     ·rw [h] at hk;cases hk
     ·exact h.1
    refine fun hA=>⟨hA,fun g a w S next Q hn=>?_⟩
    obtain ⟨h1,⟨_,h2⟩,h3⟩:=S.env t _ hl
    obtain ⟨b,_,_,h5⟩:=h2
    refine fq (run h5) ?_
    rw [hdd,← h5]
    exact hn _ _ _ (S.uQ hdN hk (by simp) ⟨rfl,⟨b,by assumption,by assumption,h5⟩⟩ (by simp)) (fun _=>Calm.refl w)
   ·cases h
  ·cases h
 ·cases h
def JK (P:Program) (N:Nat) (o:Oper) (ts:Array TypeId) (x:Operand) (e:E):Option E :=
 match dS N o with
 | none=>none
 | some d=>match lX e.st x with
  | some (_,.nil _ _)=>match ts[0]? with
   | some t=>match P.underlying t with
    | some (.slice _)=>some (e.put d (.lit (.int .i64 0)))
    | _=>none
   | none=>none
  | _=>none
theorem ac1 {o:Oper} {c:Call} {x:Operand} {e e':E} (ho:o.op=.call c) (hc:c.callee=.builtin .len) (ha:c.args = #[x]) (h:JK P C.N o c.argTypes x e=some e'):bC P C o e e':=by
 unfold JK at h
 split at h
 ·cases h
 rename_i d hd
 split at h
 ·rename_i r el sz hp
  split at h
  ·rename_i t ht
   split at h
   ·rename_i el' hu
    cases h
    refine bC.vv hd id fun _ g a w S=>⟨.int .i64 0,g,S,?_,.lit _⟩
    obtain ⟨T,_,hr,_⟩:=mW S hp
    have hv:a.eval x=.slice none 0 0:=by generalize a.eval x=v at hr;cases hr;rfl
    unfold execOp
    simp only [ho,resolve,hc,ha,Sem.run_bind,Sem.run_pure,Result.andThen_ok,invoke,builtin,List.map_toArray,List.map_cons,List.map_nil,hv,Builtin.len_,ht,List.getElem?_toArray,List.getElem?_cons_zero,run_underlying hu,goInt]
    rfl
   ·cases h
  ·cases h
 ·cases h
def XL (v:Bool) (a b:Operand):Operand:=match v with
 | true=>a
 | false=>b
def JL (N:Nat) (o:Oper) (c a b:Operand) (e:E):Option E :=
 match c with
 | .tmp t=>match look e.st.env t with
  | some (.d (.v (.kb v)))=>match dS N o with
   | some d=>match val (XL v a b) e with
    | some (u,e)=>some (e.put d u)
    | none=>none
   | none=>none
  | _=>nP N o [c,a,b] yL e
 | _=>nP N o [c,a,b] yL e
theorem ac2 {o:Oper} {c x y:Operand} {e e':E} (ho:o.op=.pick c x y) (h:JL C.N o c x y e=some e'):bC P C o e e':=by
 have lit:∀ {c},o.op=.pick c x y→nP C.N o [c,x,y] yL e=some e'→bC P C o e e':=fun ho h=>q8 h fun vs v obs hf hA ρ w hρ=>adN ho hf ρ w hρ
 unfold JL at h
 split at h
 ·rename_i t
  split at h
  ·rename_i v hl
   split at h
   ·rename_i d hd
    split at h
    ·rename_i u e1 hv
     cases h
     intro hA
     obtain ⟨hdd,hdN⟩:=fC hd
     obtain ⟨h0,k⟩:=val_ok (C:=C) hv hA
     refine ⟨h0,fun g a w S next Q hn=>?_⟩
     obtain ⟨g1,k1,S1,r1⟩:=k g a w S
     have hc:a.eval (.tmp t)=.bool v:=aV.kb (S.env t _ hl).2.1
     refine fq (v:=a.eval (XL v x y)) (w':=w) ?_ ?_
     ·unfold execOp
      simp only [ho,hc,asBool,Sem.run_bind,Sem.run_pure,Result.andThen_ok]
      cases v<;>rfl
     ·rw [hdd]
      exact hn _ _ _ (S1.iG (Calm.refl w) hdN (.v r1)) (fun _=>Calm.refl w)
    ·cases h
   ·cases h
  ·exact lit ho h
 ·exact lit ho h
def agU (e:E) (s:Operand):Bool:=match s with
 | .tmp q=>match look e.st.env q with
  | some (.al (.iY _ _ _ _))=>true
  | _=>false
 | _=>false
def Jk (P:Program) (N:Nat) (o:Oper) (c:Call) (e:E):Option E:=match c.callee with
 | .builtin .len=>match c.args.toList with
  | [x]=>match lX e.st x with
   | some (_,.row _ _ _)=>yM P N o c.argTypes x e
   | some (_,.nil _ _)=>JK P N o c.argTypes x e
   | _=>nP N o c.args.toList (wQ P .len c.argTypes o.type) e
  | _=>none
 | .builtin .append=>match c.args.toList with
  | [s,x]=>match agU e s with
   | true=>Hu P N o c.argTypes s x e
   | false=>match Iu P N o c.argTypes s x e with
    | some e'=>some e'
    | none=>Hz P N o c.argTypes s x e
  | _=>none
 | .builtin b=>nP N o c.args.toList (wQ P b c.argTypes o.type) e
 | .value f=>match Ka e c.args.toList with
  | true=>match jL P o.op with
   | false=>Ji N P o f c.args.toList e
   | true=>none
  | false=>JI N P o f c.args.toList e
 | _=>none
def G8 (N:Nat) (o:Oper) (fn:Fn) (first captured:List Operand) (e:E):Option E :=
 match dS N o with
 | none=>none
 | some d=>match fn,first with
  | .func f,[]=>match vals captured e with
   | some (us,e)=>some (e.put d (.gq f us))
   | none=>none
  | _,_=>none
theorem aaY {o:Oper} {fn:Fn} {first captured:Array Operand} {e e':E} (ho:o.op=.makeFunc fn first captured) (h:G8 C.N o fn first.toList captured.toList e=some e'):bC P C o e e':=by
 unfold G8 at h
 split at h
 ·cases h
 rename_i d hd
 split at h
 ·rename_i f hf
  split at h
  ·rename_i us e1 hv
   cases h
   refine bC.vw hd hv rfl (fun h=>h) fun hA ρ w p hr=>?_
   refine ⟨.func (.func f) #[] (captured.map ρ),?_,?_⟩
   ·have h0:first = #[]:=by rw [← Array.toArray_toList (xs:=first),hf]
    unfold execOp
    simp only [ho,h0,Instr.makeFunc,Sem.run_bind,Sem.run_pure,Result.andThen_ok,Array.map_empty,List.map_toArray,List.map_nil]
   ·have:captured.map ρ=(captured.toList.map ρ).toArray:=by apply Array.ext';rw [Array.toList_map]
    rw [this]
    exact .gq hr
  ·cases h
 ·cases h
def p9 (P:Program) (N:Nat) (o:Oper) (e:E):Option E:=match o.op with
 | .move x=>CO P N o false x e
 | .assign x=>CO P N o true x e
 | .binOp op t x y _=>nP N o [x,y] (DX P op t x y) e
 | .unOp op _ x=>nP N o [x] (Ta P op) e
 | .pick c a b=>JL N o c a b e
 | .convert s t x=>match P.underlying s,P.underlying t with
  | some (.slice _),some .string=>J6 P N o s t x e
  | _,_=>nP N o [x] (CX P s t) e
 | .index t x i=>nP N o [x,i] (Gi P t) e
 | .slice t x lo hi none=>match P.underlying t with
  | some .string=>nP N o (x :: (lo.toList++hi.toList)) (Gj P t lo.isSome hi.isSome) e
  | some (.array _ _)=>match lo,hi with
   | none,none=>IA P N o t x e
   | _,_=>none
  | _=>J7 P N o t x lo hi e
 | .indexAddr t x i=>match P.underlying t with
  | some (.array _ _)=>Iz P N o t x i e
  | _=>I9 P N o t x i e
 | .fieldAddr s x f=>Ja P N o s x f e
 | .load t x=>match x with
  | .tmp s=>match look e.st.env s with
   | some (.d (.ptr _ _))=>match Je P N o t s e with
    | some e'=>some e'
    | none=>Jf P N o t s e
   | _=>JF P N o t x e
  | _=>none
 | .store t x y=>match x with
  | .tmp s=>match look e.st.env s with
   | some (.pa _ _ _ _)=>IG P o t s y e
   | _=>match af4 e y with
    | true=>IJ P o t s y e
    | false=>IB P o t s y e
  | _=>none
 | .box t x=>J8 P N o t x e
 | .alloc t=>Jd P N o t e
 | .field t x f=>Jb P N o t x f e
 | .extract x i=>match afZ e x i with
  | true=>G5 N o x i e
  | false=>Hr N o x i e
 | .build t parts=>Jc P N o t parts.toList e
 | .buildSlice t len parts=>match hint e with
  | some (.aD [],e1)=>Hy P N o t len parts.toList e1
  | _=>Ir P N o t len parts.toList e
 | .makeSlice t l c=>Iy P N o t l c e
 | .call c=>Jk P N o c e
 | .nilCheck x=>Da N o x e
 | .makeFunc fn first captured=>G8 N o fn first.toList captured.toList e
 | .range t x=>Jj P N o t x e
 | .next x s=>JJ N o x s e
 | _=>none
theorem MP {α:Type} {a:Array α} {x:α} (h:a.toList=[x]):a = #[x]:=by rw [← Array.toArray_toList (xs:=a),h]
theorem MQ {α:Type} {a:Array α} {x y:α} (h:a.toList=[x,y]):a = #[x,y]:=by rw [← Array.toArray_toList (xs:=a),h]
theorem acj {o:Oper} {c:Call} {e e':E} (ho:o.op=.call c) (h:Jk P C.N o c e=some e'):bC P C o e e':=by
 unfold Jk at h
 split at h
 ·rename_i hc
  split at h
  ·rename_i x hx
   split at h
   ·exact VF ho hc (MP hx) h
   ·exact ac1 ho hc (MP hx) h
   ·exact q8 h fun vs v obs hf hA ρ w hρ=>Cr ho hc hf ρ w hρ
  ·cases h
 ·rename_i hc
  split at h
  ·rename_i s x hx
   split at h
   ·exact abf ho hc (MQ hx) h
   ·split at h
    ·rename_i h1
     cases h
     exact abE ho hc (MQ hx) h1
    ·exact abh ho hc (MQ hx) h
  ·cases h
 ·rename_i b hc _ _
  exact q8 h fun vs v obs hf hA ρ w hρ=>Cr ho ‹_› hf ρ w hρ
 ·rename_i f hc
  split at h
  ·split at h
   ·exact ach ho hc h ‹_›
   ·cases h
  ·exact acZ ho hc h
 ·cases h
theorem rD {o:Oper} {e e':E} (h:p9 P C.N o e=some e'):bC P C o e e':=by
 unfold p9 at h
 split at h
 ·exact U4 (.inl ‹_›) h
 ·exact U4 (.inr ‹_›) h
 ·exact q8 h fun vs v obs hf hA ρ w hρ=>Wq ‹_› hf hA ρ w hρ
 ·exact q8 h fun vs v obs hf hA ρ w hρ=>Xg ‹_› hf ρ w hρ
 ·exact ac2 ‹_› h
 ·split at h
  ·exact adR ‹_› h
  ·exact q8 h fun vs v obs hf hA ρ w hρ=>VE ‹_› hf hA ρ w hρ
 ·exact q8 h fun vs v obs hf hA ρ w hρ=>Xh ‹_› hf hA ρ w hρ
 ·split at h
  ·exact q8 h fun vs v obs hf hA ρ w hρ=>Xi ‹_› hf hA ρ w hρ
  ·split at h
   ·exact abH ‹_› h
   ·cases h
  ·exact adS ‹_› h
 ·split at h
  ·exact abG ‹_› h
  ·exact ab8 ‹_› h
 ·exact ab9 ‹_› h
 ·split at h
  ·split at h
   ·split at h
    ·rename_i hb
     cases h
     exact ace ‹_› hb
    ·exact acf ‹_› h
   ·exact acV ‹_› h
  ·cases h
 ·split at h
  ·split at h
   ·exact abJ ‹_› h
   ·split at h
    ·exact abL ‹_› h
    ·exact abI ‹_› h
  ·cases h
 ·exact adT ‹_› h
 ·exact acd ‹_› h
 ·exact aca ‹_› h
 ·split at h
  ·exact aaX ‹_› h
  ·exact abd ‹_› h
 ·exact acb ‹_› h
 ·split at h
  ·rename_i e1 hh
   obtain ⟨q1,q2⟩:=gW hh
   have:=abg (C:=C) ‹_› h
   unfold bC at this ⊢
   rw [q1,q2] at this
   exact this
  ·exact abD ‹_› h
 ·exact abF ‹_› h
 ·exact acj ‹_› h
 ·exact adV ‹_› h
 ·exact aaY ‹_› h
 ·exact aci ‹_› h
 ·rename_i ho;exact ac0 ho h (by rw [ho];rfl)
 ·cases h
def wu (N:Nat) (o:Oper) (e:E):Option E:=match o.dst with
 | none=>some e
 | some _=>match dS N o with
  | some d=>some (e.put d (.lit undef))
  | none=>none
def vZ (ops:Array Oper) (j:Nat):Option Nat:=match ops[j]? with
 | some o=>o.dst
 | none=>none
def Ac (P:Program) (N:Nat) (ops:Array Oper) (o:Oper) (e:E):Option E:=match o.guard with
 | none=>p9 P N o e
 | some (j,want)=>match vZ ops j with
  | some d=>match look e.st.env d with
   | some (.d (.v (.kb v)))=>match v == want with
    | true=>p9 P N o e
    | false=>wu N o e
   | some (.d (.v (.lit (.bool b))))=>match hint e with
    | some (.lit (.bool v),e)=>match v == want with
     | true=>p9 P N o { need (b=v) e with st:=e.st.jN d (.d (.v (.kb v))) }
     | false=>wu N o { need (b=v) e with st:=e.st.jN d (.d (.v (.kb v))) }
    | _=>none
   | some (.d (.v (.lit (.tuple t))))=>match Nat.beq t.size 0 with
    | true=>wu N o e
    | false=>none
   | _=>none
  | none=>none
def XM:List (Nat × V)→Nat→Option V
 | [],_=>none
 | (k,v) :: l,t=>match Nat.beq t k with
  | true=>some v
  | false=>XM l t
def qI (N:Nat) (o:Oper) (e:E):E:=match e.fx with
 | []=>e
 | _ :: _=>match dS N o with
  | none=>e
  | some d=>match XM e.fx d with
   | none=>e
   | some u=>match look e.st.env d with
    | some (.d (.v x))=>{ need (Fit x u) e with st:={ e.st with env:=(d,.d (.v u)) :: e.st.env } }
    | _=>e
def iW (P:Program) (N:Nat) (ops:Array Oper):List Nat→E→Option E
 | [],e=>some e
 | i :: l,e=>match ops[i]? with
  | none=>none
  | some o=>match Ac P N ops o e with
   | none=>none
   | some e=>iW P N ops l (qI N o e)
theorem aeX (N:Nat) (o:Oper) (e:E):qI N o e=e∨∃ d x u,look e.st.env d=some (.d (.v x))∧qI N o e={ need (Fit x u) e with st:={ e.st with env:=(d,.d (.v u)) :: e.st.env } }:=by
 unfold qI
 split
 ·exact .inl rfl
 ·split
  ·exact .inl rfl
  ·split
   ·exact .inl rfl
   ·split
    ·rename_i d _ _ u _ _ x h
     exact .inr ⟨d,x,u,h,rfl⟩
    ·exact .inl rfl
theorem yC {P:Program} {C:Ctx} {o:Oper} {e:E} (hA:All (qI C.N o e).ob):All e.ob∧∀ g a w,aH C g e.st a w→aH C g (qI C.N o e).st a w:=by
 rcases aeX C.N o e with h | ⟨d,x,u,h4,h⟩
 ·rw [h] at hA ⊢;exact ⟨hA,fun _ _ _ S=>S⟩
 ·rw [h] at hA ⊢
  obtain ⟨hA1,hf⟩:=All.snoc (l:=e.ob) hA
  refine ⟨hA1,fun g a w S=>?_⟩
  obtain ⟨k1,k2,k3⟩:=S.env d _ h4
  refine S.change (fun _=>False) S.defers S.tmps rfl rfl rfl (Nat.le_refl _) (fun _ h=>h) (fun _ h=>.inl h) S.dM S.n (Nat.le_refl _) (fun _ _=>rfl) (fun _ _ _=>rfl)
   (fun b h ho _=>ho) (fun t _=>⟨rfl,rfl⟩) (fun i _=>⟨rfl,rfl⟩) (fun t y hy=>?_) (fun id b _ h=>h.elim) (fun t h=>h.elim) (fun i h=>h.elim) (fun b h ho=>.inl ⟨ho,(S.own b h ho).2.2⟩)
  simp only [look] at hy
  cases hb:Nat.beq t d with
  | true =>
   rw [hb] at hy
   cases hy
   have:=Nat.eq_of_beq_eq_true hb
   subst this
   exact .inr ⟨k1,.v ((aV.inv k2).fit hf),k3⟩
  | false =>
   rw [hb] at hy
   exact .inl ⟨fun h=>h,.inl ⟨hy,fun _ _ h=>h⟩⟩
def WOk (P:Program) (C:Ctx) (ops:Array Oper) (o:Oper) (e e':E):Prop :=
 All e'.ob→All e.ob∧∀ g a w,aH C g e.st a w→∀ (next:Act→World→Prop) (Q:Exit→Act→World→Prop),(∀ g' a' w',aH C g' e'.st a' w'→(jL P o.op=true→Calm w w')→next a' w') →
  (if Region.wanted o (yielded ops a.tmps) then o.wp P a w next Q∨(o.asks P a w∧LetsOut Q) else next (a.put o.dst undef) w)
theorem aH.known {g:G} {st:St} {a:Act} {w:World} (S:aH C g st a w) {d:Nat} {b:Bool} (h:look st.env d=some (.d (.v (.lit (.bool b))))):aH C g (st.jN d (.d (.v (.kb b)))) a w:=by
 obtain ⟨h1,h2,h3⟩:=S.env d _ h
 have hv:=aV.lit h2
 have hT:g.TE d=[]:=by
  have h2:aV g w (a.tmps.getD d undef) (.v (.lit (.bool b))) (g.TE d):=h2
  exact h2.bI rfl
 refine S.change (fun _=>False) S.defers S.tmps rfl rfl rfl (Nat.le_refl _) (fun _ h=>h) (fun _ h=>.inl h) S.dM S.n (Nat.le_refl _) (fun _ _=>rfl) (fun _ _ _=>rfl)
  (fun b h ho _=>ho) (fun t _=>⟨rfl,rfl⟩) (fun i _=>⟨rfl,rfl⟩) (fun t x hx=>?_) (fun id b _ h=>h.elim) (fun t h=>h.elim) (fun i h=>h.elim) (fun b h ho=>.inl ⟨ho,(S.own b h ho).2.2⟩)
 simp only [St.jN,look] at hx
 cases hb:Nat.beq t d with
 | true =>
  have:=Nat.eq_of_beq_eq_true hb
  subst this
  rw [hb] at hx
  cases hx
  refine .inr ⟨h1,?_,h3⟩
  rw [hv,hT]
  exact .v (.kb b)
 | false =>
  rw [hb] at hx
  simp only [GY] at hx
  cases hl:look st.env t with
  | none=>rw [hl] at hx;cases hx
  | some z =>
   rw [hl] at hx
   simp only [Option.map_some,Option.some.injEq] at hx
   rcases X.Ur (cK d) z with h | h
   ·exact .inl ⟨fun h=>h,.inr ⟨by rw [← hx,h],z,rfl⟩⟩
   ·rw [h] at hx
    subst hx
    exact .inl ⟨fun h=>h,.inl ⟨rfl,fun _ _ h=>h⟩⟩
theorem yt {ops:Array Oper} {g:G} {st:St} {a:Act} {w:World} (S:aH C g st a w) {j d:Nat} (hd:vZ ops j=some d) {x:X} (hl:look st.env d=some x) {b:Bool} (hv:a.tmps.getD d undef=.bool b):yielded ops a.tmps j=some b:=by
 obtain ⟨h1,_,_⟩:=S.env d _ hl
 have hlt:d < a.tmps.size:=by rw [S.tmps];exact h1
 have:a.tmps[d]? = some (.bool b):=by
  rw [Array.getD_eq_getD_getElem?,Array.getElem?_eq_getElem hlt] at hv
  rw [Array.getElem?_eq_getElem hlt]
  exact congrArg some hv
 unfold vZ at hd
 split at hd
 ·rename_i oj hoj
  simp [yielded,hoj,hd,this]
 ·cases hd
theorem Cu {ops:Array Oper} {o:Oper} {e e':E} (h:wu C.N o e=some e'):All e'.ob→All e.ob∧∀ g a w,aH C g e.st a w→Region.wanted o (yielded ops a.tmps)=false→∀ (next:Act→World→Prop) (Q:Exit→Act→World→Prop),(∀ g' a' w',aH C g' e'.st a' w'→(jL P o.op=true→Calm w w')→next a' w') →
 (if Region.wanted o (yielded ops a.tmps) then o.wp P a w next Q∨(o.asks P a w∧LetsOut Q) else next (a.put o.dst undef) w):=by
 intro hA
 unfold wu at h
 split at h
 ·rename_i hd
  cases h
  refine ⟨hA,fun g a w S hno next Q hn=>?_⟩
  rw [if_neg (by rw [hno];simp),hd]
  exact hn g a w S (fun _=>Calm.refl w)
 ·split at h
  ·rename_i d hd
   cases h
   obtain ⟨hdd,hdN⟩:=fC hd
   refine ⟨hA,fun g a w S hno next Q hn=>?_⟩
   rw [if_neg (by rw [hno];simp),hdd]
   exact hn _ _ _ (S.iG (Calm.refl w) hdN (.v (.lit _))) (fun _=>Calm.refl w)
  ·cases h
theorem WC {ops:Array Oper} {o:Oper} {e e':E} (h:Ac P C.N ops o e=some e'):WOk P C ops o e e':=by
 unfold Ac at h
 split at h
 ·rename_i hg
  intro hA
  obtain ⟨h0,k⟩:=rD (C:=C) h hA
  refine ⟨h0,fun g a w S next Q hn=>?_⟩
  rw [if_pos (by simp [Region.wanted,hg])]
  exact .inl (k g a w S next Q hn)
 ·rename_i j want hg
  have wt:∀ {a:Act} {v:Bool},yielded ops a.tmps j=some v→(v == want)=true→Region.wanted o (yielded ops a.tmps)=true:=by
   intro a v hy hv
   have:=eq_of_beq hv
   simp [Region.wanted,hg,hy,this]
  have wf:∀ {a:Act} {v:Bool},yielded ops a.tmps j=some v→(v == want)=false→Region.wanted o (yielded ops a.tmps)=false:=by
   intro a v hy hv
   simp only [Region.wanted,hg,hy]
   cases v<;>cases want<;>simp_all
  split at h
  ·rename_i d hd
   split at h
   ·rename_i v hl
    split at h
    ·rename_i hvw
     intro hA
     obtain ⟨h0,k⟩:=rD (C:=C) h hA
     refine ⟨h0,fun g a w S next Q hn=>?_⟩
     have hy:=yt S hd hl (aV.kb (S.env d _ hl).2.1)
     rw [if_pos (wt hy hvw)]
     exact .inl (k g a w S next Q hn)
    ·rename_i hvw
     intro hA
     obtain ⟨h0,k⟩:=Cu (P:=P) (C:=C) (ops:=ops) h hA
     refine ⟨h0,fun g a w S next Q hn=>?_⟩
     have hy:=yt S hd hl (aV.kb (S.env d _ hl).2.1)
     exact k g a w S (wf hy hvw) next Q hn
   ·rename_i b hl
    split at h
    ·rename_i v e1 hh
     obtain ⟨q1,q2⟩:=gW hh
     split at h
     ·rename_i hvw
      intro hA
      obtain ⟨hA,k⟩:=rD (C:=C) h hA
      obtain ⟨hA1,hbv⟩:=All.snoc (l:=e1.ob) hA
      subst hbv
      refine ⟨q1 ▸ hA1,fun g a w S next Q hn=>?_⟩
      have hy:=yt S hd hl (aV.lit (S.env d _ hl).2.1)
      rw [if_pos (wt hy hvw)]
      refine .inl (k g a w ?_ next Q hn)
      show aH C g (e1.st.jN d _) a w
      rw [q2]
      exact S.known hl
     ·rename_i hvw
      intro hA
      obtain ⟨hA,k⟩:=Cu (P:=P) (C:=C) (ops:=ops) h hA
      obtain ⟨hA1,hbv⟩:=All.snoc (l:=e1.ob) hA
      subst hbv
      refine ⟨q1 ▸ hA1,fun g a w S next Q hn=>?_⟩
      have hy:=yt S hd hl (aV.lit (S.env d _ hl).2.1)
      refine k g a w ?_ (wf hy hvw) next Q hn
      show aH C g (e1.st.jN d _) a w
      rw [q2]
      exact S.known hl
    ·cases h
   ·rename_i t hl
    split at h
    ·rename_i ht
     intro hA
     obtain ⟨h0,k⟩:=Cu (P:=P) (C:=C) (ops:=ops) h hA
     refine ⟨h0,fun g a w S next Q hn=>k g a w S ?_ next Q hn⟩
     have hv:=aV.lit (S.env d _ hl).2.1
     unfold vZ at hd
     split at hd
     ·rename_i oj hoj
      have:yielded ops a.tmps j=none:=by
       simp only [yielded,hoj,Option.bind_some,hd]
       obtain ⟨h1,_,_⟩:=S.env d _ hl
       have hlt:d < a.tmps.size:=by rw [S.tmps];exact h1
       rw [Array.getD_eq_getD_getElem?,Array.getElem?_eq_getElem hlt] at hv
       rw [Array.getElem?_eq_getElem hlt]
       simp only [Option.getD_some] at hv
       simp only [hv]
      simp [Region.wanted,hg,this]
     ·cases hd
    ·cases h
   ·cases h
  ·cases h
theorem VL {ops:Array Oper}:∀ {l:List Nat} {e e':E},iW P C.N ops l e=some e'→All e'.ob→All e.ob∧∀ g a w,aH C g e.st a w→∀ (Q:Exit→Act→World→Prop),(∀ g' a' w',aH C g' e'.st a' w'→Q .normal a' w')→wpOps P ops Q l a w
 | [],e,e',h,hA=>by
  cases h
  exact ⟨hA,fun g a w S Q hn=>hn g a w S⟩
 | i :: l,e,e',h,hA=>by
  simp only [iW] at h
  cases hoi:ops[i]? with
  | none=>rw [hoi] at h;cases h
  | some o =>
   rw [hoi] at h
   simp only at h
   cases h1:Ac P C.N ops o e with
   | none=>rw [h1] at h;cases h
   | some e1 =>
    rw [h1] at h
    obtain ⟨hA1,k2⟩:=VL (l:=l) h hA
    obtain ⟨hA2,k3⟩:=yC (P:=P) (C:=C) hA1
    obtain ⟨om,k1⟩:=WC (C:=C) h1 hA2
    refine ⟨om,fun g a w S Q hn=>?_⟩
    have:=k1 g a w S (wpOps P ops Q l) Q (fun g' a' w' S' _=>k2 g' a' w' (k3 g' a' w' S') Q hn)
    simp only [wpOps,hoi]
    exact this
def qJ:Option E→St
 | some e=>e.st
 | none=>default
def uU:Option E→Option (List Prop)
 | some e=>some e.ob
 | none=>none
theorem Good.Yz {Q:Exit→St→Prop} {st:St} {id N:Nat} {ops:Array Oper} {obs:List Prop} (hN:C.N=N) (hs:List V) (hA:All obs) (rw:List (Nat × Value)) (fx:List (Nat × V)) (h:uU (iW P N ops (List.range ops.size) ⟨hs,[],st,rw,fx⟩)=some obs)
 (k:Q .normal (qJ (iW P N ops (List.range ops.size) ⟨hs,[],st,rw,fx⟩))):Good P C (.region id ops false) Q st:=by
 subst hN
 intro g a w S
 cases he:iW P C.N ops (List.range ops.size) ⟨hs,[],st,rw,fx⟩ with
 | none=>rw [he] at h;cases h
 | some e' =>
  rw [he] at h k
  cases h
  obtain ⟨_,key⟩:=VL (C:=C) he hA
  exact wp_region (key g a w S _ fun g' a' w' S'=>⟨g',e'.st,S',k⟩)
theorem Good.reg {Q:Exit→St→Prop} {st:St} {id N:Nat} {ops:Array Oper} {obs:List Prop} (hN:C.N=N) (hs:List V) (hA:All obs) (rw:List (Nat × Value)) (h:uU (iW P N ops (List.range ops.size) ⟨hs,[],st,rw,[]⟩)=some obs)
 (k:Q .normal (qJ (iW P N ops (List.range ops.size) ⟨hs,[],st,rw,[]⟩))):Good P C (.region id ops false) Q st:=Good.Yz hN hs hA rw [] h k
end
def Ad:Nat→List V→List (Nat × X)
 | _,[]=>[]
 | i,u :: us=>(i,.d (.v u)) :: Ad (i+1) us
def enter (us:List V):St:={ env:=Ad 0 us,box:=[] }
theorem VM:∀ {us:List V} {k t:Nat} {x:X},look (Ad k us) t=some x→∃ u,us[t - k]? = some u∧k≤t∧x=.d (.v u)
 | [],_,_,_,h=>by simp [Ad,look] at h
 | u :: us,k,t,x,h=>by
  simp only [Ad,look] at h
  cases hb:Nat.beq t k with
  | true =>
   rw [hb] at h
   have:=Nat.eq_of_beq_eq_true hb
   subst this
   cases h
   exact ⟨u,by simp,Nat.le_refl _,rfl⟩
  | false =>
   rw [hb] at h
   obtain ⟨v,h1,h2,h3⟩:=VM h
   refine ⟨v,?_,by omega,h3⟩
   rw [show t - k=(t - (k+1))+1 by omega,List.getElem?_cons_succ]
   exact h1
def Kc (P:Program) (st:St) (q:Nat) (t:TypeId):Option (Option Root × V):=match look st.env q with
 | some (.d (.ptr id off))=>match st.box[id]? with
  | some (.cells cs)=>match uA P t (cs.drop off) with
   | some (.v u)=>some (none,u)
   | some (.d (.v u))=>match u.bI with
    | true=>some (none,u)
    | false=>none
   | some .own=>match iN st (.b id off) with
    | some u=>some (some (.b id off),u)
    | none=>none
   | _=>none
  | _=>none
 | _=>none
def MR (P:Program) (st:St) (q:Nat) (t:TypeId):Option (Option Root × V):=match look st.env q with
 | some (.d (.ptr id off))=>match Nat.beq off 0 with
  | true=>match st.box[id]? with
   | some (.cells cs)=>match rZ P t with
    | some true=>match fK P t with
     | some n=>match Nat.beq n cs.length with
      | true=>match jO cs with
       | some us=>some (some (.b id 0),.agg us)
       | none=>none
      | false=>none
     | none=>none
    | _=>none
   | _=>none
  | false=>none
 | _=>none
def MS (P:Program) (st:St) (q:Nat) (t:TypeId):Option (Option Root × V):=match Kc P st q t with
 | some x=>some x
 | none=>MR P st q t
def nY (P:Program) (st:St):List ResultVar→Option (List (Option Root × V))
 | []=>some []
 | .tmp t :: rs=>match lX st (.tmp t) with
  | some (r,u)=>match nY P st rs with
   | some l=>some ((match u.bI with | true=>none | false=>some r,u) :: l)
   | none=>none
  | none=>none
 | .cell q t :: rs=>match MS P st q t with
  | some x=>match nY P st rs with
   | some l=>some (x :: l)
   | none=>none
  | none=>none
def wy (r:Root):List (Option Root × V)→Bool
 | []=>true
 | (some q,_) :: l=>match holdB r q with
  | true=>false
  | false=>wy r l
 | (none,_) :: l=>wy r l
def mX:List (Option Root × V)→Bool
 | []=>true
 | (some r,_) :: l=>match wy r l with
  | true=>mX l
  | false=>false
 | (none,_) :: l=>mX l
def nk:List (Option Root × V)→V
 | [(_,u)]=>u
 | l=>.aD (l.map (·.2))
def fin (P:Program) (fn:Func) (r:V):Exit→St→Prop
 | .normal,st | .ret,st=>∃ l,nY P st fn.results.toList=some l∧mX l=true∧Fit (nk l) r
 | _,_=>False
section
variable {P:Program} {C:Ctx} {g:G} {st:St} {a:Act} {w:World}
def jl (tmps:Array Value):ResultVar→Sem Value
 | .tmp t=>pure (tmps.getD t undef)
 | .cell a t=>do loadVar t (← asAddr (tmps.getD a undef))
theorem G9 (fn:Func) (tmps:Array Value):results fn tmps=(do let vs ← fn.results.mapM (jl tmps);pure (if h:vs.size=1 then vs[0] else .tuple vs)):=by
 unfold results
 congr 2
theorem Ce {r:Root}:∀ {l:List (Option Root × V)},wy r l=true→∀ q u,(some q,u)∈l→r.holder≠q.holder
 | [],_,q,u,h=>by cases h
 | (some q',u') :: l,hf,q,u,h=>by
  simp only [wy] at hf
  split at hf
  ·cases hf
  ·rename_i hb
   rcases List.mem_cons.1 h with h | h
   ·cases h
    intro e
    rw [VK e] at hb;cases hb
   ·exact Ce hf q u h
 | (none,u') :: l,hf,q,u,h=>by
  rcases List.mem_cons.1 h with h | h
  ·cases h
  ·exact Ce (by simpa only [wy] using hf) q u h
theorem adW (S:aH C g st a w) {q:Nat} {t:TypeId} {ro:Option Root} {u:V} (h:Kc P st q t=some (ro,u)) :
 ∃ v T,(jl a.tmps (.cell q t)).run P w=.ok v w∧aP g.aL w v u T∧T.Nodup∧(∀ r,ro=some r→∀ b∈T,g.own b=some r.holder)∧(ro=none→T=[]):=by
 unfold Kc at h
 split at h
 ·rename_i id off hl
  split at h
  ·rename_i cs hb
   obtain ⟨_,h2,_⟩:=S.env q _ hl
   have h2:aV g w (a.tmps.getD q undef) (.ptr id off) (g.TE q):=h2
   obtain ⟨⟨cur,el,A,hT,hh,hr,h1⟩,hown⟩:=S.box id _ hb
   obtain ⟨A1,B1,gu,_,hd2⟩:=hr.cut off
   have hx:a.tmps.getD q undef=.pointer (some ⟨g.loc id,off,none⟩):=by
    generalize a.tmps.getD q undef=v at h2
    generalize g.TE q=T at h2
    cases h2
    rfl
   have hrg:w.rangeAt (g.loc id) off (cur.toList.drop off):=fun j v hj=>by
    rw [List.getElem?_drop] at hj
    simp only [World.cell?,hh]
    simpa using hj
   have exec:∀ v,(Instr.loadAt t (.pointer (some ⟨g.loc id,off,none⟩))).run P w=.ok v w→(jl a.tmps (.cell q t)).run P w=.ok v w:=fun v hv=>by
    simp only [jl,hx,asAddr,Sem.run_bind,Sem.run_pure,Result.andThen_ok]
    simpa only [Instr.loadAt,Instr.sureAddr,Sem.run_bind,Sem.run_pure,Result.andThen_ok] using hv
   cases hp:uA P t (cs.drop off) with
   | none=>rw [hp] at h;cases h
   | some pr =>
    rw [hp] at h
    unfold uA at hp
    split at hp
    ·rename_i ht
     split at hp
     ·rename_i n hn
      split at hp
      ·rename_i hle
       have hle:=Nat.le_of_ble_eq_true hle
       split at hp
       ·rename_i us qM
        split at hp
        ·rename_i hno
         cases hp
         cases h
         obtain ⟨A2,B2,_,h3,_⟩:=hd2.cut n
         rw [um qM] at h3
         have h4:=h3.jO
         have hA2:=h4.bI hno
         subst hA2
         exact ⟨_,[],exec _ (BM ht hn hrg (by rw [hd2.length];exact hle)),.agg h4,List.nodup_nil,fun r hr=>(by cases hr),fun _=>rfl⟩
        ·cases hp
       ·cases hp
      ·cases hp
     ·cases hp
    ·rename_i ht
     split at hp
     ·rename_i c cs' hcs
      have hd3:=hd2
      rw [hcs] at hd3
      generalize hys:cur.toList.drop off=ys at hd3 hrg
      cases hd3 with
      | @cons v _ vs _ A2 B2 r1 r2 =>
       have hc:=hrg 0 v rfl
       rw [Nat.add_zero] at hc
       have hrun:=exec v (GM ht hc)
       split at hp
       ·cases hp
        simp only at h
        split at h
        ·rename_i u' hu
         cases h
         obtain ⟨v',T,hpv,hR,dF,gy⟩:=vQ S hu
         refine ⟨v',T,?_,hR,gy,fun r hr=>by cases hr;exact dF,fun e=>by cases e⟩
         simp only [dW] at hpv
         split at hpv
         ·rw [hc] at hpv;cases hpv;exact hrun
         ·cases hpv
        ·cases h
       ·cases hp
       ·cases hp
       ·split at hp
        ·rename_i hno
         cases hp
         have hA2:=r1.bI hno
         subst hA2
         cases c with
         | v u' =>
          simp only at h
          split at h
          ·cases h
           exact ⟨v,[],hrun,r1.inv,List.nodup_nil,fun r hr=>(by cases hr),fun _=>rfl⟩
          ·cases h
         | _=>simp at h
        ·cases hp
     ·cases hp
    ·cases hp
  ·cases h
 ·cases h
theorem aeY (S:aH C g st a w) {q:Nat} {t:TypeId} {ro:Option Root} {u:V} (h:MR P st q t=some (ro,u)) :
 ∃ v T,(jl a.tmps (.cell q t)).run P w=.ok v w∧aP g.aL w v u T∧T.Nodup∧(∀ r,ro=some r→∀ b∈T,g.own b=some r.holder)∧(ro=none→T=[]):=by
 unfold MR at h
 split at h
 ·rename_i id off hl
  split at h
  ·rename_i hoff
   have hoff:=Nat.eq_of_beq_eq_true hoff
   subst hoff
   split at h
   ·rename_i cs hb
    split at h
    ·rename_i ht
     split at h
     ·rename_i n hn
      split at h
      ·rename_i hnl
       have hnl:=Nat.eq_of_beq_eq_true hnl
       split at h
       ·rename_i us qM
        cases h
        obtain ⟨_,h2,_⟩:=S.env q _ hl
        have h2:aV g w (a.tmps.getD q undef) (.ptr id 0) (g.TE q):=h2
        obtain ⟨⟨cur,el,A,hT,hh,hr,h1⟩,hown⟩:=S.box id _ hb
        have hx:a.tmps.getD q undef=.pointer (some ⟨g.loc id,0,none⟩):=by
         generalize a.tmps.getD q undef=v at h2
         generalize g.TE q=T at h2
         cases h2
         rfl
        have hrg:w.rangeAt (g.loc id) 0 cur.toList:=fun j v hj=>by
         simp only [World.cell?,hh]
         simpa using hj
        have hlen:=hr.length
        have hload:=BM (P:=P) ht hn hrg (by omega)
        rw [List.take_of_length_le (by omega)] at hload
        rw [um qM] at hr
        have hnd:=S.mr id
        rw [hT] at hnd
        refine ⟨_,A,?_,.agg hr.jO,(List.nodup_cons.1 hnd).2,fun r hr b hb=>?_,fun h=>by cases h⟩
        ·simp only [jl,hx,asAddr,Sem.run_bind,Sem.run_pure,Result.andThen_ok]
         simpa only [Instr.loadAt,Instr.sureAddr,Sem.run_bind,Sem.run_pure,Result.andThen_ok] using hload
        ·cases hr
         exact hown b (by rw [hT];exact List.mem_cons_of_mem _ hb)
       ·cases h
      ·cases h
     ·cases h
    ·cases h
   ·cases h
  ·cases h
 ·cases h
theorem aeZ (S:aH C g st a w) {q:Nat} {t:TypeId} {ro:Option Root} {u:V} (h:MS P st q t=some (ro,u)) :
 ∃ v T,(jl a.tmps (.cell q t)).run P w=.ok v w∧aP g.aL w v u T∧T.Nodup∧(∀ r,ro=some r→∀ b∈T,g.own b=some r.holder)∧(ro=none→T=[]):=by
 unfold MS at h
 split at h
 ·rename_i h0;cases h;exact adW S h0
 ·exact aeY S h
theorem vV (S:aH C g st a w):∀ {rs:List ResultVar} {l:List (Option Root × V)},nY P st rs=some l→mX l=true →
 ∃ vs T,(rs.mapM (jl a.tmps)).run P w=.ok vs w∧aM g.aL w vs (l.map (·.2)) T∧T.Nodup ∧
  ∀ b∈T,∃ q u,(some q,u)∈l∧g.own b=some q.holder
 | [],l,h,_=>by cases h;exact ⟨[],[],rfl,.nil,List.nodup_nil,by simp⟩
 | .cell q t :: rs,l,h,hd=>by
  simp only [nY] at h
  split at h
  ·rename_i x hx
   split at h
   ·rename_i l' hl
    cases h
    obtain ⟨ro,u⟩:=x
    obtain ⟨v,T,hv,hR,hn,hown,hnone⟩:=aeZ (P:=P) S hx
    have hmap:∀ vs,(rs.mapM (jl a.tmps)).run P w=.ok vs w→((ResultVar.cell q t :: rs).mapM (jl a.tmps)).run P w=.ok (v :: vs) w:=fun vs hvs=>by
     simp only [List.mapM_cons,Sem.run_bind,hv,Result.andThen_ok,hvs,Sem.run_pure]
    cases ro with
    | none =>
     have hT:=hnone rfl
     subst hT
     simp only [mX] at hd
     obtain ⟨vs,T',h1,h2,h3,h4⟩:=vV S hl hd
     refine ⟨v :: vs,[]++T',hmap vs h1,.cons hR h2,by simpa using h3,fun b hb=>?_⟩
     obtain ⟨q,u',h5,h6⟩:=h4 b (by simpa using hb)
     exact ⟨q,u',List.mem_cons_of_mem _ h5,h6⟩
    | some r =>
     simp only [mX] at hd
     split at hd
     ·rename_i hf
      obtain ⟨vs,T',h1,h2,h3,h4⟩:=vV S hl hd
      refine ⟨v :: vs,T++T',hmap vs h1,.cons hR h2,?_,fun b hb=>?_⟩
      ·refine List.nodup_append.2 ⟨hn,h3,fun b hb c hc e=>?_⟩
       subst e
       obtain ⟨q,u',h5,h6⟩:=h4 b hc
       have:=hown r rfl b hb
       rw [this] at h6
       exact Ce hf q u' h5 (Option.some.inj h6)
      ·rcases List.mem_append.1 hb with hb | hb
       ·exact ⟨r,u,by simp,hown r rfl b hb⟩
       ·obtain ⟨q,u',h5,h6⟩:=h4 b hb
        exact ⟨q,u',List.mem_cons_of_mem _ h5,h6⟩
     ·cases hd
   ·cases h
  ·cases h
 | .tmp t :: rs,l,h,hd=>by
  simp only [nY] at h
  split at h
  ·rename_i r u hp
   split at h
   ·rename_i l' hl
    cases h
    obtain ⟨T,_,hR,hown,hn⟩:=mW S hp
    cases hno:u.bI with
    | true =>
     rw [hno] at hd
     simp only at hd
     have hT:=hR.bI hno
     subst hT
     obtain ⟨vs,T',h1,h2,h3,h4⟩:=vV S hl hd
     refine ⟨a.tmps.getD t undef :: vs,[]++T',?_,.cons hR h2,by simpa using h3,fun b hb=>?_⟩
     ·simp only [List.mapM_cons,jl,Sem.run_bind,Sem.run_pure,Result.andThen_ok,h1]
     ·obtain ⟨q,u',h5,h6⟩:=h4 b (by simpa using hb)
      exact ⟨q,u',List.mem_cons_of_mem _ h5,h6⟩
    | false =>
     rw [hno] at hd
     simp only [mX] at hd
     split at hd
     ·rename_i hf
      obtain ⟨vs,T',h1,h2,h3,h4⟩:=vV S hl hd
      refine ⟨a.tmps.getD t undef :: vs,T++T',?_,.cons hR h2,?_,fun b hb=>?_⟩
      ·simp only [List.mapM_cons,jl,Sem.run_bind,Sem.run_pure,Result.andThen_ok,h1]
      ·refine List.nodup_append.2 ⟨hn,h3,fun b hb c hc e=>?_⟩
       subst e
       obtain ⟨q,u',h5,h6⟩:=h4 b hc
       have:=hown b hb
       rw [this] at h6
       exact Ce hf q u' h5 (Option.some.inj h6)
      ·rcases List.mem_append.1 hb with hb | hb
       ·exact ⟨r,u,by simp,hown b hb⟩
       ·obtain ⟨q,u',h5,h6⟩:=h4 b hb
        exact ⟨q,u',List.mem_cons_of_mem _ h5,h6⟩
     ·cases hd
   ·cases h
  ·cases h
end
theorem IK {P:Program} {C:Ctx} {a:Act} {fn:Func} {r:V} {g':G} {st':St} {w':World} (S':aH C g' st' a w') (hF:∀ b,¬ C.Fz b):(∃ l,nY P st' fn.results.toList=some l∧mX l=true∧Fit (nk l) r)→a.defers=[]∧∃ v,(results fn a.tmps).run P w'=.ok v w' ∧
 ∃ (v':Value) (T:List Nat) (q:aW),Ending.returned v=.returned v'∧Calm C.W w'∧(∀ b,q b→C.W.heap.size≤b∧b < w'.heap.size)∧T.Nodup∧(∀ b∈T,C.W.heap.size≤b∧b < w'.heap.size∧¬ q b)∧aP (fun b=>C.p0 b∨q b) w' v' r T:=by
 rintro ⟨l,hl,hd,hfit⟩
 obtain ⟨vs',T,h1,h2,h3,h4⟩:=vV (P:=P) S' hl hd
 refine ⟨S'.defers,?_⟩
 have hT:∀ b∈T,C.W.heap.size≤b∧b < w'.heap.size∧¬ g'.aL b:=fun b hb=>by
  obtain ⟨q,u,_,ho⟩:=h4 b hb
  obtain ⟨k1,k2,k3⟩:=S'.own b _ ho
  exact ⟨k1.resolve_right (hF b),k2,k3⟩
 have zV:∀ b,g'.aL b→C.p0 b∨(g'.aL b∧C.W.heap.size≤b):=fun b hb=>by
  rcases S'.aL b hb with h | h | h
  ·exact .inl h
  ·exact .inr ⟨hb,h⟩
  ·exact (hF _ h).elim
 have hcalm:Calm C.W w':=⟨S'.os,S'.tape,S'.output,S'.size,fun b hb=>S'.frame b hb (hF b)⟩
 have fin:∀ v,aP g'.aL w' v (nk l) T→(results fn a.tmps).run P w'=.ok v w'→∃ v,(results fn a.tmps).run P w'=.ok v w' ∧
  ∃ (v':Value) (T:List Nat) (q:aW),Ending.returned v=.returned v'∧Calm C.W w'∧(∀ b,q b→C.W.heap.size≤b∧b < w'.heap.size)∧T.Nodup∧(∀ b∈T,C.W.heap.size≤b∧b < w'.heap.size∧¬ q b)∧aP (fun b=>C.p0 b∨q b) w' v' r T:=fun v hR hrun =>
  ⟨v,hrun,v,T,fun b=>g'.aL b∧C.W.heap.size≤b,rfl,hcalm,fun b hb=>⟨hb.2,S'.dM b hb.1⟩,h3,fun b hb=>⟨(hT b hb).1,(hT b hb).2.1,fun h=>(hT b hb).2.2 h.1⟩,(hR.keep ⟨zV,fun _ _=>rfl⟩ (fun _ _=>rfl)).fit hfit⟩
 have hm:(results fn a.tmps).run P w'=.ok (if h:vs'.toArray.size=1 then vs'.toArray[0] else .tuple vs'.toArray) w':=by
  rw [G9,Sem.run_bind,Array.mapM_eq_mapM_toList,Sem.run_map,h1]
  rfl
 by_cases hsz:vs'.length=1
 ·match vs',h2,hm,hsz with
  | [v],h2,hm,_ =>
   have hll:l.length=1:=by have:=h2.length;simpa using this.symm
   match l,hll,h2,fin with
   | [(ro,u)],_,h2,fin =>
    generalize hT':T=T0 at h2 fin
    cases h2 with
    | @cons _ _ _ _ A B r1 r2 =>
     cases r2
     refine fin v (by rw [List.append_nil];exact r1) (by rw [hm];simp)
 ·refine fin (.tuple vs'.toArray) ?_ (by rw [hm];simp [hsz])
  have hll:l.length≠1:=by have:=h2.length;simp at this;omega
  have:nk l=.aD (l.map (·.2)):=by
   unfold nk
   split
   ·simp at hll
   ·rfl
  rw [this]
  exact .aD h2
theorem U7 {us:List V} {p:aW} {w:World} {vs:List Value} (N:Nat) (hN:us.length≤N) (hp:∀ b,p b→b < w.heap.size) (htab:gp.t p w) (hr:aM p w vs us []) :
 aH { W:=w,p0:=p,Fz:=fun _=>False,N:=N } { aL:=p,own:=fun _=>none,n:=0,loc:=fun _=>0,TE:=fun _=>[],TB:=fun _=>[] } (enter us) { tmps:=vs.toArray++Array.replicate (N - vs.toArray.size) undef,defers:=[] } w:=by
 have hvl:vs.length=us.length:=hr.length
 refine ⟨rfl,?_,rfl,rfl,rfl,Nat.le_refl _,fun _ _ _=>rfl,fun b hb=>.inl hb,hp,rfl,?_,fun _=>List.nodup_nil,fun id b hb=>?_,fun _=>List.nodup_nil,fun b h ho=>?_,fun i l h=>(by simp at h),htab⟩
 ·simp [hvl];omega
 ·intro t x hx
  obtain ⟨u,h1,_,rfl⟩:=VM hx
  rw [Nat.sub_zero] at h1
  obtain ⟨v,A,h2,h3,h4⟩:=hr.get h1
  have hA:A=[]:=List.eq_nil_iff_forall_not_mem.2 fun b hb=>by cases h4 b hb
  subst hA
  have htl:t < vs.length:=by
   rcases Nat.lt_or_ge t vs.length with h | h
   ·exact h
   ·rw [List.getElem?_eq_none h] at h2;cases h2
  refine ⟨?_,?_,fun b hb=>by cases hb⟩
  ·show t < N;omega
  ·have e:({ tmps:=vs.toArray++Array.replicate (N - vs.toArray.size) undef,defers:=[] }:Act).tmps.getD t undef=v:=by
    rw [Array.getD_eq_getD_getElem?,Array.getElem?_append_left (by simpa using htl)]
    simp [h2]
   show aV _ w _ (.v u) []
   rw [e]
   exact .v h3
 ·simp [enter] at hb
 ·cases ho
theorem GQ {P:Program} {f:FuncId} {fn:Func} {c:Code} {us:List V} {r:V} (hf:P.funcs[f]? = some fn) (hb:fn.body=some c) (hname:(fn.name == "runtime.NumGoroutine")=false) (hN:Nat.ble us.length fn.ntmps=true)
 (h:∀ C:Ctx,C.N=fn.ntmps→C.L.length=0→Good P C c (fin P fn r) (enter us)):aQ P f us r:=by
 refine ⟨fun vs w=>by
  have h1:fn.name ≠ "runtime.NumGoroutine" := by simpa using hname
  simp [callFunc,hf,h1,hb],fun p w vs hp htab hr=>?_⟩
 have hN:=Nat.le_of_ble_eq_true hN
 have S:=U7 fn.ntmps hN hp htab hr
 refine calls_of_wp hf hb (wp_mono (h _ rfl rfl _ _ w S) fun e a w' ⟨g',st',S',hq⟩=>?_)
 cases e with
 | normal=>exact IK S' (fun _ h=>h) hq
 | ret=>exact IK S' (fun _ h=>h) hq
 | _=>exact hq.elim
def wV (P:Program) (fn:Func) (st:St):Option V:=match nY P st fn.results.toList with
 | some l=>match mX l with
  | true=>some (nk l)
  | false=>none
 | none=>none
theorem jY {P:Program} {fn:Func} {st:St} {u r:V} (hf:Fit u r) (h:wV P fn st=some u):∃ l,nY P st fn.results.toList=some l∧mX l=true∧Fit (nk l) r:=by
 unfold wV at h
 split at h
 ·rename_i l hl
  split at h
  ·rename_i hd
   cases h
   exact ⟨l,hl,hd,hf⟩
  ·cases h
 ·cases h
theorem Good.done {P:Program} {C:Ctx} {fn:Func} {st:St} {r:V} (h:wV P fn st=some r):Good P C .ret (fin P fn r) st:=Good.ret (jY (.refl r) h)
theorem fin.done {P:Program} {fn:Func} {st:St} {r:V} (h:wV P fn st=some r):fin P fn r .normal st:=jY (.refl r) h
theorem fin.pV {P:Program} {fn:Func} {st:St} {r:V} (h:wV P fn st=some r):fin P fn r .ret st:=jY (.refl r) h
def co (m:Nat) (x:X):Option X:=match m with
 | 0=>some x
 | 1=>match x with
  | .d (.v (.nil e sz))=>some (.d (.v (.row (some e) sz [])))
  | _=>none
 | 2=>match x with
  | .d (.v (.nil _ sz))=>some (.d (.v (.row none sz [])))
  | _=>none
 | 4=>match x with
  | .d (.v (.kb b))=>some (.d (.v (.lit (.bool b))))
  | _=>none
 | _=>none
def rM (l:List (Nat × X)):List (Nat × Nat)→Option (List (Nat × X))
 | []=>some []
 | (t,m) :: ks=>match look l t with
  | some x=>match co m x with
   | some y=>match rM l ks with
    | some r=>some ((t,y) :: r)
    | none=>none
   | none=>none
  | none=>none
def Wk (C:Ctx) (st st':St):Prop:=∀ g a w,aH C g st a w→∃ g',aH C g' st' a w
theorem UK {l:List (Nat × X)}:∀ {ks:List (Nat × Nat)} {r:List (Nat × X)} {t:Nat} {y:X},rM l ks=some r→look r t=some y→∃ m x,look l t=some x∧co m x=some y
 | [],r,t,y,h,hy=>by cases h;simp [look] at hy
 | (s,m) :: ks,r,t,y,h,hy=>by
  simp only [rM] at h
  split at h
  ·rename_i x hx
   split at h
   ·rename_i z hz
    split at h
    ·rename_i r' hr
     cases h
     simp only [look] at hy
     cases hb:Nat.beq t s with
     | true =>
      rw [hb] at hy
      cases hy
      have:=Nat.eq_of_beq_eq_true hb
      subst this
      exact ⟨m,x,hx,hz⟩
     | false =>
      rw [hb] at hy
      exact UK hr hy
    ·cases h
   ·cases h
  ·cases h
theorem Wk.of {C:Ctx} (ks:List (Nat × Nat)) {st:St} {env:List (Nat × X)} {box:List gH} (h:rM st.env ks=some env) (hb:st.box=box):Wk C st ⟨env,box⟩:=by
 subst hb
 intro g a w S
 refine ⟨g,S.change (fun _=>False) S.defers S.tmps rfl rfl rfl (Nat.le_refl _) (fun _ h=>h) (fun _ h=>.inl h) S.dM S.n (Nat.le_refl _) (fun _ _=>rfl) (fun _ _ _=>rfl)
  (fun b h ho _=>ho) (fun t _=>⟨rfl,rfl⟩) (fun i _=>⟨rfl,rfl⟩) (fun t y hy=>?_) (fun id b _ h=>h.elim) (fun t h=>h.elim) (fun i h=>h.elim) (fun b h ho=>.inl ⟨ho,(S.own b h ho).2.2⟩)⟩
 obtain ⟨m,x,hx,hc⟩:=UK h hy
 have same:x=y→(¬ False∧(look st.env t=some y∧(∀ h,y.fV=some h→¬ False)∨y=.dead∧∃ y,look st.env t=some y))∨(t < C.N∧jM g a w (a.tmps.getD t undef) y (g.TE t)∧(∀ b∈g.TE t,g.own b=some (.inl t))):=fun e=>by
  subst e
  exact .inl ⟨fun h=>h,.inl ⟨hx,fun _ _ h=>h⟩⟩
 unfold co at hc
 split at hc
 ·exact same (Option.some.inj hc)
 ·split at hc
  ·cases hc
   obtain ⟨h1,h2,h3⟩:=S.env t _ hx
   exact .inr ⟨h1,.v ((aV.inv h2).fit (.iA _ _)),h3⟩
  ·cases hc
 ·split at hc
  ·cases hc
   obtain ⟨h1,h2,h3⟩:=S.env t _ hx
   exact .inr ⟨h1,.v ((aV.inv h2).fit (.jf _ _ _)),h3⟩
  ·cases hc
 ·split at hc
  ·cases hc
   obtain ⟨h1,h2,h3⟩:=S.env t _ hx
   have hv:=aV.kb h2
   have hT:g.TE t=[]:=(aV.inv h2).bI rfl
   refine .inr ⟨h1,?_,h3⟩
   rw [hv,hT]
   exact .v (.lit _)
  ·cases hc
 ·cases hc
section
variable {P:Program} {C:Ctx} {Q:Exit→St→Prop} {st st':St}
theorem Wk.good {c:Code} (W:Wk C st st') (h:Good P C c Q st'):Good P C c Q st:=fun g a w S=>let ⟨g',S'⟩:=W g a w S;h g' a w S'
theorem Wk.sh (t:Nat) {d u:D} (ht:look st.env t=some (.d d)) (hu:d.shr=u) (h:Wk C (st.jN t (.d u)) st'):Wk C st st':=fun g a w S=>by
 subst hu
 exact h _ a w (S.jI ht).2
end
theorem ax {α:Type} {p:Prop} [Decidable p] {x:Option α} {r:α} (h:(if p then x else none)=some r):p∧x=some r:=by
 by_cases c:p
 ·rw [if_pos c] at h;exact ⟨c,h⟩
 ·rw [if_neg c] at h;cases h
theorem aj {α:Type} {p:Prop} [Decidable p] {x y r:α} (h:(if p then x else y)=r):(p∧x=r)∨(¬ p∧y=r):=by
 by_cases c:p
 ·rw [if_pos c] at h;exact .inl ⟨c,h⟩
 ·rw [if_neg c] at h;exact .inr ⟨c,h⟩
theorem aC {α β:Type} {x:Option α} {f:α→Option β} {r:β} (h:x.bind f=some r):∃ t,x=some t∧f t=some r:=Option.bind_eq_some_iff.1 h
end
end Go.Rf
