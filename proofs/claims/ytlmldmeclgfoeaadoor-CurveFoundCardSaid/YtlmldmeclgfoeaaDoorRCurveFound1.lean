import Derived.Test.YtlmldmeclgfoeaaDoorRCurveFound0
set_option linter.unusedSectionVars false
set_option linter.unusedSimpArgs false
set_option linter.unusedVariables false
namespace Go.Rf
open Go.RowKit
section
variable [Tabs]
def appS (st:St) (el sz:Nat):Operand→Option (Option Root × List V)
 | .const (.slice none 0 0)=>some (none,[])
 | x=>match peek st x with
  | some (r,.row (some e) s es)=>match Nat.beq e el && Nat.beq s sz with
   | true=>some (some r,es)
   | false=>none
  | some (_,.nil _ _)=>some (none,[])
  | _=>none
def appX1 (P:Program) (tx sz:Nat) (x:Operand) (e:E):Option (List V × E) :=
 match peek e.st x with
 | some (_,.row (some _) s es)=>match P.underlying tx with
  | some (.slice _)=>match V.noOwn.go es && Nat.beq s sz && allFlat s es with
   | true=>some (es,e)
   | false=>none
  | _=>none
 | _=>none
def appX2 (P:Program) (tx sz:Nat) (x:Operand) (e:E):Option (List V × E):=match val x e with
 | some (.row none s es,e)=>match P.underlying tx with
  | some (.slice _)=>match Nat.beq s sz && Nat.ble 1 s with
   | true=>some (es,e)
   | false=>none
  | _=>none
 | some (.nil _ _,e)=>match P.underlying tx with
  | some (.slice _)=>some ([],e)
  | _=>none
 | some (.lit (.string b),e)=>match P.underlying tx with
  | some .string=>match Nat.beq sz 1 with
   | true=>some (bytesV b,e)
   | false=>none
  | _=>none
 | _=>none
def appX (P:Program) (tx sz:Nat) (x:Operand) (e:E):Option (List V × E):=match hint e with
 | some (.kb true,e)=>appX1 P tx sz x e
 | some (.kb false,e)=>appX2 P tx sz x e
 | _=>none
def wipeO (st:St):Option Root→St
 | none=>st
 | some r=>st.wipe r
section
variable {P:Program} {C:Ctx}
def evAppend (P:Program) (N:Nat) (o:Oper) (ts:Array TypeId) (s x:Operand) (e:E):Option E :=
 match dstOf N o with
 | none=>none
 | some d=>match ts.toList with
  | [t,tx]=>match P.underlying t with
   | some (.slice el)=>match P.info? el with
    | some i=>match i.zero with
     | some z=>match Nat.beq z.cells.size i.size && Nat.ble 1 i.bytes && Nat.ble (140737488355328 / i.bytes) maxLen with
      | true=>match appX P tx i.size x e with
       | some (es2,e)=>match appS e.st el i.size s with
        | some (r,es)=>match hint e with
         | some (.row (some e') s' es',e)=>match Nat.beq e' el && Nat.beq s' i.size with
          | true=>some ({ (need (es.length+es2.length≤140737488355328 / i.bytes) (need (FitL (es++es2) es') e)) with st:=(wipeO e.st r).put d (.d (.v (.row (some el) i.size es'))) })
          | false=>none
         | _=>none
        | none=>none
       | none=>none
      | false=>none
     | none=>none
    | none=>none
   | _=>none
  | _=>none
theorem flat_noOwn:∀ {es:List V},V.noOwn.go es=true→V.noOwn.go (es.flatMap V.cells)=true
 | [],_=>rfl
 | e :: es,h=>by
  simp only [V.noOwn.go] at h
  cases he:e.noOwn with
  | false=>rw [he] at h;cases h
  | true =>
   rw [he] at h
   have ih:=flat_noOwn h
   simp only [List.flatMap_cons]
   have app:∀ {a b:List V},V.noOwn.go a=true→V.noOwn.go b=true→V.noOwn.go (a++b)=true:=by
    intro a b ha hb
    induction a with
    | nil=>exact hb
    | cons c a ih =>
     simp only [V.noOwn.go] at ha
     cases hc:c.noOwn with
     | false=>rw [hc] at ha;cases ha
     | true=>rw [hc] at ha;simp only [List.cons_append,V.noOwn.go,hc];exact ih ha
   refine app ?_ ih
   cases e with
   | agg cs=>simpa [V.cells,V.noOwn] using he
   | _=>simp only [V.cells,V.noOwn.go,he]
theorem appX1_ok {tx sz:Nat} {x:Operand} {e e':E} {es:List V} (h:appX1 P tx sz x e=some (es,e')):All e'.ob→All e.ob∧∀ g a w,SRep C g e.st a w →
 ∃ g' news,KeepsG g g' w w∧SRep C g' e'.st a w∧Src P tx sz es.length news (a.eval x) w∧RepL g'.pub w news (es.flatMap V.cells) []∧(∀ e∈es,e.cells.length=sz):=by
 intro hob
 unfold appX1 at h
 split at h
 ·rename_i r et s es' hp
  split at h
  ·rename_i ex hu
   split at h
   ·rename_i hc
    cases h
    simp only [Bool.and_eq_true] at hc
    obtain ⟨⟨c1,c2⟩,c3⟩:=hc
    have c2:=Nat.eq_of_beq_eq_true c2
    subst c2
    refine ⟨hob,fun g a w S=>?_⟩
    obtain ⟨T,_,hr,_⟩:=peek_ok S hp
    obtain ⟨xs,A,hT,h1,h2,h3,h4⟩:=own_inv hr
    have hA:A=[]:=h2.noOwn (flat_noOwn c1)
    subst hA
    refine ⟨g,xs,KeepsG.refl g w,S,?_,h2,h1⟩
    have h4':=h4
    rcases h4.2 with ⟨hv,hn⟩ | ⟨b,cap,cur,hv,_,hg,_⟩
    ·rw [hv,hn]
     have:xs=[]:=List.eq_nil_of_length_eq_zero (by rw [h4.1,hn];simp)
     subst this
     exact Src.slice hu (by simp) (by simp) (by simp) (fun _=>rfl)
    ·rw [hv] at h4' ⊢
     exact Src.slice hu h4'.1 h3 (fun j v hj=>⟨_,rfl,h4'.cells (g:=b) rfl j v hj⟩) (by simp)
   ·cases h
  ·cases h
 ·cases h
theorem appX2_ok {tx sz:Nat} {x:Operand} {e e':E} {es:List V} (h:appX2 P tx sz x e=some (es,e')):All e'.ob→All e.ob∧∀ g a w,SRep C g e.st a w →
 ∃ g' news,KeepsG g g' w w∧SRep C g' e'.st a w∧Src P tx sz es.length news (a.eval x) w∧RepL g'.pub w news (es.flatMap V.cells) []∧(∀ e∈es,e.cells.length=sz):=by
 intro hob
 unfold appX2 at h
 split at h
 ·rename_i s es' e1 hv
  split at h
  ·rename_i ex hu
   split at h
   ·rename_i hc
    rw [Bool.and_eq_true] at hc
    have hz1:=Nat.le_of_ble_eq_true hc.2
    have hc:=Nat.eq_of_beq_eq_true hc.1
    subst hc
    cases h
    obtain ⟨h0,k⟩:=val_ok (C:=C) hv hob
    refine ⟨h0,fun g a w S=>?_⟩
    obtain ⟨g',kk,S',r⟩:=k g a w S
    obtain ⟨ao,cap,xs,⟨hx,hxc⟩,h1,h2,h3,h4⟩:=shared_inv r
    refine ⟨g',xs,kk,S',?_,h2,h1⟩
    rw [hx]
    have hl:xs.length=es.length*s:=by rw [h2.length,flat_len h1]
    ·have hz:s≠0:=by omega
     refine Src.slice hu hl h3 (fun j v hj=>?_) (fun hn=>?_)
     ·obtain ⟨b,o,e,_,hc⟩:=h4 j v hj
      exact ⟨⟨b,o,none⟩,e,by rw [Addr.add_mid];exact hc⟩
     ·rcases Nat.eq_zero_or_pos es.length with h | h
      ·exact h
      ·have h0:0 < xs.length:=by rw [hl];exact Nat.mul_pos h (Nat.pos_of_ne_zero hz)
       obtain ⟨b,o,e,_⟩:=h4 0 _ (List.getElem?_eq_getElem h0)
       rw [hn] at e;cases e
   ·cases h
  ·cases h
 ·rename_i a1 a2 e1 hv
  split at h
  ·rename_i ex hu
   cases h
   obtain ⟨h0,k⟩:=val_ok (C:=C) hv hob
   refine ⟨h0,fun g a w S=>?_⟩
   obtain ⟨g',kk,S',r⟩:=k g a w S
   refine ⟨g',[],kk,S',?_,.nil,by simp⟩
   generalize a.eval x=v at r ⊢
   cases r
   exact Src.slice hu (by simp) (by simp) (by simp) (fun _=>rfl)
  ·cases h
 ·rename_i b e1 hv
  split at h
  ·rename_i hu
   split at h
   ·rename_i hc
    have hc:=Nat.eq_of_beq_eq_true hc
    subst hc
    cases h
    obtain ⟨h0,k⟩:=val_ok (C:=C) hv hob
    refine ⟨h0,fun g a w S=>?_⟩
    obtain ⟨g',kk,S',r⟩:=k g a w S
    have hx:=r.lit_inv
    rw [hx]
    have hl:(bytesV b).length=b.size:=by rw [bytesV,List.length_map,Array.length_toList];rfl
    have hf:(bytesV b).flatMap V.cells=bytesV b:=by
     unfold bytesV
     generalize b.data.toList=l
     induction l with
     | nil=>rfl
     | cons c l ih=>simp only [List.map_cons,List.flatMap_cons,ih];rfl
    refine ⟨g',bytesC b,kk,S',?_,?_,?_⟩
    ·rw [hl];exact Src.string hu b
    ·rw [hf];exact bytes_rep _ _ b
    ·intro u hu
     simp only [bytesV,List.mem_map] at hu
     obtain ⟨c,_,rfl⟩:=hu
     rfl
   ·cases h
  ·cases h
 ·cases h
theorem appX_ok {tx sz:Nat} {x:Operand} {e e':E} {es:List V} (h:appX P tx sz x e=some (es,e')):All e'.ob→All e.ob∧∀ g a w,SRep C g e.st a w →
 ∃ g' news,KeepsG g g' w w∧SRep C g' e'.st a w∧Src P tx sz es.length news (a.eval x) w∧RepL g'.pub w news (es.flatMap V.cells) []∧(∀ e∈es,e.cells.length=sz):=by
 unfold appX at h
 split at h
 ·rename_i e1 hh
  obtain ⟨q1,q2⟩:=hint_eq hh
  intro hA
  have:=appX1_ok (C:=C) h hA
  rw [q1,q2] at this
  exact this
 ·rename_i e1 hh
  obtain ⟨q1,q2⟩:=hint_eq hh
  intro hA
  have:=appX2_ok (C:=C) h hA
  rw [q1,q2] at this
  exact this
 ·cases h
theorem peek_root {st:St} {x:Operand} {r:Root} {u:V} (h:peek st x=some (r,u)):rootVal st r=some u:=by
 unfold peek at h
 split at h
 ·split at h
  ·split at h
   ·rename_i hq;cases h;exact hq
   ·cases h
  ·rename_i hq;cases h;simp [rootVal,hq]
  ·cases h
 ·cases h
theorem appS_ok {g:G} {st:St} {a:Act} {w:World} (S:SRep C g st a w) {el sz:Nat} {s:Operand} {r:Option Root} {es:List V} (h:appS st el sz s=some (r,es)) :
 (r=none∧es=[]∧a.eval s=.slice none 0 0)∨∃ q,r=some q∧peek st s=some (q,.row (some el) sz es):=by
 unfold appS at h
 split at h
 ·cases h;exact .inl ⟨rfl,rfl,rfl⟩
 ·split at h
  ·rename_i q e s' es' hp
   split at h
   ·rename_i hc
    cases h
    rw [Bool.and_eq_true] at hc
    have h1:=Nat.eq_of_beq_eq_true hc.1
    have h2:=Nat.eq_of_beq_eq_true hc.2
    subst h1
    subst h2
    exact .inr ⟨_,rfl,hp⟩
   ·cases h
  ·rename_i q e' s' hp
   cases h
   obtain ⟨T,_,hr,_⟩:=peek_ok S hp
   generalize a.eval s=v at hr ⊢
   cases hr
   exact .inl ⟨rfl,rfl,rfl⟩
  ·cases h
theorem evAppend_ok {o:Oper} {c:Call} {s x:Operand} {e e':E} (ho:o.op=.call c) (hc:c.callee=.builtin .append) (ha:c.args = #[s,x]) (h:evAppend P C.N o c.argTypes s x e=some e'):OpOk P C o e e':=by
 unfold evAppend at h
 split at h
 ·cases h
 rename_i d hd
 obtain ⟨hdd,hdN⟩:=dstOf_eq hd
 split at h
 ·rename_i t tx hts
  have hts:c.argTypes = #[t,tx]:=by
   rw [← Array.toArray_toList (xs:=c.argTypes),hts]
  split at h
  ·rename_i el hu
   split at h
   ·rename_i i hi
    split at h
    ·rename_i z hz
     split at h
     ·rename_i hck
      simp only [Bool.and_eq_true] at hck
      obtain ⟨⟨k1,k2⟩,k3⟩:=hck
      have k1:=Nat.eq_of_beq_eq_true k1
      have k2:=Nat.le_of_ble_eq_true k2
      have k3:=Nat.le_of_ble_eq_true k3
      split at h
      ·rename_i es2 e1 hx
       split at h
       ·rename_i r es hs
        split at h
        ·rename_i e'' s' es' e2 hh
         split at h
         ·rename_i hck2
          rw [Bool.and_eq_true] at hck2
          have c1:=Nat.eq_of_beq_eq_true hck2.1
          have c2:=Nat.eq_of_beq_eq_true hck2.2
          subst c1
          subst c2
          cases h
          obtain ⟨q1,q2⟩:=hint_eq hh
          intro hA
          obtain ⟨hA,hsz⟩:=All.snoc (l:=e2.ob++_) hA
          obtain ⟨hA,hfit⟩:=All.snoc (l:=e2.ob) hA
          obtain ⟨h0,kx⟩:=appX_ok (C:=C) hx (q1 ▸ hA)
          refine ⟨h0,fun g a w S next Q hn=>?_⟩
          obtain ⟨g1,news,kk,S1,hsrc,hnews,hsize2⟩:=kx g a w S
          have hb:(es.length+es2.length)*i.bytes≤140737488355328:=Nat.le_trans (Nat.mul_le_mul_right _ hsz) (Nat.div_mul_le_self _ _)
          have hm:es.length+es2.length≤maxLen:=Nat.le_trans hsz k3
          have hst:e2.st=e1.st:=q2
          have exec:∀ v',∀ w',(Builtin.append_ c.argTypes o.type #[a.eval s,a.eval x]).run P w=.ok v' w'→(execOp a.eval o).run P w=.ok (.value v') w':=by
           intro v' w' hr
           unfold execOp
           simp only [ho,resolve,hc,ha,Sem.run_bind,Sem.run_pure,Result.andThen_ok,invoke,builtin,List.map_toArray,List.map_cons,List.map_nil,hr]
          rcases appS_ok S1 hs with ⟨rfl,rfl,hv⟩ | ⟨q,rfl,hp⟩
          ·
           obtain ⟨v',w',hr,how,hgr,hblk⟩:=append_run (P:=P) w t tx o.type e'' i z i.size i.bytes hu hi hz rfl rfl k1 (.slice none 0 0) 0 [] (OwnR.nil w 0 e'' i.size) (a.eval x) es2.length news hsrc (by simpa using hm) (by simpa using hb)
           refine wp_of_run (exec v' w' (by rw [hts,hv];exact hr)) ?_
           rw [hdd]
           simp only [Nat.zero_add,List.nil_append] at how
           have hfit':FitL es2 es':=by simpa using hfit
           have hRep:Rep g1.pub w' v' (.row (some e'') i.size es') (v'.ownBlock.toList++[]):=by
            refine Rep.own (hfit'.sizes hsize2) ((hnews.keep ⟨fun _ h=>h,fun b hb=>hgr.block b (S1.publt b hb) (by simp [Value.ownBlock])⟩ (fun _ h=>by cases h)).fit hfit'.flat) hsrc.one ?_
            rw [← hfit'.length];exact how
           refine hn (g1.put d (v'.ownBlock.toList++[]) fun _=>False) _ _ ?_ (fun h=>by rw [ho] at h;simp [calmK,hc] at h)
           show SRep C _ (e2.st.put d _) _ _
           rw [hst]
           refine S1.putF (row:=none) hgr (by simp) hdN ?_ ?_ hRep
           ·cases v'.ownBlock<;>simp
           ·intro b hb'
            simp only [List.append_nil,Option.mem_toList] at hb'
            obtain ⟨h1,h2⟩:=hblk b hb'
            have hbw:b=w.heap.size:=by
             rcases h1 with h1 | h1
             ·simp [Value.ownBlock] at h1
             ·exact h1
            subst hbw
            refine ⟨?_,?_,.inl S1.size,h2⟩
            ·cases ho':g1.own w.heap.size with
             | none=>rfl
             | some h'=>have:=(S1.own _ _ ho').2.1;omega
            ·intro hp';have:=S1.publt _ hp';omega
          ·
           obtain ⟨v,T,T',hpv,hR,hTn,hTo,hTo',kw,S2⟩:=S1.take (peek_root hp)
           obtain ⟨_,hpv',_⟩:=peek_ok S1 hp
           have hv:v=a.eval s:=by rw [hpv] at hpv';exact Option.some.inj hpv'
           subst hv
           obtain ⟨xs,A,hT,h1,h2,h3,how0⟩:=own_inv hR
           obtain ⟨v',w',hr,how,hgr,hblk⟩:=append_run (P:=P) w t tx o.type e'' i z i.size i.bytes hu hi hz rfl rfl k1 (a.eval s) es.length xs how0 (a.eval x) es2.length news hsrc hm hb
           refine wp_of_run (exec v' w' (by rw [hts];exact hr)) ?_
           rw [hdd]
           have hpubw:∀ b,g1.pub b→w'.heap[b]? = w.heap[b]?:=fun b hb'=>hgr.block b (S1.publt b hb') (fun e=>by
            have hbT:b∈T:=by rw [hT,← e];simp
            exact (S1.own b _ (hTo b hbT).1).2.2 hb')
           have hAw:∀ b∈A,w'.heap[b]? = w.heap[b]?:=fun b hb'=>by
            have hbT:b∈T:=by rw [hT];simp [hb']
            refine hgr.block b (S1.own b _ (hTo b hbT).1).2.1 (fun e=>?_)
            rw [hT] at hTn
            exact (List.nodup_append.1 hTn).2.2 b (by rw [← e];simp) b hb' rfl
           have hfl:(es++es2).flatMap V.cells=es.flatMap V.cells++es2.flatMap V.cells:=by simp
           have hall:RepL g1.pub w' (xs++news) (es'.flatMap V.cells) (A++[]):=by
            refine RepL.fit (ds:=(es++es2).flatMap V.cells) ?_ hfit.flat
            rw [hfl]
            exact (h2.keep ⟨fun _ h=>h,hpubw⟩ hAw).app (hnews.keep ⟨fun _ h=>h,hpubw⟩ (fun _ h=>by cases h))
           have hRep:Rep g1.pub w' v' (.row (some e'') i.size es') (v'.ownBlock.toList++(A++[])):=by
            refine Rep.own (hfit.sizes (fun e he=>?_)) hall (fun u hu'=>?_) ?_
            ·rcases List.mem_append.1 he with he | he
             ·exact h1 e he
             ·exact hsize2 e he
            ·rcases List.mem_append.1 hu' with hu' | hu'
             ·exact h3 u hu'
             ·exact hsrc.one u hu'
            ·rw [← hfit.length,List.length_append];exact how
           refine hn ((g1.wipe q.holder T').put d (v'.ownBlock.toList++(A++[])) fun _=>False) _ _ ?_ (fun h=>by rw [ho] at h;simp [calmK,hc] at h)
           show SRep C _ ((e2.st.wipe q).put d _) _ _
           rw [hst]
           have hfree:∀ b∈T,(g1.wipe q.holder T').own b=none∧¬ g1.pub b∧(C.W.heap.size≤b∨C.Fz b)∧b < w.heap.size:=by
            intro b hb'
            obtain ⟨o1,o2⟩:=hTo b hb'
            have:=S1.own b _ o1
            refine ⟨?_,this.2.2,this.1,this.2.1⟩
            simp only [G.wipe]
            rw [if_pos ⟨o1,o2⟩]
           have hnew:(g1.wipe q.holder T').own w.heap.size=none:=by
            simp only [G.wipe]
            split
            ·rfl
            ·cases ho':g1.own w.heap.size with
             | none=>rfl
             | some h'=>have:=(S1.own _ _ ho').2.1;omega
           refine S2.putF (row:=(a.eval s).ownBlock) hgr (fun b hb'=>?_) hdN ?_ ?_ hRep
           ·have:=hfree b (by rw [hT,hb'];simp)
            exact ⟨this.1,this.2.1,this.2.2.1⟩
           ·rw [List.append_nil,List.nodup_append]
            rw [hT] at hTn
            refine ⟨by cases v'.ownBlock<;>simp,(List.nodup_append.1 hTn).2.1,fun b hb1 c hc1 e=>?_⟩
            subst e
            simp only [Option.mem_toList] at hb1
            rcases (hblk b hb1).1 with h5 | h5
            ·exact (List.nodup_append.1 hTn).2.2 b (by rw [h5];simp) b hc1 rfl
            ·have:=(hfree b (by rw [hT];simp [hc1])).2.2.2;omega
           ·intro b hb'
            simp only [List.append_nil,List.mem_append,Option.mem_toList] at hb'
            rcases hb' with hb' | hb'
            ·obtain ⟨h5,h6⟩:=hblk b hb'
             rcases h5 with h5 | h5
             ·have:=hfree b (by rw [hT,h5];simp)
              exact ⟨this.1,this.2.1,this.2.2.1,h6⟩
             ·subst h5
              exact ⟨hnew,fun hp'=>by have:=S1.publt _ hp';omega,.inl S1.size,h6⟩
            ·have:=hfree b (by rw [hT];simp [hb'])
             exact ⟨this.1,this.2.1,this.2.2.1,Nat.lt_of_lt_of_le this.2.2.2 hgr.size⟩
         ·cases h
        ·cases h
       ·cases h
      ·cases h
     ·cases h
    ·cases h
   ·cases h
  ·cases h
 ·cases h
end
def D.noOwn:D→Bool
 | .v x=>x.noOwn
 | .ptr _ _=>true
 | .agg cs=>go cs
 | .tup cs=>go cs
 | .fn _ cs=>go cs
where go:List D→Bool
 | []=>true
 | c :: cs=>match c.noOwn with
  | true=>go cs
  | false=>false
mutual
theorem RepD.noOwn {g:G} {w:World} {v:Value} {d:D} {T:List Nat}:RepD g w v d T→d.noOwn=true→T=[]
 | .v h,hn=>h.noOwn hn
 | .ptr _,_=>rfl
 | .agg h,hn=>h.noOwn (by simpa [D.noOwn] using hn)
 | .tup h,hn=>h.noOwn (by simpa [D.noOwn] using hn)
 | .fn h,hn=>h.noOwn (by simpa [D.noOwn] using hn)
theorem RepDL.noOwn {g:G} {w:World} {vs:List Value} {ds:List D} {T:List Nat}:RepDL g w vs ds T→D.noOwn.go ds=true→T=[]
 | .nil,_=>rfl
 | .cons (d:=d) h1 h2,hn=>by
  simp only [D.noOwn.go] at hn
  cases hc:d.noOwn with
  | false=>rw [hc] at hn;cases hn
  | true=>rw [hc] at hn;rw [h1.noOwn hc,h2.noOwn hn];rfl
end
section
variable {P:Program} {C:Ctx}
def D.isTup:D→Bool
 | .v (.tup _)=>true
 | _=>false
def evMove (P:Program) (N:Nat) (o:Oper) (asg:Bool) (x:Operand) (e:E):Option E :=
 match dstOf N o with
 | none=>none
 | some d=>match x with
  | .tmp t=>match look e.st.env t with
   | some (.d D)=>match D.noOwn with
    | true=>some { e with st:=e.st.put d (.d D) }
    | false=>match Nat.beq t d,asg || D.isTup with
     | false,true=>some { e with st:={ e.st with env:=(d,.d D) :: (t,.dead) :: kill (isT d) (kill (isT t) e.st.env) } }
     | false,false=>some { e with st:=e.st.put d (.al (.top (.t t))) }
     | true,_=>none
   | some (.al p)=>match (X.al p).kill (isT d) with
    | .al _=>some { e with st:=e.st.put d (.al p) }
    | _=>match p with
     | .top (.t s)=>match Nat.beq s d with
      | true=>some e
      | false=>none
     | _=>none
   | some (.pa r sz i j)=>match (X.pa r sz i j).kill (isT d) with
    | .pa _ _ _ _=>some { e with st:=e.st.put d (.pa r sz i j) }
    | _=>none
   | _=>none
  | .const (.slice none 0 0)=>match P.underlying o.type with
   | some (.slice el)=>match sizeT P el with
    | some sz=>some (e.put d (.nil el sz))
    | none=>none
   | _=>none
  | .const v=>some (e.put d (.lit v))
  | .global v=>some (e.put d (.lit (.pointer (some ⟨v,0,none⟩))))
  | .func f=>some (e.put d (.clo f []))
theorem evMove_ok {o:Oper} {asg:Bool} {x:Operand} {e e':E} (ho:o.op=.move x∨o.op=.assign x) (h:evMove P C.N o asg x e=some e'):OpOk P C o e e':=by
 have run:∀ {a:Act} {w:World},(execOp a.eval o).run P w=.ok (.value (a.eval x)) w:=by
  intro a w
  unfold execOp
  rcases ho with ho | ho<;>simp only [ho,Sem.run_pure]
 unfold evMove at h
 split at h
 ·cases h
 rename_i d hd
 obtain ⟨hdd,hdN⟩:=dstOf_eq hd
 split at h
 ·rename_i t
  split at h
  ·rename_i D hl
   split at h
   ·rename_i hno
    cases h
    refine fun hA=>⟨hA,fun g a w S next Q hn=>?_⟩
    obtain ⟨h1,h2,h3⟩:=S.env t _ hl
    have h2:RepD g w (a.tmps.getD t undef) D (g.TE t):=h2
    have:=h2.noOwn hno
    rw [this] at h2
    refine wp_of_run run ?_
    rw [hdd]
    exact hn _ _ _ (S.put0 (Calm.refl w) hdN h2) (fun _=>Calm.refl w)
   ·split at h
    ·rename_i hb _
     cases h
     have htd:t≠d:=fun e=>by rw [e,Nat.beq_refl] at hb;cases hb
     refine fun hA=>⟨hA,fun g a w S next Q hn=>?_⟩
     refine wp_of_run run ?_
     rw [hdd]
     exact hn _ _ _ (S.move htd hdN hl) (fun _=>Calm.refl w)
    ·rename_i hb _
     cases h
     have htd:t≠d:=fun e=>by rw [e,Nat.beq_refl] at hb;cases hb
     refine fun hA=>⟨hA,fun g a w S next Q hn=>?_⟩
     refine wp_of_run run ?_
     rw [hdd]
     obtain ⟨h1,h2,h3⟩:=S.env t _ hl
     have hk:(X.al (.top (.t t))).kill (isT d)=.al (.top (.t t)):=by
      rcases X.kill_cases (isT d) (X.al (.top (.t t))) with h | h
      ·simp only [X.kill,Pl.root,isT] at h
       have:Nat.beq t d=false:=hb
       rw [this] at h;cases h
      ·exact h.1
     refine hn _ _ _ (S.putA hdN hk (by simp) ⟨rfl,?_⟩ (by simp)) (fun _=>Calm.refl w)
     have:t < a.tmps.size:=by rw [S.tmps];exact h1
     simp [pv,pvR,Act.eval,Array.getD_eq_getD_getElem?,this]
    ·cases h
  ·rename_i p hl
   split at h
   ·rename_i p' hk
    cases h
    have hk:(X.al p).kill (isT d)=.al p:=by
     rcases X.kill_cases (isT d) (X.al p) with h | h
     ·rw [h] at hk;cases hk
     ·exact h.1
    refine fun hA=>⟨hA,fun g a w S next Q hn=>?_⟩
    refine wp_of_run run ?_
    rw [hdd]
    obtain ⟨h1,⟨_,h2⟩,h3⟩:=S.env t _ hl
    exact hn _ _ _ (S.putA hdN hk (by simp) ⟨rfl,h2⟩ (by simp)) (fun _=>Calm.refl w)
   ·split at h
    ·rename_i s _
     split at h
     ·rename_i hb
      cases h
      have hb:=Nat.eq_of_beq_eq_true hb
      subst hb
      refine fun hA=>⟨hA,fun g a w S next Q hn=>?_⟩
      refine wp_of_run run ?_
      rw [hdd]
      obtain ⟨h1,⟨_,h2⟩,h3⟩:=S.env t _ hl
      have h2:a.tmps[s]? = some (a.tmps.getD t undef):=h2
      have ha:a.put (some s) (a.eval (.tmp t))=a:=by
       rw [Act.put_some]
       have:a.tmps.setIfInBounds s (a.eval (.tmp t))=a.tmps:=by
        apply Array.ext_getElem?
        intro i
        rw [Array.getElem?_setIfInBounds]
        split
        ·rename_i hi
         subst hi
         split
         ·exact h2.symm
         ·rename_i hlt
          rw [Array.getElem?_eq_none (by omega)] at h2;cases h2
        ·rfl
       rw [this]
      rw [ha]
      exact hn _ _ _ S (fun _=>Calm.refl w)
     ·cases h
    ·cases h
  ·rename_i r sz i j hl
   split at h
   ·rename_i hk
    cases h
    have hk:(X.pa r sz i j).kill (isT d)=.pa r sz i j:=by
     rcases X.kill_cases (isT d) (X.pa r sz i j) with h | h
     ·rw [h] at hk;cases hk
     ·exact h.1
    refine fun hA=>⟨hA,fun g a w S next Q hn=>?_⟩
    refine wp_of_run run ?_
    rw [hdd]
    obtain ⟨h1,⟨_,h2⟩,h3⟩:=S.env t _ hl
    exact hn _ _ _ (S.putA hdN hk (by simp) ⟨rfl,h2⟩ (by simp)) (fun _=>Calm.refl w)
   ·cases h
  ·cases h
 ·split at h
  ·rename_i el hu
   split at h
   ·rename_i sz hs
    cases h
    exact OpOk.vv hd id fun _ g a w S=>⟨_,g,S,run,.nil el sz⟩
   ·cases h
  ·cases h
 ·cases h;exact OpOk.vv hd id fun _ g a w S=>⟨_,g,S,run,.lit _⟩
 ·cases h;exact OpOk.vv hd id fun _ g a w S=>⟨_,g,S,run,.lit _⟩
 ·cases h;exact OpOk.vv hd id fun _ g a w S=>⟨_,g,S,run,.clo (cs:=[]) (vs:=[]) .nil⟩
def numV (l:List Int):List V:=l.map fun n=>.lit (.int .u8 n)
def StrRep (es:List V) (b:ByteArray):Prop:=∃ l:List Int,es=numV l∧b=strOfNums l
def evStr (P:Program) (N:Nat) (o:Oper) (s t:TypeId) (x:Operand) (e:E):Option E :=
 match dstOf N o with
 | none=>none
 | some d=>match P.underlying s,P.underlying t with
  | some (.slice el),some .string=>match P.underlying el with
   | some (.int .u8)=>match peek e.st x with
    | some (_,.row _ 1 es)=>match hint e with
     | some (.lit (.string b),e)=>some ((need (StrRep es b) e).put d (.lit (.string b)))
     | _=>none
    | some (_,.nil _ _)=>some (e.put d (.lit (.string .empty)))
    | _=>none
   | _=>none
  | _,_=>none
theorem bytesV_len (b:ByteArray):(bytesV b).length=b.data.toList.length:=by simp only [bytesV,List.length_map]
theorem bytesV_flat (b:ByteArray):(bytesV b).flatMap V.cells=bytesV b:=by
 unfold bytesV
 generalize b.data.toList=l
 induction l with
 | nil=>rfl
 | cons c l ih=>simp only [List.map_cons,List.flatMap_cons,ih];rfl
theorem numV_flat (l:List Int):(numV l).flatMap V.cells=numV l:=by
 unfold numV
 induction l with
 | nil=>rfl
 | cons c l ih=>simp only [List.map_cons,List.flatMap_cons,ih];rfl
theorem repL_nums {p:Pub} {w:World} {T:List Nat}:∀ {l:List Int} {xs:List Value},RepL p w xs (numV l) T→xs=l.map (Value.int .u8):=by
 intro l
 induction l generalizing T with
 | nil=>intro xs h;cases h;rfl
 | cons b l ih =>
  intro xs h
  cases h with
  | cons h1 h2=>rw [h1.lit_inv,ih h2];rfl
theorem numV_len (l:List Int):(numV l).length=l.length:=List.length_map _
theorem evStr_ok {o:Oper} {s t:TypeId} {x:Operand} {e e':E} (ho:o.op=.convert s t x) (h:evStr P C.N o s t x e=some e'):OpOk P C o e e':=by
 unfold evStr at h
 split at h
 ·cases h
 rename_i d hd
 split at h
 ·rename_i el hs ht
  split at h
  ·rename_i hel
   split at h
   ·rename_i r ow es hp
    split at h
    ·rename_i b e1 hh
     cases h
     refine OpOk.lit (obs:=[StrRep es b]) hd (hint_eq hh) fun hA g a w S=>?_
     have hes:StrRep es b:=by cases hA with | cons h _=>exact h
     obtain ⟨l,hes,hb⟩:=hes
     subst hes
     subst hb
     obtain ⟨T,_,hr,_⟩:=peek_ok S hp
     have get:∀ {xs:List Value} {f:Nat→Option Value},xs=l.map (Value.int .u8)→(∀ j u,xs[j]? = some u→f j=some u)→∀ i,i < l.length→f i=some (.int .u8 (l.getD i 0)):=by
      intro xs f hx hf i hi
      refine hf i _ ?_
      rw [hx,List.getElem?_map,List.getD_eq_getElem?_getD,List.getElem?_eq_getElem hi]
      rfl
     have key:(convert s t (a.eval x)).run P w=.ok (.string (strOfNums l)) w:=by
      cases ow with
      | none =>
       obtain ⟨ao,cap,xs,⟨hx,hxc⟩,h1,h2,h3,h4⟩:=shared_inv hr
       rw [numV_flat] at h2
       have hxs:=repL_nums h2
       rw [hx,numV_len]
       cases ao with
       | none =>
        have hn:l=[]:=by
         cases l with
         | nil=>rfl
         | cons c l =>
          rw [hxs] at h4
          obtain ⟨_,_,e',_⟩:=h4 0 _ rfl
          cases e'
        subst hn
        exact run_convert_bytes_nil w s el hs hel _ _ t ht
       | some ad =>
        cases hl:l with
        | nil =>
         rw [run_convert_bytes_string w s t el (some ad) _ cap hs hel ht]
         simp [Conv.bytesToString,loadCells,strOfNums]
         rfl
        | cons c l' =>
         rw [← hl]
         have h0:xs[0]? = some (.int .u8 c):=by rw [hxs,hl];rfl
         obtain ⟨b',o',e',_,_⟩:=h4 0 _ h0
         cases e'
         refine run_convert_bytes_arg w s el hs hel b' o' l.length cap l rfl (get (f:=fun j=>w.cell? ⟨b',o'+j,none⟩) hxs fun j u hj=>?_) t ht
         obtain ⟨b2,o2,e2,_,hc⟩:=h4 j u hj
         cases e2
         exact hc
      | some et =>
       obtain ⟨xs,A,hT,h1,h2,h3,how⟩:=own_inv hr
       rw [numV_flat] at h2
       have hxs:=repL_nums h2
       have how':=how
       rcases how.2 with ⟨hv,hn⟩ | ⟨gb,cap,cur,hv,_,hg,_⟩
       ·rw [hv]
        have:l=[]:=List.eq_nil_of_length_eq_zero (by rw [← numV_len];exact hn)
        subst this
        exact run_convert_bytes_nil w s el hs hel _ _ t ht
       ·rw [hv] at how' ⊢
        rw [numV_len]
        refine run_convert_bytes_arg w s el hs hel gb 0 l.length cap l rfl (get (f:=fun j=>w.cell? ⟨gb,0+j,none⟩) hxs fun j u hj=>?_) t ht
        have:=how'.cells (g:=gb) rfl j u hj
        rw [Addr.add_mid] at this
        exact this
     unfold execOp
     simp only [ho,Sem.run_bind,key,Result.andThen_ok,Sem.run_pure]
    ·cases h
   ·rename_i r e1 s1 hp
    cases h
    refine OpOk.vv hd id fun _ g a w S=>⟨.string .empty,g,S,?_,.lit _⟩
    obtain ⟨T,_,hr,_⟩:=peek_ok S hp
    have hv:a.eval x=.slice none 0 0:=by generalize a.eval x=v at hr;cases hr;rfl
    unfold execOp
    simp only [ho,hv,Sem.run_bind,run_convert_bytes_string w s t el none 0 0 hs hel ht,Conv.bytesToString,Sem.run_pure,Result.andThen_ok]
   ·cases h
  ·cases h
 ·cases h
def evBytes (P:Program) (N:Nat) (o:Oper) (s t:TypeId) (x:Operand) (e:E):Option E :=
 match dstOf N o with
 | none=>none
 | some d=>match P.underlying s,P.underlying t with
  | some .string,some (.slice el)=>match P.underlying el with
   | some (.int .u8)=>match vals [x] e with
    | some ([.lit (.string b)],e)=>match hint e with
     | some (.row none _ es,e)=>some ((need (bytesV b=es) e).put d (.row none 1 es))
     | some (.row (some e') _ es,e)=>match Nat.beq e' el with
      | true=>some ((need (bytesV b=es) (need (b.size≤maxLen) e)).put d (.row (some el) 1 es))
      | false=>none
     | _=>none
    | _=>none
   | _=>none
  | _,_=>none
theorem bytesRow_cells {w:World} {g el cap:Nat} {b:ByteArray} {fz:Nat × Nat} (hh:w.heap[g]? = some (.cells (bytesRow b cap) el fz)) (j:Nat) (u:Value) (hj:(bytesC b)[j]? = some u):w.cell? ⟨g,0+j,none⟩=some u:=by
 simp only [World.cell?,hh]
 simp only [bytesC,List.getElem?_map] at hj
 simp only [Nat.zero_add,bytesRow]
 cases hjj:b.data.toList[j]? with
 | none=>rw [hjj] at hj;cases hj
 | some c =>
  rw [hjj] at hj
  simp only [Option.map_some,Option.some.injEq] at hj
  have hlt:j < b.data.size:=by
   rcases Nat.lt_or_ge j b.data.size with h | h
   ·exact h
   ·rw [List.getElem?_eq_none (by simpa using h)] at hjj;cases hjj
  have:b.data[j]? = some c:=by rw [← Array.getElem?_toList];exact hjj
  simp only [Option.isSome,Bool.false_eq_true,if_false]
  rw [Array.getElem?_append_left (by rw [Array.size_map];exact hlt),Array.getElem?_map,this,← hj];rfl
theorem evBytes_ok {o:Oper} {s t:TypeId} {x:Operand} {e e':E} (ho:o.op=.convert s t x) (h:evBytes P C.N o s t x e=some e'):OpOk P C o e e':=by
 unfold evBytes at h
 split at h
 ·cases h
 rename_i d hd
 split at h
 ·rename_i el hs ht
  split at h
  ·rename_i hel
   split at h
   ·rename_i b e1 hv
    have one:∀ u∈bytesC b,u.oneCell'=true:=fun u hu=>by
     simp only [bytesC,List.mem_map] at hu
     obtain ⟨c,_,rfl⟩:=hu
     rfl
    have szs:∀ u∈bytesV b,u.cells.length=1:=fun u hu=>by
     simp only [bytesV,List.mem_map] at hu
     obtain ⟨c,_,rfl⟩:=hu
     rfl
    have hl:b.size=(bytesV b).length:=by rw [bytesV_len,Array.length_toList];rfl
    split at h
    ·rename_i sz0 es e2 hh
     cases h
     obtain ⟨q1,q2⟩:=hint_eq hh
     refine OpOk.of (e1:=e1) (u:=.row none 1 es) hd hv (by simp only [E.put,need,q2]) (fun hA=>q1 ▸ (All.snoc hA).1) fun hA ρ w p r=>?_
     obtain ⟨hA,rfl⟩:=All.snoc hA
     obtain ⟨v,vs,hvs,r1,_⟩:=r.cons_inv
     have hx:ρ x=.string b:=by rw [← r1.lit_inv];exact (List.cons.inj hvs).1
     have hrun:=run_bytes_of_string (P:=P) w s t el b hs ht hel
     let cap:=grownCap w b.size 0 el
     let w':=w.drew.alloc (.cells (bytesRow b cap) el ((bytesRow b cap).size,(bytesRow b cap).size+1))
     refine ⟨.slice (some ⟨w.heap.size,0,none⟩) b.size cap,w',?_,⟨rfl,rfl,rfl,by simp [w'],fun k hk=>Below.heap_alloc w.drew _ k hk⟩,fun b=>b=w.heap.size,fun b' hb'=>by subst hb';simp [w'],?_⟩
     ·unfold execOp
      simp only [ho,hx,Sem.run_bind,hrun,Result.andThen_ok,Sem.run_pure];rfl
     ·rw [hl]
      refine Rep.shared (xs:=bytesC b) (by rw [← hl];exact grownCap_ge _ _ _ _) szs (by rw [bytesV_flat];exact bytes_rep _ _ b) one (fun j u hj=>⟨w.heap.size,0,rfl,.inr rfl,?_⟩)
      have hh:w'.heap[w.heap.size]? = some (.cells (bytesRow b cap) el ((bytesRow b cap).size,(bytesRow b cap).size+1)):=by
       show (w.heap.push _)[w.heap.size]? = _
       rw [Array.getElem?_push_size]
      exact bytesRow_cells hh j u hj
    ·rename_i e3 sz0 es e2 hh
     split at h
     ·rename_i hq
      have hq:=Nat.eq_of_beq_eq_true hq
      subst hq
      cases h
      obtain ⟨q1,q2⟩:=hint_eq hh
      refine OpOk.new (e1:=e1) (u:=.row (some e3) 1 es) hd hv (by simp only [E.put,need,q2]) (fun hA=>q1 ▸ (All.snoc (All.snoc hA).1).1) fun hA ρ w p hp r=>?_
      obtain ⟨hA1,heq⟩:=All.snoc hA
      obtain ⟨_,hmx⟩:=All.snoc hA1
      subst heq
      obtain ⟨v,vs,hvs,r1,_⟩:=r.cons_inv
      have hx:ρ x=.string b:=by rw [← r1.lit_inv];exact (List.cons.inj hvs).1
      have hrun:=run_bytes_of_string (P:=P) w s t e3 b hs ht hel
      let cap:=grownCap w b.size 0 e3
      let w':=w.drew.alloc (.cells (bytesRow b cap) e3 ((bytesRow b cap).size,(bytesRow b cap).size+1))
      have hh:w'.heap[w.heap.size]? = some (.cells (bytesRow b cap) e3 ((bytesRow b cap).size,(bytesRow b cap).size+1)):=by
       show (w.heap.push _)[w.heap.size]? = _
       rw [Array.getElem?_push_size]
      have hge:b.size≤cap:=grownCap_ge _ _ _ _
      have hcl:(bytesC b).length=b.size:=by rw [bytesC,List.length_map,Array.length_toList];rfl
      have hbs:b.data.size=b.size:=rfl
      have htk:(bytesRow b cap).toList.take (b.size*1)=bytesC b:=by
       rw [Nat.mul_one]
       simp only [bytesRow,Array.toList_append,Array.toList_map]
       rw [List.take_append_of_le_length (by rw [List.length_map,Array.length_toList];exact Nat.le_of_eq hbs.symm)]
       rw [List.take_of_length_le (by rw [List.length_map,Array.length_toList];exact Nat.le_of_eq hbs)]
       rfl
      have hsz:(bytesRow b cap).size=cap*1:=by
       simp only [bytesRow,Array.size_append,Array.size_map,Array.size_replicate]
       omega
      refine ⟨.slice (some ⟨w.heap.size,0,none⟩) b.size cap,w',[w.heap.size],?_,⟨rfl,rfl,rfl,by simp [w'],fun k hk=>Below.heap_alloc w.drew _ k hk⟩,?_,by simp,?_⟩
      ·unfold execOp
       simp only [ho,hx,Sem.run_bind,hrun,Result.andThen_ok,Sem.run_pure];rfl
      ·have how:OwnR w' 0 e3 1 (.slice (some ⟨w.heap.size,0,none⟩) b.size cap) (bytesV b).length (bytesC b):=by
        rw [← hl]
        exact ⟨by rw [hcl,Nat.mul_one],.inr ⟨w.heap.size,cap,_,rfl,Nat.zero_le _,⟨_,hh,.inr (Nat.le_refl _)⟩,hge,grownCap_le_maxLen w b.size 0 e3 hmx,hsz,htk⟩⟩
       have:=Rep.own (p:=p) (A:=[]) szs (by rw [bytesV_flat];exact bytes_rep p w' b) one how
       simpa [Value.ownBlock] using this
      ·intro b' hb'
       simp only [List.mem_singleton] at hb'
       subst hb'
       simp [w']
     ·cases h
    ·cases h
   ·cases h
  ·cases h
 ·cases h
end
section
variable {P:Program} {C:Ctx}
theorem made_succ (z:Array Value) (n:Nat):(madeCells z ((n+1)*z.size)).toList=z.toList++(madeCells z (n*z.size)).toList:=by
 have e:(n+1)*z.size=z.size+n*z.size:=by rw [Nat.add_mul,Nat.one_mul,Nat.add_comm]
 simp only [madeCells,Array.toList_map,Array.toList_range,e,List.range_add,List.map_append,List.map_map]
 congr 1
 ·apply List.ext_getElem?
  intro j
  by_cases hj:j < z.size
  ·rw [List.getElem?_map,List.getElem?_range hj]
   simp [Nat.mod_eq_of_lt hj,hj]
  ·rw [List.getElem?_eq_none (by simp;omega),List.getElem?_eq_none (by simp;omega)]
 ·apply List.map_congr_left
  intro j _
  simp
theorem made_rep {p:Pub} {w:World} {z:Array Value} {d:V} (h:RepL p w z.toList d.cells []):∀ n,RepL p w (madeCells z (n*z.size)).toList ((List.replicate n d).flatMap V.cells) []
 | 0=>by simp [madeCells];exact .nil
 | n+1=>by
  rw [made_succ,List.replicate_succ,List.flatMap_cons]
  exact h.app (made_rep h n)
def evMslice (P:Program) (N:Nat) (o:Oper) (t:TypeId) (l c:Operand) (e:E):Option E :=
 match dstOf N o with
 | none=>none
 | some d=>match P.underlying t with
  | some (.slice el)=>match P.info? el with
   | some i=>match i.zero with
    | some z=>match zeroV P el with
     | some zs=>match partV P el zs with
      | some ze=>match vals [l,c] e with
       | some ([.lit (.int _ n),.lit (.int _ m)],e)=>match hint e with
        | some (.row (some e') s' es',e)=>match Nat.beq e' el && Nat.beq s' i.size && allOne ze.cells && Nat.beq zs.length i.size && Nat.beq ze.cells.length i.size && Nat.ble 1 i.bytes with
         | true=>some ((need (List.replicate n.toNat ze=es') (need (m≤((281474976710656 / i.bytes:Nat):Int)) (need (n≤m) (need (0≤n) e)))).put d (.row (some el) i.size es'))
         | false=>none
        | _=>none
       | _=>none
      | none=>none
     | none=>none
    | none=>none
   | none=>none
  | _=>none
theorem partV_all {t:TypeId} {cs:List V} {u:V} (h:partV P t cs=some u) (hl:u.cells.length=cs.length) (h1:allOne cs=true):u.cells=cs:=by
 unfold partV at h
 split at h
 ·split at h
  ·split at h
   ·cases h
    simp only [V.cells,List.length_take] at hl ⊢
    exact List.take_of_length_le (by omega)
   ·cases h
  ·cases h
 ·split at h
  ·rename_i c cs'
   split at h
   ·cases h
   ·cases h
    have hc:u.cells=[u]:=by
     cases u<;>first | rfl | (rename_i hn;exact (hn _ rfl).elim)
    rw [hc] at hl ⊢
    simp at hl
    rw [hl]
  ·cases h
 ·cases h
theorem evMslice_ok {o:Oper} {t:TypeId} {l c:Operand} {e e':E} (ho:o.op=.makeSlice t l c) (h:evMslice P C.N o t l c e=some e'):OpOk P C o e e':=by
 unfold evMslice at h
 split at h
 ·cases h
 rename_i d hd
 split at h
 ·rename_i el hu
  split at h
  ·rename_i i hi
   split at h
   ·rename_i z hz
    split at h
    ·rename_i zs hzs
     split at h
     ·rename_i ze hze
      split at h
      ·rename_i k n k' m e1 hv
       split at h
       ·rename_i e'' s' es' e2 hh
        split at h
        ·rename_i hck
         simp only [Bool.and_eq_true] at hck
         obtain ⟨⟨⟨⟨⟨c1,c2⟩,c3⟩,c4⟩,c5⟩,c6⟩:=hck
         have c1:=Nat.eq_of_beq_eq_true c1
         have c2:=Nat.eq_of_beq_eq_true c2
         have c4:=Nat.eq_of_beq_eq_true c4
         have c5:=Nat.eq_of_beq_eq_true c5
         have c6:=Nat.le_of_ble_eq_true c6
         subst c1
         subst c2
         cases h
         obtain ⟨q1,q2⟩:=hint_eq hh
         obtain ⟨it,zv,hit,hzv,h1,hzr⟩:=zeroV_ok hzs
         rw [hi] at hit
         cases hit
         rw [hz] at hzv
         cases hzv
         have hzc:ze.cells=zs:=partV_all hze (by rw [c5,c4]) h1
         refine OpOk.new (e1:=e1) (u:=.row (some e'') i.size es') hd hv (by simp only [E.put,need,q2]) ?_ fun hA ρ w p hp r=>?_
         ·intro hA
          have:=(All.snoc (All.snoc (All.snoc (All.snoc hA).1).1).1).1
          exact q1 ▸ this
         ·obtain ⟨hA,a4⟩:=All.snoc hA
          obtain ⟨hA,a3⟩:=All.snoc hA
          obtain ⟨hA,a2⟩:=All.snoc hA
          obtain ⟨hA,a1⟩:=All.snoc hA
          obtain ⟨v1,vs1,hvs,r1,r2⟩:=r.cons_inv
          obtain ⟨v2,vs2,hvs2,r3,_⟩:=r2.cons_inv
          have hl:ρ l=.int k n:=by rw [← r1.lit_inv];exact (List.cons.inj hvs).1
          have hc:ρ c=.int k' m:=by
           rw [← r3.lit_inv]
           have:=(List.cons.inj hvs).2
           rw [hvs2] at this
           exact (List.cons.inj this).1
          have hzs':z.cells.size=i.size:=by rw [← Array.length_toList,(hzr p w).length,c4]
          have hm:(i.bytes:Int)*m≤281474976710656:=by
           have h5:i.bytes*m.toNat≤281474976710656:=by
            have:m.toNat≤281474976710656 / i.bytes:=by omega
            rw [Nat.mul_comm]
            exact Nat.le_trans (Nat.mul_le_mul_right _ this) (Nat.div_mul_le_self _ _)
           have h6:((i.bytes*m.toNat:Nat):Int)=(i.bytes:Int)*m:=by rw [Int.natCast_mul,Int.toNat_of_nonneg (by omega)]
           omega
          have hm2:m≤281474976710656:=by
           have h5:281474976710656 / i.bytes≤281474976710656:=Nat.div_le_self _ _
           omega
          have hrun:=run_make (P:=P) w t e'' i z hu hi hz k k' n m a1 a2 hm (by omega)
          refine ⟨.slice (some ⟨w.heap.size,0,none⟩) n.toNat m.toNat,w.alloc (.cells (madeCells z.cells (m.toNat*i.size)) e''),[w.heap.size],?_,Calm.of (World.grownBy_alloc w _ none),?_,by simp,?_⟩
          ·unfold execOp
           simp only [ho,hl,hc,Sem.run_bind,hrun,Result.andThen_ok,Sem.run_pure]
          ·have hlen:es'.length=n.toNat:=by rw [← a4];simp
           have hrep:=made_rep (p:=p) (w:=w) (z:=z.cells) (d:=ze) (by rw [hzc];exact hzr p w) n.toNat
           rw [a4,hzs'] at hrep
           have h1':∀ e∈es',e.cells.length=i.size:=by
            intro e he
            rw [← a4] at he
            rw [List.eq_of_mem_replicate he,c5]
           have hall:allOne (es'.flatMap V.cells)=true:=by
            rw [← a4]
            generalize n.toNat=q
            induction q with
            | zero=>rfl
            | succ q ih=>rw [List.replicate_succ,List.flatMap_cons,allOne_append];exact ⟨c3,ih⟩
           have hone:=hrep.one hall
           have hpre:(madeCells z.cells (n.toNat*i.size)).toList=(madeCells z.cells (m.toNat*i.size)).toList.take (n.toNat*i.size):=by
            have:n.toNat*i.size≤m.toNat*i.size:=Nat.mul_le_mul_right _ (by omega)
            simp only [madeCells,Array.toList_map,Array.toList_range,← List.map_take,List.take_range,Nat.min_eq_left this]
           have:=Rep.own (p:=p) (w:=w.alloc (.cells (madeCells z.cells (m.toNat*i.size)) e'')) (A:=[]) (v:=.slice (some ⟨w.heap.size,0,none⟩) n.toNat m.toNat) (e:=e'') (sz:=i.size) (es:=es') (xs:=(madeCells z.cells (n.toNat*i.size)).toList) h1'
            (hrep.keep ⟨fun _ h=>h,fun b hb=>Below.heap_alloc w _ b (hp b hb)⟩ (fun _ h=>by cases h)) hone ?_
           ·simpa [Value.ownBlock] using this
           ·refine ⟨by rw [hlen,Array.length_toList,size_madeCells],.inr ⟨w.heap.size,m.toNat,_,by rw [hlen],Nat.zero_le _,⟨(0,0),Go.heap_alloc_new w _,.inl rfl⟩,by rw [hlen];omega,?_,size_madeCells _ _,by rw [hlen,hpre]⟩⟩
            simp only [maxLen];omega
          ·intro b hb
           simp only [List.mem_singleton] at hb
           subst hb
           simp
        ·cases h
       ·cases h
      ·cases h
     ·cases h
    ·cases h
   ·cases h
  ·cases h
 ·cases h
end
def Con (P:Program) (f:FuncId) (us:List V) (r:V):Prop :=
 (∀ vs w,(callFunc f vs).run P w=.ok (.enter f vs) w) ∧
 ∀ (p:Pub) (w:World) (vs:List Value),(∀ b,p b→b < w.heap.size)→Tabs.t p w→RepL p w vs us []→Calls P f vs.toArray w fun e w' =>
  ∃ (v:Value) (T:List Nat) (q:Pub),e=.returned v∧Calm w w'∧(∀ b,q b→w.heap.size≤b∧b < w'.heap.size)∧T.Nodup∧(∀ b∈T,w.heap.size≤b∧b < w'.heap.size∧¬ q b)∧Rep (fun b=>p b∨q b) w' v r T
def Con' (P:Program) (f:FuncId) (us:List V) (r:V):Prop:=∃ us',FitL us us'∧Con P f us' r
theorem Con.n {P:Program} {f:FuncId} {us us':List V} {r:V} (h:Con P f us' r) (f1:FitL us us'):Con' P f us r:=⟨us',f1,h⟩
theorem Con.c {P:Program} {f:FuncId} {us:List V} {r:V} (h:Con P f us r):Con' P f us r:=⟨us,FitL.refl us,h⟩
section
variable {P:Program} {C:Ctx}
theorem SRep.calm {g:G} {st:St} {a:Act} {w w':World} (S:SRep C g st a w) (k:Calm w w'):SRep C g st a w' :=
 S.change (fun _=>False) S.defers S.tmps k.os k.tape k.output k.size (fun _ h=>h) (fun _ h=>.inl h) (fun b hb=>Nat.lt_of_lt_of_le (S.publt b hb) k.size) S.n (Nat.le_refl _) (fun _ _=>rfl) (fun b hb _=>k.same b hb)
  (fun b h ho _=>ho) (fun t _=>⟨rfl,rfl⟩) (fun i _=>⟨rfl,rfl⟩) (fun t x hx=>.inl ⟨fun h=>h,.inl ⟨hx,fun _ _ h=>h⟩⟩) (fun id b _ h=>h.elim) (fun t h=>h.elim) (fun i h=>h.elim) (fun b h ho=>.inl ⟨ho,(S.own b h ho).2.2⟩)
def fnOf:V→Option (FuncId × List V)
 | .clo f cs=>some (f,cs)
 | _=>none
theorem fnOf_eq {u:V} {n:FuncId} {cs:List V} (h:fnOf u=some (n,cs)):u=.clo n cs:=by
 unfold fnOf at h
 split at h
 ·cases h;rfl
 ·cases h
theorem Rep.clo_inv {p:Pub} {w:World} {v:Value} {f:FuncId} {cs:List V} {T:List Nat} (h:Rep p w v (.clo f cs) T):∃ vs:List Value,v=.func (.func f) #[] vs.toArray∧RepL p w vs cs []:=by
 cases h with
 | clo h=>exact ⟨_,rfl,h⟩
def evCall (N:Nat) (P:Program) (o:Oper) (f:Operand) (xs:List Operand) (e:E):Option E :=
 match val f e with
 | some (u,e)=>match fnOf u with
  | some (n,cs)=>match vals xs e with
   | some (us,e)=>match hint e with
    | some (r,e)=>match o.dst with
     | none=>some (need (Con' P n (us++cs) r) e)
     | some _=>match dstOf N o with
      | some d=>some ((need (Con' P n (us++cs) r) e).put d r)
      | none=>none
    | none=>none
   | none=>none
  | none=>none
 | none=>none
theorem evCall_ok {o:Oper} {c:Call} {f:Operand} {e e':E} (ho:o.op=.call c) (hc:c.callee=.value f) (h:evCall C.N P o f c.args.toList e=some e'):OpOk P C o e e':=by
 unfold evCall at h
 split at h
 ·rename_i u0 e1 hf
  split at h
  rotate_left
  ·cases h
  rename_i n cs hfn
  have hfn:=fnOf_eq hfn
  subst hfn
  split at h
  ·rename_i us e2 hv
   split at h
   ·rename_i r e3 hh
    obtain ⟨q1,q2⟩:=hint_eq hh
    have main:∀ (obl:Con' P n (us++cs) r) (hA:All e3.ob) g a w,SRep C g e.st a w→∃ g1,SRep C g1 e2.st a w∧∀ (K:Value→World→Prop) (Q:Exit→Act→World→Prop) (next:Act→World→Prop),
     (∀ (v:Value) (w':World) (T:List Nat) (q:Pub),Calm w w'→(∀ b,q b→w.heap.size≤b∧b < w'.heap.size)→T.Nodup→(∀ b∈T,w.heap.size≤b∧b < w'.heap.size∧¬ q b)→Rep (fun b=>g1.pub b∨q b) w' v r T→next (a.put o.dst v) w')→o.wp P a w next Q:=by
     intro obl hA g a w S
     obtain ⟨us',hfit,hen,hcon⟩:=obl
     obtain ⟨hA1,kv⟩:=vals_ok (C:=C) hv (q1 ▸ hA)
     obtain ⟨_,kf⟩:=val_ok (C:=C) hf hA1
     obtain ⟨g0,k0,S0,r0⟩:=kf g a w S
     obtain ⟨g1,k1,S1,r1⟩:=kv g0 a w S0
     refine ⟨g1,S1,fun K Q next hn=>?_⟩
     obtain ⟨vs0,hfv,rc⟩:=r0.clo_inv
     have hargs:(c.args.map a.eval)=(c.args.toList.map a.eval).toArray:=by apply Array.ext';rw [Array.toList_map]
     unfold Oper.wp
     have:(execOp a.eval o).run P w=.ok (.enter n (c.args.toList.map a.eval++vs0).toArray) w:=by
      unfold execOp
      simp only [ho,resolve,hc,hfv,hargs,Deferred.ofValue,Sem.run_bind,Sem.run_pure,Result.andThen_ok,invoke]
      simpa using hen _ w
     rw [this,Oper.upon_enter]
     refine (hcon g1.pub w _ S1.publt S1.tab ((r1.app (rc.keep k1.k (fun _ h=>by cases h))).fit hfit)).mono fun e w' he=>?_
     obtain ⟨v,T,q,rfl,hcalm,hq,hT,hTf,hR⟩:=he
     exact hn v w' T q hcalm hq hT hTf hR
    split at h
    ·rename_i hd
     cases h
     intro hA
     obtain ⟨hA,obl⟩:=All.snoc (l:=e3.ob) hA
     have h0:=(val_ok (C:=C) hf (vals_ok (C:=C) hv (q1 ▸ hA)).1).1
     refine ⟨h0,fun g a w S next Q hn=>?_⟩
     obtain ⟨g1,S1,m⟩:=main obl hA g a w S
     refine m (fun _ _=>True) Q next fun v w' T q hcalm hq hT hTf hR=>?_
     rw [hd]
     refine hn g1 _ _ ?_ (fun _=>hcalm)
     show SRep C g1 e3.st _ _
     rw [q2]
     exact S1.calm hcalm
    ·split at h
     ·rename_i d hd
      cases h
      obtain ⟨hdd,hdN⟩:=dstOf_eq hd
      intro hA
      obtain ⟨hA,obl⟩:=All.snoc (l:=e3.ob) hA
      have h0:=(val_ok (C:=C) hf (vals_ok (C:=C) hv (q1 ▸ hA)).1).1
      refine ⟨h0,fun g a w S next Q hn=>?_⟩
      obtain ⟨g1,S1,m⟩:=main obl hA g a w S
      refine m (fun _ _=>True) Q next fun v w' T q hcalm hq hT hTf hR=>?_
      rw [hdd]
      refine hn (g1.put d T q) _ _ ?_ (fun _=>hcalm)
      show SRep C _ (e3.st.put d _) _ _
      rw [q2]
      exact S1.put hcalm hdN hq hT hTf (.v hR)
     ·cases h
   ·cases h
  ·cases h
 ·cases h
def evCut (P:Program) (N:Nat) (o:Oper) (t:TypeId) (x:Operand) (lo hi:Option Operand) (e:E):Option E :=
 match dstOf N o with
 | none=>none
 | some d=>match P.underlying t with
  | some (.slice el)=>match sizeT P el with
   | some sz=>match vals (lo.toList++hi.toList) e with
    | some (bs,e)=>match lits bs with
     | some vs=>match hint e with
      | some (.row none _ es',e)=>match val x e with
       | some (.row none s es,e)=>match Nat.beq s sz && Nat.ble 1 s with
        | true=>match cutR es.length lo.isSome hi.isSome vs with
         | some (l,h,obs)=>some ((need ((es.drop l).take (h - l)=es') { e with ob:=e.ob++obs }).put d (.row none sz es'))
         | none=>none
        | false=>none
       | _=>none
      | some (.row (some _) _ es',e)=>match peek e.st x with
       | some (r,.row (some el') s es)=>match Nat.beq s sz with
        | true=>match lo.isSome,cutR es.length lo.isSome hi.isSome vs with
         | false,some (l,h,obs)=>some { (need (es.take h=es') { e with ob:=e.ob++obs }) with st:=(e.st.wipe r).put d (.d (.v (.row (some el') sz es'))) }
         | _,_=>none
        | false=>none
       | _=>none
      | _=>none
     | none=>none
    | none=>none
   | none=>none
  | _=>none
theorem cells_take {sz:Nat}:∀ {es:List V} (h:Nat),(∀ e∈es,e.cells.length=sz)→(es.take h).flatMap V.cells=(es.flatMap V.cells).take (h*sz)
 | [],h,_=>by simp
 | e :: es,0,_=>by simp
 | e :: es,h+1,hs=>by
  have h1:=hs e (by simp)
  rw [List.take_succ_cons,List.flatMap_cons,List.flatMap_cons,cells_take h (fun e he=>hs e (by simp [he]))]
  rw [show (h+1)*sz=e.cells.length+h*sz by rw [h1,Nat.add_mul,Nat.one_mul,Nat.add_comm],List.take_length_add_append]
theorem cells_drop {sz:Nat}:∀ {es:List V} (h:Nat),(∀ e∈es,e.cells.length=sz)→(es.drop h).flatMap V.cells=(es.flatMap V.cells).drop (h*sz)
 | [],h,_=>by simp
 | e :: es,0,_=>by simp
 | e :: es,h+1,hs=>by
  have h1:=hs e (by simp)
  rw [List.drop_succ_cons,List.flatMap_cons,cells_drop h (fun e he=>hs e (by simp [he]))]
  rw [show (h+1)*sz=e.cells.length+h*sz by rw [h1,Nat.add_mul,Nat.one_mul,Nat.add_comm],List.drop_length_add_append]
theorem evCut_ok {o:Oper} {t:TypeId} {x:Operand} {lo hi:Option Operand} {e e':E} (ho:o.op=.slice t x lo hi none) (h:evCut P C.N o t x lo hi e=some e'):OpOk P C o e e':=by
 unfold evCut at h
 split at h
 ·cases h
 rename_i d hd
 obtain ⟨hdd,hdN⟩:=dstOf_eq hd
 split at h
 ·rename_i el hu
  split at h
  ·rename_i sz hsz
   split at h
   ·rename_i bs e1 hv
    split at h
    ·rename_i vs hl
     have exec:∀ {a:Act} {w:World} {ao:Option Addr} {n cap l hh:Nat},a.eval x=.slice ao n cap→(Instr.sliceBounds true n cap (lo.map a.eval) (hi.map a.eval) none).run P w=.ok (l,hh,cap) w →
      (execOp a.eval o).run P w=.ok (.value (.slice (if cap=l then ao else ao.map (·.add (l*sz))) (hh - l) (cap - l))) w:=by
      intro a w ao n cap l hh hx hb
      unfold sizeT at hsz
      cases hi':P.info? el with
      | none=>rw [hi'] at hsz;cases hsz
      | some inf =>
       rw [hi'] at hsz
       cases hsz
       unfold execOp
       simp only [ho,hx,Instr.sliceAt,Instr.slice,Sem.run_bind,run_underlying hu,Option.map_none,Result.andThen_ok,hb,sizeOf,typeInfo,run_program,hi',Sem.run_pure]
     split at h
     ·rename_i s0 es' e2 hh
      obtain ⟨q1,q2⟩:=hint_eq hh
      split at h
      ·rename_i s es e3 hx
       split at h
       ·rename_i hck
        rw [Bool.and_eq_true] at hck
        have c1:=Nat.eq_of_beq_eq_true hck.1
        have c2:=Nat.le_of_ble_eq_true hck.2
        subst c1
        split at h
        ·rename_i l hh' obs hcut
         cases h
         intro hA
         obtain ⟨hA,heq⟩:=All.snoc (l:=e3.ob++obs) hA
         have hobs:=hA.right
         have hA:=hA.left
         obtain ⟨hA2,kx⟩:=val_ok (C:=C) hx hA
         obtain ⟨h0,kv⟩:=vals_ok (C:=C) hv (q1 ▸ hA2)
         refine ⟨h0,fun g a w S next Q hn=>?_⟩
         obtain ⟨g1,k1,S1,r1⟩:=kv g a w S
         obtain ⟨g2,k2,S2,r2⟩:=kx g1 a w (q2 ▸ S1)
         obtain ⟨ao,cap,xs,⟨hxv,hxc⟩,h1,h2,h3,h4⟩:=shared_inv r2
         have hvs:=lits_rep hl r1
         have hle:=cutR_le hcut hobs
         have hcap:=hxc
         ·refine wp_of_run (exec hxv (cutR_run w true hcap hvs hcut hobs)) ?_
          rw [hdd]
          have hlen:hh' - l=((es.drop l).take (hh' - l)).length:=by simp;omega
          have hR:Rep g2.pub w (.slice (if cap=l then ao else ao.map (·.add (l*s))) (hh' - l) (cap - l)) (.row none s es') []:=by
           rw [← heq]
           generalize hq:hh' - l=q at hlen ⊢
           rw [hlen]
           have hfl:((es.drop l).take q).flatMap V.cells=((es.flatMap V.cells).drop (l*s)).take (q*s):=by
            rw [cells_take q (fun e he=>h1 e (List.mem_of_mem_drop he)),cells_drop l h1]
           obtain ⟨A,B,hAB,_,hd2⟩:=h2.cut (l*s)
           have hB:=(List.append_eq_nil_iff.1 hAB.symm).2
           subst hB
           obtain ⟨A,B,hAB,hd3,_⟩:=hd2.cut (q*s)
           have hA':=(List.append_eq_nil_iff.1 hAB.symm).1
           subst hA'
           rw [← hlen]
           have hgo:Rep g2.pub w (.slice (if cap=l then ao else ao.map (·.add (l*s))) ((es.drop l).take q).length (cap - l)) (.row none s ((es.drop l).take q)) []:=by
            refine Rep.shared (xs:=(xs.drop (l*s)).take (q*s)) (by rw [← hlen,← hq];omega) (fun e he=>h1 e (List.mem_of_mem_drop (List.mem_of_mem_take he))) (by rw [hfl];exact hd3) (fun u hu=>h3 u (List.mem_of_mem_drop (List.mem_of_mem_take hu))) (fun j u hj=>?_)
            have hj2:xs[l*s+j]? = some u:=by
             rw [List.getElem?_take] at hj
             split at hj
             ·rwa [List.getElem?_drop] at hj
             ·cases hj
            obtain ⟨b,ofs,e',hp,hc⟩:=h4 _ _ hj2
            subst e'
            by_cases hcl:cap=l
            ·exfalso
             have:l*s+j < xs.length:=by
              rcases Nat.lt_or_ge (l*s+j) xs.length with h | h
              ·exact h
              ·rw [List.getElem?_eq_none h] at hj2;cases hj2
             rw [h2.length,flat_len h1] at this
             have:es.length*s≤l*s:=Nat.mul_le_mul_right _ (by omega)
             omega
            ·rw [if_neg hcl]
             refine ⟨b,ofs+l*s,by simp [Addr.add_mid],hp,?_⟩
             rwa [Nat.add_assoc]
           rw [← hlen] at hgo
           exact hgo
          refine hn _ _ _ (S2.put0 (Calm.refl w) hdN (.v hR)) (fun _=>Calm.refl w)
        ·cases h
       ·cases h
      ·cases h
     ·rename_i s0 s1 es' e2 hh
      obtain ⟨q1,q2⟩:=hint_eq hh
      split at h
      ·rename_i r el' s es hp
       split at h
       ·rename_i hck
        have c1:=Nat.eq_of_beq_eq_true hck
        subst c1
        split at h
        ·rename_i l hh' obs hlo hcut
         cases h
         intro hA
         obtain ⟨hA,heq⟩:=All.snoc (l:=e2.ob++obs) hA
         have hobs:=hA.right
         have hA:=hA.left
         obtain ⟨h0,kv⟩:=vals_ok (C:=C) hv (q1 ▸ hA)
         refine ⟨h0,fun g a w S next Q hn=>?_⟩
         obtain ⟨g1,k1,S1,r1⟩:=kv g a w S
         have hvs:=lits_rep hl r1
         have hle:=cutR_le hcut hobs
         have hl0:l=0:=by
          rw [hlo] at hcut
          unfold cutR at hcut
          split at hcut<;>first | (cases hcut;rfl) | (cases hcut;done) | (rename_i h1 _ _;cases h1;done) | skip
          all_goals simp_all
         subst hl0
         have S1':SRep C g1 e2.st a w:=q2 ▸ S1
         obtain ⟨v,T,T',hpv,hR,hTn,hTo,hTo',kw,S2⟩:=S1'.take (peek_root hp)
         obtain ⟨_,hpv',_⟩:=peek_ok S1' hp
         have hv:v=a.eval x:=by rw [hpv] at hpv';exact Option.some.inj hpv'
         subst hv
         obtain ⟨xs,A,hT,h1,h2,h3,how⟩:=own_inv hR
         have hfl:(es.take hh').flatMap V.cells=(es.flatMap V.cells).take (hh'*s):=cells_take hh' h1
         obtain ⟨A1,A2,hAA,hd1,_⟩:=h2.cut (hh'*s)
         rw [← hfl] at hd1
         have hlen:hh'=(es.take hh').length:=by simp;omega
         have hfree:∀ b∈T,(g1.wipe r.holder T').own b=none∧¬ g1.pub b∧(C.W.heap.size≤b∨C.Fz b)∧b < w.heap.size:=by
          intro b hb'
          obtain ⟨o1,o2⟩:=hTo b hb'
          have:=S1'.own b _ o1
          refine ⟨?_,this.2.2,this.1,this.2.1⟩
          simp only [G.wipe]
          rw [if_pos ⟨o1,o2⟩]
         have hres:∃ v',(execOp a.eval o).run P w=.ok (.value v') w∧OwnR w 0 el' s v' hh' (xs.take (hh'*s))∧v'.ownBlock=(a.eval x).ownBlock:=by
          have hxl:(xs.take (hh'*s)).length=hh'*s:=by
           rw [List.length_take,how.1]
           exact Nat.min_eq_left (Nat.mul_le_mul_right _ hle.2)
          rcases how.2 with ⟨hv0,hn0⟩ | ⟨b,cap,cur,hv0,hb0,hg,hnc,hcm,hcs,htk⟩
          ·have hh0:hh'=0:=by omega
           have hcut0:cutR 0 lo.isSome hi.isSome vs=some (0,hh',obs):=(congrArg (fun n=>cutR n lo.isSome hi.isSome vs) hn0).symm.trans hcut
           refine ⟨_,exec hv0 (cutR_run (n:=0) (cap:=0) w true (Nat.le_refl _) hvs hcut0 hobs),⟨hxl,.inl ⟨by subst hh0;simp,hh0⟩⟩,?_⟩
           rw [hv0];simp [Value.ownBlock]
          ·refine ⟨_,exec hv0 (cutR_run w true hnc hvs hcut hobs),⟨hxl,.inr ⟨b,cap,cur,?_,hb0,hg,by omega,hcm,hcs,?_⟩⟩,?_⟩
           ·simp [Addr.add]
           ·rw [← htk,List.take_take,Nat.min_eq_left (Nat.mul_le_mul_right _ hle.2)]
           ·rw [hv0];simp [Value.ownBlock,Addr.add]
         obtain ⟨v',hrun,how',hblk⟩:=hres
         refine wp_of_run hrun ?_
         rw [hdd]
         have hRep:Rep g1.pub w v' (.row (some el') s es') (v'.ownBlock.toList++A1):=by
          rw [← heq]
          refine Rep.own (fun e he=>h1 e (List.mem_of_mem_take he)) hd1 (fun u hu'=>h3 u (List.mem_of_mem_take hu')) ?_
          rw [← hlen];exact how'
         have hsub:∀ b∈v'.ownBlock.toList++A1,b∈T:=by
          intro b hb'
          rw [hT,hAA]
          rw [hblk] at hb'
          simp only [List.mem_append] at hb' ⊢
          rcases hb' with h | h
          ·exact .inl h
          ·exact .inr (.inl h)
         refine hn ((g1.wipe r.holder T').put d (v'.ownBlock.toList++A1) fun _=>False) _ _ ?_ (fun _=>Calm.refl w)
         refine S2.putF (row:=none) ⟨rfl,rfl,rfl,Nat.le_refl _,fun _ _ _=>rfl⟩ (by simp) hdN ?_ (fun b hb'=>hfree b (hsub b hb')) hRep
         rw [hT,hAA] at hTn
         rw [hblk]
         have h5:=List.nodup_append.1 hTn
         exact List.nodup_append.2 ⟨h5.1,(List.nodup_append.1 h5.2.1).1,fun b hb' c hc'=>h5.2.2 b hb' c (by simp [hc'])⟩
        ·cases h
       ·cases h
      ·cases h
     ·cases h
    ·cases h
   ·cases h
  ·cases h
 ·cases h
end
theorem RepL.pick {p:Pub} {w:World}:∀ {vs:List Value} {ds:List V} {T:List Nat} {i:Nat} {u:V},RepL p w vs ds T→ds[i]? = some u →
 ∃ v A B D,vs[i]? = some v∧T=A++(B++D)∧Rep p w v u B∧RepL p w vs (ds.set i .any) (A++D)
 | _,_,_,_,_,.nil,h=>by simp at h
 | _,_,_,0,u,.cons (v:=v) (A:=A) (B:=B) h1 h2,h=>by
  simp only [List.getElem?_cons_zero,Option.some.injEq] at h
  subst h
  exact ⟨v,[],A,B,rfl,rfl,h1,RepL.cons (A:=[]) (.any _) h2⟩
 | _,_,_,i+1,u,.cons (v:=v) (A:=A') (B:=B') h1 h2,h=>by
  simp only [List.getElem?_cons_succ] at h
  obtain ⟨v',A,B,D,e1,e2,e3,e4⟩:=h2.pick h
  exact ⟨v',A'++A,B,D,by simpa using e1,by rw [e2];simp,e3,by rw [List.set_cons_succ,List.append_assoc];exact .cons h1 e4⟩
def G.split (g:G) (s d:Nat) (B R:List Nat):G :=
 { g with own:=fun b=>if b∈B then some (.inl d) else if g.own b=some (.inl d) then none else g.own b,TE:=fun t=>if t=d then B else if t=s then R else g.TE t }
section
variable {C:Ctx} {g:G} {st:St} {a:Act} {w:World}
theorem killS (s d:Nat) (y:X) (l:List (Nat × X)) (t:Nat) (ht:t≠d) (hs:t≠s) (x:X):look ((d,x) :: (s,y) :: kill (isT d) (kill (isT s) l)) t=(look l t).map (fun z=>(z.kill (isT s)).kill (isT d)):=by
 simp only [look,look_kill]
 have h1:Nat.beq t d=false:=by cases h:Nat.beq t d with
  | true=>exact absurd (Nat.eq_of_beq_eq_true h) ht
  | false=>rfl
 have h2:Nat.beq t s=false:=by cases h:Nat.beq t s with
  | true=>exact absurd (Nat.eq_of_beq_eq_true h) hs
  | false=>rfl
 rw [h1,h2]
 simp [Option.map_map,Function.comp_def]
theorem SRep.split (S:SRep C g st a w) {s d i:Nat} (hsd:s≠d) (hd:d < C.N) {us:List V} {u:V} (hs:look st.env s=some (.d (.v (.tup us)))) (hi:us[i]? = some u) :
 ∃ (v:Value) (xs:List Value) (g':G),a.tmps.getD s undef=.tuple xs.toArray∧xs[i]? = some v∧SRep C g' { st with env:=(d,.d (.v u)) :: (s,.d (.v (.tup (us.set i .any)))) :: kill (isT d) (kill (isT s) st.env) } (a.put (some d) v) w:=by
 obtain ⟨hsN,hsx,hso⟩:=S.env s _ hs
 obtain ⟨xs,hxs,hr⟩:=(RepD.inv hsx).tup_inv
 obtain ⟨v,A,B,D,e1,e2,e3,e4⟩:=hr.pick hi
 have nod:=S.nodE s
 rw [e2] at nod
 have hB:∀ b∈B,b∈g.TE s:=fun b hb=>by rw [e2];simp [hb]
 have hR:∀ b∈A++D,b∈g.TE s:=fun b hb=>by rw [e2];rcases List.mem_append.1 hb with h | h<;>simp [h]
 have hBR:∀ b∈A++D,b∉B:=fun b hb hb'=>by
  have h1:=List.nodup_append.1 nod
  have h2:=List.nodup_append.1 h1.2.1
  rcases List.mem_append.1 hb with h | h
  ·exact h1.2.2 b h b (by simp [hb']) rfl
  ·exact h2.2.2 b hb' b h rfl
 refine ⟨v,xs,g.split s d B (A++D),hxs,e1,?_⟩
 have k:KeepsG g (g.split s d B (A++D)) w w:=⟨fun b hb=>hb,Nat.le_refl _,fun _ _=>rfl,fun _ _=>rfl⟩
 refine S.change (fun h=>h=.inl s∨h=.inl d) S.defers ?_ rfl rfl rfl (Nat.le_refl _) (fun b hb=>hb) (fun b hb=>.inl hb) (fun b hb=>S.publt b hb) S.n (Nat.le_refl _) (fun _ _=>rfl) (fun _ _ _=>rfl) ?_ ?_ ?_ ?_ ?_ ?_ ?_ ?_
 ·simp [Act.put_some,S.tmps]
 ·intro b h ho hc
  simp only [G.split]
  rw [if_neg (fun hb=>hc (.inl (by rw [hso b (hB b hb)] at ho;exact (Option.some.inj ho).symm))),if_neg (by rw [ho];intro e;exact hc (.inr (Option.some.inj e))),ho]
 ·intro t ht
  have h1:t≠d:=fun e=>ht (.inr (by rw [e]))
  have h2:t≠s:=fun e=>ht (.inl (by rw [e]))
  refine ⟨?_,by simp [G.split,h1,h2]⟩
  rw [Act.put_some]
  simp only [Array.getElem?_setIfInBounds]
  rw [if_neg (fun e=>h1 e.symm)]
 ·intro i _;exact ⟨rfl,rfl⟩
 ·intro t y hy
  by_cases ht:t=d
  ·subst ht
   simp only [look,Nat.beq_refl] at hy
   cases hy
   refine .inr ⟨hd,?_,fun b hb=>?_⟩
   ·have e:(a.put (some t) v).tmps.getD t undef=v:=by
     rw [Act.put_some,Array.getD_eq_getD_getElem?]
     simp [show t < a.tmps.size by rw [S.tmps];exact hd]
    rw [e,show (g.split s t B (A++D)).TE t=B by simp [G.split]]
    exact .v (e3.keep k.k (fun _ _=>rfl))
   ·have:b∈B:=by simpa [G.split] using hb
    simp [G.split,this]
  ·by_cases hts:t=s
   ·subst hts
    have h1:Nat.beq t d=false:=by cases h:Nat.beq t d with
     | true=>exact absurd (Nat.eq_of_beq_eq_true h) ht
     | false=>rfl
    simp only [look,h1,Nat.beq_refl] at hy
    cases hy
    refine .inr ⟨hsN,?_,fun b hb=>?_⟩
    ·have e:(a.put (some d) v).tmps.getD t undef=.tuple xs.toArray:=by
      rw [Act.put_some,← hxs,Array.getD_eq_getD_getElem?,Array.getD_eq_getD_getElem?,Array.getElem?_setIfInBounds,if_neg (fun e=>ht e.symm)]
     rw [e,show (g.split t d B (A++D)).TE t=A++D by simp [G.split,ht]]
     exact .v (.tup (e4.keep k.k (fun _ _=>rfl)))
    ·have hb:b∈A++D:=by simpa [G.split,ht] using hb
     simp only [G.split]
     rw [if_neg (hBR b hb),hso b (hR b hb),if_neg (fun e=>hsd (by cases e;rfl))]
   ·rw [killS s d _ st.env t ht hts] at hy
    refine .inl ⟨fun e=>by rcases e with e | e<;>cases e<;>contradiction,?_⟩
    cases hl:look st.env t with
    | none=>rw [hl] at hy;cases hy
    | some z =>
     rw [hl] at hy
     simp only [Option.map_some,Option.some.injEq] at hy
     by_cases hdd:y=.dead
     ·exact .inr ⟨hdd,z,rfl⟩
     ·rcases X.kill_cases (isT s) z with h | ⟨h,h2⟩
      ·rw [h] at hy;exact (hdd (by rw [← hy];rfl)).elim
      ·rw [h] at hy
       rcases X.kill_cases (isT d) z with h3 | ⟨h3,h4⟩
       ·exact (hdd (by rw [← hy,h3])).elim
       ·rw [h3] at hy
        subst hy
        refine .inl ⟨rfl,fun r hr e=>?_⟩
        rcases e with e | e
        ·exact X.kill_rootH h hdd r hr e
        ·exact X.kill_rootH h3 hdd r hr e
 ·intro id b _ hc;rcases hc with hc | hc<;>cases hc
 ·intro t ht
  rcases ht with ht | ht<;>cases ht
  ·simp only [G.split];rw [if_neg hsd,if_pos trivial]
   have h1:=List.nodup_append.1 nod
   have h2:=List.nodup_append.1 h1.2.1
   exact List.nodup_append.2 ⟨h1.1,h2.2.1,fun x hx y hy=>h1.2.2 x hx y (by simp [hy])⟩
  ·simp only [G.split,if_true]
   exact (List.nodup_append.1 (List.nodup_append.1 nod).2.1).1
 ·intro i hi;rcases hi with hi | hi<;>cases hi
 ·intro b h ho
  simp only [G.split] at ho
  by_cases hb:b∈B
  ·exact .inr ⟨.inl ⟨_,hso b (hB b hb)⟩,(S.own b _ (hso b (hB b hb))).2.1,(S.own b _ (hso b (hB b hb))).2.2⟩
  ·rw [if_neg hb] at ho
   split at ho
   ·cases ho
   ·exact .inl ⟨ho,(S.own b h ho).2.2⟩
end
def evExtractO (N:Nat) (o:Oper) (x:Operand) (i:Nat) (e:E):Option E :=
 match dstOf N o with
 | none=>none
 | some d=>match x with
  | .tmp t=>match look e.st.env t with
   | some (.d (.v (.tup us)))=>match us[i]? with
    | some u=>match Nat.beq t d with
     | false=>some { e with st:={ e.st with env:=(d,.d (.v u)) :: (t,.d (.v (.tup (us.set i .any)))) :: kill (isT d) (kill (isT t) e.st.env) } }
     | true=>none
    | none=>none
   | _=>none
  | _=>none
def isOwnT (e:E) (x:Operand) (i:Nat):Bool:=match x with
 | .tmp t=>match look e.st.env t with
  | some (.d (.v (.tup us)))=>match us[i]? with
   | some (.row (some _) _ _)=>true
   | _=>false
  | _=>false
 | _=>false
theorem evExtractO_ok {P:Program} {C:Ctx} {o:Oper} {x:Operand} {i:Nat} {e e':E} (ho:o.op=.extract x i) (h:evExtractO C.N o x i e=some e'):OpOk P C o e e':=by
 unfold evExtractO at h
 split at h
 ·cases h
 rename_i d hd
 obtain ⟨hdd,hdN⟩:=dstOf_eq hd
 split at h
 ·rename_i t
  split at h
  ·rename_i us hl
   split at h
   ·rename_i u hu
    split at h
    ·rename_i hb
     cases h
     have htd:t≠d:=fun e=>by rw [e,Nat.beq_refl] at hb;cases hb
     refine fun hA=>⟨hA,fun g a w S next Q hn=>?_⟩
     obtain ⟨v,xs,g',h1,h2,S'⟩:=S.split htd hdN hl hu
     refine wp_of_run (v:=v) (w':=w) ?_ ?_
     ·unfold execOp
      simp only [ho,Act.eval,h1,Instr.extract,List.getElem?_toArray,h2,Sem.run_bind,Sem.run_pure,Result.andThen_ok]
     ·rw [hdd]
      exact hn _ _ _ S' (fun _=>Calm.refl w)
    ·cases h
   ·cases h
  ·cases h
 ·cases h
def evIaddrA (P:Program) (N:Nat) (o:Oper) (t:TypeId) (x i:Operand) (e:E):Option E :=
 match dstOf N o with
 | none=>none
 | some d=>match P.underlying t with
  | some (.array k el)=>match sizeT P el,val i e with
   | some sz,some (.lit (.int _ n),e)=>match x with
    | .tmp s=>match look e.st.env s with
     | some (.d (.ptr id off))=>some { (need (n < (k:Int)) (need (0≤n) e)) with st:=e.st.put d (.d (.ptr id (off+n.toNat*sz))) }
     | _=>none
    | _=>none
   | _,_=>none
  | _=>none
theorem evIaddrA_ok {P:Program} {C:Ctx} {o:Oper} {t:TypeId} {x i:Operand} {e e':E} (ho:o.op=.indexAddr t x i) (h:evIaddrA P C.N o t x i e=some e'):OpOk P C o e e':=by
 unfold evIaddrA at h
 split at h
 ·cases h
 rename_i d hd
 obtain ⟨hdd,hdN⟩:=dstOf_eq hd
 split at h
 ·rename_i k el hu
  split at h
  ·rename_i sz k' n e1 hsz hv
   split at h
   ·rename_i s
    split at h
    ·rename_i id off hl
     cases h
     intro hA
     obtain ⟨hA,hb⟩:=All.snoc hA
     obtain ⟨hA,ha⟩:=All.snoc hA
     obtain ⟨h0,kv⟩:=val_ok (C:=C) hv hA
     refine ⟨h0,fun g a w S next Q hn=>?_⟩
     obtain ⟨g1,k1,S1,r1⟩:=kv g a w S
     have hi:a.eval i=.int k' n:=r1.lit_inv
     obtain ⟨_,h2,_⟩:=S1.env s _ hl
     have h2:RepD g1 w (a.tmps.getD s undef) (.ptr id off) (g1.TE s):=h2
     generalize hvv:a.tmps.getD s undef=v at h2
     generalize hT:g1.TE s=T at h2
     cases h2 with
     | ptr hid =>
      have hx:a.eval (.tmp s)=.pointer (some ⟨g1.loc id,off,none⟩):=hvv
      have hs2:(sizeOf el).run P w=.ok sz w:=by
       unfold sizeT at hsz
       cases hi2:P.info? el with
       | none=>rw [hi2] at hsz;cases hsz
       | some inf =>
        rw [hi2] at hsz
        cases hsz
        simp only [sizeOf,typeInfo,Sem.run_bind,run_program,Result.andThen_ok,hi2,Sem.run_pure]
      refine wp_of_run (v:=.pointer (some ⟨g1.loc id,off+n.toNat*sz,none⟩)) (w':=w) ?_ ?_
      ·unfold execOp
       simp only [ho,hx,hi,Instr.indexAt,asIntOf,Instr.sureAddr,Sem.run_bind,Sem.run_pure,Result.andThen_ok,run_underlying hu]
       rw [if_pos ⟨ha,hb⟩]
       simp only [Sem.run_bind,hs2,Result.andThen_ok,Sem.run_pure,Addr.add_mid]
      ·rw [hdd]
       exact hn _ _ _ (S1.put0 (Calm.refl w) hdN (.ptr hid)) (fun _=>Calm.refl w)
    ·cases h
   ·cases h
  ·cases h
 ·cases h
theorem RepDL.cut {g:G} {w:World}:∀ (n:Nat) {xs:List Value} {cs:List D} {T:List Nat},RepDL g w xs cs T→∃ A B,T=A++B∧RepDL g w (xs.take n) (cs.take n) A∧RepDL g w (xs.drop n) (cs.drop n) B
 | 0,xs,cs,T,h=>⟨[],T,rfl,by simpa using RepDL.nil,by simpa using h⟩
 | n+1,_,_,_,.nil=>⟨[],[],rfl,by simpa using RepDL.nil,by simpa using RepDL.nil⟩
 | n+1,_,_,_,.cons (A:=A) h1 h2=>by
  obtain ⟨A',B',rfl,h3,h4⟩:=h2.cut n
  exact ⟨A++A',B',by simp,by simpa using .cons h1 h3,by simpa using h4⟩
theorem RepDL.app {g:G} {w:World}:∀ {vs us:List Value} {cs ds:List D} {A B:List Nat},RepDL g w vs cs A→RepDL g w us ds B→RepDL g w (vs++us) (cs++ds) (A++B)
 | _,_,_,_,_,_,.nil,h=>h
 | _,_,_,_,_,_,.cons h1 h2,h=>by rw [List.append_assoc];exact .cons h1 (h2.app h)
theorem RepDL.length {g:G} {w:World}:∀ {vs:List Value} {ds:List D} {T:List Nat},RepDL g w vs ds T→vs.length=ds.length
 | _,_,_,.nil=>rfl
 | _,_,_,.cons _ h=>by simp [h.length]
def dv:List V→List D
 | []=>[]
 | u :: us=>.v u :: dv us
theorem dv_length:∀ {us:List V},(dv us).length=us.length
 | []=>rfl
 | u :: us=>by simp [dv,dv_length]
theorem RepL.dv {g:G} {w:World}:∀ {vs:List Value} {us:List V} {T:List Nat},RepL g.pub w vs us T→RepDL g w vs (dv us) T
 | _,_,_,.nil=>.nil
 | _,_,_,.cons h1 h2=>.cons (.v h1) h2.dv
def undv:List D→Option (List V)
 | []=>some []
 | .v u :: ds=>match undv ds with
  | some us=>some (u :: us)
  | none=>none
 | _=>none
theorem undv_eq:∀ {ds:List D} {us:List V},undv ds=some us→ds=dv us
 | [],us,h=>by cases h;rfl
 | d :: ds,us,h=>by
  cases d with
  | v u =>
   simp only [undv] at h
   split at h
   ·rename_i vs hv
    cases h
    rw [undv_eq hv];rfl
   ·cases h
  | _=>simp [undv] at h
theorem RepDL.undv {g:G} {w:World}:∀ {us:List V} {vs:List Value} {T:List Nat},RepDL g w vs (dv us) T→RepL g.pub w vs us T
 | [],vs,T,h=>by cases h;exact .nil
 | u :: us,vs,T,h=>by
  cases h with
  | cons h1 h2=>exact .cons h1.inv h2.undv
def G.newB (g:G) (l:Nat) (T:List Nat):G :=
 { g with own:=fun b=>if b∈l :: T then some (.inr g.n) else g.own b,n:=g.n+1,loc:=fun i=>if i=g.n then l else g.loc i,TB:=fun i=>if i=g.n then l :: T else g.TB i }
section
variable {P:Program} {C:Ctx} {g:G} {st:St} {a:Act} {w w':World}
theorem SRep.newObj (S:SRep C g st a w) (o:Obj) (bx:Box) (hB:∀ g1,KeepsG g g1 w (w.alloc o)→BRep g1 (w.alloc o) w.heap.size bx [w.heap.size]) :
 SRep C (g.newB w.heap.size []) { st with box:=st.box++[bx] } a (w.alloc o):=by
 have hk:∀ b,b < w.heap.size→(w.alloc o).heap[b]? = w.heap[b]?:=fun b hb=>Below.heap_alloc w _ b hb
 have nown:∀ b h,g.own b=some h→b≠w.heap.size:=fun b h ho e=>by have:=(S.own b h ho).2.1;omega
 have k:KeepsG g (g.newB w.heap.size []) w (w.alloc o):=⟨fun _ h=>h,Nat.le_succ _,fun i hi=>by simp only [G.newB];rw [if_neg (by omega)],fun b hb=>hk b (S.publt b hb)⟩
 refine S.change (fun h=>h=.inr g.n) S.defers S.tmps rfl rfl rfl (by simp) (fun _ h=>h) (fun _ h=>.inl h) (fun b hb=>by have:=S.publt b hb;simp;omega) (by simp [G.newB,S.n]) (Nat.le_succ _) k.loc (fun b hb _=>hk b hb) ?_ ?_ ?_ ?_ ?_ ?_ ?_ ?_
 ·intro b h ho hc
  simp only [G.newB]
  rw [if_neg (by simp;exact nown b h ho),ho]
 ·intro t ht;exact ⟨rfl,rfl⟩
 ·intro i hi
  have hi':i≠g.n:=fun e=>hi (by rw [e])
  refine ⟨by simp only [G.newB];rw [if_neg hi'],?_⟩
  rcases Nat.lt_or_ge i st.box.length with h | h
  ·rw [List.getElem?_append_left h]
  ·rw [List.getElem?_append_right h,List.getElem?_eq_none h]
   have:i - st.box.length≠0:=by rw [S.n] at hi';omega
   simp [this]
 ·intro t x hx
  obtain ⟨h1,h2,h3⟩:=S.env t x hx
  by_cases hr:∃ h,x.rootH=some h∧h=.inr g.n
  ·obtain ⟨h,hh,rfl⟩:=hr
   exfalso
   cases x with
   | al p =>
    simp only [X.rootH,Option.some.injEq] at hh
    obtain ⟨_,hp⟩:=h2
    cases p with
    | top r =>
     cases r with
     | t y=>simp [Pl.root,Root.holder] at hh
     | b i c =>
      simp only [Pl.root,Root.holder,Sum.inr.injEq] at hh
      simp only [pv,pvR] at hp
      rw [if_neg (by omega)] at hp;cases hp
    | elt r sz i j =>
     cases r with
     | t y=>simp [Pl.root,Root.holder] at hh
     | b i c =>
      simp only [Pl.root,Root.holder,Sum.inr.injEq] at hh
      simp only [pv,pvR] at hp
      rw [if_neg (by omega)] at hp;cases hp
   | pa r sz i j =>
    simp only [X.rootH,Option.some.injEq] at hh
    obtain ⟨_,b,hp,_⟩:=h2
    cases r with
    | t y=>simp [Root.holder] at hh
    | b i c =>
     simp only [Root.holder,Sum.inr.injEq] at hh
     simp only [pvR] at hp
     rw [if_neg (by omega)] at hp;cases hp
   | d d=>simp [X.rootH] at hh
   | dead=>simp [X.rootH] at hh
  ·exact .inl ⟨(fun e=>by cases e),.inl ⟨hx,fun h hh e=>hr ⟨h,hh,e⟩⟩⟩
 ·intro id b hb hc
  cases hc
  have hid:g.n=st.box.length:=S.n
  rw [hid,List.getElem?_append_right (Nat.le_refl _)] at hb
  simp only [Nat.sub_self,List.getElem?_cons_zero,Option.some.injEq] at hb
  subst hb
  have e1:(g.newB w.heap.size []).loc g.n=w.heap.size:=by simp [G.newB]
  have e2:(g.newB w.heap.size []).TB g.n=[w.heap.size]:=by simp [G.newB]
  rw [e1,e2]
  refine ⟨hB _ k,fun b hb=>?_⟩
  ·simp only [List.mem_singleton] at hb
   subst hb
   simp [G.newB]
 ·intro t ht;cases ht
 ·intro i hi;cases hi;simp [G.newB]
 ·intro b h ho
  simp only [G.newB] at ho
  by_cases hb:b∈[w.heap.size]
  ·simp only [List.mem_singleton] at hb
   subst hb
   exact .inr ⟨.inr (.inl (Nat.le_refl _)),by simp,fun hp=>by have:=S.publt _ hp;omega⟩
  ·rw [if_neg hb] at ho
   exact .inl ⟨ho,(S.own b h ho).2.2⟩
theorem SRep.newBox (S:SRep C g st a w) {cur:Array Value} {e:TypeId} {cs:List D} (hr:RepDL g w cur.toList cs []) (h1:∀ u∈cur.toList,u.oneCell'=true) :
 SRep C (g.newB w.heap.size []) { st with box:=st.box++[.cells cs] } a (w.alloc (.cells cur e)) :=
 S.newObj _ _ fun g1 k=>⟨cur,e,[],rfl,(by show (w.heap.push _)[w.heap.size]? = _;rw [Array.getElem?_push_size]),hr.keep k (fun _ h=>by cases h),h1⟩
def St.addB (st:St) (cs:List V):St:={ st with box:=st.box++[Box.cells (dv cs)] }
theorem OpOk.box {o:Oper} {e e1:E} {d:Nat} {cs:List V} (hd:dstOf C.N o=some d) (h1:All e1.ob→All e.ob) (hf:allOne cs=true)
 (hrun:All e1.ob→∀ g a w,SRep C g e.st a w→∃ g' cur el,SRep C g' e1.st a w∧(execOp a.eval o).run P w=.ok (.value (.pointer (some ⟨w.heap.size,0,none⟩))) (w.alloc (.cells cur el))∧RepL g'.pub w cur.toList cs []) :
 OpOk P C o e { e1 with st:=(e1.st.addB cs).put d (.d (.ptr e1.st.box.length 0)) }:=by
 intro hA
 obtain ⟨hdd',hdN⟩:=dstOf_eq hd
 refine ⟨h1 hA,fun g a w S next Q hn=>?_⟩
 obtain ⟨g',cur,el,S',hr,hx⟩:=hrun hA g a w S
 refine wp_of_run hr ?_
 rw [hdd']
 have S2:=S'.newBox (e:=el) hx.dv (hx.one hf)
 refine hn _ _ _ (S2.put0 (Calm.refl _) hdN ?_) (fun _=>Calm.alloc w _)
 have:RepD (g'.newB w.heap.size []) (w.alloc (.cells cur el)) (.pointer (some ⟨(g'.newB w.heap.size []).loc g'.n,0,none⟩)) (.ptr g'.n 0) []:=.ptr (by simp [G.newB])
 have e1:(g'.newB w.heap.size []).loc g'.n=w.heap.size:=by simp [G.newB]
 rw [e1] at this
 rw [← S'.n]
 exact this
def evBox (P:Program) (N:Nat) (o:Oper) (t:TypeId) (x:Operand) (e:E):Option E :=
 match dstOf N o with
 | none=>none
 | some d=>match val x e with
  | some (u,e)=>match u.flatOk with
   | true=>some { e with st:=(e.st.addB u.cells).put d (.d (.ptr e.st.box.length 0)) }
   | false=>none
  | none=>none
theorem evBox_ok {o:Oper} {t:TypeId} {x:Operand} {e e':E} (ho:o.op=.box t x) (h:evBox P C.N o t x e=some e'):OpOk P C o e e':=by
 unfold evBox at h
 split at h
 ·cases h
 rename_i d hd
 split at h
 ·rename_i u e1 hv
  split at h
  ·rename_i hf
   cases h
   have hf1:allOne u.cells=true:=by
    cases u with
    | agg cs=>exact hf
    | _=>simp only [V.cells,allOne];simp only [V.flatOk] at hf;rw [hf]
   refine OpOk.box hd (fun hA=>(val_ok (C:=C) hv hA).1) hf1 fun hA g a w S=>?_
   obtain ⟨g1,k1,S1,r1⟩:=(val_ok (C:=C) hv hA).2 g a w S
   refine ⟨g1,(a.eval x).cells,t,S1,?_,(r1.flat hf).1⟩
   unfold execOp
   simp only [ho,Instr.box,newVar,newRow,Sem.run_bind,run_newObj,Result.andThen_ok,Sem.run_pure,World.alloc_eq]
  ·cases h
 ·cases h
def evAlloc (P:Program) (N:Nat) (o:Oper) (t:TypeId) (e:E):Option E :=
 match dstOf N o with
 | none=>none
 | some d=>match zeroV P t with
  | some zs=>some { e with st:=(e.st.addB zs).put d (.d (.ptr e.st.box.length 0)) }
  | none=>none
theorem evAlloc_ok {o:Oper} {t:TypeId} {e e':E} (ho:o.op=.alloc t) (h:evAlloc P C.N o t e=some e'):OpOk P C o e e':=by
 unfold evAlloc at h
 split at h
 ·cases h
 rename_i d hd
 split at h
 ·rename_i zs hz
  cases h
  obtain ⟨i,z,hi,hzv,h1,hr⟩:=zeroV_ok hz
  refine OpOk.box hd id h1 fun hA g a w S=>⟨g,z.cells,t,S,?_,hr g.pub w⟩
  unfold execOp
  simp only [ho,Instr.alloc,zeroValue,typeInfo,run_program,hi,hzv,newVar,newRow,Sem.run_bind,run_newObj,Result.andThen_ok,Sem.run_pure,World.alloc_eq]
 ·cases h
inductive PartR where
 | v (u:V)
 | d (x:D)
 | own
def partB (P:Program) (t:TypeId) (cs:List D):Option PartR:=match rowT P t with
 | some true=>match sizeT P t with
  | some n=>match Nat.ble n cs.length with
   | true=>match undv (cs.take n) with
    | some us=>match V.noOwn.go us with
     | true=>some (.v (.agg us))
     | false=>none
    | none=>none
   | false=>none
  | none=>none
 | some false=>match cs with
  | c :: _=>match c with
   | .v (.row (some _) _ _)=>some .own
   | .v (.agg _)=>none
   | .agg _=>none
   | c=>match c.noOwn with
    | true=>some (.d c)
    | false=>none
  | []=>none
 | none=>none
def evLoadB (P:Program) (N:Nat) (o:Oper) (t:TypeId) (s:Nat) (e:E):Option E :=
 match dstOf N o with
 | none=>none
 | some d=>match look e.st.env s with
  | some (.d (.ptr id off))=>match e.st.box[id]? with
   | some (.cells cs)=>match partB P t (cs.drop off) with
    | some (.v u)=>some (e.put d u)
    | some (.d x)=>some { e with st:=e.st.put d (.d x) }
    | some .own=>some { e with st:=e.st.put d (.al (.top (.b id off))) }
    | none=>none
   | _=>none
  | _=>none
theorem loadVar_agg {w:World} {t:TypeId} {b o n:Nat} {xs:List Value} (ht:rowT P t=some true) (hn:sizeT P t=some n) (hr:w.rangeAt b o xs) (hl:n≤xs.length) :
 (Instr.loadAt t (.pointer (some ⟨b,o,none⟩))).run P w=.ok (.agg (xs.take n).toArray) w:=by
 have hg:=isAgg_run ht w
 unfold sizeT at hn
 cases hi:P.info? t with
 | none=>rw [hi] at hn;cases hn
 | some i =>
  rw [hi] at hn
  cases hn
  have hc:=run_loadCells_list (P:=P) w ⟨b,o,none⟩ (xs.take i.size) (fun j v hj=>by
   rw [Addr.add_mid]
   exact hr j v (by rw [List.getElem?_take] at hj;split at hj;exact hj;cases hj))
  have hl':(xs.take i.size).length=i.size:=by rw [List.length_take];omega
  rw [hl'] at hc
  simp only [Instr.loadAt,Instr.sureAddr,loadVar,Sem.run_bind,Sem.run_pure,Result.andThen_ok,hg,if_true,sizeOf,typeInfo,run_program,hi,hc]
theorem loadVar_one {w:World} {t:TypeId} {b o:Nat} {v:Value} (ht:rowT P t=some false) (hc:w.cell? ⟨b,o,none⟩=some v):(Instr.loadAt t (.pointer (some ⟨b,o,none⟩))).run P w=.ok v w:=by
 have hg:=isAgg_run ht w
 simp only [Instr.loadAt,Instr.sureAddr,loadVar,Sem.run_bind,Sem.run_pure,Result.andThen_ok,hg,Bool.false_eq_true,if_false,run_load,hc]
theorem evLoadB_ok {o:Oper} {t:TypeId} {s:Nat} {e e':E} (ho:o.op=.load t (.tmp s)) (h:evLoadB P C.N o t s e=some e'):OpOk P C o e e':=by
 unfold evLoadB at h
 split at h
 ·cases h
 rename_i d hd
 obtain ⟨hdd,hdN⟩:=dstOf_eq hd
 split at h
 ·rename_i id off hl
  split at h
  ·rename_i cs hb
   have facts:∀ g a w,SRep C g e.st a w→∃ cur:List Value,a.eval (.tmp s)=.pointer (some ⟨g.loc id,off,none⟩)∧w.rangeAt (g.loc id) off (cur.drop off)∧(∃ B,RepDL g w (cur.drop off) (cs.drop off) B)∧id < g.n∧g.own (g.loc id)=some (.inr id):=by
    intro g a w S
    obtain ⟨_,h2,_⟩:=S.env s _ hl
    have h2:RepD g w (a.tmps.getD s undef) (.ptr id off) (g.TE s):=h2
    obtain ⟨⟨cur,el,A,hT,hh,hr,h1⟩,hown⟩:=S.box id _ hb
    obtain ⟨A1,B1,_,_,hd2⟩:=hr.cut off
    refine ⟨cur.toList,?_,fun j v hj=>?_,⟨_,hd2⟩,?_,hown _ (by rw [hT];simp)⟩
    ·show a.tmps.getD s undef=_
     generalize a.tmps.getD s undef=v at h2
     generalize g.TE s=T at h2
     cases h2
     rfl
    ·rw [List.getElem?_drop] at hj
     simp only [World.cell?,hh]
     simpa using hj
    ·rw [S.n]
     rcases Nat.lt_or_ge id e.st.box.length with h | h
     ·exact h
     ·rw [List.getElem?_eq_none h] at hb;cases hb
   have exec:∀ {a:Act} {w:World} {b q:Nat} {v:Value},a.eval (.tmp s)=.pointer (some ⟨b,q,none⟩)→(Instr.loadAt t (.pointer (some ⟨b,q,none⟩))).run P w=.ok v w→(execOp a.eval o).run P w=.ok (.value v) w:=by
    intro a w b q v hx hr
    unfold execOp
    simp only [ho,hx,Sem.run_bind,hr,Result.andThen_ok,Sem.run_pure]
   split at h
   ·rename_i u hp
    cases h
    refine OpOk.vv hd (fun h=>h) fun _ g a w S=>?_
    obtain ⟨cur,hx,hrg,⟨B,hrep⟩,_⟩:=facts g a w S
    unfold partB at hp
    split at hp
    ·rename_i ht
     split at hp
     ·rename_i n hn
      split at hp
      ·rename_i hle
       have hle:=Nat.le_of_ble_eq_true hle
       split at hp
       ·rename_i us hus
        split at hp
        ·rename_i hno
         cases hp
         obtain ⟨A2,B2,_,h3,_⟩:=hrep.cut n
         rw [undv_eq hus] at h3
         have h4:=h3.undv
         have hA2:=h4.noOwn hno
         subst hA2
         refine ⟨_,g,S,exec hx (loadVar_agg ht hn hrg (by rw [hrep.length];exact hle)),.agg h4⟩
        ·cases hp
       ·cases hp
      ·cases hp
     ·cases hp
    ·split at hp
     ·split at hp
      ·cases hp
      ·cases hp
      ·cases hp
      ·split at hp<;>cases hp
     ·cases hp
    ·cases hp
   ·rename_i x hp
    cases h
    refine fun hA=>⟨hA,fun g a w S next Q hn=>?_⟩
    obtain ⟨cur,hx,hrg,⟨B,hrep⟩,_⟩:=facts g a w S
    unfold partB at hp
    split at hp
    ·split at hp
     ·split at hp
      ·split at hp
       ·split at hp<;>cases hp
       ·cases hp
      ·cases hp
     ·cases hp
    ·rename_i ht
     split at hp
     ·rename_i c cs' hcs
      split at hp
      ·cases hp
      ·cases hp
      ·cases hp
      ·split at hp
       ·rename_i hno
        cases hp
        rw [hcs] at hrep
        generalize hys:cur.drop off=ys at hrep hrg
        cases hrep with
        | @cons v _ vs _ A2 B2 r1 r2 =>
         have hA2:=r1.noOwn hno
         subst hA2
         have hc:=hrg 0 v rfl
         rw [Nat.add_zero] at hc
         refine wp_of_run (exec hx (loadVar_one ht hc)) ?_
         rw [hdd]
         exact hn _ _ _ (S.put0 (Calm.refl w) hdN r1) (fun _=>Calm.refl w)
       ·cases hp
     ·cases hp
    ·cases hp
   ·rename_i hp
    cases h
    have hkx:(X.al (.top (.b id off))).kill (isT d)=.al (.top (.b id off)):=rfl
    refine OpOk.xa hd (fun h=>h) hkx (by simp) (by simp) fun _ g a w S=>?_
    obtain ⟨cur,hx,hrg,⟨B,hrep⟩,hid,hown⟩:=facts g a w S
    unfold partB at hp
    split at hp
    ·split at hp
     ·split at hp
      ·split at hp
       ·split at hp<;>cases hp
       ·cases hp
      ·cases hp
     ·cases hp
    ·rename_i ht
     split at hp
     ·rename_i c cs' hcs
      rw [hcs] at hrep
      generalize hys:cur.drop off=ys at hrep hrg
      cases hrep with
      | @cons v _ vs _ A2 B2 r1 r2 =>
       have hc:=hrg 0 v rfl
       rw [Nat.add_zero] at hc
       refine ⟨v,g,S,exec hx (loadVar_one ht hc),rfl,?_⟩
       simp only [pv,pvR]
       rw [if_pos ⟨hid,hown⟩]
       exact hc
     ·cases hp
    ·cases hp
   ·cases h
  ·cases h
 ·cases h
end
section
variable {P:Program} {C:Ctx} {g:G} {st:St} {a:Act} {w w':World}
def isBx (id:Nat):Root→Bool
 | .b i _=>Nat.beq i id
 | _=>false
def G.unbox (g:G) (id d:Nat) (A:List Nat):G :=
 { g with own:=fun b=>if b∈A then some (.inl d) else if g.own b=some (.inl d) then none else if g.own b=some (.inr id) then none else g.own b,TE:=fun t=>if t=d then A else g.TE t,TB:=fun i=>if i=id then [] else g.TB i }
theorem SRep.unbox (S:SRep C g st a w) {id d:Nat} (hd:d < C.N) {cs:List D} (hb:st.box[id]? = some (.cells cs)) {v:Value} {x:D} {A:List Nat} (hT:g.TB id=g.loc id :: A) (hr:RepD g w v x A) :
 SRep C (g.unbox id d A) { env:=(d,.d x) :: kill (isT d) (kill (isBx id) st.env),box:=st.box.set id .gone } (a.put (some d) v) w:=by
 obtain ⟨hB,hBo⟩:=S.box id _ hb
 have hAo:∀ b∈A,g.own b=some (.inr id):=fun b hb=>hBo b (by rw [hT];exact List.mem_cons_of_mem _ hb)
 have hlt:id < st.box.length:=(List.getElem?_eq_some_iff.1 hb).1
 have k:KeepsG g (g.unbox id d A) w w:=⟨fun b hb=>hb,Nat.le_refl _,fun _ _=>rfl,fun _ _=>rfl⟩
 refine S.change (fun h=>h=.inr id∨h=.inl d) S.defers ?_ rfl rfl rfl (Nat.le_refl _) (fun b hb=>hb) (fun b hb=>.inl hb) (fun b hb=>S.publt b hb) ?_ (Nat.le_refl _) (fun _ _=>rfl) (fun _ _ _=>rfl) ?_ ?_ ?_ ?_ ?_ ?_ ?_ ?_
 ·simp [Act.put_some,S.tmps]
 ·show g.n=(st.box.set id .gone).length
  rw [List.length_set];exact S.n
 ·intro b h ho hc
  simp only [G.unbox]
  rw [if_neg (fun hb=>hc (.inl (by rw [hAo b hb] at ho;exact (Option.some.inj ho).symm))),if_neg (by rw [ho];intro e;exact hc (.inr (Option.some.inj e))),if_neg (by rw [ho];intro e;exact hc (.inl (Option.some.inj e))),ho]
 ·intro t ht
  have h1:t≠d:=fun e=>ht (.inr (by rw [e]))
  refine ⟨?_,by simp [G.unbox,h1]⟩
  rw [Act.put_some]
  simp only [Array.getElem?_setIfInBounds]
  rw [if_neg (fun e=>h1 e.symm)]
 ·intro i hi
  have h1:i≠id:=fun e=>hi (.inl (by rw [e]))
  refine ⟨by simp [G.unbox,h1],?_⟩
  exact List.getElem?_set_ne (fun e=>h1 e.symm)
 ·intro t y hy
  by_cases ht:t=d
  ·subst ht
   simp only [look,Nat.beq_refl] at hy
   cases hy
   refine .inr ⟨hd,?_,fun b hb=>?_⟩
   ·have e:(a.put (some t) v).tmps.getD t undef=v:=by
     rw [Act.put_some,Array.getD_eq_getD_getElem?]
     simp [show t < a.tmps.size by rw [S.tmps];exact hd]
    rw [e,show (g.unbox id t A).TE t=A by simp [G.unbox]]
    exact RepD.keep k hr (fun _ _=>rfl)
   ·have:b∈A:=by simpa [G.unbox] using hb
    simp [G.unbox,this]
  ·have h1:Nat.beq t d=false:=by cases h:Nat.beq t d with
    | true=>exact absurd (Nat.eq_of_beq_eq_true h) ht
    | false=>rfl
   simp only [look,h1,look_kill,Option.map_map] at hy
   refine .inl ⟨fun e=>by rcases e with e | e<;>cases e;contradiction,?_⟩
   cases hl:look st.env t with
   | none=>rw [hl] at hy;cases hy
   | some z =>
    rw [hl] at hy
    simp only [Option.map_some,Option.some.injEq,Function.comp] at hy
    by_cases hdd:y=.dead
    ·exact .inr ⟨hdd,z,rfl⟩
    ·rcases X.kill_cases (isBx id) z with h | ⟨h,h2⟩
     ·rw [h] at hy;exact (hdd (by rw [← hy];rfl)).elim
     ·rw [h] at hy
      rcases X.kill_cases (isT d) z with h3 | ⟨h3,h4⟩
      ·exact (hdd (by rw [← hy,h3])).elim
      ·rw [h3] at hy
       subst hy
       refine .inl ⟨rfl,fun r hr e=>?_⟩
       rcases e with e | e
       ·subst e
        cases z with
        | al p =>
         simp only [X.rootH,Option.some.injEq] at hr
         cases hp:p.root with
         | t q=>rw [hp] at hr;cases hr
         | b i c =>
          rw [hp] at hr
          simp only [Root.holder,Sum.inr.injEq] at hr
          simp only at h2
          rw [hp,hr] at h2
          simp [isBx] at h2
        | pa q _ _ _ =>
         simp only [X.rootH,Option.some.injEq] at hr
         cases q with
         | t q=>cases hr
         | b i c =>
          simp only [Root.holder,Sum.inr.injEq] at hr
          simp only at h2
          rw [hr] at h2
          simp [isBx] at h2
        | d _=>cases hr
        | dead=>cases hr
       ·exact X.kill_rootH h3 hdd r hr e
 ·intro i b hb' hc
  rcases hc with hc | hc<;>cases hc
  rw [List.getElem?_set_self hlt] at hb'
  cases hb'
  refine ⟨by simp [BRep,G.unbox],fun b hb=>by simp [G.unbox] at hb⟩
 ·intro t ht
  rcases ht with ht | ht<;>cases ht
  have:=S.nodB id
  rw [hT] at this
  simpa [G.unbox] using (List.nodup_cons.1 this).2
 ·intro i hi
  rcases hi with hi | hi<;>cases hi
  simp [G.unbox]
 ·intro b h ho
  simp only [G.unbox] at ho
  by_cases hb:b∈A
  ·exact .inr ⟨.inl ⟨_,hAo b hb⟩,(S.own b _ (hAo b hb)).2.1,(S.own b _ (hAo b hb)).2.2⟩
  ·rw [if_neg hb] at ho
   split at ho
   ·cases ho
   ·split at ho
    ·cases ho
    ·exact .inl ⟨ho,(S.own b h ho).2.2⟩
def evLoadM (P:Program) (N:Nat) (o:Oper) (t:TypeId) (s:Nat) (e:E):Option E :=
 match dstOf N o with
 | none=>none
 | some d=>match look e.st.env s with
  | some (.d (.ptr id off))=>match Nat.beq off 0 with
   | true=>match e.st.box[id]? with
    | some (.cells cs)=>match rowT P t with
     | some true=>match sizeT P t with
      | some n=>match Nat.beq n cs.length with
       | true=>match undv cs with
        | some us=>some { e with st:={ env:=(d,.d (.v (.agg us))) :: kill (isT d) (kill (isBx id) e.st.env),box:=e.st.box.set id .gone } }
        | none=>none
       | false=>none
      | none=>none
     | _=>none
    | _=>none
   | false=>none
  | _=>none
theorem evLoadM_ok {o:Oper} {t:TypeId} {s:Nat} {e e':E} (ho:o.op=.load t (.tmp s)) (h:evLoadM P C.N o t s e=some e'):OpOk P C o e e':=by
 unfold evLoadM at h
 split at h
 ·cases h
 rename_i d hd
 obtain ⟨hdd,hdN⟩:=dstOf_eq hd
 split at h
 ·rename_i id off hl
  split at h
  ·rename_i hoff
   have hoff:=Nat.eq_of_beq_eq_true hoff
   subst hoff
   split at h
   ·rename_i cs hb
    split at h
    ·rename_i ht
     split at h
     ·rename_i n hn
      split at h
      ·rename_i hnl
       have hnl:=Nat.eq_of_beq_eq_true hnl
       split at h
       ·rename_i us hus
        cases h
        refine fun hA=>⟨hA,fun g a w S next Q hnx=>?_⟩
        obtain ⟨_,h2,_⟩:=S.env s _ hl
        have h2:RepD g w (a.tmps.getD s undef) (.ptr id 0) (g.TE s):=h2
        obtain ⟨⟨cur,el,A,hT,hh,hr,h1⟩,hown⟩:=S.box id _ hb
        have hx:a.eval (.tmp s)=.pointer (some ⟨g.loc id,0,none⟩):=by
         show a.tmps.getD s undef=_
         generalize a.tmps.getD s undef=v at h2
         generalize g.TE s=T at h2
         cases h2
         rfl
        have hrg:w.rangeAt (g.loc id) 0 cur.toList:=fun j v hj=>by
         simp only [World.cell?,hh]
         simpa using hj
        have hlen:=hr.length
        have hload:=loadVar_agg (P:=P) ht hn hrg (by omega)
        rw [List.take_of_length_le (by omega)] at hload
        have run:(execOp a.eval o).run P w=.ok (.value (.agg cur.toList.toArray)) w:=by
         unfold execOp
         simp only [ho,hx,Sem.run_bind,hload,Result.andThen_ok,Sem.run_pure]
        refine wp_of_run run ?_
        rw [hdd]
        rw [undv_eq hus] at hr
        exact hnx _ _ _ (S.unbox hdN hb hT (.v (.agg hr.undv))) (fun _=>Calm.refl w)
       ·cases h
      ·cases h
     ·cases h
    ·cases h
   ·cases h
  ·cases h
 ·cases h
end
def evSliceP (P:Program) (N:Nat) (o:Oper) (t:TypeId) (x:Operand) (e:E):Option E :=
 match dstOf N o with
 | none=>none
 | some d=>match P.underlying t with
  | some (.array n el)=>match sizeT P el,vals [x] e with
   | some sz,some ([.pt cs],e1)=>match hint e1 with
    | some (.row none _ es,e2)=>match Nat.beq es.length n with
     | true=>some ((need (es.all (fun y=>Nat.beq y.cells.length sz)=true) (need (es.flatMap V.cells=cs) e2)).put d (.row none sz es))
     | false=>none
    | _=>none
   | _,_=>none
  | _=>none
theorem pt_inv {p:Pub} {w:World} {v:Value} {cs:List V} {T:List Nat} (h:Rep p w v (.pt cs) T):∃ b of xs,v=.pointer (some ⟨b,of,none⟩)∧RepL p w xs cs []∧(∀ u∈xs,u.oneCell'=true)∧p b∧∀ j u,xs[j]? = some u→w.cell? ⟨b,of+j,none⟩=some u:=by
 cases h with
 | pt a b c d=>exact ⟨_,_,_,rfl,a,b,c,d⟩
theorem evSliceP_ok {P:Program} {C:Ctx} {o:Oper} {t:TypeId} {x:Operand} {e e':E} (ho:o.op=.slice t x none none none) (h:evSliceP P C.N o t x e=some e'):OpOk P C o e e':=by
 unfold evSliceP at h
 split at h
 ·cases h
 rename_i d hd
 split at h
 ·rename_i n el hu2
  ·split at h
   ·rename_i sz cs e1 hsz hv
    split at h
    ·rename_i sz' es e2 hh
     split at h
     ·rename_i hn
      have hn:=Nat.eq_of_beq_eq_true hn
      cases h
      obtain ⟨q1,q2⟩:=hint_eq hh
      have key:∀ {A:Prop} {B:Prop},All (need A (need B e2)).ob→All e1.ob∧B∧A:=fun hA=>by
       obtain ⟨hA,ha⟩:=All.snoc hA
       obtain ⟨hA,hb⟩:=All.snoc hA
       exact ⟨q1 ▸ hA,hb,ha⟩
      refine OpOk.of0 hd hv (by show St.put e2.st d _=_;rw [q2]) (fun hA=>(key hA).1) fun hA ρ w p hr=>?_
      obtain ⟨_,hfl,hal⟩:=key hA
      simp only [List.map_cons,List.map_nil] at hr
      have hx:∃ b of xs,ρ x=.pointer (some ⟨b,of,none⟩)∧RepL p w xs cs []∧(∀ u∈xs,u.oneCell'=true)∧p b∧∀ j u,xs[j]? = some u→w.cell? ⟨b,of+j,none⟩=some u:=by
       obtain ⟨v,vs,hvs,r1,_⟩:=hr.cons_inv
       have hx:ρ x=v:=(List.cons.inj hvs).1
       rw [hx]
       exact pt_inv r1
      obtain ⟨b,of,xs,hx,r1,r2,r3,r4⟩:=hx
      have hs2:(sizeOf el).run P w=.ok sz w:=by
       unfold sizeT at hsz
       cases hi2:P.info? el with
       | none=>rw [hi2] at hsz;cases hsz
       | some inf =>
        rw [hi2] at hsz
        cases hsz
        simp only [sizeOf,typeInfo,Sem.run_bind,run_program,Result.andThen_ok,hi2,Sem.run_pure]
      refine ⟨.slice (some ⟨b,of,none⟩) es.length es.length,?_,.shared (Nat.le_refl _) (fun y hy=>Nat.eq_of_beq_eq_true (List.all_eq_true.1 hal y hy)) (by rw [hfl];exact r1) r2 (fun j u hj=>⟨b,of,rfl,r3,r4 j u hj⟩)⟩
      unfold execOp
      subst hn
      simp only [ho,hx,Instr.sliceAt,Instr.slice,Sem.run_bind,run_underlying hu2,Option.map_none,Result.andThen_ok,Instr.sureAddr,Instr.sliceBounds,Sem.run_pure,hs2,Nat.zero_mul,Nat.sub_zero,Addr.add_mid,Nat.add_zero,ite_self]
     ·cases h
    ·cases h
   ·cases h
 ·cases h
def wipeT (t:Option Nat) (l:List (Nat × X)):List (Nat × X):=match t with
 | none=>l
 | some t=>(t,.dead) :: kill (isT t) l
def G.setB (g:G) (id:Nat) (t:Option Nat) (T:List Nat):G :=
 { g with own:=fun b=>if b∈T then some (.inr id) else if g.own b=some (.inr id) then none else match t with
            | some t=>if g.own b=some (.inl t) then none else g.own b
            | none=>g.own b,
          TE:=fun s=>match t with
            | some t=>if s=t then [] else g.TE s
            | none=>g.TE s,
          TB:=fun i=>if i=id then T else g.TB i }
def St.setBox (st:St) (id:Nat) (t:Option Nat) (cs:List D):St:={ env:=kill (isB id) (wipeT t st.env),box:=st.box.set id (.cells cs) }
section
variable {P:Program} {C:Ctx} {g:G} {st:St} {a:Act} {w w':World}
theorem SRep.setBox (S:SRep C g st a w) {id:Nat} {t:Option Nat} {cs cs':List D} {cur cur':Array Value} {el:TypeId} {A A':List Nat} (hb:st.box[id]? = some (.cells cs)) (hT:g.TB id=g.loc id :: A)
 (hh:w.heap[g.loc id]? = some (.cells cur el (0,0))) (hg:w'.heap[g.loc id]? = some (.cells cur' el (0,0))) (ho:w'.os=w.os) (htp:w'.tape=w.tape) (hou:w'.output=w.output) (hsz:w'.heap.size=w.heap.size)
 (hoth:∀ b,b≠g.loc id→w'.heap[b]? = w.heap[b]?) (hr:RepDL g w cur'.toList cs' A') (h1:∀ u∈cur'.toList,u.oneCell'=true) (hn:(g.loc id :: A').Nodup)
 (hA:∀ b∈A',b∈A∨∃ q,t=some q∧g.own b=some (.inl q)) (htN:∀ q,t=some q→q < C.N) :
 SRep C (g.setB id t (g.loc id :: A')) (st.setBox id t cs') a w':=by
 have hid:id < st.box.length:=by
  rcases Nat.lt_or_ge id st.box.length with h | h
  ·exact h
  ·rw [List.getElem?_eq_none h] at hb;cases hb
 have hown:∀ b∈g.TB id,g.own b=some (.inr id):=(S.box id _ hb).2
 have hlo:g.own (g.loc id)=some (.inr id):=hown _ (by rw [hT];simp)
 have hAo:∀ b∈A',g.own b=some (.inr id)∨∃ q,t=some q∧g.own b=some (.inl q):=fun b hb'=>(hA b hb').imp (fun h=>hown b (by rw [hT];simp [h])) (fun h=>h)
 have hne:∀ b∈A',b≠g.loc id:=fun b hb' e=>(List.nodup_cons.1 hn).1 (e ▸ hb')
 let chg:Nat ⊕ Nat→Prop:=fun h=>h=.inr id∨∃ q,t=some q∧h=.inl q
 have notin:∀ b h,g.own b=some h→¬ chg h→b∉g.loc id :: A':=by
  intro b h ho' hc hb'
  rcases List.mem_cons.1 hb' with rfl | hb'
  ·rw [hlo] at ho';cases ho';exact hc (.inl rfl)
  ·rcases hAo b hb' with h2 | ⟨q,hq,h2⟩
   ·rw [h2] at ho';cases ho';exact hc (.inl rfl)
   ·rw [h2] at ho';cases ho';exact hc (.inr ⟨q,hq,rfl⟩)
 have k:KeepsG g (g.setB id t (g.loc id :: A')) w w':=⟨fun _ h=>h,Nat.le_refl _,fun _ _=>rfl,fun b hb'=>hoth b (fun e=>(S.own _ _ hlo).2.2 (e ▸ hb'))⟩
 refine S.change chg S.defers S.tmps ho htp hou (Nat.le_of_eq hsz.symm) (fun _ h=>h) (fun _ h=>.inl h) (fun b hb'=>by rw [hsz];exact S.publt b hb') (by simpa [St.setBox,G.setB] using S.n) (Nat.le_refl _) (fun _ _=>rfl) ?_ ?_ ?_ ?_ ?_ ?_ ?_ ?_ ?_
 ·intro b hb' h
  refine hoth b (fun e=>?_)
  subst e
  rcases h with h | ⟨h,h2,h3⟩ | ⟨h2,h3⟩
  ·exact (S.own _ _ hlo).2.2 h
  ·rw [hlo] at h2;cases h2;exact h3 (.inl rfl)
  ·rcases (S.own _ _ hlo).1 with h4 | h4
   ·omega
   ·exact h3 h4
 ·intro b h ho' hc
  simp only [G.setB]
  rw [if_neg (notin b h ho' hc),if_neg (by rw [ho'];intro e;exact hc (.inl (Option.some.inj e)))]
  cases t with
  | none=>exact ho'
  | some q =>
   simp only
   rw [if_neg (by rw [ho'];intro e;exact hc (.inr ⟨q,rfl,Option.some.inj e⟩))]
   exact ho'
 ·intro s hs
  refine ⟨rfl,?_⟩
  simp only [G.setB]
  cases t with
  | none=>rfl
  | some q =>
   simp only
   rw [if_neg (fun e=>hs (.inr ⟨q,rfl,by rw [e]⟩))]
 ·intro i hi
  have hi':i≠id:=fun e=>hi (.inl (by rw [e]))
  exact ⟨by simp only [G.setB];rw [if_neg hi'],by simp only [St.setBox];rw [List.getElem?_set_ne (fun e=>hi' e.symm)]⟩
 ·intro s y hy
  simp only [St.setBox,look_kill] at hy
  have main:∀ z q,look st.env s=some z→t=some q→s≠q→y=(z.kill (isT q)).kill (isB id) →
   (¬ chg (.inl s)∧(look st.env s=some y∧(∀ h,y.rootH=some h→¬ chg h)∨y=.dead∧∃ z,look st.env s=some z)):=by
   intro z q hz hq' hsq hyz
   have hnc:¬ chg (.inl s):=by
    rintro (e | ⟨q',hq2,e⟩)
    ·cases e
    ·rw [hq'] at hq2;cases hq2;cases e;exact hsq rfl
   refine ⟨hnc,?_⟩
   by_cases hdd:y=.dead
   ·exact .inr ⟨hdd,z,hz⟩
   ·rcases X.kill_cases (isT q) z with h | ⟨h,_⟩
    ·exact (hdd (by rw [hyz,h];rfl)).elim
    ·rw [h] at hyz
     rcases X.kill_cases (isB id) z with h3 | ⟨h3,_⟩
     ·exact (hdd (by rw [hyz,h3])).elim
     ·rw [h3] at hyz
      subst hyz
      refine .inl ⟨hz,fun r hr e=>?_⟩
      rcases e with e | ⟨q',hq2,e⟩
      ·exact X.killR_rootH (q:=.b id 0) h3 hdd r hr e
      ·rw [hq'] at hq2
       cases hq2
       exact X.kill_rootH h hdd r hr e
  cases t with
  | none =>
   simp only [wipeT] at hy
   cases hl:look st.env s with
   | none=>rw [hl] at hy;cases hy
   | some z =>
    rw [hl] at hy
    simp only [Option.map_some,Option.some.injEq] at hy
    have hnc:¬ chg (.inl s):=by
     rintro (e | ⟨q,hq',e⟩)
     ·cases e
     ·cases hq'
    refine .inl ⟨hnc,?_⟩
    by_cases hdd:y=.dead
    ·exact .inr ⟨hdd,z,rfl⟩
    ·rcases X.kill_cases (isB id) z with h | ⟨h,_⟩
     ·exact (hdd (by rw [← hy,h])).elim
     ·rw [h] at hy
      subst hy
      refine .inl ⟨rfl,fun r hr e=>?_⟩
      rcases e with e | ⟨q,hq',e⟩
      ·exact X.killR_rootH (q:=.b id 0) h hdd r hr e
      ·cases hq'
  | some q =>
   simp only [wipeT,look] at hy
   cases hbq:Nat.beq s q with
   | true =>
    have:=Nat.eq_of_beq_eq_true hbq
    subst this
    rw [hbq] at hy
    cases hy
    exact .inr ⟨htN s rfl,trivial,by simp [G.setB]⟩
   | false =>
    have hsq:s≠q:=fun e=>by rw [e,Nat.beq_refl] at hbq;cases hbq
    rw [hbq] at hy
    simp only [look_kill] at hy
    cases hl:look st.env s with
    | none=>rw [hl] at hy;cases hy
    | some z =>
     rw [hl] at hy
     simp only [Option.map_some,Option.some.injEq] at hy
     have:=main z q hl rfl hsq hy.symm
     rw [hl] at this
     exact .inl this
 ·intro i b hb' hc
  rcases hc with hc | ⟨q,_,hc⟩
  ·cases hc
   simp only [St.setBox] at hb'
   rw [List.getElem?_set_self hid] at hb'
   cases hb'
   have e1:(g.setB id t (g.loc id :: A')).TB id=g.loc id :: A':=by simp [G.setB]
   rw [e1]
   refine ⟨⟨cur',el,A',rfl,hg,hr.keep k (fun b hb'=>hoth b (hne b hb')),h1⟩,fun b hb'=>?_⟩
   simp only [G.setB]
   rw [if_pos hb']
  ·cases hc
 ·intro s hs
  rcases hs with hs | ⟨q,hq,hs⟩
  ·cases hs
  ·cases hs
   simp [G.setB,hq]
 ·intro i hi
  rcases hi with hi | ⟨q,_,hi⟩
  ·cases hi;simp only [G.setB,if_true];exact hn
  ·cases hi
 ·intro b h ho'
  simp only [G.setB] at ho'
  by_cases hb':b∈g.loc id :: A'
  ·have:∃ h',g.own b=some h':=by
    rcases List.mem_cons.1 hb' with rfl | hb'
    ·exact ⟨_,hlo⟩
    ·rcases hAo b hb' with h2 | ⟨q,_,h2⟩
     ·exact ⟨_,h2⟩
     ·exact ⟨_,h2⟩
   obtain ⟨h',h2⟩:=this
   exact .inr ⟨.inl ⟨h',h2⟩,by rw [hsz];exact (S.own b h' h2).2.1,(S.own b h' h2).2.2⟩
  ·rw [if_neg hb'] at ho'
   split at ho'
   ·cases ho'
   ·cases t with
    | none=>exact .inl ⟨ho',(S.own b h ho').2.2⟩
    | some q =>
     simp only at ho'
     split at ho'
     ·cases ho'
     ·exact .inl ⟨ho',(S.own b h ho').2.2⟩
end
section
variable {P:Program} {C:Ctx} {g:G} {st:St} {a:Act} {w w':World}
theorem storeAt_run {w:World} {t:TypeId} {b off:Nat} {v:Value} {cur:Array Value} {el:TypeId} {fz:Nat × Nat} (hh:w.heap[b]? = some (.cells cur el fz)) (haw:Away fz cur.size) (hs:sizeT P t=some v.cells.size) (hl:off+v.cells.size≤cur.size) (h1:∀ u∈v.cells.toList,u.oneCell'=true) :
 (Instr.storeAt t (.pointer (some ⟨b,off,none⟩)) v).run P w=.ok () (w.setRow b (cur.toList.take off++v.cells.toList++cur.toList.drop (off+v.cells.size)).toArray):=by
 have:=run_storeCells_fz (P:=P) b off el fz v.cells.toList 0 cur w hh haw (by simpa using hl) h1
 simp only [Nat.add_zero,Array.length_toList] at this
 unfold sizeT at hs
 cases hi:P.info? t with
 | none=>rw [hi] at hs;cases hs
 | some i =>
  rw [hi] at hs
  have hs:i.size=v.cells.size:=Option.some.inj hs
  simp only [Instr.storeAt,Instr.sureAddr,storeVar,Sem.run_bind,Sem.run_pure,Result.andThen_ok,sizeOf,typeInfo,run_program,hi,hs]
  rw [if_neg (by simp)]
  exact this
theorem OpOk.store {o:Oper} {e e1:E} {t:TypeId} {s id off:Nat} {x:Operand} {src:Option Nat} {cs ds:List D} (ho:o.op=.store t (.tmp s) x) (hd:o.dst=none) (h1:All e1.ob→All e.ob)
 (hl:look e1.st.env s=some (.d (.ptr id off))) (hb:e1.st.box[id]? = some (.cells cs)) (hlen:off+ds.length≤cs.length) (hsz:sizeT P t=some ds.length)
 (hrun:All e1.ob→∀ g a w,SRep C g e.st a w→∃ g1 T,SRep C g1 e1.st a w∧RepDL g1 w (a.eval x).cells.toList ds T∧(∀ u∈(a.eval x).cells.toList,u.oneCell'=true)∧T.Nodup∧∀ b∈T,∃ q,src=some q∧g1.own b=some (.inl q)) (hsrc:∀ q,src=some q→∃ y,look e1.st.env q=some y) :
 OpOk P C o e { e1 with st:=e1.st.setBox id src (cs.take off++ds++cs.drop (off+ds.length)) }:=by
 intro hA
 refine ⟨h1 hA,fun g a w S next Q hn=>?_⟩
 obtain ⟨g1,T,S1,hr,hone,hTn,hTo⟩:=hrun hA g a w S
 obtain ⟨_,h2,_⟩:=S1.env s _ hl
 have h2:RepD g1 w (a.tmps.getD s undef) (.ptr id off) (g1.TE s):=h2
 have hptr:a.eval (.tmp s)=.pointer (some ⟨g1.loc id,off,none⟩):=by
  show a.tmps.getD s undef=_
  generalize a.tmps.getD s undef=v at h2
  generalize g1.TE s=T at h2
  cases h2
  rfl
 obtain ⟨⟨cur,el,A,hT,hh,hrc,hc1⟩,hown⟩:=S1.box id _ hb
 have hcl:cur.size=cs.length:=by rw [← Array.length_toList];exact hrc.length
 have hvl:(a.eval x).cells.size=ds.length:=by rw [← Array.length_toList];exact hr.length
 obtain ⟨A1,B1,hAB,hd1,hdr⟩:=hrc.cut off
 obtain ⟨M,B2,hMB,_,hd2⟩:=hdr.cut ds.length
 rw [List.drop_drop,List.drop_drop] at hd2
 subst hMB
 have hst:=storeAt_run (P:=P) (t:=t) (b:=g1.loc id) (off:=off) (v:=a.eval x) hh (.inl rfl) (by rw [hvl];exact hsz) (by rw [hvl,hcl];exact hlen) hone
 have hexec:(execOp a.eval o).run P w=.ok .skip (w.setRow (g1.loc id) (cur.toList.take off++(a.eval x).cells.toList++cur.toList.drop (off+(a.eval x).cells.size)).toArray):=by
  unfold execOp
  simp only [ho,hptr,Sem.run_bind,hst,Result.andThen_ok,Sem.run_pure]
 unfold Oper.wp
 rw [hexec,Oper.upon_skip,hd]
 have hn':=S1.nodB id
 rw [hT,hAB] at hn'
 have hnA:=List.nodup_append.1 (List.nodup_cons.1 hn').2
 have hnM:=List.nodup_append.1 hnA.2.1
 have hTown:∀ b∈T,b∉g1.loc id :: (A1++(M++B2)):=fun b hb' hm=>by
  obtain ⟨q,_,hq⟩:=hTo b hb'
  have:=hown b (by rw [hT,hAB];exact hm)
  rw [hq] at this;cases this
 refine hn _ _ _ (S1.setBox (t:=src) (A':=A1++T++B2) (cur:=cur) (el:=el) (w':=w.setRow (g1.loc id) (cur.toList.take off++(a.eval x).cells.toList++cur.toList.drop (off+(a.eval x).cells.size)).toArray) hb hT hh (setRow_heap w _ cur _ el _ hh) rfl rfl rfl (by simp) (fun b hb'=>setRow_other w _ b _ hb') ?_ ?_ ?_ ?_ ?_) (fun h=>by rw [ho] at h;cases h)
 ·simp only [List.toList_toArray]
  rw [hvl]
  exact (hd1.app hr).app hd2
 ·intro u hu
  simp only [List.toList_toArray,List.mem_append] at hu
  rcases hu with (h | h) | h
  ·exact hc1 u (List.mem_of_mem_take h)
  ·exact hone u h
  ·exact hc1 u (List.mem_of_mem_drop h)
 ·refine List.nodup_cons.2 ⟨fun h=>?_,?_⟩
  ·simp only [List.mem_append] at h
   rcases h with (h | h) | h
   ·exact (List.nodup_cons.1 hn').1 (by simp [h])
   ·exact hTown _ h (by simp)
   ·exact (List.nodup_cons.1 hn').1 (by simp [h])
  ·refine List.nodup_append.2 ⟨List.nodup_append.2 ⟨hnA.1,hTn,fun b hb' c hc e=>?_⟩,hnM.2.1,fun b hb' c hc e=>?_⟩
   ·subst e;exact hTown b hc (by simp [hb'])
   ·subst e
    rcases List.mem_append.1 hb' with h | h
    ·exact hnA.2.2 b h b (by simp [hc]) rfl
    ·exact hTown b h (by simp [hc])
 ·intro b hb'
  simp only [List.mem_append] at hb'
  rcases hb' with (h | h) | h
  ·exact .inl (by rw [hAB];simp [h])
  ·exact .inr (hTo b h)
  ·exact .inl (by rw [hAB];simp [h])
 ·intro q hq
  obtain ⟨y,hy⟩:=hsrc q hq
  exact (S1.env q y hy).1
def sizeIs (P:Program) (t:TypeId) (n:Nat):Bool:=match sizeT P t with
 | some k=>Nat.beq k n
 | none=>false
theorem sizeIs_eq {t:TypeId} {n:Nat} (h:sizeIs P t n=true):sizeT P t=some n:=by
 unfold sizeIs at h
 split at h
 ·rename_i k hk
  rw [hk,Nat.eq_of_beq_eq_true h]
 ·cases h
def evStoreB (P:Program) (o:Oper) (t:TypeId) (s:Nat) (x:Operand) (e:E):Option E :=
 match o.dst with
 | some _=>none
 | none=>match look e.st.env s with
  | some (.d (.ptr id off))=>match x,(match x with | .tmp q=>look e.st.env q | _=>none) with
   | .tmp q,some (.d (.v (.row (some el) sz es)))=>match e.st.box[id]? with
    | some (.cells cs)=>match Nat.ble (off+1) cs.length && sizeIs P t 1 with
     | true=>some { e with st:=e.st.setBox id (some q) (cs.take off++[.v (.row (some el) sz es)]++cs.drop (off+1)) }
     | false=>none
    | _=>none
   | .tmp _,some (.al (.top (.b i c)))=>match e.st.box[id]? with
    | some (.cells cs)=>match Nat.ble (off+1) cs.length && sizeIs P t 1 && Nat.beq i id && Nat.beq c off with
     | true=>some e
     | false=>none
    | _=>none
   | .tmp q,some (.d (.ptr i f))=>match e.st.box[id]? with
    | some (.cells cs)=>match Nat.ble (off+1) cs.length && sizeIs P t 1 with
     | true=>some { e with st:=e.st.setBox id none (cs.take off++[.ptr i f]++cs.drop (off+1)) }
     | false=>none
    | _=>none
   | _,_=>match val x e with
    | some (u,e)=>match look e.st.env s,e.st.box[id]? with
     | some (.d (.ptr id' off')),some (.cells cs)=>match u.flatOk && Nat.ble (off+u.cells.length) cs.length && sizeIs P t u.cells.length && Nat.beq id id' && Nat.beq off off' with
      | true=>some { e with st:=e.st.setBox id none (cs.take off++dv u.cells++cs.drop (off+(dv u.cells).length)) }
      | false=>none
     | _,_=>none
    | none=>none
  | _=>none
theorem evStoreB_ok {o:Oper} {t:TypeId} {s:Nat} {x:Operand} {e e':E} (ho:o.op=.store t (.tmp s) x) (h:evStoreB P o t s x e=some e'):OpOk P C o e e':=by
 unfold evStoreB at h
 split at h
 ·cases h
 rename_i hd
 split at h
 ·rename_i id off hl
  split at h
  ·rename_i q el sz es hq
   split at h
   ·rename_i cs hb
    split at h
    ·rename_i hc
     cases h
     rw [Bool.and_eq_true] at hc
     have c1:=Nat.le_of_ble_eq_true hc.1
     have c2:=sizeIs_eq hc.2
     have hq:look e.st.env q=some (.d (.v (.row (some el) sz es))):=hq
     refine OpOk.store (ds:=[.v (.row (some el) sz es)]) ho hd (fun h=>h) hl hb (by simpa using c1) c2 (fun _ g a w S=>?_) (fun q' e'=>by cases e';exact ⟨_,hq⟩)
     obtain ⟨_,h2,h3⟩:=S.env q _ hq
     have h2:RepD g w (a.eval (.tmp q)) (.v (.row (some el) sz es)) (g.TE q):=h2
     have hone:=h2.inv.one rfl
     refine ⟨g,g.TE q,S,?_,?_,S.nodE q,fun b hb'=>⟨q,rfl,h3 b hb'⟩⟩
     ·rw [cells_one hone]
      have:=RepDL.cons h2 (RepDL.nil (g:=g) (w:=w))
      simpa using this
     ·rw [cells_one hone];simpa using hone
    ·cases h
   ·cases h
  ·rename_i q i cc hq
   split at h
   ·rename_i cs hb
    split at h
    ·rename_i hc
     cases h
     simp only [Bool.and_eq_true] at hc
     obtain ⟨⟨⟨c1,c2⟩,c3⟩,c4⟩:=hc
     have c1:=Nat.le_of_ble_eq_true c1
     have c2:=sizeIs_eq c2
     have c3:=Nat.eq_of_beq_eq_true c3
     have c4:=Nat.eq_of_beq_eq_true c4
     subst c3
     subst c4
     have hq:look e.st.env q=some (.al (.top (.b i cc))):=hq
     refine fun hA=>⟨hA,fun g a w S next Q hn=>?_⟩
     obtain ⟨_,h2,_⟩:=S.env s _ hl
     have h2:RepD g w (a.tmps.getD s undef) (.ptr i cc) (g.TE s):=h2
     have hptr:a.eval (.tmp s)=.pointer (some ⟨g.loc i,cc,none⟩):=by
      show a.tmps.getD s undef=_
      generalize a.tmps.getD s undef=v at h2
      generalize g.TE s=T at h2
      cases h2
      rfl
     obtain ⟨⟨cur,el,A,hT,hh,hrc,hc1⟩,hown⟩:=S.box i _ hb
     have hcl:cur.size=cs.length:=by rw [← Array.length_toList];exact hrc.length
     obtain ⟨_,⟨_,h3⟩,_⟩:=S.env q _ hq
     have h3:pvR g a w (.b i cc)=some (a.eval (.tmp q)):=h3
     simp only [pvR] at h3
     split at h3
     rotate_left
     ·cases h3
     simp only [World.cell?,hh] at h3
     have hget:cur.toList[cc]? = some (a.eval (.tmp q)):=by simpa using h3
     have hone:=hc1 _ (List.mem_of_getElem? hget)
     have hcells:=cells_one hone
     have hst:=storeAt_run (P:=P) (t:=t) (b:=g.loc i) (off:=cc) (v:=a.eval (.tmp q)) hh (.inl rfl) (by rw [hcells];exact c2) (by rw [hcells,hcl];simpa using c1) (by rw [hcells];simpa using hone)
     have hsame:(cur.toList.take cc++(a.eval (.tmp q)).cells.toList++cur.toList.drop (cc+(a.eval (.tmp q)).cells.size)).toArray=cur:=by
      rw [hcells]
      apply Array.ext'
      simp only [List.size_toArray,List.length_cons,List.length_nil,Nat.zero_add,List.append_assoc]
      have hlt:cc < cur.toList.length:=(List.getElem?_eq_some_iff.1 hget).1
      have e1:cur.toList[cc]=a.eval (.tmp q):=(List.getElem?_eq_some_iff.1 hget).2
      conv=>rhs;rw [← List.take_append_drop cc cur.toList,List.drop_eq_getElem_cons hlt,e1]
      rfl
     rw [hsame,setRow_self w _ cur el _ hh] at hst
     have hexec:(execOp a.eval o).run P w=.ok .skip w:=by
      unfold execOp
      simp only [ho,hptr,Sem.run_bind,hst,Result.andThen_ok,Sem.run_pure]
     unfold Oper.wp
     rw [hexec,Oper.upon_skip,hd]
     exact hn _ _ _ S (fun h=>by rw [ho] at h;cases h)
    ·cases h
   ·cases h
  ·rename_i q i f hq
   split at h
   ·rename_i cs hb
    split at h
    ·rename_i hc
     cases h
     rw [Bool.and_eq_true] at hc
     have c1:=Nat.le_of_ble_eq_true hc.1
     have c2:=sizeIs_eq hc.2
     have hq:look e.st.env q=some (.d (.ptr i f)):=hq
     refine OpOk.store (src:=none) (ds:=[.ptr i f]) ho hd (fun h=>h) hl hb (by simpa using c1) c2 (fun _ g a w S=>?_) (fun q' e'=>by cases e')
     obtain ⟨_,h2,h3⟩:=S.env q _ hq
     have h2:RepD g w (a.eval (.tmp q)) (.ptr i f) (g.TE q):=h2
     have hT:=h2.noOwn rfl
     rw [hT] at h2
     have hone:(a.eval (.tmp q)).oneCell'=true:=by generalize a.eval (.tmp q)=v at h2;cases h2;rfl
     refine ⟨g,[],S,?_,?_,List.nodup_nil,fun b hb'=>by cases hb'⟩
     ·rw [cells_one hone]
      have:=RepDL.cons h2 (RepDL.nil (g:=g) (w:=w))
      simpa using this
     ·rw [cells_one hone];simpa using hone
    ·cases h
   ·cases h
  ·split at h
   ·rename_i u e1 hv
    split at h
    ·rename_i id' off' cs hl1 hb
     split at h
     ·rename_i hc
      cases h
      simp only [Bool.and_eq_true] at hc
      obtain ⟨⟨⟨⟨c1,c2⟩,c3⟩,c4⟩,c5⟩:=hc
      have c2:=Nat.le_of_ble_eq_true c2
      have c3:=sizeIs_eq c3
      have c4:=Nat.eq_of_beq_eq_true c4
      have c5:=Nat.eq_of_beq_eq_true c5
      subst c4
      subst c5
      refine OpOk.store (src:=none) (ds:=dv u.cells) ho hd (fun hA=>(val_ok (C:=C) hv hA).1) hl1 hb (by rw [dv_length];exact c2) (by rw [dv_length];exact c3) (fun hA g a w S=>?_) (fun q' e'=>by cases e')
      obtain ⟨g1,k1,S1,r1⟩:=(val_ok (C:=C) hv hA).2 g a w S
      obtain ⟨r3,r4⟩:=r1.flat c1
      exact ⟨g1,[],S1,r3.dv,r3.one r4,List.nodup_nil,fun b hb'=>by cases hb'⟩
     ·cases h
    ·cases h
   ·cases h
 ·cases h
end
end
section
variable [Tabs]
def holdB:Root→Root→Bool
 | .t a,.t b=>Nat.beq a b
 | .b a _,.b b _=>Nat.beq a b
 | _,_=>false
theorem holdB_eq {r q:Root} (h:r.holder=q.holder):holdB r q=true:=by
 cases r<;>cases q<;>simp_all [Root.holder,holdB]
theorem holdB_ne {r q:Root} (h:holdB r q=false):r.holder≠q.holder:=fun e=>by rw [holdB_eq e] at h;cases h
def rootB:Root→Root→Bool
 | .t a,.t b=>Nat.beq a b
 | .b a c,.b b d=>Nat.beq a b && Nat.beq c d
 | _,_=>false
theorem rootB_eq {r q:Root} (h:rootB r q=true):r=q:=by
 cases r<;>cases q<;>simp_all [rootB]
def X.killO (r:Root):X→X
 | .al (.elt q sz i j)=>match holdB q r with
  | true=>.dead
  | false=>.al (.elt q sz i j)
 | .pa q sz i j=>match holdB q r with
  | true=>match rootB q r with
   | true=>.pa q sz i j
   | false=>.dead
  | false=>.pa q sz i j
 | x=>x
def killO (r:Root):List (Nat × X)→List (Nat × X)
 | []=>[]
 | (k,x) :: l=>(k,x.killO r) :: killO r l
theorem look_killO (r:Root):∀ (l:List (Nat × X)) (t:Nat),look (killO r l) t=(look l t).map (X.killO r)
 | [],_=>rfl
 | (k,x) :: l,t=>by
  simp only [killO,look]
  cases Nat.beq t k with
  | true=>rfl
  | false=>exact look_killO r l t
theorem X.killO_cases (r:Root) (x:X):x.killO r=.dead∨(x.killO r=x∧((∀ h,x.rootH=some h→h≠r.holder)∨(∃ q,x=.al (.top q))∨∃ sz i j,x=.pa r sz i j)):=by
 cases x with
 | al p =>
  cases p with
  | top q=>exact .inr ⟨rfl,.inr (.inl ⟨q,rfl⟩)⟩
  | elt q sz i j =>
   simp only [X.killO]
   cases h:holdB q r with
   | true=>exact .inl rfl
   | false=>exact .inr ⟨rfl,.inl fun h' hq=>by cases hq;exact holdB_ne h⟩
 | pa q sz i j =>
  simp only [X.killO]
  cases h:holdB q r with
  | true =>
   cases h2:rootB q r with
   | true=>exact .inr ⟨rfl,.inr (.inr ⟨sz,i,j,by rw [rootB_eq h2]⟩)⟩
   | false=>exact .inl rfl
  | false=>exact .inr ⟨rfl,.inl fun h' hq=>by cases hq;exact holdB_ne h⟩
 | d d=>exact .inr ⟨rfl,.inl fun h' hq=>by cases hq⟩
 | dead=>exact .inl rfl
section
variable {C:Ctx} {g:G} {st:St} {a:Act} {w w':World}
theorem RepDL.setK {g:G} {w:World}:∀ {vs:List Value} {ds:List D} {T:List Nat} {c:Nat} {d:D},RepDL g w vs ds T→ds[c]? = some d →
 ∃ v T1 Tc T2,vs[c]? = some v∧T=T1++(Tc++T2)∧RepD g w v d Tc∧∀ g' w' d' T',KeepsG g g' w w'→(∀ b∈T1++T2,w'.heap[b]? = w.heap[b]?)→RepD g' w' v d' T'→RepDL g' w' vs (ds.set c d') (T1++(T'++T2))
 | _,_,_,_,_,.nil,h=>by simp at h
 | _,_,_,0,d,.cons (v:=v) (A:=A) (B:=B) h1 h2,h=>by
  simp only [List.getElem?_cons_zero,Option.some.injEq] at h
  subst h
  exact ⟨v,[],A,B,rfl,rfl,h1,fun g' w' d' T' k hs h'=>(RepDL.cons h' (h2.keep k hs):RepDL g' w' _ _ (T'++B))⟩
 | _,_,_,c+1,d,.cons (A:=A) (B:=B) h1 h2,h=>by
  simp only [List.getElem?_cons_succ] at h
  obtain ⟨v,T1,Tc,T2,e1,e2,e3,e4⟩:=h2.setK h
  subst e2
  refine ⟨v,A++T1,Tc,T2,by simpa using e1,by simp,e3,fun g' w' d' T' k hs h'=>?_⟩
  have:=RepDL.cons (h1.keep k (fun b hb=>hs b (by simp [hb]))) (e4 g' w' d' T' k (fun b hb=>hs b (by simp only [List.mem_append] at hb ⊢;rcases hb with h | h<;>simp [h])) h')
  simpa using this
def St.reset (st:St) (r:Root) (u:V) (src:Option Nat):St:=match r with
 | .t s=>{ env:=(s,.d (.v u)) :: killO (.t s) (wipeT src st.env),box:=st.box }
 | .b id c=>match st.box[id]? with
  | some (.cells cs)=>{ env:=killO (.b id c) (wipeT src st.env),box:=st.box.set id (.cells (cs.set c (.v u))) }
  | _=>st
def G.reset (g:G) (h:Nat ⊕ Nat) (T T' N:List Nat) (src:Option Nat):G :=
 { g with own:=fun b=>if b∈T' then some h else if b∈T then none else match src with
            | some q=>if g.own b=some (.inl q) then none else g.own b
            | none=>g.own b,
          TE:=fun t=>if h=.inl t then N else match src with
            | some q=>if t=q then [] else g.TE t
            | none=>g.TE t,
          TB:=fun i=>if h=.inr i then N else g.TB i }
theorem look_wipe2 {src:Option Nat} {l:List (Nat × X)} {t:Nat} {y:X} {r:Root} (h:look (killO r (wipeT src l)) t=some y) :
 (src=some t∧y=.dead)∨(src≠some t∧∃ z,look l t=some z∧(y=.dead∨(y=z∧(∀ q,src=some q→∀ h,z.rootH=some h→h≠.inl q)∧((∀ h,z.rootH=some h→h≠r.holder)∨(∃ q,z=.al (.top q))∨∃ sz i j,z=.pa r sz i j)))):=by
 rw [look_killO] at h
 cases src with
 | none =>
  simp only [wipeT] at h
  refine .inr ⟨by simp,?_⟩
  cases hl:look l t with
  | none=>rw [hl] at h;cases h
  | some z =>
   rw [hl] at h
   simp only [Option.map_some,Option.some.injEq] at h
   refine ⟨z,rfl,?_⟩
   rcases X.killO_cases r z with h2 | ⟨h2,h3⟩
   ·exact .inl (by rw [← h,h2])
   ·exact .inr ⟨by rw [← h,h2],by simp,h3⟩
 | some q =>
  simp only [wipeT,look] at h
  cases hb:Nat.beq t q with
  | true =>
   have:=Nat.eq_of_beq_eq_true hb
   subst this
   rw [hb] at h
   simp only [Option.map_some,Option.some.injEq] at h
   exact .inl ⟨rfl,h ▸ rfl⟩
  | false =>
   rw [hb] at h
   have htq:t≠q:=fun e=>by rw [e,Nat.beq_refl] at hb;cases hb
   refine .inr ⟨fun e=>htq (Option.some.inj e).symm,?_⟩
   simp only [look_kill] at h
   cases hl:look l t with
   | none=>rw [hl] at h;cases h
   | some z =>
    rw [hl] at h
    simp only [Option.map_some,Option.some.injEq] at h
    refine ⟨z,rfl,?_⟩
    rcases X.kill_cases (isT q) z with h1 | ⟨h1,_⟩
    ·rw [h1] at h;exact .inl (h ▸ rfl)
    ·rw [h1] at h
     rcases X.killO_cases r z with h2 | ⟨h2,h3⟩
     ·exact .inl (by rw [← h,h2])
     ·by_cases hd:z=.dead
      ·exact .inl (by rw [← h,h2,hd])
      ·exact .inr ⟨by rw [← h,h2],fun q' e h' hh=>by cases e;exact X.kill_rootH h1 hd h' hh,h3⟩
theorem SRep.lens (S:SRep C g st a w) {r:Root} {u:V} (hu:rootVal st r=some u):∃ v T,pvR g a w r=some v∧Rep g.pub w v u T∧T.Nodup∧(∀ b∈T,g.own b=some r.holder) ∧
 ∀ (w':World) (u':V) (T':List Nat) (src:Option Nat),w'.os=w.os→w'.tape=w.tape→w'.output=w.output→w.heap.size≤w'.heap.size →
  (∀ b,b < w.heap.size→b∉T→w'.heap[b]? = w.heap[b]?)→Rep g.pub w' v u' T'→T'.Nodup→(∀ b∈T',b∈T∨∃ q,src=some q∧g.own b=some (.inl q)) →
  (∀ q,src=some q→q < C.N∧r.holder≠.inl q)→(∀ b,v.ownBlock=some b→b∈T→b∈T') →
  ∃ g',g'.pub=g.pub∧(∀ b∈T,b∉T'→g'.own b=none)∧SRep C g' (st.reset r u' src) a w':=by
 have main:∀ (v:Value) (T:List Nat) (w':World) (u':V) (T' N:List Nat) (src:Option Nat) (st':St) (hh:r.holder=r.holder),pvR g a w r=some v→T.Nodup→(∀ b∈T,g.own b=some r.holder) →
  w'.os=w.os→w'.tape=w.tape→w'.output=w.output→w.heap.size≤w'.heap.size →
  (∀ b,b < w.heap.size→b∉T→w'.heap[b]? = w.heap[b]?)→(∀ b∈T',b∈T∨∃ q,src=some q∧g.own b=some (.inl q)) →
  (∀ q,src=some q→q < C.N∧r.holder≠.inl q)→(∀ b,v.ownBlock=some b→b∈T→b∈T') →
  N.Nodup→(∀ b∈N,b∈T'∨(b∉T∧g.own b=some r.holder)) →
  st'.box.length=st.box.length →
  (∀ i,r.holder≠.inr i→st'.box[i]? = st.box[i]?)→(∀ t,r.holder≠.inl t→look st'.env t=look (killO r (wipeT src st.env)) t) →
  (∀ t y,r.holder=.inl t→look st'.env t=some y→t < C.N∧XRep (g.reset r.holder T T' N src) a w' (a.tmps.getD t undef) y N) →
  (∀ i b,r.holder=.inr i→st'.box[i]? = some b→BRep (g.reset r.holder T T' N src) w' (g.loc i) b N) →
  (∀ i c,r=.b i c→g.loc i∉T) →
  SRep C (g.reset r.holder T T' N src) st' a w':=by
  intro v T w' u' T' N src st' _ hpv hTn hTo ho ht hou hsz hsame hT' hsrc hblk hNn hN hlen hbx henv hE hB hloc
  have ownT':∀ b∈T',∃ h,g.own b=some h:=fun b hb=>by
   rcases hT' b hb with h | ⟨q,_,h⟩
   ·exact ⟨_,hTo b h⟩
   ·exact ⟨_,h⟩
  let chg:Nat ⊕ Nat→Prop:=fun h=>h=r.holder∨∃ q,src=some q∧h=.inl q
  have notin:∀ b h,g.own b=some h→¬ chg h→b∉T'∧b∉T:=by
   intro b h hb hc
   refine ⟨fun hb'=>?_,fun hb'=>?_⟩
   ·rcases hT' b hb' with h2 | ⟨q,hq,h2⟩
    ·rw [hTo b h2] at hb;cases hb;exact hc (.inl rfl)
    ·rw [h2] at hb;cases hb;exact hc (.inr ⟨q,hq,rfl⟩)
   ·rw [hTo b hb'] at hb;cases hb;exact hc (.inl rfl)
  have ownR:∀ b∈N,(g.reset r.holder T T' N src).own b=some r.holder:=by
   intro b hb
   simp only [G.reset]
   rcases hN b hb with h | ⟨h1,h2⟩
   ·rw [if_pos h]
   ·by_cases h3:b∈T'
    ·rw [if_pos h3]
    ·rw [if_neg h3,if_neg h1]
     cases src with
     | none=>exact h2
     | some q =>
      simp only
      rw [if_neg (fun e=>(hsrc q rfl).2 (by rw [h2] at e;exact Option.some.inj e))]
      exact h2
  have k:KeepsG g (g.reset r.holder T T' N src) w w':=⟨fun _ h=>h,Nat.le_refl _,fun _ _=>rfl,fun b hb=>hsame b (S.publt b hb) (fun h=>(S.own b _ (hTo b h)).2.2 hb)⟩
  have keepO:∀ b,g.own b=some r.holder→b∉T→(g.reset r.holder T T' N src).own b=some r.holder:=by
   intro b hb hn
   simp only [G.reset]
   by_cases h3:b∈T'
   ·rw [if_pos h3]
   ·rw [if_neg h3,if_neg hn]
    cases src with
    | none=>exact hb
    | some q =>
     simp only
     rw [if_neg (fun e=>(hsrc q rfl).2 (by rw [hb] at e;exact Option.some.inj e))]
     exact hb
  have hpvR:∀ q u,q.holder=r.holder→pvR g a w q=some u→pvR (g.reset r.holder T T' N src) a w' q=some u:=by
   intro q u hq h
   cases q with
   | t x=>exact h
   | b id c =>
    simp only [pvR] at h ⊢
    split at h
    ·rename_i hc
     cases r with
     | t x=>simp [Root.holder] at hq
     | b i c' =>
      have hq':id=i:=by simpa [Root.holder] using hq
      subst hq'
      have hnl:=hloc id c' rfl
      have:(g.reset (Root.b id c').holder T T' N src).own (g.loc id)=some (.inr id):=keepO _ hc.2 hnl
      rw [if_pos ⟨hc.1,this⟩,← h]
      exact cell?_same (hsame _ (by have:=(S.own _ _ hc.2).2.1;exact this) hnl)
    ·cases h
  refine S.change chg S.defers S.tmps ho ht hou hsz (fun _ h=>h) (fun _ h=>.inl h) (fun b hb=>Nat.lt_of_lt_of_le (S.publt b hb) hsz) (by rw [hlen];exact S.n) (Nat.le_refl _) (fun _ _=>rfl) ?_ ?_ ?_ ?_ ?_ ?_ ?_ ?_ ?_
  ·intro b hb h
   refine hsame b hb (fun hbT=>?_)
   have hbo:=hTo b hbT
   rcases h with h | ⟨h,h2,h3⟩ | ⟨h2,h3⟩
   ·exact (S.own b _ hbo).2.2 h
   ·rw [hbo] at h2;cases h2;exact h3 (.inl rfl)
   ·rcases (S.own b _ hbo).1 with h4 | h4
    ·omega
    ·exact h3 h4
  ·intro b h hb hc
   obtain ⟨n1,n2⟩:=notin b h hb hc
   simp only [G.reset]
   rw [if_neg n1,if_neg n2]
   cases src with
   | none=>exact hb
   | some q =>
    simp only
    rw [if_neg (by rw [hb];intro e;exact hc (.inr ⟨q,rfl,Option.some.inj e⟩))]
    exact hb
  ·intro t ht'
   refine ⟨rfl,?_⟩
   simp only [G.reset]
   rw [if_neg (fun e=>ht' (.inl e.symm))]
   cases src with
   | none=>rfl
   | some q =>
    simp only
    rw [if_neg (fun e=>ht' (.inr ⟨q,rfl,by rw [e]⟩))]
  ·intro i hi
   refine ⟨?_,hbx i (fun e=>hi (.inl e.symm))⟩
   simp only [G.reset]
   rw [if_neg (fun e=>hi (.inl e.symm))]
  ·intro t y hy
   by_cases hr:r.holder=.inl t
   ·obtain ⟨h1,h2⟩:=hE t y hr hy
    have e1:(g.reset r.holder T T' N src).TE t=N:=by simp [G.reset,hr]
    refine .inr ⟨h1,by rw [e1];exact h2,fun b hb=>?_⟩
    rw [e1] at hb
    rw [ownR b hb,hr]
   ·rw [henv t hr] at hy
    rcases look_wipe2 hy with ⟨hs,rfl⟩ | ⟨hs,z,hz,h⟩
    ·refine .inr ⟨(hsrc t hs).1,trivial,?_⟩
     have:(g.reset r.holder T T' N src).TE t=[]:=by simp [G.reset,hr,hs]
     rw [this];simp
    ·have hnc:¬ chg (.inl t):=by
      rintro (e | ⟨q,hq,e⟩)
      ·exact hr e.symm
      ·cases e;exact hs hq
     rcases h with rfl | ⟨rfl,h1,h2⟩
     ·exact .inl ⟨hnc,.inr ⟨rfl,z,hz⟩⟩
     ·by_cases hrt:∀ h,y.rootH=some h→h≠r.holder
      ·refine .inl ⟨hnc,.inl ⟨hz,fun h hh e=>?_⟩⟩
       rcases e with e | ⟨q,hq,e⟩
       ·exact hrt h hh e
       ·exact h1 q hq h hh e
      ·obtain ⟨k1,k2,k3⟩:=S.env t y hz
       have eTE:(g.reset r.holder T T' N src).TE t=g.TE t:=by
        simp only [G.reset]
        rw [if_neg hr]
        cases src with
        | none=>rfl
        | some q =>
         simp only
         rw [if_neg (fun e=>hs (by rw [e]))]
       have kT:∀ b∈g.TE t,(g.reset r.holder T T' N src).own b=some (.inl t):=fun b hb=>by
        have hb':=k3 b hb
        obtain ⟨n1,n2⟩:=notin b _ hb' hnc
        simp only [G.reset]
        rw [if_neg n1,if_neg n2]
        cases src with
        | none=>exact hb'
        | some q =>
         simp only
         rw [if_neg (by rw [hb'];intro e;exact hnc (.inr ⟨q,rfl,Option.some.inj e⟩))]
         exact hb'
       refine .inr ⟨k1,?_,by rw [eTE];exact kT⟩
       rw [eTE]
       rcases h2 with h2 | ⟨q,rfl⟩ | ⟨sz,i,j,rfl⟩
       ·exact (hrt h2).elim
       ·refine ⟨k2.1,?_⟩
        have hq:q.holder=r.holder:=Classical.byContradiction fun hne=>hrt (fun h hh e=>by
         simp only [X.rootH,Pl.root,Option.some.injEq] at hh
         exact hne (hh.trans e))
        exact hpvR q _ hq k2.2
       ·obtain ⟨e1,b,e2,e3,e4⟩:=k2
        rw [hpv] at e2
        refine ⟨e1,b,?_,?_,e4⟩
        ·rw [hpvR r v rfl hpv];exact e2
        ·by_cases hbT:b∈T
         ·have:b∈T':=hblk b e2 hbT
          simp only [G.reset]
          rw [if_pos this]
         ·exact keepO b e3 hbT
  ·intro i b hb hc
   rcases hc with hc | ⟨q,_,hc⟩
   ·have e1:(g.reset r.holder T T' N src).TB i=N:=by simp [G.reset,← hc]
    rw [e1]
    refine ⟨hB i b hc.symm hb,fun b hb=>?_⟩
    rw [ownR b hb,hc]
   ·cases hc
  ·intro t hc
   rcases hc with hc | ⟨q,hq,hc⟩
   ·simp only [G.reset]
    rw [if_pos hc.symm];exact hNn
   ·cases hc
    simp only [G.reset]
    split
    ·exact hNn
    ·simp [hq]
  ·intro i hc
   rcases hc with hc | ⟨q,hq,hc⟩
   ·simp only [G.reset]
    rw [if_pos hc.symm];exact hNn
   ·cases hc
  ·intro b h hb
   simp only [G.reset] at hb
   by_cases hb1:b∈T'
   ·obtain ⟨h',h2⟩:=ownT' b hb1
    exact .inr ⟨.inl ⟨h',h2⟩,Nat.lt_of_lt_of_le (S.own b h' h2).2.1 hsz,(S.own b h' h2).2.2⟩
   ·rw [if_neg hb1] at hb
    split at hb
    ·cases hb
    ·cases src with
     | none=>exact .inl ⟨hb,(S.own b h hb).2.2⟩
     | some q =>
      simp only at hb
      split at hb
      ·cases hb
      ·exact .inl ⟨hb,(S.own b h hb).2.2⟩
 cases r with
 | t s =>
  simp only [rootVal] at hu
  split at hu
  ·rename_i x hx
   cases hu
   obtain ⟨h1,h2,h3⟩:=S.env s _ hx
   have hpv:pvR g a w (.t s)=some (a.tmps.getD s undef):=by
    have:s < a.tmps.size:=by rw [S.tmps];exact h1
    simp [pvR,Array.getD_eq_getD_getElem?,this]
   refine ⟨a.tmps.getD s undef,g.TE s,hpv,RepD.inv h2,S.nodE s,h3,?_⟩
   intro w' u' T' src ho ht hou hsz hsame hR hn hT' hsrc hblk
   refine ⟨g.reset (Root.t s).holder (g.TE s) T' T' src,rfl,fun b hb hb'=>?_,main _ (g.TE s) w' u' T' T' src (st.reset (.t s) u' src) rfl hpv (S.nodE s) h3 ho ht hou hsz hsame hT' hsrc hblk hn (fun b hb=>.inl hb) rfl (fun _ _=>rfl) ?_ ?_ ?_ ?_⟩
   ·simp only [G.reset];rw [if_neg hb',if_pos hb]
   ·intro t htr
    have:Nat.beq t s=false:=by
     cases hb:Nat.beq t s with
     | true=>exact (htr (by rw [Nat.eq_of_beq_eq_true hb];rfl)).elim
     | false=>rfl
    simp only [St.reset,look,this]
   ·intro t y htr hy
    have hts:s=t:=by simpa [Root.holder] using htr
    subst hts
    simp only [St.reset,look,Nat.beq_refl] at hy
    cases hy
    exact ⟨h1,.v hR⟩
   ·intro i b hr;cases hr
   ·intro i c hr;cases hr
  ·cases hu
 | b id c =>
  simp only [rootVal] at hu
  split at hu
  ·rename_i cs hb
   split at hu
   ·rename_i x hx
    cases hu
    obtain ⟨⟨cur,e,A,hT,hh,hr,h1⟩,h2⟩:=S.box id _ hb
    have hid:id < st.box.length:=by
     rcases Nat.lt_or_ge id st.box.length with h | h
     ·exact h
     ·rw [List.getElem?_eq_none h] at hb;cases hb
    obtain ⟨v,T1,Tc,T2,e1,e2,e3,e4⟩:=hr.setK hx
    have hn:=S.nodB id
    rw [hT,e2] at hn
    have hn2:(T1++(Tc++T2)).Nodup:=(List.nodup_cons.1 hn).2
    have hTc:Tc.Nodup:=(List.nodup_append.1 (List.nodup_append.1 hn2).2.1).1
    have ho:∀ b,b∈g.TB id→g.own b=some (.inr id):=h2
    have hTcm:∀ b∈Tc,g.own b=some (.inr id):=fun b hb=>ho b (by rw [hT,e2];simp [hb])
    have hlo:g.own (g.loc id)=some (.inr id):=ho _ (by rw [hT];simp)
    have hlc:g.loc id∉Tc:=fun h=>(List.nodup_cons.1 hn).1 (by simp [h])
    have hdis:∀ b∈T1++T2,b∉Tc:=by
     intro b hb hb'
     rcases List.mem_append.1 hb with h | h
     ·exact (List.nodup_append.1 hn2).2.2 b h b (by simp [hb']) rfl
     ·exact (List.nodup_append.1 (List.nodup_append.1 hn2).2.1).2.2 b hb' b h rfl
    have hpv:pvR g a w (.b id c)=some v:=by
     simp only [pvR]
     rw [if_pos ⟨by rw [S.n];exact hid,hlo⟩]
     simp only [World.cell?,hh]
     simpa using e1
    refine ⟨v,Tc,hpv,RepD.inv e3,hTc,hTcm,?_⟩
    intro w' u' T' src ho' ht hou hsz hsame hR hTn' hT' hsrc hblk
    have hT'2:∀ b∈T',b∉g.loc id :: (T1++T2):=by
     intro b hb hb'
     rcases hT' b hb with h | ⟨q,hq,h⟩
     ·rcases List.mem_cons.1 hb' with rfl | h'
      ·exact hlc h
      ·exact hdis b h' h
     ·have:b∈g.TB id:=by
       rw [hT,e2]
       rcases List.mem_cons.1 hb' with rfl | h'
       ·simp
       ·rcases List.mem_append.1 h' with h' | h'<;>simp [h']
      rw [ho b this] at h;cases h
    have hNn:(g.loc id :: (T1++(T'++T2))).Nodup:=by
     refine List.nodup_cons.2 ⟨fun h=>?_,?_⟩
     ·rcases List.mem_append.1 h with h | h
      ·exact (List.nodup_cons.1 hn).1 (by simp [h])
      ·rcases List.mem_append.1 h with h | h
       ·exact hT'2 _ h (by simp)
       ·exact (List.nodup_cons.1 hn).1 (by simp [h])
     ·have n1:=List.nodup_append.1 hn2
      have n2:=List.nodup_append.1 n1.2.1
      refine List.nodup_append.2 ⟨n1.1,List.nodup_append.2 ⟨hTn',n2.2.1,fun x hx y hy e=>?_⟩,fun x hx y hy e=>?_⟩
      ·subst e;exact hT'2 x hx (by simp [hy])
      ·subst e
       rcases List.mem_append.1 hy with h | h
       ·exact hT'2 x h (by simp [hx])
       ·exact n1.2.2 x hx x (by simp [h]) rfl
    have hstb:st.reset (.b id c) u' src={ env:=killO (.b id c) (wipeT src st.env),box:=st.box.set id (.cells (cs.set c (.v u'))) }:=by simp only [St.reset,hb]
    have hsz':∀ b,g.own b=some (.inr id)→b < w.heap.size:=fun b hb=>(S.own b _ hb).2.1
    refine ⟨g.reset (Root.b id c).holder Tc T' (g.loc id :: (T1++(T'++T2))) src,rfl,fun b hb hb'=>?_,?_⟩
    ·simp only [G.reset];rw [if_neg hb',if_pos hb]
    rw [hstb]
    refine main v Tc w' u' T' _ src _ rfl hpv hTc hTcm ho' ht hou hsz hsame hT' hsrc hblk hNn ?_ ?_ ?_ ?_ ?_ ?_ ?_
    ·intro b hb'
     rcases List.mem_cons.1 hb' with rfl | hb'
     ·exact .inr ⟨hlc,hlo⟩
     ·rcases List.mem_append.1 hb' with h | h
      ·exact .inr ⟨hdis b (by simp [h]),ho b (by rw [hT,e2];simp [h])⟩
      ·rcases List.mem_append.1 h with h | h
       ·exact .inl h
       ·exact .inr ⟨hdis b (by simp [h]),ho b (by rw [hT,e2];simp [h])⟩
    ·simp
    ·intro i hi
     have hi':id≠i:=fun e=>hi (by rw [e];rfl)
     exact List.getElem?_set_ne hi'
    ·intro t _;rfl
    ·intro t y hr;cases hr
    ·intro i b hr hb'
     have hi:id=i:=by simpa [Root.holder] using hr
     subst hi
     rw [List.getElem?_set_self hid] at hb'
     cases hb'
     have hhw:w'.heap[g.loc id]? = some (.cells cur e (0,0)):=(hsame _ (hsz' _ hlo) hlc).trans hh
     have k:KeepsG g (g.reset (Root.b id c).holder Tc T' (g.loc id :: (T1++(T'++T2))) src) w w':=⟨fun _ h=>h,Nat.le_refl _,fun _ _=>rfl,fun b hb=>hsame b (S.publt b hb) (fun h=>(S.own b _ (hTcm b h)).2.2 hb)⟩
     refine ⟨cur,e,T1++(T'++T2),rfl,hhw,?_,h1⟩
     refine e4 _ w' _ T' k (fun b hb=>hsame b (hsz' b (ho b ?_)) (hdis b hb)) (.v hR)
     rw [hT,e2]
     rcases List.mem_append.1 hb with h | h<;>simp [h]
    ·intro i c' hr
     have hi:id=i:=by cases hr;rfl
     subst hi
     exact hlc
   ·cases hu
  ·cases hu
end
def setC (el:V) (j:Nat) (ds:List V):V:=match el with
 | .agg cs=>.agg (cs.take j++ds++cs.drop (j+ds.length))
 | x=>match ds with
  | [d]=>d
  | _=>x
def oneD:V→Bool
 | .agg _=>false
 | _=>true
def setOk (el:V) (j:Nat) (ds:List V):Bool:=match el with
 | .agg cs=>Nat.ble (j+ds.length) cs.length
 | _=>match ds with
  | [d]=>oneD d && Nat.beq j 0
  | _=>false
theorem setC_cells {el:V} {j:Nat} {ds:List V} (h:setOk el j ds=true):(setC el j ds).cells=el.cells.take j++ds++el.cells.drop (j+ds.length)∧j+ds.length≤el.cells.length:=by
 cases el with
 | agg cs=>exact ⟨rfl,Nat.le_of_ble_eq_true h⟩
 | _ =>
  simp only [setOk] at h
  split at h
  ·rename_i d
   rw [Bool.and_eq_true] at h
   have hj:=Nat.eq_of_beq_eq_true h.2
   subst hj
   refine ⟨?_,by simp [V.cells]⟩
   have hd:=h.1
   cases d<;>simp_all [setC,V.cells,oneD]
  ·cases h
theorem flat_set {sz:Nat} {el el2:V} {j:Nat} {ds:List V} (h2:el2.cells=el.cells.take j++ds++el.cells.drop (j+ds.length)) (hj:j+ds.length≤el.cells.length):∀ {es:List V} {i:Nat},(∀ e∈es,e.cells.length=sz)→es[i]? = some el →
 (es.set i el2).flatMap V.cells=(es.flatMap V.cells).take (i*sz+j)++ds++(es.flatMap V.cells).drop (i*sz+j+ds.length)
 | [],i,_,h=>by simp at h
 | e :: es,0,hs,h=>by
  simp only [List.getElem?_cons_zero,Option.some.injEq] at h
  subst h
  simp only [List.set_cons_zero,List.flatMap_cons,h2,Nat.zero_mul,Nat.zero_add]
  rw [List.take_append_of_le_length (by omega),List.drop_append_of_le_length (by omega)]
  simp
 | e :: es,i+1,hs,h=>by
  simp only [List.getElem?_cons_succ] at h
  have ih:=flat_set h2 hj (es:=es) (i:=i) (fun e he=>hs e (by simp [he])) h
  have he:=hs e (by simp)
  simp only [List.set_cons_succ,List.flatMap_cons,ih]
  have e1:(i+1)*sz+j=e.cells.length+(i*sz+j):=by rw [he,Nat.add_mul,Nat.one_mul];omega
  have e2:(i+1)*sz+j+ds.length=e.cells.length+(i*sz+j+ds.length):=by rw [e1];omega
  rw [e1,← e1,e2,e1,List.take_length_add_append,List.drop_length_add_append]
  simp
section
variable {P:Program} {C:Ctx} {g:G} {st:St} {a:Act} {w w':World}
theorem setRow_grown (w:World) (b:Nat) (cs:Array Value):w.grownBy (w.setRow b cs) (some b) :=
 ⟨rfl,rfl,rfl,by simp,fun k _ hk=>setRow_other w b k cs (fun e=>hk (by rw [e]))⟩
theorem OpOk.storeP {o:Oper} {e e1:E} {t:TypeId} {s sz i j et:Nat} {r:Root} {x:Operand} {src:Option Nat} {es es' ds:List V} {el el':V} (ho:o.op=.store t (.tmp s) x) (hd:o.dst=none)
 (hl:look e1.st.env s=some (.pa r sz i j)) (hu:rootVal e1.st r=some (.row (some et) sz es)) (hsz:sizeT P t=some ds.length) (hok:setOk el j ds=true)
 (hrun:All e1.ob→All e.ob∧∀ g a w,SRep C g e.st a w→∃ g1 T,SRep C g1 e1.st a w∧RepL g1.pub w (a.eval x).cells.toList ds T∧(∀ u∈(a.eval x).cells.toList,u.oneCell'=true)∧T.Nodup∧∀ b∈T,∃ q,src=some q∧g1.own b=some (.inl q))
 (hsrc:∀ q,src=some q→(∃ y,look e1.st.env q=some y)∧r.holder≠.inl q) (hel:All e1.ob→es[i]? = some el) (hfit:All e1.ob→Fit (setC el j ds) el') (hes:All e1.ob→es.set i el'=es') :
 OpOk P C o e { e1 with st:=e1.st.reset r (.row (some et) sz es') src }:=by
 intro hA
 obtain ⟨h0,hrun⟩:=hrun hA
 refine ⟨h0,fun g a w S next Q hn=>?_⟩
 obtain ⟨g1,T,S1,hr,hone,hTn,hTo⟩:=hrun g a w S
 obtain ⟨_,⟨_,b,h3,h4,h5⟩,_⟩:=S1.env s _ hl
 obtain ⟨v,TT,hpv,hR,hTTn,hTTo,lens⟩:=S1.lens hu
 obtain ⟨xs,A,hT,hc,hl',h1,how⟩:=own_inv hR
 obtain ⟨hcells,hj⟩:=setC_cells hok
 have hel:=hel hA
 rw [hpv] at h3
 simp only [Option.bind_some] at h3
 have hi:i < es.length:=(List.getElem?_eq_some_iff.1 hel).1
 have hels:el.cells.length=sz:=hc el (List.mem_of_getElem? hel)
 rcases how.2 with ⟨hv0,hn0⟩ | ⟨b',cap,cur,hv0,hb0,⟨fz,hg,haw⟩,hnc,hcm,hcs,htk⟩
 ·omega
 rw [hv0] at h3
 simp only [Value.ownBlock,Option.some.injEq] at h3
 subst h3
 have hvl:(a.eval x).cells.size=ds.length:=by rw [← Array.length_toList];exact hr.length
 have hoff:i*sz+j+ds.length≤es.length*sz:=by
  have:(i+1)*sz≤es.length*sz:=Nat.mul_le_mul_right _ hi
  rw [Nat.add_mul,Nat.one_mul] at this
  omega
 have hcap:es.length*sz≤cap*sz:=Nat.mul_le_mul_right _ hnc
 have hst:=storeAt_run (P:=P) (t:=t) (b:=b') (off:=i*sz+j) (v:=a.eval x) hg haw (by rw [hvl];exact hsz) (by rw [hvl,hcs];omega) hone
 have hexec:(execOp a.eval o).run P w=.ok .skip (w.setRow b' (cur.toList.take (i*sz+j)++(a.eval x).cells.toList++cur.toList.drop (i*sz+j+(a.eval x).cells.size)).toArray):=by
  unfold execOp
  simp only [ho,Act.eval,h5,Sem.run_bind]
  simp only [Act.eval] at hst
  simp only [hst,Result.andThen_ok,Sem.run_pure]
 unfold Oper.wp
 rw [hexec,Oper.upon_skip,hd]
 generalize hw2:w.setRow b' (cur.toList.take (i*sz+j)++(a.eval x).cells.toList++cur.toList.drop (i*sz+j+(a.eval x).cells.size)).toArray=w2
 have hgr:w.grownBy w2 (some b'):=hw2 ▸ setRow_grown w b' _
 have hbT:b'∈TT:=by rw [hT,hv0];simp [Value.ownBlock]
 rw [hT] at hTTn
 have hn1:=List.nodup_append.1 hTTn
 have hbA:b'∉A:=fun h=>hn1.2.2 b' (by rw [hv0];simp [Value.ownBlock]) b' h rfl
 obtain ⟨A1,B1,hAB,hd1,hdr⟩:=hl'.cut (i*sz+j)
 obtain ⟨M,B2,hMB,_,hd2⟩:=hdr.cut ds.length
 rw [List.drop_drop,List.drop_drop] at hd2
 subst hMB
 have npub:∀ b,g1.pub b→w2.heap[b]? = w.heap[b]?:=fun b hb=>hgr.block b (S1.publt b hb) (fun e=>by cases e;exact (S1.own _ _ (hTTo _ hbT)).2.2 hb)
 have sameA:∀ b∈A,w2.heap[b]? = w.heap[b]?:=fun b hb=>hgr.block b (S1.own b _ (hTTo b (by rw [hT];simp [hb]))).2.1 (fun e=>by cases e;exact hbA hb)
 have sameT:∀ b∈T,w2.heap[b]? = w.heap[b]?:=fun b hb=>by
  obtain ⟨q,hq,ho'⟩:=hTo b hb
  refine hgr.block b (S1.own b _ ho').2.1 (fun e=>?_)
  cases e
  rw [hTTo _ hbT] at ho'
  exact (hsrc q hq).2 (Option.some.inj ho')
 have kk:Keeps g1.pub g1.pub w w2:=⟨fun _ h=>h,npub⟩
 have hnew:RepL g1.pub w2 (xs.take (i*sz+j)++(a.eval x).cells.toList++xs.drop (i*sz+j+ds.length)) (es'.flatMap V.cells) (A1++T++B2):=by
  have hfl:=flat_set hcells hj hc hel
  have h6:RepL g1.pub w2 (xs.take (i*sz+j)++(a.eval x).cells.toList++xs.drop (i*sz+j+ds.length)) ((es.set i (setC el j ds)).flatMap V.cells) (A1++T++B2):=by
   rw [hfl]
   exact ((hd1.keep kk (fun b hb=>sameA b (by rw [hAB];simp [hb]))).app (hr.keep kk sameT)).app (hd2.keep kk (fun b hb=>sameA b (by rw [hAB];simp [hb])))
  refine h6.fit (FitL.flat ?_)
  rw [← hes hA]
  have:∀ (es:List V) (i:Nat),FitL (es.set i (setC el j ds)) (es.set i el'):=by
   intro es
   induction es with
   | nil=>intro i;exact FitL.refl _
   | cons c cs ih =>
    intro i
    cases i with
    | zero=>exact .cons (hfit hA) (FitL.refl _)
    | succ i=>exact .cons (.refl _) (ih i)
  exact this es i
 have hxl:(xs.take (i*sz+j)++(a.eval x).cells.toList++xs.drop (i*sz+j+ds.length)).length=es.length*sz:=by
  simp only [List.length_append,List.length_take,List.length_drop,Array.length_toList,hvl,how.1]
  omega
 have hsizes:∀ e∈es',e.cells.length=sz:=by
  have:FitL [setC el j ds] [el']:=.cons (hfit hA) .nil
  have hle:el'.cells.length=sz:=this.sizes (sz:=sz) (by
   intro e he
   simp only [List.mem_singleton] at he
   subst he
   rw [hcells]
   simp only [List.length_append,List.length_take,List.length_drop]
   omega) _ (by simp)
  intro e he
  rw [← hes hA] at he
  rcases List.mem_or_eq_of_mem_set he with h | h
  ·exact hc e h
  ·rw [h];exact hle
 have hlen':es'.length=es.length:=by rw [← hes hA];simp
 have hown':OwnR w2 0 et sz v es'.length (xs.take (i*sz+j)++(a.eval x).cells.toList++xs.drop (i*sz+j+ds.length)):=by
  rw [hlen']
  refine ⟨hxl,.inr ⟨b',cap,(cur.toList.take (i*sz+j)++(a.eval x).cells.toList++cur.toList.drop (i*sz+j+(a.eval x).cells.size)).toArray,hv0,hb0,?_,hnc,hcm,?_,?_⟩⟩
  ·rw [← hw2]
   refine ⟨fz,setRow_heap w _ cur _ et _ hg,?_⟩
   rcases haw with h | h
   ·exact .inl h
   ·refine .inr ?_
    simp only [List.size_toArray,List.length_append,List.length_take,List.length_drop,Array.length_toList,hvl]
    omega
  ·simp only [List.size_toArray,List.length_append,List.length_take,List.length_drop,Array.length_toList,hvl,hcs]
   omega
  ·have hcl:cur.toList.length=cap*sz:=by rw [Array.length_toList,hcs]
   have hcx:cur.toList=xs++cur.toList.drop (es.length*sz):=by rw [← htk,List.take_append_drop]
   have hxsl:xs.length=es.length*sz:=how.1
   have q1:cur.toList.take (i*sz+j)=xs.take (i*sz+j):=by rw [← htk,List.take_take,Nat.min_eq_left (by omega)]
   have q2:cur.toList.drop (i*sz+j+(a.eval x).cells.size)=xs.drop (i*sz+j+ds.length)++cur.toList.drop (es.length*sz):=by
    rw [hvl]
    conv=>lhs;rw [hcx]
    rw [List.drop_append_of_le_length (by omega)]
   rw [List.toList_toArray,q1,q2,← List.append_assoc]
   rw [List.take_append_of_le_length (by rw [hxl];exact Nat.le_refl _)]
   rw [List.take_of_length_le (by rw [hxl];exact Nat.le_refl _)]
 have hRep:Rep g1.pub w2 v (.row (some et) sz es') (v.ownBlock.toList++(A1++T++B2)):=by
  refine Rep.own hsizes hnew (fun u hu=>?_) hown'
  simp only [List.mem_append] at hu
  rcases hu with (h | h) | h
  ·exact h1 u (List.mem_of_mem_take h)
  ·exact hone u h
  ·exact h1 u (List.mem_of_mem_drop h)
 have hTT:∀ b∈T,b∉TT:=fun b hb hb'=>by
  obtain ⟨q,hq,ho'⟩:=hTo b hb
  rw [hTTo b hb'] at ho'
  exact (hsrc q hq).2 (Option.some.inj ho')
 have hAn:=List.nodup_append.1 (hAB ▸ hn1.2.1:(A1++(M++B2)).Nodup)
 have hMn:=List.nodup_append.1 hAn.2.1
 have hAT:∀ b,b∈A→b∈TT:=fun b hb=>by rw [hT];simp [hb]
 have p1:(v.ownBlock.toList++(A1++T++B2)).Nodup:=by
  refine List.nodup_append.2 ⟨hn1.1,List.nodup_append.2 ⟨List.nodup_append.2 ⟨hAn.1,hTn,fun b hb c hcc e=>?_⟩,hMn.2.1,fun b hb c hcc e=>?_⟩,fun b hb c hcc e=>?_⟩
  ·subst e;exact hTT b hcc (hAT b (by rw [hAB];simp [hb]))
  ·subst e
   rcases List.mem_append.1 hb with h | h
   ·exact hAn.2.2 b h b (by simp [hcc]) rfl
   ·exact hTT b h (hAT b (by rw [hAB];simp [hcc]))
  ·subst e
   have hbTT:b∈TT:=by rw [hT];simp only [List.mem_append];exact .inl hb
   simp only [List.mem_append] at hcc
   rcases hcc with (h | h) | h
   ·exact hn1.2.2 b hb b (by rw [hAB];simp [h]) rfl
   ·exact hTT b h hbTT
   ·exact hn1.2.2 b hb b (by rw [hAB];simp [h]) rfl
 have p2:∀ b∈v.ownBlock.toList++(A1++T++B2),b∈TT∨∃ q,src=some q∧g1.own b=some (.inl q):=by
  intro b hb
  simp only [List.mem_append] at hb
  rcases hb with h | (h | h) | h
  ·exact .inl (by rw [hT];simp only [List.mem_append];exact .inl h)
  ·exact .inl (hAT b (by rw [hAB];simp [h]))
  ·exact .inr (hTo b h)
  ·exact .inl (hAT b (by rw [hAB];simp [h]))
 have p3:∀ q,src=some q→q < C.N∧r.holder≠.inl q:=fun q hq=>by
  obtain ⟨⟨y,hy⟩,h⟩:=hsrc q hq
  exact ⟨(S1.env q y hy).1,h⟩
 obtain ⟨g',hpub',hfree,S'⟩:=lens w2 (.row (some et) sz es') _ src hgr.os hgr.tape hgr.output hgr.size (fun b hb hb'=>hgr.block b hb (fun e=>by cases e;exact hb' hbT)) hRep p1 p2 p3 (fun b hb _=>by simp [hb])
 exact hn g' _ _ S' (fun h=>by rw [ho] at h;cases h)
def evStoreP (P:Program) (o:Oper) (t:TypeId) (s:Nat) (x:Operand) (e:E):Option E :=
 match o.dst with
 | some _=>none
 | none=>match hint e with
  | some (el,e)=>match hint e with
   | some (el',e)=>match hint e with
    | some (.row (some _) _ es',e)=>match x,(match x with | .tmp q=>look e.st.env q | _=>none) with
     | .tmp q,some (.d (.v (.row (some eq) sq qs)))=>match look e.st.env s with
      | some (.pa r sz i j)=>match rootVal e.st r with
       | some (.row (some et) sz' es)=>match Nat.beq sz sz' && sizeIs P t 1 && setOk el j [.row (some eq) sq qs] && not (holdB r (.t q)) with
        | true=>some { need (es.set i el'=es') (need (Fit (setC el j [.row (some eq) sq qs]) el') (need (es[i]? = some el) e)) with st:=e.st.reset r (.row (some et) sz es') (some q) }
        | false=>none
       | _=>none
      | _=>none
     | _,_=>match val x e with
      | some (u,e)=>match look e.st.env s with
       | some (.pa r sz i j)=>match rootVal e.st r with
        | some (.row (some et) sz' es)=>match Nat.beq sz sz' && u.flatOk && sizeIs P t u.cells.length && setOk el j u.cells with
         | true=>some { need (es.set i el'=es') (need (Fit (setC el j u.cells) el') (need (es[i]? = some el) e)) with st:=e.st.reset r (.row (some et) sz es') none }
         | false=>none
        | _=>none
       | _=>none
      | none=>none
    | _=>none
   | none=>none
  | none=>none
theorem evStoreP_ok {o:Oper} {t:TypeId} {s:Nat} {x:Operand} {e e':E} (ho:o.op=.store t (.tmp s) x) (h:evStoreP P o t s x e=some e'):OpOk P C o e e':=by
 unfold evStoreP at h
 split at h
 ·cases h
 rename_i hd
 split at h
 rotate_left
 ·cases h
 rename_i el e1 hh1
 split at h
 rotate_left
 ·cases h
 rename_i el' e2 hh2
 split at h
 rotate_left
 ·cases h
 rename_i eh sh es' e3 hh3
 obtain ⟨a1,a2⟩:=hint_eq hh1
 obtain ⟨b1,b2⟩:=hint_eq hh2
 obtain ⟨c1,c2⟩:=hint_eq hh3
 have hob:e3.ob=e.ob:=by rw [c1,b1,a1]
 have hst:e3.st=e.st:=by rw [c2,b2,a2]
 split at h
 ·rename_i q eq sq qs hq
  split at h
  ·rename_i r sz i j hl
   split at h
   ·rename_i et sz' es hu
    split at h
    ·rename_i hc
     cases h
     simp only [Bool.and_eq_true] at hc
     obtain ⟨⟨⟨k1,k2⟩,k3⟩,k4⟩:=hc
     have k1:=Nat.eq_of_beq_eq_true k1
     subst k1
     have k2:=sizeIs_eq k2
     have k4:holdB r (.t q)=false:=by simpa using k4
     have hq:look e3.st.env q=some (.d (.v (.row (some eq) sq qs))):=hq
     refine OpOk.storeP (e1:=need (es.set i el'=es') (need (Fit (setC el j [.row (some eq) sq qs]) el') (need (es[i]? = some el) e3))) (src:=some q) (ds:=[.row (some eq) sq qs]) (el:=el) (el':=el') ho hd hl hu k2 k3 (fun hA=>?_) (fun q' e'=>?_) (fun hA=>?_) (fun hA=>?_) (fun hA=>?_)
     ·obtain ⟨hA,_⟩:=All.snoc hA
      obtain ⟨hA,_⟩:=All.snoc hA
      obtain ⟨hA,_⟩:=All.snoc hA
      refine ⟨hob ▸ hA,fun g a w S=>?_⟩
      have S:SRep C g e3.st a w:=hst ▸ S
      obtain ⟨_,h2,h3⟩:=S.env q _ hq
      have h2:RepD g w (a.eval (.tmp q)) (.v (.row (some eq) sq qs)) (g.TE q):=h2
      have hone:=h2.inv.one rfl
      refine ⟨g,g.TE q,S,?_,?_,S.nodE q,fun b hb'=>⟨q,rfl,h3 b hb'⟩⟩
      ·rw [cells_one hone]
       have:=RepL.cons h2.inv (RepL.nil (p:=g.pub) (w:=w))
       simpa using this
      ·rw [cells_one hone];simpa using hone
     ·cases e'
      exact ⟨⟨_,hq⟩,holdB_ne k4⟩
     ·exact (All.snoc (All.snoc (All.snoc hA).1).1).2
     ·exact (All.snoc (All.snoc hA).1).2
     ·exact (All.snoc hA).2
    ·cases h
   ·cases h
  ·cases h
 ·split at h
  ·rename_i u e4 hv
   split at h
   ·rename_i r sz i j hl
    split at h
    ·rename_i et sz' es hu
     split at h
     ·rename_i hc
      cases h
      simp only [Bool.and_eq_true] at hc
      obtain ⟨⟨⟨k1,k2⟩,k3⟩,k4⟩:=hc
      have k1:=Nat.eq_of_beq_eq_true k1
      subst k1
      have k3:=sizeIs_eq k3
      refine OpOk.storeP (e1:=need (es.set i el'=es') (need (Fit (setC el j u.cells) el') (need (es[i]? = some el) e4))) (src:=none) (el:=el) (el':=el') ho hd hl hu k3 k4 (fun hA=>?_) (fun q' e'=>by cases e') (fun hA=>?_) (fun hA=>?_) (fun hA=>?_)
      ·obtain ⟨hA,_⟩:=All.snoc hA
       obtain ⟨hA,_⟩:=All.snoc hA
       obtain ⟨hA,_⟩:=All.snoc hA
       obtain ⟨h0,k⟩:=val_ok (C:=C) hv hA
       refine ⟨hob ▸ h0,fun g a w S=>?_⟩
       obtain ⟨g1,k1,S1,r1⟩:=k g a w (hst ▸ S)
       obtain ⟨r3,r4⟩:=r1.flat k2
       exact ⟨g1,[],S1,r3,r3.one r4,List.nodup_nil,fun b hb'=>by cases hb'⟩
      ·exact (All.snoc (All.snoc (All.snoc hA).1).1).2
      ·exact (All.snoc (All.snoc hA).1).2
      ·exact (All.snoc hA).2
     ·cases h
    ·cases h
   ·cases h
  ·cases h
end
theorem RepL.setAt {p:Pub} {w:World}:∀ {vs:List Value} {ds:List V} {T:List Nat} {c:Nat} {d:V},RepL p w vs ds T→ds[c]? = some d →
 ∃ v T1 Tc T2,vs[c]? = some v∧T=T1++(Tc++T2)∧Rep p w v d Tc∧RepL p w vs (ds.set c .any) (T1++T2)
 | _,_,_,_,_,.nil,h=>by simp at h
 | _,_,_,0,d,.cons (v:=v) (A:=A) (B:=B) h1 h2,h=>by
  simp only [List.getElem?_cons_zero,Option.some.injEq] at h
  subst h
  exact ⟨v,[],A,B,rfl,rfl,h1,(RepL.cons (A:=[]) (.any v) h2)⟩
 | _,_,_,c+1,d,.cons (A:=A) (B:=B) h1 h2,h=>by
  simp only [List.getElem?_cons_succ] at h
  obtain ⟨v,T1,Tc,T2,e1,e2,e3,e4⟩:=h2.setAt h
  subst e2
  refine ⟨v,A++T1,Tc,T2,by simpa using e1,by simp,e3,?_⟩
  have:=RepL.cons h1 e4
  simpa using this
theorem set_any {cs:List V} {c:Nat} {u:V} (h:cs[c]? = some u):cs.set c .any=cs.take c++[.any]++cs.drop (c+1):=by
 have hc:=(List.getElem?_eq_some_iff.1 h).1
 rw [List.set_eq_take_append_cons_drop,if_pos hc]
 simp
section
variable {P:Program} {C:Ctx} {g:G} {st:St} {a:Act} {w w':World}
theorem SRep.pluck (S:SRep C g st a w) {r:Root} {et sz i j:Nat} {es:List V} {el u:V} (hu:rootVal st r=some (.row (some et) sz es)) (hel:es[i]? = some el) (hok:setOk el j [.any]=true) (hc:el.cells[j]? = some u) :
 ∃ v Tc g',pv g a w (.elt r sz i j)=some v∧g'.pub=g.pub∧Rep g'.pub w v u Tc∧Tc.Nodup∧(∀ b∈Tc,g'.own b=none∧¬ g'.pub b∧(C.W.heap.size≤b∨C.Fz b)∧b < w.heap.size) ∧
  SRep C g' (st.reset r (.row (some et) sz (es.set i (setC el j [.any]))) none) a w:=by
 obtain ⟨v,T,hpv,hR,hTn,hTo,lens⟩:=S.lens hu
 obtain ⟨xs,A,hT,hcs,hl,h1,how⟩:=own_inv hR
 obtain ⟨hcells,hj⟩:=setC_cells hok
 simp only [List.length_cons,List.length_nil,Nat.zero_add] at hcells hj
 have hi:i < es.length:=(List.getElem?_eq_some_iff.1 hel).1
 have hels:el.cells.length=sz:=hcs el (List.mem_of_getElem? hel)
 have hfl:=flat_set (sz:=sz) (ds:=[.any]) (by simpa using hcells) (by simpa using hj) hcs hel
 simp only [List.length_cons,List.length_nil,Nat.zero_add] at hfl
 have hget:(es.flatMap V.cells)[i*sz+j]? = some u:=by
  obtain ⟨T1,A1,T2,_,_⟩:=RepL.elem hcs hl hel
  have key:∀ (es:List V) (i:Nat),(∀ e∈es,e.cells.length=sz)→es[i]? = some el→(es.flatMap V.cells)[i*sz+j]? = some u:=by
   intro es
   induction es with
   | nil=>intro i _ h;simp at h
   | cons e es ih =>
    intro i hs h
    cases i with
    | zero =>
     simp only [List.getElem?_cons_zero,Option.some.injEq] at h
     subst h
     rw [List.flatMap_cons,Nat.zero_mul,Nat.zero_add,List.getElem?_append_left (by omega)]
     exact hc
    | succ i =>
     simp only [List.getElem?_cons_succ] at h
     have he:=hs e (by simp)
     rw [List.flatMap_cons,List.getElem?_append_right (by rw [he,Nat.add_mul];omega),he,show (i+1)*sz+j - sz=i*sz+j by rw [Nat.add_mul];omega]
     exact ih i (fun e he=>hs e (by simp [he])) h
  exact key es i hcs hel
 obtain ⟨x,T1,Tc,T2,f1,f2,f3,f4⟩:=hl.setAt hget
 rw [set_any hget] at f4
 rw [← hfl] at f4
 have hn1:=List.nodup_append.1 (hT ▸ hTn)
 have hA:=List.nodup_append.1 (f2 ▸ hn1.2.1:(T1++(Tc++T2)).Nodup)
 have hA2:=List.nodup_append.1 hA.2.1
 have inT:∀ b,b∈T1∨b∈Tc∨b∈T2→b∈T:=fun b hb=>by
  rw [hT,f2]
  rcases hb with h | h | h<;>simp [h]
 have hlen:(es.set i (setC el j [.any])).length=es.length:=by simp
 have hRep:Rep g.pub w v (.row (some et) sz (es.set i (setC el j [.any]))) (v.ownBlock.toList++(T1++T2)):=by
  refine Rep.own (fun e he=>?_) f4 h1 (by rw [hlen];exact how)
  rcases List.mem_or_eq_of_mem_set he with h | h
  ·exact hcs e h
  ·rw [h,hcells]
   simp only [List.length_append,List.length_take,List.length_drop,List.length_cons,List.length_nil]
   omega
 have hdis:∀ b∈Tc,b∉v.ownBlock.toList++(T1++T2):=by
  intro b hb hb'
  simp only [List.mem_append] at hb'
  rcases hb' with h | h | h
  ·exact hn1.2.2 b h b (by rw [f2];simp [hb]) rfl
  ·exact hA.2.2 b h b (by simp [hb]) rfl
  ·exact hA2.2.2 b hb b h rfl
 have p1:(v.ownBlock.toList++(T1++T2)).Nodup:=by
  refine List.nodup_append.2 ⟨hn1.1,List.nodup_append.2 ⟨hA.1,hA2.2.1,fun b hb c hc e=>hA.2.2 b hb c (by simp [hc]) e⟩,fun b hb c hc e=>hn1.2.2 b hb c ?_ e⟩
  rw [f2]
  rcases List.mem_append.1 hc with h | h<;>simp [h]
 obtain ⟨g',hp,hf,S'⟩:=lens w (.row (some et) sz (es.set i (setC el j [.any]))) _ none rfl rfl rfl (Nat.le_refl _) (fun _ _ _=>rfl) hRep p1 (fun b hb=>.inl (by
  simp only [List.mem_append] at hb
  rcases hb with h | h | h
  ·rw [hT];simp only [List.mem_append];exact .inl h
  ·exact inT b (.inl h)
  ·exact inT b (.inr (.inr h)))) (by simp) (fun b hb _=>by simp [hb])
 refine ⟨x,Tc,g',?_,hp,hp ▸ f3,hA2.1,fun b hb=>?_,S'⟩
 ·simp only [pv,hpv,Option.bind_some]
  rcases how.2 with ⟨hv0,hn0⟩ | ⟨b',cap,cur,hv0,_,hg,_⟩
  ·omega
  ·rw [hv0]
   simp only [Value.ownBlock]
   rw [if_pos (hTo b' (by rw [hT,hv0];simp [Value.ownBlock]))]
   have hw:=how
   rw [hv0] at hw
   have hlt:i*sz+j < es.length*sz:=by
    have:(i+1)*sz≤es.length*sz:=Nat.mul_le_mul_right _ hi
    rw [Nat.add_mul,Nat.one_mul] at this
    omega
   rw [hw.cellAt _ hlt,f1]
 ·have hb':=hTo b (inT b (.inr (.inl hb)))
  have:=S.own b _ hb'
  exact ⟨hf b (inT b (.inr (.inl hb))) (hdis b hb),hp ▸ this.2.2,this.1,this.2.1⟩
theorem append_core (S:SRep C g st a w) {ts:Array TypeId} {ty t tx el:Nat} {i:TypeInfo} {z:Value} {v x:Value} {es es2 es':List V} {news:List Value} {T:List Nat} {d:Nat} (hts:ts = #[t,tx]) (hu:P.underlying t=some (.slice el)) (hi:P.info? el=some i) (hz:i.zero=some z)
 (k1:z.cells.size=i.size) (k3:140737488355328 / i.bytes≤maxLen) (hsz:es.length+es2.length≤140737488355328 / i.bytes) (hfit:FitL (es++es2) es') (hd:d < C.N)
 (hR:Rep g.pub w v (.row (some el) i.size es) T) (hTn:T.Nodup) (hfree:∀ b∈T,g.own b=none∧¬ g.pub b∧(C.W.heap.size≤b∨C.Fz b)∧b < w.heap.size)
 (hnew:g.own w.heap.size=none) (hsrc:Src P tx i.size es2.length news x w) (hnews:RepL g.pub w news (es2.flatMap V.cells) []) (hsize2:∀ e∈es2,e.cells.length=i.size) :
 ∃ v' w' T',(Builtin.append_ ts ty #[v,x]).run P w=.ok v' w'∧SRep C (g.put d T' fun _=>False) (st.put d (.d (.v (.row (some el) i.size es')))) (a.put (some d) v') w':=by
 subst hts
 have hb:(es.length+es2.length)*i.bytes≤140737488355328:=Nat.le_trans (Nat.mul_le_mul_right _ hsz) (Nat.div_mul_le_self _ _)
 have hm:es.length+es2.length≤maxLen:=Nat.le_trans hsz k3
 obtain ⟨xs,A,hT,h1,h2,h3,how0⟩:=own_inv hR
 obtain ⟨v',w',hr,how,hgr,hblk⟩:=append_run (P:=P) w t tx ty el i z i.size i.bytes hu hi hz rfl rfl k1 v es.length xs how0 x es2.length news hsrc hm hb
 refine ⟨v',w',v'.ownBlock.toList++(A++[]),hr,?_⟩
 have hpubw:∀ b,g.pub b→w'.heap[b]? = w.heap[b]?:=fun b hb'=>hgr.block b (S.publt b hb') (fun e=>by
  have hbT:b∈T:=by rw [hT,← e];simp
  exact (hfree b hbT).2.1 hb')
 have hAw:∀ b∈A,w'.heap[b]? = w.heap[b]?:=fun b hb'=>by
  have hbT:b∈T:=by rw [hT];simp [hb']
  refine hgr.block b (hfree b hbT).2.2.2 (fun e=>?_)
  rw [hT] at hTn
  exact (List.nodup_append.1 hTn).2.2 b (by rw [← e];simp) b hb' rfl
 have hfl:(es++es2).flatMap V.cells=es.flatMap V.cells++es2.flatMap V.cells:=by simp
 have hall:RepL g.pub w' (xs++news) (es'.flatMap V.cells) (A++[]):=by
  refine RepL.fit (ds:=(es++es2).flatMap V.cells) ?_ hfit.flat
  rw [hfl]
  exact (h2.keep ⟨fun _ h=>h,hpubw⟩ hAw).app (hnews.keep ⟨fun _ h=>h,hpubw⟩ (fun _ h=>by cases h))
 have hRep:Rep g.pub w' v' (.row (some el) i.size es') (v'.ownBlock.toList++(A++[])):=by
  refine Rep.own (hfit.sizes (fun e he=>?_)) hall (fun u hu'=>?_) ?_
  ·rcases List.mem_append.1 he with he | he
   ·exact h1 e he
   ·exact hsize2 e he
  ·rcases List.mem_append.1 hu' with hu' | hu'
   ·exact h3 u hu'
   ·exact hsrc.one u hu'
  ·rw [← hfit.length,List.length_append];exact how
 refine S.putF (row:=v.ownBlock) hgr (fun b hb'=>?_) hd ?_ ?_ hRep
 ·have:=hfree b (by rw [hT,hb'];simp)
  exact ⟨this.1,this.2.1,this.2.2.1⟩
 ·rw [List.append_nil,List.nodup_append]
  rw [hT] at hTn
  refine ⟨by cases v'.ownBlock<;>simp,(List.nodup_append.1 hTn).2.1,fun b hb1 c hc1 e=>?_⟩
  subst e
  simp only [Option.mem_toList] at hb1
  rcases (hblk b hb1).1 with h5 | h5
  ·exact (List.nodup_append.1 hTn).2.2 b (by rw [h5];simp) b hc1 rfl
  ·have:=(hfree b (by rw [hT];simp [hc1])).2.2.2;omega
 ·intro b hb'
  simp only [List.append_nil,List.mem_append,Option.mem_toList] at hb'
  rcases hb' with hb' | hb'
  ·obtain ⟨h5,h6⟩:=hblk b hb'
   rcases h5 with h5 | h5
   ·have:=hfree b (by rw [hT,h5];simp)
    exact ⟨this.1,this.2.1,this.2.2.1,h6⟩
   ·subst h5
    exact ⟨hnew,fun hp'=>by have:=S.publt _ hp';omega,.inl S.size,h6⟩
  ·have:=hfree b (by rw [hT];simp [hb'])
   exact ⟨this.1,this.2.1,this.2.2.1,Nat.lt_of_lt_of_le this.2.2.2 hgr.size⟩
def evAppendE (P:Program) (N:Nat) (o:Oper) (ts:Array TypeId) (s x:Operand) (e:E):Option E :=
 match dstOf N o with
 | none=>none
 | some d=>match ts.toList with
  | [t,tx]=>match P.underlying t with
   | some (.slice el)=>match P.info? el with
    | some i=>match i.zero with
     | some z=>match Nat.beq z.cells.size i.size && Nat.ble (140737488355328 / i.bytes) maxLen with
      | true=>match appX P tx i.size x e with
       | some (es2,e)=>match s with
        | .tmp q=>match look e.st.env q with
         | some (.al (.elt r sz j c))=>match rootVal e.st r with
          | some (.row (some et) sz' os)=>match hint e with
           | some (oe,e)=>match oe.cells[c]? with
            | some (.row (some e1) s1 es)=>match hint e with
             | some (.row (some _) _ es',e)=>match Nat.beq sz sz' && Nat.beq e1 el && Nat.beq s1 i.size && setOk oe c [.any] with
              | true=>some { (need (es.length+es2.length≤140737488355328 / i.bytes) (need (FitL (es++es2) es') (need (os[j]? = some oe) e))) with st:=(e.st.reset r (.row (some et) sz (os.set j (setC oe c [.any]))) none).put d (.d (.v (.row (some el) i.size es'))) }
              | false=>none
             | _=>none
            | _=>none
           | none=>none
          | _=>none
         | _=>none
        | _=>none
       | none=>none
      | false=>none
     | none=>none
    | none=>none
   | _=>none
  | _=>none
theorem SRep.newNone (S:SRep C g st a w):g.own w.heap.size=none:=by
 cases ho:g.own w.heap.size with
 | none=>rfl
 | some h'=>have:=(S.own _ _ ho).2.1;omega
theorem evAppendE_ok {o:Oper} {c:Call} {s x:Operand} {e e':E} (ho:o.op=.call c) (hc:c.callee=.builtin .append) (ha:c.args = #[s,x]) (h:evAppendE P C.N o c.argTypes s x e=some e'):OpOk P C o e e':=by
 unfold evAppendE at h
 split at h
 ·cases h
 rename_i d hd
 obtain ⟨hdd,hdN⟩:=dstOf_eq hd
 split at h
 rotate_left
 ·cases h
 rename_i t tx hts
 have hts:c.argTypes = #[t,tx]:=by
  rw [← Array.toArray_toList (xs:=c.argTypes),hts]
 split at h
 rotate_left
 ·cases h
 rename_i el hu
 split at h
 rotate_left
 ·cases h
 rename_i i hi
 split at h
 rotate_left
 ·cases h
 rename_i z hz
 split at h
 rotate_left
 ·cases h
 rename_i hck
 simp only [Bool.and_eq_true] at hck
 have k1:=Nat.eq_of_beq_eq_true hck.1
 have k3:=Nat.le_of_ble_eq_true hck.2
 split at h
 rotate_left
 ·cases h
 rename_i es2 e1 hx
 split at h
 rotate_left
 ·cases h
 rename_i q
 split at h
 rotate_left
 ·cases h
 rename_i r sz j cc hl
 split at h
 rotate_left
 ·cases h
 rename_i et sz' os hrv
 split at h
 rotate_left
 ·cases h
 rename_i oe e2 hh
 split at h
 rotate_left
 ·cases h
 rename_i e1' s1 es hcell
 split at h
 rotate_left
 ·cases h
 rename_i e3' s3' es' e3 hh2
 split at h
 rotate_left
 ·cases h
 rename_i hck2
 simp only [Bool.and_eq_true] at hck2
 obtain ⟨⟨⟨m1,m2⟩,m3⟩,m4⟩:=hck2
 have m1:=Nat.eq_of_beq_eq_true m1
 have m2:=Nat.eq_of_beq_eq_true m2
 have m3:=Nat.eq_of_beq_eq_true m3
 subst m1
 subst m2
 subst m3
 cases h
 obtain ⟨q1,q2⟩:=hint_eq hh
 obtain ⟨p1,p2⟩:=hint_eq hh2
 have hob:e3.ob=e1.ob:=by rw [p1,q1]
 have hst:e3.st=e1.st:=by rw [p2,q2]
 intro hA
 obtain ⟨hA,hsz⟩:=All.snoc (l:=e3.ob++_++_) hA
 obtain ⟨hA,hfit⟩:=All.snoc (l:=e3.ob++_) hA
 obtain ⟨hA,hel⟩:=All.snoc (l:=e3.ob) hA
 obtain ⟨h0,kx⟩:=appX_ok (C:=C) hx (hob ▸ hA)
 refine ⟨h0,fun g a w S next Q hn=>?_⟩
 obtain ⟨g1,news,kk,S1,hsrc,hnews,hsize2⟩:=kx g a w S
 obtain ⟨v,Tc,g2,hpv,hp,hR,hTn,hfree,S2⟩:=S1.pluck hrv hel m4 hcell
 obtain ⟨_,hal,_⟩:=S1.env q _ hl
 have hv:a.eval (.tmp q)=v:=by
  have:=hal.2
  rw [hpv] at this
  exact (Option.some.inj this).symm
 obtain ⟨v',w',T',hr,S3⟩:=append_core (P:=P) (ts:=c.argTypes) (ty:=o.type) (x:=a.eval x) S2 hts hu hi hz k1 k3 hsz hfit hdN hR hTn hfree S2.newNone hsrc (by rw [hp];exact hnews) hsize2
 refine wp_of_run (v:=v') (w':=w') ?_ ?_
 ·unfold execOp
  simp only [ho,resolve,hc,ha,Sem.run_bind,Sem.run_pure,Result.andThen_ok,invoke,builtin,List.map_toArray,List.map_cons,List.map_nil,hv,hr]
 ·rw [hdd]
  refine hn (g2.put d T' fun _=>False) _ _ ?_ (fun h=>by rw [ho] at h;simp [calmK,hc] at h)
  show SRep C _ ((e3.st.reset r _ none).put d _) _ _
  rw [hst]
  exact S3
end
inductive FitD:D→D→Prop
 | refl (d:D):FitD d d
 | v {x y:V}:Fit x y→FitD (.v x) (.v y)
inductive FitDL:List D→List D→Prop
 | nil:FitDL [] []
 | cons {c d:D} {cs ds:List D}:FitD c d→FitDL cs ds→FitDL (c :: cs) (d :: ds)
theorem FitDL.refl:∀ l:List D,FitDL l l
 | []=>.nil
 | c :: cs=>.cons (.refl c) (FitDL.refl cs)
theorem RepD.fit {g:G} {w:World} {v:Value} {c d:D} {T:List Nat} (h:RepD g w v c T) (f:FitD c d):RepD g w v d T:=by
 cases f with
 | refl=>exact h
 | v f=>exact .v (h.inv.fit f)
theorem RepDL.fit {g:G} {w:World}:∀ {vs:List Value} {cs ds:List D} {T:List Nat},RepDL g w vs cs T→FitDL cs ds→RepDL g w vs ds T
 | _,_,_,_,.nil,.nil=>.nil
 | _,_,_,_,.cons h1 h2,.cons f1 f2=>.cons (h1.fit f1) (h2.fit f2)
theorem FitDL.of:∀ {a b:List V},FitL a b→FitDL (dv a) (dv b)
 | _,_,.nil=>.nil
 | _,_,.cons f g=>.cons (.v f) (FitDL.of g)
inductive FitLL:List (List V)→List (List V)→Prop
 | nil:FitLL [] []
 | cons {c d:List V} {cs ds:List (List V)}:FitL c d→FitLL cs ds→FitLL (c :: cs) (d :: ds)
theorem FitLL.refl:∀ l:List (List V),FitLL l l
 | []=>.nil
 | c :: cs=>.cons (FitL.refl c) (FitLL.refl cs)
theorem FitLL.length:∀ {a b:List (List V)},FitLL a b→a.length=b.length
 | _,_,.nil=>rfl
 | _,_,.cons _ g=>by simp [g.length]
theorem FitLL.get:∀ {a b:List (List V)} {i:Nat} {d:List V},FitLL a b→b[i]? = some d→∃ c,a[i]? = some c∧FitL c d
 | _,_,_,_,.nil,h=>by simp at h
 | _,_,0,_,.cons f _,h=>by
  simp only [List.getElem?_cons_zero,Option.some.injEq] at h
  exact ⟨_,rfl,h ▸ f⟩
 | _,_,i+1,_,.cons _ g,h=>by
  simp only [List.getElem?_cons_succ] at h ⊢
  exact g.get h
structure Lent (g g':G) (w w':World):Prop where
 os:w'.os=w.os
 tape:w'.tape=w.tape
 output:w'.output=w.output
 size:w.heap.size≤w'.heap.size
 same:∀ b,b < w.heap.size→g.own b=none→w'.heap[b]? = w.heap[b]?
 n:g'.n=g.n
 loc:∀ i,i < g.n→g'.loc i=g.loc i
 pub:∀ b,g.pub b→g'.pub b
 pub':∀ b,g'.pub b→g.pub b∨w.heap.size≤b∨∃ h,g.own b=some h
 publt:∀ b,g'.pub b→b < w'.heap.size
 own:∀ b h,g'.own b=some h→(w.heap.size≤b∨∃ h',g.own b=some h')∧b < w'.heap.size∧¬ g'.pub b
def Boxes (g:G) (w:World) (bs:List (List V)):Prop:=∀ i c,bs[i]? = some c→BRep g w (g.loc i) (.cells (dv c)) (g.TB i)∧(g.TB i).Nodup∧∀ b∈g.TB i,g.own b=some (.inr i)
def ConX (P:Program) (f:FuncId) (us:List D) (bs:List (List V)) (r:D) (bs':List (List V)):Prop :=
 (∀ vs w,(callFunc f vs).run P w=.ok (.enter f vs) w) ∧
 ∀ (g:G) (w:World) (vs:List Value),g.n=bs.length→(∀ b,g.pub b→b < w.heap.size)→Tabs.t g.pub w→RepDL g w vs us []→Boxes g w bs→(∀ b h,g.own b=some h→b < w.heap.size∧¬ g.pub b) →
  Calls P f vs.toArray w fun e w'=>∃ (v:Value) (T:List Nat) (g':G),e=.returned v∧Lent g g' w w'∧RepD g' w' v r T∧T.Nodup∧(∀ b∈T,g'.own b=some (.inl 0))∧Boxes g' w' bs'
def ConX' (P:Program) (f:FuncId) (us:List D) (bs:List (List V)) (r:D) (bs':List (List V)):Prop:=∃ us' bs1,FitDL us us'∧FitLL bs bs1∧ConX P f us' bs1 r bs'
theorem ConX.c {P:Program} {f:FuncId} {us:List D} {bs bs':List (List V)} {r:D} (h:ConX P f us bs r bs'):ConX' P f us bs r bs':=⟨us,bs,FitDL.refl us,FitLL.refl bs,h⟩
theorem ConX.n {P:Program} {f:FuncId} {us us':List D} {bs bs1 bs':List (List V)} {r:D} (h:ConX P f us' bs1 r bs') (f1:FitDL us us') (f2:FitLL bs bs1):ConX' P f us bs r bs':=⟨us',bs1,f1,f2,h⟩
theorem BRep.fitV {g:G} {w:World} {l:Nat} {c d:List V} {T:List Nat} (h:BRep g w l (.cells (dv c)) T) (f:FitL c d):BRep g w l (.cells (dv d)) T:=by
 obtain ⟨cur,e,A,h1,h2,h3,h4⟩:=h
 exact ⟨cur,e,A,h1,h2,h3.fit (FitDL.of f),h4⟩
theorem Boxes.fit {g:G} {w:World} {bs bs':List (List V)} (h:Boxes g w bs) (f:FitLL bs bs'):Boxes g w bs':=fun i d hd=>by
 obtain ⟨c,hc,fc⟩:=f.get hd
 obtain ⟨h1,h2,h3⟩:=h i c hc
 exact ⟨h1.fitV fc,h2,h3⟩
theorem BRep.gV {g g':G} {w:World} {l:Nat} {c:List V} {T:List Nat} (h:BRep g w l (.cells (dv c)) T) (hp:g'.pub=g.pub):BRep g' w l (.cells (dv c)) T:=by
 obtain ⟨cur,e,A,h1,h2,h3,h4⟩:=h
 refine ⟨cur,e,A,h1,h2,?_,h4⟩
 have:=h3.undv
 rw [← hp] at this
 exact this.dv
section
variable {P:Program} {C:Ctx} {g:G} {st:St} {a:Act} {w w':World}
def idxOf (id:Nat):List Nat→Option Nat
 | []=>none
 | x :: l=>match Nat.beq id x with
  | true=>some 0
  | false=>(idxOf id l).map (· + 1)
theorem idxOf_get:∀ {l:List Nat} {id j:Nat},idxOf id l=some j→l[j]? = some id
 | [],_,_,h=>by simp [idxOf] at h
 | x :: l,id,j,h=>by
  simp only [idxOf] at h
  cases hb:Nat.beq id x with
  | true =>
   rw [hb] at h
   simp only [Option.some.injEq] at h
   subst h
   simp [Nat.eq_of_beq_eq_true hb]
  | false =>
   rw [hb] at h
   simp only at h
   cases hi:idxOf id l with
   | none=>rw [hi] at h;cases h
   | some k =>
    rw [hi] at h
    simp only [Option.map_some,Option.some.injEq] at h
    subst h
    simpa using idxOf_get hi
def distN:List Nat→Bool
 | []=>true
 | x :: l=>match (idxOf x l) with
  | none=>distN l
  | some _=>false
theorem idxOf_none:∀ {l:List Nat} {id:Nat},idxOf id l=none→id∉l
 | [],_,_=>by simp
 | x :: l,id,h=>by
  simp only [idxOf] at h
  cases hb:Nat.beq id x with
  | true=>rw [hb] at h;cases h
  | false =>
   rw [hb] at h
   simp only [Option.map_eq_none_iff] at h
   have:=idxOf_none h
   intro hm
   rcases List.mem_cons.1 hm with rfl | hm
   ·rw [Nat.beq_refl] at hb;cases hb
   ·exact this hm
theorem distN_ok:∀ {l:List Nat},distN l=true→l.Nodup
 | [],_=>List.nodup_nil
 | x :: l,h=>by
  simp only [distN] at h
  split at h
  ·rename_i hi
   exact List.nodup_cons.2 ⟨idxOf_none hi,distN_ok h⟩
  ·cases h
theorem nodup_idx:∀ {l:List Nat},l.Nodup→∀ {i j x:Nat},l[i]? = some x→l[j]? = some x→i=j
 | [],_,i,_,_,hi,_=>by simp at hi
 | y :: l,hn,0,0,_,_,_=>rfl
 | y :: l,hn,0,j+1,x,hi,hj=>by
  simp only [List.getElem?_cons_zero,Option.some.injEq,List.getElem?_cons_succ] at hi hj
  subst hi
  exact ((List.nodup_cons.1 hn).1 (List.mem_of_getElem? hj)).elim
 | y :: l,hn,i+1,0,x,hi,hj=>by
  simp only [List.getElem?_cons_zero,Option.some.injEq,List.getElem?_cons_succ] at hi hj
  subst hj
  exact ((List.nodup_cons.1 hn).1 (List.mem_of_getElem? hi)).elim
 | y :: l,hn,i+1,j+1,x,hi,hj=>by
  simp only [List.getElem?_cons_succ] at hi hj
  rw [nodup_idx (List.nodup_cons.1 hn).2 hi hj]
def G.lend (g:G) (ids:List Nat):G :=
 { pub:=g.pub,own:=fun b=>(ids.findIdx? fun id=>decide (b∈g.TB id)).map .inr,n:=ids.length,loc:=fun j=>g.loc (ids.getD j 0),TE:=fun _=>[],TB:=fun j=>if j < ids.length then g.TB (ids.getD j 0) else [] }
def killI (ids:List Nat) (l:List (Nat × X)):List (Nat × X):=match ids with
 | []=>l
 | id :: ids=>kill (isB id) (killI ids l)
def setI (bx:List Box):List Nat→List (List V)→List Box
 | id :: ids,c :: cs=>setI (bx.set id (.cells (dv c))) ids cs
 | _,_=>bx
def St.lent (st:St) (ids:List Nat) (bs':List (List V)):St:={ env:=killI ids st.env,box:=setI st.box ids bs' }
theorem look_killI {t:Nat}:∀ {ids:List Nat} {l:List (Nat × X)} {y:X},look (killI ids l) t=some y→y=.dead∧(∃ z,look l t=some z)∨look l t=some y∧∀ h,y.rootH=some h→∀ id∈ids,h≠.inr id
 | [],l,y,h=>.inr ⟨h,by simp⟩
 | id :: ids,l,y,h=>by
  simp only [killI,look_kill] at h
  cases hl:look (killI ids l) t with
  | none=>rw [hl] at h;cases h
  | some z =>
   rw [hl] at h
   simp only [Option.map_some,Option.some.injEq] at h
   rcases look_killI hl with ⟨rfl,z',hz⟩ | ⟨hz,hr⟩
   ·exact .inl ⟨h ▸ rfl,z',hz⟩
   ·by_cases hd:y=.dead
    ·exact .inl ⟨hd,z,hz⟩
    ·rcases X.kill_cases (isB id) z with h1 | ⟨h1,_⟩
     ·exact (hd (by rw [← h,h1])).elim
     ·rw [h1] at h
      subst h
      refine .inr ⟨hz,fun h' hh i hi=>?_⟩
      rcases List.mem_cons.1 hi with rfl | hi
      ·exact X.killR_rootH (q:=.b i 0) h1 hd h' hh
      ·exact hr h' hh i hi
theorem setI_length:∀ {ids:List Nat} {cs:List (List V)} {bx:List Box},(setI bx ids cs).length=bx.length
 | [],_,_=>by simp [setI]
 | _ :: _,[],_=>by simp [setI]
 | id :: ids,c :: cs,bx=>by simp only [setI,setI_length,List.length_set]
theorem setI_ne:∀ {ids:List Nat} {cs:List (List V)} {bx:List Box} {i:Nat},i∉ids→(setI bx ids cs)[i]? = bx[i]?
 | [],_,_,_,_=>by simp [setI]
 | _ :: _,[],_,_,_=>by simp [setI]
 | id :: ids,c :: cs,bx,i,h=>by
  simp only [List.mem_cons,not_or] at h
  simp only [setI]
  rw [setI_ne h.2,List.getElem?_set_ne (fun e=>h.1 e.symm)]
theorem setI_at:∀ {ids:List Nat} {cs:List (List V)} {bx:List Box} {j id:Nat},ids.Nodup→ids.length=cs.length→ids[j]? = some id→id < bx.length→∃ c,cs[j]? = some c∧(setI bx ids cs)[id]? = some (.cells (dv c))
 | [],_,_,_,_,_,_,h,_=>by simp at h
 | _ :: _,[],_,_,_,_,h,_,_=>by simp at h
 | x :: ids,c :: cs,bx,0,id,hn,hl,h,hb=>by
  simp only [List.getElem?_cons_zero,Option.some.injEq] at h
  subst h
  refine ⟨c,rfl,?_⟩
  simp only [setI]
  rw [setI_ne (List.nodup_cons.1 hn).1,List.getElem?_set_self hb]
 | x :: ids,c :: cs,bx,j+1,id,hn,hl,h,hb=>by
  simp only [List.getElem?_cons_succ] at h
  simp only [setI,List.getElem?_cons_succ]
  exact setI_at (List.nodup_cons.1 hn).2 (by simpa using hl) h (by simpa using hb)
def G.back (g g':G) (ids:List Nat):G :=
 { pub:=g'.pub,own:=fun b=>match g'.own b with
     | some (.inr j)=>if j < ids.length then some (.inr (ids.getD j 0)) else none
     | some (.inl _)=>none
     | none=>if (ids.any fun id=>decide (b∈g.TB id))=true then none else g.own b,
   n:=g.n,loc:=g.loc,TE:=g.TE,TB:=fun i=>match idxOf i ids with
     | some j=>g'.TB j
     | none=>g.TB i }
theorem idxOf_of:∀ {l:List Nat} {j id:Nat},l.Nodup→l[j]? = some id→idxOf id l=some j
 | [],_,_,_,h=>by simp at h
 | x :: l,0,id,_,h=>by
  simp only [List.getElem?_cons_zero,Option.some.injEq] at h
  subst h
  simp [idxOf,Nat.beq_refl]
 | x :: l,j+1,id,hn,h=>by
  simp only [List.getElem?_cons_succ] at h
  have hne:Nat.beq id x=false:=by
   cases hb:Nat.beq id x with
   | true =>
    have:=Nat.eq_of_beq_eq_true hb
    subst this
    exact ((List.nodup_cons.1 hn).1 (List.mem_of_getElem? h)).elim
   | false=>rfl
  simp only [idxOf,hne,idxOf_of (List.nodup_cons.1 hn).2 h,Option.map_some]
theorem SRep.lendOk (S:SRep C g st a w) {ids:List Nat} {bs:List (List V)} (hn:ids.Nodup) (hl:ids.length=bs.length) (hb:∀ (j id:Nat),ids[j]? = some id→∃ c,bs[j]? = some c∧st.box[id]? = some (Box.cells (dv c))) :
 Boxes (g.lend ids) w bs∧(∀ b h,(g.lend ids).own b=some h→∃ j id,h=.inr j∧ids[j]? = some id∧b∈g.TB id∧g.own b=some (.inr id))∧(∀ j id b,ids[j]? = some id→b∈g.TB id→(g.lend ids).own b=some (.inr j)):=by
 have hown:∀ j id b,ids[j]? = some id→b∈g.TB id→g.own b=some (.inr id):=fun j id b hj hbm=>by
  obtain ⟨c,_,hc⟩:=hb j id hj
  exact (S.box id _ hc).2 b hbm
 have h2:∀ b h,(g.lend ids).own b=some h→∃ j id,h=.inr j∧ids[j]? = some id∧b∈g.TB id∧g.own b=some (.inr id):=by
  intro b h ho
  simp only [G.lend] at ho
  cases hf:ids.findIdx? (fun id=>decide (b∈g.TB id)) with
  | none=>rw [hf] at ho;cases ho
  | some j =>
   rw [hf] at ho
   simp only [Option.map_some,Option.some.injEq] at ho
   obtain ⟨hj,hp,_⟩:=List.findIdx?_eq_some_iff_getElem.1 hf
   have hm:b∈g.TB ids[j]:=by simpa using hp
   exact ⟨j,ids[j],ho.symm,List.getElem?_eq_getElem hj,hm,hown j _ b (List.getElem?_eq_getElem hj) hm⟩
 have h3:∀ j id b,ids[j]? = some id→b∈g.TB id→(g.lend ids).own b=some (.inr j):=by
  intro j id b hj hm
  cases hf:ids.findIdx? (fun id=>decide (b∈g.TB id)) with
  | none =>
   have:=List.findIdx?_eq_none_iff.1 hf id (List.mem_of_getElem? hj)
   simp [hm] at this
  | some k =>
   have ho:(g.lend ids).own b=some (.inr k):=by simp only [G.lend,hf,Option.map_some]
   obtain ⟨j',id',e1,e2,e3,e4⟩:=h2 b _ ho
   cases e1
   rw [hown j id b hj hm] at e4
   cases e4
   rw [ho,nodup_idx hn e2 hj]
 refine ⟨fun j c hc=>?_,h2,h3⟩
 have hj:j < ids.length:=by rw [hl];exact (List.getElem?_eq_some_iff.1 hc).1
 have hid:ids[j]? = some ids[j]:=List.getElem?_eq_getElem hj
 obtain ⟨c',hc',hbx⟩:=hb j _ hid
 rw [hc] at hc'
 cases hc'
 obtain ⟨h1,h4⟩:=S.box _ _ hbx
 have eT:(g.lend ids).TB j=g.TB ids[j]:=by simp only [G.lend];rw [if_pos hj,List.getD_eq_getElem?_getD,hid];rfl
 have eL:(g.lend ids).loc j=g.loc ids[j]:=by simp only [G.lend];rw [List.getD_eq_getElem?_getD,hid];rfl
 rw [eT,eL]
 exact ⟨h1.gV rfl,S.nodB _,fun b hbm=>h3 j _ b hid hbm⟩
theorem SRep.lentOk (S:SRep C g st a w) {ids:List Nat} {bs bs':List (List V)} {g':G} (hn:ids.Nodup) (hl:ids.length=bs.length) (hl':ids.length=bs'.length) (hb:∀ (j id:Nat),ids[j]? = some id→∃ c,bs[j]? = some c∧st.box[id]? = some (Box.cells (dv c)))
 (hL:Lent (g.lend ids) g' w w') (hB:Boxes g' w' bs'):KeepsG g (g.back g' ids) w w'∧SRep C (g.back g' ids) (st.lent ids bs') a w' ∧
  ∀ b,g'.own b=some (.inl 0)→(g.back g' ids).own b=none∧¬ (g.back g' ids).pub b∧(C.W.heap.size≤b∨C.Fz b)∧b < w'.heap.size:=by
 obtain ⟨hBx,hown1,hown2⟩:=S.lendOk hn hl hb
 have hlt:∀ j id,ids[j]? = some id→id < st.box.length:=fun j id hj=>by
  obtain ⟨c,_,hc⟩:=hb j id hj
  exact (List.getElem?_eq_some_iff.1 hc).1
 have hgn:∀ j id,ids[j]? = some id→id < g.n:=fun j id hj=>by rw [S.n];exact hlt j id hj
 have hgd:∀ j id,ids[j]? = some id→ids.getD j 0=id:=fun j id hj=>by rw [List.getD_eq_getElem?_getD,hj];rfl
 have notlent:∀ b,(∀ (j id:Nat),ids[j]? = some id→b∉g.TB id)→(g.lend ids).own b=none:=fun b h=>by
  cases ho:(g.lend ids).own b with
  | none=>rfl
  | some k=>obtain ⟨j,id,_,e2,e3,_⟩:=hown1 b k ho;exact (h j id e2 e3).elim
 have same:∀ b,b < w.heap.size→(∀ (j id:Nat),ids[j]? = some id→b∉g.TB id)→w'.heap[b]? = w.heap[b]?:=fun b hb1 h=>hL.same b hb1 (notlent b h)
 have own3:∀ j id b,ids[j]? = some id→b∈g.TB id→g.own b=some (.inr id):=fun j id b hj hm=>by
  obtain ⟨c,_,hc⟩:=hb j id hj
  exact (S.box id _ hc).2 b hm
 have anyB:∀ b,(ids.any fun id=>decide (b∈g.TB id))=true↔∃ (j id:Nat),ids[j]? = some id∧b∈g.TB id:=fun b=>by
  rw [List.any_eq_true]
  constructor
  ·rintro ⟨id,h1,h2⟩
   obtain ⟨j,hj⟩:=List.getElem?_of_mem h1
   exact ⟨j,id,hj,by simpa using h2⟩
  ·rintro ⟨j,id,h1,h2⟩
   exact ⟨id,List.mem_of_getElem? h1,by simpa using h2⟩
 have newB:∀ b h,g'.own b=some h→w.heap.size≤b∨∃ (j id:Nat),ids[j]? = some id∧b∈g.TB id:=fun b h ho=>by
  rcases (hL.own b h ho).1 with h1 | ⟨h',h1⟩
  ·exact .inl h1
  ·obtain ⟨j,id,_,e2,e3,_⟩:=hown1 b h' h1
   exact .inr ⟨j,id,e2,e3⟩
 have fz:∀ b h,g'.own b=some h→C.W.heap.size≤b∨C.Fz b:=fun b h ho=>by
  rcases newB b h ho with h1 | ⟨j,id,h1,h2⟩
  ·exact .inl (Nat.le_trans S.size h1)
  ·exact (S.own b _ (own3 j id b h1 h2)).1
 let chg:Nat ⊕ Nat→Prop:=fun h=>∃ (j id:Nat),ids[j]? = some id∧h=.inr id
 have keepOwn:∀ b h,g.own b=some h→¬ chg h→(g.back g' ids).own b=some h:=by
  intro b h ho hc
  have hnot:¬ ∃ (j id:Nat),ids[j]? = some id∧b∈g.TB id:=by
   rintro ⟨j,id,h1,h2⟩
   rw [own3 j id b h1 h2] at ho
   cases ho
   exact hc ⟨j,id,h1,rfl⟩
  have h1:g'.own b=none:=by
   cases h2:g'.own b with
   | none=>rfl
   | some k =>
    rcases newB b k h2 with h3 | h3
    ·have:=(S.own b h ho).2.1;omega
    ·exact (hnot h3).elim
  simp only [G.back,h1]
  rw [if_neg (by rw [anyB];exact hnot)]
  exact ho
 have k:KeepsG g (g.back g' ids) w w':=⟨fun b hb1=>hL.pub b hb1,Nat.le_refl _,fun _ _=>rfl,fun b hb1=>same b (S.publt b hb1) fun j id hj hm=>(S.own b _ (own3 j id b hj hm)).2.2 hb1⟩
 refine ⟨k,?_,?_⟩
 ·refine S.change chg S.defers S.tmps hL.os hL.tape hL.output hL.size (fun b hb1=>hL.pub b hb1) ?_ hL.publt ?_ (Nat.le_refl _) (fun _ _=>rfl) ?_ keepOwn ?_ ?_ ?_ ?_ ?_ ?_ ?_
  ·intro b hb1
   rcases hL.pub' b hb1 with h | h | ⟨h,h1⟩
   ·exact .inl h
   ·exact .inr (.inl h)
   ·obtain ⟨j,id,_,_,_,e4⟩:=hown1 b h h1
    exact .inr (.inr ⟨_,e4⟩)
  ·show g.n=_
   simp only [St.lent,setI_length]
   exact S.n
  ·intro b hb1 h
   refine same b hb1 fun j id hj hm=>?_
   have ho:=own3 j id b hj hm
   rcases h with h | ⟨h,h1,h2⟩ | ⟨h1,h2⟩
   ·exact (S.own b _ ho).2.2 h
   ·rw [ho] at h1;cases h1;exact h2 ⟨j,id,hj,rfl⟩
   ·rcases (S.own b _ ho).1 with h3 | h3
    ·omega
    ·exact h2 h3
  ·intro t _;exact ⟨rfl,rfl⟩
  ·intro i hi
   have hni:i∉ids:=fun hm=>by
    obtain ⟨j,hj⟩:=List.getElem?_of_mem hm
    exact hi ⟨j,i,hj,rfl⟩
   refine ⟨?_,by simp only [St.lent];exact setI_ne hni⟩
   simp only [G.back]
   cases hx:idxOf i ids with
   | none=>rfl
   | some j=>exact (hni (List.mem_of_getElem? (idxOf_get hx))).elim
  ·intro t y hy
   simp only [St.lent] at hy
   refine .inl ⟨?_,?_⟩
   ·rintro ⟨_,_,_,e⟩;cases e
   ·rcases look_killI hy with ⟨h,z,hz⟩ | ⟨h,hr⟩
    ·exact .inr ⟨h,z,hz⟩
    ·refine .inl ⟨h,fun h' hh=>?_⟩
     rintro ⟨j,id,hj,e⟩
     exact hr h' hh id (List.mem_of_getElem? hj) e
  ·rintro i b hb1 ⟨j,id,hj,e⟩
   cases e
   obtain ⟨c,hc,hs⟩:=setI_at (bx:=st.box) hn hl' hj (hlt j i hj)
   simp only [St.lent] at hb1
   rw [hs] at hb1
   cases hb1
   obtain ⟨h1,h2,h3⟩:=hB j c hc
   have eT:(g.back g' ids).TB i=g'.TB j:=by simp only [G.back,idxOf_of hn hj]
   have hjl:j < ids.length:=(List.getElem?_eq_some_iff.1 hj).1
   have eL:g'.loc j=(g.back g' ids).loc i:=by
    rw [hL.loc j (by simpa [G.lend] using hjl)]
    show g.loc (ids.getD j 0)=g.loc i
    rw [hgd j i hj]
   rw [eT,← eL]
   refine ⟨h1.gV rfl,fun b hm=>?_⟩
   simp only [G.back,h3 b hm]
   rw [if_pos hjl,hgd j i hj]
  ·rintro t ⟨_,_,_,e⟩;cases e
  ·rintro i ⟨j,id,hj,e⟩
   cases e
   have eT:(g.back g' ids).TB i=g'.TB j:=by simp only [G.back,idxOf_of hn hj]
   rw [eT]
   obtain ⟨c,hc,_⟩:=setI_at (bx:=st.box) hn hl' hj (hlt j i hj)
   exact (hB j c hc).2.1
  ·intro b h ho
   simp only [G.back] at ho
   split at ho
   ·rename_i j hj
    split at ho
    ·cases ho
     have:=hL.own b _ hj
     refine .inr ⟨?_,this.2.1,this.2.2⟩
     rcases newB b _ hj with h1 | ⟨j',id,h1,h2⟩
     ·exact .inr (.inl h1)
     ·exact .inl ⟨_,own3 j' id b h1 h2⟩
    ·cases ho
   ·cases ho
   ·split at ho
    ·cases ho
    ·rename_i hnone hany
     refine .inl ⟨ho,fun hp=>?_⟩
     rcases hL.pub' b hp with h1 | h1 | ⟨h',h1⟩
     ·exact (S.own b h ho).2.2 h1
     ·have:=(S.own b h ho).2.1;omega
     ·obtain ⟨j,id,_,e2,e3,_⟩:=hown1 b h' h1
      exact hany ((anyB b).2 ⟨j,id,e2,e3⟩)
 ·intro b hb1
  have:=hL.own b _ hb1
  refine ⟨by simp only [G.back,hb1],this.2.2,fz b _ hb1,this.2.1⟩
end
def argX (ids:List Nat) (x:Operand) (e:E):Option (D × List Nat × E) :=
 match (match x with | .tmp t=>look e.st.env t | _=>none) with
 | some (.d (.ptr id off))=>match idxOf id ids with
  | some j=>some (.ptr j off,ids,e)
  | none=>some (.ptr ids.length off,ids++[id],e)
 | _=>match val x e with
  | some (u,e)=>some (.v u,ids,e)
  | none=>none
def argsX (ids:List Nat):List Operand→E→Option (List D × List Nat × E)
 | [],e=>some ([],ids,e)
 | x :: xs,e=>match argX ids x e with
  | some (u,ids,e)=>match argsX ids xs e with
   | some (us,ids,e)=>some (u :: us,ids,e)
   | none=>none
  | none=>none
def boxesV (st:St):List Nat→Option (List (List V))
 | []=>some []
 | id :: ids=>match st.box[id]? with
  | some (.cells cs)=>match undv cs,boxesV st ids with
   | some c,some l=>some (c :: l)
   | _,_=>none
  | _=>none
def unaggs:List V→Option (List (List V))
 | []=>some []
 | .agg c :: l=>match unaggs l with
  | some r=>some (c :: r)
  | none=>none
 | _=>none
theorem boxesV_get {st:St}:∀ {ids:List Nat} {bs:List (List V)},boxesV st ids=some bs→ids.length=bs.length∧∀ (j id:Nat),ids[j]? = some id→∃ c,bs[j]? = some c∧st.box[id]? = some (Box.cells (dv c))
 | [],bs,h=>by cases h;exact ⟨rfl,fun j id h=>by simp at h⟩
 | x :: ids,bs,h=>by
  simp only [boxesV] at h
  split at h
  ·rename_i cs hb
   split at h
   ·rename_i c l hu hl
    cases h
    obtain ⟨h1,h2⟩:=boxesV_get hl
    refine ⟨by simp [h1],fun j id hj=>?_⟩
    cases j with
    | zero =>
     simp only [List.getElem?_cons_zero,Option.some.injEq] at hj
     subst hj
     exact ⟨c,rfl,by rw [hb,undv_eq hu]⟩
    | succ j =>
     simp only [List.getElem?_cons_succ] at hj ⊢
     exact h2 j id hj
   ·cases h
  ·cases h
section
variable {P:Program} {C:Ctx} {g:G} {st:St} {a:Act} {w w':World}
inductive ArgD (g:G) (w:World) (ids:List Nat):Value→D→Prop
 | v {u:Value} {x:V}:Rep g.pub w u x []→ArgD g w ids u (.v x)
 | ptr {j id off:Nat}:ids[j]? = some id→id < g.n→ArgD g w ids (.pointer (some ⟨g.loc id,off,none⟩)) (.ptr j off)
inductive ArgDL (g:G) (w:World) (ids:List Nat):List Value→List D→Prop
 | nil:ArgDL g w ids [] []
 | cons {v:Value} {d:D} {vs:List Value} {ds:List D}:ArgD g w ids v d→ArgDL g w ids vs ds→ArgDL g w ids (v :: vs) (d :: ds)
theorem ArgD.up {g':G} {ids ids':List Nat} {v:Value} {d:D} (h:ArgD g w ids v d) (k:KeepsG g g' w w) (hp:∀ (j x:Nat),ids[j]? = some x→ids'[j]? = some x):ArgD g' w ids' v d:=by
 cases h with
 | v h=>exact .v (h.keep k.k (fun _ h=>by cases h))
 | ptr h1 h2=>rw [← k.loc _ h2];exact .ptr (hp _ _ h1) (Nat.lt_of_lt_of_le h2 k.n)
theorem ArgDL.lend {ids:List Nat}:∀ {vs:List Value} {ds:List D},ArgDL g w ids vs ds→RepDL (g.lend ids) w vs ds []
 | _,_,.nil=>.nil
 | _,_,.cons h1 h2=>by
  refine RepDL.cons (A:=[]) (B:=[]) ?_ h2.lend
  cases h1 with
  | v h=>exact .v h
  | @ptr j id off h hl =>
   have:(g.lend ids).loc j=g.loc id:=by simp only [G.lend];rw [List.getD_eq_getElem?_getD,h];rfl
   rw [← this]
   exact .ptr (by simpa [G.lend] using (List.getElem?_eq_some_iff.1 h).1)
theorem argX_ok {ids ids':List Nat} {x:Operand} {e e':E} {u:D} (h:argX ids x e=some (u,ids',e')):All e'.ob→All e.ob∧(∀ (j y:Nat),ids[j]? = some y→ids'[j]? = some y)∧∀ g a w,SRep C g e.st a w →
 ∃ g',KeepsG g g' w w∧SRep C g' e'.st a w∧ArgD g' w ids' (a.eval x) u:=by
 intro hA
 unfold argX at h
 split at h
 ·rename_i id off hx
  have hk:∃ t,x=.tmp t∧look e.st.env t=some (.d (.ptr id off)):=by
   cases x with
   | tmp t=>exact ⟨t,rfl,hx⟩
   | _=>cases hx
  obtain ⟨t,rfl,hl⟩:=hk
  have rep:∀ g a w,SRep C g e.st a w→id < g.n∧a.eval (.tmp t)=.pointer (some ⟨g.loc id,off,none⟩):=by
   intro g a w S
   have h2:RepD g w (a.tmps.getD t undef) (.ptr id off) (g.TE t):=(S.env t _ hl).2.1
   show id < g.n∧a.tmps.getD t undef=_
   generalize a.tmps.getD t undef=v at h2
   generalize g.TE t=T at h2
   cases h2 with
   | ptr h=>exact ⟨h,rfl⟩
  split at h
  ·rename_i j hj
   cases h
   refine ⟨hA,fun _ _ h=>h,fun g a w S=>⟨g,KeepsG.refl g w,S,?_⟩⟩
   obtain ⟨h1,h2⟩:=rep g a w S
   rw [h2]
   exact .ptr (idxOf_get hj) h1
  ·cases h
   refine ⟨hA,fun j y h=>?_,fun g a w S=>⟨g,KeepsG.refl g w,S,?_⟩⟩
   ·rw [List.getElem?_append_left (List.getElem?_eq_some_iff.1 h).1];exact h
   obtain ⟨h1,h2⟩:=rep g a w S
   rw [h2]
   exact .ptr (by simp) h1
 ·split at h
  ·rename_i u e1 hv
   cases h
   obtain ⟨h0,k⟩:=val_ok (C:=C) hv hA
   refine ⟨h0,fun _ _ h=>h,fun g a w S=>?_⟩
   obtain ⟨g',kk,S',r⟩:=k g a w S
   exact ⟨g',kk,S',.v r⟩
  ·cases h
theorem argsX_ok:∀ {xs:List Operand} {ids ids':List Nat} {e e':E} {us:List D},argsX ids xs e=some (us,ids',e')→All e'.ob→All e.ob∧(∀ (j y:Nat),ids[j]? = some y→ids'[j]? = some y)∧∀ g a w,SRep C g e.st a w →
 ∃ g',KeepsG g g' w w∧SRep C g' e'.st a w∧ArgDL g' w ids' (xs.map a.eval) us
 | [],ids,ids',e,e',us,h,hA=>by
  cases h
  exact ⟨hA,fun _ _ h=>h,fun g a w S=>⟨g,KeepsG.refl g w,S,.nil⟩⟩
 | x :: xs,ids,ids',e,e',us,h,hA=>by
  simp only [argsX] at h
  split at h
  ·rename_i u ids1 e1 h1
   split at h
   ·rename_i us2 ids2 e2 h2
    cases h
    obtain ⟨a1,p1,k1⟩:=argsX_ok h2 hA
    obtain ⟨a0,p0,k0⟩:=argX_ok (C:=C) h1 a1
    refine ⟨a0,fun j y h=>p1 j y (p0 j y h),fun g a w S=>?_⟩
    obtain ⟨g1,kk1,S1,r1⟩:=k0 g a w S
    obtain ⟨g2,kk2,S2,r2⟩:=k1 g1 a w S1
    exact ⟨g2,kk1.trans kk2,S2,.cons (r1.up kk2 p1) r2⟩
   ·cases h
  ·cases h
def evCallX (N:Nat) (P:Program) (o:Oper) (f:Operand) (xs:List Operand) (e:E):Option E :=
 match val f e with
 | some (u,e)=>match fnOf u with
  | some (n,[])=>match argsX [] xs e with
   | some (us,ids,e)=>match distN ids,boxesV e.st ids with
    | true,some bs=>match hint e with
     | some (r,e)=>match hint e with
      | some (.tup hs,e)=>match unaggs hs with
       | some bs'=>match Nat.beq ids.length bs'.length with
        | true=>match o.dst with
         | none=>some { need (ConX' P n us bs (.v r) bs') e with st:=e.st.lent ids bs' }
         | some _=>match dstOf N o with
          | some d=>some { need (ConX' P n us bs (.v r) bs') e with st:=(e.st.lent ids bs').put d (.d (.v r)) }
          | none=>none
        | false=>none
       | none=>none
      | _=>none
     | none=>none
    | _,_=>none
   | none=>none
  | _=>none
 | none=>none
def lends (e:E):List Operand→Bool
 | []=>false
 | .tmp t :: xs=>match look e.st.env t with
  | some (.d (.ptr _ _))=>true
  | _=>lends e xs
 | _ :: xs=>lends e xs
theorem evCallX_ok {o:Oper} {c:Call} {f:Operand} {e e':E} (ho:o.op=.call c) (hc:c.callee=.value f) (h:evCallX C.N P o f c.args.toList e=some e') (hcalm:calmK P o.op=false):OpOk P C o e e':=by
 unfold evCallX at h
 split at h
 rotate_left
 ·cases h
 rename_i u0 e1 hf
 split at h
 rotate_left
 ·cases h
 rename_i n hfn
 have hfn:=fnOf_eq hfn
 subst hfn
 split at h
 rotate_left
 ·cases h
 rename_i us ids e2 hv
 split at h
 rotate_left
 ·cases h
 rename_i bs hdn hbs
 split at h
 rotate_left
 ·cases h
 rename_i r e3 hh1
 split at h
 rotate_left
 ·cases h
 rename_i hs e4 hh2
 split at h
 rotate_left
 ·cases h
 rename_i bs' hun
 split at h
 rotate_left
 ·cases h
 rename_i hlen
 have hlen:=Nat.eq_of_beq_eq_true hlen
 obtain ⟨a1,a2⟩:=hint_eq hh1
 obtain ⟨b1,b2⟩:=hint_eq hh2
 have hob:e4.ob=e2.ob:=by rw [b1,a1]
 have hst:e4.st=e2.st:=by rw [b2,a2]
 obtain ⟨hl,hbx⟩:=boxesV_get hbs
 have hnd:=distN_ok hdn
 have main:∀ (obl:ConX' P n us bs (.v r) bs') (hA:All e4.ob) g a w,SRep C g e.st a w→∀ (Q:Exit→Act→World→Prop) (next:Act→World→Prop),
  (∀ (v:Value) (w':World) (T:List Nat) (g2:G),SRep C g2 (e2.st.lent ids bs') a w'→T.Nodup→(∀ b∈T,g2.own b=none∧¬ g2.pub b∧(C.W.heap.size≤b∨C.Fz b)∧b < w'.heap.size)→Rep g2.pub w' v r T→next (a.put o.dst v) w')→o.wp P a w next Q:=by
  intro obl hA g a w S Q next hn
  obtain ⟨us',bs1,hf1,hf2,hen,hcon⟩:=obl
  obtain ⟨hA1,_,kv⟩:=argsX_ok (C:=C) hv (hob ▸ hA)
  obtain ⟨_,kf⟩:=val_ok (C:=C) hf hA1
  obtain ⟨g0,k0,S0,r0⟩:=kf g a w S
  obtain ⟨g1,k1,S1,r1⟩:=kv g0 a w S0
  have hfv:a.eval f=.func (.func n) #[] #[]:=by
   obtain ⟨vs0,h1,h2⟩:=r0.clo_inv
   cases h2
   exact h1
  have hargs:(c.args.map a.eval)=(c.args.toList.map a.eval).toArray:=by apply Array.ext';rw [Array.toList_map]
  unfold Oper.wp
  have:(execOp a.eval o).run P w=.ok (.enter n (c.args.toList.map a.eval).toArray) w:=by
   unfold execOp
   simp only [ho,resolve,hc,hfv,hargs,Deferred.ofValue,Sem.run_bind,Sem.run_pure,Result.andThen_ok,invoke]
   simpa using hen _ w
  rw [this,Oper.upon_enter]
  obtain ⟨hB,hown1,hown2⟩:=S1.lendOk hnd hl hbx
  refine (hcon (g1.lend ids) w _ (by rw [← hf2.length,← hl];rfl) S1.publt S1.tab (r1.lend.fit hf1) (hB.fit hf2) (fun b h ho'=>?_)).mono fun ee w' he=>?_
  ·obtain ⟨j,id,_,_,_,h4⟩:=hown1 b h ho'
   exact ⟨(S1.own b _ h4).2.1,(S1.own b _ h4).2.2⟩
  ·obtain ⟨v,T,g',rfl,hL,hR,hT,hTo,hB'⟩:=he
   obtain ⟨kk,S2,hfree⟩:=S1.lentOk hnd hl hlen hbx hL hB'
   exact hn v w' T _ S2 hT (fun b hb=>hfree b (hTo b hb)) hR.inv
 split at h
 ·rename_i hd
  cases h
  intro hA
  obtain ⟨hA,obl⟩:=All.snoc (l:=e4.ob) hA
  have h0:=(val_ok (C:=C) hf (argsX_ok (C:=C) hv (hob ▸ hA)).1).1
  refine ⟨h0,fun g a w S next Q hn=>main obl hA g a w S Q next fun v w' T g2 S2 hT hfree hR=>?_⟩
  rw [hd]
  refine hn g2 _ _ ?_ (fun h=>by rw [hcalm] at h;cases h)
  show SRep C g2 (e4.st.lent ids bs') _ _
  rw [hst]
  exact S2
 ·split at h
  ·rename_i d hd
   cases h
   obtain ⟨hdd,hdN⟩:=dstOf_eq hd
   intro hA
   obtain ⟨hA,obl⟩:=All.snoc (l:=e4.ob) hA
   have h0:=(val_ok (C:=C) hf (argsX_ok (C:=C) hv (hob ▸ hA)).1).1
   refine ⟨h0,fun g a w S next Q hn=>main obl hA g a w S Q next fun v w' T g2 S2 hT hfree hR=>?_⟩
   rw [hdd]
   refine hn (g2.put d T fun _=>False) _ _ ?_ (fun h=>by rw [hcalm] at h;cases h)
   show SRep C _ ((e4.st.lent ids bs').put d _) _ _
   rw [hst]
   exact S2.putF (row:=none) ⟨rfl,rfl,rfl,Nat.le_refl _,fun _ _ _=>rfl⟩ (by simp) hdN hT hfree hR
  ·cases h
end
def eqFs (P:Program) (g:TypeId→V→V→Option Bool):List Field→List V→List V→Option Bool
 | [],_,_=>some true
 | f :: fs,cs,ds=>match f.name == "_" with
  | true=>none
  | false=>match partV P f.type (cs.drop f.offset),partV P f.type (ds.drop f.offset) with
   | some u,some v=>match g f.type u v with
    | some b=>match fs with
     | []=>some b
     | _ :: _=>match eqFs P g fs cs ds with
      | some r=>some (b && r)
      | none=>none
    | none=>none
   | _,_=>none
def eqB:V→V→Option Bool
 | .lit (.bool a),.lit (.bool b)=>some (a == b)
 | _,_=>none
def eqI:V→V→Option Bool
 | .lit (.int k a),.lit (.int k' b)=>match k == k' with
  | true=>some (a == b)
  | false=>none
 | _,_=>none
def eqT:V→V→Option Bool
 | .lit (.string a),.lit (.string b)=>some (a == b)
 | _,_=>none
theorem eqB_inv {u v:V} {r:Bool} (h:eqB u v=some r):∃ a b,u=.lit (.bool a)∧v=.lit (.bool b)∧r=(a == b):=by
 unfold eqB at h
 split at h
 ·exact ⟨_,_,rfl,rfl,(Option.some.inj h).symm⟩
 ·cases h
theorem eqI_inv {u v:V} {r:Bool} (h:eqI u v=some r):∃ k a b,u=.lit (.int k a)∧v=.lit (.int k b)∧r=(a == b):=by
 unfold eqI at h
 split at h
 ·split at h
  ·rename_i hk
   exact ⟨_,_,_,rfl,by rw [eq_of_beq hk],(Option.some.inj h).symm⟩
  ·cases h
 ·cases h
theorem eqT_inv {u v:V} {r:Bool} (h:eqT u v=some r):∃ a b,u=.lit (.string a)∧v=.lit (.string b)∧r=(a == b):=by
 unfold eqT at h
 split at h
 ·exact ⟨_,_,rfl,rfl,(Option.some.inj h).symm⟩
 ·cases h
def eqV (P:Program):Nat→TypeId→V→V→Option Bool
 | 0,_,_,_=>none
 | d+1,t,u,v=>match P.underlying t with
  | some (.struct fs)=>match u,v,P.stoodInHeld t with
   | .agg cs,.agg ds,false=>eqFs P (eqV P d) fs.toList cs ds
   | _,_,_=>none
  | some .bool=>eqB u v
  | some (.int _)=>eqI u v
  | some .string=>eqT u v
  | _=>none
section
variable {P:Program} {C:Ctx}
theorem eqFs_ok {p:Pub} {w:World} {D:Nat} {g:TypeId→V→V→Option Bool} (hg:∀ t u v b,g t u v=some b→∀ x y,Rep p w x u []→Rep p w y v []→(Op.equalIn D t x y).run P w=.ok b w) {xs ys:List Value} {cs ds:List V} (h1:RepL p w xs cs []) (h2:RepL p w ys ds []) :
 ∀ {fs:List Field} {r:Bool},eqFs P g fs cs ds=some r→(Op.eqFields D xs.toArray ys.toArray fs).run P w=.ok r w
 | [],r,h=>by cases h;simp [Op.eqFields]
 | f :: fs,r,h=>by
  rw [eqFs] at h
  split at h
  ·cases h
  rename_i hn
  have hn':f.name ≠ "_" := by simpa using hn
  split at h
  rotate_left
  ·cases h
  rename_i u v hu hv
  split at h
  rotate_left
  ·cases h
  rename_i b hb
  obtain ⟨x,hx,rx⟩:=part_run h1 hu
  obtain ⟨y,hy,ry⟩:=part_run h2 hv
  have he:=hg _ _ _ _ hb x y rx ry
  split at h
  ·cases h
   simp only [Op.eqFields,if_pos hn',Sem.run_bind,hx,hy,he,Result.andThen_ok]
   cases r<;>simp
  ·split at h
   ·rename_i r' hr
    cases h
    have ih:=eqFs_ok hg h1 h2 hr
    rw [Op.eqFields]
    simp only [if_pos hn',Sem.run_bind,hx,hy,he,Result.andThen_ok]
    cases b
    ·simp
    ·simpa using ih
   ·cases h
theorem eqV_ok {p:Pub} {w:World}:∀ {d:Nat} {t:TypeId} {u v:V} {b:Bool},eqV P d t u v=some b→∀ x y,Rep p w x u []→Rep p w y v []→∀ D,d≤D→(Op.equalIn D t x y).run P w=.ok b w
 | 0,t,u,v,b,h,_,_,_,_,_,_=>by simp [eqV] at h
 | d+1,t,u,v,b,h,x,y,hx,hy,D,hD=>by
  obtain ⟨D,rfl⟩:∃ D',D=D'+1:=⟨D - 1,by omega⟩
  rw [eqV] at h
  split at h
  ·rename_i fs hu
   split at h
   ·rename_i cs ds hst
    obtain ⟨xs,rfl,r1⟩:=hx.agg_inv
    obtain ⟨ys,rfl,r2⟩:=hy.agg_inv
    have hf:P.fieldsOf t=fs:=by simp [Program.fieldsOf,hu]
    rw [run_equalIn_struct (P:=P) w D t xs.toArray ys.toArray (by rw [hf];exact hu) hst,hf]
    exact eqFs_ok (fun t u v b hb x y hx hy=>eqV_ok hb x y hx hy D (by omega)) r1 r2 h
   ·cases h
  ·rename_i hu
   obtain ⟨a,c,rfl,rfl,rfl⟩:=eqB_inv h
   have e1:=hx.lit_inv
   have e2:=hy.lit_inv
   subst e1
   subst e2
   simp only [Op.equalIn,Sem.run_bind,run_underlying hu,Result.andThen_ok,if_true,Sem.run_pure]
  ·rename_i ki hu
   obtain ⟨k,a,c,rfl,rfl,rfl⟩:=eqI_inv h
   have e1:=hx.lit_inv
   have e2:=hy.lit_inv
   subst e1
   subst e2
   simp only [Op.equalIn,Sem.run_bind,run_underlying hu,Result.andThen_ok,if_true,Sem.run_pure]
  ·rename_i hu
   obtain ⟨a,c,rfl,rfl,rfl⟩:=eqT_inv h
   have e1:=hx.lit_inv
   have e2:=hy.lit_inv
   subst e1
   subst e2
   simp only [Op.equalIn,Sem.run_bind,run_underlying hu,Result.andThen_ok,if_true,Sem.run_pure]
  ·cases h
theorem eqS_run {o:Oper} {op:BinOp} {t ty:TypeId} {x y:Operand} {cs ds:List V} {b:Bool} {v:Value} (hgd:P.eqGuardType P.depth t=false) (hb:eqV P 12 t (.agg cs) (.agg ds)=some b) (hop:op=.eql∧v=.bool b∨op=.neq∧v=.bool (!b)) (ho:o.op=.binOp op t x y ty) (ρ:Operand→Value) (w:World) (p:Pub) (hr:RepL p w ([x,y].map ρ) [.agg cs,.agg ds] []):(execOp ρ o).run P w=.ok (.value v) w:=by
 simp only [List.map_cons,List.map_nil] at hr
 generalize hT:([]:List Nat)=T at hr
 cases hr with
 | @cons _ _ _ _ A B r1 r2 =>
  have hA:=(List.append_eq_nil_iff.1 hT.symm)
  rw [hA.1] at r1
  rw [hA.2] at r2
  generalize hT2:([]:List Nat)=T2 at r2
  cases r2 with
  | @cons _ _ _ _ A2 B2 r3 r4 =>
   have hA2:=(List.append_eq_nil_iff.1 hT2.symm)
   rw [hA2.1] at r3
   have he:=eqV_ok hb _ _ r1 r3 Op.maxDepth (by decide)
   obtain ⟨xs,ex,_⟩:=r1.agg_inv
   obtain ⟨ys,ey,_⟩:=r3.agg_inv
   rw [ex,ey] at he
   have hgrd:(eqGuard op t x y (.agg xs.toArray) (.agg ys.toArray)).run P w=.ok () w:=by
    unfold eqGuard
    rcases hop with ⟨rfl,_⟩ | ⟨rfl,_⟩<;>simp [Sem.run_bind,run_program,hgd]
   unfold execOp
   simp only [ho,ex,ey,Sem.run_bind,hgrd,Result.andThen_ok]
   rcases hop with ⟨rfl,rfl⟩ | ⟨rfl,rfl⟩<;>simp only [binOp,Op.equal,Sem.run_bind,he,Result.andThen_ok,Sem.run_pure]
end
section
variable {P:Program} {C:Ctx}
def ownAgg (e:E) (x:Operand):Bool:=match x with
 | .tmp q=>match look e.st.env q with
  | some (.d (.v (.agg us)))=>!(V.agg us).noOwn
  | _=>false
 | _=>false
def evStoreM (P:Program) (o:Oper) (t:TypeId) (s:Nat) (x:Operand) (e:E):Option E :=
 match o.dst with
 | some _=>none
 | none=>match look e.st.env s with
  | some (.d (.ptr id off))=>match x with
   | .tmp q=>match look e.st.env q with
    | some (.d (.v (.agg us)))=>match e.st.box[id]? with
     | some (.cells cs)=>match V.flatOk (.agg us) && Nat.ble (off+us.length) cs.length && sizeIs P t us.length with
      | true=>some { e with st:=e.st.setBox id (some q) (cs.take off++dv us++cs.drop (off+(dv us).length)) }
      | false=>none
     | _=>none
    | _=>none
   | _=>none
  | _=>none
theorem evStoreM_ok {o:Oper} {t:TypeId} {s:Nat} {x:Operand} {e e':E} (ho:o.op=.store t (.tmp s) x) (h:evStoreM P o t s x e=some e'):OpOk P C o e e':=by
 unfold evStoreM at h
 split at h
 ·cases h
 rename_i hd
 split at h
 ·rename_i id off hl
  split at h
  ·rename_i q
   split at h
   ·rename_i us hq
    split at h
    ·rename_i cs hb
     split at h
     ·rename_i hc
      cases h
      simp only [Bool.and_eq_true] at hc
      obtain ⟨⟨c1,c2⟩,c3⟩:=hc
      have c2:=Nat.le_of_ble_eq_true c2
      have c3:=sizeIs_eq c3
      refine OpOk.store (src:=some q) (ds:=dv us) ho hd (fun h=>h) hl hb (by rw [dv_length];exact c2) (by rw [dv_length];exact c3) (fun _ g a w S=>?_) (fun q' e'=>by cases e';exact ⟨_,hq⟩)
      obtain ⟨_,h2,h3⟩:=S.env q _ hq
      have h2:=RepD.inv (show RepD g w (a.eval (.tmp q)) (.v (.agg us)) (g.TE q) from h2)
      obtain ⟨r3,r4⟩:=h2.flat c1
      exact ⟨g,g.TE q,S,r3.dv,r3.one r4,S.nodE q,fun b hb'=>⟨q,rfl,h3 b hb'⟩⟩
     ·cases h
    ·cases h
   ·cases h
  ·cases h
 ·cases h
end
section
variable {P:Program} {C:Ctx}
def evBsliceM (P:Program) (N:Nat) (o:Oper) (t:TypeId) (len:Nat) (parts:List (Nat × Operand)) (e:E):Option E :=
 match dstOf N o with
 | none=>none
 | some d=>match parts with
  | [(0,.tmp q)]=>match Nat.beq len 1 with
   | true=>match look e.st.env q with
    | some (.d (.v (.agg us)))=>match P.underlying t with
     | some (.slice el)=>match sizeT P el with
      | some sz=>match zeroV P el with
       | some _=>match V.flatOk (.agg us) && Nat.beq us.length sz && Nat.ble 1 sz && Nat.ble sz 16777216 with
        | true=>some { e with st:=(e.st.wipe (.t q)).put d (.d (.v (.row (some el) sz [.agg us]))) }
        | false=>none
       | none=>none
      | none=>none
     | _=>none
    | _=>none
   | false=>none
  | _=>none
theorem bslice1_run {o:Oper} {t el:TypeId} {sz:Nat} {zs:List V} {x:Operand} {parts:Array (Nat × Operand)} (ho:o.op=.buildSlice t 1 parts) (hp:parts.toList=[(0,x)]) (hu:P.underlying t=some (.slice el)) (hs:sizeT P el=some sz) (hz:zeroV P el=some zs)
 (h1:1≤sz) (h2:sz≤16777216) (ρ:Operand→Value) (w:World) (hc:(ρ x).cells.size=sz):(execOp ρ o).run P w=.ok (.value (.slice (some ⟨w.heap.size,0,none⟩) 1 1)) (w.alloc (.cells (ρ x).cells el)):=by
 obtain ⟨it,zv,hit,hzv,_,hzr⟩:=zeroV_ok hz
 unfold sizeT at hs
 rw [hit] at hs
 have hs:it.size=sz:=Option.some.inj hs
 let xs:Array Value:=(Array.range (1*sz)).map (zv.cells[· % zv.cells.size]!)
 have hxs:xs.size=1*sz:=by simp [xs]
 obtain ⟨ys,g1,g2⟩:=fill_all (size:=sz) [ρ x] 0 xs (by simp [hc]) (by rw [hxs];simp)
 have hys:ys=(ρ x).cells:=by
  apply Array.ext'
  rw [g2]
  simp only [Nat.zero_mul,List.take_zero,List.nil_append,Nat.zero_add,List.length_singleton,List.flatMap_singleton]
  rw [List.drop_of_length_le (by rw [Array.length_toList,hxs];exact Nat.le_refl _),List.append_nil]
 have hb:(Instr.buildSlice t 1 (parts.map fun (i,x)=>(i,ρ x))).run P w=.ok (.slice (some ⟨w.heap.size,0,none⟩) 1 1) (w.alloc (.cells (ρ x).cells el)):=by
  have e4:(parts.map fun (i,x)=>(i,ρ x)).toList=(List.range' 0 [ρ x].length).zip [ρ x]:=by
   rw [Array.toList_map,hp];rfl
  simp only [xs] at g1
  simp only [Instr.buildSlice,Sem.run_bind,run_underlying hu,Result.andThen_ok,sizeOf,typeInfo,run_program,hit,Sem.run_pure,hs]
  rw [if_neg (by omega),if_neg (by omega)]
  simp only [Sem.run_bind,zeroValue,typeInfo,run_program,hit,hzv,Sem.run_pure,Result.andThen_ok,e4,g1,newRow,run_newObj,World.alloc_eq]
  rw [hys]
 unfold execOp
 simp only [ho,Sem.run_bind,hb,Result.andThen_ok,Sem.run_pure]
theorem evBsliceM_ok {o:Oper} {t:TypeId} {len:Nat} {parts:Array (Nat × Operand)} {e e':E} (ho:o.op=.buildSlice t len parts) (h:evBsliceM P C.N o t len parts.toList e=some e'):OpOk P C o e e':=by
 unfold evBsliceM at h
 split at h
 ·cases h
 rename_i d hd
 obtain ⟨hdd,hdN⟩:=dstOf_eq hd
 split at h
 ·rename_i q hpl
  split at h
  ·rename_i hlen
   have hlen:=Nat.eq_of_beq_eq_true hlen
   subst hlen
   split at h
   ·rename_i us hq
    split at h
    ·rename_i el hu
     split at h
     ·rename_i sz hs
      split at h
      ·rename_i zs hz
       split at h
       ·rename_i hc
        cases h
        simp only [Bool.and_eq_true] at hc
        obtain ⟨⟨⟨c1,c2⟩,c3⟩,c4⟩:=hc
        have c2:=Nat.eq_of_beq_eq_true c2
        have c3:=Nat.le_of_ble_eq_true c3
        have c4:=Nat.le_of_ble_eq_true c4
        refine fun hA=>⟨hA,fun g a w S next Q hn=>?_⟩
        obtain ⟨v,T,T',hpv,hR,hTn,hTo,hTo',kw,S2⟩:=S.take (r:=.t q) (u:=.agg us) (by simp only [rootVal,hq])
        have hx:a.eval (.tmp q)=v:=by
         show a.tmps.getD q undef=v
         rw [Array.getD_eq_getD_getElem?,show a.tmps[q]? = some v from hpv];rfl
        obtain ⟨hf1,hf2⟩:=hR.flat c1
        have hf1:RepL g.pub w v.cells.toList us T:=hf1
        have hcs:(a.eval (.tmp q)).cells.size=sz:=by rw [hx,← Array.length_toList,hf1.length,c2]
        refine wp_of_run (bslice1_run ho hpl hu hs hz c3 c4 a.eval w hcs) ?_
        rw [hdd]
        have hgr:=World.grownBy_alloc w (.cells (a.eval (.tmp q)).cells el) none
        have cm:=Calm.of hgr
        have hfree:∀ b∈T,(g.wipe (Root.t q).holder T').own b=none∧¬ g.pub b∧(C.W.heap.size≤b∨C.Fz b)∧b < w.heap.size:=by
         intro b hb'
         obtain ⟨o1,o2⟩:=hTo b hb'
         have:=S.own b _ o1
         refine ⟨?_,this.2.2,this.1,this.2.1⟩
         simp only [G.wipe]
         rw [if_pos ⟨o1,o2⟩]
        have hnew:(g.wipe (Root.t q).holder T').own w.heap.size=none:=by
         simp only [G.wipe]
         split
         ·rfl
         ·cases ho':g.own w.heap.size with
          | none=>rfl
          | some h'=>have:=(S.own _ _ ho').2.1;omega
        have how:=World.ownsRow_lit (base:=0) (e:=el) (size:=sz) w (a.eval (.tmp q)).cells 1 (Nat.zero_le _) (by decide) (by rw [hcs,Nat.one_mul])
        have hall:RepL g.pub (w.alloc (.cells (a.eval (.tmp q)).cells el)) (a.eval (.tmp q)).cells.toList ([V.agg us].flatMap V.cells) T:=by
         rw [List.flatMap_singleton,hx]
         exact hf1.keep ⟨fun _ h=>h,fun b hb=>by rw [← hx];exact cm.same b (S.publt b hb)⟩ (fun b hb=>by rw [← hx];exact cm.same b (hfree b hb).2.2.2)
        have hRep:=Rep.own (p:=g.pub) (w:=w.alloc (.cells (a.eval (.tmp q)).cells el)) (es:=[V.agg us]) (A:=T) (v:=.slice (some ⟨w.heap.size,0,none⟩) 1 1) (by simp [V.cells,c2]) hall (fun u hu=>by rw [hx] at hu;exact hf1.one hf2 u hu) (.of how)
        refine hn ((g.wipe (Root.t q).holder T').put d (w.heap.size :: T) fun _=>False) _ _ ?_ (fun _=>cm)
        refine S2.putF (row:=none) hgr (by simp) hdN ?_ ?_ (show Rep g.pub _ _ _ (w.heap.size :: T) from hRep)
        ·refine List.nodup_cons.2 ⟨fun hb=>?_,hTn⟩
         have:=(hfree _ hb).2.2.2;omega
        ·intro b hb
         rcases List.mem_cons.1 hb with rfl | hb
         ·exact ⟨hnew,fun hp'=>by have:=S.publt _ hp';omega,.inl S.size,by simp⟩
         ·have:=hfree b hb
          exact ⟨this.1,this.2.1,this.2.2.1,Nat.lt_of_lt_of_le this.2.2.2 cm.size⟩
       ·cases h
      ·cases h
     ·cases h
    ·cases h
   ·cases h
  ·cases h
 ·cases h
def evAppendM (P:Program) (N:Nat) (o:Oper) (ts:Array TypeId) (s x:Operand) (e:E):Option E :=
 match dstOf N o with
 | none=>none
 | some d=>match ts.toList with
  | [t,tx]=>match P.underlying t with
   | some (.slice el)=>match P.info? el with
    | some i=>match i.zero with
     | some z=>match Nat.beq z.cells.size i.size && Nat.ble 1 i.bytes && Nat.ble (140737488355328 / i.bytes) maxLen with
      | true=>match x with
       | .tmp q=>match look e.st.env q with
        | some (.d (.v (.row (some _) s2 es2)))=>match P.underlying tx with
         | some (.slice _)=>match Nat.beq s2 i.size && Nat.ble 1 s2 with
          | true=>match hint e with
           | some (.kb true,e1)=>match appS (e1.st.wipe (.t q)) el i.size s with
            | some (r,es)=>match hint e1 with
             | some (.row (some e') s' es',e2)=>match Nat.beq e' el && Nat.beq s' i.size with
              | true=>some ({ (need (es.length+es2.length≤140737488355328 / i.bytes) (need (FitL (es++es2) es') e2)) with st:=(wipeO (e2.st.wipe (.t q)) r).put d (.d (.v (.row (some el) i.size es'))) })
              | false=>none
             | _=>none
            | none=>none
           | _=>none
          | false=>none
         | _=>none
        | _=>none
       | _=>none
      | false=>none
     | none=>none
    | none=>none
   | _=>none
  | _=>none
theorem evAppendM_ok {o:Oper} {c:Call} {s x:Operand} {e e':E} (ho:o.op=.call c) (hc:c.callee=.builtin .append) (ha:c.args = #[s,x]) (h:evAppendM P C.N o c.argTypes s x e=some e'):OpOk P C o e e':=by
 unfold evAppendM at h
 split at h
 ·cases h
 rename_i d hd
 obtain ⟨hdd,hdN⟩:=dstOf_eq hd
 split at h
 rotate_left
 ·cases h
 rename_i t tx hts
 have hts:c.argTypes = #[t,tx]:=by rw [← Array.toArray_toList (xs:=c.argTypes),hts]
 split at h
 rotate_left
 ·cases h
 rename_i el hu
 split at h
 rotate_left
 ·cases h
 rename_i i hi
 split at h
 rotate_left
 ·cases h
 rename_i z hz
 split at h
 rotate_left
 ·cases h
 rename_i hck
 simp only [Bool.and_eq_true] at hck
 obtain ⟨⟨k1,k2⟩,k3⟩:=hck
 have k1:=Nat.eq_of_beq_eq_true k1
 have k2:=Nat.le_of_ble_eq_true k2
 have k3:=Nat.le_of_ble_eq_true k3
 split at h
 rotate_left
 ·cases h
 rename_i q
 split at h
 rotate_left
 ·cases h
 rename_i et2 s2 es2 hq
 split at h
 rotate_left
 ·cases h
 rename_i ex hux
 split at h
 rotate_left
 ·cases h
 rename_i hck3
 rw [Bool.and_eq_true] at hck3
 have k4:=Nat.eq_of_beq_eq_true hck3.1
 subst k4
 split at h
 rotate_left
 ·cases h
 rename_i e1 hh1
 obtain ⟨p1,p2⟩:=hint_eq hh1
 split at h
 rotate_left
 ·cases h
 rename_i r es hs
 split at h
 rotate_left
 ·cases h
 rename_i e'' s' es' e2 hh
 split at h
 rotate_left
 ·cases h
 rename_i hck2
 rw [Bool.and_eq_true] at hck2
 have c1:=Nat.eq_of_beq_eq_true hck2.1
 have c2:=Nat.eq_of_beq_eq_true hck2.2
 subst c1
 subst c2
 cases h
 obtain ⟨q1,q2⟩:=hint_eq hh
 intro hA
 obtain ⟨hA,hsz⟩:=All.snoc (l:=e2.ob++_) hA
 obtain ⟨hA,hfit⟩:=All.snoc (l:=e2.ob) hA
 have hA0:All e.ob:=by rw [← p1,← q1];exact hA
 refine ⟨hA0,fun g a w S next Q hn=>?_⟩
 have hst2:e2.st=e.st:=q2.trans p2
 rw [p2] at hs
 obtain ⟨y,T2,T2',hpy,hR2,hTn2,hTo2,hTo2',kw2,S1⟩:=S.take (r:=.t q) (u:=.row (some et2) i.size es2) (by simp only [rootVal,hq])
 have hy:a.eval (.tmp q)=y:=by
  show a.tmps.getD q undef=y
  rw [Array.getD_eq_getD_getElem?,show a.tmps[q]? = some y from hpy];rfl
 obtain ⟨news,A2,hT2,hsize2,hnews,hone2,how2⟩:=own_inv hR2
 have hsrc:Src P tx i.size es2.length news (a.eval (.tmp q)) w:=by
  rw [hy]
  have how2':=how2
  rcases how2.2 with ⟨hv,hn0⟩ | ⟨b,cap,cur,hv,_,hg,_⟩
  ·rw [hv,hn0]
   have:news=[]:=List.eq_nil_of_length_eq_zero (by rw [how2.1,hn0];simp)
   subst this
   exact Src.slice hux (by simp) (by simp) (by simp) (fun _=>rfl)
  ·rw [hv] at how2' ⊢
   exact Src.slice hux how2'.1 hone2 (fun j v hj=>⟨_,rfl,how2'.cells (g:=b) rfl j v hj⟩) (by simp)
 have hfree2:∀ b∈T2,(g.wipe (Root.t q).holder T2').own b=none∧¬ g.pub b∧(C.W.heap.size≤b∨C.Fz b)∧b < w.heap.size:=by
  intro b hb'
  obtain ⟨o1,o2⟩:=hTo2 b hb'
  have:=S.own b _ o1
  refine ⟨?_,this.2.2,this.1,this.2.1⟩
  simp only [G.wipe]
  rw [if_pos ⟨o1,o2⟩]
 have hA2T:∀ b∈A2,b∈T2:=fun b hb=>by rw [hT2];simp [hb]
 have hnd2:A2.Nodup:=by rw [hT2] at hTn2;exact (List.nodup_append.1 hTn2).2.1
 generalize hg1:g.wipe (Root.t q).holder T2'=g1 at *
 have hp1:g1.pub=g.pub:=by rw [← hg1];rfl
 have hnews:RepL g1.pub w news (es2.flatMap V.cells) A2:=by rw [hp1];exact hnews
 have hfree2:∀ b∈A2,g1.own b=none∧¬ g1.pub b∧(C.W.heap.size≤b∨C.Fz b)∧b < w.heap.size:=fun b hb=>by rw [hp1];exact hfree2 b (hA2T b hb)
 have hb:(es.length+es2.length)*i.bytes≤140737488355328:=Nat.le_trans (Nat.mul_le_mul_right _ hsz) (Nat.div_mul_le_self _ _)
 have hm:es.length+es2.length≤maxLen:=Nat.le_trans hsz k3
 have exec:∀ v',∀ w',(Builtin.append_ c.argTypes o.type #[a.eval s,a.eval (.tmp q)]).run P w=.ok v' w'→(execOp a.eval o).run P w=.ok (.value v') w':=by
  intro v' w' hr
  unfold execOp
  simp only [ho,resolve,hc,ha,Sem.run_bind,Sem.run_pure,Result.andThen_ok,invoke,builtin,List.map_toArray,List.map_cons,List.map_nil,hr]
 rcases appS_ok S1 hs with ⟨rfl,rfl,hv⟩ | ⟨qq,rfl,hp⟩
 ·
  obtain ⟨v',w',hr,how,hgr,hblk⟩:=append_run (P:=P) w t tx o.type e'' i z i.size i.bytes hu hi hz rfl rfl k1 (.slice none 0 0) 0 [] (OwnR.nil w 0 e'' i.size) (a.eval (.tmp q)) es2.length news hsrc (by simpa using hm) (by simpa using hb)
  refine wp_of_run (exec v' w' (by rw [hts,hv];exact hr)) ?_
  rw [hdd]
  simp only [Nat.zero_add,List.nil_append] at how
  have hfit':FitL es2 es':=by simpa using hfit
  have hRep:Rep g1.pub w' v' (.row (some e'') i.size es') (v'.ownBlock.toList++A2):=by
   refine Rep.own (hfit'.sizes hsize2) ((hnews.keep ⟨fun _ h=>h,fun b hb=>hgr.block b (S1.publt b hb) (by simp [Value.ownBlock])⟩ (fun b hb=>hgr.block b (hfree2 b hb).2.2.2 (by simp [Value.ownBlock]))).fit hfit'.flat) hsrc.one ?_
   rw [← hfit'.length];exact how
  refine hn (g1.put d (v'.ownBlock.toList++A2) fun _=>False) _ _ ?_ (fun h=>by rw [ho] at h;simp [calmK,hc] at h)
  show SRep C _ ((e2.st.wipe (.t q)).put d _) _ _
  rw [hst2]
  have hbn:∀ b,v'.ownBlock=some b→b=w.heap.size:=fun b hb'=>by
   rcases (hblk b hb').1 with h1 | h1
   ·simp [Value.ownBlock] at h1
   ·exact h1
  refine S1.putF (row:=none) hgr (by simp) hdN ?_ ?_ hRep
  ·refine List.nodup_append.2 ⟨by cases v'.ownBlock<;>simp,hnd2,fun b hb1 c hc1 e=>?_⟩
   subst e
   have:=hbn b (by simpa using hb1)
   have:=(hfree2 b hc1).2.2.2
   omega
  ·intro b hb'
   rcases List.mem_append.1 hb' with hb' | hb'
   ·have hb':v'.ownBlock=some b:=by simpa using hb'
    have hbw:=hbn b hb'
    have h2:=(hblk b hb').2
    subst hbw
    refine ⟨?_,?_,.inl S1.size,h2⟩
    ·cases ho':g1.own w.heap.size with
     | none=>rfl
     | some h'=>have:=(S1.own _ _ ho').2.1;omega
    ·intro hp';have:=S1.publt _ hp';omega
   ·have:=hfree2 b hb'
    exact ⟨this.1,this.2.1,this.2.2.1,Nat.lt_of_lt_of_le this.2.2.2 hgr.size⟩
 ·
  obtain ⟨v,T,T',hpv,hR,hTn,hTo,hTo',kw,S2⟩:=S1.take (peek_root hp)
  obtain ⟨_,hpv',_⟩:=peek_ok S1 hp
  have hv:v=a.eval s:=by rw [hpv] at hpv';exact Option.some.inj hpv'
  subst hv
  obtain ⟨xs,A,hT,h1,h2,h3,how0⟩:=own_inv hR
  obtain ⟨v',w',hr,how,hgr,hblk⟩:=append_run (P:=P) w t tx o.type e'' i z i.size i.bytes hu hi hz rfl rfl k1 (a.eval s) es.length xs how0 (a.eval (.tmp q)) es2.length news hsrc hm hb
  refine wp_of_run (exec v' w' (by rw [hts];exact hr)) ?_
  rw [hdd]
  have hpubw:∀ b,g1.pub b→w'.heap[b]? = w.heap[b]?:=fun b hb'=>hgr.block b (S1.publt b hb') (fun e=>by
   have hbT:b∈T:=by rw [hT,← e];simp
   exact (S1.own b _ (hTo b hbT).1).2.2 hb')
  have hAw:∀ b∈A,w'.heap[b]? = w.heap[b]?:=fun b hb'=>by
   have hbT:b∈T:=by rw [hT];simp [hb']
   refine hgr.block b (S1.own b _ (hTo b hbT).1).2.1 (fun e=>?_)
   rw [hT] at hTn
   exact (List.nodup_append.1 hTn).2.2 b (by rw [← e];simp) b hb' rfl
  have hd2:∀ b∈A2,b∉T:=fun b hb1 hb2=>by
   have:=(hTo b hb2).1
   rw [(hfree2 b hb1).1] at this
   cases this
  have hA2w:∀ b∈A2,w'.heap[b]? = w.heap[b]?:=fun b hb'=>hgr.block b (hfree2 b hb').2.2.2 (fun e=>hd2 b hb' (by rw [hT,← e];simp))
  have hfl:(es++es2).flatMap V.cells=es.flatMap V.cells++es2.flatMap V.cells:=by simp
  have hall:RepL g1.pub w' (xs++news) (es'.flatMap V.cells) (A++A2):=by
   refine RepL.fit (ds:=(es++es2).flatMap V.cells) ?_ hfit.flat
   rw [hfl]
   exact (h2.keep ⟨fun _ h=>h,hpubw⟩ hAw).app (hnews.keep ⟨fun _ h=>h,hpubw⟩ hA2w)
  have hRep:Rep g1.pub w' v' (.row (some e'') i.size es') (v'.ownBlock.toList++(A++A2)):=by
   refine Rep.own (hfit.sizes (fun e he=>?_)) hall (fun u hu'=>?_) ?_
   ·rcases List.mem_append.1 he with he | he
    ·exact h1 e he
    ·exact hsize2 e he
   ·rcases List.mem_append.1 hu' with hu' | hu'
    ·exact h3 u hu'
    ·exact hsrc.one u hu'
   ·rw [← hfit.length,List.length_append];exact how
  refine hn ((g1.wipe qq.holder T').put d (v'.ownBlock.toList++(A++A2)) fun _=>False) _ _ ?_ (fun h=>by rw [ho] at h;simp [calmK,hc] at h)
  show SRep C _ (((e2.st.wipe (.t q)).wipe qq).put d _) _ _
  rw [hst2]
  have hfree:∀ b∈T,(g1.wipe qq.holder T').own b=none∧¬ g1.pub b∧(C.W.heap.size≤b∨C.Fz b)∧b < w.heap.size:=by
   intro b hb'
   obtain ⟨o1,o2⟩:=hTo b hb'
   have:=S1.own b _ o1
   refine ⟨?_,this.2.2,this.1,this.2.1⟩
   simp only [G.wipe]
   rw [if_pos ⟨o1,o2⟩]
  have hfreeA2:∀ b∈A2,(g1.wipe qq.holder T').own b=none:=fun b hb'=>by
   simp only [G.wipe]
   split
   ·rfl
   ·exact (hfree2 b hb').1
  have hnew:(g1.wipe qq.holder T').own w.heap.size=none:=by
   simp only [G.wipe]
   split
   ·rfl
   ·cases ho':g1.own w.heap.size with
    | none=>rfl
    | some h'=>have:=(S1.own _ _ ho').2.1;omega
  have hTA:T=(a.eval s).ownBlock.toList++A:=hT
  have hndT:=hTn
  rw [hTA] at hndT
  refine S2.putF (row:=(a.eval s).ownBlock) hgr (fun b hb'=>?_) hdN ?_ ?_ hRep
  ·have:=hfree b (by rw [hT,hb'];simp)
   exact ⟨this.1,this.2.1,this.2.2.1⟩
  ·refine List.nodup_append.2 ⟨by cases v'.ownBlock<;>simp,List.nodup_append.2 ⟨(List.nodup_append.1 hndT).2.1,hnd2,fun b hb1 c hc1 e=>?_⟩,fun b hb1 c hc1 e=>?_⟩
   ·subst e
    exact hd2 b hc1 (by rw [hTA];simp [hb1])
   ·subst e
    have hb1:v'.ownBlock=some b:=by simpa using hb1
    rcases (hblk b hb1).1 with h5 | h5
    ·rcases List.mem_append.1 hc1 with hc1 | hc1
     ·exact (List.nodup_append.1 hndT).2.2 b (by rw [h5];simp) b hc1 rfl
     ·exact hd2 b hc1 (by rw [hTA,h5];simp)
    ·rcases List.mem_append.1 hc1 with hc1 | hc1
     ·have:=(hfree b (by rw [hTA];simp [hc1])).2.2.2;omega
     ·have:=(hfree2 b hc1).2.2.2;omega
  ·intro b hb'
   rcases List.mem_append.1 hb' with hb' | hb'
   ·have hb':v'.ownBlock=some b:=by simpa using hb'
    obtain ⟨h5,h6⟩:=hblk b hb'
    rcases h5 with h5 | h5
    ·have:=hfree b (by rw [hTA,h5];simp)
     exact ⟨this.1,this.2.1,this.2.2.1,h6⟩
    ·subst h5
     exact ⟨hnew,fun hp'=>by have:=S1.publt _ hp';omega,.inl S1.size,h6⟩
   ·rcases List.mem_append.1 hb' with hb' | hb'
    ·have:=hfree b (by rw [hTA];simp [hb'])
     exact ⟨this.1,this.2.1,this.2.2.1,Nat.lt_of_lt_of_le this.2.2.2 hgr.size⟩
    ·have:=hfree2 b hb'
     exact ⟨hfreeA2 b hb',this.2.1,this.2.2.1,Nat.lt_of_lt_of_le this.2.2.2 hgr.size⟩
end
section
variable {P:Program} {C:Ctx}
def evNil (N:Nat) (o:Oper) (x:Operand) (e:E):Option E :=
 match dstOf N o with
 | none=>none
 | some d=>match x with
  | .tmp t=>match look e.st.env t with
   | some (.d (.v (.pt cs)))=>some (e.put d (.pt cs))
   | some (.d (.ptr i f))=>some { e with st:=e.st.put d (.d (.ptr i f)) }
   | some (.pa r sz i j)=>match (X.pa r sz i j).kill (isT d) with
    | .pa _ _ _ _=>some { e with st:=e.st.put d (.pa r sz i j) }
    | _=>none
   | _=>none
  | _=>none
theorem evNil_ok {o:Oper} {x:Operand} {e e':E} (ho:o.op=.nilCheck x) (h:evNil C.N o x e=some e'):OpOk P C o e e':=by
 unfold evNil at h
 split at h
 ·cases h
 rename_i d hd
 obtain ⟨hdd,hdN⟩:=dstOf_eq hd
 split at h
 ·rename_i t
  have run:∀ {a:Act} {w:World} {q:Addr},a.eval (.tmp t)=.pointer (some q)→(execOp a.eval o).run P w=.ok (.value (.pointer (some q))) w:=by
   intro a w q hx
   unfold execOp
   simp only [ho,hx,Sem.run_pure]
  split at h
  ·rename_i cs hl
   cases h
   refine OpOk.vv hd id fun _ g a w S=>?_
   obtain ⟨_,h2,_⟩:=S.env t _ hl
   have h2:=RepD.inv h2
   have h3:=h2.noOwn rfl
   rw [h3] at h2
   refine ⟨a.tmps.getD t undef,g,S,?_,h2⟩
   generalize hv:a.tmps.getD t undef=v at h2
   cases h2
   exact run hv
  ·rename_i i f hl
   cases h
   refine fun hA=>⟨hA,fun g a w S next Q hn=>?_⟩
   obtain ⟨_,h2,_⟩:=S.env t _ hl
   have h2:RepD g w (a.tmps.getD t undef) (.ptr i f) (g.TE t):=h2
   have h3:=h2.noOwn rfl
   rw [h3] at h2
   have h2':=h2
   generalize hv:a.tmps.getD t undef=v at h2
   cases h2 with
   | ptr hid =>
    refine wp_of_run (run hv) ?_
    rw [hdd]
    rw [hv] at h2'
    exact hn _ _ _ (S.put0 (Calm.refl w) hdN h2') (fun _=>Calm.refl w)
  ·rename_i r sz i j hl
   split at h
   ·rename_i hk
    cases h
    have hk:(X.pa r sz i j).kill (isT d)=.pa r sz i j:=by
     rcases X.kill_cases (isT d) (X.pa r sz i j) with h | h
     ·rw [h] at hk;cases hk
     ·exact h.1
    refine fun hA=>⟨hA,fun g a w S next Q hn=>?_⟩
    obtain ⟨h1,⟨_,h2⟩,h3⟩:=S.env t _ hl
    obtain ⟨b,_,_,h5⟩:=h2
    refine wp_of_run (run h5) ?_
    rw [hdd,← h5]
    exact hn _ _ _ (S.putA hdN hk (by simp) ⟨rfl,⟨b,by assumption,by assumption,h5⟩⟩ (by simp)) (fun _=>Calm.refl w)
   ·cases h
  ·cases h
 ·cases h
def evLen0 (P:Program) (N:Nat) (o:Oper) (ts:Array TypeId) (x:Operand) (e:E):Option E :=
 match dstOf N o with
 | none=>none
 | some d=>match peek e.st x with
  | some (_,.nil _ _)=>match ts[0]? with
   | some t=>match P.underlying t with
    | some (.slice _)=>some (e.put d (.lit (.int .i64 0)))
    | _=>none
   | none=>none
  | _=>none
theorem evLen0_ok {o:Oper} {c:Call} {x:Operand} {e e':E} (ho:o.op=.call c) (hc:c.callee=.builtin .len) (ha:c.args = #[x]) (h:evLen0 P C.N o c.argTypes x e=some e'):OpOk P C o e e':=by
 unfold evLen0 at h
 split at h
 ·cases h
 rename_i d hd
 split at h
 ·rename_i r el sz hp
  split at h
  ·rename_i t ht
   split at h
   ·rename_i el' hu
    cases h
    refine OpOk.vv hd id fun _ g a w S=>⟨.int .i64 0,g,S,?_,.lit _⟩
    obtain ⟨T,_,hr,_⟩:=peek_ok S hp
    have hv:a.eval x=.slice none 0 0:=by generalize a.eval x=v at hr;cases hr;rfl
    unfold execOp
    simp only [ho,resolve,hc,ha,Sem.run_bind,Sem.run_pure,Result.andThen_ok,invoke,builtin,List.map_toArray,List.map_cons,List.map_nil,hv,Builtin.len_,ht,List.getElem?_toArray,List.getElem?_cons_zero,run_underlying hu,goInt]
    rfl
   ·cases h
  ·cases h
 ·cases h
def pickO (v:Bool) (a b:Operand):Operand:=match v with
 | true=>a
 | false=>b
def evPick (N:Nat) (o:Oper) (c a b:Operand) (e:E):Option E :=
 match c with
 | .tmp t=>match look e.st.env t with
  | some (.d (.v (.kb v)))=>match dstOf N o with
   | some d=>match val (pickO v a b) e with
    | some (u,e)=>some (e.put d u)
    | none=>none
   | none=>none
  | _=>evLit N o [c,a,b] pickR e
 | _=>evLit N o [c,a,b] pickR e
theorem evPick_ok {o:Oper} {c x y:Operand} {e e':E} (ho:o.op=.pick c x y) (h:evPick C.N o c x y e=some e'):OpOk P C o e e':=by
 have lit:∀ {c},o.op=.pick c x y→evLit C.N o [c,x,y] pickR e=some e'→OpOk P C o e e':=fun ho h=>evLit_ok h fun vs v obs hf hA ρ w hρ=>pickR_ok ho hf ρ w hρ
 unfold evPick at h
 split at h
 ·rename_i t
  split at h
  ·rename_i v hl
   split at h
   ·rename_i d hd
    split at h
    ·rename_i u e1 hv
     cases h
     intro hA
     obtain ⟨hdd,hdN⟩:=dstOf_eq hd
     obtain ⟨h0,k⟩:=val_ok (C:=C) hv hA
     refine ⟨h0,fun g a w S next Q hn=>?_⟩
     obtain ⟨g1,k1,S1,r1⟩:=k g a w S
     have hc:a.eval (.tmp t)=.bool v:=RepD.kb (S.env t _ hl).2.1
     refine wp_of_run (v:=a.eval (pickO v x y)) (w':=w) ?_ ?_
     ·unfold execOp
      simp only [ho,hc,asBool,Sem.run_bind,Sem.run_pure,Result.andThen_ok]
      cases v<;>rfl
     ·rw [hdd]
      exact hn _ _ _ (S1.put0 (Calm.refl w) hdN (.v r1)) (fun _=>Calm.refl w)
    ·cases h
   ·cases h
  ·exact lit ho h
 ·exact lit ho h
def isElt (e:E) (s:Operand):Bool:=match s with
 | .tmp q=>match look e.st.env q with
  | some (.al (.elt _ _ _ _))=>true
  | _=>false
 | _=>false
def evCallC (P:Program) (N:Nat) (o:Oper) (c:Call) (e:E):Option E:=match c.callee with
 | .builtin .len=>match c.args.toList with
  | [x]=>match peek e.st x with
   | some (_,.row _ _ _)=>evLen P N o c.argTypes x e
   | some (_,.nil _ _)=>evLen0 P N o c.argTypes x e
   | _=>evLit N o c.args.toList (bltR P .len c.argTypes o.type) e
  | _=>none
 | .builtin .append=>match c.args.toList with
  | [s,x]=>match isElt e s with
   | true=>evAppendE P N o c.argTypes s x e
   | false=>match evAppend P N o c.argTypes s x e with
    | some e'=>some e'
    | none=>evAppendM P N o c.argTypes s x e
  | _=>none
 | .builtin b=>evLit N o c.args.toList (bltR P b c.argTypes o.type) e
 | .value f=>match lends e c.args.toList with
  | true=>match calmK P o.op with
   | false=>evCallX N P o f c.args.toList e
   | true=>none
  | false=>evCall N P o f c.args.toList e
 | _=>none
def evMakeFunc (N:Nat) (o:Oper) (fn:Fn) (first captured:List Operand) (e:E):Option E :=
 match dstOf N o with
 | none=>none
 | some d=>match fn,first with
  | .func f,[]=>match vals captured e with
   | some (us,e)=>some (e.put d (.clo f us))
   | none=>none
  | _,_=>none
theorem evMakeFunc_ok {o:Oper} {fn:Fn} {first captured:Array Operand} {e e':E} (ho:o.op=.makeFunc fn first captured) (h:evMakeFunc C.N o fn first.toList captured.toList e=some e'):OpOk P C o e e':=by
 unfold evMakeFunc at h
 split at h
 ·cases h
 rename_i d hd
 split at h
 ·rename_i f hf
  split at h
  ·rename_i us e1 hv
   cases h
   refine OpOk.of0 hd hv rfl (fun h=>h) fun hA ρ w p hr=>?_
   refine ⟨.func (.func f) #[] (captured.map ρ),?_,?_⟩
   ·have h0:first = #[]:=by rw [← Array.toArray_toList (xs:=first),hf]
    unfold execOp
    simp only [ho,h0,Instr.makeFunc,Sem.run_bind,Sem.run_pure,Result.andThen_ok,Array.map_empty,List.map_toArray,List.map_nil]
   ·have:captured.map ρ=(captured.toList.map ρ).toArray:=by apply Array.ext';rw [Array.toList_map]
    rw [this]
    exact .clo hr
  ·cases h
 ·cases h
def ev1 (P:Program) (N:Nat) (o:Oper) (e:E):Option E:=match o.op with
 | .move x=>evMove P N o false x e
 | .assign x=>evMove P N o true x e
 | .binOp op t x y _=>evLit N o [x,y] (binR P op t x y) e
 | .unOp op _ x=>evLit N o [x] (unR P op) e
 | .pick c a b=>evPick N o c a b e
 | .convert s t x=>match P.underlying s,P.underlying t with
  | some (.slice _),some .string=>evStr P N o s t x e
  | some .string,some (.slice _)=>evBytes P N o s t x e
  | _,_=>evLit N o [x] (convR P s t) e
 | .index t x i=>evLit N o [x,i] (ixR P t) e
 | .slice t x lo hi none=>match P.underlying t with
  | some .string=>evLit N o (x :: (lo.toList++hi.toList)) (slR P t lo.isSome hi.isSome) e
  | some (.array _ _)=>match lo,hi with
   | none,none=>evSliceP P N o t x e
   | _,_=>none
  | _=>evCut P N o t x lo hi e
 | .indexAddr t x i=>match P.underlying t with
  | some (.array _ _)=>evIaddrA P N o t x i e
  | _=>evIaddr P N o t x i e
 | .fieldAddr s x f=>evFaddr P N o s x f e
 | .load t x=>match x with
  | .tmp s=>match look e.st.env s with
   | some (.d (.ptr _ _))=>match evLoadB P N o t s e with
    | some e'=>some e'
    | none=>evLoadM P N o t s e
   | _=>evLoad P N o t x e
  | _=>none
 | .store t x y=>match x with
  | .tmp s=>match look e.st.env s with
   | some (.pa _ _ _ _)=>evStoreP P o t s y e
   | _=>match ownAgg e y with
    | true=>evStoreM P o t s y e
    | false=>evStoreB P o t s y e
  | _=>none
 | .box t x=>evBox P N o t x e
 | .alloc t=>evAlloc P N o t e
 | .field t x f=>evField P N o t x f e
 | .extract x i=>match isOwnT e x i with
  | true=>evExtractO N o x i e
  | false=>evExtract N o x i e
 | .build t parts=>evBuild P N o t parts.toList e
 | .buildSlice t len parts=>match hint e with
  | some (.tup [],e1)=>evBsliceM P N o t len parts.toList e1
  | _=>evBslice P N o t len parts.toList e
 | .makeSlice t l c=>evMslice P N o t l c e
 | .call c=>evCallC P N o c e
 | .nilCheck x=>evNil N o x e
 | .makeFunc fn first captured=>evMakeFunc N o fn first.toList captured.toList e
 | _=>none
theorem arr1 {α:Type} {a:Array α} {x:α} (h:a.toList=[x]):a = #[x]:=by rw [← Array.toArray_toList (xs:=a),h]
theorem arr2 {α:Type} {a:Array α} {x y:α} (h:a.toList=[x,y]):a = #[x,y]:=by rw [← Array.toArray_toList (xs:=a),h]
theorem evCallC_ok {o:Oper} {c:Call} {e e':E} (ho:o.op=.call c) (h:evCallC P C.N o c e=some e'):OpOk P C o e e':=by
 unfold evCallC at h
 split at h
 ·rename_i hc
  split at h
  ·rename_i x hx
   split at h
   ·exact evLen_ok ho hc (arr1 hx) h
   ·exact evLen0_ok ho hc (arr1 hx) h
   ·exact evLit_ok h fun vs v obs hf hA ρ w hρ=>bltR_ok ho hc hf ρ w hρ
  ·cases h
 ·rename_i hc
  split at h
  ·rename_i s x hx
   split at h
   ·exact evAppendE_ok ho hc (arr2 hx) h
   ·split at h
    ·rename_i h1
     cases h
     exact evAppend_ok ho hc (arr2 hx) h1
    ·exact evAppendM_ok ho hc (arr2 hx) h
  ·cases h
 ·rename_i b hc _ _
  exact evLit_ok h fun vs v obs hf hA ρ w hρ=>bltR_ok ho ‹_› hf ρ w hρ
 ·rename_i f hc
  split at h
  ·split at h
   ·exact evCallX_ok ho hc h ‹_›
   ·cases h
  ·exact evCall_ok ho hc h
 ·cases h
theorem ev1_ok {o:Oper} {e e':E} (h:ev1 P C.N o e=some e'):OpOk P C o e e':=by
 unfold ev1 at h
 split at h
 ·exact evMove_ok (.inl ‹_›) h
 ·exact evMove_ok (.inr ‹_›) h
 ·exact evLit_ok h fun vs v obs hf hA ρ w hρ=>binR_ok ‹_› hf hA ρ w hρ
 ·exact evLit_ok h fun vs v obs hf hA ρ w hρ=>unR_ok ‹_› hf ρ w hρ
 ·exact evPick_ok ‹_› h
 ·split at h
  ·exact evStr_ok ‹_› h
  ·exact evBytes_ok ‹_› h
  ·exact evLit_ok h fun vs v obs hf hA ρ w hρ=>convR_ok ‹_› hf hA ρ w hρ
 ·exact evLit_ok h fun vs v obs hf hA ρ w hρ=>ixR_ok ‹_› hf hA ρ w hρ
 ·split at h
  ·exact evLit_ok h fun vs v obs hf hA ρ w hρ=>slR_ok ‹_› hf hA ρ w hρ
  ·split at h
   ·exact evSliceP_ok ‹_› h
   ·cases h
  ·exact evCut_ok ‹_› h
 ·split at h
  ·exact evIaddrA_ok ‹_› h
  ·exact evIaddr_ok ‹_› h
 ·exact evFaddr_ok ‹_› h
 ·split at h
  ·split at h
   ·split at h
    ·rename_i hb
     cases h
     exact evLoadB_ok ‹_› hb
    ·exact evLoadM_ok ‹_› h
   ·exact evLoad_ok ‹_› h
  ·cases h
 ·split at h
  ·split at h
   ·exact evStoreP_ok ‹_› h
   ·split at h
    ·exact evStoreM_ok ‹_› h
    ·exact evStoreB_ok ‹_› h
  ·cases h
 ·exact evBox_ok ‹_› h
 ·exact evAlloc_ok ‹_› h
 ·exact evField_ok ‹_› h
 ·split at h
  ·exact evExtractO_ok ‹_› h
  ·exact evExtract_ok ‹_› h
 ·exact evBuild_ok ‹_› h
 ·split at h
  ·rename_i e1 hh
   obtain ⟨q1,q2⟩:=hint_eq hh
   have:=evBsliceM_ok (C:=C) ‹_› h
   unfold OpOk at this ⊢
   rw [q1,q2] at this
   exact this
  ·exact evBslice_ok ‹_› h
 ·exact evMslice_ok ‹_› h
 ·exact evCallC_ok ‹_› h
 ·exact evNil_ok ‹_› h
 ·exact evMakeFunc_ok ‹_› h
 ·cases h
def skipE (N:Nat) (o:Oper) (e:E):Option E:=match o.dst with
 | none=>some e
 | some _=>match dstOf N o with
  | some d=>some (e.put d (.lit undef))
  | none=>none
def guardT (ops:Array Oper) (j:Nat):Option Nat:=match ops[j]? with
 | some o=>o.dst
 | none=>none
def evOp (P:Program) (N:Nat) (ops:Array Oper) (o:Oper) (e:E):Option E:=match o.guard with
 | none=>ev1 P N o e
 | some (j,want)=>match guardT ops j with
  | some d=>match look e.st.env d with
   | some (.d (.v (.kb v)))=>match v == want with
    | true=>ev1 P N o e
    | false=>skipE N o e
   | some (.d (.v (.lit (.bool b))))=>match hint e with
    | some (.lit (.bool v),e)=>match v == want with
     | true=>ev1 P N o { need (b=v) e with st:=e.st.setT d (.d (.v (.kb v))) }
     | false=>skipE N o { need (b=v) e with st:=e.st.setT d (.d (.v (.kb v))) }
    | _=>none
   | some (.d (.v (.lit (.tuple t))))=>match Nat.beq t.size 0 with
    | true=>skipE N o e
    | false=>none
   | _=>none
  | none=>none
def lookF:List (Nat × V)→Nat→Option V
 | [],_=>none
 | (k,v) :: l,t=>match Nat.beq t k with
  | true=>some v
  | false=>lookF l t
def fixE (N:Nat) (o:Oper) (e:E):E:=match e.fx with
 | []=>e
 | _ :: _=>match dstOf N o with
  | none=>e
  | some d=>match lookF e.fx d with
   | none=>e
   | some u=>match look e.st.env d with
    | some (.d (.v x))=>{ need (Fit x u) e with st:={ e.st with env:=(d,.d (.v u)) :: e.st.env } }
    | _=>e
def evOps (P:Program) (N:Nat) (ops:Array Oper):List Nat→E→Option E
 | [],e=>some e
 | i :: l,e=>match ops[i]? with
  | none=>none
  | some o=>match evOp P N ops o e with
   | none=>none
   | some e=>evOps P N ops l (fixE N o e)
theorem fixE_eq (N:Nat) (o:Oper) (e:E):fixE N o e=e∨∃ d x u,look e.st.env d=some (.d (.v x))∧fixE N o e={ need (Fit x u) e with st:={ e.st with env:=(d,.d (.v u)) :: e.st.env } }:=by
 unfold fixE
 split
 ·exact .inl rfl
 ·split
  ·exact .inl rfl
  ·split
   ·exact .inl rfl
   ·split
    ·rename_i d _ _ u _ _ x h
     exact .inr ⟨d,x,u,h,rfl⟩
    ·exact .inl rfl
theorem fixE_ok {P:Program} {C:Ctx} {o:Oper} {e:E} (hA:All (fixE C.N o e).ob):All e.ob∧∀ g a w,SRep C g e.st a w→SRep C g (fixE C.N o e).st a w:=by
 rcases fixE_eq C.N o e with h | ⟨d,x,u,h4,h⟩
 ·rw [h] at hA ⊢;exact ⟨hA,fun _ _ _ S=>S⟩
 ·rw [h] at hA ⊢
  obtain ⟨hA1,hf⟩:=All.snoc (l:=e.ob) hA
  refine ⟨hA1,fun g a w S=>?_⟩
  obtain ⟨k1,k2,k3⟩:=S.env d _ h4
  refine S.change (fun _=>False) S.defers S.tmps rfl rfl rfl (Nat.le_refl _) (fun _ h=>h) (fun _ h=>.inl h) S.publt S.n (Nat.le_refl _) (fun _ _=>rfl) (fun _ _ _=>rfl)
   (fun b h ho _=>ho) (fun t _=>⟨rfl,rfl⟩) (fun i _=>⟨rfl,rfl⟩) (fun t y hy=>?_) (fun id b _ h=>h.elim) (fun t h=>h.elim) (fun i h=>h.elim) (fun b h ho=>.inl ⟨ho,(S.own b h ho).2.2⟩)
  simp only [look] at hy
  cases hb:Nat.beq t d with
  | true =>
   rw [hb] at hy
   cases hy
   have:=Nat.eq_of_beq_eq_true hb
   subst this
   exact .inr ⟨k1,.v ((RepD.inv k2).fit hf),k3⟩
  | false =>
   rw [hb] at hy
   exact .inl ⟨fun h=>h,.inl ⟨hy,fun _ _ h=>h⟩⟩
def WOk (P:Program) (C:Ctx) (ops:Array Oper) (o:Oper) (e e':E):Prop :=
 All e'.ob→All e.ob∧∀ g a w,SRep C g e.st a w→∀ (next:Act→World→Prop) (Q:Exit→Act→World→Prop),(∀ g' a' w',SRep C g' e'.st a' w'→(calmK P o.op=true→Calm w w')→next a' w') →
  (if Region.wanted o (yielded ops a.tmps) then o.wp P a w next Q∨(o.asks P a w∧LetsOut Q) else next (a.put o.dst undef) w)
theorem SRep.known {g:G} {st:St} {a:Act} {w:World} (S:SRep C g st a w) {d:Nat} {b:Bool} (h:look st.env d=some (.d (.v (.lit (.bool b))))):SRep C g (st.setT d (.d (.v (.kb b)))) a w:=by
 obtain ⟨h1,h2,h3⟩:=S.env d _ h
 have hv:=RepD.lit h2
 have hT:g.TE d=[]:=by
  have h2:RepD g w (a.tmps.getD d undef) (.v (.lit (.bool b))) (g.TE d):=h2
  exact h2.noOwn rfl
 refine S.change (fun _=>False) S.defers S.tmps rfl rfl rfl (Nat.le_refl _) (fun _ h=>h) (fun _ h=>.inl h) S.publt S.n (Nat.le_refl _) (fun _ _=>rfl) (fun _ _ _=>rfl)
  (fun b h ho _=>ho) (fun t _=>⟨rfl,rfl⟩) (fun i _=>⟨rfl,rfl⟩) (fun t x hx=>?_) (fun id b _ h=>h.elim) (fun t h=>h.elim) (fun i h=>h.elim) (fun b h ho=>.inl ⟨ho,(S.own b h ho).2.2⟩)
 simp only [St.setT,look] at hx
 cases hb:Nat.beq t d with
 | true =>
  have:=Nat.eq_of_beq_eq_true hb
  subst this
  rw [hb] at hx
  cases hx
  refine .inr ⟨h1,?_,h3⟩
  rw [hv,hT]
  exact .v (.kb b)
 | false =>
  rw [hb] at hx
  simp only [look_killE] at hx
  cases hl:look st.env t with
  | none=>rw [hl] at hx;cases hx
  | some z =>
   rw [hl] at hx
   simp only [Option.map_some,Option.some.injEq] at hx
   rcases X.killE_cases (isT d) z with h | h
   ·exact .inl ⟨fun h=>h,.inr ⟨by rw [← hx,h],z,rfl⟩⟩
   ·rw [h] at hx
    subst hx
    exact .inl ⟨fun h=>h,.inl ⟨rfl,fun _ _ h=>h⟩⟩
theorem yield_of {ops:Array Oper} {g:G} {st:St} {a:Act} {w:World} (S:SRep C g st a w) {j d:Nat} (hd:guardT ops j=some d) {x:X} (hl:look st.env d=some x) {b:Bool} (hv:a.tmps.getD d undef=.bool b):yielded ops a.tmps j=some b:=by
 obtain ⟨h1,_,_⟩:=S.env d _ hl
 have hlt:d < a.tmps.size:=by rw [S.tmps];exact h1
 have:a.tmps[d]? = some (.bool b):=by
  rw [Array.getD_eq_getD_getElem?,Array.getElem?_eq_getElem hlt] at hv
  rw [Array.getElem?_eq_getElem hlt]
  exact congrArg some hv
 unfold guardT at hd
 split at hd
 ·rename_i oj hoj
  simp [yielded,hoj,hd,this]
 ·cases hd
theorem skip_ok {ops:Array Oper} {o:Oper} {e e':E} (h:skipE C.N o e=some e'):All e'.ob→All e.ob∧∀ g a w,SRep C g e.st a w→Region.wanted o (yielded ops a.tmps)=false→∀ (next:Act→World→Prop) (Q:Exit→Act→World→Prop),(∀ g' a' w',SRep C g' e'.st a' w'→(calmK P o.op=true→Calm w w')→next a' w') →
 (if Region.wanted o (yielded ops a.tmps) then o.wp P a w next Q∨(o.asks P a w∧LetsOut Q) else next (a.put o.dst undef) w):=by
 intro hA
 unfold skipE at h
 split at h
 ·rename_i hd
  cases h
  refine ⟨hA,fun g a w S hno next Q hn=>?_⟩
  rw [if_neg (by rw [hno];simp),hd]
  exact hn g a w S (fun _=>Calm.refl w)
 ·split at h
  ·rename_i d hd
   cases h
   obtain ⟨hdd,hdN⟩:=dstOf_eq hd
   refine ⟨hA,fun g a w S hno next Q hn=>?_⟩
   rw [if_neg (by rw [hno];simp),hdd]
   exact hn _ _ _ (S.put0 (Calm.refl w) hdN (.v (.lit _))) (fun _=>Calm.refl w)
  ·cases h
theorem evOp_ok {ops:Array Oper} {o:Oper} {e e':E} (h:evOp P C.N ops o e=some e'):WOk P C ops o e e':=by
 unfold evOp at h
 split at h
 ·rename_i hg
  intro hA
  obtain ⟨h0,k⟩:=ev1_ok (C:=C) h hA
  refine ⟨h0,fun g a w S next Q hn=>?_⟩
  rw [if_pos (by simp [Region.wanted,hg])]
  exact .inl (k g a w S next Q hn)
 ·rename_i j want hg
  have wt:∀ {a:Act} {v:Bool},yielded ops a.tmps j=some v→(v == want)=true→Region.wanted o (yielded ops a.tmps)=true:=by
   intro a v hy hv
   have:=eq_of_beq hv
   simp [Region.wanted,hg,hy,this]
  have wf:∀ {a:Act} {v:Bool},yielded ops a.tmps j=some v→(v == want)=false→Region.wanted o (yielded ops a.tmps)=false:=by
   intro a v hy hv
   simp only [Region.wanted,hg,hy]
   cases v<;>cases want<;>simp_all
  split at h
  ·rename_i d hd
   split at h
   ·rename_i v hl
    split at h
    ·rename_i hvw
     intro hA
     obtain ⟨h0,k⟩:=ev1_ok (C:=C) h hA
     refine ⟨h0,fun g a w S next Q hn=>?_⟩
     have hy:=yield_of S hd hl (RepD.kb (S.env d _ hl).2.1)
     rw [if_pos (wt hy hvw)]
     exact .inl (k g a w S next Q hn)
    ·rename_i hvw
     intro hA
     obtain ⟨h0,k⟩:=skip_ok (P:=P) (C:=C) (ops:=ops) h hA
     refine ⟨h0,fun g a w S next Q hn=>?_⟩
     have hy:=yield_of S hd hl (RepD.kb (S.env d _ hl).2.1)
     exact k g a w S (wf hy hvw) next Q hn
   ·rename_i b hl
    split at h
    ·rename_i v e1 hh
     obtain ⟨q1,q2⟩:=hint_eq hh
     split at h
     ·rename_i hvw
      intro hA
      obtain ⟨hA,k⟩:=ev1_ok (C:=C) h hA
      obtain ⟨hA1,hbv⟩:=All.snoc (l:=e1.ob) hA
      subst hbv
      refine ⟨q1 ▸ hA1,fun g a w S next Q hn=>?_⟩
      have hy:=yield_of S hd hl (RepD.lit (S.env d _ hl).2.1)
      rw [if_pos (wt hy hvw)]
      refine .inl (k g a w ?_ next Q hn)
      show SRep C g (e1.st.setT d _) a w
      rw [q2]
      exact S.known hl
     ·rename_i hvw
      intro hA
      obtain ⟨hA,k⟩:=skip_ok (P:=P) (C:=C) (ops:=ops) h hA
      obtain ⟨hA1,hbv⟩:=All.snoc (l:=e1.ob) hA
      subst hbv
      refine ⟨q1 ▸ hA1,fun g a w S next Q hn=>?_⟩
      have hy:=yield_of S hd hl (RepD.lit (S.env d _ hl).2.1)
      refine k g a w ?_ (wf hy hvw) next Q hn
      show SRep C g (e1.st.setT d _) a w
      rw [q2]
      exact S.known hl
    ·cases h
   ·rename_i t hl
    split at h
    ·rename_i ht
     intro hA
     obtain ⟨h0,k⟩:=skip_ok (P:=P) (C:=C) (ops:=ops) h hA
     refine ⟨h0,fun g a w S next Q hn=>k g a w S ?_ next Q hn⟩
     have hv:=RepD.lit (S.env d _ hl).2.1
     unfold guardT at hd
     split at hd
     ·rename_i oj hoj
      have:yielded ops a.tmps j=none:=by
       simp only [yielded,hoj,Option.bind_some,hd]
       obtain ⟨h1,_,_⟩:=S.env d _ hl
       have hlt:d < a.tmps.size:=by rw [S.tmps];exact h1
       rw [Array.getD_eq_getD_getElem?,Array.getElem?_eq_getElem hlt] at hv
       rw [Array.getElem?_eq_getElem hlt]
       simp only [Option.getD_some] at hv
       simp only [hv]
      simp [Region.wanted,hg,this]
     ·cases hd
    ·cases h
   ·cases h
  ·cases h
theorem evOps_ok {ops:Array Oper}:∀ {l:List Nat} {e e':E},evOps P C.N ops l e=some e'→All e'.ob→All e.ob∧∀ g a w,SRep C g e.st a w→∀ (Q:Exit→Act→World→Prop),(∀ g' a' w',SRep C g' e'.st a' w'→Q .normal a' w')→wpOps P ops Q l a w
 | [],e,e',h,hA=>by
  cases h
  exact ⟨hA,fun g a w S Q hn=>hn g a w S⟩
 | i :: l,e,e',h,hA=>by
  simp only [evOps] at h
  cases hoi:ops[i]? with
  | none=>rw [hoi] at h;cases h
  | some o =>
   rw [hoi] at h
   simp only at h
   cases h1:evOp P C.N ops o e with
   | none=>rw [h1] at h;cases h
   | some e1 =>
    rw [h1] at h
    obtain ⟨hA1,k2⟩:=evOps_ok (l:=l) h hA
    obtain ⟨hA2,k3⟩:=fixE_ok (P:=P) (C:=C) hA1
    obtain ⟨hA0,k1⟩:=evOp_ok (C:=C) h1 hA2
    refine ⟨hA0,fun g a w S Q hn=>?_⟩
    have:=k1 g a w S (wpOps P ops Q l) Q (fun g' a' w' S' _=>k2 g' a' w' (k3 g' a' w' S') Q hn)
    simp only [wpOps,hoi]
    exact this
def outS:Option E→St
 | some e=>e.st
 | none=>default
def outO:Option E→Option (List Prop)
 | some e=>some e.ob
 | none=>none
theorem Good.regF {Q:Exit→St→Prop} {st:St} {id N:Nat} {ops:Array Oper} {obs:List Prop} (hN:C.N=N) (hs:List V) (hA:All obs) (rw:List (Nat × Value)) (fx:List (Nat × V)) (h:outO (evOps P N ops (List.range ops.size) ⟨hs,[],st,rw,fx⟩)=some obs)
 (k:Q .normal (outS (evOps P N ops (List.range ops.size) ⟨hs,[],st,rw,fx⟩))):Good P C (.region id ops false) Q st:=by
 subst hN
 intro g a w S
 cases he:evOps P C.N ops (List.range ops.size) ⟨hs,[],st,rw,fx⟩ with
 | none=>rw [he] at h;cases h
 | some e' =>
  rw [he] at h k
  cases h
  obtain ⟨_,key⟩:=evOps_ok (C:=C) he hA
  exact wp_region (key g a w S _ fun g' a' w' S'=>⟨g',e'.st,S',k⟩)
theorem Good.reg {Q:Exit→St→Prop} {st:St} {id N:Nat} {ops:Array Oper} {obs:List Prop} (hN:C.N=N) (hs:List V) (hA:All obs) (rw:List (Nat × Value)) (h:outO (evOps P N ops (List.range ops.size) ⟨hs,[],st,rw,[]⟩)=some obs)
 (k:Q .normal (outS (evOps P N ops (List.range ops.size) ⟨hs,[],st,rw,[]⟩))):Good P C (.region id ops false) Q st:=Good.regF hN hs hA rw [] h k
end
end
end Go.Rf
