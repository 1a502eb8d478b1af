import Derived.Test.YtdombjceoocnhaaGreatDoorRSec1Tells0
set_option linter.unusedSectionVars false
set_option linter.unusedSimpArgs false
set_option linter.unusedVariables false
namespace Go.Rf
open Go.RowKit
section
variable [gp]
def DY (st:St) (el sz:Nat):Operand→Option (Option Root × List V)
 | .const (.slice none 0 0)=>some (none,[])
 | x=>match lX st x with
  | some (r,.row (some e) s es)=>match Nat.beq e el && Nat.beq s sz with
   | true=>some (some r,es)
   | false=>none
  | some (_,.nil _ _)=>some (none,[])
  | _=>none
def J4 (P:Program) (tx sz:Nat) (x:Operand) (e:E):Option (List V × E) :=
 match lX e.st x with
 | some (_,.row (some _) s es)=>match P.underlying tx with
  | some (.slice _)=>match V.bI.go es && Nat.beq s sz && yB s es with
   | true=>some (es,e)
   | false=>none
  | _=>none
 | _=>none
def J5 (P:Program) (tx sz:Nat) (x:Operand) (e:E):Option (List V × E):=match val x e with
 | some (.row none s es,e)=>match P.underlying tx with
  | some (.slice _)=>match Nat.beq s sz && Nat.ble 1 s with
   | true=>some (es,e)
   | false=>none
  | _=>none
 | some (.nil _ _,e)=>match P.underlying tx with
  | some (.slice _)=>some ([],e)
  | _=>none
 | some (.lit (.string b),e)=>match P.underlying tx with
  | some .string=>match Nat.beq sz 1 with
   | true=>some (mo b,e)
   | false=>none
  | _=>none
 | _=>none
def DZ (P:Program) (tx sz:Nat) (x:Operand) (e:E):Option (List V × E):=match hint e with
 | some (.kb true,e)=>J4 P tx sz x e
 | some (.kb false,e)=>J5 P tx sz x e
 | _=>none
def XI (st:St):Option Root→St
 | none=>st
 | some r=>st.dH r
section
variable {P:Program} {C:Ctx}
def Iu (P:Program) (N:Nat) (o:Oper) (ts:Array TypeId) (s x:Operand) (e:E):Option E :=
 match dS N o with
 | none=>none
 | some d=>match ts.toList with
  | [t,tx]=>match P.underlying t with
   | some (.slice el)=>match P.info? el with
    | some i=>match i.zero with
     | some z=>match Nat.beq z.cells.size i.size && Nat.ble 1 i.bytes && Nat.ble (140737488355328 / i.bytes) maxLen with
      | true=>match DZ P tx i.size x e with
       | some (es2,e)=>match DY e.st el i.size s with
        | some (r,es)=>match hint e with
         | some (.row (some e') s' es',e)=>match Nat.beq e' el && Nat.beq s' i.size with
          | true=>some ({ (need (es.length+es2.length≤140737488355328 / i.bytes) (need (aZ (es++es2) es') e)) with st:=(XI e.st r).put d (.d (.v (.row (some el) i.size es'))) })
          | false=>none
         | _=>none
        | none=>none
       | none=>none
      | false=>none
     | none=>none
    | none=>none
   | _=>none
  | _=>none
theorem UF:∀ {es:List V},V.bI.go es=true→V.bI.go (es.flatMap V.cells)=true
 | [],_=>rfl
 | e :: es,h=>by
  simp only [V.bI.go] at h
  cases he:e.bI with
  | false=>rw [he] at h;cases h
  | true =>
   rw [he] at h
   have ih:=UF h
   simp only [List.flatMap_cons]
   have app:∀ {a b:List V},V.bI.go a=true→V.bI.go b=true→V.bI.go (a++b)=true:=by
    intro a b ha hb
    induction a with
    | nil=>exact hb
    | cons c a ih =>
     simp only [V.bI.go] at ha
     cases hc:c.bI with
     | false=>rw [hc] at ha;cases ha
     | true=>rw [hc] at ha;simp only [List.cons_append,V.bI.go,hc];exact ih ha
   refine app ?_ ih
   cases e with
   | agg cs=>simpa [V.cells,V.bI] using he
   | _=>simp only [V.cells,V.bI.go,he]
theorem adP {tx sz:Nat} {x:Operand} {e e':E} {es:List V} (h:J4 P tx sz x e=some (es,e')):All e'.ob→All e.ob∧∀ g a w,aH C g e.st a w →
 ∃ g' news,dI g g' w w∧aH C g' e'.st a w∧Src P tx sz es.length news (a.eval x) w∧aM g'.aL w news (es.flatMap V.cells) []∧(∀ e∈es,e.cells.length=sz):=by
 intro cu
 unfold J4 at h
 split at h
 ·rename_i r et s es' hp
  split at h
  ·rename_i ex hu
   split at h
   ·rename_i hc
    cases h
    simp only [Bool.and_eq_true] at hc
    obtain ⟨⟨c1,c2⟩,c3⟩:=hc
    have c2:=Nat.eq_of_beq_eq_true c2
    subst c2
    refine ⟨cu,fun g a w S=>?_⟩
    obtain ⟨T,_,hr,_⟩:=mW S hp
    obtain ⟨xs,A,hT,h1,h2,h3,h4⟩:=nK hr
    have hA:A=[]:=h2.bI (UF c1)
    subst hA
    refine ⟨g,xs,dI.refl g w,S,?_,h2,h1⟩
    have h4':=h4
    rcases h4.2 with ⟨hv,hn⟩ | ⟨b,cap,cur,hv,_,hg,_⟩
    ·rw [hv,hn]
     have:xs=[]:=List.eq_nil_of_length_eq_zero (by rw [h4.1,hn];simp)
     subst this
     exact Src.slice hu (by simp) (by simp) (by simp) (fun _=>rfl)
    ·rw [hv] at h4' ⊢
     exact Src.slice hu h4'.1 h3 (fun j v hj=>⟨_,rfl,h4'.cells (g:=b) rfl j v hj⟩) (by simp)
   ·cases h
  ·cases h
 ·cases h
theorem adQ {tx sz:Nat} {x:Operand} {e e':E} {es:List V} (h:J5 P tx sz x e=some (es,e')):All e'.ob→All e.ob∧∀ g a w,aH C g e.st a w →
 ∃ g' news,dI g g' w w∧aH C g' e'.st a w∧Src P tx sz es.length news (a.eval x) w∧aM g'.aL w news (es.flatMap V.cells) []∧(∀ e∈es,e.cells.length=sz):=by
 intro cu
 unfold J5 at h
 split at h
 ·rename_i s es' e1 hv
  split at h
  ·rename_i ex hu
   split at h
   ·rename_i hc
    rw [Bool.and_eq_true] at hc
    have hz1:=Nat.le_of_ble_eq_true hc.2
    have hc:=Nat.eq_of_beq_eq_true hc.1
    subst hc
    cases h
    obtain ⟨h0,k⟩:=val_ok (C:=C) hv cu
    refine ⟨h0,fun g a w S=>?_⟩
    obtain ⟨g',kk,S',r⟩:=k g a w S
    obtain ⟨ao,cap,xs,⟨hx,Te⟩,h1,h2,h3,h4⟩:=xV r
    refine ⟨g',xs,kk,S',?_,h2,h1⟩
    rw [hx]
    have hl:xs.length=es.length*s:=by rw [h2.length,gD h1]
    ·have hz:s≠0:=by omega
     refine Src.slice hu hl h3 (fun j v hj=>?_) (fun hn=>?_)
     ·obtain ⟨b,o,e,_,hc⟩:=h4 j v hj
      exact ⟨⟨b,o,none⟩,e,by rw [Addr.add_mid];exact hc⟩
     ·rcases Nat.eq_zero_or_pos es.length with h | h
      ·exact h
      ·have h0:0 < xs.length:=by rw [hl];exact Nat.mul_pos h (Nat.pos_of_ne_zero hz)
       obtain ⟨b,o,e,_⟩:=h4 0 _ (List.getElem?_eq_getElem h0)
       rw [hn] at e;cases e
   ·cases h
  ·cases h
 ·rename_i a1 a2 e1 hv
  split at h
  ·rename_i ex hu
   cases h
   obtain ⟨h0,k⟩:=val_ok (C:=C) hv cu
   refine ⟨h0,fun g a w S=>?_⟩
   obtain ⟨g',kk,S',r⟩:=k g a w S
   refine ⟨g',[],kk,S',?_,.nil,by simp⟩
   generalize a.eval x=v at r ⊢
   cases r
   exact Src.slice hu (by simp) (by simp) (by simp) (fun _=>rfl)
  ·cases h
 ·rename_i b e1 hv
  split at h
  ·rename_i hu
   split at h
   ·rename_i hc
    have hc:=Nat.eq_of_beq_eq_true hc
    subst hc
    cases h
    obtain ⟨h0,k⟩:=val_ok (C:=C) hv cu
    refine ⟨h0,fun g a w S=>?_⟩
    obtain ⟨g',kk,S',r⟩:=k g a w S
    have hx:=r.jX
    rw [hx]
    have hl:(mo b).length=b.size:=by rw [mo,List.length_map,Array.length_toList];rfl
    have hf:(mo b).flatMap V.cells=mo b:=by
     unfold mo
     generalize b.data.toList=l
     induction l with
     | nil=>rfl
     | cons c l ih=>simp only [List.map_cons,List.flatMap_cons,ih];rfl
    refine ⟨g',rC b,kk,S',?_,?_,?_⟩
    ·rw [hl];exact Src.string hu b
    ·rw [hf];exact acW _ _ b
    ·intro u hu
     simp only [mo,List.mem_map] at hu
     obtain ⟨c,_,rfl⟩:=hu
     rfl
   ·cases h
  ·cases h
 ·cases h
theorem Wx {tx sz:Nat} {x:Operand} {e e':E} {es:List V} (h:DZ P tx sz x e=some (es,e')):All e'.ob→All e.ob∧∀ g a w,aH C g e.st a w →
 ∃ g' news,dI g g' w w∧aH C g' e'.st a w∧Src P tx sz es.length news (a.eval x) w∧aM g'.aL w news (es.flatMap V.cells) []∧(∀ e∈es,e.cells.length=sz):=by
 unfold DZ at h
 split at h
 ·rename_i e1 hh
  obtain ⟨q1,q2⟩:=gW hh
  intro hA
  have:=adP (C:=C) h hA
  rw [q1,q2] at this
  exact this
 ·rename_i e1 hh
  obtain ⟨q1,q2⟩:=gW hh
  intro hA
  have:=adQ (C:=C) h hA
  rw [q1,q2] at this
  exact this
 ·cases h
theorem Ht {st:St} {x:Operand} {r:Root} {u:V} (h:lX st x=some (r,u)):iN st r=some u:=by
 unfold lX at h
 split at h
 ·split at h
  ·split at h
   ·rename_i hq;cases h;exact hq
   ·cases h
  ·rename_i hq;cases h;simp [iN,hq]
  ·cases h
 ·cases h
theorem Wy {g:G} {st:St} {a:Act} {w:World} (S:aH C g st a w) {el sz:Nat} {s:Operand} {r:Option Root} {es:List V} (h:DY st el sz s=some (r,es)) :
 (r=none∧es=[]∧a.eval s=.slice none 0 0)∨∃ q,r=some q∧lX st s=some (q,.row (some el) sz es):=by
 unfold DY at h
 split at h
 ·cases h;exact .inl ⟨rfl,rfl,rfl⟩
 ·split at h
  ·rename_i q e s' es' hp
   split at h
   ·rename_i hc
    cases h
    rw [Bool.and_eq_true] at hc
    have h1:=Nat.eq_of_beq_eq_true hc.1
    have h2:=Nat.eq_of_beq_eq_true hc.2
    subst h1
    subst h2
    exact .inr ⟨_,rfl,hp⟩
   ·cases h
  ·rename_i q e' s' hp
   cases h
   obtain ⟨T,_,hr,_⟩:=mW S hp
   generalize a.eval s=v at hr ⊢
   cases hr
   exact .inl ⟨rfl,rfl,rfl⟩
  ·cases h
theorem abE {o:Oper} {c:Call} {s x:Operand} {e e':E} (ho:o.op=.call c) (hc:c.callee=.builtin .append) (ha:c.args = #[s,x]) (h:Iu P C.N o c.argTypes s x e=some e'):bC P C o e e':=by
 unfold Iu at h
 split at h
 ·cases h
 rename_i d hd
 obtain ⟨hdd,hdN⟩:=fC hd
 split at h
 ·rename_i t tx hts
  have hts:c.argTypes = #[t,tx]:=by
   rw [← Array.toArray_toList (xs:=c.argTypes),hts]
  split at h
  ·rename_i el hu
   split at h
   ·rename_i i hi
    split at h
    ·rename_i z hz
     split at h
     ·rename_i hck
      simp only [Bool.and_eq_true] at hck
      obtain ⟨⟨k1,k2⟩,k3⟩:=hck
      have k1:=Nat.eq_of_beq_eq_true k1
      have k2:=Nat.le_of_ble_eq_true k2
      have k3:=Nat.le_of_ble_eq_true k3
      split at h
      ·rename_i es2 e1 hx
       split at h
       ·rename_i r es hs
        split at h
        ·rename_i kR s' es' e2 hh
         split at h
         ·rename_i pX
          rw [Bool.and_eq_true] at pX
          have c1:=Nat.eq_of_beq_eq_true pX.1
          have c2:=Nat.eq_of_beq_eq_true pX.2
          subst c1
          subst c2
          cases h
          obtain ⟨q1,q2⟩:=gW hh
          intro hA
          obtain ⟨hA,hsz⟩:=All.snoc (l:=e2.ob++_) hA
          obtain ⟨hA,hfit⟩:=All.snoc (l:=e2.ob) hA
          obtain ⟨h0,kx⟩:=Wx (C:=C) hx (q1 ▸ hA)
          refine ⟨h0,fun g a w S next Q hn=>?_⟩
          obtain ⟨g1,news,kk,S1,hsrc,hnews,qB⟩:=kx g a w S
          have hb:(es.length+es2.length)*i.bytes≤140737488355328:=Nat.le_trans (Nat.mul_le_mul_right _ hsz) (Nat.div_mul_le_self _ _)
          have hm:es.length+es2.length≤maxLen:=Nat.le_trans hsz k3
          have hst:e2.st=e1.st:=q2
          have exec:∀ v',∀ w',(Builtin.append_ c.argTypes o.type #[a.eval s,a.eval x]).run P w=.ok v' w'→(execOp a.eval o).run P w=.ok (.value v') w':=by
           intro v' w' hr
           unfold execOp
           simp only [ho,resolve,hc,ha,Sem.run_bind,Sem.run_pure,Result.andThen_ok,invoke,builtin,List.map_toArray,List.map_cons,List.map_nil,hr]
          rcases Wy S1 hs with ⟨rfl,rfl,hv⟩ | ⟨q,rfl,hp⟩
          ·
           obtain ⟨v',w',hr,how,hgr,hblk⟩:=xW (P:=P) w t tx o.type kR i z i.size i.bytes hu hi hz rfl rfl k1 (.slice none 0 0) 0 [] (World.ownsRow_nil w 0 kR i.size) (a.eval x) es2.length news hsrc (by simpa using hm) (by simpa using hb)
           refine fq (exec v' w' (by rw [hts,hv];exact hr)) ?_
           rw [hdd]
           simp only [Nat.zero_add,List.nil_append] at how
           have uz:aZ es2 es':=by simpa using hfit
           have kL:aP g1.aL w' v' (.row (some kR) i.size es') (v'.ownBlock.toList++[]):=by
            refine aP.own (uz.sizes qB) ((hnews.keep ⟨fun _ h=>h,fun b hb=>hgr.block b (S1.dM b hb) (by simp [Value.ownBlock])⟩ (fun _ h=>by cases h)).fit uz.flat) hsrc.one ?_
            rw [← uz.length];exact how
           refine hn (g1.put d (v'.ownBlock.toList++[]) fun _=>False) _ _ ?_ (fun h=>by rw [ho] at h;simp [jL,hc] at h)
           show aH C _ (e2.st.put d _) _ _
           rw [hst]
           refine S1.r9 (row:=none) hgr (by simp) hdN ?_ ?_ kL
           ·cases v'.ownBlock<;>simp
           ·intro b hb'
            simp only [List.append_nil,Option.mem_toList] at hb'
            obtain ⟨h1,h2⟩:=hblk b hb'
            have hbw:b=w.heap.size:=by
             rcases h1 with h1 | h1
             ·simp [Value.ownBlock] at h1
             ·exact h1
            subst hbw
            refine ⟨?_,?_,.inl S1.size,h2⟩
            ·cases ho':g1.own w.heap.size with
             | none=>rfl
             | some h'=>have:=(S1.own _ _ ho').2.1;omega
            ·intro hp';have:=S1.dM _ hp';omega
          ·
           obtain ⟨v,T,T',hpv,hR,gy,dF,MF,kw,S2⟩:=S1.take (Ht hp)
           obtain ⟨_,si,_⟩:=mW S1 hp
           have hv:v=a.eval s:=by rw [hpv] at si;exact Option.some.inj si
           subst hv
           obtain ⟨xs,A,hT,h1,h2,h3,zY⟩:=nK hR
           obtain ⟨v',w',hr,how,hgr,hblk⟩:=xW (P:=P) w t tx o.type kR i z i.size i.bytes hu hi hz rfl rfl k1 (a.eval s) es.length xs zY (a.eval x) es2.length news hsrc hm hb
           refine fq (exec v' w' (by rw [hts];exact hr)) ?_
           rw [hdd]
           have rJ:∀ b,g1.aL b→w'.heap[b]? = w.heap[b]?:=fun b hb'=>hgr.block b (S1.dM b hb') (fun e=>by
            have jy:b∈T:=by rw [hT,← e];simp
            exact (S1.own b _ (dF b jy).1).2.2 hb')
           have Bu:∀ b∈A,w'.heap[b]? = w.heap[b]?:=fun b hb'=>by
            have jy:b∈T:=by rw [hT];simp [hb']
            refine hgr.block b (S1.own b _ (dF b jy).1).2.1 (fun e=>?_)
            rw [hT] at gy
            exact (List.nodup_append.1 gy).2.2 b (by rw [← e];simp) b hb' rfl
           have hfl:(es++es2).flatMap V.cells=es.flatMap V.cells++es2.flatMap V.cells:=by simp
           have hall:aM g1.aL w' (xs++news) (es'.flatMap V.cells) (A++[]):=by
            refine aM.fit (ds:=(es++es2).flatMap V.cells) ?_ hfit.flat
            rw [hfl]
            exact (h2.keep ⟨fun _ h=>h,rJ⟩ Bu).app (hnews.keep ⟨fun _ h=>h,rJ⟩ (fun _ h=>by cases h))
           have kL:aP g1.aL w' v' (.row (some kR) i.size es') (v'.ownBlock.toList++(A++[])):=by
            refine aP.own (hfit.sizes (fun e he=>?_)) hall (fun u hu'=>?_) ?_
            ·rcases List.mem_append.1 he with he | he
             ·exact h1 e he
             ·exact qB e he
            ·rcases List.mem_append.1 hu' with hu' | hu'
             ·exact h3 u hu'
             ·exact hsrc.one u hu'
            ·rw [← hfit.length,List.length_append];exact how
           refine hn ((g1.dH q.holder T').put d (v'.ownBlock.toList++(A++[])) fun _=>False) _ _ ?_ (fun h=>by rw [ho] at h;simp [jL,hc] at h)
           show aH C _ ((e2.st.dH q).put d _) _ _
           rw [hst]
           have hfree:∀ b∈T,(g1.dH q.holder T').own b=none∧¬ g1.aL b∧(C.W.heap.size≤b∨C.Fz b)∧b < w.heap.size:=by
            intro b hb'
            obtain ⟨o1,o2⟩:=dF b hb'
            have:=S1.own b _ o1
            refine ⟨?_,this.2.2,this.1,this.2.1⟩
            simp only [G.dH]
            rw [if_pos ⟨o1,o2⟩]
           have hnew:(g1.dH q.holder T').own w.heap.size=none:=by
            simp only [G.dH]
            split
            ·rfl
            ·cases ho':g1.own w.heap.size with
             | none=>rfl
             | some h'=>have:=(S1.own _ _ ho').2.1;omega
           refine S2.r9 (row:=(a.eval s).ownBlock) hgr (fun b hb'=>?_) hdN ?_ ?_ kL
           ·have:=hfree b (by rw [hT,hb'];simp)
            exact ⟨this.1,this.2.1,this.2.2.1⟩
           ·rw [List.append_nil,List.nodup_append]
            rw [hT] at gy
            refine ⟨by cases v'.ownBlock<;>simp,(List.nodup_append.1 gy).2.1,fun b hb1 c hc1 e=>?_⟩
            subst e
            simp only [Option.mem_toList] at hb1
            rcases (hblk b hb1).1 with h5 | h5
            ·exact (List.nodup_append.1 gy).2.2 b (by rw [h5];simp) b hc1 rfl
            ·have:=(hfree b (by rw [hT];simp [hc1])).2.2.2;omega
           ·intro b hb'
            simp only [List.append_nil,List.mem_append,Option.mem_toList] at hb'
            rcases hb' with hb' | hb'
            ·obtain ⟨h5,h6⟩:=hblk b hb'
             rcases h5 with h5 | h5
             ·have:=hfree b (by rw [hT,h5];simp)
              exact ⟨this.1,this.2.1,this.2.2.1,h6⟩
             ·subst h5
              exact ⟨hnew,fun hp'=>by have:=S1.dM _ hp';omega,.inl S1.size,h6⟩
            ·have:=hfree b (by rw [hT];simp [hb'])
             exact ⟨this.1,this.2.1,this.2.2.1,Nat.lt_of_lt_of_le this.2.2.2 hgr.size⟩
         ·cases h
        ·cases h
       ·cases h
      ·cases h
     ·cases h
    ·cases h
   ·cases h
  ·cases h
 ·cases h
end
def D.bI:D→Bool
 | .v x=>x.bI
 | .ptr _ _=>true
 | .agg cs=>go cs
 | .aD cs=>go cs
 | .fn _ cs=>go cs
where go:List D→Bool
 | []=>true
 | c :: cs=>match c.bI with
  | true=>go cs
  | false=>false
mutual
theorem aV.bI {g:G} {w:World} {v:Value} {d:D} {T:List Nat}:aV g w v d T→d.bI=true→T=[]
 | .v h,hn=>h.bI hn
 | .ptr _,_=>rfl
 | .agg h,hn=>h.bI (by simpa [D.bI] using hn)
 | .aD h,hn=>h.bI (by simpa [D.bI] using hn)
 | .fn h,hn=>h.bI (by simpa [D.bI] using hn)
theorem bZ.bI {g:G} {w:World} {vs:List Value} {ds:List D} {T:List Nat}:bZ g w vs ds T→D.bI.go ds=true→T=[]
 | .nil,_=>rfl
 | .cons (d:=d) h1 h2,hn=>by
  simp only [D.bI.go] at hn
  cases hc:d.bI with
  | false=>rw [hc] at hn;cases hn
  | true=>rw [hc] at hn;rw [h1.bI hc,h2.bI hn];rfl
end
section
variable {P:Program} {C:Ctx}
def D.agM:D→Bool
 | .v (.aD _)=>true
 | _=>false
def CO (P:Program) (N:Nat) (o:Oper) (Tf:Bool) (x:Operand) (e:E):Option E :=
 match dS N o with
 | none=>none
 | some d=>match x with
  | .tmp t=>match look e.st.env t with
   | some (.d D)=>match D.bI with
    | true=>some { e with st:=e.st.put d (.d D) }
    | false=>match Nat.beq t d,Tf || D.agM with
     | false,true=>some { e with st:={ e.st with env:=(d,.d D) :: (t,.dead) :: kill (cK d) (kill (cK t) e.st.env) } }
     | false,false=>some { e with st:=e.st.put d (.al (.top (.t t))) }
     | true,_=>none
   | some (.al p)=>match (X.al p).kill (cK d) with
    | .al _=>some { e with st:=e.st.put d (.al p) }
    | _=>match p with
     | .top (.t s)=>match Nat.beq s d with
      | true=>some e
      | false=>none
     | _=>none
   | some (.pa r sz i j)=>match (X.pa r sz i j).kill (cK d) with
    | .pa _ _ _ _=>some { e with st:=e.st.put d (.pa r sz i j) }
    | _=>none
   | _=>none
  | .const (.slice none 0 0)=>match P.underlying o.type with
   | some (.slice el)=>match fK P el with
    | some sz=>some (e.put d (.nil el sz))
    | none=>none
   | _=>none
  | .const v=>some (e.put d (.lit v))
  | .global v=>some (e.put d (.lit (.pointer (some ⟨v,0,none⟩))))
  | .func f=>some (e.put d (.gq f []))
theorem U4 {o:Oper} {Tf:Bool} {x:Operand} {e e':E} (ho:o.op=.move x∨o.op=.assign x) (h:CO P C.N o Tf x e=some e'):bC P C o e e':=by
 have run:∀ {a:Act} {w:World},(execOp a.eval o).run P w=.ok (.value (a.eval x)) w:=by
  intro a w
  unfold execOp
  rcases ho with ho | ho<;>simp only [ho,Sem.run_pure]
 unfold CO at h
 split at h
 ·cases h
 rename_i d hd
 obtain ⟨hdd,hdN⟩:=fC hd
 split at h
 ·rename_i t
  split at h
  ·rename_i D hl
   split at h
   ·rename_i hno
    cases h
    refine fun hA=>⟨hA,fun g a w S next Q hn=>?_⟩
    obtain ⟨h1,h2,h3⟩:=S.env t _ hl
    have h2:aV g w (a.tmps.getD t undef) D (g.TE t):=h2
    have:=h2.bI hno
    rw [this] at h2
    refine fq run ?_
    rw [hdd]
    exact hn _ _ _ (S.iG (Calm.refl w) hdN h2) (fun _=>Calm.refl w)
   ·split at h
    ·rename_i hb _
     cases h
     have htd:t≠d:=fun e=>by rw [e,Nat.beq_refl] at hb;cases hb
     refine fun hA=>⟨hA,fun g a w S next Q hn=>?_⟩
     refine fq run ?_
     rw [hdd]
     exact hn _ _ _ (S.move htd hdN hl) (fun _=>Calm.refl w)
    ·rename_i hb _
     cases h
     have htd:t≠d:=fun e=>by rw [e,Nat.beq_refl] at hb;cases hb
     refine fun hA=>⟨hA,fun g a w S next Q hn=>?_⟩
     refine fq run ?_
     rw [hdd]
     obtain ⟨h1,h2,h3⟩:=S.env t _ hl
     have hk:(X.al (.top (.t t))).kill (cK d)=.al (.top (.t t)):=by
      rcases X.iL (cK d) (X.al (.top (.t t))) with h | h
      ·simp only [X.kill,Pl.root,cK] at h
       have:Nat.beq t d=false:=hb
       rw [this] at h;cases h
      ·exact h.1
     refine hn _ _ _ (S.uQ hdN hk (by simp) ⟨rfl,?_⟩ (by simp)) (fun _=>Calm.refl w)
     have:t < a.tmps.size:=by rw [S.tmps];exact h1
     simp [pv,dW,Act.eval,Array.getD_eq_getD_getElem?,this]
    ·cases h
  ·rename_i p hl
   split at h
   ·rename_i p' hk
    cases h
    have hk:(X.al p).kill (cK d)=.al p:=by
     rcases X.iL (cK d) (X.al p) with h | h
     ·rw [h] at hk;cases hk
     ·exact h.1
    refine fun hA=>⟨hA,fun g a w S next Q hn=>?_⟩
    refine fq run ?_
    rw [hdd]
    obtain ⟨h1,⟨_,h2⟩,h3⟩:=S.env t _ hl
    exact hn _ _ _ (S.uQ hdN hk (by simp) ⟨rfl,h2⟩ (by simp)) (fun _=>Calm.refl w)
   ·split at h
    ·rename_i s _
     split at h
     ·rename_i hb
      cases h
      have hb:=Nat.eq_of_beq_eq_true hb
      subst hb
      refine fun hA=>⟨hA,fun g a w S next Q hn=>?_⟩
      refine fq run ?_
      rw [hdd]
      obtain ⟨h1,⟨_,h2⟩,h3⟩:=S.env t _ hl
      have h2:a.tmps[s]? = some (a.tmps.getD t undef):=h2
      have ha:a.put (some s) (a.eval (.tmp t))=a:=by
       rw [Act.jF]
       have:a.tmps.setIfInBounds s (a.eval (.tmp t))=a.tmps:=by
        apply Array.ext_getElem?
        intro i
        rw [Array.getElem?_setIfInBounds]
        split
        ·rename_i hi
         subst hi
         split
         ·exact h2.symm
         ·rename_i hlt
          rw [Array.getElem?_eq_none (by omega)] at h2;cases h2
        ·rfl
       rw [this]
      rw [ha]
      exact hn _ _ _ S (fun _=>Calm.refl w)
     ·cases h
    ·cases h
  ·rename_i r sz i j hl
   split at h
   ·rename_i hk
    cases h
    have hk:(X.pa r sz i j).kill (cK d)=.pa r sz i j:=by
     rcases X.iL (cK d) (X.pa r sz i j) with h | h
     ·rw [h] at hk;cases hk
     ·exact h.1
    refine fun hA=>⟨hA,fun g a w S next Q hn=>?_⟩
    refine fq run ?_
    rw [hdd]
    obtain ⟨h1,⟨_,h2⟩,h3⟩:=S.env t _ hl
    exact hn _ _ _ (S.uQ hdN hk (by simp) ⟨rfl,h2⟩ (by simp)) (fun _=>Calm.refl w)
   ·cases h
  ·cases h
 ·split at h
  ·rename_i el hu
   split at h
   ·rename_i sz hs
    cases h
    exact bC.vv hd id fun _ g a w S=>⟨_,g,S,run,.nil el sz⟩
   ·cases h
  ·cases h
 ·cases h;exact bC.vv hd id fun _ g a w S=>⟨_,g,S,run,.lit _⟩
 ·cases h;exact bC.vv hd id fun _ g a w S=>⟨_,g,S,run,.lit _⟩
 ·cases h;exact bC.vv hd id fun _ g a w S=>⟨_,g,S,run,.gq (cs:=[]) (vs:=[]) .nil⟩
def wS (l:List Int):List V:=l.map fun n=>.lit (.int .u8 n)
def CP (es:List V) (b:ByteArray):Prop:=∃ l:List Int,es=wS l∧b=strOfNums l
def J6 (P:Program) (N:Nat) (o:Oper) (s t:TypeId) (x:Operand) (e:E):Option E :=
 match dS N o with
 | none=>none
 | some d=>match P.underlying s,P.underlying t with
  | some (.slice el),some .string=>match P.underlying el with
   | some (.int .u8)=>match lX e.st x with
    | some (_,.row _ 1 es)=>match hint e with
     | some (.lit (.string b),e)=>some ((need (CP es b) e).put d (.lit (.string b)))
     | _=>none
    | some (_,.nil _ _)=>some (e.put d (.lit (.string .empty)))
    | _=>none
   | _=>none
  | _,_=>none
theorem U5 (l:List Int):(wS l).flatMap V.cells=wS l:=by
 unfold wS
 induction l with
 | nil=>rfl
 | cons c l ih=>simp only [List.map_cons,List.flatMap_cons,ih];rfl
theorem U6 {p:aW} {w:World} {T:List Nat}:∀ {l:List Int} {xs:List Value},aM p w xs (wS l) T→xs=l.map (Value.int .u8):=by
 intro l
 induction l generalizing T with
 | nil=>intro xs h;cases h;rfl
 | cons b l ih =>
  intro xs h
  cases h with
  | cons h1 h2=>rw [h1.jX,ih h2];rfl
theorem Iw (l:List Int):(wS l).length=l.length:=List.length_map _
theorem adR {o:Oper} {s t:TypeId} {x:Operand} {e e':E} (ho:o.op=.convert s t x) (h:J6 P C.N o s t x e=some e'):bC P C o e e':=by
 unfold J6 at h
 split at h
 ·cases h
 rename_i d hd
 split at h
 ·rename_i el hs ht
  split at h
  ·rename_i hel
   split at h
   ·rename_i r ow es hp
    split at h
    ·rename_i b e1 hh
     cases h
     refine bC.lit (obs:=[CP es b]) hd (gW hh) fun hA g a w S=>?_
     have hes:CP es b:=by cases hA with | cons h _=>exact h
     obtain ⟨l,hes,hb⟩:=hes
     subst hes
     subst hb
     obtain ⟨T,_,hr,_⟩:=mW S hp
     have get:∀ {xs:List Value} {f:Nat→Option Value},xs=l.map (Value.int .u8)→(∀ j u,xs[j]? = some u→f j=some u)→∀ i,i < l.length→f i=some (.int .u8 (l.getD i 0)):=by
      intro xs f hx hf i hi
      refine hf i _ ?_
      rw [hx,List.getElem?_map,List.getD_eq_getElem?_getD,List.getElem?_eq_getElem hi]
      rfl
     have key:(convert s t (a.eval x)).run P w=.ok (.string (strOfNums l)) w:=by
      cases ow with
      | none =>
       obtain ⟨ao,cap,xs,⟨hx,Te⟩,h1,h2,h3,h4⟩:=xV hr
       rw [U5] at h2
       have hxs:=U6 h2
       rw [hx,Iw]
       cases ao with
       | none =>
        have hn:l=[]:=by
         cases l with
         | nil=>rfl
         | cons c l =>
          rw [hxs] at h4
          obtain ⟨_,_,e',_⟩:=h4 0 _ rfl
          cases e'
        subst hn
        exact run_convert_bytes_nil w s el hs hel _ _ t ht
       | some ad =>
        cases hl:l with
        | nil =>
         rw [run_convert_bytes_string w s t el (some ad) _ cap hs hel ht]
         simp [Conv.bytesToString,loadCells,strOfNums]
         rfl
        | cons c l' =>
         rw [← hl]
         have h0:xs[0]? = some (.int .u8 c):=by rw [hxs,hl];rfl
         obtain ⟨b',o',e',_,_⟩:=h4 0 _ h0
         cases e'
         refine run_convert_bytes_arg w s el hs hel b' o' l.length cap l rfl (get (f:=fun j=>w.cell? ⟨b',o'+j,none⟩) hxs fun j u hj=>?_) t ht
         obtain ⟨b2,o2,e2,_,hc⟩:=h4 j u hj
         cases e2
         exact hc
      | some et =>
       obtain ⟨xs,A,hT,h1,h2,h3,how⟩:=nK hr
       rw [U5] at h2
       have hxs:=U6 h2
       have how':=how
       rcases how.2 with ⟨hv,hn⟩ | ⟨gb,cap,cur,hv,_,hg,_⟩
       ·rw [hv]
        have:l=[]:=List.eq_nil_of_length_eq_zero (by rw [← Iw];exact hn)
        subst this
        exact run_convert_bytes_nil w s el hs hel _ _ t ht
       ·rw [hv] at how' ⊢
        rw [Iw]
        refine run_convert_bytes_arg w s el hs hel gb 0 l.length cap l rfl (get (f:=fun j=>w.cell? ⟨gb,0+j,none⟩) hxs fun j u hj=>?_) t ht
        have:=how'.cells (g:=gb) rfl j u hj
        rw [Addr.add_mid] at this
        exact this
     unfold execOp
     simp only [ho,Sem.run_bind,key,Result.andThen_ok,Sem.run_pure]
    ·cases h
   ·rename_i r e1 s1 hp
    cases h
    refine bC.vv hd id fun _ g a w S=>⟨.string .empty,g,S,?_,.lit _⟩
    obtain ⟨T,_,hr,_⟩:=mW S hp
    have hv:a.eval x=.slice none 0 0:=by generalize a.eval x=v at hr;cases hr;rfl
    unfold execOp
    simp only [ho,hv,Sem.run_bind,run_convert_bytes_string w s t el none 0 0 hs hel ht,Conv.bytesToString,Sem.run_pure,Result.andThen_ok]
   ·cases h
  ·cases h
 ·cases h
end
section
variable {P:Program} {C:Ctx}
theorem acX (z:Array Value) (n:Nat):(madeCells z ((n+1)*z.size)).toList=z.toList++(madeCells z (n*z.size)).toList:=by
 have e:(n+1)*z.size=z.size+n*z.size:=by rw [Nat.add_mul,Nat.one_mul,Nat.add_comm]
 simp only [madeCells,Array.toList_map,Array.toList_range,e,List.range_add,List.map_append,List.map_map]
 congr 1
 ·apply List.ext_getElem?
  intro j
  by_cases hj:j < z.size
  ·rw [List.getElem?_map,List.getElem?_range hj]
   simp [Nat.mod_eq_of_lt hj,hj]
  ·rw [List.getElem?_eq_none (by simp;omega),List.getElem?_eq_none (by simp;omega)]
 ·apply List.map_congr_left
  intro j _
  simp
theorem VJ {p:aW} {w:World} {z:Array Value} {d:V} (h:aM p w z.toList d.cells []):∀ n,aM p w (madeCells z (n*z.size)).toList ((List.replicate n d).flatMap V.cells) []
 | 0=>by simp [madeCells];exact .nil
 | n+1=>by
  rw [acX,List.replicate_succ,List.flatMap_cons]
  exact h.app (VJ h n)
def Iy (P:Program) (N:Nat) (o:Oper) (t:TypeId) (l c:Operand) (e:E):Option E :=
 match dS N o with
 | none=>none
 | some d=>match P.underlying t with
  | some (.slice el)=>match P.info? el with
   | some i=>match i.zero with
    | some z=>match zeroV P el with
     | some zs=>match kX P el zs with
      | some ze=>match vals [l,c] e with
       | some ([.lit (.int _ n),.lit (.int _ m)],e)=>match hint e with
        | some (.row (some e') s' es',e)=>match Nat.beq e' el && Nat.beq s' i.size && ic ze.cells && Nat.beq zs.length i.size && Nat.beq ze.cells.length i.size && Nat.ble 1 i.bytes with
         | true=>some ((need (List.replicate n.toNat ze=es') (need (m≤((281474976710656 / i.bytes:Nat):Int)) (need (n≤m) (need (0≤n) e)))).put d (.row (some el) i.size es'))
         | false=>none
        | _=>none
       | _=>none
      | none=>none
     | none=>none
    | none=>none
   | none=>none
  | _=>none
theorem acY {t:TypeId} {cs:List V} {u:V} (h:kX P t cs=some u) (hl:u.cells.length=cs.length) (h1:ic cs=true):u.cells=cs:=by
 unfold kX at h
 split at h
 ·split at h
  ·split at h
   ·cases h
    simp only [V.cells,List.length_take] at hl ⊢
    exact List.take_of_length_le (by omega)
   ·cases h
  ·cases h
 ·split at h
  ·rename_i c cs'
   split at h
   ·cases h
   ·cases h
    have hc:u.cells=[u]:=by
     cases u<;>first | rfl | (rename_i hn;exact (hn _ rfl).elim)
    rw [hc] at hl ⊢
    simp at hl
    rw [hl]
  ·cases h
 ·cases h
theorem abF {o:Oper} {t:TypeId} {l c:Operand} {e e':E} (ho:o.op=.makeSlice t l c) (h:Iy P C.N o t l c e=some e'):bC P C o e e':=by
 unfold Iy at h
 split at h
 ·cases h
 rename_i d hd
 split at h
 ·rename_i el hu
  split at h
  ·rename_i i hi
   split at h
   ·rename_i z hz
    split at h
    ·rename_i zs hzs
     split at h
     ·rename_i ze hze
      split at h
      ·rename_i k n k' m e1 hv
       split at h
       ·rename_i kR s' es' e2 hh
        split at h
        ·rename_i hck
         simp only [Bool.and_eq_true] at hck
         obtain ⟨⟨⟨⟨⟨c1,c2⟩,c3⟩,c4⟩,c5⟩,c6⟩:=hck
         have c1:=Nat.eq_of_beq_eq_true c1
         have c2:=Nat.eq_of_beq_eq_true c2
         have c4:=Nat.eq_of_beq_eq_true c4
         have c5:=Nat.eq_of_beq_eq_true c5
         have c6:=Nat.le_of_ble_eq_true c6
         subst c1
         subst c2
         cases h
         obtain ⟨q1,q2⟩:=gW hh
         obtain ⟨it,zv,hit,hzv,h1,xO⟩:=yo hzs
         rw [hi] at hit
         cases hit
         rw [hz] at hzv
         cases hzv
         have hzc:ze.cells=zs:=acY hze (by rw [c5,c4]) h1
         refine bC.new (e1:=e1) (u:=.row (some kR) i.size es') hd hv (by simp only [E.put,need,q2]) ?_ fun hA ρ w p hp r=>?_
         ·intro hA
          have:=(All.snoc (All.snoc (All.snoc (All.snoc hA).1).1).1).1
          exact q1 ▸ this
         ·obtain ⟨hA,a4⟩:=All.snoc hA
          obtain ⟨hA,a3⟩:=All.snoc hA
          obtain ⟨hA,a2⟩:=All.snoc hA
          obtain ⟨hA,a1⟩:=All.snoc hA
          obtain ⟨v1,vs1,hvs,r1,r2⟩:=r.cons_inv
          obtain ⟨v2,vs2,MG,r3,_⟩:=r2.cons_inv
          have hl:ρ l=.int k n:=by rw [← r1.jX];exact (List.cons.inj hvs).1
          have hc:ρ c=.int k' m:=by
           rw [← r3.jX]
           have:=(List.cons.inj hvs).2
           rw [MG] at this
           exact (List.cons.inj this).1
          have hzs':z.cells.size=i.size:=by rw [← Array.length_toList,(xO p w).length,c4]
          have hm:(i.bytes:Int)*m≤281474976710656:=by
           have h5:i.bytes*m.toNat≤281474976710656:=by
            have:m.toNat≤281474976710656 / i.bytes:=by omega
            rw [Nat.mul_comm]
            exact Nat.le_trans (Nat.mul_le_mul_right _ this) (Nat.div_mul_le_self _ _)
           have h6:((i.bytes*m.toNat:Nat):Int)=(i.bytes:Int)*m:=by rw [Int.natCast_mul,Int.toNat_of_nonneg (by omega)]
           omega
          have hm2:m≤281474976710656:=by
           have h5:281474976710656 / i.bytes≤281474976710656:=Nat.div_le_self _ _
           omega
          have hrun:=run_make (P:=P) w t kR i z hu hi hz k k' n m a1 a2 hm (by omega)
          refine ⟨.slice (some ⟨w.heap.size,0,none⟩) n.toNat m.toNat,w.alloc (.cells (madeCells z.cells (m.toNat*i.size)) kR),[w.heap.size],?_,Calm.of (World.grownBy_alloc w _ none),?_,by simp,?_⟩
          ·unfold execOp
           simp only [ho,hl,hc,Sem.run_bind,hrun,Result.andThen_ok,Sem.run_pure]
          ·have hlen:es'.length=n.toNat:=by rw [← a4];simp
           have hrep:=VJ (p:=p) (w:=w) (z:=z.cells) (d:=ze) (by rw [hzc];exact xO p w) n.toNat
           rw [a4,hzs'] at hrep
           have h1':∀ e∈es',e.cells.length=i.size:=by
            intro e he
            rw [← a4] at he
            rw [List.eq_of_mem_replicate he,c5]
           have hall:ic (es'.flatMap V.cells)=true:=by
            rw [← a4]
            generalize n.toNat=q
            induction q with
            | zero=>rfl
            | succ q ih=>rw [List.replicate_succ,List.flatMap_cons,vL];exact ⟨c3,ih⟩
           have hone:=hrep.one hall
           have hpre:(madeCells z.cells (n.toNat*i.size)).toList=(madeCells z.cells (m.toNat*i.size)).toList.take (n.toNat*i.size):=by
            have:n.toNat*i.size≤m.toNat*i.size:=Nat.mul_le_mul_right _ (by omega)
            simp only [madeCells,Array.toList_map,Array.toList_range,← List.map_take,List.take_range,Nat.min_eq_left this]
           have:=aP.own (p:=p) (w:=w.alloc (.cells (madeCells z.cells (m.toNat*i.size)) kR)) (A:=[]) (v:=.slice (some ⟨w.heap.size,0,none⟩) n.toNat m.toNat) (e:=kR) (sz:=i.size) (es:=es') (xs:=(madeCells z.cells (n.toNat*i.size)).toList) h1'
            (hrep.keep ⟨fun _ h=>h,fun b hb=>Below.heap_alloc w _ b (hp b hb)⟩ (fun _ h=>by cases h)) hone ?_
           ·simpa [Value.ownBlock] using this
           ·refine ⟨by rw [hlen,Array.length_toList,size_madeCells],.inr ⟨w.heap.size,m.toNat,_,by rw [hlen],Nat.zero_le _,Go.heap_alloc_new w _,by rw [hlen];omega,?_,size_madeCells _ _,by rw [hlen,hpre]⟩⟩
            simp only [maxLen];omega
          ·intro b hb
           simp only [List.mem_singleton] at hb
           subst hb
           simp
        ·cases h
       ·cases h
      ·cases h
     ·cases h
    ·cases h
   ·cases h
  ·cases h
 ·cases h
end
def aQ (P:Program) (f:FuncId) (us:List V) (r:V):Prop :=
 (∀ vs w,(callFunc f vs).run P w=.ok (.enter f vs) w) ∧
 ∀ (p:aW) (w:World) (vs:List Value),(∀ b,p b→b < w.heap.size)→gp.t p w→aM p w vs us []→Calls P f vs.toArray w fun e w' =>
  ∃ (v:Value) (T:List Nat) (q:aW),e=.returned v∧Calm w w'∧(∀ b,q b→w.heap.size≤b∧b < w'.heap.size)∧T.Nodup∧(∀ b∈T,w.heap.size≤b∧b < w'.heap.size∧¬ q b)∧aP (fun b=>p b∨q b) w' v r T
def zZ (P:Program) (f:FuncId) (us:List V) (r:V):Prop:=∃ us',aZ us us'∧aQ P f us' r
theorem aQ.n {P:Program} {f:FuncId} {us us':List V} {r:V} (h:aQ P f us' r) (f1:aZ us us'):zZ P f us r:=⟨us',f1,h⟩
theorem aQ.c {P:Program} {f:FuncId} {us:List V} {r:V} (h:aQ P f us r):zZ P f us r:=⟨us,aZ.refl us,h⟩
section
variable {P:Program} {C:Ctx}
theorem aH.calm {g:G} {st:St} {a:Act} {w w':World} (S:aH C g st a w) (k:Calm w w'):aH C g st a w' :=
 S.change (fun _=>False) S.defers S.tmps k.os k.tape k.output k.size (fun _ h=>h) (fun _ h=>.inl h) (fun b hb=>Nat.lt_of_lt_of_le (S.dM b hb) k.size) S.n (Nat.le_refl _) (fun _ _=>rfl) (fun b hb _=>k.same b hb)
  (fun b h ho _=>ho) (fun t _=>⟨rfl,rfl⟩) (fun i _=>⟨rfl,rfl⟩) (fun t x hx=>.inl ⟨fun h=>h,.inl ⟨hx,fun _ _ h=>h⟩⟩) (fun id b _ h=>h.elim) (fun t h=>h.elim) (fun i h=>h.elim) (fun b h ho=>.inl ⟨ho,(S.own b h ho).2.2⟩)
def D5:V→Option (FuncId × List V)
 | .gq f cs=>some (f,cs)
 | _=>none
theorem Wz {u:V} {n:FuncId} {cs:List V} (h:D5 u=some (n,cs)):u=.gq n cs:=by
 unfold D5 at h
 split at h
 ·cases h;rfl
 ·cases h
theorem aP.WA {p:aW} {w:World} {v:Value} {f:FuncId} {cs:List V} {T:List Nat} (h:aP p w v (.gq f cs) T):∃ vs:List Value,v=.func (.func f) #[] vs.toArray∧aM p w vs cs []:=by
 cases h with
 | gq h=>exact ⟨_,rfl,h⟩
def JI (N:Nat) (P:Program) (o:Oper) (f:Operand) (xs:List Operand) (e:E):Option E :=
 match val f e with
 | some (u,e)=>match D5 u with
  | some (n,cs)=>match vals xs e with
   | some (us,e)=>match hint e with
    | some (r,e)=>match o.dst with
     | none=>some (need (zZ P n (us++cs) r) e)
     | some _=>match dS N o with
      | some d=>some ((need (zZ P n (us++cs) r) e).put d r)
      | none=>none
    | none=>none
   | none=>none
  | none=>none
 | none=>none
theorem acZ {o:Oper} {c:Call} {f:Operand} {e e':E} (ho:o.op=.call c) (hc:c.callee=.value f) (h:JI C.N P o f c.args.toList e=some e'):bC P C o e e':=by
 unfold JI at h
 split at h
 ·rename_i u0 e1 hf
  split at h
  rotate_left
  ·cases h
  rename_i n cs hfn
  have hfn:=Wz hfn
  subst hfn
  split at h
  ·rename_i us e2 hv
   split at h
   ·rename_i r e3 hh
    obtain ⟨q1,q2⟩:=gW hh
    have main:∀ (nz:zZ P n (us++cs) r) (hA:All e3.ob) g a w,aH C g e.st a w→∃ g1,aH C g1 e2.st a w∧∀ (K:Value→World→Prop) (Q:Exit→Act→World→Prop) (next:Act→World→Prop),
     (∀ (v:Value) (w':World) (T:List Nat) (q:aW),Calm w w'→(∀ b,q b→w.heap.size≤b∧b < w'.heap.size)→T.Nodup→(∀ b∈T,w.heap.size≤b∧b < w'.heap.size∧¬ q b)→aP (fun b=>g1.aL b∨q b) w' v r T→next (a.put o.dst v) w')→o.wp P a w next Q:=by
     intro nz hA g a w S
     obtain ⟨us',hfit,hen,hcon⟩:=nz
     obtain ⟨hA1,kv⟩:=nJ (C:=C) hv (q1 ▸ hA)
     obtain ⟨_,kf⟩:=val_ok (C:=C) hf hA1
     obtain ⟨g0,k0,S0,r0⟩:=kf g a w S
     obtain ⟨g1,k1,S1,r1⟩:=kv g0 a w S0
     refine ⟨g1,S1,fun K Q next hn=>?_⟩
     obtain ⟨Tg,sP,rc⟩:=r0.WA
     have hargs:(c.args.map a.eval)=(c.args.toList.map a.eval).toArray:=by apply Array.ext';rw [Array.toList_map]
     unfold Oper.wp
     have:(execOp a.eval o).run P w=.ok (.enter n (c.args.toList.map a.eval++Tg).toArray) w:=by
      unfold execOp
      simp only [ho,resolve,hc,sP,hargs,Deferred.ofValue,Sem.run_bind,Sem.run_pure,Result.andThen_ok,invoke]
      simpa using hen _ w
     rw [this,Oper.upon_enter]
     refine (hcon g1.aL w _ S1.dM S1.tab ((r1.app (rc.keep k1.k (fun _ h=>by cases h))).fit hfit)).mono fun e w' he=>?_
     obtain ⟨v,T,q,rfl,hcalm,hq,hT,lC,hR⟩:=he
     exact hn v w' T q hcalm hq hT lC hR
    split at h
    ·rename_i hd
     cases h
     intro hA
     obtain ⟨hA,nz⟩:=All.snoc (l:=e3.ob) hA
     have h0:=(val_ok (C:=C) hf (nJ (C:=C) hv (q1 ▸ hA)).1).1
     refine ⟨h0,fun g a w S next Q hn=>?_⟩
     obtain ⟨g1,S1,m⟩:=main nz hA g a w S
     refine m (fun _ _=>True) Q next fun v w' T q hcalm hq hT lC hR=>?_
     rw [hd]
     refine hn g1 _ _ ?_ (fun _=>hcalm)
     show aH C g1 e3.st _ _
     rw [q2]
     exact S1.calm hcalm
    ·split at h
     ·rename_i d hd
      cases h
      obtain ⟨hdd,hdN⟩:=fC hd
      intro hA
      obtain ⟨hA,nz⟩:=All.snoc (l:=e3.ob) hA
      have h0:=(val_ok (C:=C) hf (nJ (C:=C) hv (q1 ▸ hA)).1).1
      refine ⟨h0,fun g a w S next Q hn=>?_⟩
      obtain ⟨g1,S1,m⟩:=main nz hA g a w S
      refine m (fun _ _=>True) Q next fun v w' T q hcalm hq hT lC hR=>?_
      rw [hdd]
      refine hn (g1.put d T q) _ _ ?_ (fun _=>hcalm)
      show aH C _ (e3.st.put d _) _ _
      rw [q2]
      exact S1.put hcalm hdN hq hT lC (.v hR)
     ·cases h
   ·cases h
  ·cases h
 ·cases h
def J7 (P:Program) (N:Nat) (o:Oper) (t:TypeId) (x:Operand) (lo hi:Option Operand) (e:E):Option E :=
 match dS N o with
 | none=>none
 | some d=>match P.underlying t with
  | some (.slice el)=>match fK P el with
   | some sz=>match vals (lo.toList++hi.toList) e with
    | some (bs,e)=>match lits bs with
     | some vs=>match hint e with
      | some (.row none _ es',e)=>match val x e with
       | some (.row none s es,e)=>match Nat.beq s sz && Nat.ble 1 s with
        | true=>match mD es.length lo.isSome hi.isSome vs with
         | some (l,h,obs)=>some ((need ((es.drop l).take (h - l)=es') { e with ob:=e.ob++obs }).put d (.row none sz es'))
         | none=>none
        | false=>none
       | _=>none
      | some (.row (some _) _ es',e)=>match lX e.st x with
       | some (r,.row (some el') s es)=>match Nat.beq s sz with
        | true=>match lo.isSome,mD es.length lo.isSome hi.isSome vs with
         | false,some (l,h,obs)=>some { (need (es.take h=es') { e with ob:=e.ob++obs }) with st:=(e.st.dH r).put d (.d (.v (.row (some el') sz es'))) }
         | _,_=>none
        | false=>none
       | _=>none
      | _=>none
     | none=>none
    | none=>none
   | none=>none
  | _=>none
theorem GZ {sz:Nat}:∀ {es:List V} (h:Nat),(∀ e∈es,e.cells.length=sz)→(es.take h).flatMap V.cells=(es.flatMap V.cells).take (h*sz)
 | [],h,_=>by simp
 | e :: es,0,_=>by simp
 | e :: es,h+1,hs=>by
  have h1:=hs e (by simp)
  rw [List.take_succ_cons,List.flatMap_cons,List.flatMap_cons,GZ h (fun e he=>hs e (by simp [he]))]
  rw [show (h+1)*sz=e.cells.length+h*sz by rw [h1,Nat.add_mul,Nat.one_mul,Nat.add_comm],List.take_length_add_append]
theorem UG {sz:Nat}:∀ {es:List V} (h:Nat),(∀ e∈es,e.cells.length=sz)→(es.drop h).flatMap V.cells=(es.flatMap V.cells).drop (h*sz)
 | [],h,_=>by simp
 | e :: es,0,_=>by simp
 | e :: es,h+1,hs=>by
  have h1:=hs e (by simp)
  rw [List.drop_succ_cons,List.flatMap_cons,UG h (fun e he=>hs e (by simp [he]))]
  rw [show (h+1)*sz=e.cells.length+h*sz by rw [h1,Nat.add_mul,Nat.one_mul,Nat.add_comm],List.drop_length_add_append]
theorem adS {o:Oper} {t:TypeId} {x:Operand} {lo hi:Option Operand} {e e':E} (ho:o.op=.slice t x lo hi none) (h:J7 P C.N o t x lo hi e=some e'):bC P C o e e':=by
 unfold J7 at h
 split at h
 ·cases h
 rename_i d hd
 obtain ⟨hdd,hdN⟩:=fC hd
 split at h
 ·rename_i el hu
  split at h
  ·rename_i sz hsz
   split at h
   ·rename_i bs e1 hv
    split at h
    ·rename_i vs hl
     have exec:∀ {a:Act} {w:World} {ao:Option Addr} {n cap l hh:Nat},a.eval x=.slice ao n cap→(Instr.sliceBounds true n cap (lo.map a.eval) (hi.map a.eval) none).run P w=.ok (l,hh,cap) w →
      (execOp a.eval o).run P w=.ok (.value (.slice (if cap=l then ao else ao.map (·.add (l*sz))) (hh - l) (cap - l))) w:=by
      intro a w ao n cap l hh hx hb
      unfold fK at hsz
      cases hi':P.info? el with
      | none=>rw [hi'] at hsz;cases hsz
      | some inf =>
       rw [hi'] at hsz
       cases hsz
       unfold execOp
       simp only [ho,hx,Instr.sliceAt,Instr.slice,Sem.run_bind,run_underlying hu,Option.map_none,Result.andThen_ok,hb,sizeOf,typeInfo,run_program,hi',Sem.run_pure]
     split at h
     ·rename_i s0 es' e2 hh
      obtain ⟨q1,q2⟩:=gW hh
      split at h
      ·rename_i s es e3 hx
       split at h
       ·rename_i hck
        rw [Bool.and_eq_true] at hck
        have c1:=Nat.eq_of_beq_eq_true hck.1
        have c2:=Nat.le_of_ble_eq_true hck.2
        subst c1
        split at h
        ·rename_i l hh' obs hcut
         cases h
         intro hA
         obtain ⟨hA,heq⟩:=All.snoc (l:=e3.ob++obs) hA
         have wT:=hA.right
         have hA:=hA.left
         obtain ⟨hA2,kx⟩:=val_ok (C:=C) hx hA
         obtain ⟨h0,kv⟩:=nJ (C:=C) hv (q1 ▸ hA2)
         refine ⟨h0,fun g a w S next Q hn=>?_⟩
         obtain ⟨g1,k1,S1,r1⟩:=kv g a w S
         obtain ⟨g2,k2,S2,r2⟩:=kx g1 a w (q2 ▸ S1)
         obtain ⟨ao,cap,xs,⟨hxv,Te⟩,h1,h2,h3,h4⟩:=xV r2
         have hvs:=oI hl r1
         have hle:=Ws hcut wT
         have hcap:=Te
         ·refine fq (exec hxv (Ca w true hcap hvs hcut wT)) ?_
          rw [hdd]
          have hlen:hh' - l=((es.drop l).take (hh' - l)).length:=by simp;omega
          have hR:aP g2.aL w (.slice (if cap=l then ao else ao.map (·.add (l*s))) (hh' - l) (cap - l)) (.row none s es') []:=by
           rw [← heq]
           generalize hq:hh' - l=q at hlen ⊢
           rw [hlen]
           have hfl:((es.drop l).take q).flatMap V.cells=((es.flatMap V.cells).drop (l*s)).take (q*s):=by
            rw [GZ q (fun e he=>h1 e (List.mem_of_mem_drop he)),UG l h1]
           obtain ⟨A,B,gu,_,hd2⟩:=h2.cut (l*s)
           have hB:=(List.append_eq_nil_iff.1 gu.symm).2
           subst hB
           obtain ⟨A,B,gu,hd3,_⟩:=hd2.cut (q*s)
           have hA':=(List.append_eq_nil_iff.1 gu.symm).1
           subst hA'
           rw [← hlen]
           have hgo:aP g2.aL w (.slice (if cap=l then ao else ao.map (·.add (l*s))) ((es.drop l).take q).length (cap - l)) (.row none s ((es.drop l).take q)) []:=by
            refine aP.shared (xs:=(xs.drop (l*s)).take (q*s)) (by rw [← hlen,← hq];omega) (fun e he=>h1 e (List.mem_of_mem_drop (List.mem_of_mem_take he))) (by rw [hfl];exact hd3) (fun u hu=>h3 u (List.mem_of_mem_drop (List.mem_of_mem_take hu))) (fun j u hj=>?_)
            have hj2:xs[l*s+j]? = some u:=by
             rw [List.getElem?_take] at hj
             split at hj
             ·rwa [List.getElem?_drop] at hj
             ·cases hj
            obtain ⟨b,Br,e',hp,hc⟩:=h4 _ _ hj2
            subst e'
            by_cases hcl:cap=l
            ·exfalso
             have:l*s+j < xs.length:=by
              rcases Nat.lt_or_ge (l*s+j) xs.length with h | h
              ·exact h
              ·rw [List.getElem?_eq_none h] at hj2;cases hj2
             rw [h2.length,gD h1] at this
             have:es.length*s≤l*s:=Nat.mul_le_mul_right _ (by omega)
             omega
            ·rw [if_neg hcl]
             refine ⟨b,Br+l*s,by simp [Addr.add_mid],hp,?_⟩
             rwa [Nat.add_assoc]
           rw [← hlen] at hgo
           exact hgo
          refine hn _ _ _ (S2.iG (Calm.refl w) hdN (.v hR)) (fun _=>Calm.refl w)
        ·cases h
       ·cases h
      ·cases h
     ·rename_i s0 s1 es' e2 hh
      obtain ⟨q1,q2⟩:=gW hh
      split at h
      ·rename_i r el' s es hp
       split at h
       ·rename_i hck
        have c1:=Nat.eq_of_beq_eq_true hck
        subst c1
        split at h
        ·rename_i l hh' obs hlo hcut
         cases h
         intro hA
         obtain ⟨hA,heq⟩:=All.snoc (l:=e2.ob++obs) hA
         have wT:=hA.right
         have hA:=hA.left
         obtain ⟨h0,kv⟩:=nJ (C:=C) hv (q1 ▸ hA)
         refine ⟨h0,fun g a w S next Q hn=>?_⟩
         obtain ⟨g1,k1,S1,r1⟩:=kv g a w S
         have hvs:=oI hl r1
         have hle:=Ws hcut wT
         have hl0:l=0:=by
          rw [hlo] at hcut
          unfold mD at hcut
          split at hcut<;>first | (cases hcut;rfl) | (cases hcut;done) | (rename_i h1 _ _;cases h1;done) | skip
          all_goals simp_all
         subst hl0
         have Ti:aH C g1 e2.st a w:=q2 ▸ S1
         obtain ⟨v,T,T',hpv,hR,gy,dF,MF,kw,S2⟩:=Ti.take (Ht hp)
         obtain ⟨_,si,_⟩:=mW Ti hp
         have hv:v=a.eval x:=by rw [hpv] at si;exact Option.some.inj si
         subst hv
         obtain ⟨xs,A,hT,h1,h2,h3,how⟩:=nK hR
         have hfl:(es.take hh').flatMap V.cells=(es.flatMap V.cells).take (hh'*s):=GZ hh' h1
         obtain ⟨A1,A2,ZV,hd1,_⟩:=h2.cut (hh'*s)
         rw [← hfl] at hd1
         have hlen:hh'=(es.take hh').length:=by simp;omega
         have hfree:∀ b∈T,(g1.dH r.holder T').own b=none∧¬ g1.aL b∧(C.W.heap.size≤b∨C.Fz b)∧b < w.heap.size:=by
          intro b hb'
          obtain ⟨o1,o2⟩:=dF b hb'
          have:=Ti.own b _ o1
          refine ⟨?_,this.2.2,this.1,this.2.1⟩
          simp only [G.dH]
          rw [if_pos ⟨o1,o2⟩]
         have hres:∃ v',(execOp a.eval o).run P w=.ok (.value v') w∧w.ownsRow 0 el' s v' hh' (xs.take (hh'*s))∧v'.ownBlock=(a.eval x).ownBlock:=by
          have hxl:(xs.take (hh'*s)).length=hh'*s:=by
           rw [List.length_take,how.1]
           exact Nat.min_eq_left (Nat.mul_le_mul_right _ hle.2)
          rcases how.2 with ⟨hv0,hn0⟩ | ⟨b,cap,cur,hv0,hb0,hg,hnc,hcm,hcs,htk⟩
          ·have hh0:hh'=0:=by omega
           have agN:mD 0 lo.isSome hi.isSome vs=some (0,hh',obs):=(congrArg (fun n=>mD n lo.isSome hi.isSome vs) hn0).symm.trans hcut
           refine ⟨_,exec hv0 (Ca (n:=0) (cap:=0) w true (Nat.le_refl _) hvs agN wT),⟨hxl,.inl ⟨by subst hh0;simp,hh0⟩⟩,?_⟩
           rw [hv0];simp [Value.ownBlock]
          ·refine ⟨_,exec hv0 (Ca w true hnc hvs hcut wT),⟨hxl,.inr ⟨b,cap,cur,?_,hb0,hg,by omega,hcm,hcs,?_⟩⟩,?_⟩
           ·simp [Addr.add]
           ·rw [← htk,List.take_take,Nat.min_eq_left (Nat.mul_le_mul_right _ hle.2)]
           ·rw [hv0];simp [Value.ownBlock,Addr.add]
         obtain ⟨v',hrun,how',hblk⟩:=hres
         refine fq hrun ?_
         rw [hdd]
         have kL:aP g1.aL w v' (.row (some el') s es') (v'.ownBlock.toList++A1):=by
          rw [← heq]
          refine aP.own (fun e he=>h1 e (List.mem_of_mem_take he)) hd1 (fun u hu'=>h3 u (List.mem_of_mem_take hu')) ?_
          rw [← hlen];exact how'
         have hsub:∀ b∈v'.ownBlock.toList++A1,b∈T:=by
          intro b hb'
          rw [hT,ZV]
          rw [hblk] at hb'
          simp only [List.mem_append] at hb' ⊢
          rcases hb' with h | h
          ·exact .inl h
          ·exact .inr (.inl h)
         refine hn ((g1.dH r.holder T').put d (v'.ownBlock.toList++A1) fun _=>False) _ _ ?_ (fun _=>Calm.refl w)
         refine S2.r9 (row:=none) ⟨rfl,rfl,rfl,Nat.le_refl _,fun _ _ _=>rfl⟩ (by simp) hdN ?_ (fun b hb'=>hfree b (hsub b hb')) kL
         rw [hT,ZV] at gy
         rw [hblk]
         have h5:=List.nodup_append.1 gy
         exact List.nodup_append.2 ⟨h5.1,(List.nodup_append.1 h5.2.1).1,fun b hb' c hc'=>h5.2.2 b hb' c (by simp [hc'])⟩
        ·cases h
       ·cases h
      ·cases h
     ·cases h
    ·cases h
   ·cases h
  ·cases h
 ·cases h
end
theorem aM.pick {p:aW} {w:World}:∀ {vs:List Value} {ds:List V} {T:List Nat} {i:Nat} {u:V},aM p w vs ds T→ds[i]? = some u →
 ∃ v A B D,vs[i]? = some v∧T=A++(B++D)∧aP p w v u B∧aM p w vs (ds.set i .any) (A++D)
 | _,_,_,_,_,.nil,h=>by simp at h
 | _,_,_,0,u,.cons (v:=v) (A:=A) (B:=B) h1 h2,h=>by
  simp only [List.getElem?_cons_zero,Option.some.injEq] at h
  subst h
  exact ⟨v,[],A,B,rfl,rfl,h1,aM.cons (A:=[]) (.any _) h2⟩
 | _,_,_,i+1,u,.cons (v:=v) (A:=A') (B:=B') h1 h2,h=>by
  simp only [List.getElem?_cons_succ] at h
  obtain ⟨v',A,B,D,e1,e2,e3,e4⟩:=h2.pick h
  exact ⟨v',A'++A,B,D,by simpa using e1,by rw [e2];simp,e3,by rw [List.set_cons_succ,List.append_assoc];exact .cons h1 e4⟩
def G.split (g:G) (s d:Nat) (B R:List Nat):G :=
 { g with own:=fun b=>if b∈B then some (.inl d) else if g.own b=some (.inl d) then none else g.own b,TE:=fun t=>if t=d then B else if t=s then R else g.TE t }
section
variable {C:Ctx} {g:G} {st:St} {a:Act} {w:World}
theorem agO (s d:Nat) (y:X) (l:List (Nat × X)) (t:Nat) (ht:t≠d) (hs:t≠s) (x:X):look ((d,x) :: (s,y) :: kill (cK d) (kill (cK s) l)) t=(look l t).map (fun z=>(z.kill (cK s)).kill (cK d)):=by
 simp only [look,mQ]
 have h1:Nat.beq t d=false:=by cases h:Nat.beq t d with
  | true=>exact absurd (Nat.eq_of_beq_eq_true h) ht
  | false=>rfl
 have h2:Nat.beq t s=false:=by cases h:Nat.beq t s with
  | true=>exact absurd (Nat.eq_of_beq_eq_true h) hs
  | false=>rfl
 rw [h1,h2]
 simp [Option.map_map,Function.comp_def]
theorem aH.split (S:aH C g st a w) {s d i:Nat} (hsd:s≠d) (hd:d < C.N) {us:List V} {u:V} (hs:look st.env s=some (.d (.v (.aD us)))) (hi:us[i]? = some u) :
 ∃ (v:Value) (xs:List Value) (g':G),a.tmps.getD s undef=.tuple xs.toArray∧xs[i]? = some v∧aH C g' { st with env:=(d,.d (.v u)) :: (s,.d (.v (.aD (us.set i .any)))) :: kill (cK d) (kill (cK s) st.env) } (a.put (some d) v) w:=by
 obtain ⟨Gh,hsx,hso⟩:=S.env s _ hs
 obtain ⟨xs,hxs,hr⟩:=(aV.inv hsx).Wu
 obtain ⟨v,A,B,D,e1,e2,e3,e4⟩:=hr.pick hi
 have Gm:=S.nV s
 rw [e2] at Gm
 have hB:∀ b∈B,b∈g.TE s:=fun b hb=>by rw [e2];simp [hb]
 have hR:∀ b∈A++D,b∈g.TE s:=fun b hb=>by rw [e2];rcases List.mem_append.1 hb with h | h<;>simp [h]
 have hBR:∀ b∈A++D,b∉B:=fun b hb hb'=>by
  have h1:=List.nodup_append.1 Gm
  have h2:=List.nodup_append.1 h1.2.1
  rcases List.mem_append.1 hb with h | h
  ·exact h1.2.2 b h b (by simp [hb']) rfl
  ·exact h2.2.2 b hb' b h rfl
 refine ⟨v,xs,g.split s d B (A++D),hxs,e1,?_⟩
 have k:dI g (g.split s d B (A++D)) w w:=⟨fun b hb=>hb,Nat.le_refl _,fun _ _=>rfl,fun _ _=>rfl⟩
 refine S.change (fun h=>h=.inl s∨h=.inl d) S.defers ?_ rfl rfl rfl (Nat.le_refl _) (fun b hb=>hb) (fun b hb=>.inl hb) (fun b hb=>S.dM b hb) S.n (Nat.le_refl _) (fun _ _=>rfl) (fun _ _ _=>rfl) ?_ ?_ ?_ ?_ ?_ ?_ ?_ ?_
 ·simp [Act.jF,S.tmps]
 ·intro b h ho hc
  simp only [G.split]
  rw [if_neg (fun hb=>hc (.inl (by rw [hso b (hB b hb)] at ho;exact (Option.some.inj ho).symm))),if_neg (by rw [ho];intro e;exact hc (.inr (Option.some.inj e))),ho]
 ·intro t ht
  have h1:t≠d:=fun e=>ht (.inr (by rw [e]))
  have h2:t≠s:=fun e=>ht (.inl (by rw [e]))
  refine ⟨?_,by simp [G.split,h1,h2]⟩
  rw [Act.jF]
  simp only [Array.getElem?_setIfInBounds]
  rw [if_neg (fun e=>h1 e.symm)]
 ·intro i _;exact ⟨rfl,rfl⟩
 ·intro t y hy
  by_cases ht:t=d
  ·subst ht
   simp only [look,Nat.beq_refl] at hy
   cases hy
   refine .inr ⟨hd,?_,fun b hb=>?_⟩
   ·have e:(a.put (some t) v).tmps.getD t undef=v:=by
     rw [Act.jF,Array.getD_eq_getD_getElem?]
     simp [show t < a.tmps.size by rw [S.tmps];exact hd]
    rw [e,show (g.split s t B (A++D)).TE t=B by simp [G.split]]
    exact .v (e3.keep k.k (fun _ _=>rfl))
   ·have:b∈B:=by simpa [G.split] using hb
    simp [G.split,this]
  ·by_cases hts:t=s
   ·subst hts
    have h1:Nat.beq t d=false:=by cases h:Nat.beq t d with
     | true=>exact absurd (Nat.eq_of_beq_eq_true h) ht
     | false=>rfl
    simp only [look,h1,Nat.beq_refl] at hy
    cases hy
    refine .inr ⟨Gh,?_,fun b hb=>?_⟩
    ·have e:(a.put (some d) v).tmps.getD t undef=.tuple xs.toArray:=by
      rw [Act.jF,← hxs,Array.getD_eq_getD_getElem?,Array.getD_eq_getD_getElem?,Array.getElem?_setIfInBounds,if_neg (fun e=>ht e.symm)]
     rw [e,show (g.split t d B (A++D)).TE t=A++D by simp [G.split,ht]]
     exact .v (.aD (e4.keep k.k (fun _ _=>rfl)))
    ·have hb:b∈A++D:=by simpa [G.split,ht] using hb
     simp only [G.split]
     rw [if_neg (hBR b hb),hso b (hR b hb),if_neg (fun e=>hsd (by cases e;rfl))]
   ·rw [agO s d _ st.env t ht hts] at hy
    refine .inl ⟨fun e=>by rcases e with e | e<;>cases e<;>contradiction,?_⟩
    cases hl:look st.env t with
    | none=>rw [hl] at hy;cases hy
    | some z =>
     rw [hl] at hy
     simp only [Option.map_some,Option.some.injEq] at hy
     by_cases hdd:y=.dead
     ·exact .inr ⟨hdd,z,rfl⟩
     ·rcases X.iL (cK s) z with h | ⟨h,h2⟩
      ·rw [h] at hy;exact (hdd (by rw [← hy];rfl)).elim
      ·rw [h] at hy
       rcases X.iL (cK d) z with h3 | ⟨h3,h4⟩
       ·exact (hdd (by rw [← hy,h3])).elim
       ·rw [h3] at hy
        subst hy
        refine .inl ⟨rfl,fun r hr e=>?_⟩
        rcases e with e | e
        ·exact X.oF h hdd r hr e
        ·exact X.oF h3 hdd r hr e
 ·intro id b _ hc;rcases hc with hc | hc<;>cases hc
 ·intro t ht
  rcases ht with ht | ht<;>cases ht
  ·simp only [G.split];rw [if_neg hsd,if_pos trivial]
   have h1:=List.nodup_append.1 Gm
   have h2:=List.nodup_append.1 h1.2.1
   exact List.nodup_append.2 ⟨h1.1,h2.2.1,fun x hx y hy=>h1.2.2 x hx y (by simp [hy])⟩
  ·simp only [G.split,if_true]
   exact (List.nodup_append.1 (List.nodup_append.1 Gm).2.1).1
 ·intro i hi;rcases hi with hi | hi<;>cases hi
 ·intro b h ho
  simp only [G.split] at ho
  by_cases hb:b∈B
  ·exact .inr ⟨.inl ⟨_,hso b (hB b hb)⟩,(S.own b _ (hso b (hB b hb))).2.1,(S.own b _ (hso b (hB b hb))).2.2⟩
  ·rw [if_neg hb] at ho
   split at ho
   ·cases ho
   ·exact .inl ⟨ho,(S.own b h ho).2.2⟩
end
def G5 (N:Nat) (o:Oper) (x:Operand) (i:Nat) (e:E):Option E :=
 match dS N o with
 | none=>none
 | some d=>match x with
  | .tmp t=>match look e.st.env t with
   | some (.d (.v (.aD us)))=>match us[i]? with
    | some u=>match Nat.beq t d with
     | false=>some { e with st:={ e.st with env:=(d,.d (.v u)) :: (t,.d (.v (.aD (us.set i .any)))) :: kill (cK d) (kill (cK t) e.st.env) } }
     | true=>none
    | none=>none
   | _=>none
  | _=>none
def afZ (e:E) (x:Operand) (i:Nat):Bool:=match x with
 | .tmp t=>match look e.st.env t with
  | some (.d (.v (.aD us)))=>match us[i]? with
   | some (.row (some _) _ _)=>true
   | _=>false
  | _=>false
 | _=>false
theorem aaX {P:Program} {C:Ctx} {o:Oper} {x:Operand} {i:Nat} {e e':E} (ho:o.op=.extract x i) (h:G5 C.N o x i e=some e'):bC P C o e e':=by
 unfold G5 at h
 split at h
 ·cases h
 rename_i d hd
 obtain ⟨hdd,hdN⟩:=fC hd
 split at h
 ·rename_i t
  split at h
  ·rename_i us hl
   split at h
   ·rename_i u hu
    split at h
    ·rename_i hb
     cases h
     have htd:t≠d:=fun e=>by rw [e,Nat.beq_refl] at hb;cases hb
     refine fun hA=>⟨hA,fun g a w S next Q hn=>?_⟩
     obtain ⟨v,xs,g',h1,h2,S'⟩:=S.split htd hdN hl hu
     refine fq (v:=v) (w':=w) ?_ ?_
     ·unfold execOp
      simp only [ho,Act.eval,h1,Instr.extract,List.getElem?_toArray,h2,Sem.run_bind,Sem.run_pure,Result.andThen_ok]
     ·rw [hdd]
      exact hn _ _ _ S' (fun _=>Calm.refl w)
    ·cases h
   ·cases h
  ·cases h
 ·cases h
def Iz (P:Program) (N:Nat) (o:Oper) (t:TypeId) (x i:Operand) (e:E):Option E :=
 match dS N o with
 | none=>none
 | some d=>match P.underlying t with
  | some (.array k el)=>match fK P el,val i e with
   | some sz,some (.lit (.int _ n),e)=>match x with
    | .tmp s=>match look e.st.env s with
     | some (.d (.ptr id off))=>some { (need (n < (k:Int)) (need (0≤n) e)) with st:=e.st.put d (.d (.ptr id (off+n.toNat*sz))) }
     | _=>none
    | _=>none
   | _,_=>none
  | _=>none
theorem abG {P:Program} {C:Ctx} {o:Oper} {t:TypeId} {x i:Operand} {e e':E} (ho:o.op=.indexAddr t x i) (h:Iz P C.N o t x i e=some e'):bC P C o e e':=by
 unfold Iz at h
 split at h
 ·cases h
 rename_i d hd
 obtain ⟨hdd,hdN⟩:=fC hd
 split at h
 ·rename_i k el hu
  split at h
  ·rename_i sz k' n e1 hsz hv
   split at h
   ·rename_i s
    split at h
    ·rename_i id off hl
     cases h
     intro hA
     obtain ⟨hA,hb⟩:=All.snoc hA
     obtain ⟨hA,ha⟩:=All.snoc hA
     obtain ⟨h0,kv⟩:=val_ok (C:=C) hv hA
     refine ⟨h0,fun g a w S next Q hn=>?_⟩
     obtain ⟨g1,k1,S1,r1⟩:=kv g a w S
     have hi:a.eval i=.int k' n:=r1.jX
     obtain ⟨_,h2,_⟩:=S1.env s _ hl
     have h2:aV g1 w (a.tmps.getD s undef) (.ptr id off) (g1.TE s):=h2
     generalize hvv:a.tmps.getD s undef=v at h2
     generalize hT:g1.TE s=T at h2
     cases h2 with
     | ptr hid =>
      have hx:a.eval (.tmp s)=.pointer (some ⟨g1.loc id,off,none⟩):=hvv
      have hs2:(sizeOf el).run P w=.ok sz w:=by
       unfold fK at hsz
       cases hi2:P.info? el with
       | none=>rw [hi2] at hsz;cases hsz
       | some inf =>
        rw [hi2] at hsz
        cases hsz
        simp only [sizeOf,typeInfo,Sem.run_bind,run_program,Result.andThen_ok,hi2,Sem.run_pure]
      refine fq (v:=.pointer (some ⟨g1.loc id,off+n.toNat*sz,none⟩)) (w':=w) ?_ ?_
      ·unfold execOp
       simp only [ho,hx,hi,Instr.indexAt,asIntOf,Instr.sureAddr,Sem.run_bind,Sem.run_pure,Result.andThen_ok,run_underlying hu]
       rw [if_pos ⟨ha,hb⟩]
       simp only [Sem.run_bind,hs2,Result.andThen_ok,Sem.run_pure,Addr.add_mid]
      ·rw [hdd]
       exact hn _ _ _ (S1.iG (Calm.refl w) hdN (.ptr hid)) (fun _=>Calm.refl w)
    ·cases h
   ·cases h
  ·cases h
 ·cases h
theorem bZ.cut {g:G} {w:World}:∀ (n:Nat) {xs:List Value} {cs:List D} {T:List Nat},bZ g w xs cs T→∃ A B,T=A++B∧bZ g w (xs.take n) (cs.take n) A∧bZ g w (xs.drop n) (cs.drop n) B
 | 0,xs,cs,T,h=>⟨[],T,rfl,by simpa using bZ.nil,by simpa using h⟩
 | n+1,_,_,_,.nil=>⟨[],[],rfl,by simpa using bZ.nil,by simpa using bZ.nil⟩
 | n+1,_,_,_,.cons (A:=A) h1 h2=>by
  obtain ⟨A',B',rfl,h3,h4⟩:=h2.cut n
  exact ⟨A++A',B',by simp,by simpa using .cons h1 h3,by simpa using h4⟩
theorem bZ.app {g:G} {w:World}:∀ {vs us:List Value} {cs ds:List D} {A B:List Nat},bZ g w vs cs A→bZ g w us ds B→bZ g w (vs++us) (cs++ds) (A++B)
 | _,_,_,_,_,_,.nil,h=>h
 | _,_,_,_,_,_,.cons h1 h2,h=>by rw [List.append_assoc];exact .cons h1 (h2.app h)
theorem bZ.length {g:G} {w:World}:∀ {vs:List Value} {ds:List D} {T:List Nat},bZ g w vs ds T→vs.length=ds.length
 | _,_,_,.nil=>rfl
 | _,_,_,.cons _ h=>by simp [h.length]
def dv:List V→List D
 | []=>[]
 | u :: us=>.v u :: dv us
theorem yg:∀ {us:List V},(dv us).length=us.length
 | []=>rfl
 | u :: us=>by simp [dv,yg]
theorem aM.dv {g:G} {w:World}:∀ {vs:List Value} {us:List V} {T:List Nat},aM g.aL w vs us T→bZ g w vs (dv us) T
 | _,_,_,.nil=>.nil
 | _,_,_,.cons h1 h2=>.cons (.v h1) h2.dv
def jO:List D→Option (List V)
 | []=>some []
 | .v u :: ds=>match jO ds with
  | some us=>some (u :: us)
  | none=>none
 | _=>none
theorem um:∀ {ds:List D} {us:List V},jO ds=some us→ds=dv us
 | [],us,h=>by cases h;rfl
 | d :: ds,us,h=>by
  cases d with
  | v u =>
   simp only [jO] at h
   split at h
   ·rename_i vs hv
    cases h
    rw [um hv];rfl
   ·cases h
  | _=>simp [jO] at h
theorem bZ.jO {g:G} {w:World}:∀ {us:List V} {vs:List Value} {T:List Nat},bZ g w vs (dv us) T→aM g.aL w vs us T
 | [],vs,T,h=>by cases h;exact .nil
 | u :: us,vs,T,h=>by
  cases h with
  | cons h1 h2=>exact .cons h1.inv h2.jO
def G.gX (g:G) (l:Nat) (T:List Nat):G :=
 { g with own:=fun b=>if b∈l :: T then some (.inr g.n) else g.own b,n:=g.n+1,loc:=fun i=>if i=g.n then l else g.loc i,TB:=fun i=>if i=g.n then l :: T else g.TB i }
section
variable {P:Program} {C:Ctx} {g:G} {st:St} {a:Act} {w w':World}
theorem aH.newObj (S:aH C g st a w) (o:Obj) (bx:gH) (hB:∀ g1,dI g g1 w (w.alloc o)→kZ g1 (w.alloc o) w.heap.size bx [w.heap.size]) :
 aH C (g.gX w.heap.size []) { st with box:=st.box++[bx] } a (w.alloc o):=by
 have hk:∀ b,b < w.heap.size→(w.alloc o).heap[b]? = w.heap[b]?:=fun b hb=>Below.heap_alloc w _ b hb
 have aiJ:∀ b h,g.own b=some h→b≠w.heap.size:=fun b h ho e=>by have:=(S.own b h ho).2.1;omega
 have k:dI g (g.gX w.heap.size []) w (w.alloc o):=⟨fun _ h=>h,Nat.le_succ _,fun i hi=>by simp only [G.gX];rw [if_neg (by omega)],fun b hb=>hk b (S.dM b hb)⟩
 refine S.change (fun h=>h=.inr g.n) S.defers S.tmps rfl rfl rfl (by simp) (fun _ h=>h) (fun _ h=>.inl h) (fun b hb=>by have:=S.dM b hb;simp;omega) (by simp [G.gX,S.n]) (Nat.le_succ _) k.loc (fun b hb _=>hk b hb) ?_ ?_ ?_ ?_ ?_ ?_ ?_ ?_
 ·intro b h ho hc
  simp only [G.gX]
  rw [if_neg (by simp;exact aiJ b h ho),ho]
 ·intro t ht;exact ⟨rfl,rfl⟩
 ·intro i hi
  have hi':i≠g.n:=fun e=>hi (by rw [e])
  refine ⟨by simp only [G.gX];rw [if_neg hi'],?_⟩
  rcases Nat.lt_or_ge i st.box.length with h | h
  ·rw [List.getElem?_append_left h]
  ·rw [List.getElem?_append_right h,List.getElem?_eq_none h]
   have:i - st.box.length≠0:=by rw [S.n] at hi';omega
   simp [this]
 ·intro t x hx
  obtain ⟨h1,h2,h3⟩:=S.env t x hx
  by_cases hr:∃ h,x.fV=some h∧h=.inr g.n
  ·obtain ⟨h,hh,rfl⟩:=hr
   exfalso
   cases x with
   | al p =>
    simp only [X.fV,Option.some.injEq] at hh
    obtain ⟨_,hp⟩:=h2
    cases p with
    | top r =>
     cases r with
     | t y=>simp [Pl.root,Root.holder] at hh
     | b i c =>
      simp only [Pl.root,Root.holder,Sum.inr.injEq] at hh
      simp only [pv,dW] at hp
      rw [if_neg (by omega)] at hp;cases hp
    | iY r sz i j =>
     cases r with
     | t y=>simp [Pl.root,Root.holder] at hh
     | b i c =>
      simp only [Pl.root,Root.holder,Sum.inr.injEq] at hh
      simp only [pv,dW] at hp
      rw [if_neg (by omega)] at hp;cases hp
   | pa r sz i j =>
    simp only [X.fV,Option.some.injEq] at hh
    obtain ⟨_,b,hp,_⟩:=h2
    cases r with
    | t y=>simp [Root.holder] at hh
    | b i c =>
     simp only [Root.holder,Sum.inr.injEq] at hh
     simp only [dW] at hp
     rw [if_neg (by omega)] at hp;cases hp
   | d d=>simp [X.fV] at hh
   | dead=>simp [X.fV] at hh
  ·exact .inl ⟨(fun e=>by cases e),.inl ⟨hx,fun h hh e=>hr ⟨h,hh,e⟩⟩⟩
 ·intro id b hb hc
  cases hc
  have hid:g.n=st.box.length:=S.n
  rw [hid,List.getElem?_append_right (Nat.le_refl _)] at hb
  simp only [Nat.sub_self,List.getElem?_cons_zero,Option.some.injEq] at hb
  subst hb
  have e1:(g.gX w.heap.size []).loc g.n=w.heap.size:=by simp [G.gX]
  have e2:(g.gX w.heap.size []).TB g.n=[w.heap.size]:=by simp [G.gX]
  rw [e1,e2]
  refine ⟨hB _ k,fun b hb=>?_⟩
  ·simp only [List.mem_singleton] at hb
   subst hb
   simp [G.gX]
 ·intro t ht;cases ht
 ·intro i hi;cases hi;simp [G.gX]
 ·intro b h ho
  simp only [G.gX] at ho
  by_cases hb:b∈[w.heap.size]
  ·simp only [List.mem_singleton] at hb
   subst hb
   exact .inr ⟨.inr (.inl (Nat.le_refl _)),by simp,fun hp=>by have:=S.dM _ hp;omega⟩
  ·rw [if_neg hb] at ho
   exact .inl ⟨ho,(S.own b h ho).2.2⟩
theorem aH.af0 (S:aH C g st a w) {cur:Array Value} {e:TypeId} {cs:List D} (hr:bZ g w cur.toList cs []) (h1:∀ u∈cur.toList,u.oneCell'=true) :
 aH C (g.gX w.heap.size []) { st with box:=st.box++[.cells cs] } a (w.alloc (.cells cur e)) :=
 S.newObj _ _ fun g1 k=>⟨cur,e,[],rfl,(by show (w.heap.push _)[w.heap.size]? = _;rw [Array.getElem?_push_size]),hr.keep k (fun _ h=>by cases h),h1⟩
def St.MH (st:St) (cs:List V):St:={ st with box:=st.box++[gH.cells (dv cs)] }
theorem bC.box {o:Oper} {e e1:E} {d:Nat} {cs:List V} (hd:dS C.N o=some d) (h1:All e1.ob→All e.ob) (hf:ic cs=true)
 (hrun:All e1.ob→∀ g a w,aH C g e.st a w→∃ g' cur el,aH C g' e1.st a w∧(execOp a.eval o).run P w=.ok (.value (.pointer (some ⟨w.heap.size,0,none⟩))) (w.alloc (.cells cur el))∧aM g'.aL w cur.toList cs []) :
 bC P C o e { e1 with st:=(e1.st.MH cs).put d (.d (.ptr e1.st.box.length 0)) }:=by
 intro hA
 obtain ⟨zX,hdN⟩:=fC hd
 refine ⟨h1 hA,fun g a w S next Q hn=>?_⟩
 obtain ⟨g',cur,el,S',hr,hx⟩:=hrun hA g a w S
 refine fq hr ?_
 rw [zX]
 have S2:=S'.af0 (e:=el) hx.dv (hx.one hf)
 refine hn _ _ _ (S2.iG (Calm.refl _) hdN ?_) (fun _=>Calm.alloc w _)
 have:aV (g'.gX w.heap.size []) (w.alloc (.cells cur el)) (.pointer (some ⟨(g'.gX w.heap.size []).loc g'.n,0,none⟩)) (.ptr g'.n 0) []:=.ptr (by simp [G.gX])
 have e1:(g'.gX w.heap.size []).loc g'.n=w.heap.size:=by simp [G.gX]
 rw [e1] at this
 rw [← S'.n]
 exact this
def J8 (P:Program) (N:Nat) (o:Oper) (t:TypeId) (x:Operand) (e:E):Option E :=
 match dS N o with
 | none=>none
 | some d=>match val x e with
  | some (u,e)=>match u.qA with
   | true=>some { e with st:=(e.st.MH u.cells).put d (.d (.ptr e.st.box.length 0)) }
   | false=>none
  | none=>none
theorem adT {o:Oper} {t:TypeId} {x:Operand} {e e':E} (ho:o.op=.box t x) (h:J8 P C.N o t x e=some e'):bC P C o e e':=by
 unfold J8 at h
 split at h
 ·cases h
 rename_i d hd
 split at h
 ·rename_i u e1 hv
  split at h
  ·rename_i hf
   cases h
   have hf1:ic u.cells=true:=by
    cases u with
    | agg cs=>exact hf
    | _=>simp only [V.cells,ic];simp only [V.qA] at hf;rw [hf]
   refine bC.box hd (fun hA=>(val_ok (C:=C) hv hA).1) hf1 fun hA g a w S=>?_
   obtain ⟨g1,k1,S1,r1⟩:=(val_ok (C:=C) hv hA).2 g a w S
   refine ⟨g1,(a.eval x).cells,t,S1,?_,(r1.flat hf).1⟩
   unfold execOp
   simp only [ho,Instr.box,newVar,newRow,Sem.run_bind,run_newObj,Result.andThen_ok,Sem.run_pure,World.alloc_eq]
  ·cases h
 ·cases h
def Jd (P:Program) (N:Nat) (o:Oper) (t:TypeId) (e:E):Option E :=
 match dS N o with
 | none=>none
 | some d=>match zeroV P t with
  | some zs=>some { e with st:=(e.st.MH zs).put d (.d (.ptr e.st.box.length 0)) }
  | none=>none
theorem acd {o:Oper} {t:TypeId} {e e':E} (ho:o.op=.alloc t) (h:Jd P C.N o t e=some e'):bC P C o e e':=by
 unfold Jd at h
 split at h
 ·cases h
 rename_i d hd
 split at h
 ·rename_i zs hz
  cases h
  obtain ⟨i,z,hi,hzv,h1,hr⟩:=yo hz
  refine bC.box hd id h1 fun hA g a w S=>⟨g,z.cells,t,S,?_,hr g.aL w⟩
  unfold execOp
  simp only [ho,Instr.alloc,zeroValue,typeInfo,run_program,hi,hzv,newVar,newRow,Sem.run_bind,run_newObj,Result.andThen_ok,Sem.run_pure,World.alloc_eq]
 ·cases h
inductive agP where
 | v (u:V)
 | d (x:D)
 | own
def uA (P:Program) (t:TypeId) (cs:List D):Option agP:=match rZ P t with
 | some true=>match fK P t with
  | some n=>match Nat.ble n cs.length with
   | true=>match jO (cs.take n) with
    | some us=>match V.bI.go us with
     | true=>some (.v (.agg us))
     | false=>none
    | none=>none
   | false=>none
  | none=>none
 | some false=>match cs with
  | c :: _=>match c with
   | .v (.row (some _) _ _)=>some .own
   | .v (.agg _)=>none
   | .agg _=>none
   | c=>match c.bI with
    | true=>some (.d c)
    | false=>none
  | []=>none
 | none=>none
def Je (P:Program) (N:Nat) (o:Oper) (t:TypeId) (s:Nat) (e:E):Option E :=
 match dS N o with
 | none=>none
 | some d=>match look e.st.env s with
  | some (.d (.ptr id off))=>match e.st.box[id]? with
   | some (.cells cs)=>match uA P t (cs.drop off) with
    | some (.v u)=>some (e.put d u)
    | some (.d x)=>some { e with st:=e.st.put d (.d x) }
    | some .own=>some { e with st:=e.st.put d (.al (.top (.b id off))) }
    | none=>none
   | _=>none
  | _=>none
theorem BM {w:World} {t:TypeId} {b o n:Nat} {xs:List Value} (ht:rZ P t=some true) (hn:fK P t=some n) (hr:w.rangeAt b o xs) (hl:n≤xs.length) :
 (Instr.loadAt t (.pointer (some ⟨b,o,none⟩))).run P w=.ok (.agg (xs.take n).toArray) w:=by
 have hg:=qh ht w
 unfold fK at hn
 cases hi:P.info? t with
 | none=>rw [hi] at hn;cases hn
 | some i =>
  rw [hi] at hn
  cases hn
  have hc:=run_loadCells_list (P:=P) w ⟨b,o,none⟩ (xs.take i.size) (fun j v hj=>by
   rw [Addr.add_mid]
   exact hr j v (by rw [List.getElem?_take] at hj;split at hj;exact hj;cases hj))
  have hl':(xs.take i.size).length=i.size:=by rw [List.length_take];omega
  rw [hl'] at hc
  simp only [Instr.loadAt,Instr.sureAddr,loadVar,Sem.run_bind,Sem.run_pure,Result.andThen_ok,hg,if_true,sizeOf,typeInfo,run_program,hi,hc]
theorem GM {w:World} {t:TypeId} {b o:Nat} {v:Value} (ht:rZ P t=some false) (hc:w.cell? ⟨b,o,none⟩=some v):(Instr.loadAt t (.pointer (some ⟨b,o,none⟩))).run P w=.ok v w:=by
 have hg:=qh ht w
 simp only [Instr.loadAt,Instr.sureAddr,loadVar,Sem.run_bind,Sem.run_pure,Result.andThen_ok,hg,Bool.false_eq_true,if_false,run_load,hc]
theorem ace {o:Oper} {t:TypeId} {s:Nat} {e e':E} (ho:o.op=.load t (.tmp s)) (h:Je P C.N o t s e=some e'):bC P C o e e':=by
 unfold Je at h
 split at h
 ·cases h
 rename_i d hd
 obtain ⟨hdd,hdN⟩:=fC hd
 split at h
 ·rename_i id off hl
  split at h
  ·rename_i cs hb
   have facts:∀ g a w,aH C g e.st a w→∃ cur:List Value,a.eval (.tmp s)=.pointer (some ⟨g.loc id,off,none⟩)∧w.rangeAt (g.loc id) off (cur.drop off)∧(∃ B,bZ g w (cur.drop off) (cs.drop off) B)∧id < g.n∧g.own (g.loc id)=some (.inr id):=by
    intro g a w S
    obtain ⟨_,h2,_⟩:=S.env s _ hl
    have h2:aV g w (a.tmps.getD s undef) (.ptr id off) (g.TE s):=h2
    obtain ⟨⟨cur,el,A,hT,hh,hr,h1⟩,hown⟩:=S.box id _ hb
    obtain ⟨A1,B1,_,_,hd2⟩:=hr.cut off
    refine ⟨cur.toList,?_,fun j v hj=>?_,⟨_,hd2⟩,?_,hown _ (by rw [hT];simp)⟩
    ·show a.tmps.getD s undef=_
     generalize a.tmps.getD s undef=v at h2
     generalize g.TE s=T at h2
     cases h2
     rfl
    ·rw [List.getElem?_drop] at hj
     simp only [World.cell?,hh]
     simpa using hj
    ·rw [S.n]
     rcases Nat.lt_or_ge id e.st.box.length with h | h
     ·exact h
     ·rw [List.getElem?_eq_none h] at hb;cases hb
   have exec:∀ {a:Act} {w:World} {b q:Nat} {v:Value},a.eval (.tmp s)=.pointer (some ⟨b,q,none⟩)→(Instr.loadAt t (.pointer (some ⟨b,q,none⟩))).run P w=.ok v w→(execOp a.eval o).run P w=.ok (.value v) w:=by
    intro a w b q v hx hr
    unfold execOp
    simp only [ho,hx,Sem.run_bind,hr,Result.andThen_ok,Sem.run_pure]
   split at h
   ·rename_i u hp
    cases h
    refine bC.vv hd (fun h=>h) fun _ g a w S=>?_
    obtain ⟨cur,hx,hrg,⟨B,hrep⟩,_⟩:=facts g a w S
    unfold uA at hp
    split at hp
    ·rename_i ht
     split at hp
     ·rename_i n hn
      split at hp
      ·rename_i hle
       have hle:=Nat.le_of_ble_eq_true hle
       split at hp
       ·rename_i us qM
        split at hp
        ·rename_i hno
         cases hp
         obtain ⟨A2,B2,_,h3,_⟩:=hrep.cut n
         rw [um qM] at h3
         have h4:=h3.jO
         have hA2:=h4.bI hno
         subst hA2
         refine ⟨_,g,S,exec hx (BM ht hn hrg (by rw [hrep.length];exact hle)),.agg h4⟩
        ·cases hp
       ·cases hp
      ·cases hp
     ·cases hp
    ·split at hp
     ·split at hp
      ·cases hp
      ·cases hp
      ·cases hp
      ·split at hp<;>cases hp
     ·cases hp
    ·cases hp
   ·rename_i x hp
    cases h
    refine fun hA=>⟨hA,fun g a w S next Q hn=>?_⟩
    obtain ⟨cur,hx,hrg,⟨B,hrep⟩,_⟩:=facts g a w S
    unfold uA at hp
    split at hp
    ·split at hp
     ·split at hp
      ·split at hp
       ·split at hp<;>cases hp
       ·cases hp
      ·cases hp
     ·cases hp
    ·rename_i ht
     split at hp
     ·rename_i c cs' hcs
      split at hp
      ·cases hp
      ·cases hp
      ·cases hp
      ·split at hp
       ·rename_i hno
        cases hp
        rw [hcs] at hrep
        generalize hys:cur.drop off=ys at hrep hrg
        cases hrep with
        | @cons v _ vs _ A2 B2 r1 r2 =>
         have hA2:=r1.bI hno
         subst hA2
         have hc:=hrg 0 v rfl
         rw [Nat.add_zero] at hc
         refine fq (exec hx (GM ht hc)) ?_
         rw [hdd]
         exact hn _ _ _ (S.iG (Calm.refl w) hdN r1) (fun _=>Calm.refl w)
       ·cases hp
     ·cases hp
    ·cases hp
   ·rename_i hp
    cases h
    have hkx:(X.al (.top (.b id off))).kill (cK d)=.al (.top (.b id off)):=rfl
    refine bC.xa hd (fun h=>h) hkx (by simp) (by simp) fun _ g a w S=>?_
    obtain ⟨cur,hx,hrg,⟨B,hrep⟩,hid,hown⟩:=facts g a w S
    unfold uA at hp
    split at hp
    ·split at hp
     ·split at hp
      ·split at hp
       ·split at hp<;>cases hp
       ·cases hp
      ·cases hp
     ·cases hp
    ·rename_i ht
     split at hp
     ·rename_i c cs' hcs
      rw [hcs] at hrep
      generalize hys:cur.drop off=ys at hrep hrg
      cases hrep with
      | @cons v _ vs _ A2 B2 r1 r2 =>
       have hc:=hrg 0 v rfl
       rw [Nat.add_zero] at hc
       refine ⟨v,g,S,exec hx (GM ht hc),rfl,?_⟩
       simp only [pv,dW]
       rw [if_pos ⟨hid,hown⟩]
       exact hc
     ·cases hp
    ·cases hp
   ·cases h
  ·cases h
 ·cases h
end
section
variable {P:Program} {C:Ctx} {g:G} {st:St} {a:Act} {w w':World}
def z8 (id:Nat):Root→Bool
 | .b i _=>Nat.beq i id
 | _=>false
def G.unbox (g:G) (id d:Nat) (A:List Nat):G :=
 { g with own:=fun b=>if b∈A then some (.inl d) else if g.own b=some (.inl d) then none else if g.own b=some (.inr id) then none else g.own b,TE:=fun t=>if t=d then A else g.TE t,TB:=fun i=>if i=id then [] else g.TB i }
theorem aH.unbox (S:aH C g st a w) {id d:Nat} (hd:d < C.N) {cs:List D} (hb:st.box[id]? = some (.cells cs)) {v:Value} {x:D} {A:List Nat} (hT:g.TB id=g.loc id :: A) (hr:aV g w v x A) :
 aH C (g.unbox id d A) { env:=(d,.d x) :: kill (cK d) (kill (z8 id) st.env),box:=st.box.set id .gone } (a.put (some d) v) w:=by
 obtain ⟨hB,hBo⟩:=S.box id _ hb
 have mJ:∀ b∈A,g.own b=some (.inr id):=fun b hb=>hBo b (by rw [hT];exact List.mem_cons_of_mem _ hb)
 have hlt:id < st.box.length:=(List.getElem?_eq_some_iff.1 hb).1
 have k:dI g (g.unbox id d A) w w:=⟨fun b hb=>hb,Nat.le_refl _,fun _ _=>rfl,fun _ _=>rfl⟩
 refine S.change (fun h=>h=.inr id∨h=.inl d) S.defers ?_ rfl rfl rfl (Nat.le_refl _) (fun b hb=>hb) (fun b hb=>.inl hb) (fun b hb=>S.dM b hb) ?_ (Nat.le_refl _) (fun _ _=>rfl) (fun _ _ _=>rfl) ?_ ?_ ?_ ?_ ?_ ?_ ?_ ?_
 ·simp [Act.jF,S.tmps]
 ·show g.n=(st.box.set id .gone).length
  rw [List.length_set];exact S.n
 ·intro b h ho hc
  simp only [G.unbox]
  rw [if_neg (fun hb=>hc (.inl (by rw [mJ b hb] at ho;exact (Option.some.inj ho).symm))),if_neg (by rw [ho];intro e;exact hc (.inr (Option.some.inj e))),if_neg (by rw [ho];intro e;exact hc (.inl (Option.some.inj e))),ho]
 ·intro t ht
  have h1:t≠d:=fun e=>ht (.inr (by rw [e]))
  refine ⟨?_,by simp [G.unbox,h1]⟩
  rw [Act.jF]
  simp only [Array.getElem?_setIfInBounds]
  rw [if_neg (fun e=>h1 e.symm)]
 ·intro i hi
  have h1:i≠id:=fun e=>hi (.inl (by rw [e]))
  refine ⟨by simp [G.unbox,h1],?_⟩
  exact List.getElem?_set_ne (fun e=>h1 e.symm)
 ·intro t y hy
  by_cases ht:t=d
  ·subst ht
   simp only [look,Nat.beq_refl] at hy
   cases hy
   refine .inr ⟨hd,?_,fun b hb=>?_⟩
   ·have e:(a.put (some t) v).tmps.getD t undef=v:=by
     rw [Act.jF,Array.getD_eq_getD_getElem?]
     simp [show t < a.tmps.size by rw [S.tmps];exact hd]
    rw [e,show (g.unbox id t A).TE t=A by simp [G.unbox]]
    exact aV.keep k hr (fun _ _=>rfl)
   ·have:b∈A:=by simpa [G.unbox] using hb
    simp [G.unbox,this]
  ·have h1:Nat.beq t d=false:=by cases h:Nat.beq t d with
    | true=>exact absurd (Nat.eq_of_beq_eq_true h) ht
    | false=>rfl
   simp only [look,h1,mQ,Option.map_map] at hy
   refine .inl ⟨fun e=>by rcases e with e | e<;>cases e;contradiction,?_⟩
   cases hl:look st.env t with
   | none=>rw [hl] at hy;cases hy
   | some z =>
    rw [hl] at hy
    simp only [Option.map_some,Option.some.injEq,Function.comp] at hy
    by_cases hdd:y=.dead
    ·exact .inr ⟨hdd,z,rfl⟩
    ·rcases X.iL (z8 id) z with h | ⟨h,h2⟩
     ·rw [h] at hy;exact (hdd (by rw [← hy];rfl)).elim
     ·rw [h] at hy
      rcases X.iL (cK d) z with h3 | ⟨h3,h4⟩
      ·exact (hdd (by rw [← hy,h3])).elim
      ·rw [h3] at hy
       subst hy
       refine .inl ⟨rfl,fun r hr e=>?_⟩
       rcases e with e | e
       ·subst e
        cases z with
        | al p =>
         simp only [X.fV,Option.some.injEq] at hr
         cases hp:p.root with
         | t q=>rw [hp] at hr;cases hr
         | b i c =>
          rw [hp] at hr
          simp only [Root.holder,Sum.inr.injEq] at hr
          simp only at h2
          rw [hp,hr] at h2
          simp [z8] at h2
        | pa q _ _ _ =>
         simp only [X.fV,Option.some.injEq] at hr
         cases q with
         | t q=>cases hr
         | b i c =>
          simp only [Root.holder,Sum.inr.injEq] at hr
          simp only at h2
          rw [hr] at h2
          simp [z8] at h2
        | d _=>cases hr
        | dead=>cases hr
       ·exact X.oF h3 hdd r hr e
 ·intro i b hb' hc
  rcases hc with hc | hc<;>cases hc
  rw [List.getElem?_set_self hlt] at hb'
  cases hb'
  refine ⟨by simp [kZ,G.unbox],fun b hb=>by simp [G.unbox] at hb⟩
 ·intro t ht
  rcases ht with ht | ht<;>cases ht
  have:=S.mr id
  rw [hT] at this
  simpa [G.unbox] using (List.nodup_cons.1 this).2
 ·intro i hi
  rcases hi with hi | hi<;>cases hi
  simp [G.unbox]
 ·intro b h ho
  simp only [G.unbox] at ho
  by_cases hb:b∈A
  ·exact .inr ⟨.inl ⟨_,mJ b hb⟩,(S.own b _ (mJ b hb)).2.1,(S.own b _ (mJ b hb)).2.2⟩
  ·rw [if_neg hb] at ho
   split at ho
   ·cases ho
   ·split at ho
    ·cases ho
    ·exact .inl ⟨ho,(S.own b h ho).2.2⟩
def Jf (P:Program) (N:Nat) (o:Oper) (t:TypeId) (s:Nat) (e:E):Option E :=
 match dS N o with
 | none=>none
 | some d=>match look e.st.env s with
  | some (.d (.ptr id off))=>match Nat.beq off 0 with
   | true=>match e.st.box[id]? with
    | some (.cells cs)=>match rZ P t with
     | some true=>match fK P t with
      | some n=>match Nat.beq n cs.length with
       | true=>match jO cs with
        | some us=>some { e with st:={ env:=(d,.d (.v (.agg us))) :: kill (cK d) (kill (z8 id) e.st.env),box:=e.st.box.set id .gone } }
        | none=>none
       | false=>none
      | none=>none
     | _=>none
    | _=>none
   | false=>none
  | _=>none
theorem acf {o:Oper} {t:TypeId} {s:Nat} {e e':E} (ho:o.op=.load t (.tmp s)) (h:Jf P C.N o t s e=some e'):bC P C o e e':=by
 unfold Jf at h
 split at h
 ·cases h
 rename_i d hd
 obtain ⟨hdd,hdN⟩:=fC hd
 split at h
 ·rename_i id off hl
  split at h
  ·rename_i hoff
   have hoff:=Nat.eq_of_beq_eq_true hoff
   subst hoff
   split at h
   ·rename_i cs hb
    split at h
    ·rename_i ht
     split at h
     ·rename_i n hn
      split at h
      ·rename_i hnl
       have hnl:=Nat.eq_of_beq_eq_true hnl
       split at h
       ·rename_i us qM
        cases h
        refine fun hA=>⟨hA,fun g a w S next Q hnx=>?_⟩
        obtain ⟨_,h2,_⟩:=S.env s _ hl
        have h2:aV g w (a.tmps.getD s undef) (.ptr id 0) (g.TE s):=h2
        obtain ⟨⟨cur,el,A,hT,hh,hr,h1⟩,hown⟩:=S.box id _ hb
        have hx:a.eval (.tmp s)=.pointer (some ⟨g.loc id,0,none⟩):=by
         show a.tmps.getD s undef=_
         generalize a.tmps.getD s undef=v at h2
         generalize g.TE s=T at h2
         cases h2
         rfl
        have hrg:w.rangeAt (g.loc id) 0 cur.toList:=fun j v hj=>by
         simp only [World.cell?,hh]
         simpa using hj
        have hlen:=hr.length
        have hload:=BM (P:=P) ht hn hrg (by omega)
        rw [List.take_of_length_le (by omega)] at hload
        have run:(execOp a.eval o).run P w=.ok (.value (.agg cur.toList.toArray)) w:=by
         unfold execOp
         simp only [ho,hx,Sem.run_bind,hload,Result.andThen_ok,Sem.run_pure]
        refine fq run ?_
        rw [hdd]
        rw [um qM] at hr
        exact hnx _ _ _ (S.unbox hdN hb hT (.v (.agg hr.jO))) (fun _=>Calm.refl w)
       ·cases h
      ·cases h
     ·cases h
    ·cases h
   ·cases h
  ·cases h
 ·cases h
end
def IA (P:Program) (N:Nat) (o:Oper) (t:TypeId) (x:Operand) (e:E):Option E :=
 match dS N o with
 | none=>none
 | some d=>match P.underlying t with
  | some (.array n el)=>match fK P el,vals [x] e with
   | some sz,some ([.pt cs],e1)=>match hint e1 with
    | some (.row none _ es,e2)=>match Nat.beq es.length n with
     | true=>some ((need (es.all (fun y=>Nat.beq y.cells.length sz)=true) (need (es.flatMap V.cells=cs) e2)).put d (.row none sz es))
     | false=>none
    | _=>none
   | _,_=>none
  | _=>none
theorem af1 {p:aW} {w:World} {v:Value} {cs:List V} {T:List Nat} (h:aP p w v (.pt cs) T):∃ b of xs,v=.pointer (some ⟨b,of,none⟩)∧aM p w xs cs []∧(∀ u∈xs,u.oneCell'=true)∧p b∧∀ j u,xs[j]? = some u→w.cell? ⟨b,of+j,none⟩=some u:=by
 cases h with
 | pt a b c d=>exact ⟨_,_,_,rfl,a,b,c,d⟩
theorem abH {P:Program} {C:Ctx} {o:Oper} {t:TypeId} {x:Operand} {e e':E} (ho:o.op=.slice t x none none none) (h:IA P C.N o t x e=some e'):bC P C o e e':=by
 unfold IA at h
 split at h
 ·cases h
 rename_i d hd
 split at h
 ·rename_i n el hu2
  ·split at h
   ·rename_i sz cs e1 hsz hv
    split at h
    ·rename_i iQ es e2 hh
     split at h
     ·rename_i hn
      have hn:=Nat.eq_of_beq_eq_true hn
      cases h
      obtain ⟨q1,q2⟩:=gW hh
      have key:∀ {A:Prop} {B:Prop},All (need A (need B e2)).ob→All e1.ob∧B∧A:=fun hA=>by
       obtain ⟨hA,ha⟩:=All.snoc hA
       obtain ⟨hA,hb⟩:=All.snoc hA
       exact ⟨q1 ▸ hA,hb,ha⟩
      refine bC.vw hd hv (by show St.put e2.st d _=_;rw [q2]) (fun hA=>(key hA).1) fun hA ρ w p hr=>?_
      obtain ⟨_,hfl,hal⟩:=key hA
      simp only [List.map_cons,List.map_nil] at hr
      have hx:∃ b of xs,ρ x=.pointer (some ⟨b,of,none⟩)∧aM p w xs cs []∧(∀ u∈xs,u.oneCell'=true)∧p b∧∀ j u,xs[j]? = some u→w.cell? ⟨b,of+j,none⟩=some u:=by
       obtain ⟨v,vs,hvs,r1,_⟩:=hr.cons_inv
       have hx:ρ x=v:=(List.cons.inj hvs).1
       rw [hx]
       exact af1 r1
      obtain ⟨b,of,xs,hx,r1,r2,r3,r4⟩:=hx
      have hs2:(sizeOf el).run P w=.ok sz w:=by
       unfold fK at hsz
       cases hi2:P.info? el with
       | none=>rw [hi2] at hsz;cases hsz
       | some inf =>
        rw [hi2] at hsz
        cases hsz
        simp only [sizeOf,typeInfo,Sem.run_bind,run_program,Result.andThen_ok,hi2,Sem.run_pure]
      refine ⟨.slice (some ⟨b,of,none⟩) es.length es.length,?_,.shared (Nat.le_refl _) (fun y hy=>Nat.eq_of_beq_eq_true (List.all_eq_true.1 hal y hy)) (by rw [hfl];exact r1) r2 (fun j u hj=>⟨b,of,rfl,r3,r4 j u hj⟩)⟩
      unfold execOp
      subst hn
      simp only [ho,hx,Instr.sliceAt,Instr.slice,Sem.run_bind,run_underlying hu2,Option.map_none,Result.andThen_ok,Instr.sureAddr,Instr.sliceBounds,Sem.run_pure,hs2,Nat.zero_mul,Nat.sub_zero,Addr.add_mid,Nat.add_zero,ite_self]
     ·cases h
    ·cases h
   ·cases h
 ·cases h
def pR (t:Option Nat) (l:List (Nat × X)):List (Nat × X):=match t with
 | none=>l
 | some t=>(t,.dead) :: kill (cK t) l
def G.ng (g:G) (id:Nat) (t:Option Nat) (T:List Nat):G :=
 { g with own:=fun b=>if b∈T then some (.inr id) else if g.own b=some (.inr id) then none else match t with
            | some t=>if g.own b=some (.inl t) then none else g.own b
            | none=>g.own b,
          TE:=fun s=>match t with
            | some t=>if s=t then [] else g.TE s
            | none=>g.TE s,
          TB:=fun i=>if i=id then T else g.TB i }
def St.nN (st:St) (id:Nat) (t:Option Nat) (cs:List D):St:={ env:=kill (jw id) (pR t st.env),box:=st.box.set id (.cells cs) }
section
variable {P:Program} {C:Ctx} {g:G} {st:St} {a:Act} {w w':World}
theorem aH.nN (S:aH C g st a w) {id:Nat} {t:Option Nat} {cs cs':List D} {cur cur':Array Value} {el:TypeId} {A A':List Nat} (hb:st.box[id]? = some (.cells cs)) (hT:g.TB id=g.loc id :: A)
 (hh:w.heap[g.loc id]? = some (.cells cur el (0,0))) (hg:w'.heap[g.loc id]? = some (.cells cur' el (0,0))) (ho:w'.os=w.os) (htp:w'.tape=w.tape) (hou:w'.output=w.output) (hsz:w'.heap.size=w.heap.size)
 (hoth:∀ b,b≠g.loc id→w'.heap[b]? = w.heap[b]?) (hr:bZ g w cur'.toList cs' A') (h1:∀ u∈cur'.toList,u.oneCell'=true) (hn:(g.loc id :: A').Nodup)
 (hA:∀ b∈A',b∈A∨∃ q,t=some q∧g.own b=some (.inl q)) (Bj:∀ q,t=some q→q < C.N) :
 aH C (g.ng id t (g.loc id :: A')) (st.nN id t cs') a w':=by
 have hid:id < st.box.length:=by
  rcases Nat.lt_or_ge id st.box.length with h | h
  ·exact h
  ·rw [List.getElem?_eq_none h] at hb;cases hb
 have hown:∀ b∈g.TB id,g.own b=some (.inr id):=(S.box id _ hb).2
 have hlo:g.own (g.loc id)=some (.inr id):=hown _ (by rw [hT];simp)
 have mJ:∀ b∈A',g.own b=some (.inr id)∨∃ q,t=some q∧g.own b=some (.inl q):=fun b hb'=>(hA b hb').imp (fun h=>hown b (by rw [hT];simp [h])) (fun h=>h)
 have hne:∀ b∈A',b≠g.loc id:=fun b hb' e=>(List.nodup_cons.1 hn).1 (e ▸ hb')
 let ib:Nat ⊕ Nat→Prop:=fun h=>h=.inr id∨∃ q,t=some q∧h=.inl q
 have CZ:∀ b h,g.own b=some h→¬ ib h→b∉g.loc id :: A':=by
  intro b h ho' hc hb'
  rcases List.mem_cons.1 hb' with rfl | hb'
  ·rw [hlo] at ho';cases ho';exact hc (.inl rfl)
  ·rcases mJ b hb' with h2 | ⟨q,hq,h2⟩
   ·rw [h2] at ho';cases ho';exact hc (.inl rfl)
   ·rw [h2] at ho';cases ho';exact hc (.inr ⟨q,hq,rfl⟩)
 have k:dI g (g.ng id t (g.loc id :: A')) w w':=⟨fun _ h=>h,Nat.le_refl _,fun _ _=>rfl,fun b hb'=>hoth b (fun e=>(S.own _ _ hlo).2.2 (e ▸ hb'))⟩
 refine S.change ib S.defers S.tmps ho htp hou (Nat.le_of_eq hsz.symm) (fun _ h=>h) (fun _ h=>.inl h) (fun b hb'=>by rw [hsz];exact S.dM b hb') (by simpa [St.nN,G.ng] using S.n) (Nat.le_refl _) (fun _ _=>rfl) ?_ ?_ ?_ ?_ ?_ ?_ ?_ ?_ ?_
 ·intro b hb' h
  refine hoth b (fun e=>?_)
  subst e
  rcases h with h | ⟨h,h2,h3⟩ | ⟨h2,h3⟩
  ·exact (S.own _ _ hlo).2.2 h
  ·rw [hlo] at h2;cases h2;exact h3 (.inl rfl)
  ·rcases (S.own _ _ hlo).1 with h4 | h4
   ·omega
   ·exact h3 h4
 ·intro b h ho' hc
  simp only [G.ng]
  rw [if_neg (CZ b h ho' hc),if_neg (by rw [ho'];intro e;exact hc (.inl (Option.some.inj e)))]
  cases t with
  | none=>exact ho'
  | some q =>
   simp only
   rw [if_neg (by rw [ho'];intro e;exact hc (.inr ⟨q,rfl,Option.some.inj e⟩))]
   exact ho'
 ·intro s hs
  refine ⟨rfl,?_⟩
  simp only [G.ng]
  cases t with
  | none=>rfl
  | some q =>
   simp only
   rw [if_neg (fun e=>hs (.inr ⟨q,rfl,by rw [e]⟩))]
 ·intro i hi
  have hi':i≠id:=fun e=>hi (.inl (by rw [e]))
  exact ⟨by simp only [G.ng];rw [if_neg hi'],by simp only [St.nN];rw [List.getElem?_set_ne (fun e=>hi' e.symm)]⟩
 ·intro s y hy
  simp only [St.nN,mQ] at hy
  have main:∀ z q,look st.env s=some z→t=some q→s≠q→y=(z.kill (cK q)).kill (jw id) →
   (¬ ib (.inl s)∧(look st.env s=some y∧(∀ h,y.fV=some h→¬ ib h)∨y=.dead∧∃ z,look st.env s=some z)):=by
   intro z q hz hq' Gn Bw
   have hnc:¬ ib (.inl s):=by
    rintro (e | ⟨q',hq2,e⟩)
    ·cases e
    ·rw [hq'] at hq2;cases hq2;cases e;exact Gn rfl
   refine ⟨hnc,?_⟩
   by_cases hdd:y=.dead
   ·exact .inr ⟨hdd,z,hz⟩
   ·rcases X.iL (cK q) z with h | ⟨h,_⟩
    ·exact (hdd (by rw [Bw,h];rfl)).elim
    ·rw [h] at Bw
     rcases X.iL (jw id) z with h3 | ⟨h3,_⟩
     ·exact (hdd (by rw [Bw,h3])).elim
     ·rw [h3] at Bw
      subst Bw
      refine .inl ⟨hz,fun r hr e=>?_⟩
      rcases e with e | ⟨q',hq2,e⟩
      ·exact X.vN (q:=.b id 0) h3 hdd r hr e
      ·rw [hq'] at hq2
       cases hq2
       exact X.oF h hdd r hr e
  cases t with
  | none =>
   simp only [pR] at hy
   cases hl:look st.env s with
   | none=>rw [hl] at hy;cases hy
   | some z =>
    rw [hl] at hy
    simp only [Option.map_some,Option.some.injEq] at hy
    have hnc:¬ ib (.inl s):=by
     rintro (e | ⟨q,hq',e⟩)
     ·cases e
     ·cases hq'
    refine .inl ⟨hnc,?_⟩
    by_cases hdd:y=.dead
    ·exact .inr ⟨hdd,z,rfl⟩
    ·rcases X.iL (jw id) z with h | ⟨h,_⟩
     ·exact (hdd (by rw [← hy,h])).elim
     ·rw [h] at hy
      subst hy
      refine .inl ⟨rfl,fun r hr e=>?_⟩
      rcases e with e | ⟨q,hq',e⟩
      ·exact X.vN (q:=.b id 0) h hdd r hr e
      ·cases hq'
  | some q =>
   simp only [pR,look] at hy
   cases hbq:Nat.beq s q with
   | true =>
    have:=Nat.eq_of_beq_eq_true hbq
    subst this
    rw [hbq] at hy
    cases hy
    exact .inr ⟨Bj s rfl,trivial,by simp [G.ng]⟩
   | false =>
    have Gn:s≠q:=fun e=>by rw [e,Nat.beq_refl] at hbq;cases hbq
    rw [hbq] at hy
    simp only [mQ] at hy
    cases hl:look st.env s with
    | none=>rw [hl] at hy;cases hy
    | some z =>
     rw [hl] at hy
     simp only [Option.map_some,Option.some.injEq] at hy
     have:=main z q hl rfl Gn hy.symm
     rw [hl] at this
     exact .inl this
 ·intro i b hb' hc
  rcases hc with hc | ⟨q,_,hc⟩
  ·cases hc
   simp only [St.nN] at hb'
   rw [List.getElem?_set_self hid] at hb'
   cases hb'
   have e1:(g.ng id t (g.loc id :: A')).TB id=g.loc id :: A':=by simp [G.ng]
   rw [e1]
   refine ⟨⟨cur',el,A',rfl,hg,hr.keep k (fun b hb'=>hoth b (hne b hb')),h1⟩,fun b hb'=>?_⟩
   simp only [G.ng]
   rw [if_pos hb']
  ·cases hc
 ·intro s hs
  rcases hs with hs | ⟨q,hq,hs⟩
  ·cases hs
  ·cases hs
   simp [G.ng,hq]
 ·intro i hi
  rcases hi with hi | ⟨q,_,hi⟩
  ·cases hi;simp only [G.ng,if_true];exact hn
  ·cases hi
 ·intro b h ho'
  simp only [G.ng] at ho'
  by_cases hb':b∈g.loc id :: A'
  ·have:∃ h',g.own b=some h':=by
    rcases List.mem_cons.1 hb' with rfl | hb'
    ·exact ⟨_,hlo⟩
    ·rcases mJ b hb' with h2 | ⟨q,_,h2⟩
     ·exact ⟨_,h2⟩
     ·exact ⟨_,h2⟩
   obtain ⟨h',h2⟩:=this
   exact .inr ⟨.inl ⟨h',h2⟩,by rw [hsz];exact (S.own b h' h2).2.1,(S.own b h' h2).2.2⟩
  ·rw [if_neg hb'] at ho'
   split at ho'
   ·cases ho'
   ·cases t with
    | none=>exact .inl ⟨ho',(S.own b h ho').2.2⟩
    | some q =>
     simp only at ho'
     split at ho'
     ·cases ho'
     ·exact .inl ⟨ho',(S.own b h ho').2.2⟩
end
section
variable {P:Program} {C:Ctx} {g:G} {st:St} {a:Act} {w w':World}
theorem GN {w:World} {t:TypeId} {b off:Nat} {v:Value} {cur:Array Value} {el:TypeId} (hh:w.heap[b]? = some (.cells cur el (0,0))) (hs:fK P t=some v.cells.size) (hl:off+v.cells.size≤cur.size) (h1:∀ u∈v.cells.toList,u.oneCell'=true) :
 (Instr.storeAt t (.pointer (some ⟨b,off,none⟩)) v).run P w=.ok () (w.setRow b (cur.toList.take off++v.cells.toList++cur.toList.drop (off+v.cells.size)).toArray):=by
 have:=run_storeCells_at P b off el v.cells.toList 0 cur w hh (by simpa using hl) h1
 simp only [Nat.add_zero,Array.length_toList] at this
 unfold fK at hs
 cases hi:P.info? t with
 | none=>rw [hi] at hs;cases hs
 | some i =>
  rw [hi] at hs
  have hs:i.size=v.cells.size:=Option.some.inj hs
  simp only [Instr.storeAt,Instr.sureAddr,storeVar,Sem.run_bind,Sem.run_pure,Result.andThen_ok,sizeOf,typeInfo,run_program,hi,hs]
  rw [if_neg (by simp)]
  exact this
theorem bC.store {o:Oper} {e e1:E} {t:TypeId} {s id off:Nat} {x:Operand} {src:Option Nat} {cs ds:List D} (ho:o.op=.store t (.tmp s) x) (hd:o.dst=none) (h1:All e1.ob→All e.ob)
 (hl:look e1.st.env s=some (.d (.ptr id off))) (hb:e1.st.box[id]? = some (.cells cs)) (hlen:off+ds.length≤cs.length) (hsz:fK P t=some ds.length)
 (hrun:All e1.ob→∀ g a w,aH C g e.st a w→∃ g1 T,aH C g1 e1.st a w∧bZ g1 w (a.eval x).cells.toList ds T∧(∀ u∈(a.eval x).cells.toList,u.oneCell'=true)∧T.Nodup∧∀ b∈T,∃ q,src=some q∧g1.own b=some (.inl q)) (hsrc:∀ q,src=some q→∃ y,look e1.st.env q=some y) :
 bC P C o e { e1 with st:=e1.st.nN id src (cs.take off++ds++cs.drop (off+ds.length)) }:=by
 intro hA
 refine ⟨h1 hA,fun g a w S next Q hn=>?_⟩
 obtain ⟨g1,T,S1,hr,hone,gy,dF⟩:=hrun hA g a w S
 obtain ⟨_,h2,_⟩:=S1.env s _ hl
 have h2:aV g1 w (a.tmps.getD s undef) (.ptr id off) (g1.TE s):=h2
 have MI:a.eval (.tmp s)=.pointer (some ⟨g1.loc id,off,none⟩):=by
  show a.tmps.getD s undef=_
  generalize a.tmps.getD s undef=v at h2
  generalize g1.TE s=T at h2
  cases h2
  rfl
 obtain ⟨⟨cur,el,A,hT,hh,hrc,hc1⟩,hown⟩:=S1.box id _ hb
 have hcl:cur.size=cs.length:=by rw [← Array.length_toList];exact hrc.length
 have hvl:(a.eval x).cells.size=ds.length:=by rw [← Array.length_toList];exact hr.length
 obtain ⟨A1,B1,gu,hd1,hdr⟩:=hrc.cut off
 obtain ⟨M,B2,Tj,_,hd2⟩:=hdr.cut ds.length
 rw [List.drop_drop,List.drop_drop] at hd2
 subst Tj
 have hst:=GN (P:=P) (t:=t) (b:=g1.loc id) (off:=off) (v:=a.eval x) hh (by rw [hvl];exact hsz) (by rw [hvl,hcl];exact hlen) hone
 have yN:(execOp a.eval o).run P w=.ok .skip (w.setRow (g1.loc id) (cur.toList.take off++(a.eval x).cells.toList++cur.toList.drop (off+(a.eval x).cells.size)).toArray):=by
  unfold execOp
  simp only [ho,MI,Sem.run_bind,hst,Result.andThen_ok,Sem.run_pure]
 unfold Oper.wp
 rw [yN,Oper.upon_skip,hd]
 have hn':=S1.mr id
 rw [hT,gu] at hn'
 have Tk:=List.nodup_append.1 (List.nodup_cons.1 hn').2
 have hnM:=List.nodup_append.1 Tk.2.1
 have J9:∀ b∈T,b∉g1.loc id :: (A1++(M++B2)):=fun b hb' hm=>by
  obtain ⟨q,_,hq⟩:=dF b hb'
  have:=hown b (by rw [hT,gu];exact hm)
  rw [hq] at this;cases this
 refine hn _ _ _ (S1.nN (t:=src) (A':=A1++T++B2) (cur:=cur) (el:=el) (w':=w.setRow (g1.loc id) (cur.toList.take off++(a.eval x).cells.toList++cur.toList.drop (off+(a.eval x).cells.size)).toArray) hb hT hh (setRow_heap w _ cur _ el _ hh) rfl rfl rfl (by simp) (fun b hb'=>setRow_other w _ b _ hb') ?_ ?_ ?_ ?_ ?_) (fun h=>by rw [ho] at h;cases h)
 ·simp only [List.toList_toArray]
  rw [hvl]
  exact (hd1.app hr).app hd2
 ·intro u hu
  simp only [List.toList_toArray,List.mem_append] at hu
  rcases hu with (h | h) | h
  ·exact hc1 u (List.mem_of_mem_take h)
  ·exact hone u h
  ·exact hc1 u (List.mem_of_mem_drop h)
 ·refine List.nodup_cons.2 ⟨fun h=>?_,?_⟩
  ·simp only [List.mem_append] at h
   rcases h with (h | h) | h
   ·exact (List.nodup_cons.1 hn').1 (by simp [h])
   ·exact J9 _ h (by simp)
   ·exact (List.nodup_cons.1 hn').1 (by simp [h])
  ·refine List.nodup_append.2 ⟨List.nodup_append.2 ⟨Tk.1,gy,fun b hb' c hc e=>?_⟩,hnM.2.1,fun b hb' c hc e=>?_⟩
   ·subst e;exact J9 b hc (by simp [hb'])
   ·subst e
    rcases List.mem_append.1 hb' with h | h
    ·exact Tk.2.2 b h b (by simp [hc]) rfl
    ·exact J9 b h (by simp [hc])
 ·intro b hb'
  simp only [List.mem_append] at hb'
  rcases hb' with (h | h) | h
  ·exact .inl (by rw [gu];simp [h])
  ·exact .inr (dF b h)
  ·exact .inl (by rw [gu];simp [h])
 ·intro q hq
  obtain ⟨y,hy⟩:=hsrc q hq
  exact (S1.env q y hy).1
def qC (P:Program) (t:TypeId) (n:Nat):Bool:=match fK P t with
 | some k=>Nat.beq k n
 | none=>false
theorem tY {t:TypeId} {n:Nat} (h:qC P t n=true):fK P t=some n:=by
 unfold qC at h
 split at h
 ·rename_i k hk
  rw [hk,Nat.eq_of_beq_eq_true h]
 ·cases h
def IB (P:Program) (o:Oper) (t:TypeId) (s:Nat) (x:Operand) (e:E):Option E :=
 match o.dst with
 | some _=>none
 | none=>match look e.st.env s with
  | some (.d (.ptr id off))=>match x,(match x with | .tmp q=>look e.st.env q | _=>none) with
   | .tmp q,some (.d (.v (.row (some el) sz es)))=>match e.st.box[id]? with
    | some (.cells cs)=>match Nat.ble (off+1) cs.length && qC P t 1 with
     | true=>some { e with st:=e.st.nN id (some q) (cs.take off++[.v (.row (some el) sz es)]++cs.drop (off+1)) }
     | false=>none
    | _=>none
   | .tmp _,some (.al (.top (.b i c)))=>match e.st.box[id]? with
    | some (.cells cs)=>match Nat.ble (off+1) cs.length && qC P t 1 && Nat.beq i id && Nat.beq c off with
     | true=>some e
     | false=>none
    | _=>none
   | .tmp q,some (.d (.ptr i f))=>match e.st.box[id]? with
    | some (.cells cs)=>match Nat.ble (off+1) cs.length && qC P t 1 with
     | true=>some { e with st:=e.st.nN id none (cs.take off++[.ptr i f]++cs.drop (off+1)) }
     | false=>none
    | _=>none
   | _,_=>match val x e with
    | some (u,e)=>match look e.st.env s,e.st.box[id]? with
     | some (.d (.ptr id' off')),some (.cells cs)=>match u.qA && Nat.ble (off+u.cells.length) cs.length && qC P t u.cells.length && Nat.beq id id' && Nat.beq off off' with
      | true=>some { e with st:=e.st.nN id none (cs.take off++dv u.cells++cs.drop (off+(dv u.cells).length)) }
      | false=>none
     | _,_=>none
    | none=>none
  | _=>none
theorem abI {o:Oper} {t:TypeId} {s:Nat} {x:Operand} {e e':E} (ho:o.op=.store t (.tmp s) x) (h:IB P o t s x e=some e'):bC P C o e e':=by
 unfold IB at h
 split at h
 ·cases h
 rename_i hd
 split at h
 ·rename_i id off hl
  split at h
  ·rename_i q el sz es hq
   split at h
   ·rename_i cs hb
    split at h
    ·rename_i hc
     cases h
     rw [Bool.and_eq_true] at hc
     have c1:=Nat.le_of_ble_eq_true hc.1
     have c2:=tY hc.2
     have hq:look e.st.env q=some (.d (.v (.row (some el) sz es))):=hq
     refine bC.store (ds:=[.v (.row (some el) sz es)]) ho hd (fun h=>h) hl hb (by simpa using c1) c2 (fun _ g a w S=>?_) (fun q' e'=>by cases e';exact ⟨_,hq⟩)
     obtain ⟨_,h2,h3⟩:=S.env q _ hq
     have h2:aV g w (a.eval (.tmp q)) (.v (.row (some el) sz es)) (g.TE q):=h2
     have hone:=h2.inv.one rfl
     refine ⟨g,g.TE q,S,?_,?_,S.nV q,fun b hb'=>⟨q,rfl,h3 b hb'⟩⟩
     ·rw [cells_one hone]
      have:=bZ.cons h2 (bZ.nil (g:=g) (w:=w))
      simpa using this
     ·rw [cells_one hone];simpa using hone
    ·cases h
   ·cases h
  ·rename_i q i cc hq
   split at h
   ·rename_i cs hb
    split at h
    ·rename_i hc
     cases h
     simp only [Bool.and_eq_true] at hc
     obtain ⟨⟨⟨c1,c2⟩,c3⟩,c4⟩:=hc
     have c1:=Nat.le_of_ble_eq_true c1
     have c2:=tY c2
     have c3:=Nat.eq_of_beq_eq_true c3
     have c4:=Nat.eq_of_beq_eq_true c4
     subst c3
     subst c4
     have hq:look e.st.env q=some (.al (.top (.b i cc))):=hq
     refine fun hA=>⟨hA,fun g a w S next Q hn=>?_⟩
     obtain ⟨_,h2,_⟩:=S.env s _ hl
     have h2:aV g w (a.tmps.getD s undef) (.ptr i cc) (g.TE s):=h2
     have MI:a.eval (.tmp s)=.pointer (some ⟨g.loc i,cc,none⟩):=by
      show a.tmps.getD s undef=_
      generalize a.tmps.getD s undef=v at h2
      generalize g.TE s=T at h2
      cases h2
      rfl
     obtain ⟨⟨cur,el,A,hT,hh,hrc,hc1⟩,hown⟩:=S.box i _ hb
     have hcl:cur.size=cs.length:=by rw [← Array.length_toList];exact hrc.length
     obtain ⟨_,⟨_,h3⟩,_⟩:=S.env q _ hq
     have h3:dW g a w (.b i cc)=some (a.eval (.tmp q)):=h3
     simp only [dW] at h3
     split at h3
     rotate_left
     ·cases h3
     simp only [World.cell?,hh] at h3
     have hget:cur.toList[cc]? = some (a.eval (.tmp q)):=by simpa using h3
     have hone:=hc1 _ (List.mem_of_getElem? hget)
     have hcells:=cells_one hone
     have hst:=GN (P:=P) (t:=t) (b:=g.loc i) (off:=cc) (v:=a.eval (.tmp q)) hh (by rw [hcells];exact c2) (by rw [hcells,hcl];simpa using c1) (by rw [hcells];simpa using hone)
     have hsame:(cur.toList.take cc++(a.eval (.tmp q)).cells.toList++cur.toList.drop (cc+(a.eval (.tmp q)).cells.size)).toArray=cur:=by
      rw [hcells]
      apply Array.ext'
      simp only [List.size_toArray,List.length_cons,List.length_nil,Nat.zero_add,List.append_assoc]
      have hlt:cc < cur.toList.length:=(List.getElem?_eq_some_iff.1 hget).1
      have e1:cur.toList[cc]=a.eval (.tmp q):=(List.getElem?_eq_some_iff.1 hget).2
      conv=>rhs;rw [← List.take_append_drop cc cur.toList,List.drop_eq_getElem_cons hlt,e1]
      rfl
     rw [hsame,setRow_self w _ cur el _ hh] at hst
     have yN:(execOp a.eval o).run P w=.ok .skip w:=by
      unfold execOp
      simp only [ho,MI,Sem.run_bind,hst,Result.andThen_ok,Sem.run_pure]
     unfold Oper.wp
     rw [yN,Oper.upon_skip,hd]
     exact hn _ _ _ S (fun h=>by rw [ho] at h;cases h)
    ·cases h
   ·cases h
  ·rename_i q i f hq
   split at h
   ·rename_i cs hb
    split at h
    ·rename_i hc
     cases h
     rw [Bool.and_eq_true] at hc
     have c1:=Nat.le_of_ble_eq_true hc.1
     have c2:=tY hc.2
     have hq:look e.st.env q=some (.d (.ptr i f)):=hq
     refine bC.store (src:=none) (ds:=[.ptr i f]) ho hd (fun h=>h) hl hb (by simpa using c1) c2 (fun _ g a w S=>?_) (fun q' e'=>by cases e')
     obtain ⟨_,h2,h3⟩:=S.env q _ hq
     have h2:aV g w (a.eval (.tmp q)) (.ptr i f) (g.TE q):=h2
     have hT:=h2.bI rfl
     rw [hT] at h2
     have hone:(a.eval (.tmp q)).oneCell'=true:=by generalize a.eval (.tmp q)=v at h2;cases h2;rfl
     refine ⟨g,[],S,?_,?_,List.nodup_nil,fun b hb'=>by cases hb'⟩
     ·rw [cells_one hone]
      have:=bZ.cons h2 (bZ.nil (g:=g) (w:=w))
      simpa using this
     ·rw [cells_one hone];simpa using hone
    ·cases h
   ·cases h
  ·split at h
   ·rename_i u e1 hv
    split at h
    ·rename_i id' off' cs hl1 hb
     split at h
     ·rename_i hc
      cases h
      simp only [Bool.and_eq_true] at hc
      obtain ⟨⟨⟨⟨c1,c2⟩,c3⟩,c4⟩,c5⟩:=hc
      have c2:=Nat.le_of_ble_eq_true c2
      have c3:=tY c3
      have c4:=Nat.eq_of_beq_eq_true c4
      have c5:=Nat.eq_of_beq_eq_true c5
      subst c4
      subst c5
      refine bC.store (src:=none) (ds:=dv u.cells) ho hd (fun hA=>(val_ok (C:=C) hv hA).1) hl1 hb (by rw [yg];exact c2) (by rw [yg];exact c3) (fun hA g a w S=>?_) (fun q' e'=>by cases e')
      obtain ⟨g1,k1,S1,r1⟩:=(val_ok (C:=C) hv hA).2 g a w S
      obtain ⟨r3,r4⟩:=r1.flat c1
      exact ⟨g1,[],S1,r3.dv,r3.one r4,List.nodup_nil,fun b hb'=>by cases hb'⟩
     ·cases h
    ·cases h
   ·cases h
 ·cases h
end
def holdB:Root→Root→Bool
 | .t a,.t b=>Nat.beq a b
 | .b a _,.b b _=>Nat.beq a b
 | _,_=>false
theorem VK {r q:Root} (h:r.holder=q.holder):holdB r q=true:=by
 cases r<;>cases q<;>simp_all [Root.holder,holdB]
theorem IC {r q:Root} (h:holdB r q=false):r.holder≠q.holder:=fun e=>by rw [VK e] at h;cases h
def C8:Root→Root→Bool
 | .t a,.t b=>Nat.beq a b
 | .b a c,.b b d=>Nat.beq a b && Nat.beq c d
 | _,_=>false
theorem adU {r q:Root} (h:C8 r q=true):r=q:=by
 cases r<;>cases q<;>simp_all [C8]
def X.lV (r:Root):X→X
 | .al (.iY q sz i j)=>match holdB q r with
  | true=>.dead
  | false=>.al (.iY q sz i j)
 | .pa q sz i j=>match holdB q r with
  | true=>match C8 q r with
   | true=>.pa q sz i j
   | false=>.dead
  | false=>.pa q sz i j
 | x=>x
def lV (r:Root):List (Nat × X)→List (Nat × X)
 | []=>[]
 | (k,x) :: l=>(k,x.lV r) :: lV r l
theorem UH (r:Root):∀ (l:List (Nat × X)) (t:Nat),look (lV r l) t=(look l t).map (X.lV r)
 | [],_=>rfl
 | (k,x) :: l,t=>by
  simp only [lV,look]
  cases Nat.beq t k with
  | true=>rfl
  | false=>exact UH r l t
theorem X.Uu (r:Root) (x:X):x.lV r=.dead∨(x.lV r=x∧((∀ h,x.fV=some h→h≠r.holder)∨(∃ q,x=.al (.top q))∨∃ sz i j,x=.pa r sz i j)):=by
 cases x with
 | al p =>
  cases p with
  | top q=>exact .inr ⟨rfl,.inr (.inl ⟨q,rfl⟩)⟩
  | iY q sz i j =>
   simp only [X.lV]
   cases h:holdB q r with
   | true=>exact .inl rfl
   | false=>exact .inr ⟨rfl,.inl fun h' hq=>by cases hq;exact IC h⟩
 | pa q sz i j =>
  simp only [X.lV]
  cases h:holdB q r with
  | true =>
   cases h2:C8 q r with
   | true=>exact .inr ⟨rfl,.inr (.inr ⟨sz,i,j,by rw [adU h2]⟩)⟩
   | false=>exact .inl rfl
  | false=>exact .inr ⟨rfl,.inl fun h' hq=>by cases hq;exact IC h⟩
 | d d=>exact .inr ⟨rfl,.inl fun h' hq=>by cases hq⟩
 | dead=>exact .inl rfl
section
variable {C:Ctx} {g:G} {st:St} {a:Act} {w w':World}
theorem bZ.Yn {g:G} {w:World}:∀ {vs:List Value} {ds:List D} {T:List Nat} {c:Nat} {d:D},bZ g w vs ds T→ds[c]? = some d →
 ∃ v T1 Tc T2,vs[c]? = some v∧T=T1++(Tc++T2)∧aV g w v d Tc∧∀ g' w' d' T',dI g g' w w'→(∀ b∈T1++T2,w'.heap[b]? = w.heap[b]?)→aV g' w' v d' T'→bZ g' w' vs (ds.set c d') (T1++(T'++T2))
 | _,_,_,_,_,.nil,h=>by simp at h
 | _,_,_,0,d,.cons (v:=v) (A:=A) (B:=B) h1 h2,h=>by
  simp only [List.getElem?_cons_zero,Option.some.injEq] at h
  subst h
  exact ⟨v,[],A,B,rfl,rfl,h1,fun g' w' d' T' k hs h'=>(bZ.cons h' (h2.keep k hs):bZ g' w' _ _ (T'++B))⟩
 | _,_,_,c+1,d,.cons (A:=A) (B:=B) h1 h2,h=>by
  simp only [List.getElem?_cons_succ] at h
  obtain ⟨v,T1,Tc,T2,e1,e2,e3,e4⟩:=h2.Yn h
  subst e2
  refine ⟨v,A++T1,Tc,T2,by simpa using e1,by simp,e3,fun g' w' d' T' k hs h'=>?_⟩
  have:=bZ.cons (h1.keep k (fun b hb=>hs b (by simp [hb]))) (e4 g' w' d' T' k (fun b hb=>hs b (by simp only [List.mem_append] at hb ⊢;rcases hb with h | h<;>simp [h])) h')
  simpa using this
def St.reset (st:St) (r:Root) (u:V) (src:Option Nat):St:=match r with
 | .t s=>{ env:=(s,.d (.v u)) :: lV (.t s) (pR src st.env),box:=st.box }
 | .b id c=>match st.box[id]? with
  | some (.cells cs)=>{ env:=lV (.b id c) (pR src st.env),box:=st.box.set id (.cells (cs.set c (.v u))) }
  | _=>st
def G.reset (g:G) (h:Nat ⊕ Nat) (T T' N:List Nat) (src:Option Nat):G :=
 { g with own:=fun b=>if b∈T' then some h else if b∈T then none else match src with
            | some q=>if g.own b=some (.inl q) then none else g.own b
            | none=>g.own b,
          TE:=fun t=>if h=.inl t then N else match src with
            | some q=>if t=q then [] else g.TE t
            | none=>g.TE t,
          TB:=fun i=>if h=.inr i then N else g.TB i }
theorem acg {src:Option Nat} {l:List (Nat × X)} {t:Nat} {y:X} {r:Root} (h:look (lV r (pR src l)) t=some y) :
 (src=some t∧y=.dead)∨(src≠some t∧∃ z,look l t=some z∧(y=.dead∨(y=z∧(∀ q,src=some q→∀ h,z.fV=some h→h≠.inl q)∧((∀ h,z.fV=some h→h≠r.holder)∨(∃ q,z=.al (.top q))∨∃ sz i j,z=.pa r sz i j)))):=by
 rw [UH] at h
 cases src with
 | none =>
  simp only [pR] at h
  refine .inr ⟨by simp,?_⟩
  cases hl:look l t with
  | none=>rw [hl] at h;cases h
  | some z =>
   rw [hl] at h
   simp only [Option.map_some,Option.some.injEq] at h
   refine ⟨z,rfl,?_⟩
   rcases X.Uu r z with h2 | ⟨h2,h3⟩
   ·exact .inl (by rw [← h,h2])
   ·exact .inr ⟨by rw [← h,h2],by simp,h3⟩
 | some q =>
  simp only [pR,look] at h
  cases hb:Nat.beq t q with
  | true =>
   have:=Nat.eq_of_beq_eq_true hb
   subst this
   rw [hb] at h
   simp only [Option.map_some,Option.some.injEq] at h
   exact .inl ⟨rfl,h ▸ rfl⟩
  | false =>
   rw [hb] at h
   have htq:t≠q:=fun e=>by rw [e,Nat.beq_refl] at hb;cases hb
   refine .inr ⟨fun e=>htq (Option.some.inj e).symm,?_⟩
   simp only [mQ] at h
   cases hl:look l t with
   | none=>rw [hl] at h;cases h
   | some z =>
    rw [hl] at h
    simp only [Option.map_some,Option.some.injEq] at h
    refine ⟨z,rfl,?_⟩
    rcases X.iL (cK q) z with h1 | ⟨h1,_⟩
    ·rw [h1] at h;exact .inl (h ▸ rfl)
    ·rw [h1] at h
     rcases X.Uu r z with h2 | ⟨h2,h3⟩
     ·exact .inl (by rw [← h,h2])
     ·by_cases hd:z=.dead
      ·exact .inl (by rw [← h,h2,hd])
      ·exact .inr ⟨by rw [← h,h2],fun q' e h' hh=>by cases e;exact X.oF h1 hd h' hh,h3⟩
theorem aH.lens (S:aH C g st a w) {r:Root} {u:V} (hu:iN st r=some u):∃ v T,dW g a w r=some v∧aP g.aL w v u T∧T.Nodup∧(∀ b∈T,g.own b=some r.holder) ∧
 ∀ (w':World) (u':V) (T':List Nat) (src:Option Nat),w'.os=w.os→w'.tape=w.tape→w'.output=w.output→w.heap.size≤w'.heap.size →
  (∀ b,b < w.heap.size→b∉T→w'.heap[b]? = w.heap[b]?)→aP g.aL w' v u' T'→T'.Nodup→(∀ b∈T',b∈T∨∃ q,src=some q∧g.own b=some (.inl q)) →
  (∀ q,src=some q→q < C.N∧r.holder≠.inl q)→(∀ b,v.ownBlock=some b→b∈T→b∈T') →
  ∃ g',g'.aL=g.aL∧(∀ b∈T,b∉T'→g'.own b=none)∧aH C g' (st.reset r u' src) a w':=by
 have main:∀ (v:Value) (T:List Nat) (w':World) (u':V) (T' N:List Nat) (src:Option Nat) (st':St) (hh:r.holder=r.holder),dW g a w r=some v→T.Nodup→(∀ b∈T,g.own b=some r.holder) →
  w'.os=w.os→w'.tape=w.tape→w'.output=w.output→w.heap.size≤w'.heap.size →
  (∀ b,b < w.heap.size→b∉T→w'.heap[b]? = w.heap[b]?)→(∀ b∈T',b∈T∨∃ q,src=some q∧g.own b=some (.inl q)) →
  (∀ q,src=some q→q < C.N∧r.holder≠.inl q)→(∀ b,v.ownBlock=some b→b∈T→b∈T') →
  N.Nodup→(∀ b∈N,b∈T'∨(b∉T∧g.own b=some r.holder)) →
  st'.box.length=st.box.length →
  (∀ i,r.holder≠.inr i→st'.box[i]? = st.box[i]?)→(∀ t,r.holder≠.inl t→look st'.env t=look (lV r (pR src st.env)) t) →
  (∀ t y,r.holder=.inl t→look st'.env t=some y→t < C.N∧jM (g.reset r.holder T T' N src) a w' (a.tmps.getD t undef) y N) →
  (∀ i b,r.holder=.inr i→st'.box[i]? = some b→kZ (g.reset r.holder T T' N src) w' (g.loc i) b N) →
  (∀ i c,r=.b i c→g.loc i∉T) →
  aH C (g.reset r.holder T T' N src) st' a w':=by
  intro v T w' u' T' N src st' _ hpv gy dF ho ht hou hsz hsame hT' hsrc hblk Bz hN hlen hbx MB hE hB hloc
  have agQ:∀ b∈T',∃ h,g.own b=some h:=fun b hb=>by
   rcases hT' b hb with h | ⟨q,_,h⟩
   ·exact ⟨_,dF b h⟩
   ·exact ⟨_,h⟩
  let ib:Nat ⊕ Nat→Prop:=fun h=>h=r.holder∨∃ q,src=some q∧h=.inl q
  have CZ:∀ b h,g.own b=some h→¬ ib h→b∉T'∧b∉T:=by
   intro b h hb hc
   refine ⟨fun hb'=>?_,fun hb'=>?_⟩
   ·rcases hT' b hb' with h2 | ⟨q,hq,h2⟩
    ·rw [dF b h2] at hb;cases hb;exact hc (.inl rfl)
    ·rw [h2] at hb;cases hb;exact hc (.inr ⟨q,hq,rfl⟩)
   ·rw [dF b hb'] at hb;cases hb;exact hc (.inl rfl)
  have Yo:∀ b∈N,(g.reset r.holder T T' N src).own b=some r.holder:=by
   intro b hb
   simp only [G.reset]
   rcases hN b hb with h | ⟨h1,h2⟩
   ·rw [if_pos h]
   ·by_cases h3:b∈T'
    ·rw [if_pos h3]
    ·rw [if_neg h3,if_neg h1]
     cases src with
     | none=>exact h2
     | some q =>
      simp only
      rw [if_neg (fun e=>(hsrc q rfl).2 (by rw [h2] at e;exact Option.some.inj e))]
      exact h2
  have k:dI g (g.reset r.holder T T' N src) w w':=⟨fun _ h=>h,Nat.le_refl _,fun _ _=>rfl,fun b hb=>hsame b (S.dM b hb) (fun h=>(S.own b _ (dF b h)).2.2 hb)⟩
  have XJ:∀ b,g.own b=some r.holder→b∉T→(g.reset r.holder T T' N src).own b=some r.holder:=by
   intro b hb hn
   simp only [G.reset]
   by_cases h3:b∈T'
   ·rw [if_pos h3]
   ·rw [if_neg h3,if_neg hn]
    cases src with
    | none=>exact hb
    | some q =>
     simp only
     rw [if_neg (fun e=>(hsrc q rfl).2 (by rw [hb] at e;exact Option.some.inj e))]
     exact hb
  have Yp:∀ q u,q.holder=r.holder→dW g a w q=some u→dW (g.reset r.holder T T' N src) a w' q=some u:=by
   intro q u hq h
   cases q with
   | t x=>exact h
   | b id c =>
    simp only [dW] at h ⊢
    split at h
    ·rename_i hc
     cases r with
     | t x=>simp [Root.holder] at hq
     | b i c' =>
      have hq':id=i:=by simpa [Root.holder] using hq
      subst hq'
      have hnl:=hloc id c' rfl
      have:(g.reset (Root.b id c').holder T T' N src).own (g.loc id)=some (.inr id):=XJ _ hc.2 hnl
      rw [if_pos ⟨hc.1,this⟩,← h]
      exact tQ (hsame _ (by have:=(S.own _ _ hc.2).2.1;exact this) hnl)
    ·cases h
  refine S.change ib S.defers S.tmps ho ht hou hsz (fun _ h=>h) (fun _ h=>.inl h) (fun b hb=>Nat.lt_of_lt_of_le (S.dM b hb) hsz) (by rw [hlen];exact S.n) (Nat.le_refl _) (fun _ _=>rfl) ?_ ?_ ?_ ?_ ?_ ?_ ?_ ?_ ?_
  ·intro b hb h
   refine hsame b hb (fun jy=>?_)
   have xP:=dF b jy
   rcases h with h | ⟨h,h2,h3⟩ | ⟨h2,h3⟩
   ·exact (S.own b _ xP).2.2 h
   ·rw [xP] at h2;cases h2;exact h3 (.inl rfl)
   ·rcases (S.own b _ xP).1 with h4 | h4
    ·omega
    ·exact h3 h4
  ·intro b h hb hc
   obtain ⟨n1,n2⟩:=CZ b h hb hc
   simp only [G.reset]
   rw [if_neg n1,if_neg n2]
   cases src with
   | none=>exact hb
   | some q =>
    simp only
    rw [if_neg (by rw [hb];intro e;exact hc (.inr ⟨q,rfl,Option.some.inj e⟩))]
    exact hb
  ·intro t ht'
   refine ⟨rfl,?_⟩
   simp only [G.reset]
   rw [if_neg (fun e=>ht' (.inl e.symm))]
   cases src with
   | none=>rfl
   | some q =>
    simp only
    rw [if_neg (fun e=>ht' (.inr ⟨q,rfl,by rw [e]⟩))]
  ·intro i hi
   refine ⟨?_,hbx i (fun e=>hi (.inl e.symm))⟩
   simp only [G.reset]
   rw [if_neg (fun e=>hi (.inl e.symm))]
  ·intro t y hy
   by_cases hr:r.holder=.inl t
   ·obtain ⟨h1,h2⟩:=hE t y hr hy
    have e1:(g.reset r.holder T T' N src).TE t=N:=by simp [G.reset,hr]
    refine .inr ⟨h1,by rw [e1];exact h2,fun b hb=>?_⟩
    rw [e1] at hb
    rw [Yo b hb,hr]
   ·rw [MB t hr] at hy
    rcases acg hy with ⟨hs,rfl⟩ | ⟨hs,z,hz,h⟩
    ·refine .inr ⟨(hsrc t hs).1,trivial,?_⟩
     have:(g.reset r.holder T T' N src).TE t=[]:=by simp [G.reset,hr,hs]
     rw [this];simp
    ·have hnc:¬ ib (.inl t):=by
      rintro (e | ⟨q,hq,e⟩)
      ·exact hr e.symm
      ·cases e;exact hs hq
     rcases h with rfl | ⟨rfl,h1,h2⟩
     ·exact .inl ⟨hnc,.inr ⟨rfl,z,hz⟩⟩
     ·by_cases hrt:∀ h,y.fV=some h→h≠r.holder
      ·refine .inl ⟨hnc,.inl ⟨hz,fun h hh e=>?_⟩⟩
       rcases e with e | ⟨q,hq,e⟩
       ·exact hrt h hh e
       ·exact h1 q hq h hh e
      ·obtain ⟨k1,k2,k3⟩:=S.env t y hz
       have ZW:(g.reset r.holder T T' N src).TE t=g.TE t:=by
        simp only [G.reset]
        rw [if_neg hr]
        cases src with
        | none=>rfl
        | some q =>
         simp only
         rw [if_neg (fun e=>hs (by rw [e]))]
       have kT:∀ b∈g.TE t,(g.reset r.holder T T' N src).own b=some (.inl t):=fun b hb=>by
        have hb':=k3 b hb
        obtain ⟨n1,n2⟩:=CZ b _ hb' hnc
        simp only [G.reset]
        rw [if_neg n1,if_neg n2]
        cases src with
        | none=>exact hb'
        | some q =>
         simp only
         rw [if_neg (by rw [hb'];intro e;exact hnc (.inr ⟨q,rfl,Option.some.inj e⟩))]
         exact hb'
       refine .inr ⟨k1,?_,by rw [ZW];exact kT⟩
       rw [ZW]
       rcases h2 with h2 | ⟨q,rfl⟩ | ⟨sz,i,j,rfl⟩
       ·exact (hrt h2).elim
       ·refine ⟨k2.1,?_⟩
        have hq:q.holder=r.holder:=Classical.byContradiction fun hne=>hrt (fun h hh e=>by
         simp only [X.fV,Pl.root,Option.some.injEq] at hh
         exact hne (hh.trans e))
        exact Yp q _ hq k2.2
       ·obtain ⟨e1,b,e2,e3,e4⟩:=k2
        rw [hpv] at e2
        refine ⟨e1,b,?_,?_,e4⟩
        ·rw [Yp r v rfl hpv];exact e2
        ·by_cases jy:b∈T
         ·have:b∈T':=hblk b e2 jy
          simp only [G.reset]
          rw [if_pos this]
         ·exact XJ b e3 jy
  ·intro i b hb hc
   rcases hc with hc | ⟨q,_,hc⟩
   ·have e1:(g.reset r.holder T T' N src).TB i=N:=by simp [G.reset,← hc]
    rw [e1]
    refine ⟨hB i b hc.symm hb,fun b hb=>?_⟩
    rw [Yo b hb,hc]
   ·cases hc
  ·intro t hc
   rcases hc with hc | ⟨q,hq,hc⟩
   ·simp only [G.reset]
    rw [if_pos hc.symm];exact Bz
   ·cases hc
    simp only [G.reset]
    split
    ·exact Bz
    ·simp [hq]
  ·intro i hc
   rcases hc with hc | ⟨q,hq,hc⟩
   ·simp only [G.reset]
    rw [if_pos hc.symm];exact Bz
   ·cases hc
  ·intro b h hb
   simp only [G.reset] at hb
   by_cases hb1:b∈T'
   ·obtain ⟨h',h2⟩:=agQ b hb1
    exact .inr ⟨.inl ⟨h',h2⟩,Nat.lt_of_lt_of_le (S.own b h' h2).2.1 hsz,(S.own b h' h2).2.2⟩
   ·rw [if_neg hb1] at hb
    split at hb
    ·cases hb
    ·cases src with
     | none=>exact .inl ⟨hb,(S.own b h hb).2.2⟩
     | some q =>
      simp only at hb
      split at hb
      ·cases hb
      ·exact .inl ⟨hb,(S.own b h hb).2.2⟩
 cases r with
 | t s =>
  simp only [iN] at hu
  split at hu
  ·rename_i x hx
   cases hu
   obtain ⟨h1,h2,h3⟩:=S.env s _ hx
   have hpv:dW g a w (.t s)=some (a.tmps.getD s undef):=by
    have:s < a.tmps.size:=by rw [S.tmps];exact h1
    simp [dW,Array.getD_eq_getD_getElem?,this]
   refine ⟨a.tmps.getD s undef,g.TE s,hpv,aV.inv h2,S.nV s,h3,?_⟩
   intro w' u' T' src ho ht hou hsz hsame hR hn hT' hsrc hblk
   refine ⟨g.reset (Root.t s).holder (g.TE s) T' T' src,rfl,fun b hb hb'=>?_,main _ (g.TE s) w' u' T' T' src (st.reset (.t s) u' src) rfl hpv (S.nV s) h3 ho ht hou hsz hsame hT' hsrc hblk hn (fun b hb=>.inl hb) rfl (fun _ _=>rfl) ?_ ?_ ?_ ?_⟩
   ·simp only [G.reset];rw [if_neg hb',if_pos hb]
   ·intro t htr
    have:Nat.beq t s=false:=by
     cases hb:Nat.beq t s with
     | true=>exact (htr (by rw [Nat.eq_of_beq_eq_true hb];rfl)).elim
     | false=>rfl
    simp only [St.reset,look,this]
   ·intro t y htr hy
    have hts:s=t:=by simpa [Root.holder] using htr
    subst hts
    simp only [St.reset,look,Nat.beq_refl] at hy
    cases hy
    exact ⟨h1,.v hR⟩
   ·intro i b hr;cases hr
   ·intro i c hr;cases hr
  ·cases hu
 | b id c =>
  simp only [iN] at hu
  split at hu
  ·rename_i cs hb
   split at hu
   ·rename_i x hx
    cases hu
    obtain ⟨⟨cur,e,A,hT,hh,hr,h1⟩,h2⟩:=S.box id _ hb
    have hid:id < st.box.length:=by
     rcases Nat.lt_or_ge id st.box.length with h | h
     ·exact h
     ·rw [List.getElem?_eq_none h] at hb;cases hb
    obtain ⟨v,T1,Tc,T2,e1,e2,e3,e4⟩:=hr.Yn hx
    have hn:=S.mr id
    rw [hT,e2] at hn
    have hn2:(T1++(Tc++T2)).Nodup:=(List.nodup_cons.1 hn).2
    have Gl:Tc.Nodup:=(List.nodup_append.1 (List.nodup_append.1 hn2).2.1).1
    have ho:∀ b,b∈g.TB id→g.own b=some (.inr id):=h2
    have MJ:∀ b∈Tc,g.own b=some (.inr id):=fun b hb=>ho b (by rw [hT,e2];simp [hb])
    have hlo:g.own (g.loc id)=some (.inr id):=ho _ (by rw [hT];simp)
    have hlc:g.loc id∉Tc:=fun h=>(List.nodup_cons.1 hn).1 (by simp [h])
    have wU:∀ b∈T1++T2,b∉Tc:=by
     intro b hb hb'
     rcases List.mem_append.1 hb with h | h
     ·exact (List.nodup_append.1 hn2).2.2 b h b (by simp [hb']) rfl
     ·exact (List.nodup_append.1 (List.nodup_append.1 hn2).2.1).2.2 b hb' b h rfl
    have hpv:dW g a w (.b id c)=some v:=by
     simp only [dW]
     rw [if_pos ⟨by rw [S.n];exact hid,hlo⟩]
     simp only [World.cell?,hh]
     simpa using e1
    refine ⟨v,Tc,hpv,aV.inv e3,Gl,MJ,?_⟩
    intro w' u' T' src ho' ht hou hsz hsame hR aiK hT' hsrc hblk
    have MK:∀ b∈T',b∉g.loc id :: (T1++T2):=by
     intro b hb hb'
     rcases hT' b hb with h | ⟨q,hq,h⟩
     ·rcases List.mem_cons.1 hb' with rfl | h'
      ·exact hlc h
      ·exact wU b h' h
     ·have:b∈g.TB id:=by
       rw [hT,e2]
       rcases List.mem_cons.1 hb' with rfl | h'
       ·simp
       ·rcases List.mem_append.1 h' with h' | h'<;>simp [h']
      rw [ho b this] at h;cases h
    have Bz:(g.loc id :: (T1++(T'++T2))).Nodup:=by
     refine List.nodup_cons.2 ⟨fun h=>?_,?_⟩
     ·rcases List.mem_append.1 h with h | h
      ·exact (List.nodup_cons.1 hn).1 (by simp [h])
      ·rcases List.mem_append.1 h with h | h
       ·exact MK _ h (by simp)
       ·exact (List.nodup_cons.1 hn).1 (by simp [h])
     ·have n1:=List.nodup_append.1 hn2
      have n2:=List.nodup_append.1 n1.2.1
      refine List.nodup_append.2 ⟨n1.1,List.nodup_append.2 ⟨aiK,n2.2.1,fun x hx y hy e=>?_⟩,fun x hx y hy e=>?_⟩
      ·subst e;exact MK x hx (by simp [hy])
      ·subst e
       rcases List.mem_append.1 hy with h | h
       ·exact MK x h (by simp [hx])
       ·exact n1.2.2 x hx x (by simp [h]) rfl
    have aiL:st.reset (.b id c) u' src={ env:=lV (.b id c) (pR src st.env),box:=st.box.set id (.cells (cs.set c (.v u'))) }:=by simp only [St.reset,hb]
    have hsz':∀ b,g.own b=some (.inr id)→b < w.heap.size:=fun b hb=>(S.own b _ hb).2.1
    refine ⟨g.reset (Root.b id c).holder Tc T' (g.loc id :: (T1++(T'++T2))) src,rfl,fun b hb hb'=>?_,?_⟩
    ·simp only [G.reset];rw [if_neg hb',if_pos hb]
    rw [aiL]
    refine main v Tc w' u' T' _ src _ rfl hpv Gl MJ ho' ht hou hsz hsame hT' hsrc hblk Bz ?_ ?_ ?_ ?_ ?_ ?_ ?_
    ·intro b hb'
     rcases List.mem_cons.1 hb' with rfl | hb'
     ·exact .inr ⟨hlc,hlo⟩
     ·rcases List.mem_append.1 hb' with h | h
      ·exact .inr ⟨wU b (by simp [h]),ho b (by rw [hT,e2];simp [h])⟩
      ·rcases List.mem_append.1 h with h | h
       ·exact .inl h
       ·exact .inr ⟨wU b (by simp [h]),ho b (by rw [hT,e2];simp [h])⟩
    ·simp
    ·intro i hi
     have hi':id≠i:=fun e=>hi (by rw [e];rfl)
     exact List.getElem?_set_ne hi'
    ·intro t _;rfl
    ·intro t y hr;cases hr
    ·intro i b hr hb'
     have hi:id=i:=by simpa [Root.holder] using hr
     subst hi
     rw [List.getElem?_set_self hid] at hb'
     cases hb'
     have hhw:w'.heap[g.loc id]? = some (.cells cur e (0,0)):=(hsame _ (hsz' _ hlo) hlc).trans hh
     have k:dI g (g.reset (Root.b id c).holder Tc T' (g.loc id :: (T1++(T'++T2))) src) w w':=⟨fun _ h=>h,Nat.le_refl _,fun _ _=>rfl,fun b hb=>hsame b (S.dM b hb) (fun h=>(S.own b _ (MJ b h)).2.2 hb)⟩
     refine ⟨cur,e,T1++(T'++T2),rfl,hhw,?_,h1⟩
     refine e4 _ w' _ T' k (fun b hb=>hsame b (hsz' b (ho b ?_)) (wU b hb)) (.v hR)
     rw [hT,e2]
     rcases List.mem_append.1 hb with h | h<;>simp [h]
    ·intro i c' hr
     have hi:id=i:=by cases hr;rfl
     subst hi
     exact hlc
   ·cases hu
  ·cases hu
end
end
end Go.Rf
