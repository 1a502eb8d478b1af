import Derived.Test.YtlmldmeclgfoeaaDoorRCurveFound1
set_option linter.unusedSectionVars false
set_option linter.unusedSimpArgs false
set_option linter.unusedVariables false
namespace Go.Rf
open Go.RowKit
section
variable [Tabs]
def entE:Nat→List V→List (Nat × X)
 | _,[]=>[]
 | i,u :: us=>(i,.d (.v u)) :: entE (i+1) us
def enter (us:List V):St:={ env:=entE 0 us,box:=[] }
theorem look_ent:∀ {us:List V} {k t:Nat} {x:X},look (entE k us) t=some x→∃ u,us[t - k]? = some u∧k≤t∧x=.d (.v u)
 | [],_,_,_,h=>by simp [entE,look] at h
 | u :: us,k,t,x,h=>by
  simp only [entE,look] at h
  cases hb:Nat.beq t k with
  | true =>
   rw [hb] at h
   have:=Nat.eq_of_beq_eq_true hb
   subst this
   cases h
   exact ⟨u,by simp,Nat.le_refl _,rfl⟩
  | false =>
   rw [hb] at h
   obtain ⟨v,h1,h2,h3⟩:=look_ent h
   refine ⟨v,?_,by omega,h3⟩
   rw [show t - k=(t - (k+1))+1 by omega,List.getElem?_cons_succ]
   exact h1
def resC0 (P:Program) (st:St) (q:Nat) (t:TypeId):Option (Option Root × V):=match look st.env q with
 | some (.d (.ptr id off))=>match st.box[id]? with
  | some (.cells cs)=>match partB P t (cs.drop off) with
   | some (.v u)=>some (none,u)
   | some (.d (.v u))=>match u.noOwn with
    | true=>some (none,u)
    | false=>none
   | some .own=>match rootVal st (.b id off) with
    | some u=>some (some (.b id off),u)
    | none=>none
   | _=>none
  | _=>none
 | _=>none
def resM (P:Program) (st:St) (q:Nat) (t:TypeId):Option (Option Root × V):=match look st.env q with
 | some (.d (.ptr id off))=>match Nat.beq off 0 with
  | true=>match st.box[id]? with
   | some (.cells cs)=>match rowT P t with
    | some true=>match sizeT P t with
     | some n=>match Nat.beq n cs.length with
      | true=>match undv cs with
       | some us=>some (some (.b id 0),.agg us)
       | none=>none
      | false=>none
     | none=>none
    | _=>none
   | _=>none
  | false=>none
 | _=>none
def resC (P:Program) (st:St) (q:Nat) (t:TypeId):Option (Option Root × V):=match resC0 P st q t with
 | some x=>some x
 | none=>resM P st q t
def resL (P:Program) (st:St):List ResultVar→Option (List (Option Root × V))
 | []=>some []
 | .tmp t :: rs=>match peek st (.tmp t) with
  | some (r,u)=>match resL P st rs with
   | some l=>some ((match u.noOwn with | true=>none | false=>some r,u) :: l)
   | none=>none
  | none=>none
 | .cell q t :: rs=>match resC P st q t with
  | some x=>match resL P st rs with
   | some l=>some (x :: l)
   | none=>none
  | none=>none
def freeB (r:Root):List (Option Root × V)→Bool
 | []=>true
 | (some q,_) :: l=>match holdB r q with
  | true=>false
  | false=>freeB r l
 | (none,_) :: l=>freeB r l
def distB:List (Option Root × V)→Bool
 | []=>true
 | (some r,_) :: l=>match freeB r l with
  | true=>distB l
  | false=>false
 | (none,_) :: l=>distB l
def resV:List (Option Root × V)→V
 | [(_,u)]=>u
 | l=>.tup (l.map (·.2))
def fin (P:Program) (fn:Func) (r:V):Exit→St→Prop
 | .normal,st | .ret,st=>∃ l,resL P st fn.results.toList=some l∧distB l=true∧Fit (resV l) r
 | _,_=>False
section
variable {P:Program} {C:Ctx} {g:G} {st:St} {a:Act} {w:World}
def resF (tmps:Array Value):ResultVar→Sem Value
 | .tmp t=>pure (tmps.getD t undef)
 | .cell a t=>do loadVar t (← asAddr (tmps.getD a undef))
theorem results_eq (fn:Func) (tmps:Array Value):results fn tmps=(do let vs ← fn.results.mapM (resF tmps);pure (if h:vs.size=1 then vs[0] else .tuple vs)):=by
 unfold results
 congr 2
theorem freeB_ok {r:Root}:∀ {l:List (Option Root × V)},freeB r l=true→∀ q u,(some q,u)∈l→r.holder≠q.holder
 | [],_,q,u,h=>by cases h
 | (some q',u') :: l,hf,q,u,h=>by
  simp only [freeB] at hf
  split at hf
  ·cases hf
  ·rename_i hb
   rcases List.mem_cons.1 h with h | h
   ·cases h
    intro e
    rw [holdB_eq e] at hb;cases hb
   ·exact freeB_ok hf q u h
 | (none,u') :: l,hf,q,u,h=>by
  rcases List.mem_cons.1 h with h | h
  ·cases h
  ·exact freeB_ok (by simpa only [freeB] using hf) q u h
theorem resC0_ok (S:SRep C g st a w) {q:Nat} {t:TypeId} {ro:Option Root} {u:V} (h:resC0 P st q t=some (ro,u)) :
 ∃ v T,(resF a.tmps (.cell q t)).run P w=.ok v w∧Rep g.pub w v u T∧T.Nodup∧(∀ r,ro=some r→∀ b∈T,g.own b=some r.holder)∧(ro=none→T=[]):=by
 unfold resC0 at h
 split at h
 ·rename_i id off hl
  split at h
  ·rename_i cs hb
   obtain ⟨_,h2,_⟩:=S.env q _ hl
   have h2:RepD g w (a.tmps.getD q undef) (.ptr id off) (g.TE q):=h2
   obtain ⟨⟨cur,el,A,hT,hh,hr,h1⟩,hown⟩:=S.box id _ hb
   obtain ⟨A1,B1,hAB,_,hd2⟩:=hr.cut off
   have hx:a.tmps.getD q undef=.pointer (some ⟨g.loc id,off,none⟩):=by
    generalize a.tmps.getD q undef=v at h2
    generalize g.TE q=T at h2
    cases h2
    rfl
   have hrg:w.rangeAt (g.loc id) off (cur.toList.drop off):=fun j v hj=>by
    rw [List.getElem?_drop] at hj
    simp only [World.cell?,hh]
    simpa using hj
   have exec:∀ v,(Instr.loadAt t (.pointer (some ⟨g.loc id,off,none⟩))).run P w=.ok v w→(resF a.tmps (.cell q t)).run P w=.ok v w:=fun v hv=>by
    simp only [resF,hx,asAddr,Sem.run_bind,Sem.run_pure,Result.andThen_ok]
    simpa only [Instr.loadAt,Instr.sureAddr,Sem.run_bind,Sem.run_pure,Result.andThen_ok] using hv
   cases hp:partB P t (cs.drop off) with
   | none=>rw [hp] at h;cases h
   | some pr =>
    rw [hp] at h
    unfold partB at hp
    split at hp
    ·rename_i ht
     split at hp
     ·rename_i n hn
      split at hp
      ·rename_i hle
       have hle:=Nat.le_of_ble_eq_true hle
       split at hp
       ·rename_i us hus
        split at hp
        ·rename_i hno
         cases hp
         cases h
         obtain ⟨A2,B2,_,h3,_⟩:=hd2.cut n
         rw [undv_eq hus] at h3
         have h4:=h3.undv
         have hA2:=h4.noOwn hno
         subst hA2
         exact ⟨_,[],exec _ (loadVar_agg ht hn hrg (by rw [hd2.length];exact hle)),.agg h4,List.nodup_nil,fun r hr=>(by cases hr),fun _=>rfl⟩
        ·cases hp
       ·cases hp
      ·cases hp
     ·cases hp
    ·rename_i ht
     split at hp
     ·rename_i c cs' hcs
      have hd3:=hd2
      rw [hcs] at hd3
      generalize hys:cur.toList.drop off=ys at hd3 hrg
      cases hd3 with
      | @cons v _ vs _ A2 B2 r1 r2 =>
       have hc:=hrg 0 v rfl
       rw [Nat.add_zero] at hc
       have hrun:=exec v (loadVar_one ht hc)
       split at hp
       ·cases hp
        simp only at h
        split at h
        ·rename_i u' hu
         cases h
         obtain ⟨v',T,hpv,hR,hTo,hTn⟩:=rootVal_ok S hu
         refine ⟨v',T,?_,hR,hTn,fun r hr=>by cases hr;exact hTo,fun e=>by cases e⟩
         simp only [pvR] at hpv
         split at hpv
         ·rw [hc] at hpv;cases hpv;exact hrun
         ·cases hpv
        ·cases h
       ·cases hp
       ·cases hp
       ·split at hp
        ·rename_i hno
         cases hp
         have hA2:=r1.noOwn hno
         subst hA2
         cases c with
         | v u' =>
          simp only at h
          split at h
          ·cases h
           exact ⟨v,[],hrun,r1.inv,List.nodup_nil,fun r hr=>(by cases hr),fun _=>rfl⟩
          ·cases h
         | _=>simp at h
        ·cases hp
     ·cases hp
    ·cases hp
  ·cases h
 ·cases h
theorem resM_ok (S:SRep C g st a w) {q:Nat} {t:TypeId} {ro:Option Root} {u:V} (h:resM P st q t=some (ro,u)) :
 ∃ v T,(resF a.tmps (.cell q t)).run P w=.ok v w∧Rep g.pub w v u T∧T.Nodup∧(∀ r,ro=some r→∀ b∈T,g.own b=some r.holder)∧(ro=none→T=[]):=by
 unfold resM at h
 split at h
 ·rename_i id off hl
  split at h
  ·rename_i hoff
   have hoff:=Nat.eq_of_beq_eq_true hoff
   subst hoff
   split at h
   ·rename_i cs hb
    split at h
    ·rename_i ht
     split at h
     ·rename_i n hn
      split at h
      ·rename_i hnl
       have hnl:=Nat.eq_of_beq_eq_true hnl
       split at h
       ·rename_i us hus
        cases h
        obtain ⟨_,h2,_⟩:=S.env q _ hl
        have h2:RepD g w (a.tmps.getD q undef) (.ptr id 0) (g.TE q):=h2
        obtain ⟨⟨cur,el,A,hT,hh,hr,h1⟩,hown⟩:=S.box id _ hb
        have hx:a.tmps.getD q undef=.pointer (some ⟨g.loc id,0,none⟩):=by
         generalize a.tmps.getD q undef=v at h2
         generalize g.TE q=T at h2
         cases h2
         rfl
        have hrg:w.rangeAt (g.loc id) 0 cur.toList:=fun j v hj=>by
         simp only [World.cell?,hh]
         simpa using hj
        have hlen:=hr.length
        have hload:=loadVar_agg (P:=P) ht hn hrg (by omega)
        rw [List.take_of_length_le (by omega)] at hload
        rw [undv_eq hus] at hr
        have hnd:=S.nodB id
        rw [hT] at hnd
        refine ⟨_,A,?_,.agg hr.undv,(List.nodup_cons.1 hnd).2,fun r hr b hb=>?_,fun h=>by cases h⟩
        ·simp only [resF,hx,asAddr,Sem.run_bind,Sem.run_pure,Result.andThen_ok]
         simpa only [Instr.loadAt,Instr.sureAddr,Sem.run_bind,Sem.run_pure,Result.andThen_ok] using hload
        ·cases hr
         exact hown b (by rw [hT];exact List.mem_cons_of_mem _ hb)
       ·cases h
      ·cases h
     ·cases h
    ·cases h
   ·cases h
  ·cases h
 ·cases h
theorem resC_ok (S:SRep C g st a w) {q:Nat} {t:TypeId} {ro:Option Root} {u:V} (h:resC P st q t=some (ro,u)) :
 ∃ v T,(resF a.tmps (.cell q t)).run P w=.ok v w∧Rep g.pub w v u T∧T.Nodup∧(∀ r,ro=some r→∀ b∈T,g.own b=some r.holder)∧(ro=none→T=[]):=by
 unfold resC at h
 split at h
 ·rename_i h0;cases h;exact resC0_ok S h0
 ·exact resM_ok S h
theorem resL_ok (S:SRep C g st a w):∀ {rs:List ResultVar} {l:List (Option Root × V)},resL P st rs=some l→distB l=true →
 ∃ vs T,(rs.mapM (resF a.tmps)).run P w=.ok vs w∧RepL g.pub w vs (l.map (·.2)) T∧T.Nodup ∧
  ∀ b∈T,∃ q u,(some q,u)∈l∧g.own b=some q.holder
 | [],l,h,_=>by cases h;exact ⟨[],[],rfl,.nil,List.nodup_nil,by simp⟩
 | .cell q t :: rs,l,h,hd=>by
  simp only [resL] at h
  split at h
  ·rename_i x hx
   split at h
   ·rename_i l' hl
    cases h
    obtain ⟨ro,u⟩:=x
    obtain ⟨v,T,hv,hR,hn,hown,hnone⟩:=resC_ok (P:=P) S hx
    have hmap:∀ vs,(rs.mapM (resF a.tmps)).run P w=.ok vs w→((ResultVar.cell q t :: rs).mapM (resF a.tmps)).run P w=.ok (v :: vs) w:=fun vs hvs=>by
     simp only [List.mapM_cons,Sem.run_bind,hv,Result.andThen_ok,hvs,Sem.run_pure]
    cases ro with
    | none =>
     have hT:=hnone rfl
     subst hT
     simp only [distB] at hd
     obtain ⟨vs,T',h1,h2,h3,h4⟩:=resL_ok S hl hd
     refine ⟨v :: vs,[]++T',hmap vs h1,.cons hR h2,by simpa using h3,fun b hb=>?_⟩
     obtain ⟨q,u',h5,h6⟩:=h4 b (by simpa using hb)
     exact ⟨q,u',List.mem_cons_of_mem _ h5,h6⟩
    | some r =>
     simp only [distB] at hd
     split at hd
     ·rename_i hf
      obtain ⟨vs,T',h1,h2,h3,h4⟩:=resL_ok S hl hd
      refine ⟨v :: vs,T++T',hmap vs h1,.cons hR h2,?_,fun b hb=>?_⟩
      ·refine List.nodup_append.2 ⟨hn,h3,fun b hb c hc e=>?_⟩
       subst e
       obtain ⟨q,u',h5,h6⟩:=h4 b hc
       have:=hown r rfl b hb
       rw [this] at h6
       exact freeB_ok hf q u' h5 (Option.some.inj h6)
      ·rcases List.mem_append.1 hb with hb | hb
       ·exact ⟨r,u,by simp,hown r rfl b hb⟩
       ·obtain ⟨q,u',h5,h6⟩:=h4 b hb
        exact ⟨q,u',List.mem_cons_of_mem _ h5,h6⟩
     ·cases hd
   ·cases h
  ·cases h
 | .tmp t :: rs,l,h,hd=>by
  simp only [resL] at h
  split at h
  ·rename_i r u hp
   split at h
   ·rename_i l' hl
    cases h
    obtain ⟨T,_,hR,hown,hn⟩:=peek_ok S hp
    cases hno:u.noOwn with
    | true =>
     rw [hno] at hd
     simp only at hd
     have hT:=hR.noOwn hno
     subst hT
     obtain ⟨vs,T',h1,h2,h3,h4⟩:=resL_ok S hl hd
     refine ⟨a.tmps.getD t undef :: vs,[]++T',?_,.cons hR h2,by simpa using h3,fun b hb=>?_⟩
     ·simp only [List.mapM_cons,resF,Sem.run_bind,Sem.run_pure,Result.andThen_ok,h1]
     ·obtain ⟨q,u',h5,h6⟩:=h4 b (by simpa using hb)
      exact ⟨q,u',List.mem_cons_of_mem _ h5,h6⟩
    | false =>
     rw [hno] at hd
     simp only [distB] at hd
     split at hd
     ·rename_i hf
      obtain ⟨vs,T',h1,h2,h3,h4⟩:=resL_ok S hl hd
      refine ⟨a.tmps.getD t undef :: vs,T++T',?_,.cons hR h2,?_,fun b hb=>?_⟩
      ·simp only [List.mapM_cons,resF,Sem.run_bind,Sem.run_pure,Result.andThen_ok,h1]
      ·refine List.nodup_append.2 ⟨hn,h3,fun b hb c hc e=>?_⟩
       subst e
       obtain ⟨q,u',h5,h6⟩:=h4 b hc
       have:=hown b hb
       rw [this] at h6
       exact freeB_ok hf q u' h5 (Option.some.inj h6)
      ·rcases List.mem_append.1 hb with hb | hb
       ·exact ⟨r,u,by simp,hown b hb⟩
       ·obtain ⟨q,u',h5,h6⟩:=h4 b hb
        exact ⟨q,u',List.mem_cons_of_mem _ h5,h6⟩
     ·cases hd
   ·cases h
  ·cases h
end
theorem fin_main {P:Program} {C:Ctx} {a:Act} {fn:Func} {r:V} {g':G} {st':St} {w':World} (S':SRep C g' st' a w') (hF:∀ b,¬ C.Fz b):(∃ l,resL P st' fn.results.toList=some l∧distB l=true∧Fit (resV l) r)→a.defers=[]∧∃ v,(results fn a.tmps).run P w'=.ok v w' ∧
 ∃ (v':Value) (T:List Nat) (q:Pub),Ending.returned v=.returned v'∧Calm C.W w'∧(∀ b,q b→C.W.heap.size≤b∧b < w'.heap.size)∧T.Nodup∧(∀ b∈T,C.W.heap.size≤b∧b < w'.heap.size∧¬ q b)∧Rep (fun b=>C.p0 b∨q b) w' v' r T:=by
 rintro ⟨l,hl,hd,hfit⟩
 obtain ⟨vs',T,h1,h2,h3,h4⟩:=resL_ok (P:=P) S' hl hd
 refine ⟨S'.defers,?_⟩
 have hT:∀ b∈T,C.W.heap.size≤b∧b < w'.heap.size∧¬ g'.pub b:=fun b hb=>by
  obtain ⟨q,u,_,ho⟩:=h4 b hb
  obtain ⟨k1,k2,k3⟩:=S'.own b _ ho
  exact ⟨k1.resolve_right (hF b),k2,k3⟩
 have hpub:∀ b,g'.pub b→C.p0 b∨(g'.pub b∧C.W.heap.size≤b):=fun b hb=>by
  rcases S'.pub b hb with h | h | h
  ·exact .inl h
  ·exact .inr ⟨hb,h⟩
  ·exact (hF _ h).elim
 have hcalm:Calm C.W w':=⟨S'.os,S'.tape,S'.output,S'.size,fun b hb=>S'.frame b hb (hF b)⟩
 have fin:∀ v,Rep g'.pub w' v (resV l) T→(results fn a.tmps).run P w'=.ok v w'→∃ v,(results fn a.tmps).run P w'=.ok v w' ∧
  ∃ (v':Value) (T:List Nat) (q:Pub),Ending.returned v=.returned v'∧Calm C.W w'∧(∀ b,q b→C.W.heap.size≤b∧b < w'.heap.size)∧T.Nodup∧(∀ b∈T,C.W.heap.size≤b∧b < w'.heap.size∧¬ q b)∧Rep (fun b=>C.p0 b∨q b) w' v' r T:=fun v hR hrun =>
  ⟨v,hrun,v,T,fun b=>g'.pub b∧C.W.heap.size≤b,rfl,hcalm,fun b hb=>⟨hb.2,S'.publt b hb.1⟩,h3,fun b hb=>⟨(hT b hb).1,(hT b hb).2.1,fun h=>(hT b hb).2.2 h.1⟩,(hR.keep ⟨hpub,fun _ _=>rfl⟩ (fun _ _=>rfl)).fit hfit⟩
 have hm:(results fn a.tmps).run P w'=.ok (if h:vs'.toArray.size=1 then vs'.toArray[0] else .tuple vs'.toArray) w':=by
  rw [results_eq,Sem.run_bind,Array.mapM_eq_mapM_toList,Sem.run_map,h1]
  rfl
 by_cases hsz:vs'.length=1
 ·match vs',h2,hm,hsz with
  | [v],h2,hm,_ =>
   have hll:l.length=1:=by have:=h2.length;simpa using this.symm
   match l,hll,h2,fin with
   | [(ro,u)],_,h2,fin =>
    generalize hT':T=T0 at h2 fin
    cases h2 with
    | @cons _ _ _ _ A B r1 r2 =>
     cases r2
     refine fin v (by rw [List.append_nil];exact r1) (by rw [hm];simp)
 ·refine fin (.tuple vs'.toArray) ?_ (by rw [hm];simp [hsz])
  have hll:l.length≠1:=by have:=h2.length;simp at this;omega
  have:resV l=.tup (l.map (·.2)):=by
   unfold resV
   split
   ·simp at hll
   ·rfl
  rw [this]
  exact .tup h2
theorem enter_rep {us:List V} {p:Pub} {w:World} {vs:List Value} (N:Nat) (hN:us.length≤N) (hp:∀ b,p b→b < w.heap.size) (htab:Tabs.t p w) (hr:RepL p w vs us []) :
 SRep { W:=w,p0:=p,Fz:=fun _=>False,N:=N } { pub:=p,own:=fun _=>none,n:=0,loc:=fun _=>0,TE:=fun _=>[],TB:=fun _=>[] } (enter us) { tmps:=vs.toArray++Array.replicate (N - vs.toArray.size) undef,defers:=[] } w:=by
 have hvl:vs.length=us.length:=hr.length
 refine ⟨rfl,?_,rfl,rfl,rfl,Nat.le_refl _,fun _ _ _=>rfl,fun b hb=>.inl hb,hp,rfl,?_,fun _=>List.nodup_nil,fun id b hb=>?_,fun _=>List.nodup_nil,fun b h ho=>?_,fun i l h=>(by simp at h),htab⟩
 ·simp [hvl];omega
 ·intro t x hx
  obtain ⟨u,h1,_,rfl⟩:=look_ent hx
  rw [Nat.sub_zero] at h1
  obtain ⟨v,A,h2,h3,h4⟩:=hr.get h1
  have hA:A=[]:=List.eq_nil_iff_forall_not_mem.2 fun b hb=>by cases h4 b hb
  subst hA
  have htl:t < vs.length:=by
   rcases Nat.lt_or_ge t vs.length with h | h
   ·exact h
   ·rw [List.getElem?_eq_none h] at h2;cases h2
  refine ⟨?_,?_,fun b hb=>by cases hb⟩
  ·show t < N;omega
  ·have e:({ tmps:=vs.toArray++Array.replicate (N - vs.toArray.size) undef,defers:=[] }:Act).tmps.getD t undef=v:=by
    rw [Array.getD_eq_getD_getElem?,Array.getElem?_append_left (by simpa using htl)]
    simp [h2]
   show RepD _ w _ (.v u) []
   rw [e]
   exact .v h3
 ·simp [enter] at hb
 ·cases ho
theorem con_of_good {P:Program} {f:FuncId} {fn:Func} {c:Code} {us:List V} {r:V} (hf:P.funcs[f]? = some fn) (hb:fn.body=some c) (hname:(fn.name == "runtime.NumGoroutine")=false) (hN:Nat.ble us.length fn.ntmps=true)
 (h:∀ C:Ctx,C.N=fn.ntmps→C.L.length=0→Good P C c (fin P fn r) (enter us)):Con P f us r:=by
 refine ⟨fun vs w=>by
  have h1:fn.name ≠ "runtime.NumGoroutine" := by simpa using hname
  simp [callFunc,hf,h1,hb],fun p w vs hp htab hr=>?_⟩
 have hN:=Nat.le_of_ble_eq_true hN
 have S:=enter_rep fn.ntmps hN hp htab hr
 refine calls_of_wp hf hb (wp_mono (h _ rfl rfl _ _ w S) fun e a w' ⟨g',st',S',hq⟩=>?_)
 cases e with
 | normal=>exact fin_main S' (fun _ h=>h) hq
 | ret=>exact fin_main S' (fun _ h=>h) hq
 | _=>exact hq.elim
def resO (P:Program) (fn:Func) (st:St):Option V:=match resL P st fn.results.toList with
 | some l=>match distB l with
  | true=>some (resV l)
  | false=>none
 | none=>none
theorem fin_fit {P:Program} {fn:Func} {st:St} {u r:V} (hf:Fit u r) (h:resO P fn st=some u):∃ l,resL P st fn.results.toList=some l∧distB l=true∧Fit (resV l) r:=by
 unfold resO at h
 split at h
 ·rename_i l hl
  split at h
  ·rename_i hd
   cases h
   exact ⟨l,hl,hd,hf⟩
  ·cases h
 ·cases h
theorem Good.done {P:Program} {C:Ctx} {fn:Func} {st:St} {r:V} (h:resO P fn st=some r):Good P C .ret (fin P fn r) st:=Good.ret (fin_fit (.refl r) h)
theorem fin.done {P:Program} {fn:Func} {st:St} {r:V} (h:resO P fn st=some r):fin P fn r .normal st:=fin_fit (.refl r) h
theorem fin.doneR {P:Program} {fn:Func} {st:St} {r:V} (h:resO P fn st=some r):fin P fn r .ret st:=fin_fit (.refl r) h
def co (m:Nat) (x:X):Option X:=match m with
 | 0=>some x
 | 1=>match x with
  | .d (.v (.nil e sz))=>some (.d (.v (.row (some e) sz [])))
  | _=>none
 | 2=>match x with
  | .d (.v (.nil _ sz))=>some (.d (.v (.row none sz [])))
  | _=>none
 | 4=>match x with
  | .d (.v (.kb b))=>some (.d (.v (.lit (.bool b))))
  | _=>none
 | _=>none
def restr (l:List (Nat × X)):List (Nat × Nat)→Option (List (Nat × X))
 | []=>some []
 | (t,m) :: ks=>match look l t with
  | some x=>match co m x with
   | some y=>match restr l ks with
    | some r=>some ((t,y) :: r)
    | none=>none
   | none=>none
  | none=>none
def Wk (C:Ctx) (st st':St):Prop:=∀ g a w,SRep C g st a w→∃ g',SRep C g' st' a w
theorem look_restr {l:List (Nat × X)}:∀ {ks:List (Nat × Nat)} {r:List (Nat × X)} {t:Nat} {y:X},restr l ks=some r→look r t=some y→∃ m x,look l t=some x∧co m x=some y
 | [],r,t,y,h,hy=>by cases h;simp [look] at hy
 | (s,m) :: ks,r,t,y,h,hy=>by
  simp only [restr] at h
  split at h
  ·rename_i x hx
   split at h
   ·rename_i z hz
    split at h
    ·rename_i r' hr
     cases h
     simp only [look] at hy
     cases hb:Nat.beq t s with
     | true =>
      rw [hb] at hy
      cases hy
      have:=Nat.eq_of_beq_eq_true hb
      subst this
      exact ⟨m,x,hx,hz⟩
     | false =>
      rw [hb] at hy
      exact look_restr hr hy
    ·cases h
   ·cases h
  ·cases h
theorem Wk.of {C:Ctx} (ks:List (Nat × Nat)) {st:St} {env:List (Nat × X)} {box:List Box} (h:restr st.env ks=some env) (hb:st.box=box):Wk C st ⟨env,box⟩:=by
 subst hb
 intro g a w S
 refine ⟨g,S.change (fun _=>False) S.defers S.tmps rfl rfl rfl (Nat.le_refl _) (fun _ h=>h) (fun _ h=>.inl h) S.publt S.n (Nat.le_refl _) (fun _ _=>rfl) (fun _ _ _=>rfl)
  (fun b h ho _=>ho) (fun t _=>⟨rfl,rfl⟩) (fun i _=>⟨rfl,rfl⟩) (fun t y hy=>?_) (fun id b _ h=>h.elim) (fun t h=>h.elim) (fun i h=>h.elim) (fun b h ho=>.inl ⟨ho,(S.own b h ho).2.2⟩)⟩
 obtain ⟨m,x,hx,hc⟩:=look_restr h hy
 have same:x=y→(¬ False∧(look st.env t=some y∧(∀ h,y.rootH=some h→¬ False)∨y=.dead∧∃ y,look st.env t=some y))∨(t < C.N∧XRep g a w (a.tmps.getD t undef) y (g.TE t)∧(∀ b∈g.TE t,g.own b=some (.inl t))):=fun e=>by
  subst e
  exact .inl ⟨fun h=>h,.inl ⟨hx,fun _ _ h=>h⟩⟩
 unfold co at hc
 split at hc
 ·exact same (Option.some.inj hc)
 ·split at hc
  ·cases hc
   obtain ⟨h1,h2,h3⟩:=S.env t _ hx
   exact .inr ⟨h1,.v ((RepD.inv h2).fit (.nilO _ _)),h3⟩
  ·cases hc
 ·split at hc
  ·cases hc
   obtain ⟨h1,h2,h3⟩:=S.env t _ hx
   exact .inr ⟨h1,.v ((RepD.inv h2).fit (.nilS _ _ _)),h3⟩
  ·cases hc
 ·split at hc
  ·cases hc
   obtain ⟨h1,h2,h3⟩:=S.env t _ hx
   have hv:=RepD.kb h2
   have hT:g.TE t=[]:=(RepD.inv h2).noOwn rfl
   refine .inr ⟨h1,?_,h3⟩
   rw [hv,hT]
   exact .v (.lit _)
  ·cases hc
 ·cases hc
section
variable {P:Program} {C:Ctx} {Q:Exit→St→Prop} {st st':St}
theorem Wk.good {c:Code} (W:Wk C st st') (h:Good P C c Q st'):Good P C c Q st:=fun g a w S=>let ⟨g',S'⟩:=W g a w S;h g' a w S'
theorem Wk.sh (t:Nat) {d u:D} (ht:look st.env t=some (.d d)) (hu:d.shr=u) (h:Wk C (st.setT t (.d u)) st'):Wk C st st':=fun g a w S=>by
 subst hu
 exact h _ a w (S.shareT ht).2
end
theorem ifS {α:Type} {p:Prop} [Decidable p] {x:Option α} {r:α} (h:(if p then x else none)=some r):p∧x=some r:=by
 by_cases c:p
 ·rw [if_pos c] at h;exact ⟨c,h⟩
 ·rw [if_neg c] at h;cases h
theorem ifC {α:Type} {p:Prop} [Decidable p] {x y r:α} (h:(if p then x else y)=r):(p∧x=r)∨(¬ p∧y=r):=by
 by_cases c:p
 ·rw [if_pos c] at h;exact .inl ⟨c,h⟩
 ·rw [if_neg c] at h;exact .inr ⟨c,h⟩
theorem bindS {α β:Type} {x:Option α} {f:α→Option β} {r:β} (h:x.bind f=some r):∃ t,x=some t∧f t=some r:=Option.bind_eq_some_iff.1 h
mutual
def D.bnd (n:Nat):D→Bool
 | .v _=>true
 | .ptr i _=>Nat.blt i n
 | .agg cs=>bndL n cs
 | .tup cs=>bndL n cs
 | .fn _ cs=>bndL n cs
def bndL (n:Nat):List D→Bool
 | []=>true
 | d :: ds=>match d.bnd n with
  | true=>bndL n ds
  | false=>false
end
def Root.bnd (n:Nat):Root→Bool
 | .t _=>true
 | .b i _=>Nat.blt i n
def X.bnd (n:Nat):X→Bool
 | .d y=>D.bnd n y
 | .al p=>Root.bnd n p.root
 | .pa r _ _ _=>Root.bnd n r
 | .dead=>true
def bndE (n:Nat):List (Nat × X)→Bool
 | []=>true
 | (_,x) :: l=>match x.bnd n with
  | true=>bndE n l
  | false=>false
def Box.bnd (n:Nat):Box→Bool
 | .cells cs=>bndL n cs
 | _=>true
def bndB (n:Nat):List Box→Bool
 | []=>true
 | b :: l=>match b.bnd n with
  | true=>bndB n l
  | false=>false
theorem bndE_look {n:Nat}:∀ {l:List (Nat × X)} {t:Nat} {x:X},bndE n l=true→look l t=some x→x.bnd n=true
 | [],_,_,_,h=>by simp [look] at h
 | (k,y) :: l,t,x,hb,h=>by
  simp only [bndE] at hb
  split at hb
  ·rename_i hy
   simp only [look] at h
   cases hk:Nat.beq t k with
   | true=>rw [hk] at h;cases h;exact hy
   | false=>rw [hk] at h;exact bndE_look hb h
  ·cases hb
theorem bndB_get {n:Nat}:∀ {l:List Box} {i:Nat} {b:Box},bndB n l=true→l[i]? = some b→b.bnd n=true
 | [],_,_,_,h=>by simp at h
 | c :: l,i,b,hb,h=>by
  simp only [bndB] at hb
  split at hb
  ·rename_i hc
   cases i with
   | zero=>simp only [List.getElem?_cons_zero,Option.some.injEq] at h;subst h;exact hc
   | succ i=>simp only [List.getElem?_cons_succ] at h;exact bndB_get hb h
  ·cases hb
def G.shrink (g:G) (n:Nat):G :=
 { g with n:=n,own:=fun b=>match g.own b with
     | some (.inr id)=>if id < n then some (.inr id) else none
     | x=>x,TB:=fun i=>if i < n then g.TB i else [] }
mutual
theorem RepD.shrink {g:G} {n:Nat} {w:World} {v:Value} {d:D} {T:List Nat}:RepD g w v d T→d.bnd n=true→RepD (g.shrink n) w v d T
 | .v h,_=>.v h
 | .ptr (id:=id) h,hb=>RepD.ptr (g:=g.shrink n) (by simpa [D.bnd,G.shrink] using hb)
 | .agg h,hb=>.agg (h.shrink (by simpa [D.bnd] using hb))
 | .tup h,hb=>.tup (h.shrink (by simpa [D.bnd] using hb))
 | .fn h,hb=>.fn (h.shrink (by simpa [D.bnd] using hb))
theorem RepDL.shrink {g:G} {n:Nat} {w:World} {vs:List Value} {ds:List D} {T:List Nat}:RepDL g w vs ds T→bndL n ds=true→RepDL (g.shrink n) w vs ds T
 | .nil,_=>.nil
 | .cons (d:=d) h1 h2,hb=>by
  simp only [bndL] at hb
  cases hc:d.bnd n with
  | false=>rw [hc] at hb;cases hb
  | true=>rw [hc] at hb;exact .cons (h1.shrink hc) (h2.shrink hb)
end
section
variable {C:Ctx} {g:G} {st:St} {a:Act} {w:World}
theorem own_shrinkT {n b t:Nat}:(g.shrink n).own b=some (.inl t)↔g.own b=some (.inl t):=by
 simp only [G.shrink]
 split
 ·rename_i id h;rw [h];split<;>simp
 ·rfl
theorem own_shrinkB {n b i:Nat} (hi:i < n):(g.shrink n).own b=some (.inr i)↔g.own b=some (.inr i):=by
 simp only [G.shrink]
 split
 ·rename_i id h
  rw [h]
  split
  ·rfl
  ·rename_i hn
   constructor
   ·intro e;cases e
   ·intro e;cases e;exact (hn hi).elim
 ·rfl
theorem pvR_shrink {n:Nat} (hn:n≤g.n) {r:Root} (hb:r.bnd n=true):pvR (g.shrink n) a w r=pvR g a w r:=by
 cases r with
 | t x=>rfl
 | b id c =>
  have hi:id < n:=by simpa [Root.bnd] using hb
  simp only [pvR]
  have e1:(id < (g.shrink n).n∧(g.shrink n).own ((g.shrink n).loc id)=some (.inr id))=(id < g.n∧g.own (g.loc id)=some (.inr id)):=by
   apply propext
   constructor
   ·rintro ⟨h1,h2⟩;exact ⟨Nat.lt_of_lt_of_le hi hn,(own_shrinkB hi).1 h2⟩
   ·rintro ⟨h1,h2⟩;exact ⟨hi,(own_shrinkB hi).2 h2⟩
  simp only [e1]
  rfl
theorem holder_shrink {n b:Nat} {r:Root} (hb:r.bnd n=true):(g.shrink n).own b=some r.holder↔g.own b=some r.holder:=by
 cases r with
 | t x=>exact own_shrinkT
 | b id c=>exact own_shrinkB (by simpa [Root.bnd] using hb)
theorem XRep.shrink {n:Nat} (hn:n≤g.n) {v:Value} {x:X} {T:List Nat} (h:XRep g a w v x T) (hb:x.bnd n=true):XRep (g.shrink n) a w v x T:=by
 cases x with
 | d d=>exact RepD.shrink h hb
 | al p =>
  refine ⟨h.1,?_⟩
  have h:=h.2
  cases p with
  | top r =>
   have hb:Root.bnd n r=true:=hb
   simp only [pv] at h ⊢;rw [pvR_shrink hn hb];exact h
  | elt r sz i j =>
   have hb:Root.bnd n r=true:=hb
   simp only [pv] at h ⊢
   rw [pvR_shrink hn hb]
   cases hq:(pvR g a w r).bind Value.ownBlock with
   | none=>rw [hq] at h;cases h
   | some b =>
    rw [hq] at h
    simp only at h ⊢
    by_cases ho:g.own b=some r.holder
    ·rw [if_pos ho] at h;rw [if_pos ((holder_shrink hb).2 ho)];exact h
    ·rw [if_neg ho] at h;cases h
 | pa r sz i j =>
  obtain ⟨h1,b,h2,h3,h4⟩:=h
  exact ⟨h1,b,by rw [pvR_shrink hn hb];exact h2,(holder_shrink hb).2 h3,h4⟩
 | dead=>trivial
theorem SRep.shrink (S:SRep C g st a w) {n:Nat} (hn:n≤st.box.length) (hE:bndE n st.env=true) (hB:bndB n (st.box.take n)=true) (hL:C.L.length≤n):SRep C (g.shrink n) ⟨st.env,st.box.take n⟩ a w:=by
 have hgn:n≤g.n:=by rw [S.n];exact hn
 refine ⟨S.defers,S.tmps,S.os,S.tape,S.output,S.size,S.frame,S.pub,S.publt,?_,?_,S.nodE,?_,?_,?_,fun i l h=>⟨Nat.lt_of_lt_of_le (List.getElem?_eq_some_iff.1 h).1 hL,(S.lent i l h).2⟩,S.tab⟩
 ·simp only [List.length_take,G.shrink];omega
 ·intro t x hx
  obtain ⟨h1,h2,h3⟩:=S.env t x hx
  exact ⟨h1,h2.shrink hgn (bndE_look hE hx),fun b hb=>own_shrinkT.2 (h3 b hb)⟩
 ·intro id b hb
  have hi:id < n:=by
   rcases Nat.lt_or_ge id n with h | h
   ·exact h
   ·rw [List.getElem?_eq_none (by rw [List.length_take];omega)] at hb;cases hb
  have hb':st.box[id]? = some b:=by rw [List.getElem?_take] at hb;split at hb<;>simp_all
  obtain ⟨h1,h2⟩:=S.box id b hb'
  have hT:(g.shrink n).TB id=g.TB id:=by simp [G.shrink,hi]
  rw [hT]
  refine ⟨?_,fun c hc=>(own_shrinkB hi).2 (h2 c hc)⟩
  have hbb:=bndB_get hB hb
  cases b with
  | cells cs =>
   obtain ⟨cur,e,A,k1,k2,k3,k4⟩:=h1
   exact ⟨cur,e,A,k1,k2,k3.shrink hbb,k4⟩
  | iter s pos=>exact h1
  | gone=>exact h1
 ·intro id
  simp only [G.shrink]
  split
  ·exact S.nodB id
  ·exact List.nodup_nil
 ·intro b h ho
  have:g.own b=some h:=by
   simp only [G.shrink] at ho
   split at ho
   ·rename_i id hq
    split at ho
    ·rw [hq];exact ho
    ·cases ho
   ·exact ho
  exact S.own b h this
end
theorem Wk.ofB {C:Ctx} {L:Nat} (hL:C.L.length=L) (n:Nat) (ks:List (Nat × Nat)) {st:St} {env:List (Nat × X)} {box:List Box} (h:restr st.env ks=some env) (hE:(Nat.ble n st.box.length && bndE n env && bndB n (st.box.take n) && Nat.ble L n)=true) (hb:st.box.take n=box):Wk C st ⟨env,box⟩:=by
 subst hb
 intro g a w S
 obtain ⟨g',S'⟩:=Wk.of ks h rfl g a w S
 simp only [Bool.and_eq_true] at hE
 exact ⟨_,S'.shrink (Nat.le_of_ble_eq_true hE.1.1.1) hE.1.1.2 hE.1.2 (by rw [hL];exact Nat.le_of_ble_eq_true hE.2)⟩
theorem Wk.box {C:Ctx} (id:Nat) {st st':St} {c d:List V} (hb:st.box[id]? = some (.cells (dv c))) (f:FitL c d) (h:Wk C { st with box:=st.box.set id (.cells (dv d)) } st'):Wk C st st':=fun g a w S=>by
 have hid:id < st.box.length:=(List.getElem?_eq_some_iff.1 hb).1
 refine h g a w (S.change (fun h=>h=.inr id) S.defers S.tmps rfl rfl rfl (Nat.le_refl _) (fun _ h=>h) (fun _ h=>.inl h) S.publt (by simpa using S.n) (Nat.le_refl _) (fun _ _=>rfl) (fun _ _ _=>rfl)
  (fun b h ho _=>ho) (fun t _=>⟨rfl,rfl⟩) (fun i hi=>⟨rfl,?_⟩) (fun t y hy=>?_) (fun i b hb' hc=>?_) (fun t h=>by cases h) (fun i h=>by cases h;exact S.nodB id) (fun b h ho=>.inl ⟨ho,(S.own b h ho).2.2⟩))
 ·rw [List.getElem?_set_ne (fun e=>hi (by rw [e]))]
 ·by_cases hr:∀ h,y.rootH=some h→¬ h=.inr id
  ·exact .inl ⟨(fun e=>by cases e),.inl ⟨hy,hr⟩⟩
  ·obtain ⟨h1,h2,h3⟩:=S.env t y hy
   exact .inr ⟨h1,h2,h3⟩
 ·cases hc
  rw [List.getElem?_set_self hid] at hb'
  cases hb'
  obtain ⟨h1,h2⟩:=S.box id _ hb
  exact ⟨h1.fitV f,h2⟩
theorem Wk.fx {C:Ctx} (t:Nat) {st st':St} {x u:V} (hl:look st.env t=some (.d (.v x))) (hf:Fit x u) (h:Wk C { st with env:=(t,.d (.v u)) :: st.env } st'):Wk C st st':=fun g a w S=>by
 obtain ⟨k1,k2,k3⟩:=S.env t _ hl
 refine h g a w (S.change (fun _=>False) S.defers S.tmps rfl rfl rfl (Nat.le_refl _) (fun _ h=>h) (fun _ h=>.inl h) S.publt S.n (Nat.le_refl _) (fun _ _=>rfl) (fun _ _ _=>rfl)
  (fun b h ho _=>ho) (fun t _=>⟨rfl,rfl⟩) (fun i _=>⟨rfl,rfl⟩) (fun s y hy=>?_) (fun id b _ h=>h.elim) (fun t h=>h.elim) (fun i h=>h.elim) (fun b h ho=>.inl ⟨ho,(S.own b h ho).2.2⟩))
 simp only [look] at hy
 cases hb:Nat.beq s t with
 | true =>
  rw [hb] at hy
  cases hy
  have:=Nat.eq_of_beq_eq_true hb
  subst this
  exact .inr ⟨k1,.v ((RepD.inv k2).fit hf),k3⟩
 | false =>
  rw [hb] at hy
  exact .inl ⟨fun h=>h,.inl ⟨hy,fun _ _ h=>h⟩⟩
def ren (p:List Nat) (id:Nat):Nat:=match idxOf id p with
 | some j=>j
 | none=>id
mutual
def D.ren (p:List Nat):D→D
 | .v x=>.v x
 | .ptr i o=>.ptr (Rf.ren p i) o
 | .agg cs=>.agg (renDL p cs)
 | .tup cs=>.tup (renDL p cs)
 | .fn f cs=>.fn f (renDL p cs)
def renDL (p:List Nat):List D→List D
 | []=>[]
 | d :: ds=>d.ren p :: renDL p ds
end
def Root.ren (p:List Nat):Root→Root
 | .t x=>.t x
 | .b i c=>.b (Rf.ren p i) c
def Pl.ren (p:List Nat):Pl→Pl
 | .top r=>.top (r.ren p)
 | .elt r sz i j=>.elt (r.ren p) sz i j
def X.ren (p:List Nat):X→X
 | .d x=>.d (x.ren p)
 | .al q=>.al (q.ren p)
 | .pa r sz i j=>.pa (r.ren p) sz i j
 | .dead=>.dead
def renE (p:List Nat):List (Nat × X)→List (Nat × X)
 | []=>[]
 | (t,x) :: l=>(t,x.ren p) :: renE p l
def Box.ren (p:List Nat):Box→Box
 | .cells cs=>.cells (renDL p cs)
 | b=>b
def renB (p:List Nat) (bx:List Box):List Box:=p.map fun i=>match bx[i]? with
 | some b=>b.ren p
 | none=>.gone
def permOk (p:List Nat) (n:Nat):Bool:=Nat.beq p.length n && distN p && p.all (fun i=>Nat.blt i n)
theorem look_renE (p:List Nat):∀ (l:List (Nat × X)) (t:Nat),look (renE p l) t=(look l t).map (X.ren p)
 | [],_=>rfl
 | (k,x) :: l,t=>by
  simp only [renE,look]
  cases Nat.beq t k with
  | true=>rfl
  | false=>exact look_renE p l t
section
variable {p:List Nat} {n:Nat}
theorem perm_get (hp:permOk p n=true) {id:Nat} (hid:id < n):∃ j,idxOf id p=some j∧j < n:=by
 simp only [permOk,Bool.and_eq_true] at hp
 obtain ⟨⟨h1,h2⟩,h3⟩:=hp
 have h1:=Nat.eq_of_beq_eq_true h1
 have h2:=distN_ok h2
 cases hj:idxOf id p with
 | some j=>exact ⟨j,rfl,by rw [← h1];exact (List.getElem?_eq_some_iff.1 (idxOf_get hj)).1⟩
 | none =>
  exfalso
  have hn:=idxOf_none hj
  have hsub:p ⊆ (List.range n).erase id:=fun x hx=>by
   have hx':x < n:=by simpa using List.all_eq_true.1 h3 x hx
   exact (List.mem_erase_of_ne (fun e:x=id=>hn (by rw [← e];exact hx))).2 (List.mem_range.2 hx')
  have:=List.Nodup.length_le_of_subset h2 hsub
  rw [List.length_erase_of_mem (List.mem_range.2 hid),List.length_range] at this
  omega
theorem ren_lt (hp:permOk p n=true) {id:Nat} (hid:id < n):ren p id < n∧p[ren p id]? = some id:=by
 obtain ⟨j,h1,h2⟩:=perm_get hp hid
 simp only [ren,h1]
 exact ⟨h2,idxOf_get h1⟩
theorem ren_ge (hp:permOk p n=true) {id:Nat} (hid:¬ id < n):ren p id=id:=by
 simp only [permOk,Bool.and_eq_true] at hp
 cases hj:idxOf id p with
 | some j =>
  have:=List.all_eq_true.1 hp.2 id (List.mem_of_getElem? (idxOf_get hj))
  exact (hid (by simpa using this)).elim
 | none=>simp only [ren,hj]
theorem ren_inj (hp:permOk p n=true) {i j:Nat} (h:ren p i=ren p j):i=j:=by
 by_cases hi:i < n
 ·by_cases hj:j < n
  ·have h1:=(ren_lt hp hi).2
   rw [h,(ren_lt hp hj).2] at h1
   exact (Option.some.inj h1).symm
  ·rw [ren_ge hp hj] at h
   have:=(ren_lt hp hi).1
   omega
 ·by_cases hj:j < n
  ·rw [ren_ge hp hi] at h
   have:=(ren_lt hp hj).1
   omega
  ·rw [ren_ge hp hi,ren_ge hp hj] at h;exact h
end
def renH (p:List Nat):Nat ⊕ Nat→Nat ⊕ Nat
 | .inl t=>.inl t
 | .inr i=>.inr (ren p i)
def G.ren (g:G) (p:List Nat):G :=
 { pub:=g.pub,own:=fun b=>(g.own b).map (renH p),n:=g.n,loc:=fun k=>match p[k]? with
     | some i=>g.loc i
     | none=>g.loc k,TE:=g.TE,TB:=fun k=>match p[k]? with
     | some i=>g.TB i
     | none=>g.TB k }
section
variable {C:Ctx} {g:G} {st:St} {a:Act} {w:World} {p:List Nat}
theorem G.ren_loc (hp:permOk p g.n=true) {id:Nat} (hid:id < g.n):(g.ren p).loc (Rf.ren p id)=g.loc id:=by simp only [G.ren,(ren_lt hp hid).2]
theorem G.ren_TB (hp:permOk p g.n=true) {id:Nat} (hid:id < g.n):(g.ren p).TB (Rf.ren p id)=g.TB id:=by simp only [G.ren,(ren_lt hp hid).2]
theorem holder_ren (r:Root):(r.ren p).holder=renH p r.holder:=by cases r<;>rfl
theorem renH_inj (hp:permOk p g.n=true) {h k:Nat ⊕ Nat} (e:renH p h=renH p k):h=k:=by
 cases h<;>cases k<;>simp only [renH,Sum.inl.injEq,Sum.inr.injEq,reduceCtorEq] at e
 ·rw [e]
 ·rw [ren_inj hp e]
theorem own_ren (hp:permOk p g.n=true) {b:Nat} {h:Nat ⊕ Nat}:(g.ren p).own b=some (renH p h)↔g.own b=some h:=by
 simp only [G.ren,Option.map_eq_some_iff]
 constructor
 ·rintro ⟨k,h1,h2⟩
  rw [h1,renH_inj hp h2]
 ·intro h1;exact ⟨h,h1,rfl⟩
mutual
theorem RepD.ren (hp:permOk p g.n=true) {v:Value} {d:D} {T:List Nat}:RepD g w v d T→RepD (g.ren p) w v (d.ren p) T
 | .v h=>.v h
 | .ptr h=>by
  rw [← G.ren_loc hp h,D.ren]
  exact .ptr (ren_lt hp h).1
 | .agg h=>by rw [D.ren];exact .agg (h.ren hp)
 | .tup h=>by rw [D.ren];exact .tup (h.ren hp)
 | .fn h=>by rw [D.ren];exact .fn (h.ren hp)
theorem RepDL.ren (hp:permOk p g.n=true) {vs:List Value} {ds:List D} {T:List Nat}:RepDL g w vs ds T→RepDL (g.ren p) w vs (renDL p ds) T
 | .nil=>.nil
 | .cons h1 h2=>by rw [renDL];exact .cons (h1.ren hp) (h2.ren hp)
end
theorem pvR_ren (hp:permOk p g.n=true) {r:Root} {v:Value} (h:pvR g a w r=some v):pvR (g.ren p) a w (r.ren p)=some v:=by
 cases r with
 | t x=>exact h
 | b id c =>
  simp only [pvR,Root.ren] at h ⊢
  split at h
  ·rename_i hc
   have e1:=G.ren_loc hp hc.1
   have e2:(g.ren p).own (g.loc id)=some (.inr (Rf.ren p id)):=(own_ren hp (h:=.inr id)).2 hc.2
   rw [if_pos ⟨(ren_lt hp hc.1).1,by rw [e1];exact e2⟩,e1]
   exact h
  ·cases h
theorem XRep.ren (hp:permOk p g.n=true) {v:Value} {x:X} {T:List Nat} (h:XRep g a w v x T):XRep (g.ren p) a w v (x.ren p) T:=by
 cases x with
 | d d=>exact RepD.ren hp h
 | al q =>
  refine ⟨h.1,?_⟩
  have h:=h.2
  cases q with
  | top r=>exact pvR_ren hp h
  | elt r sz i j =>
   simp only [pv,Pl.ren] at h ⊢
   cases hv:pvR g a w r with
   | none=>rw [hv] at h;cases h
   | some u =>
    rw [hv] at h
    rw [pvR_ren hp hv]
    simp only [Option.bind_some] at h ⊢
    cases hb:u.ownBlock with
    | none=>rw [hb] at h;cases h
    | some b =>
     rw [hb] at h
     simp only at h ⊢
     split at h
     ·rename_i ho
      rw [if_pos (by rw [holder_ren];exact (own_ren hp).2 ho)];exact h
     ·cases h
 | pa r sz i j =>
  obtain ⟨h1,b,h2,h3,h4⟩:=h
  refine ⟨h1,b,?_,by rw [holder_ren];exact (own_ren hp).2 h3,h4⟩
  cases hu:pvR g a w r with
  | none=>rw [hu] at h2;cases h2
  | some u=>rw [hu] at h2;rw [pvR_ren hp hu];exact h2
 | dead=>trivial
theorem SRep.ren (S:SRep C g st a w) (hp:permOk p st.box.length=true) (hL:C.L.length=0∨∀ i,i < C.L.length→p[i]? = some i):SRep C (g.ren p) ⟨renE p st.env,renB p st.box⟩ a w:=by
 have hp':permOk p g.n=true:=by rw [S.n];exact hp
 have hpl:p.length=g.n:=by simp only [permOk,Bool.and_eq_true] at hp';exact Nat.eq_of_beq_eq_true hp'.1.1
 refine ⟨S.defers,S.tmps,S.os,S.tape,S.output,S.size,S.frame,S.pub,S.publt,?_,?_,S.nodE,?_,?_,?_,?_,S.tab⟩
 ·simp only [G.ren,renB,List.length_map];exact hpl.symm
 ·intro t x hx
  simp only [look_renE] at hx
  cases hl:look st.env t with
  | none=>rw [hl] at hx;cases hx
  | some y =>
   rw [hl] at hx
   simp only [Option.map_some,Option.some.injEq] at hx
   subst hx
   obtain ⟨h1,h2,h3⟩:=S.env t y hl
   exact ⟨h1,XRep.ren hp' h2,fun b hb=>(own_ren hp' (h:=.inl t)).2 (h3 b hb)⟩
 ·intro k b hb
  simp only [renB,List.getElem?_map,Option.map_eq_some_iff] at hb
  obtain ⟨i,hi,rfl⟩:=hb
  have hin:i < g.n:=by
   simp only [permOk,Bool.and_eq_true] at hp'
   simpa using List.all_eq_true.1 hp'.2 i (List.mem_of_getElem? hi)
  have hil:i < st.box.length:=by rw [← S.n];exact hin
  have hk:Rf.ren p i=k:=by
   have hd:p.Nodup:=by simp only [permOk,Bool.and_eq_true] at hp';exact distN_ok hp'.1.2
   exact nodup_idx hd (ren_lt hp' hin).2 hi
  obtain ⟨b0,hb0⟩:∃ b0,st.box[i]? = some b0:=⟨_,List.getElem?_eq_getElem hil⟩
  obtain ⟨h1,h2⟩:=S.box i b0 hb0
  rw [hb0,← hk,G.ren_loc hp' hin,G.ren_TB hp' hin]
  refine ⟨?_,fun b hb=>(own_ren hp' (h:=.inr i)).2 (h2 b hb)⟩
  cases b0 with
  | cells cs =>
   obtain ⟨cur,e,A,q1,q2,q3,q4⟩:=h1
   exact ⟨cur,e,A,q1,q2,q3.ren hp',q4⟩
  | iter s pos=>exact h1
  | gone=>exact h1
 ·intro k
  simp only [G.ren]
  split
  ·exact S.nodB _
  ·exact S.nodB _
 ·intro b h ho
  simp only [G.ren,Option.map_eq_some_iff] at ho
  obtain ⟨k,h1,_⟩:=ho
  exact S.own b k h1
 ·intro i l h
  obtain ⟨h1,h2⟩:=S.lent i l h
  have hlt:=(List.getElem?_eq_some_iff.1 h).1
  refine ⟨h1,?_⟩
  rcases hL with hL | hL
  ·omega
  ·simp only [G.ren,hL i hlt];exact h2
end
theorem SRep.publish {C:Ctx} {g:G} {st:St} {a:Act} {w:World} (S:SRep C g st a w) {t id off:Nat} {us:List V} (ht:look st.env t=some (.d (.ptr id off))) (hb:st.box[id]? = some (.cells (dv us))) :
 ∃ g',SRep C g' { env:=(t,.d (.v (.pt ((shrL us).drop off)))) :: kill (isB id) st.env,box:=st.box.set id .gone } a w:=by
 obtain ⟨htN,htx,hto⟩:=S.env t _ ht
 have htx:RepD g w (a.tmps.getD t undef) (.ptr id off) (g.TE t):=htx
 obtain ⟨⟨cur,el,A,hT,hh,hr,hc1⟩,hown⟩:=S.box id _ hb
 have hid:id < st.box.length:=(List.getElem?_eq_some_iff.1 hb).1
 have hTt:g.TE t=[]:=htx.noOwn rfl
 have hx:a.tmps.getD t undef=.pointer (some ⟨g.loc id,off,none⟩):=by
  generalize a.tmps.getD t undef=v at htx
  generalize g.TE t=T at htx
  cases htx
  rfl
 let g':G:={ g with pub:=g.pub.share (g.TB id),own:=fun b=>if b∈g.TB id then none else g.own b,TB:=fun i=>if i=id then [] else g.TB i }
 have k:KeepsG g g' w w:=⟨fun b hb=>.inl hb,Nat.le_refl _,fun _ _=>rfl,fun _ _=>rfl⟩
 have hm:∀ b h,g.own b=some h→h≠.inr id→b∉g.TB id:=fun b h ho hn hb=>hn (by rw [hown b hb] at ho;exact (Option.some.inj ho).symm)
 refine ⟨g',S.change (fun h=>h=.inr id) S.defers S.tmps rfl rfl rfl (Nat.le_refl _) (fun b hb=>.inl hb) ?_ ?_ (by simpa using S.n) (Nat.le_refl _) (fun _ _=>rfl) (fun _ _ _=>rfl) ?_ ?_ ?_ ?_ ?_ ?_ ?_ ?_⟩
 ·rintro b (hb | hb)
  ·exact .inl hb
  ·exact .inr (.inr ⟨_,hown b hb⟩)
 ·rintro b (hb | hb)
  ·exact S.publt b hb
  ·exact (S.own b _ (hown b hb)).2.1
 ·intro b h ho hc
  simp only [g']
  rw [if_neg (hm b h ho hc),ho]
 ·intro t' _;exact ⟨rfl,rfl⟩
 ·intro i hi
  have hi':i≠id:=fun e=>hi (by rw [e])
  exact ⟨by simp [g',hi'],by rw [List.getElem?_set_ne (fun e=>hi' e.symm)]⟩
 ·intro s y hy
  simp only [look] at hy
  cases hbq:Nat.beq s t with
  | true =>
   have:=Nat.eq_of_beq_eq_true hbq
   subst this
   rw [hbq] at hy
   cases hy
   have eT:g'.TE s=[]:=hTt
   refine .inr ⟨htN,?_,by rw [eT];simp⟩
   rw [eT,hx]
   have hsh:=(hr.undv.share (S:=g.TB id) (fun b hb=>by rw [hT];simp [hb]))
   obtain ⟨A1,B1,hAB,_,hd⟩:=hsh.cut off
   have hB:=(List.append_eq_nil_iff.1 hAB.symm).2
   subst hB
   refine .v (.pt hd (fun u hu=>hc1 u (List.mem_of_mem_drop hu)) (.inr (by rw [hT];simp)) (fun j u hj=>?_))
   rw [List.getElem?_drop] at hj
   simp only [World.cell?,hh]
   simpa using hj
  | false =>
   rw [hbq] at hy
   simp only [look_kill] at hy
   refine .inl ⟨(fun e=>by cases e),?_⟩
   cases hl:look st.env s with
   | none=>rw [hl] at hy;cases hy
   | some z =>
    rw [hl] at hy
    simp only [Option.map_some,Option.some.injEq] at hy
    by_cases hdd:y=.dead
    ·exact .inr ⟨hdd,z,rfl⟩
    ·rcases X.kill_cases (isB id) z with h | ⟨h,_⟩
     ·exact (hdd (by rw [← hy,h])).elim
     ·rw [h] at hy
      subst hy
      exact .inl ⟨rfl,X.killR_rootH (q:=.b id 0) h hdd⟩
 ·intro i b hb' hc
  cases hc
  rw [List.getElem?_set_self hid] at hb'
  cases hb'
  have:g'.TB id=[]:=by simp [g']
  rw [this]
  exact ⟨rfl,by simp⟩
 ·intro s hs;cases hs
 ·intro i hi
  cases hi
  simp [g']
 ·intro b h ho
  simp only [g'] at ho
  split at ho
  ·cases ho
  ·rename_i hnb
   refine .inl ⟨ho,?_⟩
   rintro (h1 | h1)
   ·exact (S.own b h ho).2.2 h1
   ·exact hnb h1
def pubSt (t id off:Nat) (us':List V) (st:St):St:={ env:=(t,.d (.v (.pt us'))) :: kill (isB id) st.env,box:=st.box.set id .gone }
theorem Good.publish {P:Program} {C:Ctx} {Q:Exit→St→Prop} {st:St} (t id off:Nat) {us us':List V} {c:Code} (ht:look st.env t=some (.d (.ptr id off))) (hb:st.box[id]? = some (.cells (dv us))) (hu:(shrL us).drop off=us') (h:Good P C c Q (pubSt t id off us' st)):Good P C c Q st:=fun g a w S=>by
 subst hu
 obtain ⟨g',S'⟩:=S.publish ht hb
 exact h g' a w S'
theorem Wk.pub {C:Ctx} {st st':St} (t id off:Nat) {us us':List V} (ht:look st.env t=some (.d (.ptr id off))) (hb:st.box[id]? = some (.cells (dv us))) (hu:(shrL us).drop off=us') (h:Wk C (pubSt t id off us' st) st'):Wk C st st':=fun g a w S=>by
 subst hu
 obtain ⟨g',S'⟩:=S.publish ht hb
 exact h g' a w S'
abbrev S (s:ByteArray):V:=.lit (.string s)
abbrev I (n:Int):V:=.lit (.int .i64 n)
abbrev K (k:IntKind) (n:Int):V:=.lit (.int k n)
abbrev B (b:Bool):V:=.lit (.bool b)
section
variable {P:Program} {C:Ctx} {Q:Exit→St→Prop} {st st':St}
def cutQ (I:St→Prop) (Q:Exit→St→Prop):Exit→St→Prop
 | .normal,st=>I st
 | e,st=>Q e st
theorem Good.cut (I:St→Prop) {c:Code} (h:Good P C c (cutQ I Q) st) (k:∀ st,I st→Q .normal st):Good P C c Q st :=
 h.mono fun e st h=>by
  cases e with
  | normal=>exact k st h
  | _=>exact h
theorem Rounds.mono {c:Code}:∀ {m n:Nat} {st:St},m≤n→Rounds P C c Q m st→Rounds P C c Q n st
 | 0,_,_,_,h=>h.elim
 | m+1,0,_,h,_=>by omega
 | m+1,n+1,st,h,r=>Good.mono r fun e st' h'=>by
  cases e with
  | normal=>exact Rounds.mono (Nat.le_of_succ_le_succ h) h'
  | _=>exact h'
theorem Good.loopN {x:Code} (I:Nat→St→Prop) (n:Nat) (h0:I n st) (hs:∀ n,(∀ st,¬ I 0 st)∧∀ st,I (n+1) st→Good P C x (thenS (fun st=>∃ m,m≤n∧I m st) Q) st):Good P C (.loop x) Q st:=by
 refine Good.loop n ?_
 have all:∀ n m st,m≤n→I m st→Rounds P C x Q m st:=by
  intro n
  induction n with
  | zero =>
   intro m st hm h
   have:m=0:=by omega
   subst this
   exact ((hs 0).1 st h).elim
  | succ n ih =>
   intro m st hm h
   cases m with
   | zero=>exact ((hs 0).1 st h).elim
   | succ m =>
    refine ((hs m).2 st h).mono fun e st' h'=>?_
    cases e with
    | normal =>
     obtain ⟨m',hm',hI⟩:=h'
     exact (ih m' st' (by omega) hI).mono hm'
    | _=>exact h'
 exact all n n st (Nat.le_refl _) h0
theorem Good.share (t:Nat) {d u:D} {c:Code} (ht:look st.env t=some (.d d)) (hu:d.shr=u) (h:Good P C c Q (st.setT t (.d u))):Good P C c Q st:=fun g a w S=>by
 subst hu
 exact h _ a w (S.shareT ht).2
end
theorem lenM {α:Type} (f:α→V) (l:List α):((l.map f).length:Int)=(l.length:Int):=by rw [List.length_map]
theorem ltM {α:Type} (f:α→V) {l:List α} {n:Int} (c:n < (l.length:Int)):n < ((l.map f).length:Int):=by rw [List.length_map];exact c
theorem atM {α:Type} (f:α→V) (d:α) {l:List α} {n:Int} (h0:0≤n) (c:n < (l.length:Int)):(l.map f)[n.toNat]? = some (f (l.getD n.toNat d)):=by
 have:n.toNat < l.length:=by omega
 rw [List.getElem?_map,List.getD_eq_getElem?_getD,List.getElem?_eq_getElem this]
 rfl
theorem setM {α:Type} (f:α→V) {l:List α} {n:Nat} {x:α}:(l.map f).set n (f x)=(l.set n x).map f:=by rw [List.map_set]
theorem fitM {α:Type} (f:α→V) (l m:List α) {es:List V} (h:FitL es (m.map f)):FitL (l.map f++es) ((l++m).map f):=by
 rw [List.map_append];exact (FitL.refl _).app h
theorem shrM {α:Type} (o:Option Nat) (sz:Nat) (f g:α→V) (l:List α) (h:∀ x,(f x).shr=g x):(V.row o sz (l.map f)).shr=.row none sz (l.map g):=by
 rw [V.shr,shrL_eq,List.map_map]
 congr 1
 exact List.map_congr_left fun x _=>h x
theorem bneF {α:Type} [BEq α] [LawfulBEq α] {a b:α} (h:a=b):(a != b)=false:=by rw [h];exact bne_self_eq_false b
theorem notT {b:Bool} (h:b=false):(!b)=true:=by rw [h];rfl
theorem notF {b:Bool} (h:b=true):(!b)=false:=by rw [h];rfl
theorem litL (l:List UInt8):(⟨l.toArray⟩:ByteArray).toList=l:=by rw [ByteArray.toList_eq]
theorem All.get {α:Type} {f:α→Prop}:∀ {l:List α},All (l.map f)→∀ x∈l,f x
 | [],_,x,h=>by cases h
 | y :: l,.cons h t,x,hx=>by
  rcases List.mem_cons.1 hx with rfl | hx
  ·exact h
  ·exact t.get x hx
def rd (xs:List Int) (i:Int):Int:=xs.getD i.toNat 0
def rdOf {α:Type} (d:α) (xs:List α) (i:Int):α:=xs.getD i.toNat d
def bytesOf (s:ByteArray):List Int:=s.data.toList.map fun b=>(b.toNat:Int)
theorem repM0 {α:Type} (f:α→V) (n:Nat) (x:α):List.replicate n (f x)=(List.replicate n x).map f:=by rw [List.map_replicate]
theorem natLe {m:Int} {L:Nat} (h:m.toNat≤L):m≤(L:Int):=by omega
theorem shrC {a a':V} {l l':List V} (h:a.shr=a') (t:shrL l=l'):shrL (a :: l)=a' :: l':=by rw [shrL,h,t]
theorem limM1 {α:Type} (f:α→V) {l:List α} {L:Nat} (c:l.length < L):(l.map f).length+1≤L:=by rw [List.length_map];exact c
theorem bytesV_map (s:ByteArray):bytesV s=(bytesOf s).map (K .u8):=by
 unfold bytesV bytesOf
 rw [List.map_map];rfl
theorem limO {s:ByteArray} (c:s.size≤140737488355328):s.size≤maxLen:=Nat.le_trans c (by decide)
theorem strN (l:List Int):StrRep (l.map (K .u8)) (strOfNums l):=⟨l,rfl,rfl⟩
theorem strV {a b l m:List UInt8} (h:a=l) (k:b=m):Value.bool (a == b)=.bool (l == m):=by rw [h,k]
theorem nstrV {a b l m:List UInt8} (h:a=l) (k:b=m):Value.bool (!(a == b))=.bool (l != m):=by rw [h,k];rfl
def Indep {α:Type} (P:Program) (s:Sem α):Prop:=∀ w w' w1 x,s.run P w=.ok x w1→w1=w∧s.run P w'=.ok x w'
section
variable {P:Program} {α β:Type}
theorem Indep.pure (a:α):Indep P (pure a:Sem α):=fun w w' w1 x h=>by
 simp only [Sem.run_pure,Result.ok.injEq] at h ⊢
 obtain ⟨rfl,rfl⟩:=h
 exact ⟨rfl,by simp⟩
theorem Indep.halt (h:Halt):Indep P (.halt h:Sem α):=fun w w' w1 x hh=>by cases hh
theorem Indep.stuck (s:String):Indep P (Go.stuck s:Sem α):=.halt _
theorem Indep.unsup (s:Unsupported):Indep P (unsupported s:Sem α):=.halt _
theorem Indep.bind {x:Sem α} {f:α→Sem β} (hx:Indep P x) (hf:∀ a,Indep P (f a)):Indep P (x >>= f):=fun w w' w1 b h=>by
 simp only [Sem.run_bind] at h ⊢
 cases hr:x.run P w with
 | ok a w2 =>
  rw [hr] at h
  simp only [Result.andThen_ok] at h
  obtain ⟨rfl,e⟩:=hx w w' w2 a hr
  rw [e]
  simp only [Result.andThen_ok]
  exact hf a w2 w' w1 b h
 | halt q w2=>rw [hr] at h;cases h
theorem Indep.prog:Indep P program:=fun w w' w1 x h=>by
 simp only [run_program,Result.ok.injEq] at h ⊢
 obtain ⟨rfl,rfl⟩:=h
 exact ⟨rfl,by simp⟩
theorem Indep.underlying (t:TypeId):Indep P (underlying t):=by
 unfold Go.underlying
 refine .bind .prog fun p=>?_
 split
 ·exact .pure _
 ·exact .stuck _
theorem Indep.info (t:TypeId):Indep P (typeInfo t):=by
 unfold typeInfo
 refine .bind .prog fun p=>?_
 split
 ·exact .pure _
 ·exact .stuck _
theorem Indep.sizeOf (t:TypeId):Indep P (sizeOf t):=.bind (.info t) fun i=>.pure _
theorem Indep.isAgg (t:TypeId):Indep P (isAgg t):=by
 unfold Go.isAgg
 refine .bind (.underlying t) fun d=>?_
 split<;>exact .pure _
theorem Indep.part (t:TypeId) (cs:Array Value) (o:Nat):Indep P (part t cs o):=by
 unfold Go.part
 refine .bind (.isAgg t) fun b=>?_
 split
 ·exact .bind (.sizeOf t) fun n=>.pure _
 ·split
  ·exact .pure _
  ·exact .stuck _
theorem Indep.asIntOf (v:Value):Indep P (asIntOf v):=by
 unfold Go.asIntOf
 split
 ·exact .pure _
 ·exact .unsup _
 ·exact .stuck _
theorem Indep.asBool (v:Value):Indep P (asBool v):=by
 unfold Go.asBool
 split
 ·exact .pure _
 ·exact .stuck _
theorem Indep.asAgg (v:Value):Indep P (asAgg v):=by
 unfold Go.asAgg
 split
 ·exact .pure _
 ·exact .stuck _
theorem Indep.sureAddr (v:Value):Indep P (Instr.sureAddr v):=by
 unfold Instr.sureAddr
 split
 ·exact .pure _
 ·exact .stuck _
def Never {α:Type} (P:Program) (s:Sem α):Prop:=∀ w w1 x,s.run P w≠.ok x w1
theorem Never.indep {s:Sem α} (h:Never P s):Indep P s:=fun w w' w1 x hh=>(h w w1 x hh).elim
theorem Never.halt (h:Halt):Never P (.halt h:Sem α):=fun w w1 x hh=>by cases hh
theorem Never.bind {x:Sem α} {f:α→Sem β} (hf:∀ a,Never P (f a)):Never P (x >>= f):=fun w w1 b h=>by
 simp only [Sem.run_bind] at h
 cases hr:x.run P w with
 | ok a w2=>rw [hr] at h;exact hf a _ _ _ h
 | halt q w2=>rw [hr] at h;cases h
theorem Never.rt (e:RuntimeError):Never P (runtimePanic e:Sem α):=by
 unfold runtimePanic
 refine .bind fun p=>?_
 cases e<;>first | exact .halt _ | (unfold goPanic;exact .halt _) | (unfold goPanic;exact .bind fun _=>.bind fun _=>.halt _)
theorem Never.bounds (k:IntKind) (x y:Int) (c:BoundsCode):Never P (boundsPanic k x y c:Sem α):=by
 unfold boundsPanic
 dsimp only
 split<;>exact .bind fun b=>.rt _
theorem Indep.zero (t:TypeId):Indep P (zeroValue t):=by
 unfold zeroValue
 refine .bind (.info t) fun i=>?_
 split
 ·exact .pure _
 ·exact .unsup _
theorem Indep.indexAt (t:TypeId) (x i:Value):Indep P (Instr.indexAt t x i):=by
 unfold Instr.indexAt
 repeat' (first | exact .pure _ | exact .stuck _ | exact .unsup _ | exact (Never.bounds _ _ _ _).indep | exact .sizeOf _ | exact .underlying _ | exact .sureAddr _ | exact .asIntOf _ | (refine .bind ?_ fun q=>?_) | split | dsimp only)
theorem Indep.extract (x:Value) (i:Nat):Indep P (Instr.extract x i):=by
 unfold Instr.extract
 repeat' (first | exact .pure _ | exact .stuck _ | split)
theorem Indep.field (t:TypeId) (x:Value) (i:Nat):Indep P (Instr.field t x i):=by
 unfold Instr.field
 repeat' (first | exact .pure _ | exact .stuck _ | exact .underlying _ | exact .asAgg _ | exact .part _ _ _ | (refine .bind ?_ fun q=>?_) | split)
theorem Indep.index (t:TypeId) (x i:Value):Indep P (Instr.index t x i):=by
 unfold Instr.index
 repeat' (first | exact .pure _ | exact .stuck _ | exact (Never.bounds _ _ _ _).indep | exact .sizeOf _ | exact .underlying _ | exact .asIntOf _ | exact .part _ _ _ | (refine .bind ?_ fun q=>?_) | split | dsimp only)
theorem Indep.mapM {α β:Type} {f:α→Sem β} (hf:∀ a,Indep P (f a)):∀ l:List α,Indep P (l.mapM f)
 | []=>by rw [List.mapM_nil];exact .pure _
 | a :: l=>by
  rw [List.mapM_cons]
  exact .bind (hf a) fun b=>.bind (Indep.mapM hf l) fun bs=>.pure _
theorem Indep.mapA {α β:Type} {f:α→Sem β} (hf:∀ a,Indep P (f a)) (l:Array α):Indep P (l.mapM f):=by
 rw [Array.mapM_eq_mapM_toList]
 intro w w' w1 x h
 simp only [Sem.run_map] at h ⊢
 cases hr:(l.toList.mapM f).run P w with
 | ok a w2 =>
  rw [hr] at h
  obtain ⟨e1,e2⟩:=Indep.mapM hf l.toList w w' w2 a hr
  rw [e2]
  simp only [Result.andThen_ok,Result.ok.injEq] at h ⊢
  exact ⟨by rw [← h.2,e1],h.1,trivial⟩
 | halt q w2=>rw [hr] at h;cases h
theorem Indep.build (t:TypeId) (ps:Array (Nat × Value)):Indep P (Instr.build t ps):=by
 unfold Instr.build
 repeat' (first | exact .pure _ | exact .stuck _ | exact .zero _ | exact .sizeOf _ | exact .underlying _ | exact .mapA (fun f=>.bind (.sizeOf _) fun _=>.pure _) _ | (refine .bind ?_ fun q=>?_) | split)
end
section
variable {P:Program}
def indepOp (ρ:Operand→Value):Op→Bool
 | .move _ | .assign _ | .field _ _ _ | .extract _ _ | .build _ _ | .indexAddr _ _ _ | .pick _ _ _=>true
 | .nilCheck x=>match ρ x with
  | .pointer (some _)=>true
  | _=>false
 | _=>false
theorem Indep.op {ρ:Operand→Value} {o:Oper} (h:indepOp ρ o.op=true):Indep P (execOp ρ o):=by
 unfold execOp
 cases ho:o.op<;>rw [ho] at h<;>simp only [indepOp] at h<;>try (cases h;done)
 all_goals dsimp only
 case move=>exact .pure _
 case assign=>exact .pure _
 case pick=>exact .bind (.asBool _) fun _=>.pure _
 case build=>exact .bind (.build _ _) fun _=>.pure _
 case field=>exact .bind (.field _ _ _) fun _=>.pure _
 case indexAddr=>exact .bind (.indexAt _ _ _) fun _=>.pure _
 case extract=>exact .bind (.extract _ _) fun _=>.pure _
 case nilCheck x =>
  split at h
  ·rename_i a hx;rw [hx];exact .pure _
  ·cases h
end
def Ctx.still (p:Pub) (w:World) (N:Nat):Ctx:={ W:=w,p0:=p,Fz:=fun _=>False,N:=N }
def QRep (p:Pub) (N:Nat) (q:List (Nat × X)) (a:Act) (w:World):Prop:=∃ g,SRep (Ctx.still p w N) g ⟨q,[]⟩ a w
section
variable {P:Program} {C:Ctx}
theorem QRep.pubB {p:Pub} {N:Nat} {q:List (Nat × X)} {g:G} {a:Act} {w:World} (S:SRep (Ctx.still p w N) g ⟨q,[]⟩ a w) (b:Nat) (h:g.pub b):p b:=by
 rcases S.pub b h with h1 | h1 | h1
 ·exact h1
 ·have:=S.publt b h
  simp only [Ctx.still] at h1
  omega
 ·exact h1.elim
theorem wp_value {o:Oper} {a:Act} {w:World} {next:Act→World→Prop} (hi:Indep P (execOp a.eval o)) (hv:∀ w' x,(execOp a.eval o).run P w=.ok x w'→∃ v,x=.value v) (h:o.wp P a w next fun _ _ _=>False) :
 ∃ v,(∀ w',(execOp a.eval o).run P w'=.ok (.value v) w')∧next (a.put o.dst v) w:=by
 unfold Oper.wp at h
 cases hr:(execOp a.eval o).run P w with
 | halt q w1 =>
  rw [hr] at h
  cases q<;>simp only [Oper.upon] at h
 | ok x w1 =>
  obtain ⟨v,rfl⟩:=hv _ _ hr
  rw [hr,Oper.upon_value] at h
  obtain ⟨rfl,_⟩:=hi w w w1 _ hr
  exact ⟨v,fun w'=>(hi w1 w' w1 _ hr).2,h⟩
theorem indep_value {ρ:Operand→Value} {o:Oper} (h:indepOp ρ o.op=true) {w w':World} {x:Next} (hr:(execOp ρ o).run P w=.ok x w'):∃ v,x=.value v:=by
 have bindv:∀ (s:Sem Value),((do let v ← s;pure (Next.value v):Sem Next).run P w=.ok x w')→∃ v,x=.value v:=fun s hs=>by
  simp only [Sem.run_bind] at hs
  cases hq:s.run P w with
  | ok v w2=>rw [hq] at hs;simp only [Result.andThen_ok,Sem.run_pure,Result.ok.injEq] at hs;exact ⟨v,hs.1.symm⟩
  | halt q w2=>rw [hq] at hs;cases hs
 have purev:∀ {w w':World} (v:Value),((pure (Next.value v):Sem Next).run P w=.ok x w')→∃ v,x=.value v:=fun v hs=>by
  simp only [Sem.run_pure,Result.ok.injEq] at hs;exact ⟨v,hs.1.symm⟩
 unfold execOp at hr
 cases ho:o.op<;>rw [ho] at h hr<;>simp only [indepOp] at h<;>try (cases h;done)
 all_goals dsimp only at hr
 case move=>exact purev _ hr
 case assign=>exact purev _ hr
 case pick c y z =>
  simp only [Sem.run_bind] at hr
  cases hq:(asBool (ρ c)).run P w with
  | ok v w2=>rw [hq] at hr;exact purev _ hr
  | halt q w2=>rw [hq] at hr;cases hr
 case build=>exact bindv _ hr
 case field=>exact bindv _ hr
 case indexAddr=>exact bindv _ hr
 case extract=>exact bindv _ hr
 case nilCheck y =>
  split at h
  ·rename_i b hx;rw [hx] at hr;exact purev _ hr
  ·cases h
end
section
variable {P:Program} {ops:Array Oper} {Q:Exit→Act→World→Prop}
def anyS (P:Program) (ops:Array Oper) (Q:Exit→Act→World→Prop) (S:Array Bool→World→Prop):Nat→Array Bool→Act→World→Prop
 | 0,L,a,w=>Region.ready .any ops L=[]∧Q .normal a w
 | n+1,L,a,w=>(Region.ready .any ops L=[]→Q .normal a w) ∧
  ∀ i∈Region.ready .any ops L,wpOp P ops Q i (fun a' w'=>S (L.setIfInBounds i true) w'∧anyS P ops Q S n (L.setIfInBounds i true) a' w') a w
theorem anyS.any {S:Array Bool→World→Prop}:∀ (n:Nat) (L:Array Bool) (a:Act) (w:World),anyS P ops Q S n L a w→wpAny P .any ops Q n L a w
 | 0,_,_,_,h=>h
 | n+1,_,_,_,h=>⟨h.1,fun i hi=>wpOp_mono (fun a' w' h'=>anyS.any n _ a' w' h'.2) (h.2 i hi)⟩
def Shut (ops:Array Oper) (L:Array Bool):Prop:=∀ j o,ops[j]? = some o→L.getD j false=true→∀ e∈o.after,Region.binds .any e=true→L.getD e.on false=true
theorem Shut.add {L:Array Bool} (h:Shut ops L) {i:Nat} (hi:i∈Region.ready .any ops L):Shut ops (L.setIfInBounds i true):=by
 intro j o hj hl e he hb
 by_cases hij:i=j
 ·subst hij
  obtain ⟨_,o',ho',hall⟩:=mem_ready.1 hi
  rw [hj] at ho'
  cases ho'
  exact getD_set_true (hall e he hb)
 ·rw [getD_set_ne false hij] at hl
  exact getD_set_true (h j o hj hl e he hb)
def direct (ops:Array Oper) (j:Nat):List Nat:=match ops[j]? with
 | some o=>(o.after.toList.filter fun e=>Region.binds .any e).map (·.on)
 | none=>[]
def pathB (ops:Array Oper) (i:Nat):List Nat→Nat→Bool
 | [],j=>(direct ops j).contains i
 | d :: p,j=>(direct ops j).contains d && pathB ops i p d
theorem Shut.direct {L:Array Bool} (h:Shut ops L) {j b:Nat} (hj:L.getD j false=true) (hb:b∈direct ops j):L.getD b false=true:=by
 unfold Rf.direct at hb
 split at hb
 ·rename_i o ho
  simp only [List.mem_map,List.mem_filter] at hb
  obtain ⟨e,⟨h1,h2⟩,rfl⟩:=hb
  exact h j o ho hj e (Array.mem_toList_iff.1 h1) h2
 ·cases hb
theorem Shut.path {L:Array Bool} (h:Shut ops L) {i:Nat}:∀ {p:List Nat} {j:Nat},L.getD j false=true→pathB ops i p j=true→L.getD i false=true
 | [],j,hj,hp=>h.direct hj (by simpa [pathB] using hp)
 | d :: p,j,hj,hp=>by
  simp only [pathB,Bool.and_eq_true] at hp
  exact Shut.path h (p:=p) (h.direct hj (by simpa using hp.1)) hp.2
def SL (P:Program) (ops:Array Oper) (Sq:World→Prop) (L:Array Bool) (w:World):Prop:=(∀ j o,ops[j]? = some o→L.getD j false=true→calmK P o.op=true)→Sq w
theorem SL.iff {Sq:World→Prop} {L:Array Bool} {w:World} {i:Nat} {o:Oper} (hi:ops[i]? = some o) (hc:calmK P o.op=true):SL P ops Sq (L.setIfInBounds i true) w↔SL P ops Sq L w:=by
 unfold SL
 constructor
 ·intro h k
  refine h fun j o' hj hl=>?_
  by_cases hij:i=j
  ·subst hij;rw [hi] at hj;cases hj;exact hc
  ·rw [getD_set_ne false hij] at hl;exact k j o' hj hl
 ·intro h k
  refine h fun j o' hj hl=>?_
  exact k j o' hj (getD_set_true hl)
def aheadB (P:Program) (ops:Array Oper) (i:Nat) (ps:List (List Nat)):Bool:=(List.range ops.size).all fun j=>match ops[j]? with
 | some o=>calmK P o.op || ps.any fun p=>pathB ops i p j
 | none=>true
theorem ahead_calm {Sq:World→Prop} {L:Array Bool} {w:World} {i:Nat} {ps:List (List Nat)} (hS:Shut ops L) (ha:aheadB P ops i ps=true) (hn:L.getD i true=false) (h:SL P ops Sq L w):Sq w:=by
 refine h fun j o hj hl=>?_
 have hlt:=(Array.getElem?_eq_some_iff.1 hj).1
 have:=List.all_eq_true.1 ha j (List.mem_range.2 hlt)
 simp only [hj,Bool.or_eq_true] at this
 rcases this with h1 | h1
 ·exact h1
 ·obtain ⟨p,_,hp⟩:=List.any_eq_true.1 h1
  have:=hS.path hl hp
  rcases Nat.lt_or_ge i L.size with h' | h'
  ·simp [h'] at hn this;rw [hn] at this;cases this
  ·simp [Array.getElem?_eq_none h'] at hn
theorem anyS.first {Sq R:World→Prop} {i:Nat} {oi:Oper} {v:Value} (hi:ops[i]? = some oi) (hs:Region.noSelect ops=true) (hR:∀ L w,Shut ops L→L.getD i true=false→SL P ops Sq L w→R w) (hc:calmK P oi.op=true)
 (hQ:∀ c a w,Q (.panic c) (a.put oi.dst v) w→Q (.panic c) a w) :
 ∀ (n:Nat) (L:Array Bool) (a:Act) (w:World),Shut ops L →
  (∀ j oj,ops[j]? = some oj→j≠i→L.getD j true=false→(∀ e∈oj.after,Region.binds .any e=true→e.on≠i)→oi.apart ops oj=true) →
  i∈Region.ready .any ops L→YieldsIf P ops R oi v a→SL P ops Sq L w →
  anyS P ops Q (SL P ops Sq) n (L.setIfInBounds i true) (a.put oi.dst v) w→anyS P ops Q (SL P ops Sq) (n+1) L a w:=by
 intro n
 have hsel:=Region.noSelect_spec hs
 induction n with
 | zero =>
  intro L a w hsh hfree hr hy hS H
  refine ⟨fun h=>(by rw [h] at hr;cases hr),fun j hj=>?_⟩
  by_cases hji:j=i
  ·subst hji
   exact hy.wpOp hi (hR L w hsh (mem_ready.1 hr).1 hS) ⟨(SL.iff hi hc).2 hS,H⟩
  ·have:=ready_mono hj hji
   rw [H.1] at this
   cases this
 | succ n ih =>
  intro L a w hsh hfree hr hy hS H
  refine ⟨fun h=>(by rw [h] at hr;cases hr),fun j hj=>?_⟩
  by_cases hji:j=i
  ·subst hji
   exact hy.wpOp hi (hR L w hsh (mem_ready.1 hr).1 hS) ⟨(SL.iff hi hc).2 hS,H⟩
  ·have h1:=H.2 j (ready_mono hj hji)
   obtain ⟨hjun,oj,hoj,hall⟩:=mem_ready.1 hj
   have hnot:∀ e∈oj.after,Region.binds .any e=true→e.on≠i:=fun e he hb heq=>by
    have h1:=hall e he hb
    have h0:=(mem_ready.1 hr).1
    rw [heq] at h1
    rcases Nat.lt_or_ge i L.size with h' | h'
    ·simp [h'] at h0 h1;rw [h0] at h1;cases h1
    ·simp [Array.getElem?_eq_none h'] at h1
   have h2:=wpOp_putIf hoj (hfree j oj hoj hji hjun hnot) (fun cs b=>hsel i oi cs b hi) (fun cs b=>hsel j oj cs b hoj) hQ hy h1
   refine wpOp_mono (fun a' w' h3=>?_) h2
   obtain ⟨hy',hS',H'⟩:=h3
   have hcomm:(L.setIfInBounds i true).setIfInBounds j true=(L.setIfInBounds j true).setIfInBounds i true:=Array.setIfInBounds_comm _ _ (fun e=>hji e.symm)
   rw [hcomm] at hS' H'
   have hS'':=(SL.iff (L:=L.setIfInBounds j true) hi hc).1 hS'
   refine ⟨hS'',ih (L.setIfInBounds j true) a' w' (hsh.add hj) (fun k ok hk hki hun hno=>?_) (ready_mono hr (Ne.symm hji)) hy' hS'' H'⟩
   refine hfree k ok hk hki ?_ hno
   by_cases hjk:j=k
   ·subst hjk;exact hjun
   ·rw [getD_set_ne true hjk] at hun;exact hun
end
section
variable {P:Program} {C:Ctx}
theorem wp_form {o:Oper} {a:Act} {w:World} {next:Act→World→Prop} {Q:Exit→Act→World→Prop} (h:o.wp P a w next Q) :
 o.wp P a w (fun a' w'=>next a' w'∧((∃ v,a'=a.put o.dst v)∨a'.defers≠[])) Q:=by
 unfold Oper.wp at h ⊢
 generalize (execOp a.eval o).run P w=r at *
 cases r with
 | ok n w' =>
  cases n<;>simp only [Oper.upon] at h ⊢
  case value u=>exact ⟨h,.inl ⟨u,rfl⟩⟩
  case skip=>exact ⟨h,.inl ⟨undef,rfl⟩⟩
  case defer d=>exact ⟨h,.inr (by cases o.dst<;>simp [Act.put])⟩
  case enter f args =>
   refine Calls.mono h fun e w'' he=>?_
   cases e with
   | returned u=>exact ⟨he,.inl ⟨u,rfl⟩⟩
   | panicked c=>exact he
   | outgrown=>exact he
  case row row args=>exact Rows.mono h fun u w'' he=>⟨he,.inl ⟨u,rfl⟩⟩
 | halt x w' =>
  cases x<;>simp only [Oper.upon] at h ⊢
  case panic u=>exact h
def qPick (v:Option V) (u:V):Option (V × List Prop):=match v with
 | none=>match u.noOwn with
  | true=>some (u,[])
  | false=>none
 | some v=>some (v,[u.shr=v])
def qOne (env:St) (t:Nat) (v:Option V):Option (V × List Prop):=match look env.env t with
 | some (.d (.v u))=>qPick v u
 | some (.al (.top r))=>match rootVal env r with
  | some u=>qPick v u
  | none=>none
 | some (.d (.ptr id off))=>match env.box[id]?,v with
  | some (.cells cs),some u=>match undv (cs.drop off) with
   | some us=>some (u,[V.pt (shrL us)=u])
   | none=>none
  | _,_=>none
 | some (.pa r sz i j)=>match rootVal env r with
  | some (.row (some _) sz' es)=>match v with
   | some (.tup [x,u])=>match Nat.beq sz sz' with
    | true=>some (u,[es[i]? = some x,V.pt (shrL (x.cells.drop j))=u])
    | false=>none
   | _=>none
  | _=>none
 | _=>none
def qInit (env:St):List (Nat × Option V)→Option (List (Nat × X) × List Prop)
 | []=>some ([],[])
 | (t,v) :: l=>match qOne env t v with
  | some (u,o)=>match qInit env l with
   | some (r,os)=>some ((t,.d (.v u)) :: r,o++os)
   | none=>none
  | none=>none
theorem look_qInit {env:St}:∀ {l:List (Nat × Option V)} {q:List (Nat × X)} {os:List Prop} {t:Nat} {y:X},qInit env l=some (q,os)→All os→look q t=some y→∃ v u o,qOne env t v=some (u,o)∧All o∧y=.d (.v u)
 | [],q,os,t,y,h,_,hy=>by cases h;simp [look] at hy
 | (s,v) :: l,q,os,t,y,h,hA,hy=>by
  simp only [qInit] at h
  split at h
  ·rename_i u o ho
   split at h
   ·rename_i r os' hr
    cases h
    simp only [look] at hy
    cases hb:Nat.beq t s with
    | true =>
     rw [hb] at hy
     cases hy
     have:=Nat.eq_of_beq_eq_true hb
     subst this
     exact ⟨v,u,o,ho,hA.left,rfl⟩
    | false=>rw [hb] at hy;exact look_qInit hr (All.right hA) hy
   ·cases h
  ·cases h
def G.all (g:G):Pub:=fun b=>g.pub b∨∃ h,g.own b=some h
def G.still (p:Pub):G:={ pub:=p,own:=fun _=>none,n:=0,loc:=fun _=>0,TE:=fun _=>[],TB:=fun _=>[] }
theorem QRep.start {g:G} {st:St} {a:Act} {w:World} (S:SRep C g st a w) {ks:List (Nat × Option V)} {q:List (Nat × X)} {os:List Prop} (hq:qInit st ks=some (q,os)) (hA:All os):QRep g.all C.N q a w:=by
 have plt:∀ b,g.all b→b < w.heap.size:=by
  rintro b (h | ⟨h,ho⟩)
  ·exact S.publt b h
  ·exact (S.own b h ho).2.1
 have pick:∀ {val:Value} {u r:V} {v:Option V} {o:List Prop} {T:List Nat} {h:Nat ⊕ Nat},RepD g w val (.v u) T→(∀ b∈T,g.own b=some h)→qPick v u=some (r,o)→All o→Rep g.all w val r []:=by
  intro val u r v o T h hr ho hp hA
  unfold qPick at hp
  split at hp
  ·split at hp
   ·rename_i hn
    cases hp
    have hr:=RepD.inv hr
    have hT:=hr.noOwn hn
    subst hT
    exact hr.keep ⟨fun b hb=>.inl hb,fun _ _=>rfl⟩ (fun _ h=>by cases h)
   ·cases hp
  ·cases hp
   have e:u.shr=r:=by cases hA with | cons h _=>exact h
   rw [← e]
   have:=Rep.share (S:=T) (RepD.inv hr) (fun b hb=>hb)
   refine this.keep ⟨?_,fun _ _=>rfl⟩ (fun _ h=>by cases h)
   rintro b (hb | hb)
   ·exact .inl hb
   ·exact .inr ⟨h,ho b hb⟩
 refine ⟨G.still g.all,S.defers,S.tmps,rfl,rfl,rfl,Nat.le_refl _,fun _ _ _=>rfl,fun b hb=>.inl hb,plt,rfl,?_,fun _=>List.nodup_nil,fun id b hb=>by simp at hb,fun _=>List.nodup_nil,fun b h ho=>(by cases ho),fun i l h=>(by simp [Ctx.still] at h),Tabs.s ⟨fun b hb=>.inl hb,fun _ _=>rfl⟩ S.tab⟩
 intro t y hy
 obtain ⟨v,u,o,ho,hAo,rfl⟩:=look_qInit hq hA hy
 unfold qOne at ho
 split at ho
 ·rename_i u' hl
  obtain ⟨h1,h2,h3⟩:=S.env t _ hl
  exact ⟨h1,.v (pick h2 h3 ho hAo),fun b hb=>by cases hb⟩
 ·rename_i r hl
  split at ho
  ·rename_i u' hu
   obtain ⟨h1,h2,h3⟩:=S.env t _ hl
   obtain ⟨v',T,k1,k2,k3,_⟩:=rootVal_ok S hu
   have hv:pvR g a w r=some (a.tmps.getD t undef):=h2.2
   rw [k1] at hv
   have e:v'=a.tmps.getD t undef:=Option.some.inj hv
   subst e
   exact ⟨h1,.v (pick (.v k2) k3 ho hAo),fun b hb=>by cases hb⟩
  ·cases ho
 ·rename_i id off hl
  split at ho
  ·rename_i cs u0 hb
   split at ho
   ·rename_i us hus
    cases ho
    have hu:V.pt (shrL us)=u:=by cases hAo with | cons h _=>exact h
    subst hu
    obtain ⟨h1,h2,h3⟩:=S.env t _ hl
    have h2:RepD g w (a.tmps.getD t undef) (.ptr id off) (g.TE t):=h2
    obtain ⟨⟨cur,el,A,hT,hh,hr,hc1⟩,hown⟩:=S.box id _ hb
    obtain ⟨A1,B1,hAB,_,hd⟩:=hr.cut off
    rw [undv_eq hus] at hd
    have hd:=hd.undv
    have hx:a.tmps.getD t undef=.pointer (some ⟨g.loc id,off,none⟩):=by
     generalize a.tmps.getD t undef=v at h2
     generalize g.TE t=T at h2
     cases h2
     rfl
    refine ⟨h1,?_,fun b hb=>by cases hb⟩
    show RepD (G.still g.all) w (a.tmps.getD t undef) _ _
    rw [hx]
    have hsh:=(hd.share (S:=g.TB id) (fun b hb=>by rw [hT,hAB];simp [hb]))
    refine .v (Rep.pt (hsh.keep ⟨?_,fun _ _=>rfl⟩ (fun _ h=>by cases h)) (fun u hu=>hc1 u (List.mem_of_mem_drop hu)) ?_ (fun j u hj=>?_))
    ·rintro b (hb | hb)
     ·exact .inl hb
     ·exact .inr ⟨_,hown b hb⟩
    ·exact .inr ⟨_,hown _ (by rw [hT];simp)⟩
    ·rw [List.getElem?_drop] at hj
     simp only [World.cell?,hh]
     simpa using hj
   ·cases ho
  ·cases ho
 ·rename_i r sz i j hl
  split at ho
  ·rename_i et sz' es hrv
   split at ho
   ·rename_i x u0
    split at ho
    ·rename_i hb
     have hb:=Nat.eq_of_beq_eq_true hb
     subst hb
     cases ho
     cases hAo with
     | cons hel hAo =>
     have hu:V.pt (shrL (x.cells.drop j))=u:=by cases hAo with | cons h _=>exact h
     subst hu
     obtain ⟨h1,⟨_,b,h3,h4,h5⟩,_⟩:=S.env t _ hl
     obtain ⟨rv,T,hpv,hr,hown,_⟩:=rootVal_ok S hrv
     obtain ⟨xs,A,hT,hc,hl',hone,how⟩:=own_inv hr
     obtain ⟨T1,A1,T2,hT',hseg⟩:=RepL.elem hc hl' hel
     obtain ⟨A2,B2,hA2,_,hseg2⟩:=hseg.cut j
     rw [hpv] at h3
     simp only [Option.bind_some] at h3
     have how':=how
     rcases how.2 with ⟨hv0,hn⟩ | ⟨b',cap,cur,hv0,_,hg,_⟩
     ·rw [hv0] at h3;simp [Value.ownBlock] at h3
     ·rw [hv0] at h3
      simp only [Value.ownBlock,Option.some.injEq] at h3
      subst h3
      subst hv0
      have hrange:w.rangeAt b' 0 xs:=fun k v hk=>by
       have hk':k < es.length*sz:=by
        rw [← how.1]
        rcases Nat.lt_or_ge k xs.length with h | h
        ·exact h
        ·rw [List.getElem?_eq_none h] at hk;cases hk
       rw [Nat.zero_add,how'.cellAt k hk',hk]
      have hrange2:w.rangeAt b' (i*sz+j) (((xs.drop (i*sz)).take sz).drop j):=by
       have h0:=rangeAt_seg hrange (i*sz) sz
       intro k v hk
       rw [List.getElem?_drop] at hk
       have:=h0 _ _ hk
       rwa [show 0+i*sz+(j+k)=i*sz+j+k by omega] at this
      refine ⟨h1,?_,fun b hb=>by cases hb⟩
      show RepD (G.still g.all) w (a.tmps.getD t undef) _ _
      rw [h5]
      have hsh:=(hseg2.share (S:=T) (fun b hb=>by rw [hT,hT',hA2];simp [hb]))
      refine .v (Rep.pt (hsh.keep ⟨?_,fun _ _=>rfl⟩ (fun _ h=>by cases h)) (fun u hu=>hone u ?_) (.inr ⟨_,h4⟩) (fun k u hk=>hrange2 k u hk))
      ·rintro b (hb | hb)
       ·exact .inl hb
       ·exact .inr ⟨_,hown b hb⟩
      ·exact List.mem_of_mem_drop (List.mem_of_mem_take (List.mem_of_mem_drop hu))
    ·cases ho
   ·cases ho
  ·cases ho
 ·cases ho
theorem QRep.drop {p:Pub} {N:Nat} {q:List (Nat × X)} {a:Act} {w:World} (h:QRep p N q a w) {d:Nat} (hd:d < N) (v:Value):QRep p N (putE q d (.d (.v .any))) (a.put (some d) v) w:=by
 obtain ⟨g,S⟩:=h
 exact ⟨_,S.put0 (Calm.refl w) hd (.v (.any v))⟩
end
def litF (P:Program) (o:Oper):Option (List Operand × (List Value→Option (Value × List Prop))):=match o.op with
 | .binOp op t x y _=>match P.underlying t with
  | some (.struct _)=>none
  | _=>some ([x,y],binR P op t x y)
 | .unOp op _ x=>some ([x],unR P op)
 | .convert s t x=>match P.underlying s,P.underlying t with
  | some (.slice _),some .string=>none
  | some .string,some (.slice _)=>none
  | _,_=>some ([x],convR P s t)
 | .index t x i=>some ([x,i],ixR P t)
 | .slice t x lo hi none=>match P.underlying t with
  | some .string=>some (x :: (lo.toList++hi.toList),slR P t lo.isSome hi.isSome)
  | _=>none
 | .call c=>match c.callee with
  | .builtin .append | .builtin .copy=>none
  | .builtin .len=>match (c.argTypes[0]?).bind P.underlying with
   | some .string=>some (c.args.toList,bltR P .len c.argTypes o.type)
   | _=>none
  | .builtin b=>some (c.args.toList,bltR P b c.argTypes o.type)
  | _=>none
 | _=>none
section
variable {P:Program}
theorem litF_ok {o:Oper} {xs:List Operand} {f:List Value→Option (Value × List Prop)} (h:litF P o=some (xs,f)) {vs:List Value} {v:Value} {obs:List Prop} (hf:f vs=some (v,obs)) (hA:All obs)
 (ρ:Operand→Value) (w:World) (hρ:xs.map ρ=vs):(execOp ρ o).run P w=.ok (.value v) w:=by
 unfold litF at h
 split at h
 ·split at h
  ·cases h
  ·cases h;exact binR_ok ‹_› hf hA ρ w hρ
 ·cases h;exact unR_ok ‹_› hf ρ w hρ
 ·split at h
  ·cases h
  ·cases h
  ·cases h;exact convR_ok ‹_› hf hA ρ w hρ
 ·cases h;exact ixR_ok ‹_› hf hA ρ w hρ
 ·split at h
  ·cases h;exact slR_ok ‹_› hf hA ρ w hρ
  ·cases h
 ·rename_i c ho
  split at h
  ·cases h
  ·cases h
  ·rename_i hc
   split at h
   ·cases h;exact bltR_ok ho hc hf ρ w hρ
   ·cases h
  ·rename_i b hc _ _ _
   cases h;exact bltR_ok ho ‹_› hf ρ w hρ
  ·cases h
 ·cases h
end
theorem repL_lits {p:Pub} {w:World}:∀ {us:List V} {vs:List Value},lits us=some vs→RepL p w vs us []
 | [],vs,h=>by cases h;exact .nil
 | u :: us,vs,h=>by
  cases u with
  | lit v =>
   simp only [lits] at h
   cases h1:lits us with
   | none=>rw [h1] at h;cases h
   | some ws=>rw [h1] at h;cases h;exact RepL.cons (A:=[]) (.lit v) (repL_lits h1)
  | kb b =>
   simp only [lits] at h
   cases h1:lits us with
   | none=>rw [h1] at h;cases h
   | some ws=>rw [h1] at h;cases h;exact RepL.cons (A:=[]) (.kb b) (repL_lits h1)
  | _=>simp [lits] at h
def evEqQ (P:Program) (N:Nat) (o:Oper) (op:BinOp) (t:TypeId) (x y:Operand) (e:E):Option E:=match dstOf N o with
 | none=>none
 | some d=>match P.eqGuardType P.depth t with
  | true=>none
  | false=>match vals [x,y] e with
   | some ([.agg cs,.agg ds],e)=>match lits cs,lits ds with
    | some _,some _=>match eqV P 12 t (.agg cs) (.agg ds),op with
     | some b,.eql=>some (e.put d (.lit (.bool b)))
     | some b,.neq=>some (e.put d (.lit (.bool (!b))))
     | _,_=>none
    | _,_=>none
   | _=>none
def qKind:Op→Bool
 | .move _ | .assign _ | .field _ _ _ | .extract _ _ | .build _ _ | .indexAddr _ _ _ | .pick _ _ _ | .nilCheck _=>true
 | _=>false
def boxNil (e:Option E):Option E:=match e with
 | some e=>match e.st.box with
  | []=>some e
  | _=>none
 | none=>none
def qstep (P:Program) (N:Nat) (o:Oper) (e:E):Option E:=match litF P o with
 | some (xs,f)=>match vals xs e with
  | some (us,e1)=>match lits us with
   | some vs=>match f vs,dstOf N o with
    | some (v,obs),some d=>boxNil (some (({ e1 with ob:=e1.ob++obs }:E).put d (.lit v)))
    | _,_=>none
   | none=>none
  | none=>none
 | none=>match qKind o.op with
  | true=>boxNil (ev1 P N o e)
  | false=>match o.op with
   | .load t (.tmp s)=>match look e.st.env s,dstOf N o with
    | some (.d (.v (.pt cs))),some d=>match partV P t cs with
     | some u=>boxNil (some (e.put d u))
     | none=>none
    | _,_=>none
   | .fieldAddr s (.tmp t) f=>match foff P s f,look e.st.env t,dstOf N o with
    | some (off,_),some (.d (.v (.pt cs))),some d=>boxNil (some (e.put d (.pt (cs.drop off))))
    | _,_,_=>none
   | .call c=>match c.callee,c.args.toList with
    | .builtin .len,[x]=>boxNil (evLen P N o c.argTypes x e)
    | _,_=>none
   | .binOp op t x y _=>boxNil (evEqQ P N o op t x y e)
   | _=>none
theorem boxNil_eq {x:Option E} {e:E} (h:boxNil x=some e):x=some e∧e.st.box=[]:=by
 unfold boxNil at h
 split at h
 ·rename_i e1
  split at h
  ·rename_i hb;cases h;exact ⟨rfl,hb⟩
  ·cases h
 ·cases h
theorem loadPartA {P:Program} {w:World} {p:Pub} {t:TypeId} {b o:Nat} {xs:List Value} {cs:List V} {u:V} {T:List Nat} (h:RepL p w xs cs T) (hp:partV P t cs=some u) :
 ∃ v A B,(∀ w',w'.rangeAt b o xs→(Instr.loadAt t (.pointer (some ⟨b,o,none⟩))).run P w'=.ok v w')∧T=A++B∧Rep p w v u A:=by
 unfold partV at hp
 split at hp
 ·rename_i ht
  split at hp
  ·rename_i n hn
   split at hp
   ·rename_i hle
    cases hp
    have hle:=Nat.le_of_ble_eq_true hle
    obtain ⟨A,B,hT,h1,h2⟩:=h.cut n
    have hl:(xs.take n).length=n:=by rw [List.length_take,h.length];omega
    unfold sizeT at hn
    cases hi:P.info? t with
    | none=>rw [hi] at hn;cases hn
    | some i =>
     rw [hi] at hn
     cases hn
     refine ⟨.agg (xs.take i.size).toArray,A,B,fun w' hr=>?_,hT,.agg h1⟩
     have hg:=isAgg_run ht w'
     have hc:=run_loadCells_list (P:=P) w' ⟨b,o,none⟩ (xs.take i.size) (fun j v hj=>by
      rw [Addr.add_mid]
      exact hr j v (by rw [List.getElem?_take] at hj;split at hj;exact hj;cases hj))
     rw [hl] at hc
     simp only [Instr.loadAt,Instr.sureAddr,loadVar,Sem.run_bind,Sem.run_pure,Result.andThen_ok,hg,if_true,sizeOf,typeInfo,run_program,hi,hc]
   ·cases hp
  ·cases hp
 ·rename_i ht
  split at hp
  ·rename_i c cs'
   split at hp
   ·cases hp
   ·cases hp
    cases h with
    | cons h1 h2 =>
     rename_i v vs A B
     refine ⟨v,A,B,fun w' hr=>?_,rfl,h1⟩
     have hg:=isAgg_run ht w'
     have hc:=hr 0 v rfl
     simp only [Nat.add_zero] at hc
     simp only [Instr.loadAt,Instr.sureAddr,loadVar,Sem.run_bind,Sem.run_pure,Result.andThen_ok,hg,Bool.false_eq_true,if_false,run_load,hc]
  ·cases hp
 ·cases hp
section
variable {P:Program}
def PubEq (p:Pub) (w w':World):Prop:=∀ b,p b→w'.heap[b]? = w.heap[b]?
def ldOp:Op→Bool
 | .load _ _=>true
 | _=>false
theorem qstep_ok {N:Nat} {o:Oper} {e e':E} (h:qstep P N o e=some e') (hb:e.st.box=[]) (hA:All e'.ob):All e.ob∧e'.st.box=[]∧∀ (p:Pub) (a:Act) (w:World),QRep p N e.st.env a w →
 ∃ v,(∀ w',(ldOp o.op=true→PubEq p w w')→(execOp a.eval o).run P w'=.ok (.value v) w')∧QRep p N e'.st.env (a.put o.dst v) w:=by
 have est:e.st=⟨e.st.env,[]⟩:=by rw [← hb]
 have key:∀ (e1:E),e1.st.box=[]→e1.st=⟨e1.st.env,[]⟩:=fun e1 h=>by rw [← h]
 unfold qstep at h
 split at h
 ·rename_i xs f hF
  split at h
  ·rename_i us e1 hv
   split at h
   ·rename_i vs hl
    split at h
    ·rename_i v obs d hf hd
     obtain ⟨h,hbx⟩:=boxNil_eq h
     cases h
     obtain ⟨hdd,hdN⟩:=dstOf_eq hd
     have hA:All (e1.ob++obs):=hA
     obtain ⟨h0,k⟩:=vals_ok (C:=Ctx.still (fun _=>False) default N) hv hA.left
     refine ⟨h0,hbx,fun p a w Qr=>?_⟩
     obtain ⟨g,S⟩:=Qr
     rw [← est] at S
     obtain ⟨_,k⟩:=vals_ok (C:=Ctx.still p w N) hv hA.left
     obtain ⟨g1,_,S1,r⟩:=k g a w S
     refine ⟨v,fun w' _=>litF_ok hF hf hA.right a.eval w' (lits_rep hl r),?_⟩
     rw [hdd]
     have:=S1.put0 (Calm.refl w) hdN (v:=v) (D:=.v (.lit v)) (.v (.lit v))
     exact ⟨_,by rw [← key _ hbx];exact this⟩
    ·cases h
   ·cases h
  ·cases h
 ·split at h
  ·rename_i hk
   obtain ⟨h,hbx⟩:=boxNil_eq h
   obtain ⟨h0,_⟩:=ev1_ok (C:=Ctx.still (fun _=>False) default N) h hA
   refine ⟨h0,hbx,fun p a w Qr=>?_⟩
   obtain ⟨g,S⟩:=Qr
   rw [← est] at S
   obtain ⟨_,k⟩:=ev1_ok (C:=Ctx.still p w N) h hA
   have hi:indepOp a.eval o.op=true:=by
    cases ho:o.op<;>rw [ho] at hk<;>simp only [qKind] at hk<;>try (cases hk;done)
    all_goals try rfl
    rename_i x
    simp only [ev1,ho] at h
    unfold evNil at h
    split at h
    ·cases h
    split at h
    ·rename_i t
     split at h
     ·rename_i cs hl
      have h2:=RepD.inv (S.env t _ hl).2.1
      simp only [indepOp,Act.eval]
      generalize a.tmps.getD t undef=v at h2
      generalize g.TE t=T at h2
      cases h2
      rfl
     ·rename_i i f hl
      have h2:RepD g w (a.tmps.getD t undef) (.ptr i f) (g.TE t):=(S.env t _ hl).2.1
      simp only [indepOp,Act.eval]
      generalize a.tmps.getD t undef=v at h2
      generalize g.TE t=T at h2
      cases h2
      rfl
     ·rename_i r sz i j hl
      obtain ⟨_,⟨_,b,_,_,h5⟩,_⟩:=S.env t _ hl
      simp only [indepOp,Act.eval,h5]
     ·cases h
    ·cases h
   have hw:=k g a w S (fun a' w'=>∃ g',SRep (Ctx.still p w N) g' e'.st a' w') (fun _ _ _=>False) (fun g' a' w' S' _=>⟨g',S'⟩)
   obtain ⟨v,h1,g',h2⟩:=wp_value (Indep.op hi) (fun w' x hx=>indep_value hi hx) hw
   exact ⟨v,fun w' _=>h1 w',g',by rw [← key _ hbx];exact h2⟩
  ·split at h
   ·rename_i t s ho
    split at h
    ·rename_i cs d hl hd
     split at h
     ·rename_i u hp
      obtain ⟨h,hbx⟩:=boxNil_eq h
      cases h
      obtain ⟨hdd,hdN⟩:=dstOf_eq hd
      refine ⟨hA,hbx,fun p a w Qr=>?_⟩
      obtain ⟨g,S⟩:=Qr
      rw [← est] at S
      have h2:=RepD.inv (S.env s _ hl).2.1
      generalize hv:a.tmps.getD s undef=v at h2
      generalize hT:g.TE s=T at h2
      cases h2 with
      | pt r1 r2 r3 r4 =>
       rename_i b q xs
       obtain ⟨v,A,B,hr,hAB,hR⟩:=loadPartA (P:=P) (t:=t) (b:=b) (o:=q) (xs:=xs) r1 hp
       have hA':=(List.append_eq_nil_iff.1 hAB.symm).1
       subst hA'
       have hpb:=QRep.pubB (q:=e.st.env) (by rw [← est];exact S) b r3
       refine ⟨v,fun w' hw'=>?_,?_⟩
       ·have:=hr w' (fun j u hj=>(cell?_same (hw' (by rw [ho];rfl) b hpb)).trans (r4 j u hj))
        unfold execOp
        simp only [ho,Act.eval,hv,Sem.run_bind,this,Result.andThen_ok,Sem.run_pure]
       ·rw [hdd]
        exact ⟨_,by rw [← key _ hbx];exact S.put0 (Calm.refl w) hdN (.v hR)⟩
     ·cases h
    ·cases h
   ·rename_i s t f ho
    split at h
    ·rename_i off ft cs d hf hl hd
     obtain ⟨h,hbx⟩:=boxNil_eq h
     cases h
     obtain ⟨hdd,hdN⟩:=dstOf_eq hd
     refine ⟨hA,hbx,fun p a w Qr=>?_⟩
     obtain ⟨g,S⟩:=Qr
     rw [← est] at S
     have h2:=RepD.inv (S.env t _ hl).2.1
     generalize hv:a.tmps.getD t undef=v at h2
     generalize hT:g.TE t=T at h2
     cases h2 with
     | pt r1 r2 r3 r4 =>
      rename_i b q xs
      obtain ⟨A,B,hAB,_,r5⟩:=r1.cut off
      have hB:=(List.append_eq_nil_iff.1 hAB.symm).2
      subst hB
      have hx:a.eval (.tmp t)=.pointer (some ⟨b,q,none⟩):=hv
      refine ⟨.pointer (some ⟨b,q+off,none⟩),fun w' _=>?_,?_⟩
      ·unfold execOp
       simp only [ho,hx,Sem.run_bind,fieldAt_run hf w' b q,Result.andThen_ok,Sem.run_pure]
      ·rw [hdd]
       have hpt:Rep g.pub w (.pointer (some ⟨b,q+off,none⟩)) (.pt (cs.drop off)) []:=.pt r5 (fun u hu=>r2 u (List.mem_of_mem_drop hu)) r3 fun j u hj=>by
        rw [List.getElem?_drop] at hj
        have:=r4 _ _ hj
        rwa [show q+off+j=q+(off+j) by omega]
       exact ⟨_,by rw [← key _ hbx];exact S.put0 (Calm.refl w) hdN (.v hpt)⟩
    ·cases h
   ·rename_i c ho
    split at h
    ·rename_i x hc hx
     obtain ⟨h,hbx⟩:=boxNil_eq h
     have ha:=arr1 hx
     obtain ⟨h0,_⟩:=evLen_ok (C:=Ctx.still (fun _=>False) default N) ho hc ha h hA
     refine ⟨h0,hbx,fun p a w Qr=>?_⟩
     obtain ⟨g,S⟩:=Qr
     rw [← est] at S
     unfold evLen at h
     split at h
     ·cases h
     rename_i d hd
     split at h
     ·rename_i r ow sz es hp
      split at h
      ·rename_i t ht
       split at h
       ·rename_i el hu
        split at h
        ·rename_i n e1 hh
         obtain ⟨q1,q2⟩:=hint_eq hh
         cases h
         obtain ⟨hdd,hdN⟩:=dstOf_eq hd
         have hn:(es.length:Int)=n:=(All.snoc (l:=e1.ob) hA).2
         obtain ⟨T,_,hr,_⟩:=peek_ok S hp
         obtain ⟨ao,cap,hv⟩:=hr.row_inv
         refine ⟨.int .i64 n,fun w' _=>?_,?_⟩
         ·unfold execOp
          simp only [ho,resolve,hc,ha,Sem.run_bind,Sem.run_pure,Result.andThen_ok,invoke,builtin,List.map_toArray,List.map_cons,List.map_nil,hv,Builtin.len_,ht,List.getElem?_toArray,List.getElem?_cons_zero,run_underlying hu,goInt,hn]
         ·rw [hdd]
          have hput:=S.put0 (Calm.refl w) hdN (v:=.int .i64 n) (D:=.v (.lit (.int .i64 n))) (.v (.lit _))
          rw [← q2] at hput
          exact ⟨_,by rw [← key _ hbx];exact hput⟩
        ·cases h
       ·cases h
      ·cases h
     ·cases h
    ·cases h
   ·rename_i op t x y ty ho
    obtain ⟨h,hbx⟩:=boxNil_eq h
    unfold evEqQ at h
    split at h
    ·cases h
    rename_i d hd
    split at h
    ·cases h
    rename_i hgd
    split at h
    rotate_left
    ·cases h
    rename_i cs ds e1 hv
    split at h
    rotate_left
    ·cases h
    rename_i vs1 vs2 hl1 hl2
    obtain ⟨hdd,hdN⟩:=dstOf_eq hd
    have fin:∀ (b:Bool) (v:Value),eqV P 12 t (.agg cs) (.agg ds)=some b→(op=.eql∧v=.bool b∨op=.neq∧v=.bool (!b))→e'=e1.put d (.lit v)→All e.ob∧e'.st.box=[]∧∀ (p:Pub) (a:Act) (w:World),QRep p N e.st.env a w →
     ∃ v,(∀ w',(ldOp o.op=true→PubEq p w w')→(execOp a.eval o).run P w'=.ok (.value v) w')∧QRep p N e'.st.env (a.put o.dst v) w:=by
     intro b v hb hop he
     subst he
     have hA:All e1.ob:=hA
     obtain ⟨h0,_⟩:=vals_ok (C:=Ctx.still (fun _=>False) default N) hv hA
     refine ⟨h0,hbx,fun p a w Qr=>?_⟩
     obtain ⟨g,S⟩:=Qr
     rw [← est] at S
     obtain ⟨_,k⟩:=vals_ok (C:=Ctx.still p w N) hv hA
     obtain ⟨g1,_,S1,r⟩:=k g a w S
     refine ⟨v,fun w' _=>?_,?_⟩
     ·have hr:RepL p w' ([x,y].map a.eval) [.agg cs,.agg ds] []:=by
       simp only [List.map_cons,List.map_nil] at r ⊢
       generalize hT:([]:List Nat)=T at r
       cases r with
       | @cons _ _ _ _ A B r1 r2 =>
        have hA1:=(List.append_eq_nil_iff.1 hT.symm)
        rw [hA1.1] at r1
        rw [hA1.2] at r2
        generalize hT2:([]:List Nat)=T2 at r2
        cases r2 with
        | @cons _ _ _ _ A2 B2 r3 r4 =>
         have hA2:=(List.append_eq_nil_iff.1 hT2.symm)
         rw [hA2.1] at r3
         obtain ⟨xs,ex,rx⟩:=r1.agg_inv
         obtain ⟨ys,ey,ry⟩:=r3.agg_inv
         rw [ex,ey]
         have e1:=lits_rep hl1 rx
         have e2:=lits_rep hl2 ry
         subst e1
         subst e2
         have hnil:RepL p w' [] [] []:=.nil
         rw [← hT]
         exact (RepL.cons (A:=[]) (B:=[]) (.agg (repL_lits hl1)) (RepL.cons (A:=[]) (B:=[]) (.agg (repL_lits hl2)) hnil):RepL p w' _ _ [])
      exact eqS_run hgd hb hop ho a.eval w' p hr
     ·rw [hdd]
      have:=S1.put0 (Calm.refl w) hdN (v:=v) (D:=.v (.lit v)) (.v (.lit v))
      exact ⟨_,by rw [← key _ hbx];exact this⟩
    cases hb:eqV P 12 t (.agg cs) (.agg ds) with
    | none=>rw [hb] at h;cases op<;>cases h
    | some b =>
     rw [hb] at h
     cases op<;>try (cases h;done)
     ·exact fin b _ hb (.inl ⟨rfl,rfl⟩) (Option.some.inj h).symm
     ·exact fin b _ hb (.inr ⟨rfl,rfl⟩) (Option.some.inj h).symm
   ·cases h
end
inductive Tr where
 | z
 | k (d:Nat) (t:Tr)
 | q (i:Nat) (ps:List (List Nat)) (t:Tr)
 | i (i:Nat) (t:Tr)
 | e (i:Nat) (t:Tr)
 | b (i:Nat) (h1 g1:List V) (t1:Tr) (h2 g2:List V) (t2:Tr)
def gdec (ops:Array Oper) (o:Oper) (st:St):Option Bool:=match o.guard with
 | none=>some true
 | some (j,want)=>match guardT ops j with
  | some d=>match look st.env d with
   | some (.d (.v (.kb v)))=>some (v == want)
   | some (.d (.v (.lit (.tuple t))))=>match Nat.beq t.size 0 with
    | true=>some false
    | false=>none
   | _=>none
  | none=>none
theorem gdec_ok {C:Ctx} {ops:Array Oper} {o:Oper} {st:St} {g:G} {a:Act} {w:World} {b:Bool} (h:gdec ops o st=some b) (S:SRep C g st a w):Region.wanted o (yielded ops a.tmps)=b:=by
 unfold gdec at h
 split at h
 ·rename_i hg;cases h;simp [Region.wanted,hg]
 ·rename_i j want hg
  split at h
  ·rename_i d hd
   split at h
   ·rename_i v hl
    have hy:=yield_of S hd hl (RepD.kb (S.env d _ hl).2.1)
    cases h
    simp only [Region.wanted,hg,hy]
    cases v<;>cases want<;>rfl
   ·rename_i t hl
    split at h
    ·cases h
     have hv:=RepD.lit (S.env d _ hl).2.1
     unfold guardT at hd
     split at hd
     ·rename_i oj hoj
      have:yielded ops a.tmps j=none:=by
       simp only [yielded,hoj,Option.bind_some,hd]
       obtain ⟨h1,_,_⟩:=S.env d _ hl
       have hlt:d < a.tmps.size:=by rw [S.tmps];exact h1
       rw [Array.getD_eq_getD_getElem?,Array.getElem?_eq_getElem hlt] at hv
       rw [Array.getElem?_eq_getElem hlt]
       simp only [Option.getD_some] at hv
       simp only [hv]
      simp [Region.wanted,hg,this]
     ·cases hd
    ·cases h
   ·cases h
  ·cases h
def Tr.cnt:Tr→Nat
 | .z=>0
 | .k _ t=>t.cnt
 | .q _ _ t=>t.cnt+1
 | .i _ t=>t.cnt+1
 | .e _ t=>t.cnt+1
 | .b _ _ _ t _ _ _=>t.cnt+1
def V.sol:V→Bool
 | .lit _=>true
 | .kb _=>true
 | .tup cs=>go cs
 | .agg cs=>go cs
 | .clo _ cs=>go cs
 | _=>false
where go:List V→Bool
 | []=>true
 | c :: cs=>match c.sol with
  | true=>go cs
  | false=>false
mutual
theorem Rep.sol {p p':Pub} {w w':World} {v:Value} {u:V} {T:List Nat}:Rep p w v u T→u.sol=true→Rep p' w' v u []
 | .lit u,_=>.lit u
 | .kb b,_=>.kb b
 | .tup h,hs=>.tup (h.sol (by simpa [V.sol] using hs))
 | .agg h,hs=>.agg (h.sol (by simpa [V.sol] using hs))
 | .any _,hs=>by simp [V.sol] at hs
 | .nil _ _,hs=>by simp [V.sol] at hs
 | .shared ..,hs=>by simp [V.sol] at hs
 | .own ..,hs=>by simp [V.sol] at hs
 | .pt ..,hs=>by simp [V.sol] at hs
 | .iface ..,hs=>by simp [V.sol] at hs
 | .clo h,hs=>.clo (h.sol (by simpa [V.sol] using hs))
theorem RepL.sol {p p':Pub} {w w':World} {vs:List Value} {us:List V} {T:List Nat}:RepL p w vs us T→V.sol.go us=true→RepL p' w' vs us []
 | .nil,_=>.nil
 | .cons (d:=d) h1 h2,hs=>by
  simp only [V.sol.go] at hs
  cases hc:d.sol with
  | false=>rw [hc] at hs;cases hs
  | true=>rw [hc] at hs;exact RepL.cons (A:=[]) (B:=[]) (h1.sol hc) (h2.sol hs)
end
def solAt (env:List (Nat × X)) (d:Nat):V:=match look env d with
 | some (.d (.v u))=>match u.sol with
  | true=>u
  | false=>.any
 | _=>.any
def qdrop (N:Nat) (o:Oper) (e1:E) (q:E):Option E:=match o.dst with
 | none=>some q
 | some _=>match dstOf N o with
  | some d=>some { q with st:=⟨putE q.st.env d (.d (.v (solAt e1.st.env d))),[]⟩ }
  | none=>none
def qskip (N:Nat) (o:Oper) (q:E):Option E:=match o.dst with
 | none=>some q
 | some _=>match dstOf N o with
  | some d=>some { q with st:=⟨putE q.st.env d (.d (.v (.lit undef))),[]⟩ }
  | none=>none
def qkb (d:Nat) (v:Bool) (q:E):E:=match look q.st.env d with
 | some (.d (.v (.lit (.bool b))))=>{ need (b=v) q with st:=q.st.setT d (.d (.v (.kb v))) }
 | _=>q
def remOf (ops:Array Oper) (L:Array Bool):Option (List Nat)→List Nat
 | some r=>r
 | none=>Region.ready .any ops L
def estep (P:Program) (N:Nat) (ops:Array Oper) (i:Nat) (e q:E):Option (E × E):=match ops[i]? with
 | some o=>match gdec ops o e.st with
  | some true=>match ev1 P N o e with
   | some e1=>match qdrop N o e1 q with
    | some q1=>some (fixE N o e1,q1)
    | none=>none
   | none=>none
  | _=>none
 | none=>none
def evT (P:Program) (N:Nat) (ops:Array Oper):Tr→Option (List Nat)→Array Bool→E→E→Option (List (E × E))
 | .z,none,L,e,q=>match Region.ready .any ops L with
  | []=>some [(e,q)]
  | _ :: _=>none
 | .k d l,none,L,e,q=>match look e.st.env d with
  | some (.d (.v (.lit (.bool b))))=>match hint e with
   | some (.lit (.bool v),e1)=>evT P N ops l none L { need (b=v) e1 with st:=e1.st.setT d (.d (.v (.kb v))) } (qkb d v q)
   | _=>none
  | _=>none
 | .q i ps l,none,L,e,q=>match ops[i]? with
  | some o=>match (Region.ready .any ops L).contains i && Region.free .any ops L i && aheadB P ops i ps && calmK P o.op with
   | true=>match gdec ops o e.st with
    | some true=>match ev1 P N o e,qstep P N o q with
     | some e1,some q1=>evT P N ops l none (L.setIfInBounds i true) (fixE N o e1) q1
     | _,_=>none
    | _=>none
   | false=>none
  | none=>none
 | .i i l,none,L,e,q=>match ops[i]? with
  | some o=>match (Region.ready .any ops L).contains i && Region.free .any ops L i && calmK P o.op with
   | true=>match gdec ops o e.st with
    | some true=>match ldOp o.op,ev1 P N o e,qstep P N o q with
     | false,some e1,some q1=>evT P N ops l none (L.setIfInBounds i true) (fixE N o e1) q1
     | _,_,_=>none
    | some false=>match skipE N o e,qskip N o q with
     | some e1,some q1=>evT P N ops l none (L.setIfInBounds i true) e1 q1
     | _,_=>none
    | none=>none
   | false=>none
  | none=>none
 | .e i l,r,L,e,q=>match remOf ops L r with
  | [j]=>match Nat.beq j i with
   | true=>match estep P N ops i e q with
    | some (e1,q1)=>evT P N ops l none (L.setIfInBounds i true) e1 q1
    | none=>none
   | false=>none
  | _=>none
 | .b i h1 g1 t1 h2 g2 t2,r,L,e,q=>match remOf ops L r with
  | j :: k :: ks=>match Nat.beq j i && Nat.beq t2.cnt (t1.cnt+1) with
   | true=>match estep P N ops i { e with hs:=h1 } { q with hs:=g1 } with
    | some (e1,q1)=>match evT P N ops t1 none (L.setIfInBounds i true) e1 q1,evT P N ops t2 (some (k :: ks)) L { e with hs:=h2 } { q with hs:=g2 } with
     | some l1,some l2=>some (l1++l2)
     | _,_=>none
    | none=>none
   | false=>none
  | _=>none
 | _,_,_,_,_=>none
def RepX (p:Pub) (w:World) (v:Value) (x:Option X) (T:List Nat):Prop:=match x with
 | some (.d (.v u))=>Rep p w v u T
 | _=>True
section
variable {P:Program} {C:Ctx}
theorem qdrop_ok {N:Nat} {o:Oper} {e1 q q1:E} (h:qdrop N o e1 q=some q1) (hb:q.st.box=[]):q1.ob=q.ob∧q1.st.box=[]∧∀ p a w v,QRep p N q.st.env a w→(∀ d,o.dst=some d→d < N→∃ p' w' T,RepX p' w' v (look e1.st.env d) T)→QRep p N q1.st.env (a.put o.dst v) w:=by
 unfold qdrop at h
 split at h
 ·rename_i hd
  cases h
  exact ⟨rfl,hb,fun p a w v Q _=>by rw [hd];exact Q⟩
 ·split at h
  ·rename_i d hd
   cases h
   obtain ⟨hdd,hdN⟩:=dstOf_eq hd
   refine ⟨rfl,rfl,fun p a w v Q hr=>?_⟩
   obtain ⟨g,S⟩:=Q
   rw [hdd]
   refine ⟨_,S.put0 (Calm.refl w) hdN (.v ?_)⟩
   obtain ⟨p',w',T,hx⟩:=hr d hdd hdN
   unfold solAt
   split
   ·rename_i u hl
    split
    ·rename_i hs
     rw [hl] at hx
     exact Rep.sol hx hs
    ·exact .any v
   ·exact .any v
  ·cases h
theorem qskip_ok {N:Nat} {o:Oper} {q q1:E} (h:qskip N o q=some q1) (hb:q.st.box=[]):q1.ob=q.ob∧q1.st.box=[]∧∀ p a w,QRep p N q.st.env a w→QRep p N q1.st.env (a.put o.dst undef) w:=by
 unfold qskip at h
 split at h
 ·rename_i hd
  cases h
  exact ⟨rfl,hb,fun p a w Q=>by rw [hd];exact Q⟩
 ·split at h
  ·rename_i d hd
   cases h
   obtain ⟨hdd,hdN⟩:=dstOf_eq hd
   refine ⟨rfl,rfl,fun p a w Q=>?_⟩
   obtain ⟨g,S⟩:=Q
   rw [hdd]
   exact ⟨_,S.put0 (Calm.refl w) hdN (.v (.lit _))⟩
  ·cases h
theorem qkb_ok {N d:Nat} {v:Bool} {q:E} (hA:All (qkb d v q).ob) (hb:q.st.box=[]):All q.ob∧(qkb d v q).st.box=[]∧∀ p a w,QRep p N q.st.env a w→QRep p N (qkb d v q).st.env a w:=by
 unfold qkb at hA ⊢
 split at hA
 ·rename_i b hl
  simp only [hl]
  obtain ⟨h0,hv⟩:=All.snoc (l:=q.ob) hA
  subst hv
  refine ⟨h0,hb,fun p a w Q=>?_⟩
  obtain ⟨g,S⟩:=Q
  have e:q.st=⟨q.st.env,[]⟩:=by rw [← hb]
  rw [← e] at S
  have:=S.known hl
  refine ⟨g,?_⟩
  have e2:(q.st.setT d (.d (.v (.kb b))))=⟨(q.st.setT d (.d (.v (.kb b)))).env,[]⟩:=by simp only [St.setT,hb]
  rw [← e2]
  exact this
 ·exact ⟨hA,hb,fun _ _ _ Q=>Q⟩
end
section
variable {P:Program} {C:Ctx}
def Sq (p:Pub) (w0 w:World):Prop:=PubEq p w0 w∧w0.heap.size≤w.heap.size
inductive AllQ:List (List Prop × List Prop)→Prop
 | nil:AllQ []
 | cons {a b:List Prop} {l:List (List Prop × List Prop)}:All a→All b→AllQ l→AllQ ((a,b) :: l)
def obE (x:E × E):List Prop × List Prop:=(x.1.ob,x.2.ob)
theorem AllQ.left:∀ {l m:List (List Prop × List Prop)},AllQ (l++m)→AllQ l
 | [],_,_=>.nil
 | _ :: _,_,.cons a b t=>.cons a b t.left
theorem AllQ.right:∀ {l m:List (List Prop × List Prop)},AllQ (l++m)→AllQ m
 | [],_,h=>h
 | _ :: _,_,.cons _ _ t=>AllQ.right (m:=_) t
theorem qstep_box {N:Nat} {o:Oper} {q q1:E} (h2:qstep P N o q=some q1):q1.st.box=[]:=by
 unfold qstep at h2
 split at h2
 ·split at h2
  ·split at h2
   ·split at h2
    ·exact (boxNil_eq h2).2
    ·cases h2
   ·cases h2
  ·cases h2
 ·split at h2
  ·exact (boxNil_eq h2).2
  ·split at h2
   ·split at h2
    ·split at h2
     ·exact (boxNil_eq h2).2
     ·cases h2
    ·cases h2
   ·split at h2
    ·exact (boxNil_eq h2).2
    ·cases h2
   ·split at h2
    ·exact (boxNil_eq h2).2
    ·cases h2
   ·exact (boxNil_eq h2).2
   ·cases h2
theorem estep_ok {ops:Array Oper} {i:Nat} {e q e1 q1:E} (h:estep P C.N ops i e q=some (e1,q1)) (hb:q.st.box=[]) (hA:All e1.ob) (hB:All q1.ob):All e.ob∧All q.ob∧q1.st.box=[] ∧
 ∀ (g:G) (a:Act) (w w0:World) (p:Pub) (Q:Exit→Act→World→Prop) (K:Act→World→Prop) (L:Array Bool),(∀ b,p b→b < w0.heap.size)→i∈Region.ready .any ops L→SRep C g e.st a w→QRep p C.N q.st.env a w0→Shut ops L→SL P ops (Sq p w0) L w →
  (∀ g' a' w',SRep C g' e1.st a' w'→QRep p C.N q1.st.env a' w0→Shut ops (L.setIfInBounds i true)→SL P ops (Sq p w0) (L.setIfInBounds i true) w'→K a' w') →
  wpOp P ops Q i (fun a' w'=>SL P ops (Sq p w0) (L.setIfInBounds i true) w'∧K a' w') a w:=by
 unfold estep at h
 split at h
 rotate_left
 ·cases h
 rename_i o ho
 split at h
 rotate_left
 ·cases h
 rename_i hg
 split at h
 rotate_left
 ·cases h
 rename_i e2 h1
 split at h
 rotate_left
 ·cases h
 rename_i q2 h2
 cases h
 obtain ⟨x1,hb1,k2⟩:=qdrop_ok h2 hb
 obtain ⟨hA2,kf⟩:=fixE_ok (P:=P) hA
 obtain ⟨hA3,k1⟩:=ev1_ok (C:=C) h1 hA2
 refine ⟨hA3,x1 ▸ hB,hb1,fun g a w w0 p Q K L hp c1 S Qr hsh hS hK=>?_⟩
 have hw:=gdec_ok (ops:=ops) hg S
 unfold wpOp
 simp only [ho,hw,if_true]
 refine .inl ?_
 have hmain:=wp_form (k1 g a w S (fun a' w'=>(∃ g',SRep C g' e2.st a' w')∧(calmK P o.op=true→Calm w w')) Q (fun g' a' w' S' hcm=>⟨⟨g',S'⟩,hcm⟩))
 refine Oper.wp_mono (fun a' w' hh=>?_) hmain
 obtain ⟨⟨⟨g',S'⟩,hcm⟩,hform⟩:=hh
 rcases hform with ⟨v,rfl⟩ | hd
 ·have hS2:SL P ops (Sq p w0) (L.setIfInBounds i true) w':=by
   cases hck:calmK P o.op with
   | true =>
    refine (SL.iff ho hck).2 fun kk=>?_
    obtain ⟨s1,s2⟩:=hS kk
    have hc:=hcm hck
    exact ⟨fun b hb=>(hc.same b (Nat.lt_of_lt_of_le (hp b hb) s2)).trans (s1 b hb),Nat.le_trans s2 hc.size⟩
   | false =>
    intro kk
    have hin:(L.setIfInBounds i true).getD i false=true:=by
     have h0:=(mem_ready.1 c1).1
     rcases Nat.lt_or_ge i L.size with h' | h'
     ·simp [h']
     ·simp [Array.getElem?_eq_none h'] at h0
    have:=kk i o ho hin
    rw [hck] at this;cases this
  refine ⟨hS2,hK g' _ w' (kf _ _ _ S') (k2 p a w0 v Qr fun d hd hdN=>⟨g'.pub,w',g'.TE d,?_⟩) (hsh.add c1) hS2⟩
  cases hl:look e2.st.env d with
  | none=>trivial
  | some x =>
   cases x with
   | d D =>
    cases D with
    | v u =>
     obtain ⟨m1,m2,_⟩:=S'.env d _ hl
     have hval:(a.put o.dst v).tmps.getD d undef=v:=by
      rw [hd,Act.put_some,Array.getD_eq_getD_getElem?]
      simp [show d < a.tmps.size by rw [S.tmps];exact hdN]
     rw [hval] at m2
     exact RepD.inv m2
    | _=>trivial
   | _=>trivial
 ·exact (hd S'.defers).elim
def ToDo (P:Program) (ops:Array Oper) (Q:Exit→Act→World→Prop) (S:Array Bool→World→Prop) (n:Nat) (r:Option (List Nat)) (L:Array Bool) (a:Act) (w:World):Prop:=match r with
 | none=>anyS P ops Q S n L a w
 | some l=>∀ i∈l,∃ m,n=m+1∧wpOp P ops Q i (fun a' w'=>S (L.setIfInBounds i true) w'∧anyS P ops Q S m (L.setIfInBounds i true) a' w') a w
theorem evT_ok {ops:Array Oper} (hs:Region.noSelect ops=true):∀ {t:Tr} {r:Option (List Nat)} {L:Array Bool} {e q:E} {ls:List (E × E)},evT P C.N ops t r L e q=some ls→AllQ (ls.map obE)→q.st.box=[]→(∀ l,r=some l→∀ i∈l,i∈Region.ready .any ops L) →
 All e.ob∧All q.ob∧∀ (g:G) (a:Act) (w w0:World) (p:Pub) (Q:Exit→Act→World→Prop),(∀ b,p b→b < w0.heap.size)→(∀ c a w,¬ Q (.panic c) a w)→(∀ x∈ls,∀ g a w,SRep C g x.1.st a w→Q .normal a w) →
  SRep C g e.st a w→QRep p C.N q.st.env a w0→Shut ops L→SL P ops (Sq p w0) L w→ToDo P ops Q (SL P ops (Sq p w0)) t.cnt r L a w
 | .z,some _,L,e,q,ls,h,hA,hb,hr=>by simp [evT] at h
 | .k _ _,some _,L,e,q,ls,h,hA,hb,hr=>by simp [evT] at h
 | .q _ _ _,some _,L,e,q,ls,h,hA,hb,hr=>by simp [evT] at h
 | .i _ _,some _,L,e,q,ls,h,hA,hb,hr=>by simp [evT] at h
 | .z,none,L,e,q,ls,h,hA,hb,hr=>by
  simp only [evT] at h
  split at h
  ·rename_i hrd
   cases h
   cases hA with
   | cons h1 h2 _=>exact ⟨h1,h2,fun g a w w0 p Q hp hpan hQ S _ _ _=>⟨hrd,hQ (e,q) (by simp) g a w S⟩⟩
  ·cases h
 | .k d l,none,L,e,q,ls,h,hA,hb,hr=>by
  simp only [evT] at h
  split at h
  ·rename_i b hl
   split at h
   ·rename_i v e1 hh
    obtain ⟨q1,q2⟩:=hint_eq hh
    have hb2:(qkb d v q).st.box=[]:=by
     unfold qkb
     split
     ·exact hb
     ·exact hb
    obtain ⟨h1,h2,h3⟩:=evT_ok hs h hA hb2 (fun _ h=>by cases h)
    obtain ⟨h4,hbv⟩:=All.snoc (l:=e1.ob) h1
    subst hbv
    obtain ⟨h5,_,h6⟩:=qkb_ok (N:=C.N) h2 hb
    refine ⟨q1 ▸ h4,h5,fun g a w w0 p Q hp hpan hQ S Qr hsh hS=>?_⟩
    refine h3 g a w w0 p Q hp hpan hQ ?_ (h6 p a w0 Qr) hsh hS
    show SRep C g (e1.st.setT d _) a w
    rw [q2]
    exact S.known hl
   ·cases h
  ·cases h
 | .q i ps l,none,L,e,q,ls,h,hA,hb,hr=>by
  simp only [evT] at h
  split at h
  ·rename_i o ho
   split at h
   ·rename_i hc
    simp only [Bool.and_eq_true] at hc
    obtain ⟨⟨⟨c1,c2⟩,c3⟩,c4⟩:=hc
    have c1:i∈Region.ready .any ops L:=by simpa using c1
    split at h
    ·rename_i hg
     split at h
     ·rename_i e1 q1 h1 h2
      have hb1:q1.st.box=[]:=qstep_box h2
      obtain ⟨hA1,hB1,k⟩:=evT_ok hs h hA hb1 (fun _ h=>by cases h)
      obtain ⟨hA2,kf⟩:=fixE_ok (P:=P) hA1
      obtain ⟨hA3,k1⟩:=ev1_ok h1 hA2
      obtain ⟨hB2,_,k2⟩:=qstep_ok h2 hb hB1
      refine ⟨hA3,hB2,fun g a w w0 p Q hp hpan hQ S Qr hsh hS=>?_⟩
      obtain ⟨v,hv,Qr'⟩:=k2 p a w0 Qr
      have hw:=gdec_ok (ops:=ops) hg S
      have hSq:=ahead_calm hsh c3 (mem_ready.1 c1).1 hS
      have hrun:=hv w (fun _=>hSq.1)
      have hmain:=k1 g a w S (fun a' w'=>∃ g',SRep C g' e1.st a' w') (fun _ _ _=>False) (fun g' a' w' S' _=>⟨g',S'⟩)
      unfold Oper.wp at hmain
      rw [hrun,Oper.upon_value] at hmain
      obtain ⟨g',S'⟩:=hmain
      refine anyS.first (R:=Sq p w0) ho hs (fun L w h1 h2 h3=>ahead_calm h1 c3 h2 h3) c4 (fun c a w h=>(hpan c _ w h).elim) l.cnt L a w hsh (fun j oj=>Region.free_spec ho c2 j oj) c1 (.inl ⟨hw,fun w' hw'=>hv w' (fun _=>hw'.1)⟩) hS ?_
      exact k g' _ w w0 p Q hp hpan hQ (kf _ _ _ S') Qr' (hsh.add c1) ((SL.iff ho c4).2 hS)
     ·cases h
    ·cases h
   ·cases h
  ·cases h
 | .i i l,none,L,e,q,ls,h,hA,hb,hr=>by
  simp only [evT] at h
  split at h
  ·rename_i o ho
   split at h
   ·rename_i hc
    simp only [Bool.and_eq_true] at hc
    obtain ⟨⟨c1,c2⟩,c4⟩:=hc
    have c1:i∈Region.ready .any ops L:=by simpa using c1
    split at h
    ·rename_i hg
     split at h
     ·rename_i e1 q1 hld h1 h2
      have hb1:q1.st.box=[]:=qstep_box h2
      obtain ⟨hA1,hB1,k⟩:=evT_ok hs h hA hb1 (fun _ h=>by cases h)
      obtain ⟨hA2,kf⟩:=fixE_ok (P:=P) hA1
      obtain ⟨hA3,k1⟩:=ev1_ok h1 hA2
      obtain ⟨hB2,_,k2⟩:=qstep_ok h2 hb hB1
      refine ⟨hA3,hB2,fun g a w w0 p Q hp hpan hQ S Qr hsh hS=>?_⟩
      obtain ⟨v,hv,Qr'⟩:=k2 p a w0 Qr
      have hw:=gdec_ok (ops:=ops) hg S
      have hrun:=hv w (fun h=>by rw [hld] at h;cases h)
      have hmain:=k1 g a w S (fun a' w'=>∃ g',SRep C g' e1.st a' w') (fun _ _ _=>False) (fun g' a' w' S' _=>⟨g',S'⟩)
      unfold Oper.wp at hmain
      rw [hrun,Oper.upon_value] at hmain
      obtain ⟨g',S'⟩:=hmain
      refine anyS.first (R:=fun _=>True) ho hs (fun L w h1 h2 h3=>trivial) c4 (fun c a w h=>(hpan c _ w h).elim) l.cnt L a w hsh (fun j oj=>Region.free_spec ho c2 j oj) c1 (.inl ⟨hw,fun w' hw'=>hv w' (fun h=>by rw [hld] at h;cases h)⟩) hS ?_
      exact k g' _ w w0 p Q hp hpan hQ (kf _ _ _ S') Qr' (hsh.add c1) ((SL.iff ho c4).2 hS)
     ·cases h
    ·rename_i hg
     split at h
     ·rename_i e1 q1 h1 h2
      obtain ⟨x1,hb1,k2⟩:=qskip_ok h2 hb
      obtain ⟨hA1,hB1,k⟩:=evT_ok hs h hA hb1 (fun _ h=>by cases h)
      obtain ⟨hA3,k1⟩:=skip_ok (P:=P) (C:=C) (ops:=ops) h1 hA1
      refine ⟨hA3,x1 ▸ hB1,fun g a w w0 p Q hp hpan hQ S Qr hsh hS=>?_⟩
      have hw:=gdec_ok (ops:=ops) hg S
      have hmain:=k1 g a w S hw (fun a' w'=>∃ g',SRep C g' e1.st a' w') (fun _ _ _=>False) (fun g' a' w' S' _=>⟨g',S'⟩)
      rw [if_neg (by rw [hw];simp)] at hmain
      obtain ⟨g',S'⟩:=hmain
      refine anyS.first (R:=fun _=>True) ho hs (fun L w h1 h2 h3=>trivial) c4 (fun c a w h=>(hpan c _ w h).elim) l.cnt L a w hsh (fun j oj=>Region.free_spec ho c2 j oj) c1 (.inr ⟨hw,rfl⟩) hS ?_
      exact k g' _ w w0 p Q hp hpan hQ S' (k2 p a w0 Qr) (hsh.add c1) ((SL.iff ho c4).2 hS)
     ·cases h
    ·cases h
   ·cases h
  ·cases h
 | .e i l,r,L,e,q,ls,h,hA,hb,hr=>by
  simp only [evT] at h
  split at h
  rotate_left
  ·cases h
  rename_i j hrem
  split at h
  rotate_left
  ·cases h
  rename_i hj
  have hj:=Nat.eq_of_beq_eq_true hj
  subst hj
  split at h
  rotate_left
  ·cases h
  rename_i e1 q1 hes
  have hbq:q1.st.box=[]:=by
   unfold estep at hes
   split at hes
   ·split at hes
    ·split at hes
     ·split at hes
      ·rename_i _ _ _ _ h2
       cases hes
       exact (qdrop_ok h2 hb).2.1
      ·cases hes
     ·cases hes
    ·cases hes
   ·cases hes
  obtain ⟨hA1,hB1,k⟩:=evT_ok hs h hA hbq (fun _ h=>by cases h)
  obtain ⟨hA0,hB0,_,step⟩:=estep_ok (C:=C) hes hb hA1 hB1
  refine ⟨hA0,hB0,fun g a w w0 p Q hp hpan hQ S Qr hsh hS=>?_⟩
  have main:j∈Region.ready .any ops L→wpOp P ops Q j (fun a' w'=>SL P ops (Sq p w0) (L.setIfInBounds j true) w'∧anyS P ops Q (SL P ops (Sq p w0)) l.cnt (L.setIfInBounds j true) a' w') a w:=fun c1 =>
   step g a w w0 p Q _ L hp c1 S Qr hsh hS fun g' a' w' S' Qr' hsh' hS'=>k g' a' w' w0 p Q hp hpan hQ S' Qr' hsh' hS'
  cases r with
  | none =>
   simp only [remOf] at hrem
   refine ⟨fun h0=>(by rw [h0] at hrem;cases hrem),fun i hi=>?_⟩
   rw [hrem] at hi
   have:i=j:=by simpa using hi
   subst this
   exact main (by rw [hrem];simp)
  | some l' =>
   simp only [remOf] at hrem
   subst hrem
   intro i hi
   have:i=j:=by simpa using hi
   subst this
   exact ⟨_,rfl,main (hr _ rfl _ (by simp))⟩
 | .b i h1 g1 t1 h2 g2 t2,r,L,e,q,ls,h,hA,hb,hr=>by
  simp only [evT] at h
  split at h
  rotate_left
  ·cases h
  rename_i j k ks hrem
  split at h
  rotate_left
  ·cases h
  rename_i hj
  rw [Bool.and_eq_true] at hj
  have hcnt:=Nat.eq_of_beq_eq_true hj.2
  have hj:=Nat.eq_of_beq_eq_true hj.1
  subst hj
  split at h
  rotate_left
  ·cases h
  rename_i e1 q1 hes
  split at h
  rotate_left
  ·cases h
  rename_i l1 l2 hl1 hl2
  cases h
  rw [List.map_append] at hA
  have hbq:q1.st.box=[]:=by
   unfold estep at hes
   split at hes
   ·split at hes
    ·split at hes
     ·split at hes
      ·rename_i _ _ _ _ h2
       cases hes
       exact (qdrop_ok h2 hb).2.1
      ·cases hes
     ·cases hes
    ·cases hes
   ·cases hes
  have hall:∀ i∈j :: k :: ks,i∈Region.ready .any ops L:=by
   cases r with
   | none=>simp only [remOf] at hrem;rw [hrem];exact fun _ h=>h
   | some l'=>simp only [remOf] at hrem;subst hrem;exact hr _ rfl
  obtain ⟨hA1,hB1,k1⟩:=evT_ok hs hl1 hA.left hbq (fun _ h=>by cases h)
  obtain ⟨hA2,hB2,k2⟩:=evT_ok hs hl2 hA.right hb (fun l' h=>by cases h;exact fun i hi=>hall i (List.mem_cons_of_mem _ hi))
  obtain ⟨hA0,hB0,_,step⟩:=estep_ok (C:=C) hes hb hA1 hB1
  refine ⟨hA0,hB0,fun g a w w0 p Q hp hpan hQ S Qr hsh hS=>?_⟩
  have m1:=step g a w w0 p Q _ L hp (hall j (by simp)) S Qr hsh hS fun g' a' w' S' Qr' hsh' hS'=>k1 g' a' w' w0 p Q hp hpan (fun x hx=>hQ x (List.mem_append_left _ hx)) S' Qr' hsh' hS'
  have m2:=k2 g a w w0 p Q hp hpan (fun x hx=>hQ x (List.mem_append_right _ hx)) S Qr hsh hS
  have all:∀ i∈j :: k :: ks,wpOp P ops Q i (fun a' w'=>SL P ops (Sq p w0) (L.setIfInBounds i true) w'∧anyS P ops Q (SL P ops (Sq p w0)) t1.cnt (L.setIfInBounds i true) a' w') a w:=by
   intro i hi
   rcases List.mem_cons.1 hi with rfl | hi
   ·exact m1
   ·obtain ⟨m,hm,hw⟩:=m2 i hi
    have:m=t1.cnt:=by omega
    subst this
    exact hw
  cases r with
  | none =>
   simp only [remOf] at hrem
   refine ⟨fun h0=>(by rw [h0] at hrem;cases hrem),fun i hi=>?_⟩
   rw [hrem] at hi
   exact all i hi
  | some l' =>
   simp only [remOf] at hrem
   subst hrem
   intro i hi
   exact ⟨_,rfl,all i hi⟩
def outP:Option (List (E × E))→Option (List (List Prop × List Prop))
 | some l=>some (l.map obE)
 | none=>none
def outS':Option (List (E × E))→List St
 | some l=>l.map (·.1.st)
 | none=>[]
def outQ:Option (List (Nat × X) × List Prop)→List (Nat × X)
 | some (q,_)=>q
 | none=>[]
def outQo:Option (List (Nat × X) × List Prop)→Option (List Prop)
 | some (_,os)=>some os
 | none=>none
def evR (P:Program) (N:Nat) (ops:Array Oper) (t:Tr) (st:St) (ks:List (Nat × Option V)) (hs hq:List V) (rw:List (Nat × Value)) (fx:List (Nat × V)):Option (List (E × E)) :=
 evT P N ops t none (Array.replicate ops.size false) ⟨hs,[],st,rw,fx⟩ ⟨hq,[],⟨outQ (qInit st ks),[]⟩,[],[]⟩
theorem region_any {Q:Exit→St→Prop} {st:St} {id N:Nat} {ops:Array Oper} {obs:List (List Prop × List Prop)} (hm:P.follows .mixedOrders=true) (hN:C.N=N) (t:Tr) (ks:List (Nat × Option V)) {os:List Prop} (hks:outQo (qInit st ks)=some os) (hO:All os) (hs hq:List V) (hA:AllQ obs) (rw:List (Nat × Value)) (fx:List (Nat × V))
 (hc:(Region.noSelect ops && Nat.beq t.cnt ops.size)=true) (h:outP (evR P N ops t st ks hs hq rw fx)=some obs)
 (k:∀ x,x∈outS' (evR P N ops t st ks hs hq rw fx)→∀ g a w,SRep C g x a w→∃ g st,SRep C g st a w∧Q .normal st):Good P C (.region id ops true) Q st:=by
 subst hN
 simp only [Bool.and_eq_true] at hc
 have hcnt:=Nat.eq_of_beq_eq_true hc.2
 intro g a w S
 have hks2:qInit st ks=some (outQ (qInit st ks),os):=by
  cases hq:qInit st ks with
  | none=>rw [hq] at hks;cases hks
  | some x=>obtain ⟨q,os'⟩:=x;rw [hq] at hks;cases hks;rfl
 cases he:evR P C.N ops t st ks hs hq rw fx with
 | none=>rw [he] at h;cases h
 | some ls =>
  rw [he] at h k
  cases h
  obtain ⟨_,_,key⟩:=evT_ok (C:=C) hc.1 he hA rfl (fun _ h=>by cases h)
  have S1:=S.calm (Calm.drew w)
  have plt:∀ b,g.all b→b < w.drew.heap.size:=by
   rintro b (h | ⟨h,ho⟩)
   ·exact S1.publt b h
   ·exact (S1.own b h ho).2.1
  have shut0:Shut ops (Array.replicate ops.size false):=by
   intro j o _ hl
   rw [getD_replicate_false] at hl;cases hl
  have res:=key g a w.drew w.drew g.all (fun e a w=>e=.normal∧∃ g st,SRep C g st a w∧Q .normal st) plt (fun c a w h=>by cases h.1) (fun x hx g a w S'=>⟨rfl,k x.1.st (List.mem_map.2 ⟨x,hx,rfl⟩) g a w S'⟩) S1 (QRep.start S1 hks2 hO) shut0
   (fun _=>⟨fun _ _=>rfl,Nat.le_refl _⟩)
  rw [hcnt] at res
  refine wp_mono (wp_region_any hm (anyS.any _ _ _ _ res)) fun e a w h=>?_
  obtain ⟨rfl,g,st,S',h⟩:=h
  exact ⟨g,st,S',h⟩
def canonS (kk:List (Nat × Nat)) (p:List Nat) (s:St):Option (List (Nat × X)) × List Box:=match p with
 | []=>(restr s.env kk,s.box)
 | _ :: _=>match permOk p s.box.length with
  | true=>(restr (renE p s.env) kk,renB p s.box)
  | false=>(none,[])
def lowOk (L:Nat) (p:List Nat):Bool:=match p with
 | []=>true
 | _ :: _=>(List.range L).all fun i=>match p[i]? with
  | some j=>Nat.beq i j
  | none=>false
theorem Good.regTB {Q:Exit→St→Prop} {st:St} {id N n Ln:Nat} {ops:Array Oper} {obs:List (List Prop × List Prop)} (hm:P.follows .mixedOrders=true) (hN:C.N=N) (hL:C.L.length=Ln) (t:Tr) (ks:List (Nat × Option V)) {os:List Prop} (hks:outQo (qInit st ks)=some os) (hO:All os) (hs hq:List V) (hA:AllQ obs) (rw:List (Nat × Value)) (fx:List (Nat × V))
 (hc:(Region.noSelect ops && Nat.beq t.cnt ops.size)=true) (h:outP (evR P N ops t st ks hs hq rw fx)=some obs) (ps:List (List Nat)) (kk:List (Nat × Nat)) (env:List (Nat × X)) (box:List Box) (hps:(ps.all (lowOk Ln) && Nat.beq (outS' (evR P N ops t st ks hs hq rw fx)).length ps.length)=true)
 (hw:List.zipWith (canonS kk) ps (outS' (evR P N ops t st ks hs hq rw fx))=List.replicate n (some env,box)) (k:Q .normal ⟨env,box⟩):Good P C (.region id ops true) Q st:=by
 rw [Bool.and_eq_true] at hps
 have hlen:=Nat.eq_of_beq_eq_true hps.2
 refine region_any hm hN t ks hks hO hs hq hA rw fx hc h fun x hx g a w S=>?_
 obtain ⟨i,hi⟩:=List.getElem?_of_mem hx
 have hil:=(List.getElem?_eq_some_iff.1 hi).1
 have hpi:ps[i]? = some ps[i]:=List.getElem?_eq_getElem (by omega)
 have hm:=congrArg (fun l=>l[i]?) hw
 simp only [List.getElem?_zipWith,hpi,hi] at hm
 have hin:i < n:=by
  have:=congrArg List.length hw
  simp only [List.length_zipWith,List.length_replicate] at this
  omega
 rw [List.getElem?_replicate,if_pos hin] at hm
 have hm:=Option.some.inj hm
 have hlow:=List.all_eq_true.1 hps.1 ps[i] (List.getElem_mem _)
 generalize ps[i]=p at hm hlow
 unfold canonS at hm
 split at hm
 ·simp only [Prod.mk.injEq] at hm
  obtain ⟨g',S'⟩:=Wk.of kk hm.1 hm.2 g a w S
  exact ⟨g',_,S',k⟩
 ·rename_i q qs
  split at hm
  ·rename_i hok
   simp only [Prod.mk.injEq] at hm
   have S1:=S.ren hok (.inr fun j hj=>by
    simp only [lowOk] at hlow
    have:=List.all_eq_true.1 hlow j (List.mem_range.2 (by omega))
    split at this
    ·rename_i j' hj'
     rw [hj',Nat.eq_of_beq_eq_true this]
    ·cases this)
   obtain ⟨g',S'⟩:=Wk.of kk hm.1 hm.2 _ a w S1
   exact ⟨g',_,S',k⟩
  ·simp only [Prod.mk.injEq,reduceCtorEq,false_and] at hm
end
theorem enter_of {P:Program} {f:FuncId} {fn:Func} {c:Code} (hf:P.funcs[f]? = some fn) (hb:fn.body=some c) (hname:(fn.name == "runtime.NumGoroutine")=false) (vs:Array Value) (w:World):(callFunc f vs).run P w=.ok (.enter f vs) w:=by
 have h1:fn.name ≠ "runtime.NumGoroutine" := by simpa using hname
 simp [callFunc,hf,h1,hb]
theorem calm_of_below {w w':World} (h:Below w.heap.size w w'):Calm w w':=⟨h.os,h.tape,h.output,h.size,h.block⟩
theorem below_of_calm {w w':World} (h:Calm w w'):Below w.heap.size w w':=⟨h.os,h.tape,h.output,h.size,h.same⟩
theorem con_lits {P:Program} {f:FuncId} {fn:Func} {c:Code} {us:List V} {xs:List Value} {v:Value} (hf:P.funcs[f]? = some fn) (hb:fn.body=some c) (hname:(fn.name == "runtime.NumGoroutine")=false) (hl:lits us=some xs)
 (h:∀ p w,Tabs.t p w→Calls P f xs.toArray w fun e w'=>e=.returned v∧Below w.heap.size w w'):Con P f us (.lit v):=by
 refine ⟨enter_of hf hb hname,fun p w vs hp ht hr=>?_⟩
 have hvs:=lits_rep hl hr
 subst hvs
 refine (h p w ht).mono fun e w' ⟨he,hbel⟩=>?_
 exact ⟨v,[],fun _=>False,he,calm_of_below hbel,fun _ h=>h.elim,List.nodup_nil,fun _ h=>(by cases h),.lit v⟩
theorem Con.law {P:Program} {f:FuncId} {us:List V} (h:Con P f us (.lit (.bool true))) {w:World} {vs:List Value} (ht:Tabs.t (fun b=>b < w.heap.size) w) (hr:RepL (fun b=>b < w.heap.size) w vs us []) :
 Calls P f vs.toArray w fun e w'=>e=.returned (.bool true)∧Below w.heap.size w w':=by
 refine (h.2 _ w vs (fun _ h=>h) ht hr).mono fun e w' ⟨v,T,q,he,hc,_,_,_,hv⟩=>?_
 rw [hv.lit_inv] at he
 exact ⟨he,below_of_calm hc⟩
theorem fitI {x y:Int} (h:x=y):Fit (I x) (I y):=h ▸ .refl _
section
variable {P:Program} {C:Ctx}
end
end
section
structure Asd (p:Prop):Prop where
 mk :: (out:p)
theorem bl_step {w W X:World} (h:Below w.heap.size w W) (k:Below W.heap.size W X):Below w.heap.size w X:=Below.trans h (Below.mono k h.size)
theorem RepL.lits {α:Type} {p:Pub} {w:World} {enc:α→Value}:∀ {l:List α} {xs:List Value} {T:List Nat},RepL p w xs (l.map fun x=>V.lit (enc x)) T→xs=l.map enc
 | [],_,_,h=>by cases h;rfl
 | x :: l,_,_,h=>by
  cases h with
  | cons h1 h2 =>
   cases h1
   rw [h2.lits]
   rfl
theorem flat_lits {α:Type} (enc:α→Value) (l:List α):(l.map fun x=>V.lit (enc x)).flatMap V.cells=l.map fun x=>V.lit (enc x):=by
 induction l with
 | nil=>rfl
 | cons x l ih=>simp only [List.map_cons,List.flatMap_cons,ih,V.cells,List.singleton_append]
theorem Rep.shared_lits {α:Type} {p:Pub} {w:World} {v:Value} {enc:α→Value} {l:List α} {T:List Nat} (h:Rep p w v (.row none 1 (l.map fun x=>V.lit (enc x))) T) :
 ∃ ao cap,v=.slice ao l.length cap∧l.length≤cap∧∀ j x,l[j]? = some x→∃ b o,ao=some ⟨b,o,none⟩∧p b∧w.cell? ⟨b,o+j,none⟩=some (enc x):=by
 generalize he:(l.map fun x=>V.lit (enc x))=es at h
 cases h with
 | shared h0 h1 h2 h3 h4 =>
  subst he
  rw [flat_lits] at h2
  rw [h2.lits] at h4
  rw [List.length_map] at h0
  refine ⟨_,_,by rw [List.length_map],h0,fun j x hj=>h4 j _ (by rw [List.getElem?_map,hj];rfl)⟩
variable [Tabs]
theorem tabs_below {p:Pub} {w W:World} (hp:∀ b,p b→b < w.heap.size) (h:Tabs.t p w) (k:Below w.heap.size w W):Tabs.t p W:=Tabs.s ⟨fun _ h=>h,fun b hb=>k.block b (hp b hb)⟩ h
theorem hp_below {p:Pub} {w W:World} (hp:∀ b,p b→b < w.heap.size) (k:Below w.heap.size w W):∀ b,p b→b < W.heap.size:=fun b hb=>Nat.lt_of_lt_of_le (hp b hb) k.size
theorem grown_below {w w1:World} (h:Below w.heap.size w w1) (row:Option Nat):w.grownBy w1 row:=⟨h.os,h.tape,h.output,h.size,fun i hi _=>h.block i hi⟩
theorem con_litsX {P:Program} {f:FuncId} {fn:Func} {c:Code} {us:List V} {xs:List Value} {r:V} (hf:P.funcs[f]? = some fn) (hb:fn.body=some c) (hname:(fn.name == "runtime.NumGoroutine")=false) (hl:lits us=some xs)
 (h:∀ p w,(∀ b,p b→b < w.heap.size)→Tabs.t p w→Calls P f xs.toArray w fun e w'=>∃ v T,e=.returned v∧Below w.heap.size w w'∧T.Nodup∧(∀ b∈T,w.heap.size≤b∧b < w'.heap.size)∧∀ p,Rep p w' v r T):Con P f us r:=by
 refine ⟨enter_of hf hb hname,fun p w vs hp ht hr=>?_⟩
 have hvs:=lits_rep hl hr
 subst hvs
 refine (h p w hp ht).mono fun e w' ⟨v,T,he,hbel,h1,h2,h3⟩=>?_
 exact ⟨v,T,fun _=>False,he,calm_of_below hbel,fun _ h=>h.elim,h1,fun b hb=>⟨(h2 b hb).1,(h2 b hb).2,fun h=>h⟩,h3 _⟩
theorem rep_lits {p:Pub} {w:World}:∀ {us:List V} {vs:List Value},lits us=some vs→RepL p w vs us []
 | [],vs,h=>by cases h;exact .nil
 | u :: us,vs,h=>by
  cases u with
  | lit v =>
   simp only [lits] at h
   split at h
   ·rename_i vs' hv
    cases h
    exact RepL.cons (A:=[]) (B:=[]) (.lit v) (rep_lits hv)
   ·cases h
  | kb b =>
   simp only [lits] at h
   split at h
   ·rename_i vs' hv
    cases h
    exact RepL.cons (A:=[]) (B:=[]) (.kb b) (rep_lits hv)
   ·cases h
  | _=>cases h
theorem Con.lits {P:Program} {f:FuncId} {us:List V} {xs:List Value} {r:Value} (h:Con P f us (.lit r)) (hl:lits us=some xs) {p:Pub} {w:World} (hp:∀ b,p b→b < w.heap.size) (ht:Tabs.t p w) :
 Calls P f xs.toArray w fun e w'=>e=.returned r∧Below w.heap.size w w' :=
 (h.2 p w xs hp ht (rep_lits hl)).mono fun e w' ⟨v,T,q,he,hc,_,_,_,hv⟩=>⟨by rw [he,hv.lit_inv],below_of_calm hc⟩
theorem lits_repL {α:Type} {p:Pub} {w:World} (enc:α→Value):∀ l:List α,RepL p w (l.map enc) ((l.map fun x=>V.lit (enc x)).flatMap V.cells) []
 | []=>.nil
 | x :: l=>RepL.cons (A:=[]) (B:=[]) (.lit _) (lits_repL enc l)
theorem Rep.of_own {α:Type} {p:Pub} {w:World} {enc:α→Value} {base e:Nat} {v:Value} {l:List α} (hone:∀ x,(enc x).oneCell'=true) (h:w.ownsRow base e 1 v l.length (l.map enc)):Rep p w v (.row (some e) 1 (l.map fun x=>V.lit (enc x))) (v.ownBlock.toList++[]):=by
 refine Rep.own (xs:=l.map enc) (fun y hy=>?_) (lits_repL enc l) (fun u hu=>?_) ?_
 ·obtain ⟨x,_,rfl⟩:=List.mem_map.1 hy;rfl
 ·obtain ⟨x,_,rfl⟩:=List.mem_map.1 hu;exact hone x
 ·rw [List.length_map]
  refine ⟨h.1,?_⟩
  rcases h.2 with h | ⟨g,cap,cur,a,_,b⟩
  ·exact .inl h
  ·exact .inr ⟨g,cap,cur,a,Nat.zero_le _,⟨(0,0),b.1,.inl rfl⟩,b.2⟩
theorem Rep.of_shared {α:Type} {p:Pub} {w:World} {enc:α→Value} {l:List α} {ao:Option Addr} {cap n:Nat} (hn:n=l.length) (hone:∀ x,(enc x).oneCell'=true) (h0:l.length≤cap) (hc:∀ j x,l[j]? = some x→∃ b o,ao=some ⟨b,o,none⟩∧p b∧w.cell? ⟨b,o+j,none⟩=some (enc x)):Rep p w (.slice ao n cap) (.row none 1 (l.map fun x=>V.lit (enc x))) []:=by
 have hl:n=(l.map fun x=>V.lit (enc x)).length:=by rw [List.length_map,hn]
 rw [hl]
 refine .shared (xs:=l.map enc) (by rw [← hl,hn];exact h0) (fun y hy=>?_) (lits_repL enc l) (fun u hu=>?_) (fun j u hj=>?_)
 ·obtain ⟨x,_,rfl⟩:=List.mem_map.1 hy;rfl
 ·obtain ⟨x,_,rfl⟩:=List.mem_map.1 hu;exact hone x
 ·rw [List.getElem?_map] at hj
  cases hx:l[j]? with
  | none=>rw [hx] at hj;cases hj
  | some x =>
   rw [hx] at hj
   cases hj
   exact hc j x hx
theorem ownBlock_nodup (v:Value):(v.ownBlock.toList++([]:List Nat)).Nodup:=by cases v.ownBlock<;>simp
theorem ownBlock_in {w:World} {base e size n:Nat} {v:Value} {xs:List Value} (h:w.ownsRow base e size v n xs):∀ b∈v.ownBlock.toList++([]:List Nat),base≤b∧b < w.heap.size:=fun b hb=>by
 rcases h.2 with ⟨rfl,_⟩ | ⟨g,cap,cur,rfl,hg,hh,_⟩
 ·simp [Value.ownBlock] at hb
 ·simp [Value.ownBlock] at hb
  subst hb
  exact ⟨hg,(Array.getElem?_eq_some_iff.1 hh).1⟩
section
variable {P:Program} {C:Ctx} {Q:Exit→Act→World→Prop} {st:St} {fn:Func} {r:V}
def Man (P:Program) (C:Ctx) (c:Code) (Q:Exit→Act→World→Prop) (st:St):Prop:=∀ g a w,SRep C g st a w→c.wp P Q a w
theorem Man.seq {x y:Code} (h:Good P C x (thenS (Man P C y Q) fun e st=>∀ g a w,SRep C g st a w→Q e a w) st):Man P C (.seq x y) Q st:=fun g a w S =>
 wp_seq (wp_mono (h g a w S) fun e a w ⟨g',st',S',h'⟩=>by
  cases e with
  | normal=>exact h' g' a w S'
  | _=>exact h' g' a w S')
theorem Man.good {c:Code} (h:Good P C c (fun e st=>∀ g a w,SRep C g st a w→Q e a w) st):Man P C c Q st:=fun g a w S =>
 wp_mono (h g a w S) fun e a w ⟨g',st',S',h'⟩=>h' g' a w S'
def Ans (C:Ctx) (r:V) (e:Ending) (w':World):Prop:=∃ (v:Value) (T:List Nat) (q:Pub),e=.returned v∧Calm C.W w'∧(∀ b,q b→C.W.heap.size≤b∧b < w'.heap.size)∧T.Nodup∧(∀ b∈T,C.W.heap.size≤b∧b < w'.heap.size∧¬ q b)∧Rep (fun b=>C.p0 b∨q b) w' v r T
def ManR (P:Program) (fn:Func) (C:Ctx) (r:V):Exit→Act→World→Prop:=bodyPostM Fence.wide 3 P fn (Ans C r)
theorem Man.fin (hF:∀ b,¬ C.Fz b) (h:fin P fn r .ret st):∀ g a w,SRep C g st a w→ManR P fn C r .ret a w:=fun g a w S=>by
 obtain ⟨h1,v,h2,h3⟩:=fin_main S hF h
 show LeavesInM Fence.wide 3 P fn a.tmps (Ans C r) a.defers .returning w
 rw [h1]
 exact ⟨v,h2,h3⟩
end
end
section
abbrev X.w (v:V):X:=.d (.v v)
theorem All.c {p:Prop} {l:List Prop} (h:p) (k:All l):All (p :: l):=.cons h k
theorem All.n:All []:=.nil
theorem AllQ.c {a b:List Prop} {l:List (List Prop × List Prop)} (h:All a) (k:All b) (m:AllQ l):AllQ ((a,b) :: l):=.cons h k m
theorem AllQ.n:AllQ []:=.nil
def Tr.qs:Nat→Nat→Tr→Tr
 | 0,_,r=>r
 | n+1,a,r=>.q a [] (Tr.qs n (a+1) r)
def Tr.is:Nat→Nat→Tr→Tr
 | 0,_,r=>r
 | n+1,a,r=>.i a (Tr.is n (a+1) r)
theorem bq {α:Type} [BEq α] [LawfulBEq α] {a b:α} (h:a=b):(a == b)=true:=beq_iff_eq.2 h
theorem bn {α:Type} [BEq α] [LawfulBEq α] {a b:α} (h:a≠b):(a == b)=false:=beq_eq_false_iff_ne.2 h
theorem nq {α:Type} [BEq α] [LawfulBEq α] {a b:α} (h:a≠b):(a != b)=true:=bne_iff_ne.2 h
theorem dt {p:Prop} [Decidable p] (h:p):decide p=true:=decide_eq_true h
theorem df {p:Prop} [Decidable p] (h:¬ p):decide p=false:=decide_eq_false h
theorem bf {b:Bool} (h:b≠true):b=false:=Bool.eq_false_iff.2 h
section
variable [Tabs] {P:Program} {C:Ctx} {Q:Exit→St→Prop} {st:St}
theorem Sw {x y:Code} (h:Good P C x (thenS (Good P C y Q) Q) st):Good P C (.seq x y) Q st:=.seq h
theorem Bl {i:Nat} {x:Code} (h:Good P C x (blockS i Q) st):Good P C (.block i x) Q st:=.block h
theorem Sk (h:Q .normal st):Good P C .skip Q st:=.skip h
theorem Ex {i:Nat} (h:Q (.exit i) st):Good P C (.exit i) Q st:=.exit h
theorem Ct {c:Operand} {x y:Code} {b:Bool} (ht:b=true) (h:Good P C x Q st) (hb:litB st c=some b:=by kernel_rfl):Good P C (.cond c x y) Q st:=.condT ht hb h
theorem Cf {c:Operand} {x y:Code} {b:Bool} (ht:b=false) (h:Good P C y Q st) (hb:litB st c=some b:=by kernel_rfl):Good P C (.cond c x y) Q st:=.condF ht hb h
theorem Rg {id N:Nat} {ops:Array Oper} (hN:C.N=N) (k:Q .normal (outS (evOps P N ops (List.range ops.size) ⟨[],[],st,[],[]⟩))) (h:outO (evOps P N ops (List.range ops.size) ⟨[],[],st,[],[]⟩)=some []:=by kernel_rfl):Good P C (.region id ops false) Q st:=.reg hN [] .nil [] h k
theorem Rh {id N:Nat} {ops:Array Oper} {obs:List Prop} (hN:C.N=N) (hs:List V) (hA:All obs) (k:Q .normal (outS (evOps P N ops (List.range ops.size) ⟨hs,[],st,[],[]⟩))) (h:outO (evOps P N ops (List.range ops.size) ⟨hs,[],st,[],[]⟩)=some obs:=by kernel_rfl):Good P C (.region id ops false) Q st:=.reg hN hs hA [] h k
theorem Ri {id N:Nat} {ops:Array Oper} {obs:List Prop} (hN:C.N=N) (hs:List V) (hA:All obs) (rw:List (Nat × Value)) (k:Q .normal (outS (evOps P N ops (List.range ops.size) ⟨hs,[],st,rw,[]⟩))) (h:outO (evOps P N ops (List.range ops.size) ⟨hs,[],st,rw,[]⟩)=some obs:=by kernel_rfl):Good P C (.region id ops false) Q st:=.reg hN hs hA rw h k
theorem Rj {id N:Nat} {ops:Array Oper} {obs:List Prop} (hN:C.N=N) (hs:List V) (hA:All obs) (rw:List (Nat × Value)) (fx:List (Nat × V)) (k:Q .normal (outS (evOps P N ops (List.range ops.size) ⟨hs,[],st,rw,fx⟩))) (h:outO (evOps P N ops (List.range ops.size) ⟨hs,[],st,rw,fx⟩)=some obs:=by kernel_rfl):Good P C (.region id ops false) Q st:=.regF hN hs hA rw fx h k
theorem Rb {id N Ln:Nat} {ops:Array Oper} {obs:List (List Prop × List Prop)} (n:Nat) (hm:P.follows .mixedOrders=true) (hN:C.N=N) (hL:C.L.length=Ln) (t:Tr) (ks:List (Nat × Option V)) {os:List Prop} (hO:All os) (hs hq:List V) (hA:AllQ obs) (rw:List (Nat × Value)) (fx:List (Nat × V)) (ps:List (List Nat)) (kk:List (Nat × Nat)) (env:List (Nat × X)) (box:List Box) (k:Q .normal ⟨env,box⟩)
 (hks:outQo (qInit st ks)=some os:=by kernel_rfl) (hc:(Region.noSelect ops && Nat.beq t.cnt ops.size)=true:=by kernel_rfl) (h:outP (evR P N ops t st ks hs hq rw fx)=some obs:=by kernel_rfl) (hps:(ps.all (lowOk Ln) && Nat.beq (outS' (evR P N ops t st ks hs hq rw fx)).length ps.length)=true:=by kernel_rfl)
 (hw:List.zipWith (canonS kk) ps (outS' (evR P N ops t st ks hs hq rw fx))=List.replicate n (some env,box):=by kernel_rfl):Good P C (.region id ops true) Q st:=.regTB (n:=n) hm hN hL t ks hks hO hs hq hA rw fx hc h ps kk env box hps hw k
theorem Rt (h:Q .ret st):Good P C .ret Q st:=.ret h
theorem dR {fn:Func} {r:V} (h:resO P fn st=some r:=by kernel_rfl):fin P fn r .ret st:=fin.doneR h
theorem Wo {C:Ctx} (ks:List (Nat × Nat)) {st:St} {env:List (Nat × X)} {box:List Box} (h:restr st.env ks=some env:=by kernel_rfl) (hb:st.box=box:=by kernel_rfl):Wk C st ⟨env,box⟩:=Wk.of ks h hb
end
section
variable [Tabs]
theorem Cg {P:Program} {f:FuncId} {fn:Func} {c:Code} {us:List V} {r:V} (hf:P.funcs[f]? = some fn) (hb:fn.body=some c) (h:∀ C:Ctx,C.N=fn.ntmps→C.L.length=0→Good P C c (fin P fn r) (enter us)) (hname:(fn.name == "runtime.NumGoroutine")=false:=by kernel_rfl) (hN:Nat.ble us.length fn.ntmps=true:=by kernel_rfl):Con P f us r:=con_of_good hf hb hname hN h
end
theorem All.c1 {p0:Prop} (h0:p0):All [p0]:=(.cons h0 .nil)
theorem All.c2 {p0:Prop} {p1:Prop} (h0:p0) (h1:p1):All [p0,p1]:=(.cons h0 (.cons h1 .nil))
theorem All.c3 {p0:Prop} {p1:Prop} {p2:Prop} (h0:p0) (h1:p1) (h2:p2):All [p0,p1,p2]:=(.cons h0 (.cons h1 (.cons h2 .nil)))
theorem All.c4 {p0:Prop} {p1:Prop} {p2:Prop} {p3:Prop} (h0:p0) (h1:p1) (h2:p2) (h3:p3):All [p0,p1,p2,p3]:=(.cons h0 (.cons h1 (.cons h2 (.cons h3 .nil))))
theorem All.c5 {p0:Prop} {p1:Prop} {p2:Prop} {p3:Prop} {p4:Prop} (h0:p0) (h1:p1) (h2:p2) (h3:p3) (h4:p4):All [p0,p1,p2,p3,p4]:=(.cons h0 (.cons h1 (.cons h2 (.cons h3 (.cons h4 .nil)))))
theorem All.c6 {p0:Prop} {p1:Prop} {p2:Prop} {p3:Prop} {p4:Prop} {p5:Prop} (h0:p0) (h1:p1) (h2:p2) (h3:p3) (h4:p4) (h5:p5):All [p0,p1,p2,p3,p4,p5]:=(.cons h0 (.cons h1 (.cons h2 (.cons h3 (.cons h4 (.cons h5 .nil))))))
theorem All.c7 {p0:Prop} {p1:Prop} {p2:Prop} {p3:Prop} {p4:Prop} {p5:Prop} {p6:Prop} (h0:p0) (h1:p1) (h2:p2) (h3:p3) (h4:p4) (h5:p5) (h6:p6):All [p0,p1,p2,p3,p4,p5,p6]:=(.cons h0 (.cons h1 (.cons h2 (.cons h3 (.cons h4 (.cons h5 (.cons h6 .nil)))))))
theorem All.c8 {p0:Prop} {p1:Prop} {p2:Prop} {p3:Prop} {p4:Prop} {p5:Prop} {p6:Prop} {p7:Prop} (h0:p0) (h1:p1) (h2:p2) (h3:p3) (h4:p4) (h5:p5) (h6:p6) (h7:p7):All [p0,p1,p2,p3,p4,p5,p6,p7]:=(.cons h0 (.cons h1 (.cons h2 (.cons h3 (.cons h4 (.cons h5 (.cons h6 (.cons h7 .nil))))))))
theorem FitL.c1 {a0 b0:V} (h0:Fit a0 b0):FitL [a0] [b0]:=(.cons h0 .nil)
theorem FitL.c2 {a0 b0 a1 b1:V} (h0:Fit a0 b0) (h1:Fit a1 b1):FitL [a0,a1] [b0,b1]:=(.cons h0 (.cons h1 .nil))
theorem FitL.c3 {a0 b0 a1 b1 a2 b2:V} (h0:Fit a0 b0) (h1:Fit a1 b1) (h2:Fit a2 b2):FitL [a0,a1,a2] [b0,b1,b2]:=(.cons h0 (.cons h1 (.cons h2 .nil)))
theorem FitL.c4 {a0 b0 a1 b1 a2 b2 a3 b3:V} (h0:Fit a0 b0) (h1:Fit a1 b1) (h2:Fit a2 b2) (h3:Fit a3 b3):FitL [a0,a1,a2,a3] [b0,b1,b2,b3]:=(.cons h0 (.cons h1 (.cons h2 (.cons h3 .nil))))
theorem FitL.c5 {a0 b0 a1 b1 a2 b2 a3 b3 a4 b4:V} (h0:Fit a0 b0) (h1:Fit a1 b1) (h2:Fit a2 b2) (h3:Fit a3 b3) (h4:Fit a4 b4):FitL [a0,a1,a2,a3,a4] [b0,b1,b2,b3,b4]:=(.cons h0 (.cons h1 (.cons h2 (.cons h3 (.cons h4 .nil)))))
theorem FitL.c6 {a0 b0 a1 b1 a2 b2 a3 b3 a4 b4 a5 b5:V} (h0:Fit a0 b0) (h1:Fit a1 b1) (h2:Fit a2 b2) (h3:Fit a3 b3) (h4:Fit a4 b4) (h5:Fit a5 b5):FitL [a0,a1,a2,a3,a4,a5] [b0,b1,b2,b3,b4,b5]:=(.cons h0 (.cons h1 (.cons h2 (.cons h3 (.cons h4 (.cons h5 .nil))))))
theorem FitL.c7 {a0 b0 a1 b1 a2 b2 a3 b3 a4 b4 a5 b5 a6 b6:V} (h0:Fit a0 b0) (h1:Fit a1 b1) (h2:Fit a2 b2) (h3:Fit a3 b3) (h4:Fit a4 b4) (h5:Fit a5 b5) (h6:Fit a6 b6):FitL [a0,a1,a2,a3,a4,a5,a6] [b0,b1,b2,b3,b4,b5,b6]:=(.cons h0 (.cons h1 (.cons h2 (.cons h3 (.cons h4 (.cons h5 (.cons h6 .nil)))))))
theorem FitL.c8 {a0 b0 a1 b1 a2 b2 a3 b3 a4 b4 a5 b5 a6 b6 a7 b7:V} (h0:Fit a0 b0) (h1:Fit a1 b1) (h2:Fit a2 b2) (h3:Fit a3 b3) (h4:Fit a4 b4) (h5:Fit a5 b5) (h6:Fit a6 b6) (h7:Fit a7 b7):FitL [a0,a1,a2,a3,a4,a5,a6,a7] [b0,b1,b2,b3,b4,b5,b6,b7]:=(.cons h0 (.cons h1 (.cons h2 (.cons h3 (.cons h4 (.cons h5 (.cons h6 (.cons h7 .nil))))))))
theorem FitDL.c1 {a0 b0:D} (h0:FitD a0 b0):FitDL [a0] [b0]:=(.cons h0 .nil)
theorem FitDL.c2 {a0 b0 a1 b1:D} (h0:FitD a0 b0) (h1:FitD a1 b1):FitDL [a0,a1] [b0,b1]:=(.cons h0 (.cons h1 .nil))
theorem FitDL.c3 {a0 b0 a1 b1 a2 b2:D} (h0:FitD a0 b0) (h1:FitD a1 b1) (h2:FitD a2 b2):FitDL [a0,a1,a2] [b0,b1,b2]:=(.cons h0 (.cons h1 (.cons h2 .nil)))
theorem FitDL.c4 {a0 b0 a1 b1 a2 b2 a3 b3:D} (h0:FitD a0 b0) (h1:FitD a1 b1) (h2:FitD a2 b2) (h3:FitD a3 b3):FitDL [a0,a1,a2,a3] [b0,b1,b2,b3]:=(.cons h0 (.cons h1 (.cons h2 (.cons h3 .nil))))
theorem FitDL.c5 {a0 b0 a1 b1 a2 b2 a3 b3 a4 b4:D} (h0:FitD a0 b0) (h1:FitD a1 b1) (h2:FitD a2 b2) (h3:FitD a3 b3) (h4:FitD a4 b4):FitDL [a0,a1,a2,a3,a4] [b0,b1,b2,b3,b4]:=(.cons h0 (.cons h1 (.cons h2 (.cons h3 (.cons h4 .nil)))))
theorem FitDL.c6 {a0 b0 a1 b1 a2 b2 a3 b3 a4 b4 a5 b5:D} (h0:FitD a0 b0) (h1:FitD a1 b1) (h2:FitD a2 b2) (h3:FitD a3 b3) (h4:FitD a4 b4) (h5:FitD a5 b5):FitDL [a0,a1,a2,a3,a4,a5] [b0,b1,b2,b3,b4,b5]:=(.cons h0 (.cons h1 (.cons h2 (.cons h3 (.cons h4 (.cons h5 .nil))))))
theorem FitDL.c7 {a0 b0 a1 b1 a2 b2 a3 b3 a4 b4 a5 b5 a6 b6:D} (h0:FitD a0 b0) (h1:FitD a1 b1) (h2:FitD a2 b2) (h3:FitD a3 b3) (h4:FitD a4 b4) (h5:FitD a5 b5) (h6:FitD a6 b6):FitDL [a0,a1,a2,a3,a4,a5,a6] [b0,b1,b2,b3,b4,b5,b6]:=(.cons h0 (.cons h1 (.cons h2 (.cons h3 (.cons h4 (.cons h5 (.cons h6 .nil)))))))
theorem FitDL.c8 {a0 b0 a1 b1 a2 b2 a3 b3 a4 b4 a5 b5 a6 b6 a7 b7:D} (h0:FitD a0 b0) (h1:FitD a1 b1) (h2:FitD a2 b2) (h3:FitD a3 b3) (h4:FitD a4 b4) (h5:FitD a5 b5) (h6:FitD a6 b6) (h7:FitD a7 b7):FitDL [a0,a1,a2,a3,a4,a5,a6,a7] [b0,b1,b2,b3,b4,b5,b6,b7]:=(.cons h0 (.cons h1 (.cons h2 (.cons h3 (.cons h4 (.cons h5 (.cons h6 (.cons h7 .nil))))))))
theorem FitLL.c1 {a0 b0:List V} (h0:FitL a0 b0):FitLL [a0] [b0]:=(.cons h0 .nil)
theorem FitLL.c2 {a0 b0 a1 b1:List V} (h0:FitL a0 b0) (h1:FitL a1 b1):FitLL [a0,a1] [b0,b1]:=(.cons h0 (.cons h1 .nil))
theorem FitLL.c3 {a0 b0 a1 b1 a2 b2:List V} (h0:FitL a0 b0) (h1:FitL a1 b1) (h2:FitL a2 b2):FitLL [a0,a1,a2] [b0,b1,b2]:=(.cons h0 (.cons h1 (.cons h2 .nil)))
theorem FitLL.c4 {a0 b0 a1 b1 a2 b2 a3 b3:List V} (h0:FitL a0 b0) (h1:FitL a1 b1) (h2:FitL a2 b2) (h3:FitL a3 b3):FitLL [a0,a1,a2,a3] [b0,b1,b2,b3]:=(.cons h0 (.cons h1 (.cons h2 (.cons h3 .nil))))
theorem FitLL.c5 {a0 b0 a1 b1 a2 b2 a3 b3 a4 b4:List V} (h0:FitL a0 b0) (h1:FitL a1 b1) (h2:FitL a2 b2) (h3:FitL a3 b3) (h4:FitL a4 b4):FitLL [a0,a1,a2,a3,a4] [b0,b1,b2,b3,b4]:=(.cons h0 (.cons h1 (.cons h2 (.cons h3 (.cons h4 .nil)))))
theorem FitLL.c6 {a0 b0 a1 b1 a2 b2 a3 b3 a4 b4 a5 b5:List V} (h0:FitL a0 b0) (h1:FitL a1 b1) (h2:FitL a2 b2) (h3:FitL a3 b3) (h4:FitL a4 b4) (h5:FitL a5 b5):FitLL [a0,a1,a2,a3,a4,a5] [b0,b1,b2,b3,b4,b5]:=(.cons h0 (.cons h1 (.cons h2 (.cons h3 (.cons h4 (.cons h5 .nil))))))
theorem FitLL.c7 {a0 b0 a1 b1 a2 b2 a3 b3 a4 b4 a5 b5 a6 b6:List V} (h0:FitL a0 b0) (h1:FitL a1 b1) (h2:FitL a2 b2) (h3:FitL a3 b3) (h4:FitL a4 b4) (h5:FitL a5 b5) (h6:FitL a6 b6):FitLL [a0,a1,a2,a3,a4,a5,a6] [b0,b1,b2,b3,b4,b5,b6]:=(.cons h0 (.cons h1 (.cons h2 (.cons h3 (.cons h4 (.cons h5 (.cons h6 .nil)))))))
theorem FitLL.c8 {a0 b0 a1 b1 a2 b2 a3 b3 a4 b4 a5 b5 a6 b6 a7 b7:List V} (h0:FitL a0 b0) (h1:FitL a1 b1) (h2:FitL a2 b2) (h3:FitL a3 b3) (h4:FitL a4 b4) (h5:FitL a5 b5) (h6:FitL a6 b6) (h7:FitL a7 b7):FitLL [a0,a1,a2,a3,a4,a5,a6,a7] [b0,b1,b2,b3,b4,b5,b6,b7]:=(.cons h0 (.cons h1 (.cons h2 (.cons h3 (.cons h4 (.cons h5 (.cons h6 (.cons h7 .nil))))))))
end
section
open Go.RowKit Go.ChangeShapes Go.WideShapes
def OpL {α:Type} (P:Program) (t:TypeId) (sz:Nat) (f:α→List V) (G:α→Prop):Prop :=
 ∀ (H:Type) (enc:TypeId × Value→H) (w:World) (base:Nat) (spare:Nat→Bool) (held:Bool) (fuel:Nat) (cs:List Value) (x:DataW H × List MemPlace),
  DataW.trod enc P w base spare held fuel t cs=some x→∃ a,cs.length=sz∧RepL (fun b=>b < w.heap.size) w cs (f a) []∧(∀ u∈cs,u.oneCell'=true)∧G a
theorem OpL.int {P:Program} {t:TypeId} {k:IntKind} (ht:P.underlying t=some (.int k)):OpL P t 1 (fun n:Int=>[.lit (.int k n)]) (fun n=>(Lit.int k n).wf=true):=by
 intro H enc w base spare held fuel cs x hx
 obtain ⟨n,rfl,_,hw⟩:=DataW.trod_int ht hx
 exact ⟨n,rfl,.cons (A:=[]) (.lit _) .nil,by simp [Value.oneCell'],hw⟩
theorem OpL.bool {P:Program} {t:TypeId} (ht:P.underlying t=some .bool):OpL P t 1 (fun b:Bool=>[.lit (.bool b)]) (fun _=>True):=by
 intro H enc w base spare held fuel cs x hx
 obtain ⟨n,rfl,_⟩:=DataW.trod_bool ht hx
 exact ⟨n,rfl,.cons (A:=[]) (.lit _) .nil,by simp [Value.oneCell'],trivial⟩
theorem OpL.string {P:Program} {t:TypeId} (ht:P.underlying t=some .string):OpL P t 1 (fun s:ByteArray=>[.lit (.string s)]) (fun s=>s.size≤maxLen):=by
 intro H enc w base spare held fuel cs x hx
 obtain ⟨s,rfl,_,hw⟩:=DataW.trod_string ht hx
 exact ⟨s,rfl,.cons (A:=[]) (.lit _) .nil,by simp [Value.oneCell'],hw⟩
theorem opMapM (w:World) (a:Addr):∀ (l:List Nat) (cs:List Value),l.mapM (fun i=>w.cell? (a.add i))=some cs→cs.length=l.length∧∀ (i j:Nat) u,l[i]? = some j→cs[i]? = some u→w.cell? (a.add j)=some u
 | [],cs,h=>by
  simp at h
  subst h
  exact ⟨rfl,fun i j u h=>by simp at h⟩
 | p :: l,cs,h=>by
  rw [List.mapM_cons] at h
  cases hc:w.cell? (a.add p) with
  | none=>simp [hc] at h
  | some v =>
   cases hr:l.mapM (fun i=>w.cell? (a.add i)) with
   | none=>simp [hc,hr] at h
   | some cs' =>
    simp [hc,hr] at h
    subst h
    obtain ⟨hl,hf⟩:=opMapM w a l cs' hr
    refine ⟨by simp [hl],fun i j u hi hu=>?_⟩
    cases i with
    | zero =>
     simp at hi hu
     subst hi
     subst hu
     exact hc
    | succ i=>exact hf i j u (by simpa using hi) (by simpa using hu)
theorem opCells {w:World} {base:Nat} {a:Addr} {n:Nat} {cs:List Value} (h:w.cells? base a n=some cs):cs.length=n∧∀ (i:Nat) u,cs[i]? = some u→w.cell? (a.add i)=some u:=by
 unfold World.cells? at h
 split at h
 ·obtain ⟨hl,hf⟩:=opMapM w a _ cs h
  rw [List.length_range] at hl
  refine ⟨hl,fun i u hu=>hf i i u ?_ hu⟩
  have:i < n:=by rw [← hl];exact (List.getElem?_eq_some_iff.1 hu).1
  rw [List.getElem?_range this]
 ·cases h
theorem opAdd (a:Addr) (m i:Nat):(a.add m).add i=a.add (m+i):=by
 unfold Addr.add
 by_cases h1:m=0
 ·subst h1;simp
 ·by_cases h2:i=0
  ·subst h2;simp [h1]
  ·simp [h1,h2,Nat.add_assoc]
theorem opCellAt {w:World} {b o:Nat} {s:Option Nat} {u:Value} (h:w.cell? ⟨b,o,s⟩=some u):s=none∧b < w.heap.size:=by
 unfold World.cell? at h
 cases hh:w.heap[b]? with
 | none=>simp [hh] at h
 | some x =>
  refine ⟨?_,(Array.getElem?_eq_some_iff.1 hh).1⟩
  simp only [hh] at h
  cases s with
  | none=>rfl
  | some n =>
   cases x<;>simp at h
theorem repL_len {p:Pub} {w:World}:∀ {vs:List Value} {cs:List V} {A:List Nat},RepL p w vs cs A→vs.length=cs.length
 | _,_,_,.nil=>rfl
 | _,_,_,.cons _ h=>by rw [List.length_cons,List.length_cons,repL_len h]
theorem opRows {α:Type} {w:World} {sz:Nat} {f:α→List V} {G:α→Prop} (a:Addr) (len:Nat) (each:∀ i,i < len→∃ b c,c.length=sz∧RepL (fun b=>b < w.heap.size) w c (f b) []∧(∀ u∈c,u.oneCell'=true)∧(∀ (j:Nat) u,c[j]? = some u→w.cell? (a.add (i*sz+j))=some u)∧G b) :
 ∃ (l:List α) (xs:List Value),l.length=len∧xs.length=len*sz∧RepL (fun b=>b < w.heap.size) w xs (l.flatMap f) []∧(∀ u∈xs,u.oneCell'=true)∧(∀ (j:Nat) u,xs[j]? = some u→w.cell? (a.add j)=some u)∧∀ b∈l,G b∧(f b).length=sz:=by
 induction len with
 | zero=>exact ⟨[],[],rfl,by simp,.nil,by simp,by simp,by simp⟩
 | succ len ih =>
  obtain ⟨l,xs,h1,h2,h3,h4,h5,h6⟩:=ih (fun i hi=>each i (by omega))
  obtain ⟨b,c,c1,c2,c3,c4,c5⟩:=each len (by omega)
  refine ⟨l++[b],xs++c,by simp [h1],by rw [List.length_append,h2,c1,Nat.succ_mul],?_,?_,?_,?_⟩
  ·rw [List.flatMap_append,List.flatMap_singleton]
   exact h3.app c2
  ·intro u hu
   rcases List.mem_append.1 hu with hu | hu
   ·exact h4 u hu
   ·exact c3 u hu
  ·intro j u hj
   by_cases g:j < xs.length
   ·rw [List.getElem?_append_left g] at hj
    exact h5 j u hj
   ·rw [List.getElem?_append_right (by omega)] at hj
    have:=c4 _ u hj
    rwa [show len*sz+(j - xs.length)=j by omega] at this
  ·intro x hx
   rcases List.mem_append.1 hx with hx | hx
   ·exact h6 x hx
   ·rw [List.mem_singleton] at hx
    subst hx
    exact ⟨c5,by rw [← repL_len c2,c1]⟩
theorem OpL.slice {α:Type} {P:Program} {t e:TypeId} {sz:Nat} {f:α→List V} {G:α→Prop} (ht:P.underlying t=some (.slice e)) (hc:P.cellsOf e=sz) (h:OpL P e sz f G) (hv:α→V) (hvc:∀ a,(hv a).cells=f a) :
 OpL P t 1 (fun l:List α=>[.row none sz (l.map hv)]) (fun l=>l.length≤maxLen∧∀ a∈l,G a):=by
 intro H enc w base spare held fuel cs x hx
 rcases DataW.trod_slice ht hx with ⟨rfl,_⟩ | ⟨a,len,cap,elems,rest,n,rfl,rfl,_,_,hl,hm,hlen,hel,_⟩
 ·exact ⟨[],rfl,.cons (A:=[]) (.shared (es:=[]) (xs:=[]) (Nat.zero_le _) (by simp) .nil (by simp) (by simp)) .nil,by simp [Value.oneCell'],by simp,fun a ha=>by cases ha⟩
 ·have each:∀ i,i < len→∃ b c,c.length=sz∧RepL (fun b=>b < w.heap.size) w c (f b) []∧(∀ u∈c,u.oneCell'=true)∧(∀ (j:Nat) u,c[j]? = some u→w.cell? (a.add (i*sz+j))=some u)∧G b:=by
   intro i hi
   have h1:=hel i hi
   rw [List.getElem?_eq_getElem (by omega:i < elems.length),Option.bind_eq_some_iff,hc] at h1
   obtain ⟨c,hcs,hy⟩:=h1
   obtain ⟨b,hb,hr,ho,hg⟩:=h H enc w base spare held n c _ hy
   obtain ⟨hcl,hcc⟩:=opCells hcs
   exact ⟨b,c,hb,hr,ho,fun j u hu=>by rw [← opAdd];exact hcc j u hu,hg⟩
  obtain ⟨l,xs,h1,h2,h3,h4,h5,h6⟩:=opRows a len each
  refine ⟨l,rfl,.cons (A:=[]) ?_ .nil,by simp [Value.oneCell'],by omega,fun b hb=>(h6 b hb).1⟩
  obtain rfl:len=(l.map hv).length:=by rw [List.length_map,h1]
  obtain ⟨b,o,s⟩:=a
  refine .shared hl (fun e he=>?_) (xs:=xs) ?_ h4 (fun j u hj=>?_)
  ·obtain ⟨y,hy,rfl⟩:=List.mem_map.1 he
   rw [hvc]
   exact (h6 y hy).2
  ·rw [List.flatMap_map]
   simp only [hvc]
   exact h3
  ·have hj':j < xs.length:=(List.getElem?_eq_some_iff.1 hj).1
   have h0:=h5 0 _ (List.getElem?_eq_getElem (by omega:0 < xs.length))
   obtain ⟨rfl,hb⟩:=opCellAt (show w.cell? ⟨b,o,s⟩=some _ from h0)
   refine ⟨b,o,rfl,hb,?_⟩
   have:=h5 j u hj
   by_cases g:j=0
   ·subst g;exact this
   ·unfold Addr.add at this
    rw [if_neg g] at this
    exact this
def OpF {α:Type} (P:Program) (fs:List Field) (off sz:Nat) (f:α→List V) (G:α→Prop):Prop :=
 ∀ (H:Type) (enc:TypeId × Value→H) (w:World) (base:Nat) (spare:Nat→Bool) (held:Bool) (n:Nat) (cs:List Value),
  off+sz≤cs.length→(∀ f∈fs,∃ y,DataW.trod enc P w base spare held n f.type ((cs.drop f.offset).take (P.cellsOf f.type))=some y) →
   ∃ a,RepL (fun b=>b < w.heap.size) w ((cs.drop off).take sz) (f a) []∧(∀ u∈(cs.drop off).take sz,u.oneCell'=true)∧G a
theorem OpF.cons {α β:Type} {P:Program} {g:Field} {fs:List Field} {off s1 s2:Nat} {f:α→List V} {f2:β→List V} {G:α→Prop} {G':β→Prop} (ho:g.offset=off) (hc:P.cellsOf g.type=s1) (h:OpL P g.type s1 f G) (hr:OpF P fs (off+s1) s2 f2 G') :
 OpF P (g :: fs) off (s1+s2) (fun p:α × β=>f p.1++f2 p.2) (fun p=>G p.1∧G' p.2):=by
 intro H enc w base spare held n cs hl hf
 obtain ⟨y,hy⟩:=hf g (by simp)
 rw [ho,hc] at hy
 obtain ⟨a,_,h1,h2,h3⟩:=h H enc w base spare held n _ y hy
 obtain ⟨b,k1,k2,k3⟩:=hr H enc w base spare held n cs (by omega) (fun g hg=>hf g (by simp [hg]))
 have e:(cs.drop off).take (s1+s2)=(cs.drop off).take s1++(cs.drop (off+s1)).take s2:=by rw [List.take_add,List.drop_drop]
 refine ⟨(a,b),?_,?_,h3,k3⟩
 ·rw [e];exact h1.app k1
 ·rw [e];intro u hu
  rcases List.mem_append.1 hu with hu | hu
  ·exact h2 u hu
  ·exact k2 u hu
theorem OpL.struct {α β:Type} {P:Program} {t:TypeId} {fs:Array Field} {sz:Nat} {f:α→List V} {G:α→Prop} (ht:P.underlying t=some (.struct fs)) (hc:P.cellsOf t=sz) (h:OpF P fs.toList 0 sz f G) (g:α→β) (f':β→List V) (G':β→Prop) (hf':∀ a,f' (g a)=f a) (hG:∀ a,G a→G' (g a)) :
 OpL P t sz f' G':=by
 intro H enc w base spare held fuel cs x hx
 obtain ⟨xs,n,_,_,hl,hlen,hf⟩:=DataW.trod_struct ht hx
 obtain ⟨a,h1,h2,h3⟩:=h H enc w base spare held n cs (by omega) (fun q hq=>by
  obtain ⟨i,hi⟩:=List.getElem?_of_mem hq
  have hi':fs[i]? = some q:=by simpa using hi
  have hlt:i < xs.length:=by
   have:=(List.getElem?_eq_some_iff.1 hi).1
   simp at this
   omega
  exact ⟨xs[i],by rw [hf i q hi',List.getElem?_eq_getElem hlt]⟩)
 rw [List.drop_zero,List.take_of_length_le (by omega)] at h1 h2
 exact ⟨g a,by omega,by rw [hf'];exact h1,h2,hG a h3⟩
theorem OpL.get {α:Type} {P:Program} {t:TypeId} {sz:Nat} {f:α→List V} {G:α→Prop} (h:OpL P t sz f G) {H:Type} {enc:TypeId × Value→H} {w:World} {base:Nat} {spare:Nat→Bool} {held:Bool} {v:Value} {x:DataW H} {ps:List MemPlace}
 (hx:DataW.Trod enc P w base spare held t v x ps):∃ a,RepL (fun b=>b < w.heap.size) w v.cells.toList (f a) []∧G a:=by
 obtain ⟨fuel,hf⟩:=hx
 obtain ⟨a,_,h1,_,h2⟩:=h H enc w base spare held fuel _ _ hf
 exact ⟨a,h1,h2⟩
end
section
def Ev {α:Type} (g:Nat→Option α) (r:α):Prop:=∃ K,∀ k,K≤k→g k=some r
namespace Ev
variable {α β:Type}
theorem now (r:α):Ev (fun _=>some r) r:=⟨0,fun _ _=>rfl⟩
theorem rounds {g:Nat→Option α} {r:α}:Ev g r→∃ k,g k=some r:=fun ⟨K,h⟩=>⟨K,h K (Nat.le_refl K)⟩
theorem step {g f:Nat→Option α} {r:α} (h:∀ k,g (k+1)=f k):Ev f r→Ev g r:=fun ⟨K,e⟩=>⟨K+1,fun k hk=>by
 match k,hk with
 | k+1,hk=>rw [h k];exact e k (Nat.le_of_succ_le_succ hk)⟩
theorem congr {g f:Nat→Option α} {r:α} (h:∀ k,g k=f k):Ev f r→Ev g r:=fun ⟨K,e⟩=>⟨K,fun k hk=>(h k).trans (e k hk)⟩
theorem bind {g:Nat→Option α} {f:Nat→α→Option β} {a:α} {r:β}:Ev g a→Ev (fun n=>f n a) r→Ev (fun n=>(g n).bind (f n)) r:=fun ⟨K,e⟩ ⟨L,d⟩=>⟨max K L,fun k hk=>by
 show (g k).bind (f k)=some r
 rw [e k (by omega)]
 exact d k (by omega)⟩
theorem bindc {g:Option α} {f:Nat→α→Option β} {a:α} {r:β} (h:g=some a) (k:Ev (fun n=>f n a) r):Ev (fun n=>g.bind (f n)) r:=by subst h;exact k
theorem ifp {c:Prop} [Decidable c] {f g:Nat→Option α} {r:α} (h:c) (k:Ev f r):Ev (fun n=>if c then f n else g n) r:=by simp only [if_pos h];exact k
theorem eq {g:Nat→Option α} {r s:α} (h:Ev g r) (e:r=s):Ev g s:=e ▸ h
theorem const {g:Option α} {r:α} (h:g=some r):Ev (fun _=>g) r:=⟨0,fun _ _=>h⟩
theorem from_ {g:Nat→Option α} {r:α} (n:Nat) (h:∀ k,g (k+n)=some r):Ev g r:=⟨n,fun k hk=>by
 have:=h (k - n)
 rwa [Nat.sub_add_cancel hk] at this⟩
theorem all {g:Nat→Nat→Option α} {r:Nat→α}:∀ n:Nat,(∀ i,i < n→Ev (g i) (r i))→∃ K,∀ k,K≤k→∀ i,i < n→g i k=some (r i)
 | 0,_=>⟨0,fun _ _ i hi=>by omega⟩
 | n+1,h=>by
  obtain ⟨K,hK⟩:=all n fun i hi=>h i (by omega)
  obtain ⟨L,hL⟩:=h n (by omega)
  refine ⟨max K L,fun k hk i hi=>?_⟩
  by_cases e:i=n
  ·subst e;exact hL k (by omega)
  ·exact hK k (by omega) i (by omega)
end Ev
def OkB (l:List Int):Prop:=∀ x∈l,0≤x∧x < 256
theorem OkB.nil:OkB []:=by intro x hx;cases hx
theorem OkB.cons {x:Int} {l:List Int} (h0:0≤x) (h1:x < 256) (h:OkB l):OkB (x :: l):=by
 intro y hy
 rcases List.mem_cons.1 hy with rfl | hy
 ·exact ⟨h0,h1⟩
 ·exact h y hy
theorem OkB.append {l m:List Int} (h:OkB l) (k:OkB m):OkB (l++m):=by
 intro y hy
 rcases List.mem_append.1 hy with hy | hy
 ·exact h y hy
 ·exact k y hy
theorem OkB.take {l:List Int} (h:OkB l) (n:Nat):OkB (l.take n):=fun y hy=>h y (List.mem_of_mem_take hy)
theorem OkB.drop {l:List Int} (h:OkB l) (n:Nat):OkB (l.drop n):=fun y hy=>h y (List.mem_of_mem_drop hy)
theorem OkB.get {l:List Int} (h:OkB l) (i:Nat) (hi:i < l.length):0≤l[i]∧l[i] < 256:=h _ (List.getElem_mem hi)
theorem OkB.replicate (n:Nat):OkB (List.replicate n 0):=by
 intro y hy
 obtain rfl:=(List.mem_replicate.1 hy).2
 omega
theorem OkB.set {l:List Int} (h:OkB l) (i:Nat) {x:Int} (h0:0≤x) (h1:x < 256):OkB (l.set i x):=by
 intro y hy
 rcases List.mem_or_eq_of_mem_set hy with hy | rfl
 ·exact h y hy
 ·exact ⟨h0,h1⟩
theorem OkB.one {x:Int} (h0:0≤x) (h1:x < 256):OkB [x]:=OkB.cons h0 h1 OkB.nil
end
end Go.Rf
