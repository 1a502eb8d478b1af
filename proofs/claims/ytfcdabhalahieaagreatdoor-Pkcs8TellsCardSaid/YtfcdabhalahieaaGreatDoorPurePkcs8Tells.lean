/- A key's element is written, and read, by the program as by the document, for arcs and parameters of up to 60 numbers, a key and attributes of up to 500 bytes each, and bytes of up to 1000. -/
import Derived.Test.YtfcdabhalahieaaGreatDoorPurePkcs8Tells0
set_option linter.unusedSectionVars false
set_option linter.unusedSimpArgs false
set_option linter.unusedVariables false
namespace Go.Proofs.YtfcdabhalahieaaGreatDoor.Pure
open Go Go.RowKit Go.Rf Go.Rf.T
set_option linter.unusedVariables false
set_option linter.unusedSimpArgs false
theorem xV (l:List Int) (hl:aH l) (hs:l.length≤65535) (a b:Int) (c:Bool) (d:List Int) (ks:Fo) (he:l=(Fo.cons a b c d ks .nil).enc) (ho:(Fo.cons a b c d ks .nil).Ok 0) (hz:(Fo.cons a b c d ks .nil).size≤1000):Ev (fun k=>kF.f k (strOfNums l)) ((Fo.cons a b c d ks .nil).flat 0,0,0)∧Ev (fun k=>lG.f k (strOfNums l)) ((Fo.cons a b c d ks .nil).flat 0,0,0):=by
 have hseg:bU l 0 l.length=(Fo.cons a b c d ks .nil).enc:=by rw [bU,List.drop_zero,Nat.sub_zero,List.take_length,← he]
 have hk:=Un (tl:=0) hl hs hseg (Nat.zero_le _) (Nat.le_refl _) (Nat.le_refl _) ho (by omega)
 obtain ⟨g1,g2,g3,g4⟩:=He hseg (Nat.le_refl _) (Nat.zero_le _)
 have hpos:=Fo.Ce a b c d ks
 have hn0:(Fo.nil.enc).length=0:=rfl
 have h0:l≠[]:=fun h=>by rw [h] at g1;simp at g1;omega
 have hpos':0 < l.length:=List.length_pos_iff.2 h0
 have hC:Cond l [] [] [] [] l.length 0 0:=⟨rfl,Cc l,fun o h=>(by cases h),fun x h=>(by cases h),rfl,rfl⟩
 obtain ⟨⟨a0,a1,b0,b1⟩,o1,o2,o3,o4,o5,o6,o7,o8⟩:=ho
 have hlen:=Fo.jv a b c d ks .nil
 have hsp:=Fo.yc l (Fo.cons a b c d ks .nil) [] [] 0 0 (Cc l) (by rw [← he];omega)
 rw [Nat.zero_add,List.nil_append,List.nil_append] at hsp
 have hdone:=Ug l hs ((Fo.cons a b c d ks .nil).flat 0) ((Fo.cons a b c d ks .nil).fw 0) ((Fo.cons a b c d ks .nil).fo 0) _ hsp l.length (Nat.le_refl _)
 rw [if_neg (Nat.lt_irrefl _)] at hdone
 have e1:0+Fo.hd a b c d ks+(d++ks.enc).length=l.length:=by omega
 have hr:Ev (fun k=>bK.iy k 0 (strOfNums l) [] [] []) (0,0,strOfNums l,(Fo.cons a b c d ks .nil).flat 0,dM ((Fo.cons a b c d ks .nil).fw 0) ((Fo.cons a b c d ks .nil).fo 0),[]):=by
  refine hk.prog [] [] [] [] _ hC ?_
  cases c with
  | false =>
   rw [if_neg (by decide),g3]
   obtain rfl:=o6 rfl
   rw [e1]
   have e2:Fo.hd a b false d .nil+d.length=l.length:=by
    have:=e1
    rw [show Fo.nil.enc=[] from rfl,List.append_nil] at this
    omega
   have hu:upd ([]:List Nd) []=[]:=rfl
   simpa only [Fo.flat,Fo.fw,Fo.fo,Fo.roots,Fo.enc,List.append_nil,List.nil_append,Nat.zero_add,e2,hu] using hdone
  | true =>
   rw [if_pos rfl]
   obtain rfl:=o5 rfl
   have hin:=hC.inner a b true ⟨#[]⟩ 0 (0+Fo.hd a b true [] ks+([]++ks.enc).length) (by omega) (by omega)
   rw [Fo.size] at hz
   refine abV l hl hs ks _ _ _ 1 1 (by omega) (Nat.le_refl _) (by omega) g3 o7 (by omega) _ _ _ [] 0 _ hin ?_
   have e5:fF (upd [] []++[nd a b true ⟨#[]⟩ []]) 0 (ks.roots 1)++ks.flat 1=(Fo.cons a b true [] ks .nil).flat 0:=by
    have:=Bp [] (nd a b true ⟨#[]⟩ []) [] (ks.roots 1) 0 rfl
    show fF ([]++[nd a b true ⟨#[]⟩ []]) 0 (ks.roots 1)++ks.flat 1=_
    rw [this]
    simp only [Fo.flat,List.append_nil,Nat.zero_add]
    rfl
   have e6:[]++[((0:Nat):Int)]++ks.fw (0+Fo.hd a b true [] ks)=(Fo.cons a b true [] ks .nil).fw 0:=by
    simp only [Fo.fw,List.append_nil,List.nil_append,List.singleton_append]
   have e7:[]++[((0+Fo.hd a b true [] ks+([]++ks.enc).length:Nat):Int)]++ks.fo (0+Fo.hd a b true [] ks)=(Fo.cons a b true [] ks .nil).fo 0:=by
    simp only [Fo.fo,List.append_nil,List.nil_append,List.singleton_append]
   rw [e5,e6,e7]
   refine Ik l hs _ _ _ [] 0 _ hsp (fun o h=>(by cases h)) (by decide) (by rw [Fo.size];omega) _ ?_ ?_
   ·rw [← e7];rfl
   ·rw [e1];exact hdone
 have r:=BA l h0 hs hr
 have hp:Ev (fun k=>kF.f k (strOfNums l)) ((Fo.cons a b c d ks .nil).flat 0,0,0):=Ev.congr (fun k=>by rw [kF.f]) (Ev.bind r (Ev.ae rfl (Ev.now _)))
 refine ⟨hp,?_⟩
 cases IV l hl hs with
 | bad code q hc hq p1 p2 p3 p4 =>
  have:=hp.jP p1
  exact absurd (congrArg (fun z=>z.2.1) this).symm hc
 | ok a' b' c' d' ks' he' ho' hz' p1 p2 p3 p4 =>
  have:=hp.jP p1
  rw [this]
  exact p2
theorem IW {a b:Int}:mn a b < 0↔a < 0∨b < 0:=by unfold mn;split<;>omega
theorem ac2 (x:af) (hs:x.f3.size≤2000):∃ b,Ev (fun k=>iD.f k x.f0 x.f1 x.f2 x.f3 x.f4) b∧Ev (fun k=>iR.f k x.f0 x.f1 x.f2 x.f3 x.f4) b∧(b=true→(0≤x.f0∧x.f0≤3∧0≤x.f1∧x.f1≤2097151)∧(x.f2=true→x.f3.toList=[])∧(x.f2=false→x.f4=[])∧(x.f0=0→(x.f2=true→x.f1=16∨x.f1=17)∧(x.f2=false→Ev (fun k=>jV.f k x.f1 x.f3) true∧Ev (fun k=>mF.f k x.f1 x.f3) true))):=by
 obtain ⟨a,b,c,d,e⟩:=x
 obtain ⟨l,hl,rfl⟩:=Bw d
 rw [show (⟨a,b,c,strOfNums l,e⟩:af).f3.size=l.length from strOfNums_size l] at hs
 dsimp only
 obtain ⟨t,t1,t2⟩:=RL b l hl (by omega)
 have QN:Ev (fun k=>iD.j0 k true a b c (strOfNums l) e) false:=by
  refine Ev.step (fun k=>by rw [iD.j0]) ?_
  exact Ev.ae rfl (Ev.now _)
 have EP:Ev (fun k=>iR.j0 k true a b c (strOfNums l) e) false:=by
  refine Ev.step (fun k=>by rw [iR.j0]) ?_
  exact Ev.ae rfl (Ev.now _)
 by_cases hb:0≤a∧a≤3∧0≤b∧b≤2097151
 case neg =>
  refine ⟨false,?_,?_,fun h=>by cases h⟩
  ·refine Ev.congr (fun k=>by rw [iD.f]) ?_
   by_cases h1:mn a b < 0
   ·exact Ev.ae h1 QN
   refine Ev.ai h1 ?_
   rw [IW] at h1
   by_cases h2:a > 3
   ·exact Ev.ae h2 QN
   refine Ev.ai h2 ?_
   rw [decide_eq_true (by omega)]
   exact QN
  ·refine Ev.congr (fun k=>by rw [iR.f]) ?_
   by_cases h1:a < 0
   ·exact Ev.ae h1 EP
   refine Ev.ai h1 ?_
   by_cases h2:a > 3
   ·exact Ev.ae h2 EP
   refine Ev.ai h2 ?_
   by_cases h3:b < 0
   ·exact Ev.ae h3 EP
   refine Ev.ai h3 ?_
   rw [decide_eq_true (by omega)]
   exact EP
 have s1:∀ {r},Ev (fun k=>iD.j0 k false a b c (strOfNums l) e) r→Ev (fun k=>iD.f k a b c (strOfNums l) e) r:=by
  intro r h
  refine Ev.congr (fun k=>by rw [iD.f]) ?_
  refine Ev.ai (by rw [IW];omega) (Ev.ai (by omega) ?_)
  rw [decide_eq_false (by omega)]
  exact h
 have s2:∀ {r},Ev (fun k=>iR.j0 k false a b c (strOfNums l) e) r→Ev (fun k=>iR.f k a b c (strOfNums l) e) r:=by
  intro r h
  refine Ev.congr (fun k=>by rw [iR.f]) ?_
  refine Ev.ai (by omega) (Ev.ai (by omega) (Ev.ai (by omega) ?_))
  rw [decide_eq_false (by omega)]
  exact h
 have e1:∀ k,iD.j0 (k+1) false a b c (strOfNums l) e=_:=fun k=>by rw [iD.j0]
 have e2:∀ k,iR.j0 (k+1) false a b c (strOfNums l) e=_:=fun k=>by rw [iR.j0]
 cases c with
 | true =>
  by_cases hd:(strOfNums l).toList=[]
  case neg=>exact ⟨false,s1 (Ev.step e1 (Ev.ai (by simp) (Ev.ae rfl (Ev.ai hd (Ev.now _))))),s2 (Ev.step e2 (Ev.ai (by simp) (Ev.ae rfl (Ev.ai hd (Ev.now _))))),fun h=>by cases h⟩
  by_cases h0:a=0
  case neg=>exact ⟨true,s1 (Ev.step e1 (Ev.ai (by simp) (Ev.ae rfl (Ev.ae hd (Ev.ai h0 (Ev.now _)))))),s2 (Ev.step e2 (Ev.ai (by simp) (Ev.ae rfl (Ev.ae hd (Ev.ai h0 (Ev.now _)))))),fun _=>⟨hb,fun _=>hd,(fun h=>by cases h),fun h=>absurd h h0⟩⟩
  by_cases h16:b=16
  ·exact ⟨true,s1 (Ev.step e1 (Ev.ai (by simp) (Ev.ae rfl (Ev.ae hd (Ev.ae h0 (Ev.ae h16 (Ev.now _))))))),s2 (Ev.step e2 (Ev.ai (by simp) (Ev.ae rfl (Ev.ae hd (Ev.ae h0 (Ev.ae h16 (Ev.now _))))))),fun _=>⟨hb,fun _=>hd,(fun h=>by cases h),fun _=>⟨fun _=>.inl h16,fun h=>by cases h⟩⟩⟩
  ·exact ⟨b == 17,s1 (Ev.step e1 (Ev.ai (by simp) (Ev.ae rfl (Ev.ae hd (Ev.ae h0 (Ev.ai h16 (Ev.now _))))))),s2 (Ev.step e2 (Ev.ai (by simp) (Ev.ae rfl (Ev.ae hd (Ev.ae h0 (Ev.ai h16 (Ev.now _))))))),fun h=>⟨hb,fun _=>hd,(fun h=>by cases h),fun _=>⟨fun _=>.inr (eq_of_beq h),fun h=>by cases h⟩⟩⟩
 | false =>
  by_cases he:(e.length:Int)=0
  case neg=>exact ⟨false,s1 (Ev.step e1 (Ev.ai (by simp) (Ev.ai (by simp) (Ev.ai he (Ev.now _))))),s2 (Ev.step e2 (Ev.ai (by simp) (Ev.ai (by simp) (Ev.ai he (Ev.now _))))),fun h=>by cases h⟩
  have Fu:e=[]:=List.eq_nil_of_length_eq_zero (by omega)
  by_cases h0:a=0
  ·exact ⟨t,s1 (Ev.step e1 (Ev.ai (by simp) (Ev.ai (by simp) (Ev.ae he (Ev.ae h0 (Ev.bind t1 (Ev.now _))))))),s2 (Ev.step e2 (Ev.ai (by simp) (Ev.ai (by simp) (Ev.ae he (Ev.ae h0 (Ev.bind t2 (Ev.now _))))))),fun ht=>⟨hb,(fun h=>by cases h),(fun _=>Fu),fun _=>⟨(fun h=>by cases h),fun _=>by subst ht;exact ⟨t1,t2⟩⟩⟩⟩
  ·exact ⟨true,s1 (Ev.step e1 (Ev.ai (by simp) (Ev.ai (by simp) (Ev.ae he (Ev.ai h0 (Ev.now _)))))),s2 (Ev.step e2 (Ev.ai (by simp) (Ev.ai (by simp) (Ev.ae he (Ev.ai h0 (Ev.now _)))))),fun _=>⟨hb,(fun h=>by cases h),(fun _=>Fu),fun h=>absurd h h0⟩⟩
def aU (t:List af) (n:Nat):List Int:=(aa t (n:Int)).f4
inductive Ch (ob:af→Bool) (t:List af):List Int→Nat→Nat→Nat→Prop where
 | nil (n:Nat):Ch ob t [] n n 0
 | cons {k:Int} {ks:List Int} {n m j h1 h2:Nat} (hk:k=(n:Int)) (hn:n < t.length) (ho:ob (aa t (n:Int))=true) (h:Ch ob t (aU t n) (n+1) m h1) (hs:Ch ob t ks m j h2):Ch ob t (k :: ks) n j (max (h1+1) h2)
theorem Ch.le {ob:af→Bool} {t:List af} {ks:List Int} {n j h:Nat} (c:Ch ob t ks n j h):n≤j∧(n≤t.length→j≤t.length):=by
 induction c with
 | nil n=>exact ⟨Nat.le_refl _,id⟩
 | cons hk hn ho h hs ih1 ih2=>exact ⟨by omega,fun _=>ih2.2 (ih1.2 (by omega))⟩
theorem Ch.jP {ob:af→Bool} {t:List af} {ks:List Int} {n j h:Nat} (c:Ch ob t ks n j h):∀ {j' h':Nat},Ch ob t ks n j' h'→j=j'∧h=h':=by
 induction c with
 | nil n=>intro j' h' c';cases c';exact ⟨rfl,rfl⟩
 | cons hk hn ho h hs ih1 ih2 =>
  intro j' h' c'
  cases c' with
  | cons _ _ _ g gs =>
   obtain ⟨rfl,rfl⟩:=ih1 g
   obtain ⟨rfl,rfl⟩:=ih2 gs
   exact ⟨rfl,rfl⟩
def RT (ob:af→Bool) (t:List af) (h:Nat):Prop:=0 < t.length∧t.length≤1000∧ob (aa t 0)=true∧Ch ob t (aU t 0) 1 t.length h∧h+1≤16
theorem ac3 {α:Type} (s:List α) (x d:α):(s++[x]).getD s.length d=x:=by simp [List.getD_eq_getElem?_getD]
theorem Ty (ob:af→Bool) (t:List af) (hN:t.length≤1000) (hk:∀ n,n < t.length→(aU t n).length≤100000)
 (bT:∀ n,n < t.length→Ev (fun k=>iR.f k (aa t (n:Int)).f0 (aa t (n:Int)).f1 (aa t (n:Int)).f2 (aa t (n:Int)).f3 (aa t (n:Int)).f4) (ob (aa t (n:Int)))) :
 ∀ (d deep i:Nat),17 - deep≤d→deep≤17→i≤t.length→∃ r:Int,Ev (fun k=>eX.f k t (i:Int) (deep:Int)) r ∧
  ((r = -1∧¬ ∃ j h,i < t.length∧ob (aa t (i:Int))=true∧Ch ob t (aU t i) (i+1) j h∧deep+h≤16)∨∃ j h:Nat,r=(j:Int)∧i < t.length∧ob (aa t (i:Int))=true∧Ch ob t (aU t i) (i+1) j h∧deep+h≤16):=by
 intro d
 induction d with
 | zero =>
  intro deep i hd Fe hi
  have hno:Ev (fun k=>eX.j0 k t (i:Int) (deep:Int) true) (-1):=by
   refine Ev.step (fun k=>by rw [eX.j0]) ?_
   exact Ev.ae rfl (Ev.now _)
  refine ⟨-1,?_,Or.inl ⟨rfl,fun ⟨j,h,_,_,_,hh⟩=>by omega⟩⟩
  refine Ev.step (fun k=>by rw [eX.f]) ?_
  by_cases g:(i:Int)≥(t.length:Int)
  ·exact Ev.ae g hno
  ·exact Ev.ai g (Ev.ae (by omega) hno)
 | succ d ih =>
  intro deep i hd Fe hi
  have hno:Ev (fun k=>eX.j0 k t (i:Int) (deep:Int) true) (-1):=by
   refine Ev.step (fun k=>by rw [eX.j0]) ?_
   exact Ev.ae rfl (Ev.now _)
  by_cases g:(i:Int)≥(t.length:Int)
  ·refine ⟨-1,?_,Or.inl ⟨rfl,fun ⟨j,h,hh,_⟩=>by omega⟩⟩
   refine Ev.step (fun k=>by rw [eX.f]) ?_
   exact Ev.ae g hno
  by_cases g2:(deep:Int) > 16
  ·refine ⟨-1,?_,Or.inl ⟨rfl,fun ⟨j,h,_,_,_,hh⟩=>by omega⟩⟩
   refine Ev.step (fun k=>by rw [eX.f]) ?_
   exact Ev.ai g (Ev.ae g2 hno)
  have xh:i < t.length:=by omega
  cases hb:ob (aa t (i:Int)) with
  | false =>
   refine ⟨-1,?_,Or.inl ⟨rfl,fun ⟨j,h,_,hh,_⟩=>by cases hh⟩⟩
   refine Ev.step (fun k=>by rw [eX.f]) ?_
   refine Ev.ai g (Ev.ai g2 (Ev.ae (by omega) (Ev.ae (by omega) (Ev.bind (bT i xh) ?_))))
   rw [hb]
   exact hno
  | true =>
   have loop:∀ (ks:List Int) (p n:Nat),(aU t i).drop p=ks→p≤(aU t i).length→n≤t.length→∃ r:Int,Ev (fun k=>eX.l0 k t (i:Int) (deep:Int) (n:Int) (p:Int)) r ∧
    ((r = -1∧¬ ∃ j h,Ch ob t ks n j h∧deep+h≤16)∨∃ j h:Nat,r=(j:Int)∧Ch ob t ks n j h∧deep+h≤16):=by
    intro ks
    induction ks with
    | nil =>
     intro p n hp hpl hn
     have hpe:p=(aU t i).length:=by
      have:=congrArg List.length hp
      simp at this
      omega
     refine ⟨(n:Int),?_,Or.inr ⟨n,0,rfl,Ch.nil n,by omega⟩⟩
     refine Ev.step (fun k=>by rw [eX.l0]) ?_
     refine Ev.ae (by omega) (Ev.ae (by omega) (Ev.ai ?_ (Ev.now _)))
     show ¬ (p:Int) < ((aU t i).length:Int)
     omega
    | cons k0 ks' ihk =>
     intro p n hp hpl hn
     have Yn:p < (aU t i).length:=by
      have:=congrArg List.length hp
      simp at this
      omega
     have hdrop:=List.drop_eq_getElem_cons Yn
     rw [hp] at hdrop
     obtain ⟨hk0,hks⟩:=List.cons.inj hdrop
     have hkl:=hk i xh
     have hrd:rd (aa t (i:Int)).f4 (p:Int)=k0:=by rw [hk0];exact jZ p Yn
     have step:∀ {r},Ev (fun k=>if rd (aa t (i:Int)).f4 (p:Int)=(n:Int) then ((eX.f k t (n:Int) (wrap64 ((deep:Int)+1))).bind fun lT=>(if lT < 0 then (some (-1)) else (eX.l0 k t (i:Int) (deep:Int) lT (wrap64 ((p:Int)+1))))) else some (-1)) r→Ev (fun k=>eX.l0 k t (i:Int) (deep:Int) (n:Int) (p:Int)) r:=by
      intro r h
      refine Ev.step (fun k=>by rw [eX.l0]) ?_
      refine Ev.ae (by omega) (Ev.ae (by omega) (Ev.ae ?_ (Ev.ae (by omega) h)))
      show (p:Int) < ((aU t i).length:Int)
      omega
     rw [hrd,aO (x:=(deep:Int)+1) (by omega) (by omega),aO (x:=(p:Int)+1) (by omega) (by omega)] at step
     by_cases hkn:k0=(n:Int)
     case neg=>exact ⟨-1,step (Ev.ai hkn (Ev.now _)),Or.inl ⟨rfl,fun ⟨j,h,c,_⟩=>by cases c;contradiction⟩⟩
     obtain ⟨r1,hr1,hc1⟩:=ih (deep+1) n (by omega) (by omega) hn
     rw [show ((deep+1:Nat):Int)=(deep:Int)+1 by omega] at hr1
     rcases hc1 with ⟨rfl,hnot⟩ | ⟨j1,h1,rfl,fB,ajS,c1,hd1⟩
     ·refine ⟨-1,step (Ev.ae hkn (Ev.bind hr1 (Ev.ae (by decide) (Ev.now _)))),Or.inl ⟨rfl,fun ⟨j,h,c,hh⟩=>hnot ?_⟩⟩
      cases c with
      | cons _ hn' ho' g gs=>exact ⟨_,_,hn',ho',g,by omega⟩
     ·have hle:=c1.le
      obtain ⟨r2,hr2,hc2⟩:=ihk (p+1) j1 hks.symm (by omega) (hle.2 (by omega))
      rw [show ((p+1:Nat):Int)=(p:Int)+1 by omega] at hr2
      refine ⟨r2,step (Ev.ae hkn (Ev.bind hr1 (Ev.ai (by omega) hr2))),?_⟩
      rcases hc2 with ⟨rfl,hnot⟩ | ⟨j,h,rfl,c,hh⟩
      ·refine Or.inl ⟨rfl,fun ⟨j,h,c,hh⟩=>hnot ?_⟩
       cases c with
       | cons _ hn' ho' g gs =>
        obtain ⟨rfl,rfl⟩:=c1.jP g
        exact ⟨_,_,gs,by omega⟩
      ·exact Or.inr ⟨j,_,rfl,Ch.cons hkn fB ajS c1 c,by omega⟩
   obtain ⟨r,hr,hc⟩:=loop _ 0 (i+1) rfl (by omega) (by omega)
   refine ⟨r,?_,?_⟩
   ·refine Ev.step (fun k=>by rw [eX.f]) ?_
    refine Ev.ai g (Ev.ai g2 (Ev.ae (by omega) (Ev.ae (by omega) (Ev.bind (bT i xh) ?_))))
    rw [hb]
    refine Ev.step (fun k=>by rw [eX.j0]) ?_
    rw [aO (by omega) (by omega)]
    exact Ev.ai (by simp) hr
   ·rw [List.drop_zero] at hc
    rcases hc with ⟨rfl,hnot⟩ | ⟨j,h,rfl,c,hh⟩
    ·exact Or.inl ⟨rfl,fun ⟨j,h,_,_,c,hh⟩=>hnot ⟨j,h,c,hh⟩⟩
    ·exact Or.inr ⟨j,h,rfl,xh,rfl,c,hh⟩
theorem Fy (ob:af→Bool) (t:List af) (hk:∀ n,n < t.length→(aU t n).length≤100000)
 (bT:∀ n,n < t.length→Ev (fun k=>iR.f k (aa t (n:Int)).f0 (aa t (n:Int)).f1 (aa t (n:Int)).f2 (aa t (n:Int)).f3 (aa t (n:Int)).f4) (ob (aa t (n:Int)))) :
 ∃ b,Ev (fun k=>ja.f k t) b∧(b=true↔∃ h,RT ob t h):=by
 by_cases h0:(t.length:Int) > 0
 case neg =>
  refine ⟨false,?_,by simp;intro h hh;have:=hh.1;omega⟩
  refine Ev.congr (fun k=>by rw [ja.f]) ?_
  exact Ev.ai h0 (Ev.now _)
 by_cases h1:(t.length:Int)≤1000
 case neg =>
  refine ⟨false,?_,by simp;intro h hh;have:=hh.2.1;omega⟩
  refine Ev.congr (fun k=>by rw [ja.f]) ?_
  exact Ev.ae h0 (Ev.ai h1 (Ev.now _))
 obtain ⟨r,hr,hc⟩:=Ty ob t (by omega) hk bT 16 1 0 (by omega) (by omega) (by omega)
 refine ⟨r == (t.length:Int),?_,?_⟩
 ·refine Ev.congr (fun k=>by rw [ja.f]) ?_
  exact Ev.ae h0 (Ev.ae h1 (Ev.bind hr (Ev.now _)))
 ·rw [beq_iff_eq]
  rcases hc with ⟨rfl,hnot⟩ | ⟨j,h,rfl,hi,ho,c,hh⟩
  ·exact ⟨fun h=>by omega,fun ⟨h,a1,a2,a3,a4,a5⟩=>absurd ⟨_,h,a1,a3,a4,by omega⟩ hnot⟩
  ·constructor
   ·intro e
    obtain rfl:j=t.length:=by omega
    exact ⟨h,hi,by omega,ho,c,by omega⟩
   ·rintro ⟨h',a1,a2,a3,a4,a5⟩
    rw [(c.jP a4).1]
theorem Iq (s:List bZ) (x:bZ) (i:Int) (h:i=(s.length:Int)):bG (s++[x]) i=x:=by
 subst h
 unfold bG
 rw [Int.toNat_natCast]
 exact ac3 _ _ _
def Done (t:List af) (l:List bZ):Prop:=∀ f∈l,∃ p:Nat,p < t.length∧f=⟨(p:Int),((aU t p).length:Int)⟩
theorem ER (t:List af) (hN:t.length≤1000) (s:List bZ) (hs:s.length≤100000) (most i:Int) (r:Int):∀ (n:Nat) (l:List bZ),l.length=n→l.length≤100000→Done t l →
 Ev (fun k=>bR.l1 k t s most i t (t.length:Int) i) r→Ev (fun k=>bR.l1 k t (s++l) most i t (t.length:Int) i) r:=by
 intro n
 induction n with
 | zero =>
  intro l hl _ _ h
  obtain rfl:=List.eq_nil_of_length_eq_zero hl
  rw [List.append_nil]
  exact h
 | succ n ih =>
  intro l hl h5 hd h
  obtain ⟨q,x,rfl⟩:∃ q x,l=q++[x]:=⟨l.dropLast,l.getLast (by intro e;subst e;simp at hl),(List.dropLast_concat_getLast _).symm⟩
  simp at hl h5
  have h2:=ih q hl (by omega) (fun f hf=>hd f (by simp [hf])) h
  obtain ⟨p,hp,rfl⟩:=hd x (by simp)
  have hlen:((s++(q++[(⟨(p:Int),((aU t p).length:Int)⟩:bZ)])).length:Int)=(s++q).length+1:=by simp;omega
  refine Ev.step (fun k=>by rw [bR.l1]) ?_
  have E9:(s++q).length≤200000:=by simp;omega
  rw [hlen,aO (by omega) (by omega),show ((s++q).length:Int)+1 - 1=((s++q).length:Int) by omega,← List.append_assoc,Iq (s++q) _ _ rfl]
  refine Ev.ae (by omega) (Ev.ae (by omega) (Ev.ae (by omega) (Ev.ae (by simp) (Ev.ae (by simp;omega) (Ev.ae rfl (Ev.ae (by omega) ?_))))))
  rw [Int.toNat_natCast,List.take_left]
  exact h2
theorem Vt (t:List af) (most:Int) (x:List bZ) (hx:x.length≤100000) (hd:Done t x) (d:Nat):∀ i:Nat,i≤x.length→x.length - i=d →
 Ev (fun k=>bR.l2 k t x most (x.length:Int) (i:Int)) (if most > 16 then 0 else most):=by
 induction d with
 | zero =>
  intro i hi hdd
  refine Ev.step (fun k=>by rw [bR.l2]) ?_
  refine Ev.ai (by omega) ?_
  exact Ev.ite (fun _=>Ev.now _) (fun _=>Ev.now _)
 | succ d ih =>
  intro i hi hdd
  have hlt:i < x.length:=by omega
  obtain ⟨p,hp,hf⟩:=hd x[i] (List.getElem_mem hlt)
  have hr:bG x (i:Int)=x[i]:=by unfold bG;simp [List.getD_eq_getElem?_getD,hlt]
  refine Ev.step (fun k=>by rw [bR.l2]) ?_
  rw [hr,hf,aO (by omega) (by omega),show (i:Int)+1=((i+1:Nat):Int) by omega]
  exact Ev.ae (by omega) (Ev.ae (by omega) (Ev.ae (by omega) (Ev.ae (by simp) (Ev.ae (by simp;omega) (Ev.ae rfl (ih (i+1) (by omega) (by omega)))))))
theorem adE (t:List af) (most:Int) (x:List bZ) (hx:x.length≤100000) (hw:∀ f∈x,0≤f.f0∧f.f0 < (t.length:Int)) (j:Nat) (hj:j < x.length) (hn:x[j].f1≠((aa t x[j].f0).f4.length:Int)) (d:Nat):∀ i:Nat,i≤j→j - i=d →
 Ev (fun k=>bR.l2 k t x most (x.length:Int) (i:Int)) 0:=by
 induction d with
 | zero =>
  intro i hi hdd
  obtain rfl:i=j:=by omega
  have hr:bG x (i:Int)=x[i]:=by unfold bG;simp [List.getD_eq_getElem?_getD,hj]
  have hwf:=hw x[i] (List.getElem_mem hj)
  refine Ev.step (fun k=>by rw [bR.l2]) ?_
  rw [hr]
  exact Ev.ae (by omega) (Ev.ae (by omega) (Ev.ae (by omega) (Ev.ae hwf.1 (Ev.ae hwf.2 (Ev.ai hn (Ev.now _))))))
 | succ d ih =>
  intro i hi hdd
  have hlt:i < x.length:=by omega
  have hr:bG x (i:Int)=x[i]:=by unfold bG;simp [List.getD_eq_getElem?_getD,hlt]
  have hwf:=hw x[i] (List.getElem_mem hlt)
  refine Ev.step (fun k=>by rw [bR.l2]) ?_
  rw [hr,aO (by omega) (by omega),show (i:Int)+1=((i+1:Nat):Int) by omega]
  refine Ev.ae (by omega) (Ev.ae (by omega) (Ev.ae (by omega) (Ev.ae hwf.1 (Ev.ae hwf.2 ?_))))
  by_cases hc:x[i].f1=((aa t x[i].f0).f4.length:Int)
  ·exact Ev.ae hc (ih (i+1) (by omega) (by omega))
  ·exact Ev.ai hc (Ev.now _)
theorem Ev.uniq {α:Type} {g:Nat→Option α} {r s:α} (h:Ev g r) (h':Ev g s):r=s:=by
 obtain ⟨a,ha⟩:=h
 obtain ⟨b,hb⟩:=h'
 exact Option.some.inj ((ha (max a b) (Nat.le_max_left _ _)).symm.trans (hb (max a b) (Nat.le_max_right _ _)))
def oW (ob:af→Bool) (t:List af):Prop:=∀ n,n < t.length→Ev (fun k=>iD.f k (aa t (n:Int)).f0 (aa t (n:Int)).f1 (aa t (n:Int)).f2 (aa t (n:Int)).f3 (aa t (n:Int)).f4) (ob (aa t (n:Int)))
theorem xW (ob:af→Bool) (t:List af) (bT:oW ob t) (x:List bZ) (most:Int) (n:Nat) (hn:n < t.length) (ho:ob (aa t (n:Int))=true) {r:Int}
 (h:Ev (fun k=>bR.l1 k t x most (n:Int) t (t.length:Int) (n:Int)) r):Ev (fun k=>bR.l0 k t x most t (t.length:Int) (n:Int)) r:=by
 refine Ev.step (fun k=>by rw [bR.l0]) ?_
 refine Ev.ae (by omega) (Ev.ae (by omega) (Ev.ae (by omega) (Ev.bind (bT n hn) ?_)))
 rw [ho]
 exact Ev.ae rfl h
theorem abW {α:Type} (s:List α) (x y:α) (i:Int) (h:i=(s.length:Int)):(s++[x]).set i.toNat y=s++[y]:=by
 subst h
 rw [Int.toNat_natCast]
 simp
theorem IX (t:List af) (hN:t.length≤1000) (s:List bZ) (hs:s.length≤2000) (p q n:Nat) (hp:p < t.length) (hq:q < (aU t p).length) (hk:(aU t p).length≤100000) (hn0:0 < n) (hn:n < t.length) (most:Int) {r:Int}
 (h:Ev (fun k=>if rd (aU t p) (q:Int)=(n:Int) then bR.l0 k t (s++[⟨(p:Int),((q+1:Nat):Int)⟩]++[⟨(n:Int),0⟩]) (mx most ((s.length+2:Nat):Int)) t (t.length:Int) ((n+1:Nat):Int) else some 0) r) :
 Ev (fun k=>bR.l1 k t (s++[⟨(p:Int),(q:Int)⟩]) most (n:Int) t (t.length:Int) (n:Int)) r:=by
 have hlen:((s++[(⟨(p:Int),(q:Int)⟩:bZ)]).length:Int)=(s.length:Int)+1:=by simp
 have akW:∀ y:bZ,((s++[y]).length:Int)=(s.length:Int)+1:=by intro y;simp
 refine Ev.step (fun k=>by rw [bR.l1]) ?_
 rw [hlen,aO (by omega) (by omega),show (s.length:Int)+1 - 1=(s.length:Int) by omega,Iq s _ _ rfl]
 refine Ev.ae (by omega) (Ev.ae (by omega) (Ev.ae (by omega) (Ev.ae (by simp) (Ev.ae (by simp;omega) (Ev.ai ?_ ?_)))))
 ·show ¬ (q:Int)=((aU t p).length:Int)
  omega
 refine Ev.step (fun k=>by rw [bR.j3]) ?_
 rw [hlen,aO (by omega) (by omega),show (s.length:Int)+1 - 1=(s.length:Int) by omega,Iq s _ _ rfl,abW s _ _ _ rfl]
 refine Ev.ae (by omega) (Ev.ai (by omega) (Ev.ae (by omega) (Ev.ae (by omega) (Ev.ae (by simp) (Ev.ae (by simp;omega) (Ev.ae (by simp) (Ev.ae ?_ ?_)))))))
 ·show (q:Int) < ((aU t p).length:Int)
  omega
 refine (Ev.congr (fun k=>?_) h)
 show (if rd (aU t p) (q:Int)=(n:Int) then _ else _)=_
 by_cases hv:rd (aU t p) (q:Int)=(n:Int)
 ·rw [if_pos hv,if_pos hv,Option.bind_some,if_pos (by simp;omega),Option.bind_some]
  dsimp only
  rw [aO (x:=(q:Int)+1) (by omega) (by omega),aO (x:=(n:Int)+1) (by omega) (by omega)]
  rw [show ((s++[(⟨(p:Int),(q:Int)+1⟩:bZ)]++[(⟨(n:Int),0⟩:bZ)]).length:Int)=((s.length+2:Nat):Int) by simp]
  rfl
 ·rw [if_neg hv,if_neg hv]
theorem adF (a b:Nat):mx (a:Int) (b:Int)=((max a b:Nat):Int):=by unfold mx;split<;>omega
theorem aa3 (ob:af→Bool) (t:List af) (hN:t.length≤1000) (hk:∀ n,n < t.length→(aU t n).length≤100000) (bT:oW ob t) {ks:List Int} {n j h:Nat} (c:Ch ob t ks n j h) :
 ∀ (s:List bZ) (p q:Nat) (dn:List bZ) (most:Nat),p < t.length→(aU t p).drop q=ks→q≤(aU t p).length→Done t dn→s.length+1+dn.length≤n→n≤t.length→s.length+1≤most →
 ∃ RD,Done t RD∧s.length+1+RD.length≤j∧∀ r,Ev (fun k=>bR.l0 k t (s++([⟨(p:Int),((q+ks.length:Nat):Int)⟩]++RD)) ((max most (s.length+1+h):Nat):Int) t (t.length:Int) (j:Int)) r →
  Ev (fun k=>bR.l0 k t (s++([⟨(p:Int),(q:Int)⟩]++dn)) (most:Int) t (t.length:Int) (n:Int)) r:=by
 induction c with
 | nil n =>
  intro s p q dn most hp hks hq hd hl hn hm
  refine ⟨dn,hd,hl,fun r hr=>?_⟩
  rw [show max most (s.length+1+0)=most by omega] at hr
  exact hr
 | @cons k ks n m j h1 h2 hkn fB ho c1 c2 ih1 ih2 =>
  intro s p q dn most hp hks hq hd hl hn hm
  have hq2:q < (aU t p).length:=by
   have:=congrArg List.length hks
   simp at this
   omega
  have hdrop:=List.drop_eq_getElem_cons hq2
  rw [hks] at hdrop
  obtain ⟨hk0,uG⟩:=List.cons.inj hdrop
  have hv:rd (aU t p) (q:Int)=(n:Int):=by rw [jZ q hq2,← hk0,hkn]
  have le1:=c1.le
  obtain ⟨dn1,hd1,hl1,g1⟩:=ih1 (s++[⟨(p:Int),((q+1:Nat):Int)⟩]) n 0 [] (max most (s.length+2)) fB rfl (by omega) (by intro f hf;cases hf) (by simp;omega) (by omega) (by simp;omega)
  simp only [List.length_append,List.length_cons,List.length_nil] at hl1 g1
  obtain ⟨dn2,hd2,hl2,g2⟩:=ih2 s p (q+1) ([⟨(n:Int),((aU t n).length:Int)⟩]++dn1) (max (max most (s.length+2)) (s.length+(0+1)+1+h1)) hp uG.symm (by omega)
   (by
    intro f hf
    rcases List.mem_append.1 hf with hf | hf
    ·exact ⟨n,fB,by simpa using hf⟩
    ·exact hd1 f hf) (by simp;omega) (le1.2 (by omega)) (by omega)
  refine ⟨dn2,hd2,hl2,fun r hr=>?_⟩
  refine xW ob t bT _ _ n fB ho ?_
  rw [← List.append_assoc]
  refine ER t hN _ (by simp;omega) _ _ _ _ dn rfl (by omega) hd ?_
  refine IX t hN s (by omega) p q n hp hq2 (hk p hp) (by omega) fB _ ?_
  refine Ev.ae hv ?_
  rw [adF]
  have g3:=g1 r
  rw [List.append_nil] at g3
  refine g3 ?_
  rw [List.append_assoc,show 0+(aU t n).length=(aU t n).length by omega]
  refine g2 r ?_
  rw [show q+1+ks.length=q+(k :: ks).length by simp;omega,show max (max (max most (s.length+2)) (s.length+(0+1)+1+h1)) (s.length+1+h2)=max most (s.length+1+max (h1+1) h2) by omega]
  exact hr
def Shut (ob:af→Bool) (t:List af):List bZ→Nat→Prop
 | [],n=>n=t.length
 | f :: rest,n=>∃ m h,Ch ob t ((aU t f.f0.toNat).drop f.f1.toNat) n m h∧Shut ob t rest m
def ES (t:List af) (x:List bZ):Prop:=∀ f∈x,∃ p q:Nat,p < t.length∧q≤(aU t p).length∧f=⟨(p:Int),(q:Int)⟩
theorem Gv (ob:af→Bool) (t:List af) (y:List bZ) (n:Nat) (h:Shut ob t y n):∀ l:List bZ,Done t l→Shut ob t (l++y) n
 | [],_=>h
 | f :: l,hd=>by
  obtain ⟨p,hp,hf⟩:=hd f (by simp)
  refine ⟨n,0,?_,Gv ob t y n h l (fun g hg=>hd g (by simp [hg]))⟩
  rw [hf]
  dsimp only
  rw [Int.toNat_natCast,Int.toNat_natCast,List.drop_length]
  exact Ch.nil n
theorem aat (t:List af):∀ (m:Nat) (x:List bZ),x.length=m→ES t x→∃ y dn,x=y++dn∧Done t dn∧(y=[]∨∃ s,∃ p q:Nat,p < t.length∧q < (aU t p).length∧y=s++[⟨(p:Int),(q:Int)⟩]):=by
 intro m
 induction m with
 | zero =>
  intro x hx _
  obtain rfl:=List.eq_nil_of_length_eq_zero hx
  exact ⟨[],[],rfl,(fun f hf=>by cases hf),Or.inl rfl⟩
 | succ m ih =>
  intro x hx hw
  obtain ⟨z,f,rfl⟩:∃ z f,x=z++[f]:=⟨x.dropLast,x.getLast (by intro e;subst e;simp at hx),(List.dropLast_concat_getLast _).symm⟩
  simp at hx
  obtain ⟨p,q,hp,hq,rfl⟩:=hw f (by simp)
  by_cases hqe:q=(aU t p).length
  ·obtain ⟨y,dn,hy,hd,hc⟩:=ih z hx (fun g hg=>hw g (by simp [hg]))
   refine ⟨y,dn++[⟨(p:Int),(q:Int)⟩],by rw [hy,List.append_assoc],?_,hc⟩
   intro g hg
   rcases List.mem_append.1 hg with hg | hg
   ·exact hd g hg
   ·exact ⟨p,hp,by rw [← hqe];simpa using hg⟩
  ·exact ⟨z++[⟨(p:Int),(q:Int)⟩],[],by simp,(fun f hf=>by cases hf),Or.inr ⟨z,p,q,hp,by omega,rfl⟩⟩
theorem aa4 (ob:af→Bool) (t:List af) (hN:t.length≤1000) (hk:∀ n,n < t.length→(aU t n).length≤100000) (bT:oW ob t) :
 ∀ (d n:Nat),t.length - n=d→0 < n→n≤t.length→∀ (x:List bZ) (most:Int),ES t x→x.length≤n→∃ r,Ev (fun k=>bR.l0 k t x most t (t.length:Int) (n:Int)) r∧(r=0∨Shut ob t x.reverse n):=by
 intro d
 induction d with
 | zero =>
  intro n hd h0 hn x most hw hx
  obtain rfl:n=t.length:=by omega
  have h1:∀ {r},Ev (fun k=>bR.l2 k t x most (x.length:Int) ((0:Nat):Int)) r→Ev (fun k=>bR.l0 k t x most t (t.length:Int) (t.length:Int)) r:=by
   intro r h
   refine Ev.step (fun k=>by rw [bR.l0]) ?_
   exact Ev.ai (by omega) h
  by_cases hdn:Done t x
  ·refine ⟨_,h1 (Vt t most x (by omega) hdn x.length 0 (by omega) (by omega)),Or.inr ?_⟩
   have:=Gv ob t [] t.length rfl x.reverse (fun f hf=>hdn f (by simpa using hf))
   rwa [List.append_nil] at this
  ·have:∃ f,f∈x∧¬ ∃ p:Nat,p < t.length∧f=⟨(p:Int),((aU t p).length:Int)⟩:=by
    apply Classical.byContradiction
    intro hc
    exact hdn (fun f hf=>Classical.byContradiction (fun h=>hc ⟨f,hf,h⟩))
   obtain ⟨f,hf,hne⟩:=this
   obtain ⟨j,hj,rfl⟩:=List.mem_iff_getElem.1 hf
   refine ⟨0,h1 (adE t most x (by omega) ?_ j hj ?_ j 0 (by omega) (by omega)),Or.inl rfl⟩
   ·intro f hf
    obtain ⟨p,q,hp,_,rfl⟩:=hw f hf
    dsimp only
    omega
   ·obtain ⟨p,q,hp,hq,hfe⟩:=hw _ hf
    rw [hfe] at hne ⊢
    intro e
    exact hne ⟨p,hp,by rw [show ((q:Nat):Int)=((aU t p).length:Int) from e]⟩
 | succ d ih =>
  intro n hd h0 hn x most hw hx
  have fB:n < t.length:=by omega
  cases hb:ob (aa t (n:Int)) with
  | false =>
   refine ⟨0,?_,Or.inl rfl⟩
   refine Ev.step (fun k=>by rw [bR.l0]) ?_
   refine Ev.ae (by omega) (Ev.ae (by omega) (Ev.ae (by omega) (Ev.bind (bT n fB) ?_)))
   rw [hb]
   exact Ev.ai (by simp) (Ev.now _)
  | true =>
   obtain ⟨y,dn,rfl,hdn,hc⟩:=aat t x.length x rfl hw
   rw [List.length_append] at hx
   rcases hc with rfl | ⟨s,p,q,hp,hq,rfl⟩
   ·refine ⟨0,xW ob t bT _ _ n fB hb (ER t hN _ (by simp) _ _ _ _ dn rfl (by omega) hdn ?_),Or.inl rfl⟩
    refine Ev.step (fun k=>by rw [bR.l1]) ?_
    refine Ev.ai (by simp) ?_
    refine Ev.step (fun k=>by rw [bR.j3]) ?_
    exact Ev.ae (by omega) (Ev.ae (by simp) (Ev.now _))
   ·simp at hx
    by_cases hv:rd (aU t p) (q:Int)=(n:Int)
    ·have hw2:ES t (s++[⟨(p:Int),((q+1:Nat):Int)⟩]++[⟨(n:Int),0⟩]):=by
      intro f hf
      simp at hf
      rcases hf with hf | rfl | rfl
      ·exact hw f (by simp [hf])
      ·exact ⟨p,q+1,hp,by omega,by simp⟩
      ·exact ⟨n,0,fB,by omega,rfl⟩
     obtain ⟨r,hr,hcr⟩:=ih (n+1) (by omega) (by omega) (by omega) _ (mx most ((s.length+2:Nat):Int)) hw2 (by simp;omega)
     refine ⟨r,xW ob t bT _ _ n fB hb (ER t hN _ (by simp;omega) _ _ _ _ dn rfl (by omega) hdn (IX t hN s (by omega) p q n hp hq (hk p hp) h0 fB _ (Ev.ae hv hr))),?_⟩
     rcases hcr with rfl | hsh
     ·exact Or.inl rfl
     refine Or.inr ?_
     simp only [List.reverse_append,List.reverse_cons,List.reverse_nil,List.nil_append,List.singleton_append,List.cons_append] at hsh ⊢
     obtain ⟨m,h1,c1,m2,h2,c2,hsr⟩:=hsh
     refine Gv ob t _ n ?_ dn.reverse (fun f hf=>hdn f (by simpa using hf))
     refine ⟨m2,max (h1+1) h2,?_,hsr⟩
     dsimp only at c1 c2 ⊢
     rw [Int.toNat_natCast,Int.toNat_natCast] at c2 ⊢
     rw [Int.toNat_natCast] at c1
     rw [List.drop_eq_getElem_cons hq]
     refine Ch.cons ?_ fB hb c1 c2
     rw [← jZ q hq]
     exact hv
    ·exact ⟨0,xW ob t bT _ _ n fB hb (ER t hN _ (by simp;omega) _ _ _ _ dn rfl (by omega) hdn (IX t hN s (by omega) p q n hp hq (hk p hp) h0 fB _ (Ev.ai hv (Ev.now _)))),Or.inl rfl⟩
theorem RS (ob:af→Bool) (t:List af) (hk:∀ n,n < t.length→(aU t n).length≤100000) (bT:oW ob t) :
 ∃ r:Int,Ev (fun k=>bR.f k t) r∧((∃ h:Nat,r=(h:Int)+1∧RT ob t h)∨r=0∧¬ ∃ h,RT ob t h):=by
 have hno:Ev (fun k=>bR.j0 k t true) 0:=by
  refine Ev.step (fun k=>by rw [bR.j0]) ?_
  exact Ev.ae rfl (Ev.now _)
 by_cases h0:(t.length:Int)=0
 ·refine ⟨0,?_,Or.inr ⟨rfl,fun ⟨h,a,_⟩=>by omega⟩⟩
  refine Ev.congr (fun k=>by rw [bR.f]) ?_
  exact Ev.ae h0 hno
 by_cases h1:t.length≤1000
 case neg =>
  refine ⟨0,?_,Or.inr ⟨rfl,fun ⟨h,_,a,_⟩=>by omega⟩⟩
  refine Ev.congr (fun k=>by rw [bR.f]) ?_
  refine Ev.ai h0 ?_
  rw [decide_eq_true (by omega)]
  exact hno
 have hin:∀ {r},Ev (fun k=>bR.l0 k t ([]:List bZ) 0 t (t.length:Int) ((0:Nat):Int)) r→Ev (fun k=>bR.f k t) r:=by
  intro r h
  refine Ev.congr (fun k=>by rw [bR.f]) ?_
  refine Ev.ai h0 ?_
  rw [decide_eq_false (by omega)]
  refine Ev.step (fun k=>by rw [bR.j0]) ?_
  exact Ev.ai (by simp) h
 have hN:0 < t.length:=by omega
 cases hb:ob (aa t ((0:Nat):Int)) with
 | false =>
  refine ⟨0,hin ?_,Or.inr ⟨rfl,fun ⟨h,_,_,a,_⟩=>by rw [show (0:Int)=((0:Nat):Int) from rfl,hb] at a;cases a⟩⟩
  refine Ev.step (fun k=>by rw [bR.l0]) ?_
  refine Ev.ae (by omega) (Ev.ae (by omega) (Ev.ae (by omega) (Ev.bind (bT 0 hN) ?_)))
  rw [hb]
  exact Ev.ai (by simp) (Ev.now _)
 | true =>
  have hone:∀ {r},Ev (fun k=>bR.l0 k t [⟨((0:Nat):Int),((0:Nat):Int)⟩] ((1:Nat):Int) t (t.length:Int) ((1:Nat):Int)) r→Ev (fun k=>bR.f k t) r:=by
   intro r h
   refine hin (xW ob t bT _ _ 0 hN hb ?_)
   refine Ev.step (fun k=>by rw [bR.l1]) ?_
   refine Ev.ai (by simp) ?_
   refine Ev.step (fun k=>by rw [bR.j3]) ?_
   refine Ev.ai (by omega) (Ev.ae (by simp) (Ev.eB rfl ?_))
   rw [aO (by omega) (by omega)]
   exact h
  have hw:ES t [⟨((0:Nat):Int),((0:Nat):Int)⟩]:=by
   intro f hf
   exact ⟨0,0,hN,by omega,by simpa using hf⟩
  by_cases hc:∃ h,Ch ob t (aU t 0) 1 t.length h
  ·obtain ⟨h,c⟩:=hc
   obtain ⟨dn,hdn,hl,g⟩:=aa3 ob t h1 hk bT c [] 0 0 [] 1 hN rfl (by omega) (by intro f hf;cases hf) (by simp) (by omega) (by simp)
   have hdd:Done t ([⟨((0:Nat):Int),((0+(aU t 0).length:Nat):Int)⟩]++dn):=by
    intro f hf
    rcases List.mem_append.1 hf with hf | hf
    ·exact ⟨0,hN,by rw [Nat.zero_add] at hf;simpa using hf⟩
    ·exact hdn f hf
   have g2:=Vt t ((max 1 (([]:List bZ).length+1+h):Nat):Int) _ (by simp at hl ⊢;omega) hdd _ 0 (by omega) rfl
   obtain ⟨R,hR⟩:∃ R:Int,R=if ((max 1 (([]:List bZ).length+1+h):Nat):Int) > 16 then 0 else ((max 1 (([]:List bZ).length+1+h):Nat):Int):=⟨_,rfl⟩
   rw [← hR] at g2
   have g3:=g R (by
    refine Ev.step (fun k=>by rw [bR.l0]) ?_
    exact Ev.ai (by omega) g2)
   refine ⟨R,hone g3,?_⟩
   rw [hR]
   by_cases h16:h+1≤16
   ·refine Or.inl ⟨h,?_,hN,h1,hb,c,h16⟩
    rw [if_neg (by simp;omega)]
    simp
    omega
   ·refine Or.inr ⟨if_pos (by simp;omega),fun ⟨h',_,_,_,c',hh⟩=>?_⟩
    have:=(c.jP c').2
    omega
  ·obtain ⟨r,hr,hcr⟩:=aa4 ob t h1 hk bT _ 1 rfl (by omega) (by omega) _ ((1:Nat):Int) hw (by simp)
   refine ⟨r,hone hr,Or.inr ⟨?_,fun ⟨h',_,_,_,c',_⟩=>hc ⟨_,c'⟩⟩⟩
   rcases hcr with rfl | ⟨m,h,c,hm⟩
   ·rfl
   ·exact absurd ⟨h,by rw [show m=t.length from hm] at c;exact c⟩ hc
def rM (x:af) (b:Bool):Prop:=x.f3.size≤2000→Ev (fun k=>iD.f k x.f0 x.f1 x.f2 x.f3 x.f4) b∧Ev (fun k=>iR.f k x.f0 x.f1 x.f2 x.f3 x.f4) b∧(b=true→(0≤x.f0∧x.f0≤3∧0≤x.f1∧x.f1≤2097151)∧(x.f2=true→x.f3.toList=[])∧(x.f2=false→x.f4=[])∧(x.f0=0→(x.f2=true→x.f1=16∨x.f1=17)∧(x.f2=false→Ev (fun k=>jV.f k x.f1 x.f3) true∧Ev (fun k=>mF.f k x.f1 x.f3) true)))
theorem Ir:∃ ob:af→Bool,∀ x,rM x (ob x):=by
 have h:∀ x:af,∃ b,rM x b:=by
  intro x
  by_cases h:x.f3.size≤2000
  ·obtain ⟨b,h1,h2,h3⟩:=ac2 x h
   exact ⟨b,fun _=>⟨h1,h2,h3⟩⟩
  ·exact ⟨false,fun h'=>absurd h' h⟩
 exact Classical.axiomOfChoice h
def lY (iI:Int) (x:af):af:=⟨x.f0,x.f1,x.f2,x.f3,x.f4.map (fun y=>wrap64 (y+iI))⟩
theorem Uo (iI:Int) (a b:Int) (c:Bool) (d:ByteArray) (l:List Int) (hl:l.length≤100000) :
 Ev (fun k=>kQ.f k a b c d l iI) (a,b,c,d,l.map (fun y=>wrap64 (y+iI))):=by
 have loop:∀ (nI pre:List Int),pre.length+nI.length≤100000→Ev (fun k=>kQ.l0 k iI ((pre.length+nI.length:Nat):Int) (pre.length:Int) a b c d (pre++nI)) (a,b,c,d,pre++nI.map (fun y=>wrap64 (y+iI))):=by
  intro nI
  induction nI with
  | nil =>
   intro pre hp
   refine Ev.step (fun k=>by rw [kQ.l0]) ?_
   exact Ev.ai (by simp) (Ev.now _)
  | cons x nI ih =>
   intro pre hp
   simp at hp
   refine Ev.step (fun k=>by rw [kQ.l0]) ?_
   have hlt:pre.length < (pre++x :: nI).length:=by simp
   rw [jZ pre.length hlt,aO (x:=(pre.length:Int)+1) (by omega) (by omega)]
   refine Ev.ae (by simp;omega) (Ev.ae (by omega) (Ev.ae (by simp;omega) ?_))
   have:=ih (pre++[wrap64 (x+iI)]) (by simp;omega)
   simp only [List.length_append,List.length_cons,List.length_nil,List.append_assoc,List.singleton_append] at this
   rw [show pre.length+(x :: nI).length=pre.length+(0+1)+nI.length by simp;omega,List.map_cons]
   rw [show (pre++x :: nI).set (pre.length:Int).toNat (wrap64 ((pre++x :: nI)[pre.length]+iI))=pre++wrap64 (x+iI) :: nI by rw [Int.toNat_natCast];simp,show (pre.length:Int)+1=((pre.length+(0+1):Nat):Int) by omega]
   exact this
 refine Ev.congr (fun k=>by rw [kQ.f]) ?_
 refine Ev.eB (a:=l) (by rw [uS.f,if_pos (by rw [List.length_nil];omega)];rfl) ?_
 have:=loop l [] (by simp;omega)
 simp only [List.length_nil,Nat.zero_add,List.nil_append] at this
 exact this
theorem Ch.last {ob:af→Bool} {t:List af} {ks:List Int} {n j h:Nat} (c:Ch ob t ks n j h) (hne:0 < ks.length):∃ l h':Nat,rd ks ((ks.length:Int) - 1)=(l:Int)∧l < t.length∧Ch ob t (aU t l) (l+1) j h'∧h' < h:=by
 induction c with
 | nil n=>simp at hne
 | @cons k ks n m j h1 h2 hkn fB ho c1 c2 ih1 ih2 =>
  cases ks with
  | nil =>
   cases c2
   exact ⟨n,h1,by simp [← hkn,rd],fB,c1,by omega⟩
  | cons a ks =>
   obtain ⟨l,h',e,hl,c',hh⟩:=ih2 (by simp)
   refine ⟨l,h',?_,hl,c',by omega⟩
   rw [← e,show (((k :: a :: ks).length:Nat):Int) - 1=((ks.length+1:Nat):Int) by simp,show (((a :: ks).length:Nat):Int) - 1=((ks.length:Nat):Int) by simp,jZ _ (by simp),jZ _ (by simp)]
   rfl
theorem ZQ (ob:af→Bool) (t:List af) (hN:t.length≤1000) (hk:∀ n,n < t.length→(aU t n).length≤100000):∀ (h i j:Nat),i < t.length→Ch ob t (aU t i) (i+1) j h→Ev (fun k=>mG.f k t (i:Int)) (j:Int):=by
 intro h
 induction h using Nat.strongRecOn with
 | ind h ih =>
  intro i j hi c
  refine Ev.congr (fun k=>by rw [mG.f]) ?_
  refine Ev.step (fun k=>by rw [mG.l0]) ?_
  refine Ev.ae (by omega) (Ev.ae (by omega) ?_)
  by_cases h0:0 < (aU t i).length
  ·obtain ⟨l,h',e,hl,c',hh⟩:=c.last h0
   have:=hk i hi
   refine Ev.ae (show ((aU t i).length:Int) > 0 by omega) ?_
   rw [show ((aa t (i:Int)).f4.length:Int)=((aU t i).length:Int) from rfl,aO (x:=((aU t i).length:Int) - 1) (by omega) (by omega)]
   refine Ev.ae (by omega) (Ev.ae (show ((aU t i).length:Int) - 1 < ((aU t i).length:Int) by omega) ?_)
   rw [show rd (aa t (i:Int)).f4 (((aU t i).length:Int) - 1)=(l:Int) from e]
   have:=ih h' hh l j hl c'
   refine Ev.congr (fun k=>?_) this
   rw [mG.f]
  ·have e:aU t i=[]:=List.eq_nil_of_length_eq_zero (by omega)
   rw [e] at c
   cases c
   refine Ev.ai (show ¬ ((aU t i).length:Int) > 0 by omega) ?_
   rw [aO (by omega) (by omega)]
   exact Ev.now _
theorem tK (t:List af) (n:Nat) (h:n < t.length):aa t (n:Int)=t[n]:=by unfold aa;simp [List.getD_eq_getElem?_getD,h]
def win (t:List af) (i m:Nat):List af:=((t.take m).drop i).map (lY (wrap64 (-(i:Int))))
theorem Iu (t:List af) (i m:Nat) (hm:m≤t.length):(win t i m).length=m - i:=by unfold win;simp;omega
theorem Vu (t:List af) (i m n:Nat) (hm:m≤t.length) (hi:i≤n) (hn:n < m):aa (win t i m) ((n - i:Nat):Int)=lY (wrap64 (-(i:Int))) (aa t (n:Int)):=by
 rw [tK _ _ (by rw [Iu t i m hm];omega),tK _ _ (by omega)]
 unfold win
 simp only [List.getElem_map,List.getElem_drop,List.getElem_take]
 congr 2
 omega
theorem Ch.wins {ob:af→Bool} (hsh:∀ c x,x.f3.size≤2000→ob (lY c x)=ob x) {t:List af} (hN:t.length≤1000) (hsz:∀ n,n < t.length→(aa t (n:Int)).f3.size≤2000) {ks:List Int} {n j h:Nat} (c:Ch ob t ks n j h) (i m:Nat):i≤n→j≤m→m≤t.length→Ch ob (win t i m) (ks.map (fun y=>wrap64 (y+wrap64 (-(i:Int))))) (n - i) (j - i) h:=by
 induction c with
 | nil n=>intro h1 h2 h3;exact Ch.nil _
 | @cons k ks n m' j h1 h2 hkn fB ho c1 c2 ih1 ih2 =>
  intro hi hj hm
  have l1:=c1.le
  have l2:=c2.le
  have i1:=ih1 (by omega) (by omega) hm
  have i2:=ih2 (by omega) hj hm
  rw [List.map_cons]
  have hr:=Vu t i m n hm hi (by omega)
  refine Ch.cons ?_ (by rw [Iu t i m hm];omega) (by rw [hr,hsh _ _ (hsz n fB)];exact ho) ?_ i2
  ·rw [hkn,aO (x:=-(i:Int)) (by omega) (by omega),aO (by omega) (by omega)]
   omega
  ·rw [show n - i+1=n+1 - i by omega,show aU (win t i m) (n - i)=(aU t n).map (fun y=>wrap64 (y+wrap64 (-(i:Int)))) by unfold aU;rw [hr];rfl]
   exact i1
theorem xq (ob:af→Bool) (t:List af) (hk:∀ n,n < t.length→(aU t n).length≤100000) (bT:oW ob t) (h:Nat) (hR:RT ob t h) :
 Ev (fun k=>lH.f k t) true∧Ev (fun k=>Bg.f k t) ((h:Int)+1):=by
 obtain ⟨r,hr,hc⟩:=RS ob t hk bT
 have hr':r=(h:Int)+1:=by
  rcases hc with ⟨h',rfl,hR'⟩ | ⟨_,hn⟩
  ·rw [(hR'.2.2.2.1.jP hR.2.2.2.1).2]
  ·exact absurd ⟨h,hR⟩ hn
 subst hr'
 constructor
 ·refine Ev.congr (fun k=>by rw [lH.f]) ?_
  refine Ev.bind hr ?_
  rw [decide_eq_true (by omega)]
  exact Ev.now _
 ·refine Ev.congr (fun k=>by rw [Bg.f]) ?_
  exact Ev.bind hr (Ev.now _)
theorem abX (ob:af→Bool) (t:List af) (hk:∀ n,n < t.length→(aU t n).length≤100000) (bT:oW ob t) (hR:¬ ∃ h,RT ob t h) :
 Ev (fun k=>lH.f k t) false:=by
 obtain ⟨r,hr,hc⟩:=RS ob t hk bT
 rcases hc with ⟨h',_,hR'⟩ | ⟨rfl,_⟩
 ·exact absurd ⟨_,hR'⟩ hR
 refine Ev.congr (fun k=>by rw [lH.f]) ?_
 exact Ev.bind hr (Ev.now _)
theorem adG (ob:af→Bool) (t:List af) (hk:∀ n,n < t.length→(aU t n).length≤100000) (bT:oW ob t) (H:Nat) (hR:RT ob t H) (i j h:Nat) (hi:i < t.length) (c:Ch ob t (aU t i) (i+1) j h) (hj:j≤t.length) :
 Ev (fun k=>ji.f k t (i:Int)) (win t i j):=by
 have hN:=hR.2.1
 have hle:=c.le
 refine Ev.congr (fun k=>by rw [ji.f]) ?_
 refine Ev.ai (by omega) (Ev.ai (by omega) (Ev.bind (xq ob t hk bT H hR).1 ?_))
 refine Ev.step (fun k=>by rw [ji.j0]) ?_
 refine Ev.ai (by simp) (Ev.bind (ZQ ob t hN hk h i j hi c) (Ev.ae (by omega) (Ev.ae (by omega) (Ev.ae (by omega) (Ev.eB rfl ?_)))))
 rw [Int.toNat_natCast,Int.toNat_natCast]
 have hy:∀ x∈(t.take j).drop i,x.f4.length≤100000:=by
  intro x hx
  obtain ⟨n,hn,rfl⟩:=List.mem_iff_getElem.1 (List.mem_of_mem_take (List.mem_of_mem_drop hx))
  have:=hk n hn
  unfold aU at this
  rwa [tK t n hn] at this
 have hyl:((t.take j).drop i).length≤1000:=by simp;omega
 unfold win
 obtain ⟨y,hyd⟩:∃ y,y=(t.take j).drop i:=⟨_,rfl⟩
 rw [← hyd] at hy hyl ⊢
 have loop:∀ (d p:Nat) (acc:List af),y.length - p=d→p≤y.length→acc.length=p →
  Ev (fun k=>ji.l0 k (i:Int) acc y (y.length:Int) (p:Int)) (acc++(y.drop p).map (lY (wrap64 (-(i:Int))))):=by
  intro d
  induction d with
  | zero =>
   intro p acc hd hp ha
   refine Ev.step (fun k=>by rw [ji.l0]) ?_
   rw [List.drop_eq_nil_of_le (by omega),List.map_nil,List.append_nil]
   exact Ev.ai (by omega) (Ev.now _)
  | succ d ih =>
   intro p acc hd hp ha
   have hlt:p < y.length:=by omega
   refine Ev.step (fun k=>by rw [ji.l0]) ?_
   rw [tK _ p hlt,aO (x:=(p:Int)+1) (by omega) (by omega),List.drop_eq_getElem_cons hlt,List.map_cons]
   refine Ev.ae (by omega) (Ev.ae (by omega) (Ev.ae (by omega) (Ev.bind (Uo _ _ _ _ _ _ (hy _ (List.getElem_mem hlt))) (Ev.ae (by omega) ?_))))
   have:=ih (p+1) (acc++[lY (wrap64 (-(i:Int))) y[p]]) (by omega) (by omega) (by simp;omega)
   rw [List.append_assoc,List.singleton_append] at this
   exact this
 have:=loop _ 0 [] rfl (by omega) rfl
 rw [List.drop_zero,List.nil_append] at this
 exact this
inductive Pt (ob:af→Bool) (t:List af) (H:Nat):List Int→Nat→Nat→List (List af)→Prop where
 | nil (n:Nat):Pt ob t H [] n n []
 | cons {k:Int} {ks:List Int} {n m j h:Nat} {L:List (List af)} (hk:k=(n:Int)) (hn:n < t.length) (ho:ob (aa t (n:Int))=true) (c:Ch ob t (aU t n) (n+1) m h) (hh:h < H) (hm:m≤t.length) (p:Pt ob t H ks m j L):Pt ob t H (k :: ks) n j (win t n m :: L)
theorem Ch.pt {ob:af→Bool} {t:List af} {H:Nat} {ks:List Int} {n j h:Nat} (c:Ch ob t ks n j h):h≤H→j≤t.length→∃ L,Pt ob t H ks n j L:=by
 induction c with
 | nil n=>intro _ _;exact ⟨[],Pt.nil n⟩
 | @cons k ks n m j h1 h2 hkn fB ho c1 c2 ih1 ih2 =>
  intro hH hj
  have l2:=c2.le
  obtain ⟨L,p⟩:=ih2 (by omega) hj
  exact ⟨_,Pt.cons hkn fB ho c1 (by omega) (by omega) p⟩
theorem Pt.len {ob:af→Bool} {t:List af} {H:Nat} {ks:List Int} {n j:Nat} {L:List (List af)} (p:Pt ob t H ks n j L):L.length=ks.length:=by
 induction p with
 | nil n=>rfl
 | cons _ _ _ _ _ _ _ ih=>simp [ih]
theorem Pt.good {ob:af→Bool} (hsh:∀ c x,x.f3.size≤2000→ob (lY c x)=ob x) (hall:∀ x:af,x.f3.size≤2000→Ev (fun k=>iD.f k x.f0 x.f1 x.f2 x.f3 x.f4) (ob x)) {t:List af} (hN:t.length≤1000) (hsz:∀ n,n < t.length→(aa t (n:Int)).f3.size≤2000) (hk:∀ n,n < t.length→(aU t n).length≤100000) {H:Nat} (h16:H+1≤16) {ks:List Int} {n j:Nat} {L:List (List af)} (p:Pt ob t H ks n j L) :
 ∀ x∈L,∃ h:Nat,h < H∧Ev (fun k=>lH.f k x) true∧Ev (fun k=>Bg.f k x) ((h:Int)+1):=by
 induction p with
 | nil n=>intro x hx;cases hx
 | @cons k ks n m j h L hkn fB ho c hh hm p ih =>
  intro x hx
  rcases List.mem_cons.1 hx with rfl | hx
  case inr=>exact ih x hx
  have hle:=c.le
  have hwl:=Iu t n m hm
  have hr:∀ q,q < (win t n m).length→aa (win t n m) (q:Int)=lY (wrap64 (-(n:Int))) (aa t ((q+n:Nat):Int)):=by
   intro q hq
   have:=Vu t n m (q+n) hm (by omega) (by omega)
   rwa [Nat.add_sub_cancel] at this
  refine ⟨h,hh,?_⟩
  refine xq ob _ ?_ ?_ h ⟨by omega,by omega,?_,?_,by omega⟩
  ·intro q hq
   unfold aU
   rw [hr q hq]
   have:=hk (q+n) (by omega)
   unfold aU at this
   unfold lY
   simpa using this
  ·intro q hq
   refine hall _ ?_
   rw [hr q hq]
   exact hsz (q+n) (by omega)
  ·have:=hr 0 (by omega)
   rw [show (0:Int)=((0:Nat):Int) from rfl,this,hsh _ _ (hsz _ (by omega)),Nat.zero_add]
   exact ho
  ·have:=c.wins hsh hN hsz n m (by omega) (by omega) hm
   rw [show n+1 - n=1 by omega] at this
   rw [hwl]
   rw [show aU (win t n m) 0=(aU t n).map (fun y=>wrap64 (y+wrap64 (-(n:Int)))) by unfold aU;rw [hr 0 (by omega),Nat.zero_add];rfl]
   exact this
theorem ac4 (ob:af→Bool) (t:List af) (hk:∀ n,n < t.length→(aU t n).length≤100000) (bT:oW ob t) (H:Nat) (hR:RT ob t H) (L:List (List af)) (j:Nat) (p0:Pt ob t H (aU t 0) 1 j L):Ev (fun k=>jF.f k t) L:=by
 have loop:∀ {ks:List Int} {n:Nat} {L:List (List af)},Pt ob t H ks n j L→∀ (q:Nat) (acc:List (List af)),(aU t 0).drop q=ks→q≤(aU t 0).length→acc.length=q→Ev (fun k=>jF.l0 k t acc (aU t 0) ((aU t 0).length:Int) (q:Int)) (acc++L):=by
  clear p0
  intro ks n L p
  induction p with
  | nil n =>
   intro q acc hq oZ ha
   have:(aU t 0).length≤q:=by
    have:=congrArg List.length hq
    simp at this
    omega
   refine Ev.step (fun k=>by rw [jF.l0]) ?_
   rw [List.append_nil]
   exact Ev.ai (by omega) (Ev.now _)
  | @cons k ks n m j h L hkn fB ho c hh hm p ih =>
   intro q acc hq oZ ha
   have hq2:q < (aU t 0).length:=by
    have:=congrArg List.length hq
    simp at this
    omega
   have hdrop:=List.drop_eq_getElem_cons hq2
   rw [hq] at hdrop
   obtain ⟨hk0,uG⟩:=List.cons.inj hdrop
   have hv:rd (aU t 0) (q:Int)=(n:Int):=by rw [jZ q hq2,← hk0,hkn]
   have hk1:=hk 0 hR.1
   refine Ev.step (fun k=>by rw [jF.l0]) ?_
   rw [hv,aO (x:=(q:Int)+1) (by omega) (by omega)]
   refine Ev.ae (by omega) (Ev.ae (by omega) (Ev.ae (by omega) (Ev.bind (adG ob t hk bT H hR n m h fB c hm) (Ev.ae (by omega) ?_))))
   have:=ih (q+1) (acc++[win t n m]) uG.symm (by omega) (by simp;omega)
   rw [List.append_assoc,List.singleton_append] at this
   exact this
 refine Ev.congr (fun k=>by rw [jF.f]) ?_
 refine Ev.bind (xq ob t hk bT H hR).1 (Ev.ae rfl (Ev.ae (by have:=hR.1;omega) ?_))
 have:=loop p0 0 [] rfl (by omega) rfl
 rw [List.nil_append] at this
 exact this
theorem afN (off:Int) (dS:List (List af)) (bH dm:Int) (y:List af) (hy:y.length≤1000) (hk:∀ x∈y,x.f4.length≤100000) {r:List af}:∀ (d p:Nat) (acc:List af),y.length - p=d→p≤y.length→acc.length+d≤100000 →
 Ev (fun k=>fu.l0 k (acc++(y.drop p).map (lY off)) dS bH (wrap64 (dm+1))) r→Ev (fun k=>fu.l1 k acc off dS bH dm y (y.length:Int) (p:Int)) r:=by
 intro d
 induction d with
 | zero =>
  intro p acc hd hp ha h
  refine Ev.step (fun k=>by rw [fu.l1]) ?_
  rw [List.drop_eq_nil_of_le (by omega),List.map_nil,List.append_nil] at h
  exact Ev.ai (by omega) h
 | succ d ih =>
  intro p acc hd hp ha h
  have hlt:p < y.length:=by omega
  refine Ev.step (fun k=>by rw [fu.l1]) ?_
  rw [tK _ p hlt,aO (x:=(p:Int)+1) (by omega) (by omega)]
  rw [List.drop_eq_getElem_cons hlt,List.map_cons] at h
  refine Ev.ae (by omega) (Ev.ae (by omega) (Ev.ae (by omega) (Ev.bind (Uo _ _ _ _ _ _ (hk _ (List.getElem_mem hlt))) (Ev.ae (by omega) ?_))))
  refine ih (p+1) (acc++[lY off y[p]]) (by omega) (by omega) (by simp;omega) ?_
  rw [List.append_assoc,List.singleton_append]
  exact h
theorem RZ (iI:Int) (l:List Int) (hl:l.length≤100000):Ev (fun k=>kR.f k l iI) (l.map (fun y=>wrap64 (y+iI))):=by
 have loop:∀ (d p:Nat) (acc:List Int),l.length - p=d→p≤l.length→acc.length=p→Ev (fun k=>kR.l0 k l iI acc (p:Int)) (acc++(l.drop p).map (fun y=>wrap64 (y+iI))):=by
  intro d
  induction d with
  | zero =>
   intro p acc hd hp ha
   refine Ev.step (fun k=>by rw [kR.l0]) ?_
   rw [List.drop_eq_nil_of_le (by omega),List.map_nil,List.append_nil]
   exact Ev.ai (by omega) (Ev.now _)
  | succ d ih =>
   intro p acc hd hp ha
   have hlt:p < l.length:=by omega
   refine Ev.step (fun k=>by rw [kR.l0]) ?_
   rw [jZ p hlt,aO (x:=(p:Int)+1) (by omega) (by omega),List.drop_eq_getElem_cons hlt,List.map_cons]
   refine Ev.ae (by omega) (Ev.ae (by omega) (Ev.ae (by omega) ?_))
   have:=ih (p+1) (acc++[wrap64 (l[p]+iI)]) (by omega) (by omega) (by simp;omega)
   rw [List.append_assoc,List.singleton_append] at this
   exact this
 refine Ev.congr (fun k=>by rw [kR.f]) ?_
 have:=loop _ 0 [] rfl (by omega) rfl
 rw [List.drop_zero,List.nil_append] at this
 exact this
def mq (n:Nat):List (List af)→List af
 | []=>[]
 | p :: ps=>p.map (lY (n:Int))++mq (n+p.length) ps
theorem RF (LL:List (List af)) (q:Nat) (h:q < LL.length):bC LL (q:Int)=LL[q]:=by unfold bC;simp [List.getD_eq_getElem?_getD,h]
theorem aa5 (off:Int) (LL:List (List af)) (q:Nat) (hq:q < LL.length) (hL:LL.length≤1000) (hy:(LL[q]).length≤1000) (hk:∀ x∈LL[q],x.f4.length≤100000) {r:List af}:∀ (d p:Nat) (acc:List af),(LL[q]).length - p=d→p≤(LL[q]).length→acc.length+d≤100000 →
 Ev (fun k=>fE.l0 k LL (acc++((LL[q]).drop p).map (lY off)) (((q+1:Nat)):Int)) r→Ev (fun k=>fE.l1 k LL acc (q:Int) off (p:Int)) r:=by
 intro d
 induction d with
 | zero =>
  intro p acc hd hp ha h
  refine Ev.step (fun k=>by rw [fE.l1]) ?_
  rw [List.drop_eq_nil_of_le (by omega),List.map_nil,List.append_nil] at h
  rw [RF LL q hq,aO (x:=(q:Int)+1) (by omega) (by omega)]
  exact Ev.ae (by omega) (Ev.ae (by omega) (Ev.ai (by omega) h))
 | succ d ih =>
  intro p acc hd hp ha h
  have hlt:p < (LL[q]).length:=by omega
  refine Ev.step (fun k=>by rw [fE.l1]) ?_
  rw [RF LL q hq,tK _ p hlt,aO (x:=(p:Int)+1) (by omega) (by omega)]
  rw [List.drop_eq_getElem_cons hlt,List.map_cons] at h
  refine Ev.ae (by omega) (Ev.ae (by omega) (Ev.ae (by omega) (Ev.ae (by omega) (Ev.bind (RZ _ _ (hk _ (List.getElem_mem hlt))) (Ev.ae (by omega) ?_)))))
  refine ih (p+1) (acc++[lY off (LL[q])[p]]) (by omega) (by omega) (by simp;omega) ?_
  rw [List.append_assoc,List.singleton_append]
  exact h
def dw (t:List af) (n:Nat):List Int:=bytesOf (aa t (n:Int)).f3
def fG (t:List af) (n:Nat) (cs:List Int):List Int:=cB (aa t (n:Int)).f0 (aa t (n:Int)).f1 (aa t (n:Int)).f2++dh (cs.length:Int)++cs
inductive En (t:List af):List Int→Nat→Nat→List Int→Prop where
 | nil (n:Nat):En t [] n n []
 | cons {k:Int} {ks:List Int} {n m j:Nat} {cs rs:List Int} (hk:k=(n:Int)) (hn:n < t.length) (c:En t (aU t n) (n+1) m cs) (hf:(fG t n (dw t n++cs)).length≤65535) (r:En t ks m j rs):En t (k :: ks) n j (fG t n (dw t n++cs)++rs)
theorem En.jP {t:List af} {ks:List Int} {n j:Nat} {bs:List Int} (c:En t ks n j bs):∀ {j':Nat} {bs':List Int},En t ks n j' bs'→j=j'∧bs=bs':=by
 induction c with
 | nil n=>intro j' bs' c';cases c';exact ⟨rfl,rfl⟩
 | cons hk hn c hf r ih1 ih2 =>
  intro j' bs' c'
  cases c' with
  | cons _ _ g _ gs =>
   obtain ⟨rfl,rfl⟩:=ih1 g
   obtain ⟨rfl,rfl⟩:=ih2 gs
   exact ⟨rfl,rfl⟩
theorem En.pos {ob:af→Bool} {t:List af} {ks:List Int} {n j h:Nat} (c:Ch ob t ks n j h):∀ {j':Nat} {bs:List Int},En t ks n j' bs→j'=j:=by
 induction c with
 | nil n=>intro j' bs c';cases c';rfl
 | cons hk hn ho c1 c2 ih1 ih2 =>
  intro j' bs c'
  cases c' with
  | cons _ _ g _ gs =>
   obtain rfl:=ih1 g
   exact ih2 gs
theorem abY (b:Int):0 < (fJ b).length∧(fJ b).length≤3:=by unfold fJ;split;simp;split<;>simp
theorem Hf (a b:Int) (c:Bool):0 < (cB a b c).length∧(cB a b c).length≤4:=by
 have:=abY b
 unfold cB
 split
 ·simp
 ·simp
  omega
theorem Hg (n:Int):(dh n).length≤3:=by unfold dh;split;simp;split<;>simp
theorem Tz (t:List af) (n:Nat) (cs:List Int):cs.length < (fG t n cs).length∧(fG t n cs).length≤cs.length+7:=by
 have h1:=Hf (aa t (n:Int)).f0 (aa t (n:Int)).f1 (aa t (n:Int)).f2
 have h2:=Hg (cs.length:Int)
 unfold fG
 simp
 omega
def xk (ob:af→Bool):Prop:=∀ x:af,x.f3.size≤2000→ob x=true→(0≤x.f0∧x.f0≤3∧0≤x.f1∧x.f1≤2097151)
theorem Zr (ob:af→Bool) (hin:xk ob) (t:List af) (hN:t.length≤1000) (hsz:∀ n,n < t.length→(aa t (n:Int)).f3.size≤2000) (hk:∀ n,n < t.length→(aU t n).length≤100000) {ks:List Int} {n j h:Nat} (c:Ch ob t ks n j h) :
 ∀ (i q:Nat) (acc:List Int),i < t.length→ob (aa t (i:Int))=true→(aU t i).drop q=ks→q≤(aU t i).length→acc.length≤65535 →
 ∃ v ok,Ev (fun k=>jb.l0 k t (i:Int) (strOfNums acc) (q:Int)) (v,ok)∧v.size≤140000∧(ok=true→∃ bs,En t ks n j bs∧(fG t i (acc++bs)).length≤65535∧v=strOfNums (fG t i (acc++bs)))∧((∃ j' bs,En t ks n j' bs∧(fG t i (acc++bs)).length≤65535)→ok=true):=by
 induction c with
 | nil n =>
  intro i q acc hi ho hq oZ ha
  have hqe:(aU t i).length≤q:=by
   have:=congrArg List.length hq
   simp at this
   omega
  obtain ⟨r1,r2,r3,r4⟩:=hin _ (hsz i hi) ho
  have hh:=FK _ _ (aa t (i:Int)).f2 (acc.length:Int) r1 r2 r3 r4 (by omega)
  rw [if_pos (by omega)] at hh
  have h1:=Hf (aa t (i:Int)).f0 (aa t (i:Int)).f1 (aa t (i:Int)).f2
  have h2:=Hg (acc.length:Int)
  have hln:(fG t i acc).length=(cB (aa t (i:Int)).f0 (aa t (i:Int)).f1 (aa t (i:Int)).f2++dh (acc.length:Int)).length+acc.length:=by unfold fG;rw [List.length_append]
  have ak7:=Tz t i acc
  refine ⟨strOfNums (fG t i acc),decide ((fG t i acc).length≤65535),?_,by rw [dW];omega,?_,?_⟩
  ·refine Ev.step (fun k=>by rw [jb.l0]) ?_
   rw [dA,dW]
   refine Ev.ae (by omega) (Ev.ae (by omega) (Ev.ai (show ¬ (q:Int) < ((aU t i).length:Int) by omega) (Ev.bind hh (Ev.ae (by rw [dW];simp;omega) (Ev.ae rfl ((Ev.now _).eq ?_))))))
   rw [lZ,dA,aO (by omega) (by omega)]
   show (strOfNums (fG t i acc),_)=_
   rw [hln]
   refine congrArg _ (decide_eq_decide.2 ?_)
   omega
  ·intro hok
   exact ⟨[],En.nil n,by rw [List.append_nil];exact of_decide_eq_true hok,by rw [List.append_nil]⟩
  ·rintro ⟨j',bs,e,hf⟩
   cases e
   rw [List.append_nil] at hf
   exact decide_eq_true hf
 | @cons k ks n m j h1 h2 hkn fB bT c1 c2 ih1 ih2 =>
  intro i q acc hi ho hq oZ ha
  have hq2:q < (aU t i).length:=by
   have:=congrArg List.length hq
   simp at this
   omega
  have hdrop:=List.drop_eq_getElem_cons hq2
  rw [hq] at hdrop
  obtain ⟨hk0,uG⟩:=List.cons.inj hdrop
  have hv:rd (aU t i) (q:Int)=(n:Int):=by rw [jZ q hq2,← hk0,hkn]
  have hki:=hk i hi
  have hbl:(dw t n).length≤2000:=by
   have:=hsz n fB
   rw [← pg (aa t (n:Int)).f3,dW] at this
   exact this
  obtain ⟨v,ok,he,hvs,hA,hB⟩:=ih1 n 0 (dw t n) fB bT rfl (by omega) (by omega)
  have hef:Ev (fun k=>jb.f k t (n:Int)) (v,ok):=by
   refine Ev.step (fun k=>by rw [jb.f]) ?_
   refine Ev.ae (by omega) (Ev.ae (by omega) ?_)
   unfold dw at he
   rw [pg] at he
   exact he
  have step:∀ {r:ByteArray × Bool},Ev (fun k=>if ok=true then (if ((strOfNums acc++v).size:Int) > 65535 then some ((⟨#[]⟩:ByteArray),false) else jb.l0 k t (i:Int) (strOfNums acc++v) ((q+1:Nat):Int)) else some ((⟨#[]⟩:ByteArray),false)) r→Ev (fun k=>jb.l0 k t (i:Int) (strOfNums acc) (q:Int)) r:=by
   intro r h
   refine Ev.step (fun k=>by rw [jb.l0]) ?_
   rw [show rd (aa t (i:Int)).f4 (q:Int)=(n:Int) from hv,aO (x:=(q:Int)+1) (by omega) (by omega)]
   refine Ev.ae (by omega) (Ev.ae (by omega) (Ev.ae (show (q:Int) < ((aU t i).length:Int) by omega) (Ev.ae (by omega) (Ev.bind hef (Ev.ae (by rw [dW];show acc.length+v.size≤_;omega) h)))))
  cases ok with
  | false =>
   refine ⟨_,_,step (Ev.ai (by simp) (Ev.now _)),by decide,(fun h=>by cases h),?_⟩
   rintro ⟨j',bs,e,hf⟩
   cases e with
   | cons _ _ g gf gs=>have:=hB ⟨_,_,g,gf⟩;cases this
  | true =>
   obtain ⟨cs,g,gf,rfl⟩:=hA rfl
   rw [lZ,dA] at step
   by_cases hbig:(acc++fG t n (dw t n++cs)).length≤65535
   ·obtain ⟨v2,ok2,he2,KS,hA2,hB2⟩:=ih2 i (q+1) (acc++fG t n (dw t n++cs)) hi ho uG.symm (by omega) hbig
    refine ⟨v2,ok2,step (Ev.ae rfl (Ev.ai (by omega) he2)),KS,?_,?_⟩
    ·intro hok
     obtain ⟨rs,e,f,w⟩:=hA2 hok
     rw [List.append_assoc] at f w
     exact ⟨_,En.cons hkn fB g gf e,f,w⟩
    ·rintro ⟨j',bs,e,hf⟩
     cases e with
     | cons _ _ g' gf' gs =>
      obtain ⟨rfl,rfl⟩:=g.jP g'
      exact hB2 ⟨_,_,gs,by rw [List.append_assoc];exact hf⟩
   ·refine ⟨_,_,step (Ev.ae rfl (Ev.ae (by omega) (Ev.now _))),by decide,(fun h=>by cases h),?_⟩
    rintro ⟨j',bs,e,hf⟩
    cases e with
    | cons _ _ g' gf' gs =>
     obtain ⟨rfl,rfl⟩:=g.jP g'
     rw [← List.append_assoc] at hf
     have h3:=Nat.le_trans (Nat.le_of_lt (Tz t i _).1) hf
     rw [List.length_append] at h3
     omega
theorem En.le {t:List af} {ks:List Int} {n j:Nat} {bs:List Int} (e:En t ks n j bs):n≤j∧(n≤t.length→j≤t.length):=by
 induction e with
 | nil n=>exact ⟨Nat.le_refl _,id⟩
 | cons hk hn c hf r ih1 ih2=>exact ⟨by omega,fun _=>ih2.2 (ih1.2 (by omega))⟩
theorem En.bd {t:List af} {ks:List Int} {n j:Nat} {bs:List Int} (e:En t ks n j bs):bs.length+65535*n≤65535*j∧bs.length≤65535*ks.length:=by
 induction e with
 | nil n=>simp
 | cons hk hn c hf r ih1 ih2 =>
  have:=c.le
  rw [List.length_append,List.length_cons]
  omega
def ET (t:List af) (i:Nat):Prop:=∃ m cs,En t (aU t i) (i+1) m cs∧(fG t i (dw t i++cs)).length≤65535
theorem Ch.cover {ob:af→Bool} {t:List af} {ks:List Int} {n j h:Nat} (c:Ch ob t ks n j h):∀ i,n≤i→i < j→ob (aa t (i:Int))=true∧∃ m h',Ch ob t (aU t i) (i+1) m h'∧m≤j∧h' < h:=by
 induction c with
 | nil n=>intro i h1 h2;omega
 | @cons k ks n m j h1 h2 hk hn ho c1 c2 ih1 ih2 =>
  intro i hi hj
  have l2:=c2.le
  by_cases e:i=n
  ·subst e
   exact ⟨ho,m,h1,c1,by omega,by omega⟩
  by_cases e2:i < m
  ·obtain ⟨a,m',h',c',hm,hh⟩:=ih1 i (by omega) e2
   exact ⟨a,m',h',c',by omega,by omega⟩
  ·obtain ⟨a,m',h',c',hm,hh⟩:=ih2 i (by omega) hj
   exact ⟨a,m',h',c',by omega,by omega⟩
theorem En.cover {t:List af} {ks:List Int} {n j:Nat} {bs:List Int} (e:En t ks n j bs):∀ i,n≤i→i < j→ET t i:=by
 induction e with
 | nil n=>intro i h1 h2;omega
 | @cons k ks n m j cs rs hk hn c hf r ih1 ih2 =>
  intro i hi hj
  by_cases e:i=n
  ·subst e
   exact ⟨_,_,c,hf⟩
  by_cases e2:i < m
  ·exact ih1 i (by omega) e2
  ·exact ih2 i (by omega) hj
theorem Ch.en {ob:af→Bool} {t:List af} {ks:List Int} {n j h:Nat} (c:Ch ob t ks n j h):(∀ i,n≤i→i < t.length→ET t i)→∃ bs,En t ks n j bs:=by
 induction c with
 | nil n=>intro _;exact ⟨[],En.nil n⟩
 | @cons k ks n m j h1 h2 hk hn ho c1 c2 ih1 ih2 =>
  intro hf
  have l1:=c1.le
  obtain ⟨m',cs,e,hfit⟩:=hf n (Nat.le_refl _) hn
  obtain rfl:=En.pos c1 e
  obtain ⟨rs,er⟩:=ih2 (fun i hi hN=>hf i (by omega) hN)
  exact ⟨_,En.cons hk hn e hfit er⟩
def o9 (t:List af) (n:Nat) (c:Nat):Nat:=(cB (aa t (n:Int)).f0 (aa t (n:Int)).f1 (aa t (n:Int)).f2++dh (c:Int)).length
theorem Hl (t:List af) (n:Nat) (cs:List Int):(fG t n cs).length=o9 t n cs.length+cs.length:=by unfold fG o9;rw [List.length_append]
def Good (t:List af) (x:List (Nat × Nat)) (d:Nat):Prop:=x.length=t.length∧∀ p,d≤p→p < t.length→∃ m cs,En t (aU t p) (p+1) m cs∧(fG t p (dw t p++cs)).length≤65535∧gI ((0,0):Nat × Nat) x (p:Int)=(fl (o9 t p (dw t p++cs).length),fl (dw t p++cs).length)
theorem abZ (t:List af) (hN:t.length≤1000) (x:List (Nat × Nat)) {ks:List Int} {n j:Nat} {bs:List Int} (e:En t ks n j bs):∀ (i q s:Nat),Good t x n→(aU t i).length≤100000→(aU t i).drop q=ks→q≤(aU t i).length→s≤65535*q+65535 →
 ∀ r,Ev (fun k=>gP.l1 k t x (i:Int) ((s+bs.length:Nat):Int) (aU t i) ((aU t i).length:Int) ((aU t i).length:Int)) r→Ev (fun k=>gP.l1 k t x (i:Int) (s:Int) (aU t i) ((aU t i).length:Int) (q:Int)) r:=by
 induction e with
 | nil n =>
  intro i q s hg hki hq oZ hs r h
  have hqe:(aU t i).length=q:=by
   have:=congrArg List.length hq
   simp at this
   omega
  rw [← hqe]
  exact h
 | @cons k ks n m j cs rs hkn fB c hf er ih1 ih2 =>
  intro i q s hg hki hq oZ hs r h
  have hq2:q < (aU t i).length:=by
   have:=congrArg List.length hq
   simp at this
   omega
  have hdrop:=List.drop_eq_getElem_cons hq2
  rw [hq] at hdrop
  obtain ⟨hk0,uG⟩:=List.cons.inj hdrop
  have hv:rd (aU t i) (q:Int)=(n:Int):=by rw [jZ q hq2,← hk0,hkn]
  have lc:=c.le
  obtain ⟨m',cs',e',hf',hx⟩:=hg.2 n (Nat.le_refl _) fB
  obtain ⟨rfl,rfl⟩:=c.jP e'
  have hnl:=Hl t n (dw t n++cs)
  have hxl:=hg.1
  refine Ev.step (fun k=>by rw [gP.l1]) ?_
  rw [hv,hx]
  dsimp only
  rw [Ig (by omega),BL (by omega),IL (by omega),BK (by omega),aO (x:=(q:Int)+1) (by omega) (by omega),aO (by omega) (by omega)]
  refine Ev.ae (by omega) (Ev.ae (by omega) (Ev.ae (by omega) (Ev.ae (by omega) (Ev.ae (by omega) (Ev.ae rfl (Ev.ae rfl ?_))))))
  have:=ih2 i (q+1) (s+(o9 t n (dw t n++cs).length+(dw t n++cs).length)) ⟨hg.1,fun p hp=>hg.2 p (by omega)⟩ hki uG.symm (by omega) (by omega) r (by
   rw [List.length_append,hnl] at h
   rw [Nat.add_assoc]
   exact h)
  exact this
theorem ab0 (ob:af→Bool) (hin:xk ob) (t:List af) (hN:t.length≤1000) (hsz:∀ n,n < t.length→(aa t (n:Int)).f3.size≤2000) (hk:∀ n,n < t.length→(aU t n).length≤100000)
 (EU:∀ i,i < t.length→ob (aa t (i:Int))=true∧∃ m h',Ch ob t (aU t i) (i+1) m h'):∀ (d:Nat) (x:List (Nat × Nat)),d≤t.length→Good t x d →
 ∃ y b,Ev (fun k=>gP.l0 k t x ((d:Int) - 1)) (y,b)∧((b=true∧Good t y 0)∨(b=false∧∃ i,i < t.length∧¬ ET t i)):=by
 intro d
 induction d with
 | zero =>
  intro x hd hg
  refine ⟨x,true,?_,Or.inl ⟨rfl,hg⟩⟩
  refine Ev.step (fun k=>by rw [gP.l0]) ?_
  exact Ev.ai (by omega) (Ev.now _)
 | succ d ih =>
  intro x hd hg
  have hdN:d < t.length:=by omega
  obtain ⟨ho,m,h',c⟩:=EU d hdN
  obtain ⟨bs,e⟩:=c.en (fun i hi xh=>by
   obtain ⟨m,cs,e,hf,_⟩:=hg.2 i hi xh
   exact ⟨m,cs,e,hf⟩)
  obtain ⟨r1,r2,r3,r4⟩:=hin _ (hsz d hdN) ho
  have hbl:(aa t (d:Int)).f3.size=(dw t d).length:=by
   unfold dw
   conv=>lhs;rw [← pg (aa t (d:Int)).f3,dW]
  have hbd:=e.bd
  have hkd:=hk d hdN
  have ak8:=hsz d hdN
  have hxl:=hg.1
  have hsum:(dw t d).length+bs.length=(dw t d++bs).length:=by rw [List.length_append]
  have go:∀ {r:List (Nat × Nat) × Bool},Ev (fun k=>gP.l1 k t x (d:Int) (((dw t d++bs).length:Nat):Int) (aU t d) ((aU t d).length:Int) ((aU t d).length:Int)) r→Ev (fun k=>gP.l0 k t x (((d+1:Nat):Int) - 1)) r:=by
   intro r h
   refine Ev.step (fun k=>by rw [gP.l0]) ?_
   rw [show ((d+1:Nat):Int) - 1=(d:Int) by omega,hbl]
   refine Ev.ae (by omega) (Ev.ae (by omega) (Ev.ae (by omega) ?_))
   refine abZ t hN x e d 0 (dw t d).length hg hkd rfl (by omega) (by omega) r ?_
   rw [hsum]
   exact h
  have hh:=UL _ _ (aa t (d:Int)).f2 ((dw t d++bs).length:Int) r1 r2 r3 r4 (by omega)
  have hsize:Ev (fun k=>sW.f k (aa t (d:Int)).f0 (aa t (d:Int)).f1 (aa t (d:Int)).f2 ((dw t d++bs).length:Int)) (if ((dw t d++bs).length:Int)≤65535 then (o9 t d (dw t d++bs).length:Int) else 0):=by
   refine Ev.congr (fun k=>by rw [sW.f]) ?_
   refine Ev.bind hh ((Ev.now _).eq ?_)
   split
   ·rw [dA]
    rfl
   ·rfl
  have hnl:=Hl t d (dw t d++bs)
  have hno:¬ (fG t d (dw t d++bs)).length≤65535→∃ i,i < t.length∧¬ ET t i:=by
   intro hb
   refine ⟨d,hdN,?_⟩
   rintro ⟨m',cs,e',hf⟩
   obtain ⟨rfl,rfl⟩:=e.jP e'
   exact hb hf
  have h1:=Hf (aa t (d:Int)).f0 (aa t (d:Int)).f1 (aa t (d:Int)).f2
  have h2:=Hg ((dw t d++bs).length:Int)
  have hhd:0 < o9 t d (dw t d++bs).length∧o9 t d (dw t d++bs).length≤7:=by unfold o9;rw [List.length_append];omega
  by_cases g:((dw t d++bs).length:Int)≤65535
  case neg =>
   rw [if_neg g] at hsize
   refine ⟨[],false,go ?_,Or.inr ⟨rfl,hno (by omega)⟩⟩
   refine Ev.step (fun k=>by rw [gP.l1]) ?_
   exact Ev.ai (by omega) (Ev.ae (by omega) (Ev.ae (by omega) (Ev.bind hsize (Ev.ae rfl (Ev.now _)))))
  rw [if_pos g] at hsize
  by_cases g2:(fG t d (dw t d++bs)).length≤65535
  case neg =>
   refine ⟨[],false,go ?_,Or.inr ⟨rfl,hno g2⟩⟩
   refine Ev.step (fun k=>by rw [gP.l1]) ?_
   refine Ev.ai (by omega) (Ev.ae (by omega) (Ev.ae (by omega) (Ev.bind hsize (Ev.ai (by omega) ?_))))
   rw [aO (by omega) (by omega)]
   exact Ev.ae (by omega) (Ev.now _)
  obtain ⟨y,b,hy,hc⟩:=ih (x.set d (fl (o9 t d (dw t d++bs).length),fl (dw t d++bs).length)) (by omega) (by
   refine ⟨by rw [List.length_set];exact hxl,fun p hp hpN=>?_⟩
   by_cases e0:p=d
   ·subst e0
    refine ⟨m,bs,e,g2,?_⟩
    rw [Bz _ p (by rw [List.length_set];omega),List.getElem_set_self]
   ·obtain ⟨m',cs,e',hf,hx⟩:=hg.2 p (by omega) hpN
    refine ⟨m',cs,e',hf,?_⟩
    rw [← hx,Bz _ p (by rw [List.length_set];omega),Bz _ p (by omega),List.getElem_set_ne (by omega)])
  refine ⟨y,b,go ?_,hc⟩
  refine Ev.step (fun k=>by rw [gP.l1]) ?_
  refine Ev.ai (by omega) (Ev.ae (by omega) (Ev.ae (by omega) (Ev.bind hsize (Ev.ai (by omega) ?_))))
  rw [aO (x:=(o9 t d (dw t d++bs).length:Int)+_) (by omega) (by omega),aO (x:=(d:Int) - 1) (by omega) (by omega),Ws (by omega),Ws (by omega),Int.toNat_natCast,Int.toNat_natCast,Int.toNat_natCast]
  exact Ev.ai (by omega) (Ev.ae (by omega) hy)
theorem ac5 {b:Int} (b0:0≤b) (b1:b≤2097151):aH (fJ b):=by
 unfold fJ
 split
 ·exact aH.one b0 (by omega)
 ·split
  ·exact aH.cons (by omega) (by omega) (aH.one (by omega) (by omega))
  ·exact aH.cons (by omega) (by omega) (aH.cons (by omega) (by omega) (aH.one (by omega) (by omega)))
theorem Vv {a b:Int} {c:Bool} (a0:0≤a) (a1:a≤3) (b0:0≤b) (b1:b≤2097151):aH (cB a b c):=by
 have h:0≤(if c then (32:Int) else 0)∧(if c then (32:Int) else 0)≤32:=by split<;>omega
 unfold cB
 split
 ·exact aH.one (by omega) (by omega)
 ·exact aH.cons (by omega) (by omega) (ac5 b0 b1)
theorem U2 {n:Int} (h0:0≤n) (h1:n≤65535):aH (dh n):=by
 unfold dh
 split
 ·exact aH.one h0 (by omega)
 ·split
  ·exact aH.cons (by omega) (by omega) (aH.one h0 (by omega))
  ·exact aH.cons (by omega) (by omega) (aH.cons (by omega) (by omega) (aH.one (by omega) (by omega)))
theorem aau (ob:af→Bool) (hin:xk ob) (t:List af) (hN:t.length≤1000) (hsz:∀ n,n < t.length→(aa t (n:Int)).f3.size≤2000) (hall:∀ i,i < t.length→ob (aa t (i:Int))=true) (x:List (Nat × Nat)) (hg:Good t x 0) {ks:List Int} {n j:Nat} {bs:List Int} (e:En t ks n j bs) :
 ∀ (acc:List Int),acc.length≤65535*n→n≤t.length→∀ r,Ev (fun k=>ic.l0 k x (acc++bs) t (t.length:Int) (j:Int)) r→Ev (fun k=>ic.l0 k x acc t (t.length:Int) (n:Int)) r:=by
 induction e with
 | nil n=>intro acc _ _ r h;rw [List.append_nil] at h;exact h
 | @cons k ks n m j cs rs hkn fB c hf er ih1 ih2 =>
  intro acc ha hn r h
  obtain ⟨m',cs',e',hf',hx⟩:=hg.2 n (Nat.zero_le _) fB
  obtain ⟨rfl,rfl⟩:=c.jP e'
  obtain ⟨r1,r2,r3,r4⟩:=hin _ (hsz n fB) (hall n fB)
  have hnl:=Hl t n (dw t n++cs)
  have hxl:=hg.1
  have hbd:=c.bd
  have lc:=c.le
  have hh:=UL _ _ (aa t (n:Int)).f2 ((dw t n++cs).length:Int) r1 r2 r3 r4 (by omega)
  rw [if_pos (by omega)] at hh
  have hbl:(aa t (n:Int)).f3.size=(dw t n).length:=by
   unfold dw
   conv=>lhs;rw [← pg (aa t (n:Int)).f3,dW]
  have hok:=qR (aH.append (Vv (c:=(aa t (n:Int)).f2) r1 r2 r3 r4) (U2 (n:=((dw t n++cs).length:Int)) (by omega) (by omega)))
  have hls:(dw t n++cs).length=(dw t n).length+cs.length:=List.length_append
  have hdd:(cB (aa t (n:Int)).f0 (aa t (n:Int)).f1 (aa t (n:Int)).f2++dh ((dw t n++cs).length:Int)).length=o9 t n (dw t n++cs).length:=rfl
  refine Ev.step (fun k=>by rw [ic.l0]) ?_
  rw [hx]
  dsimp only
  rw [BK (by omega),BL (by omega),aO (x:=(n:Int)+1) (by omega) (by omega)]
  refine Ev.ae (by omega) (Ev.ae (by omega) (Ev.ae (by omega) (Ev.ae (by omega) (Ev.ae rfl (Ev.bind hh (Ev.ae (by rw [dW,hdd];omega) (Ev.eB rfl ?_)))))))
  rw [hok]
  refine Ev.ae (by rw [List.length_append,hdd,hbl];omega) ?_
  refine ih1 (acc++(cB (aa t (n:Int)).f0 (aa t (n:Int)).f1 (aa t (n:Int)).f2++dh ((dw t n++cs).length:Int))++dw t n) (by rw [List.length_append,List.length_append,hdd];omega) (by omega) r ?_
  refine ih2 _ (by rw [List.length_append,List.length_append,List.length_append,hdd];omega) (lc.2 (by omega)) r ?_
  unfold fG at h
  simp only [List.append_assoc] at h ⊢
  exact h
theorem Uq (ob:af→Bool) (hin:xk ob) (t:List af) (hsz:∀ n,n < t.length→(aa t (n:Int)).f3.size≤2000) (hk:∀ n,n < t.length→(aU t n).length≤100000) (EU:∀ i,i < t.length→ob (aa t (i:Int))=true∧∃ m h',Ch ob t (aU t i) (i+1) m h')
 (H:Nat) (hR:RT ob t H) (hr1:Ev (fun k=>lH.f k t) true) (hr2:Ev (fun k=>ja.f k t) true):∃ e:ByteArray × Int,Ev (fun k=>ic.f k t) e∧Ev (fun k=>nJ.f k t) e∧(∀ cs,En t (aU t 0) 1 t.length cs→(fG t 0 (dw t 0++cs)).length≤65535→e=(strOfNums (fG t 0 (dw t 0++cs)),0))∧(e.2=0→∃ cs,En t (aU t 0) 1 t.length cs∧(fG t 0 (dw t 0++cs)).length≤65535∧e=(strOfNums (fG t 0 (dw t 0++cs)),0)):=by
 have hN:=hR.2.1
 have h0:=hR.1
 have hbl:(dw t 0).length≤65535:=by
  have:=hsz 0 h0
  rw [← pg (aa t ((0:Nat):Int)).f3,dW] at this
  show (bytesOf (aa t ((0:Nat):Int)).f3).length≤65535
  omega
 obtain ⟨v,ok,hv,_,hA,hB⟩:=Zr ob hin t hN hsz hk hR.2.2.2.1 0 0 (dw t 0) h0 hR.2.2.1 rfl (by omega) hbl
 have YL:Ev (fun k=>jb.f k t 0) (v,ok):=by
  refine Ev.step (fun k=>by rw [jb.f]) ?_
  refine Ev.ae (by omega) (Ev.ae (by omega) ?_)
  unfold dw at hv
  rw [pg] at hv
  exact hv
 obtain ⟨y,b,hy,hc⟩:=ab0 ob hin t hN hsz hk EU t.length (List.replicate t.length ((0,0):Nat × Nat)) (Nat.le_refl _) ⟨by simp,fun p h1 h2=>by omega⟩
 have hs:Ev (fun k=>gP.f k t) (y,b):=by
  refine Ev.congr (fun k=>by rw [gP.f]) ?_
  rw [aO (by omega) (by omega),Int.toNat_natCast]
  exact Ev.ae (by omega) (Ev.ae (by omega) hy)
 have root:∀ bs,En t (aU t 0) 1 t.length bs→(fG t 0 (dw t 0++bs)).length≤65535→En t [(0:Int)] 0 t.length (fG t 0 (dw t 0++bs)++[]):=fun bs e f=>En.cons rfl h0 e f (En.nil _)
 rcases hc with ⟨rfl,hg⟩ | ⟨rfl,i,hi,hnf⟩
 ·obtain ⟨m,cs,e,hf,_⟩:=hg.2 0 (Nat.le_refl _) h0
  obtain rfl:=En.pos hR.2.2.2.1 e
  obtain rfl:=hB ⟨_,cs,e,hf⟩
  obtain ⟨cs',e',_,rfl⟩:=hA rfl
  obtain ⟨_,rfl⟩:=e.jP e'
  refine ⟨(strOfNums (fG t 0 (dw t 0++cs)),0),?_,?_,fun cs2 e2 _=>(by obtain ⟨_,rfl⟩:=e.jP e2;rfl),fun _=>⟨cs,e,hf,rfl⟩⟩
  ·refine Ev.congr (fun k=>by rw [ic.f]) ?_
   refine Ev.bind hr1 (Ev.ae rfl (Ev.bind hs (Ev.ae rfl ?_)))
   refine aau ob hin t hN hsz (fun i hi=>(EU i hi).1) y hg (root cs e hf) [] (by simp) (by omega) _ ?_
   refine Ev.step (fun k=>by rw [ic.l0]) ?_
   rw [List.nil_append,List.append_nil]
   exact Ev.ai (by omega) (Ev.now _)
  ·refine Ev.congr (fun k=>by rw [nJ.f]) ?_
   exact Ev.bind hr2 (Ev.ae rfl (Ev.bind YL (Ev.ae rfl (Ev.now _))))
 ·have hok:ok=false:=by
   cases ok with
   | false=>rfl
   | true =>
    obtain ⟨bs,e,f,_⟩:=hA rfl
    exact absurd ((root bs e f).cover i (Nat.zero_le _) hi) hnf
  subst hok
  refine ⟨(⟨#[]⟩,4),?_,?_,fun cs2 e2 f2=>absurd ((root cs2 e2 f2).cover i (Nat.zero_le _) hi) hnf,fun h=>absurd h (by decide)⟩
  ·refine Ev.congr (fun k=>by rw [ic.f]) ?_
   exact Ev.bind hr1 (Ev.ae rfl (Ev.bind hs (Ev.ai (by simp) (Ev.now _))))
  ·refine Ev.congr (fun k=>by rw [nJ.f]) ?_
   exact Ev.bind hr2 (Ev.ae rfl (Ev.bind YL (Ev.ai (by simp) (Ev.now _))))
theorem Ch.hle {ob:af→Bool} {t:List af} {ks:List Int} {n j h:Nat} (c:Ch ob t ks n j h):h+n≤j:=by
 induction c with
 | nil n=>omega
 | cons hk hn ho c1 c2 ih1 ih2=>omega
theorem Zt (t:List af) (hN:t.length≤1000) (hk:∀ n,n < t.length→(aU t n).length≤100000) (i j:Nat) (hj:j≤t.length):∀ (d n:Nat) (acc:List af),j - n=d→i≤n→n≤j→acc.length≤n→Ev (fun k=>jl.l0 k t (i:Int) acc (j:Int) (n:Int)) (acc++((t.take j).drop n).map (lY (wrap64 (-(i:Int))))):=by
 intro d
 induction d with
 | zero =>
  intro n acc hd hi hn ha
  refine Ev.step (fun k=>by rw [jl.l0]) ?_
  rw [List.drop_eq_nil_of_le (by simp;omega),List.map_nil,List.append_nil]
  exact Ev.ai (by omega) (Ev.now _)
 | succ d ih =>
  intro n acc hd hi hn ha
  have fB:n < t.length:=by omega
  have hlt:n < (t.take j).length:=by simp;omega
  have hkn:=hk n fB
  have hm:=RZ (wrap64 (-(i:Int))) (aa t (n:Int)).f4 hkn
  refine Ev.step (fun k=>by rw [jl.l0]) ?_
  rw [aO (x:=(n:Int)+1) (by omega) (by omega)]
  refine Ev.ae (by omega) (Ev.ae (by omega) (Ev.ae (by omega) (Ev.bind hm (Ev.ae (by omega) ?_))))
  have:=ih (n+1) (acc++[lY (wrap64 (-(i:Int))) (aa t (n:Int))]) (by omega) (by omega) (by omega) (by simp;omega)
  rw [List.append_assoc,List.singleton_append] at this
  rw [List.drop_eq_getElem_cons hlt,List.map_cons,List.getElem_take,← tK t n fB]
  exact this
def FW (t:List Nd) (n:Nat) (f:Fo):Prop:=(t.drop n).take f.size=f.flat n
theorem oD {t:List Nd} {n:Nat} {a b:Int} {c:Bool} {d:List Int} {ks r:Fo}:FW t n (.cons a b c d ks r)↔∃ h:n < t.length,t[n]=nd a b c (strOfNums d) (ks.roots (n+1))∧FW t (n+1) ks∧FW t (n+1+ks.size) r:=by
 have e:(t.drop n).take (1+ks.size+r.size)=(t.drop n).take 1++((t.drop (n+1)).take ks.size++(t.drop (n+1+ks.size)).take r.size):=by
  rw [Nat.add_assoc,List.take_add,List.drop_drop,List.take_add,List.drop_drop]
 constructor
 ·intro h
  unfold FW at h
  rw [Fo.size,e,Fo.flat] at h
  have hn:n < t.length:=by
   rcases Nat.lt_or_ge n t.length with hn | hn
   ·exact hn
   ·rw [List.drop_eq_nil_of_le hn,List.drop_eq_nil_of_le (by omega),List.drop_eq_nil_of_le (by omega)] at h
    simp at h
  rw [List.drop_eq_getElem_cons hn] at h
  simp only [List.take_succ_cons,List.take_zero,List.singleton_append,List.cons.injEq] at h
  obtain ⟨h1,h2⟩:=h
  have hl:=congrArg List.length h2
  rw [List.length_append,List.length_append,Fo.fD,Fo.fD] at hl
  have l1:((t.drop (n+1)).take ks.size).length≤ks.size:=by rw [List.length_take];omega
  have l2:((t.drop (n+1+ks.size)).take r.size).length≤r.size:=by rw [List.length_take];omega
  obtain ⟨h3,h4⟩:=List.append_inj h2 (by rw [Fo.fD];omega)
  exact ⟨hn,h1,h3,h4⟩
 ·rintro ⟨hn,h1,h2,h3⟩
  unfold FW at h2 h3 ⊢
  rw [Fo.size,e,h2,h3,List.drop_eq_getElem_cons hn,h1]
  rfl
theorem KL {t:List Nd} {n:Nat} {f:Fo} (h:FW t n f) (hn:n≤t.length):n+f.size≤t.length:=by
 have hl:=congrArg List.length h
 rw [Fo.fD,List.length_take,List.length_drop] at hl
 omega
theorem BR (f:Fo):FW (f.flat 0) 0 f:=by
 unfold FW
 rw [List.drop_zero,← Fo.fD f 0,List.take_length]
def Fo.jy:Fo→Nat
 | .nil=>0
 | .cons _ _ _ _ ks r=>max (ks.jy+1) r.jy
theorem Fo.Ok.deep:∀ {f:Fo} {dep:Nat},f.Ok dep→dep≤16→dep+f.jy≤16
 | .nil,dep,_,h=>h
 | .cons a b c d ks r,dep,⟨_,_,o2,_,_,_,_,o7,o8⟩,h=>by
  have h1:=o7.deep (by omega)
  have h2:=o8.deep h
  rw [Fo.jy]
  omega
theorem oz {t:List Nd} {n:Nat} (h:n < t.length):aU t n=t[n].f4:=by unfold aU;rw [jw t n h]
theorem IY {t:List Nd} {n:Nat} (h:n < t.length):dw t n=bytesOf t[n].f3:=by unfold dw;rw [jw t n h]
theorem Hm {t:List Nd} {n:Nat} (h:n < t.length) (cs:List Int):fG t n cs=cB t[n].f0 t[n].f1 t[n].f2++dh (cs.length:Int)++cs:=by unfold fG;rw [jw t n h]
theorem Df (t:List Nd):∀ (f:Fo) (n dep:Nat),FW t n f→f.Ok dep→f.enc.length≤65535→En t (f.roots n) n (n+f.size) f.enc
 | .nil,n,dep,_,_,_=>.nil n
 | .cons a b c d ks r,n,dep,h,ho,hl=>by
  obtain ⟨hn,h1,h2,h3⟩:=oD.1 h
  obtain ⟨_,_,_,_,o5,_,_,o7,o8⟩:=ho
  rw [Fo.jv] at hl
  have hk:(d++ks.enc).length=d.length+ks.enc.length:=List.length_append
  have i1:=Df t ks (n+1) _ h2 o7 (by omega)
  have i2:=Df t r (n+1+ks.size) _ h3 o8 (by omega)
  have e1:fG t n (dw t n++ks.enc)=cB a b c++dh ((d++ks.enc).length:Int)++(d++ks.enc):=by
   rw [Hm hn,IY hn,h1]
   show cB a b c++dh ((bytesOf (strOfNums d)++ks.enc).length:Int)++(bytesOf (strOfNums d)++ks.enc)=_
   rw [qR o5]
  have:=En.cons (t:=t) (k:=(n:Int)) rfl hn (by rw [oz hn,h1];exact i1) (by rw [e1,List.length_append];show Fo.hd a b c d ks+_≤_;omega) i2
  rw [e1] at this
  rw [Fo.size,show n+(1+ks.size+r.size)=n+1+ks.size+r.size by omega]
  exact this
theorem ab1 (a b:Int) (c:Bool) (d:ByteArray) (e:List Int) (hb:0≤a∧a≤3∧0≤b∧b≤2097151) (hc:c=true→d.toList=[]) (he:c=false→e=[]) (hm:a=0→(c=true→b=16∨b=17)∧(c=false→Ev (fun k=>jV.f k b d) true)):Ev (fun k=>iD.f k a b c d e) true:=by
 refine Ev.congr (fun k=>by rw [iD.f]) ?_
 refine Ev.ai (by rw [IW];omega) (Ev.ai (by omega) ?_)
 rw [decide_eq_false (by omega)]
 refine Ev.step (fun k=>by rw [iD.j0]) ?_
 refine Ev.ai (by simp) ?_
 cases c with
 | true =>
  refine Ev.ae rfl (Ev.ae (hc rfl) ?_)
  by_cases h0:a=0
  ·refine Ev.ae h0 ?_
   rcases (hm h0).1 rfl with h | h
   ·exact Ev.ae h (Ev.now _)
   ·refine Ev.ai (by omega) ((Ev.now _).eq ?_)
    rw [h];rfl
  ·exact Ev.ai h0 (Ev.now _)
 | false =>
  refine Ev.ai (by simp) (Ev.ae (by rw [he rfl];rfl) ?_)
  by_cases h0:a=0
  ·exact Ev.ae h0 (Ev.bind ((hm h0).2 rfl) (Ev.now _))
  ·exact Ev.ai h0 (Ev.now _)
theorem zg (ob:Nd→Bool) (hone:∀ x,rM x (ob x)) {a b:Int} {c:Bool} {d:List Int} {ks r:Fo} {dep m:Nat} (ho:(Fo.cons a b c d ks r).Ok dep) (hs:d.length≤2000):ob (nd a b c (strOfNums d) (ks.roots m))=true:=by
 obtain ⟨hb,_,_,o4,o5,o6,o7,_⟩:=ho
 have h1:=(hone (nd a b c (strOfNums d) (ks.roots m)) (by show (strOfNums d).size≤2000;rw [dW];exact hs)).1
 exact Ev.jP h1 (ab1 a b c (strOfNums d) (ks.roots m) hb (fun h=>by rw [o6 h,iP]) (fun h=>by rw [o7 h];rfl) (fun h=>⟨(o4 h).1,fun h2=>((o4 h).2 h2).1⟩))
def Fo.Small:Fo→Nat→Prop
 | .nil,_=>True
 | .cons _ _ _ d ks r,m=>d.length≤m∧ks.Small m∧r.Small m
theorem Fo.oC:∀ (f:Fo) (m:Nat),f.enc.length≤m→f.Small m
 | .nil,_,_=>trivial
 | .cons a b c d ks r,m,h=>by
  rw [Fo.jv] at h
  have hk:(d++ks.enc).length=d.length+ks.enc.length:=List.length_append
  exact ⟨by omega,Fo.oC ks m (by omega),Fo.oC r m (by omega)⟩
theorem uq (ob:Nd→Bool) (hone:∀ x,rM x (ob x)) (t:List Nd):∀ (f:Fo) (n dep:Nat),FW t n f→f.Ok dep→f.Small 2000→Ch ob t (f.roots n) n (n+f.size) f.jy
 | .nil,n,dep,_,_,_=>.nil n
 | .cons a b c d ks r,n,dep,h,ho,hs=>by
  obtain ⟨hn,h1,h2,h3⟩:=oD.1 h
  have bT:=zg ob hone (m:=n+1) ho hs.1
  obtain ⟨_,_,_,_,o5,_,_,o7,o8⟩:=ho
  have i1:=uq ob hone t ks (n+1) _ h2 o7 hs.2.1
  have i2:=uq ob hone t r (n+1+ks.size) _ h3 o8 hs.2.2
  have:=Ch.cons (ob:=ob) (t:=t) (k:=(n:Int)) rfl hn (by rw [jw t n hn,h1];exact bT) (by rw [oz hn,h1];exact i1) i2
  rw [Fo.size,show n+(1+ks.size+r.size)=n+1+ks.size+r.size by omega]
  exact this
theorem afO (ob:Nd→Bool) (hone:∀ x,rM x (ob x)) (t:List Nd) (hsz:∀ n,n < t.length→(aa t (n:Int)).f3.size≤2000) {ks:List Int} {n j h:Nat} (c:Ch ob t ks n j h):∀ {bs:List Int} {j':Nat},En t ks n j' bs→∀ dep,dep+h≤16→∃ f:Fo,f.roots n=ks∧n+f.size=j∧FW t n f∧f.enc=bs∧f.Ok dep:=by
 induction c with
 | nil n =>
  intro bs j' e dep hd
  cases e
  exact ⟨.nil,rfl,rfl,rfl,rfl,trivial⟩
 | @cons k ks n m j h1 h2 hk hn ho c1 c2 ih1 ih2 =>
  intro bs j' e dep hd
  cases e with
  | @cons _ _ _ m' _ cs rs _ _ e1 hf e2 =>
   obtain rfl:=En.pos c1 e1
   obtain ⟨f,f1,f2,f3,f4,f5⟩:=ih1 e1 (dep+1) (by omega)
   obtain ⟨r,r1,r2,r3,r4,r5⟩:=ih2 e2 dep (by omega)
   obtain ⟨q1,q2,q3,q4⟩:=((hone _ (hsz n hn)).2.2 ho)
   rw [jw t n hn] at q1 q2 q3 q4
   rw [oz hn] at f1
   have e0:fG t n (dw t n++cs)=cB t[n].f0 t[n].f1 t[n].f2++dh ((bytesOf t[n].f3++f.enc).length:Int)++(bytesOf t[n].f3++f.enc):=by rw [Hm hn,IY hn,f4]
   have hfl:=hf
   rw [e0,List.length_append] at hfl
   subst f2
   refine ⟨.cons t[n].f0 t[n].f1 t[n].f2 (bytesOf t[n].f3) f r,by rw [Fo.roots,r1,hk],by rw [Fo.size];omega,?_,by rw [Fo.enc,e0,r4],q1,by omega,by omega,?_,SB _,?_,?_,f5,r5⟩
   ·rw [oD]
    exact ⟨hn,by rw [f1,pg];rfl,f3,r3⟩
   ·intro h0
    refine ⟨(q4 h0).1,fun hc=>?_⟩
    unfold Rt
    rw [pg]
    exact (q4 h0).2 hc
   ·intro hc
    have:=q2 hc
    rw [← pg t[n].f3,iP] at this
    exact this
   ·intro hc
    have hr:=f1
    rw [q3 hc] at hr
    cases f with
    | nil=>rfl
    | cons=>cases hr
theorem FZ (a b:Int) (c:Bool) (d:List Int) (ks:Fo) (ho:(Fo.cons a b c d ks .nil).Ok 0) (hz:(Fo.cons a b c d ks .nil).size≤1000) (hs:(Fo.cons a b c d ks .nil).Small 2000) (hl:(Fo.cons a b c d ks .nil).enc.length≤65535) :
 Ev (fun k=>lH.f k ((Fo.cons a b c d ks .nil).flat 0)) true∧Ev (fun k=>ja.f k ((Fo.cons a b c d ks .nil).flat 0)) true∧Ev (fun k=>Bg.f k ((Fo.cons a b c d ks .nil).flat 0)) ((ks.jy:Int)+1)∧ks.jy+1≤16 ∧
 Ev (fun k=>ic.f k ((Fo.cons a b c d ks .nil).flat 0)) (strOfNums (Fo.cons a b c d ks .nil).enc,0)∧Ev (fun k=>nJ.f k ((Fo.cons a b c d ks .nil).flat 0)) (strOfNums (Fo.cons a b c d ks .nil).enc,0):=by
 obtain ⟨ob,hone⟩:=Ir
 have hfw:=BR (Fo.cons a b c d ks .nil)
 have hlen:=Fo.fD (Fo.cons a b c d ks .nil) 0
 have hkk:=Fo.pz (Fo.cons a b c d ks .nil) 0
 have KM:=ho.deep (by omega)
 have hch:=uq ob hone _ _ 0 0 hfw ho hs
 have hen:=Df _ _ 0 0 hfw ho hl
 have bT:=zg ob hone (m:=1) ho hs.1
 have hsz1:(Fo.cons a b c d ks .nil).size=1+ks.size+0:=rfl
 have uH:(Fo.cons a b c d ks .nil).jy=max (ks.jy+1) 0:=rfl
 rw [Nat.zero_add] at hch hen
 have Yk:(Fo.cons a b c d ks .nil).enc=cB a b c++dh ((d++ks.enc).length:Int)++(d++ks.enc):=by rw [Fo.enc,Fo.enc,List.append_nil]
 obtain ⟨hn,g1,g2,_⟩:=oD.1 hfw
 have hd5:=ho.2.2.2.2.1
 generalize hT:(Fo.cons a b c d ks .nil).flat 0=t at *
 have hsz:∀ n,n < t.length→(aa t (n:Int)).f3.size≤2000:=by
  have key:∀ (f:Fo) (n:Nat),f.Small 2000→∀ x∈f.flat n,x.f3.size≤2000:=by
   intro f
   induction f with
   | nil=>intro n _ x hx;cases hx
   | cons a b c d ks r ih1 ih2 =>
    intro n hs x hx
    rw [Fo.flat] at hx
    rcases List.mem_cons.1 hx with rfl | hx
    ·show (strOfNums d).size≤2000;rw [dW];exact hs.1
    ·rcases List.mem_append.1 hx with hx | hx
     ·exact ih1 _ hs.2.1 x hx
     ·exact ih2 _ hs.2.2 x hx
  intro n hn
  rw [jw t n hn]
  exact key (Fo.cons a b c d ks .nil) 0 hs _ (by rw [hT];exact List.getElem_mem hn)
 have hk:∀ n,n < t.length→(aU t n).length≤100000:=fun n hn=>by
  rw [oz hn]
  have:=hkk _ (List.getElem_mem hn)
  omega
 have ajT:oW ob t:=fun n hn=>(hone _ (hsz n hn)).1
 have hin:xk ob:=fun x hx ho=>((hone x hx).2.2 ho).1
 have hks:aU t 0=ks.roots 1:=by rw [oz hn,g1];rfl
 have hc0:Ch ob t (aU t 0) 1 t.length ks.jy:=by
  rw [hks]
  have:=uq ob hone t ks 1 1 g2 ho.2.2.2.2.2.2.2.1 hs.2.1
  rw [hlen,hsz1]
  exact this
 have hR:RT ob t ks.jy:=⟨by omega,by omega,by rw [show (0:Int)=((0:Nat):Int) from rfl,jw t 0 hn,g1];exact bT,hc0,by omega⟩
 have hrd:=xq ob t hk ajT _ hR
 obtain ⟨b2,hb2,wU⟩:=Fy ob t hk (fun n hn=>(hone _ (hsz n hn)).2.1)
 have hb2':b2=true:=wU.2 ⟨_,hR⟩
 subst hb2'
 obtain ⟨e,he1,he2,YM,_⟩:=Uq ob hin t hsz hk (fun i hi=>by
  obtain ⟨x,m,h',c',_⟩:=hch.cover i (Nat.zero_le _) (by omega)
  exact ⟨x,m,h',c'⟩) _ hR hrd.1 hb2
 have hkl:(d++ks.enc).length=d.length+ks.enc.length:=List.length_append
 have ajU:En t (aU t 0) 1 t.length ks.enc:=by
  rw [hks]
  have hel:=Fo.jv a b c d ks .nil
  have:=Df t ks 1 1 g2 ho.2.2.2.2.2.2.2.1 (by omega)
  rw [hlen,hsz1]
  exact this
 have hnl:fG t 0 (dw t 0++ks.enc)=(Fo.cons a b c d ks .nil).enc:=by
  rw [Hm hn,IY hn,g1,Yk]
  show cB a b c++dh ((bytesOf (strOfNums d)++ks.enc).length:Int)++(bytesOf (strOfNums d)++ks.enc)=_
  rw [qR hd5]
 have he:=YM ks.enc ajU (by rw [hnl];exact hl)
 rw [hnl] at he
 subst he
 exact ⟨hrd.1,hb2,hrd.2,by omega,he1,he2⟩
theorem Fo.tQ:∀ (f:Fo) (dep:Nat),f.Ok dep→aH f.enc
 | .nil,_,_=>aH.nil
 | .cons a b c d ks r,dep,⟨⟨a0,a1,b0,b1⟩,o1,_,_,o5,_,_,o7,o8⟩=>by
  rw [Fo.enc]
  exact (((Vv a0 a1 b0 b1).append (U2 (by omega) (by omega))).append (o5.append (Fo.tQ ks _ o7))).append (Fo.tQ r _ o8)
theorem aav (ob:Nd→Bool) (hone:∀ x,rM x (ob x)) (t:List Nd) (hsz:∀ n,n < t.length→(aa t (n:Int)).f3.size≤2000) (H:Nat) (hR:RT ob t H) (cs:List Int) (e:En t (aU t 0) 1 t.length cs) (hf:(fG t 0 (dw t 0++cs)).length≤65535) :
 ∃ (a b:Int) (c:Bool) (d:List Int) (ks:Fo),t=(Fo.cons a b c d ks .nil).flat 0∧(Fo.cons a b c d ks .nil).size=t.length∧(Fo.cons a b c d ks .nil).enc=fG t 0 (dw t 0++cs)∧(Fo.cons a b c d ks .nil).Ok 0:=by
 have h0:=hR.1
 have c:=Ch.cons (ob:=ob) (t:=t) (k:=(0:Int)) (n:=0) rfl h0 hR.2.2.1 hR.2.2.2.1 (Ch.nil _)
 have e':=En.cons (t:=t) (k:=(0:Int)) (n:=0) rfl h0 e hf (En.nil _)
 obtain ⟨f,f1,f2,f3,f4,f5⟩:=afO ob hone t hsz c e' 0 (by have:=hR.2.2.2.2;omega)
 rw [List.append_nil] at f4
 have ht:t=f.flat 0:=by
  unfold FW at f3
  rw [List.drop_zero,show f.size=t.length by omega,List.take_length] at f3
  exact f3
 cases f with
 | nil=>cases f1
 | cons a b c d ks r =>
  rw [Fo.roots] at f1
  cases r with
  | nil=>exact ⟨a,b,c,d,ks,ht,by omega,f4,f5⟩
  | cons=>cases f1
def Fo.parts:Fo→List (List Nd)
 | .nil=>[]
 | .cons a b c d ks r=>(Fo.cons a b c d ks .nil).flat 0 :: r.parts
theorem Fo.Bq:∀ f:Fo,f.parts.length≤f.size
 | .nil=>Nat.le_refl _
 | .cons a b c d ks r=>by rw [Fo.parts,Fo.size,List.length_cons];have:=Fo.Bq r;omega
theorem Fo.xu (a b:Int) (c:Bool) (d:List Int) (ks:Fo) (n:Nat):(Fo.cons a b c d ks .nil).flat n=nd a b c (strOfNums d) (ks.roots (n+1)) :: ks.flat (n+1):=by
 rw [Fo.flat,Fo.flat,List.append_nil]
theorem Fo.Sc (n m:Nat) (iI:Int) (h:(n:Int)+iI=(m:Int)):∀ (f:Fo) (j:Nat),n+j+f.size≤1000000→m+j+f.size≤1000000→(f.roots (n+j)).map (fun y=>wrap64 (y+iI))=f.roots (m+j)
 | .nil,_,_,_=>rfl
 | .cons a b c d ks r,j,h1,h2=>by
  rw [Fo.size] at h1 h2
  rw [Fo.roots,Fo.roots,List.map_cons]
  have i:=Fo.Sc n m iI h r (j+1+ks.size) (by omega) (by omega)
  rw [show n+(j+1+ks.size)=n+j+1+ks.size by omega,show m+(j+1+ks.size)=m+j+1+ks.size by omega] at i
  rw [i,aO (by omega) (by omega)]
  congr 1
  omega
theorem Fo.xA (n m:Nat) (iI:Int) (h:(n:Int)+iI=(m:Int)):∀ (f:Fo) (j:Nat),n+j+f.size≤1000000→m+j+f.size≤1000000→(f.flat (n+j)).map (lY iI)=f.flat (m+j)
 | .nil,_,_,_=>rfl
 | .cons a b c d ks r,j,h1,h2=>by
  rw [Fo.size] at h1 h2
  rw [Fo.flat,Fo.flat,List.map_cons,List.map_append]
  have i0:=Fo.Sc n m iI h ks (j+1) (by omega) (by omega)
  have i1:=Fo.xA n m iI h ks (j+1) (by omega) (by omega)
  have i2:=Fo.xA n m iI h r (j+1+ks.size) (by omega) (by omega)
  rw [show n+(j+1)=n+j+1 by omega,show m+(j+1)=m+j+1 by omega] at i0 i1
  rw [show n+(j+1+ks.size)=n+j+1+ks.size by omega,show m+(j+1+ks.size)=m+j+1+ks.size by omega] at i2
  rw [i1,i2]
  congr 1
  show (⟨a,b,c,strOfNums d,((ks.roots (n+j+1)).map fun y=>wrap64 (y+iI))⟩:Nd)=⟨a,b,c,strOfNums d,ks.roots (m+j+1)⟩
  rw [i0]
theorem Ho {LL:List (List Nd)} {q:Nat} {a b:Int} {c:Bool} {d:List Int} {ks r:Fo} (h:LL.drop q=(Fo.cons a b c d ks r).parts):∃ hq:q < LL.length,LL[q]=(Fo.cons a b c d ks .nil).flat 0∧LL.drop (q+1)=r.parts:=by
 have hq:q < LL.length:=by
  rcases Nat.lt_or_ge q LL.length with g | g
  ·exact g
  ·rw [List.drop_eq_nil_of_le g,Fo.parts] at h;cases h
 rw [List.drop_eq_getElem_cons hq,Fo.parts] at h
 obtain ⟨h1,h2⟩:=List.cons.inj h
 exact ⟨hq,h1,h2⟩
theorem afP (a b:Int) (LL:List (List Nd)) (YN:LL.length≤1000):∀ (g:Fo) (q:Nat) (kd:List Int) (body:List Nd),LL.drop q=g.parts→q≤LL.length→kd.length+g.size≤1000→body.length+1+g.size≤1000 →
 Ev (fun k=>fu.l0 k (nd a b true ⟨#[]⟩ kd :: body) LL (LL.length:Int) (q:Int)) (nd a b true ⟨#[]⟩ (kd++g.roots (body.length+1)) :: (body++g.flat (body.length+1))):=by
 intro g
 induction g with
 | nil =>
  intro q kd body hq oZ _ _
  have:LL.length≤q:=by
   have:=congrArg List.length hq
   simp [Fo.parts] at this
   omega
  refine Ev.step (fun k=>by rw [fu.l0]) ?_
  rw [Fo.roots,Fo.flat,List.append_nil,List.append_nil]
  exact Ev.ai (by omega) (Ev.now _)
 | cons a' b' c' d' ks r _ ih =>
  intro q kd body hq oZ hkd hb
  obtain ⟨hlt,e1,e2⟩:=Ho hq
  rw [Fo.size] at hkd hb
  have hl1:(LL[q]).length=1+ks.size:=by rw [e1,Fo.fD];rfl
  have hkk:=Fo.pz (Fo.cons a' b' c' d' ks .nil) 0
  have hv:bC LL (q:Int)=LL[q]:=by unfold bC;simp [List.getD_eq_getElem?_getD,hlt]
  have hx7:((nd a b true ⟨#[]⟩ kd :: body).length:Int)=((body.length+1:Nat):Int):=by simp
  have hr0:aa (nd a b true ⟨#[]⟩ kd :: body) 0=nd a b true ⟨#[]⟩ kd:=rfl
  refine Ev.step (fun k=>by rw [fu.l0]) ?_
  rw [hv,hx7,hr0]
  refine Ev.ae (by omega) (Ev.ae (by omega) (Ev.ae (by omega) (Ev.ae (by omega) (Ev.ae (by omega) (Ev.ae (by show kd.length < _;omega) ?_)))))
  refine Ev.step (fun k=>by rw [fu.j1]) ?_
  refine afN ((body.length+1:Nat):Int) LL _ _ (LL[q]) (by omega) (fun x hx=>by have:=hkk x (e1 ▸ hx);rw [Fo.size] at this;simp only [Fo.size] at this;omega) _ 0 _ rfl (by omega) (by simp;omega) ?_
  have es:=Fo.xA 0 (body.length+1) ((body.length+1:Nat):Int) (by omega) (Fo.cons a' b' c' d' ks .nil) 0 (by simp only [Fo.size];omega) (by simp only [Fo.size];omega)
  rw [List.drop_zero,e1,es,Nat.add_zero,aO (x:=(q:Int)+1) (by omega) (by omega)]
  have hbl:(body++(Fo.cons a' b' c' d' ks .nil).flat (body.length+1)).length=body.length+1+ks.size:=by rw [List.length_append,Fo.fD];simp only [Fo.size];omega
  have:=ih (q+1) (kd++[((body.length+1:Nat):Int)]) (body++(Fo.cons a' b' c' d' ks .nil).flat (body.length+1)) e2 (by omega) (by simp;omega) (by rw [hbl];omega)
  rw [hbl] at this
  refine this.eq ?_
  simp only [Fo.roots,Fo.flat,List.append_nil,List.append_assoc,List.cons_append,List.nil_append,List.singleton_append,show body.length+1+ks.size+1=body.length+1+1+ks.size by omega]
theorem F3 (a b:Int) (g:Fo) (h:g.size≤999):Ev (fun k=>fu.f k a b g.parts) ((Fo.cons a b true [] g .nil).flat 0):=by
 have hp:=g.Bq
 refine Ev.congr (fun k=>by rw [fu.f]) ?_
 have:=afP a b g.parts (by omega) g 0 [] [] (by rw [List.drop_zero]) (by omega) (by simp;omega) (by simp;omega)
 refine this.eq ?_
 rw [Fo.xu]
 rfl
def Fo.app:Fo→Fo→Fo
 | .nil,g=>g
 | .cons a b c d ks r,g=>.cons a b c d ks (r.app g)
theorem aa6 (a b:Int) (LL:List (List Nd)) (YN:LL.length≤1000):∀ (g:Fo) (q:Nat) (kd:List Int) (body:List Nd),LL.drop q=g.parts→q≤LL.length→kd.length+g.size≤1000→body.length+1+g.size≤1000 →
 Ev (fun k=>fE.l0 k LL (nd a b true ⟨#[]⟩ kd :: body) (q:Int)) (nd a b true ⟨#[]⟩ (kd++g.roots (body.length+1)) :: (body++g.flat (body.length+1))):=by
 intro g
 induction g with
 | nil =>
  intro q kd body hq oZ _ _
  have:LL.length≤q:=by
   have:=congrArg List.length hq
   simp [Fo.parts] at this
   omega
  refine Ev.step (fun k=>by rw [fE.l0]) ?_
  rw [Fo.roots,Fo.flat,List.append_nil,List.append_nil]
  exact Ev.ai (by omega) (Ev.now _)
 | cons a' b' c' d' ks r _ ih =>
  intro q kd body hq oZ hkd hb
  obtain ⟨hlt,e1,e2⟩:=Ho hq
  rw [Fo.size] at hkd hb
  have hl1:(LL[q]).length=1+ks.size:=by rw [e1,Fo.fD];rfl
  have hkk:=Fo.pz (Fo.cons a' b' c' d' ks .nil) 0
  have hx7:((nd a b true ⟨#[]⟩ kd :: body).length:Int)=((body.length+1:Nat):Int):=by simp
  have hr0:aa (nd a b true ⟨#[]⟩ kd :: body) 0=nd a b true ⟨#[]⟩ kd:=rfl
  refine Ev.step (fun k=>by rw [fE.l0]) ?_
  rw [RF LL q hlt,hx7,hr0]
  refine Ev.ae (by omega) (Ev.ae (by omega) (Ev.ae (by omega) (Ev.ae (by omega) (Ev.ae (by show kd.length < _;omega) ?_))))
  refine Ev.step (fun k=>by rw [fE.j1]) ?_
  refine aa5 ((body.length+1:Nat):Int) LL q hlt (by omega) (by omega) (fun x hx=>by have:=hkk x (e1 ▸ hx);simp only [Fo.size] at this;omega) _ 0 _ rfl (by omega) (by simp;omega) ?_
  have es:=Fo.xA 0 (body.length+1) ((body.length+1:Nat):Int) (by omega) (Fo.cons a' b' c' d' ks .nil) 0 (by simp only [Fo.size];omega) (by simp only [Fo.size];omega)
  rw [List.drop_zero,e1,es,Nat.add_zero]
  have hbl:(body++(Fo.cons a' b' c' d' ks .nil).flat (body.length+1)).length=body.length+1+ks.size:=by rw [List.length_append,Fo.fD];simp only [Fo.size];omega
  have:=ih (q+1) (kd++[((body.length+1:Nat):Int)]) (body++(Fo.cons a' b' c' d' ks .nil).flat (body.length+1)) e2 (by omega) (by simp;omega) (by rw [hbl];omega)
  rw [hbl] at this
  refine this.eq ?_
  simp only [Fo.roots,Fo.flat,List.append_nil,List.append_assoc,List.cons_append,List.nil_append,List.singleton_append,show body.length+1+ks.size+1=body.length+1+1+ks.size by omega]
theorem Gw (a b:Int) (g:Fo) (h:g.size≤999):Ev (fun k=>fE.f k a b g.parts) ((Fo.cons a b true [] g .nil).flat 0):=by
 have hp:=g.Bq
 refine Ev.congr (fun k=>by rw [fE.f]) ?_
 have:=aa6 a b g.parts (by omega) g 0 [] [] (by rw [List.drop_zero]) (by omega) (by simp;omega) (by simp;omega)
 refine this.eq ?_
 rw [Fo.xu]
 rfl
structure Tr (ob:Nd→Bool) (t:List Nd) (H:Nat):Prop where
 one:∀ x,rM x (ob x)
 sz:∀ n,n < t.length→(aa t (n:Int)).f3.size≤2000
 kd:∀ n,n < t.length→(aU t n).length≤100000
 rt:RT ob t H
theorem Tr.obT {ob:Nd→Bool} {t:List Nd} {H:Nat} (h:Tr ob t H):oW ob t:=fun n hn=>(h.one _ (h.sz n hn)).1
theorem Wy (a b:Int) (c:Bool) (d:List Int) (ks:Fo) (ho:(Fo.cons a b c d ks .nil).Ok 0) (hz:(Fo.cons a b c d ks .nil).size≤1000) (hs:(Fo.cons a b c d ks .nil).Small 2000):∃ ob,Tr ob ((Fo.cons a b c d ks .nil).flat 0) ks.jy:=by
 obtain ⟨ob,hone⟩:=Ir
 have hfw:=BR (Fo.cons a b c d ks .nil)
 have hlen:=Fo.fD (Fo.cons a b c d ks .nil) 0
 have hkk:=Fo.pz (Fo.cons a b c d ks .nil) 0
 have KM:=ho.deep (by omega)
 have bT:=zg ob hone (m:=1) ho hs.1
 have hsz1:(Fo.cons a b c d ks .nil).size=1+ks.size+0:=rfl
 have uH:(Fo.cons a b c d ks .nil).jy=max (ks.jy+1) 0:=rfl
 obtain ⟨hn,g1,g2,_⟩:=oD.1 hfw
 generalize hT:(Fo.cons a b c d ks .nil).flat 0=t at *
 have hsz:∀ n,n < t.length→(aa t (n:Int)).f3.size≤2000:=by
  have key:∀ (f:Fo) (n:Nat),f.Small 2000→∀ x∈f.flat n,x.f3.size≤2000:=by
   intro f
   induction f with
   | nil=>intro n _ x hx;cases hx
   | cons a b c d ks r ih1 ih2 =>
    intro n hs x hx
    rw [Fo.flat] at hx
    rcases List.mem_cons.1 hx with rfl | hx
    ·show (strOfNums d).size≤2000;rw [dW];exact hs.1
    ·rcases List.mem_append.1 hx with hx | hx
     ·exact ih1 _ hs.2.1 x hx
     ·exact ih2 _ hs.2.2 x hx
  intro n hn
  rw [jw t n hn]
  exact key (Fo.cons a b c d ks .nil) 0 hs _ (by rw [hT];exact List.getElem_mem hn)
 refine ⟨ob,hone,hsz,fun n hn=>?_,by omega,by omega,by rw [show (0:Int)=((0:Nat):Int) from rfl,jw t 0 hn,g1];exact bT,?_,by omega⟩
 ·rw [oz hn]
  have:=hkk _ (List.getElem_mem hn)
  omega
 ·have hks:aU t 0=ks.roots 1:=by rw [oz hn,g1];rfl
  rw [hks]
  have:=uq ob hone t ks 1 1 g2 ho.2.2.2.2.2.2.2.1 hs.2.1
  rw [hlen,hsz1]
  exact this
theorem TA {t:List Nd} {n:Nat} {a b:Int} {c:Bool} {d:List Int} {ks r:Fo} (h:FW t n (.cons a b c d ks r)):FW t n (.cons a b c d ks .nil):=by
 obtain ⟨h1,h2,h3,_⟩:=oD.1 h
 exact oD.2 ⟨h1,h2,h3,by unfold FW;rw [Fo.size,Fo.flat,List.take_zero]⟩
theorem Vw {t:List Nd} {n:Nat} {a b:Int} {c:Bool} {d:List Int} {ks:Fo} (h:FW t n (.cons a b c d ks .nil)) (hl:n+(1+ks.size)≤1000):win t n (n+1+ks.size)=(Fo.cons a b c d ks .nil).flat 0:=by
 unfold win
 rw [List.drop_take,show n+1+ks.size - n=(Fo.cons a b c d ks .nil).size by simp only [Fo.size];omega,h,aO (by omega) (by omega)]
 exact Fo.xA n 0 (-(n:Int)) (by omega) _ 0 (by simp only [Fo.size];omega) (by simp only [Fo.size];omega)
theorem Wz {ob:Nd→Bool} (hone:∀ x,rM x (ob x)) {t:List Nd} {H:Nat} (ht:t.length≤1000):∀ (f:Fo) (n dep:Nat),FW t n f→f.Ok dep→f.Small 2000→f.jy≤H→n≤t.length→Pt ob t H (f.roots n) n (n+f.size) f.parts
 | .nil,n,_,_,_,_,_,_=>.nil n
 | .cons a b c d ks r,n,dep,h,ho,hs,hh,hn=>by
  have hle:=KL h hn
  obtain ⟨h1,h2,h3,h4⟩:=oD.1 h
  rw [Fo.jy] at hh
  rw [Fo.size] at hle
  have i:=Wz (H:=H) hone ht r (n+1+ks.size) dep h4 ho.2.2.2.2.2.2.2.2 hs.2.2 (by omega) (by omega)
  rw [Fo.roots,Fo.parts,Fo.size,← Vw (TA h) (by omega),show n+(1+ks.size+r.size)=n+1+ks.size+r.size by omega]
  refine Pt.cons (m:=n+1+ks.size) (h:=ks.jy) rfl h1 ?_ ?_ (Nat.lt_of_lt_of_le (Nat.lt_succ_self _) (Nat.le_trans (Nat.le_max_left _ _) hh)) (by omega) i
  ·rw [jw t n h1,h2]
   exact zg ob hone ho hs.1
  ·rw [oz h1,h2]
   exact uq ob hone t ks (n+1) _ h3 ho.2.2.2.2.2.2.2.1 hs.2.1
theorem FB (a b:Int) (c:Bool) (d:List Int) (ks:Fo) (ho:(Fo.cons a b c d ks .nil).Ok 0) (hz:(Fo.cons a b c d ks .nil).size≤1000) (hs:(Fo.cons a b c d ks .nil).Small 2000):Ev (fun k=>jF.f k ((Fo.cons a b c d ks .nil).flat 0)) ks.parts:=by
 obtain ⟨ob,T⟩:=Wy a b c d ks ho hz hs
 have hfw:=BR (Fo.cons a b c d ks .nil)
 have hlen:=Fo.fD (Fo.cons a b c d ks .nil) 0
 obtain ⟨hn,g1,g2,_⟩:=oD.1 hfw
 generalize (Fo.cons a b c d ks .nil).flat 0=t at *
 have p:=Wz (H:=ks.jy) T.one (by omega) ks 1 1 g2 ho.2.2.2.2.2.2.2.1 hs.2.1 (Nat.le_refl _) (by omega)
 refine ac4 ob t T.kd T.obT ks.jy T.rt ks.parts (1+ks.size) ?_
 rw [oz hn,g1]
 exact p
theorem aaw (a b:Int) (c:Bool) (d:List Int) (ks:Fo) (ho:(Fo.cons a b c d ks .nil).Ok 0) (hz:(Fo.cons a b c d ks .nil).size≤1000) (hs:(Fo.cons a b c d ks .nil).Small 2000)
 (n dep:Nat) (a' b':Int) (c':Bool) (d':List Int) (ks':Fo) (hf:FW ((Fo.cons a b c d ks .nil).flat 0) n (.cons a' b' c' d' ks' .nil)) (hd:dep < 16) (ho':(Fo.cons a' b' c' d' ks' .nil).Ok dep) (hs':(Fo.cons a' b' c' d' ks' .nil).Small 2000) :
 Ev (fun k=>jl.f k ((Fo.cons a b c d ks .nil).flat 0) (n:Int)) ((Fo.cons a' b' c' d' ks' .nil).flat 0):=by
 obtain ⟨ob,T⟩:=Wy a b c d ks ho hz hs
 have hlen:=Fo.fD (Fo.cons a b c d ks .nil) 0
 generalize (Fo.cons a b c d ks .nil).flat 0=t at *
 obtain ⟨hn,g1,g2,_⟩:=oD.1 hf
 have hle:=KL hf (by omega)
 simp only [Fo.size] at hle
 have KM:=ho'.deep (by omega)
 simp only [Fo.jy] at KM
 obtain ⟨b2,hb2,wU⟩:=Fy ob t T.kd (fun n hn=>(T.one _ (T.sz n hn)).2.1)
 obtain rfl:b2=true:=wU.2 ⟨_,T.rt⟩
 have hoo:ob (aa t (n:Int))=true:=by rw [jw t n hn,g1];exact zg ob T.one ho' hs'.1
 have hch:Ch ob t (aU t n) (n+1) (n+1+ks'.size) ks'.jy:=by
  rw [oz hn,g1]
  exact uq ob T.one t ks' (n+1) _ g2 ho'.2.2.2.2.2.2.2.1 hs'.2.1
 refine Ev.congr (fun k=>by rw [jl.f]) ?_
 refine Ev.bind hb2 (Ev.ae rfl (Ev.ai (by omega) ?_))
 rw [decide_eq_false (by omega)]
 refine Ev.step (fun k=>by rw [jl.j0]) ?_
 obtain ⟨r,hr,hcr⟩:=Ty ob t (by omega) T.kd (fun n hn=>(T.one _ (T.sz n hn)).2.1) 16 1 n (by omega) (by omega) (by omega)
 have hrm:r=((n+1+ks'.size:Nat):Int):=by
  rcases hcr with ⟨_,hnot⟩ | ⟨j,h'',rfl,_,_,c'',_⟩
  ·exact absurd ⟨_,_,hn,hoo,hch,by omega⟩ hnot
  ·rw [(hch.jP c'').1]
 subst hrm
 refine Ev.ai (by simp) (Ev.bind hr ?_)
 have:=Zt t (by omega) T.kd n (n+1+ks'.size) (by omega) _ n [] rfl (Nat.le_refl _) (by omega) (by simp)
 rw [List.nil_append] at this
 refine this.eq ?_
 exact Vw hf (by omega)
theorem Fo.F4:∀ (f:Fo) (n:Nat),f.Small 2000→∀ x∈f.flat n,x.f3.size≤2000
 | .nil,_,_,x,hx=>by cases hx
 | .cons a b c d ks r,n,hs,x,hx=>by
  rw [Fo.flat] at hx
  rcases List.mem_cons.1 hx with rfl | hx
  ·show (strOfNums d).size≤2000;rw [dW];exact hs.1
  ·rcases List.mem_append.1 hx with hx | hx
   ·exact Fo.F4 ks _ hs.2.1 x hx
   ·exact Fo.F4 r _ hs.2.2 x hx
inductive TE (t:List Nd):Prop
 | no (h1:Ev (fun k=>ic.f k t) (⟨#[]⟩,1)) (h2:Ev (fun k=>ja.f k t) false)
 | yes (e:ByteArray × Int) (h1:Ev (fun k=>ic.f k t) e) (h2:Ev (fun k=>ja.f k t) true) (h3:Ev (fun k=>nJ.f k t) e)
  (h4:e.2=0→∃ (a b:Int) (c:Bool) (d:List Int) (ks:Fo),t=(Fo.cons a b c d ks .nil).flat 0∧(Fo.cons a b c d ks .nil).Ok 0∧(Fo.cons a b c d ks .nil).enc.length≤65535∧e.1=strOfNums (Fo.cons a b c d ks .nil).enc)
theorem Zu (t:List Nd) (hsz:∀ x∈t,x.f3.size≤2000) (hkk:∀ x∈t,x.f4.length≤100000):TE t:=by
 obtain ⟨ob,hone⟩:=Ir
 have hsz:∀ n,n < t.length→(aa t (n:Int)).f3.size≤2000:=fun n hn=>by rw [jw t n hn];exact hsz _ (List.getElem_mem hn)
 have hk:∀ n,n < t.length→(aU t n).length≤100000:=fun n hn=>by rw [oz hn];exact hkk _ (List.getElem_mem hn)
 have bT:oW ob t:=fun n hn=>(hone _ (hsz n hn)).1
 have hin:xk ob:=fun x hx ho=>((hone x hx).2.2 ho).1
 obtain ⟨b2,hb2,wU⟩:=Fy ob t hk (fun n hn=>(hone _ (hsz n hn)).2.1)
 by_cases hR:∃ h,RT ob t h
 case neg =>
  have hr1:=abX ob t hk bT hR
  obtain rfl:b2=false:=by
   cases b2 with
   | false=>rfl
   | true=>exact absurd (wU.1 rfl) hR
  refine .no ?_ hb2
  refine Ev.congr (fun k=>by rw [ic.f]) ?_
  exact Ev.bind hr1 (Ev.ai (by simp) (Ev.now _))
 obtain rfl:b2=true:=wU.2 hR
 obtain ⟨H,hR⟩:=hR
 have hrd:=xq ob t hk bT H hR
 obtain ⟨e,he1,he2,YM,he4⟩:=Uq ob hin t hsz hk (fun i hi=>by
  by_cases e:i=0
  ·subst e
   exact ⟨hR.2.2.1,_,_,hR.2.2.2.1⟩
  ·obtain ⟨a,m,h',c,hm,hh⟩:=hR.2.2.2.1.cover i (by omega) hi
   exact ⟨a,m,h',c⟩) H hR hrd.1 hb2
 refine .yes e he1 hb2 he2 fun h=>?_
 obtain ⟨cs,hen,hle,Fu⟩:=he4 h
 obtain ⟨a,b,c,d,ks,g1,g2,g3,g4⟩:=aav ob hone t hsz H hR cs hen hle
 exact ⟨a,b,c,d,ks,g1,g4,by rw [g3];exact hle,by rw [g3,Fu]⟩
def Fo.By:Fo→Prop
 | .nil=>True
 | .cons _ _ _ d ks r=>aH d∧ks.By∧r.By
theorem Fo.Ok.by:∀ {f:Fo} {dep:Nat},f.Ok dep→f.By
 | .nil,_,_=>trivial
 | .cons _ _ _ _ _ _,_,h=>⟨h.2.2.2.2.1,Fo.Ok.by h.2.2.2.2.2.2.2.1,Fo.Ok.by h.2.2.2.2.2.2.2.2⟩
theorem xK {l m:List Int} (hl:aH l) (hm:aH m) (h:strOfNums l=strOfNums m):l=m:=by
 rw [← qR hl,← qR hm,h]
theorem Fo.BB:∀ {f g:Fo} {n:Nat},f.By→g.By→f.flat n=g.flat n→f.roots n=g.roots n→f=g
 | .nil,.nil,_,_,_,_,_=>rfl
 | .nil,.cons ..,_,_,_,h,_=>by rw [Fo.flat,Fo.flat] at h;cases h
 | .cons ..,.nil,_,_,_,h,_=>by rw [Fo.flat,Fo.flat] at h;cases h
 | .cons a b c d ks r,.cons a' b' c' d' ks' r',n,hf,hg,h,hr=>by
  rw [Fo.flat,Fo.flat] at h
  obtain ⟨h1,h2⟩:=List.cons.inj h
  have e1:a=a':=congrArg (·.f0) h1
  have e2:b=b':=congrArg (·.f1) h1
  have e3:c=c':=congrArg (·.f2) h1
  have e4:strOfNums d=strOfNums d':=congrArg (·.f3) h1
  have e5:ks.roots (n+1)=ks'.roots (n+1):=congrArg (·.f4) h1
  have e4:=xK hf.1 hg.1 e4
  rw [Fo.roots,Fo.roots] at hr
  have hr:=(List.cons.inj hr).2
  have hsz:ks.size=ks'.size:=by
   cases r with
   | nil =>
    cases r' with
    | nil =>
     have:=congrArg List.length h2
     rw [List.length_append,List.length_append,Fo.fD,Fo.fD,Fo.fD,Fo.fD] at this
     simpa [Fo.size] using this
    | cons=>rw [Fo.roots,Fo.roots] at hr;cases hr
   | cons =>
    cases r' with
    | nil=>rw [Fo.roots,Fo.roots] at hr;cases hr
    | cons =>
     rw [Fo.roots,Fo.roots] at hr
     have:=(List.cons.inj hr).1
     omega
  obtain ⟨h3,h4⟩:=List.append_inj h2 (by rw [Fo.fD,Fo.fD,hsz])
  rw [hsz] at h4 hr
  rw [Fo.BB hf.2.1 hg.2.1 h3 e5,Fo.BB hf.2.2 hg.2.2 h4 hr,e1,e2,e3,e4]
inductive Gs:List (List Int)→Fo→Prop
 | nil:Gs [] .nil
 | cons {z:List Int} {Z:List (List Int)} {a b:Int} {c:Bool} {d:List Int} {ks g:Fo} (he:z=(Fo.cons a b c d ks .nil).enc) (ho:(Fo.cons a b c d ks .nil).Ok 0)
  (p1:Ev (fun k=>kF.f k (strOfNums z)) ((Fo.cons a b c d ks .nil).flat 0,0,0)) (p2:Ev (fun k=>lG.f k (strOfNums z)) ((Fo.cons a b c d ks .nil).flat 0,0,0)) (h:Gs Z g):Gs (z :: Z) (.cons a b c d ks g)
inductive Gb:List (List Int)→Prop
 | here {z:List Int} {Z:List (List Int)} {code q:Int} (hc:code≠0) (p1:Ev (fun k=>kF.f k (strOfNums z)) ([],code,q)) (p2:Ev (fun k=>lG.f k (strOfNums z)) ([],code,q)):Gb (z :: Z)
 | there {z:List Int} {Z:List (List Int)} {t:List Nd} (p1:Ev (fun k=>kF.f k (strOfNums z)) (t,0,0)) (p2:Ev (fun k=>lG.f k (strOfNums z)) (t,0,0)) (h:Gb Z):Gb (z :: Z)
theorem Gs.enc {Z:List (List Int)} {g:Fo} (h:Gs Z g):g.enc=Z.flatten:=by
 induction h with
 | nil=>rfl
 | cons he ho p1 p2 h ih=>rw [List.flatten_cons,← ih,he,Fo.enc,Fo.enc,Fo.enc,List.append_nil]
theorem Gs.ok {Z:List (List Int)} {g:Fo} (h:Gs Z g):g.Ok 0:=by
 induction h with
 | nil=>trivial
 | cons he ho p1 p2 h ih=>exact ⟨ho.1,ho.2.1,ho.2.2.1,ho.2.2.2.1,ho.2.2.2.2.1,ho.2.2.2.2.2.1,ho.2.2.2.2.2.2.1,ho.2.2.2.2.2.2.2.1,ih⟩
theorem WA:∀ Z:List (List Int),(∀ z∈Z,aH z∧z.length≤65535)→(∃ g,Gs Z g)∨Gb Z
 | [],_=>.inl ⟨.nil,.nil⟩
 | z :: Z,h=>by
  obtain ⟨h1,h2⟩:=h z (List.mem_cons_self ..)
  cases IV z h1 h2 with
  | bad code q hc hq p1 p2 _ _=>exact .inr (.here hc p1 p2)
  | ok a b c d ks he ho hz p1 p2 _ _ =>
   rcases WA Z (fun y hy=>h y (List.mem_cons_of_mem _ hy)) with ⟨g,hg⟩ | hb
   ·exact .inl ⟨_,.cons he ho p1 p2 hg⟩
   ·exact .inr (.there p1 p2 hb)
theorem Fo.kG:∀ f:Fo,2*f.size≤f.enc.length
 | .nil=>Nat.zero_le _
 | .cons a b c d ks r=>by
  rw [Fo.jv,Fo.size]
  have h1:=Fo.kG ks
  have h2:=Fo.kG r
  have h3:=Fo.Ce a b c d ks
  rw [List.length_append]
  omega
theorem U3:∀ f:Fo,f.Ok 0→aH f.enc→f.enc.length≤2000→Gs f.encs f
 | .nil,_,_,_=>.nil
 | .cons a b c d ks r,ho,hb,hs=>by
  have e2:(Fo.cons a b c d ks r).enc=(Fo.cons a b c d ks .nil).enc++r.enc:=by rw [Fo.enc,Fo.enc,Fo.enc,List.append_nil]
  rw [e2] at hb hs
  rw [List.length_append] at hs
  have o1:(Fo.cons a b c d ks .nil).Ok 0:=⟨ho.1,ho.2.1,ho.2.2.1,ho.2.2.2.1,ho.2.2.2.2.1,ho.2.2.2.2.2.1,ho.2.2.2.2.2.2.1,ho.2.2.2.2.2.2.2.1,trivial⟩
  have hz:=Fo.kG (Fo.cons a b c d ks .nil)
  obtain ⟨p1,p2⟩:=xV _ (fun x hx=>hb x (List.mem_append_left _ hx)) (by omega) a b c d ks rfl o1 (by omega)
  exact .cons rfl o1 p1 p2 (U3 r ho.2.2.2.2.2.2.2.2 (fun x hx=>hb x (List.mem_append_right _ hx)) (by omega))
theorem u7 (Z:List (List Int)) (q:Nat) {z:List Int} {W:List (List Int)} (h:Z.drop q=z :: W):q < Z.length∧gI ByteArray.empty (Z.map strOfNums) (q:Int)=strOfNums z∧Z.drop (q+1)=W:=by
 have hq:q < Z.length:=by
  rcases Nat.lt_or_ge q Z.length with g | g
  ·exact g
  ·rw [List.drop_eq_nil_of_le g] at h;cases h
 rw [List.drop_eq_getElem_cons hq] at h
 obtain ⟨h1,h2⟩:=List.cons.inj h
 refine ⟨hq,?_,h2⟩
 unfold gI
 simp [List.getD_eq_getElem?_getD,hq,h1]
theorem drop_nil {α:Type} {Z:List α} {q:Nat} (h:Z.drop q=[]):Z.length≤q:=by
 have:=congrArg List.length h
 simp at this
 omega
theorem U4 {Y:List (List Int)} (hY:Y.length≤65535) {Z:List (List Int)} {g:Fo} (h:Gs Z g):∀ (q:Nat) (X:List (List Nd)),Y.drop q=Z→X.length≤q→Ev (fun k=>gN.l0 k (Y.map strOfNums) X (Y.length:Int) (q:Int)) (X++g.parts,true):=by
 induction h with
 | nil =>
  intro q X hq hX
  have:=drop_nil hq
  refine Ev.step (fun k=>by rw [gN.l0]) ?_
  rw [Fo.parts,List.append_nil]
  exact Ev.ai (by omega) (Ev.now _)
 | @cons z Z a b c d ks g he ho p1 p2 h ih =>
  intro q X hq hX
  obtain ⟨h1,h2,h3⟩:=u7 Y q hq
  refine Ev.step (fun k=>by rw [gN.l0,h2]) ?_
  refine Ev.ae (by omega) (Ev.ae (by omega) (Ev.ae (by rw [List.length_map];omega) (Ev.bind p1 (Ev.ae rfl (Ev.ae (by omega) ?_)))))
  rw [aO (x:=(q:Int)+1) (by omega) (by omega),Fo.parts]
  have:=ih (q+1) (X++[(Fo.cons a b c d ks .nil).flat 0]) h3 (by rw [List.length_append,List.length_singleton];omega)
  rw [List.append_assoc,List.singleton_append] at this
  exact this
theorem adH {Y:List (List Int)} (hY:Y.length≤65535) {Z:List (List Int)} (h:Gb Z):∀ (q:Nat) (X:List (List Nd)),Y.drop q=Z→X.length≤q→Ev (fun k=>gN.l0 k (Y.map strOfNums) X (Y.length:Int) (q:Int)) ([],false):=by
 induction h with
 | here hc p1 p2 =>
  intro q X hq hX
  obtain ⟨h1,h2,h3⟩:=u7 Y q hq
  refine Ev.step (fun k=>by rw [gN.l0,h2]) ?_
  exact Ev.ae (by omega) (Ev.ae (by omega) (Ev.ae (by rw [List.length_map];omega) (Ev.bind p1 (Ev.ai hc (Ev.now _)))))
 | there p1 p2 h ih =>
  intro q X hq hX
  obtain ⟨h1,h2,h3⟩:=u7 Y q hq
  refine Ev.step (fun k=>by rw [gN.l0,h2]) ?_
  refine Ev.ae (by omega) (Ev.ae (by omega) (Ev.ae (by rw [List.length_map];omega) (Ev.bind p1 (Ev.ae rfl (Ev.ae (by omega) ?_)))))
  rw [aO (x:=(q:Int)+1) (by omega) (by omega)]
  exact ih (q+1) _ h3 (by rw [List.length_append,List.length_singleton];omega)
inductive Elm (l:List Int):Prop
 | bad (Y:List ByteArray) (c q:Int) (p1:Ev (fun k=>iK.f k (strOfNums l)) (Y,c,q)) (p2:Ev (fun k=>jr.f k (strOfNums l)) (Y,c,q)) (hb:c≠0∨∃ Z:List (List Int),c=0∧Y=Z.map strOfNums∧Z.length≤65535∧Gb Z) (e:Ev (fun k=>gN.f k (strOfNums l)) ([],false))
 | ok (g:Fo) (Z:List (List Int)) (q:Int) (p1:Ev (fun k=>iK.f k (strOfNums l)) (Z.map strOfNums,0,q)) (p2:Ev (fun k=>jr.f k (strOfNums l)) (Z.map strOfNums,0,q)) (hZ:Z.length≤65535) (hg:Gs Z g) (he:g.enc=l) (e:Ev (fun k=>gN.f k (strOfNums l)) (g.parts,true))
theorem Sd (l:List Int) (hl:aH l) (hs:l.length≤65535):Elm l:=by
 obtain ⟨Y,c,q,hY,h1,h2,h3⟩:=aa1 l hl hs
 by_cases hc:c=0
 ·subst hc
  obtain ⟨Z,rfl,hZ⟩:=h3 rfl
  rw [List.length_map] at hY
  have run:∀ {R},Ev (fun k=>gN.l0 k (Z.map strOfNums) [] (Z.length:Int) ((0:Nat):Int)) R→Ev (fun k=>gN.f k (strOfNums l)) R:=fun h=>by
   refine Ev.congr (fun k=>by rw [gN.f]) ?_
   refine Ev.bind h1 (Ev.ae rfl ?_)
   show Ev (fun k=>gN.l0 k (Z.map strOfNums) [] ((Z.map strOfNums).length:Int) 0) _
   rw [List.length_map]
   exact h
  have hzz:∀ z∈Z,aH z∧z.length≤65535:=fun z hz=>by
   have h5:∀ x∈z,x∈l:=fun x hx=>by rw [← hZ];exact List.mem_flatten.2 ⟨z,hz,hx⟩
   refine ⟨fun x hx=>hl x (h5 x hx),?_⟩
   have:z.length≤Z.flatten.length:=(List.sublist_flatten_of_mem hz).length_le
   rw [hZ] at this
   omega
  rcases WA Z hzz with ⟨g,hg⟩ | hb
  ·exact .ok g Z q h1 h2 (by omega) hg (by rw [hg.enc,hZ]) (run (U4 (by omega) hg 0 [] (List.drop_zero) (Nat.zero_le _)))
  ·exact .bad _ _ q h1 h2 (.inr ⟨Z,rfl,rfl,by omega,hb⟩) (run (adH (by omega) hb 0 [] (List.drop_zero) (Nat.zero_le _)))
 ·refine .bad Y c q h1 h2 (.inl hc) ?_
  refine Ev.congr (fun k=>by rw [gN.f]) ?_
  exact Ev.bind h1 (Ev.ai hc (Ev.now _))
theorem ZR (g:Fo) (ho:g.Ok 0) (hb:aH g.enc) (hs:g.enc.length≤2000):Ev (fun k=>gN.f k (strOfNums g.enc)) (g.parts,true):=by
 have hz:=g.kG
 have h1:=aa2 g ho hb (by omega) (by omega)
 refine Ev.congr (fun k=>by rw [gN.f]) ?_
 refine Ev.bind h1 (Ev.ae rfl ?_)
 have hl:=g.Um
 have:=U4 (Y:=g.encs) (by omega) (U3 g ho hb hs) 0 [] List.drop_zero (Nat.zero_le _)
 rw [List.nil_append] at this
 show Ev (fun k=>gN.l0 k (g.encs.map strOfNums) [] ((g.encs.map strOfNums).length:Int) 0) _
 rw [List.length_map]
 exact this
def gG (param:List Int):Fo:=if param=[] then .cons 0 5 false [] .nil .nil else .cons 0 6 false (dQ (numsOf param)) .nil .nil
def mV:Fo→Fo
 | .nil=>.nil
 | .cons a b c d ks r=>.cons 2 0 true [] (.cons a b c d ks r) .nil
theorem IZ {g:Fo} (h:g≠.nil):mV g=.cons 2 0 true [] g .nil:=by
 cases g with
 | nil=>exact absurd rfl h
 | cons=>rfl
def gZ (aD param key:List Int) (g:Fo):Fo:=.cons 0 2 false [0] .nil (.cons 0 16 true [] (.cons 0 6 false (dQ (numsOf aD)) .nil (gG param)) (.cons 0 4 false key .nil (mV g)))
def eQ (aD param key:List Int) (g:Fo):Fo:=.cons 0 16 true [] (gZ aD param key g) .nil
theorem BC (p:List Int):(gG p).size=1:=by unfold gG;split<;>rfl
theorem ab2 (g:Fo):(mV g).size≤1+g.size:=by
 cases g with
 | nil=>simp [mV,Fo.size]
 | cons=>simp [mV,Fo.size]
theorem Hq (aD param key:List Int) (g:Fo):(gZ aD param key g).size≤6+g.size:=by
 have h1:=BC param
 have h2:=ab2 g
 unfold gZ
 simp only [Fo.size]
 omega
theorem Fo.TC {g:Fo}:g.parts.length > 0↔g≠.nil:=by
 cases g<;>simp [Fo.parts]
theorem TD (l:List Int) (hl:l.length≤1000):Ev (fun k=>jS.j0 k l false) (if fV l=true then ((Fo.cons 0 6 false (dQ (numsOf l)) .nil .nil).flat 0,true) else ((Fo.cons 0 6 false [] .nil .nil).flat 0,false)):=by
 refine Ev.step (fun k=>by rw [jS.j0]) ?_
 refine Ev.ai (by simp) (Ev.bind (Zd l hl) ?_)
 by_cases h:fV l=true
 ·rw [if_pos h,if_pos h]
  exact Ev.now _
 ·rw [if_neg h,if_neg h]
  exact Ev.now _
theorem Ur (l:List Int) (hl:l.length≤1000):Ev (fun k=>jS.f k l false) (if fV l=true then ((Fo.cons 0 6 false (dQ (numsOf l)) .nil .nil).flat 0,true) else ((Fo.cons 0 6 false [] .nil .nil).flat 0,false)):=by
 refine Ev.congr (fun k=>by rw [jS.f]) ?_
 exact Ev.ai (by simp) (TD l hl)
theorem SK (l:List Int) (hl:l.length≤1000):Ev (fun k=>jS.f k l true) (if l=[]∨fV l=true then ((gG l).flat 0,true) else ((Fo.cons 0 6 false [] .nil .nil).flat 0,false)):=by
 refine Ev.congr (fun k=>by rw [jS.f]) ?_
 refine Ev.ae rfl ?_
 by_cases h0:l=[]
 ·subst h0
  rw [if_pos (.inl rfl)]
  refine Ev.step (fun k=>by rw [jS.j0]) ?_
  exact Ev.ae rfl (Ev.now _)
 ·have hz:((l.length:Int) == 0)=false:=by
   have:l.length≠0:=fun e=>h0 (List.eq_nil_of_length_eq_zero e)
   rw [beq_eq_false_iff_ne]
   omega
  rw [hz]
  refine (TD l hl).eq ?_
  by_cases h:fV l=true
  ·rw [if_pos h,if_pos (.inr h),gG,if_neg h0]
  ·rw [if_neg h,if_neg (by simp [h0,h])]
theorem F5:Ev (fun k=>jR.f k 0) ⟨#[0]⟩:=(YU 0 (by decide) (by decide)).eq (by kernel_rfl)
theorem Iw {x4 x6:List Nd} {x8:List (List Nd)} {s:ByteArray}:Ev (fun k=>iY.j0 k x4 x6 x8 true s) (⟨#[]⟩,1):=by
 refine Ev.step (fun k=>by rw [iY.j0]) ?_
 exact Ev.ae rfl (Ev.now _)
theorem ac6 (aD param key:List Int) (g:Fo) (hz:g.size≤993) {R:ByteArray × Int} (h:Ev (fun k=>ic.f k ((eQ aD param key g).flat 0)) R) :
 Ev (fun k=>iY.j0 k ((Fo.cons 0 6 false (dQ (numsOf aD)) .nil .nil).flat 0) ((gG param).flat 0) g.parts false (strOfNums key)) R:=by
 refine Ev.step (fun k=>by rw [iY.j0]) ?_
 refine Ev.ai (by simp) (Ev.bind F5 (Ev.eB rfl ?_))
 have hp:=BC param
 have e1:[(Fo.cons 0 6 false (dQ (numsOf aD)) .nil .nil).flat 0,(gG param).flat 0]=(Fo.cons 0 6 false (dQ (numsOf aD)) .nil (gG param)).parts:=by
  unfold gG
  split<;>rfl
 have o1:=F3 0 16 (Fo.cons 0 6 false (dQ (numsOf aD)) .nil (gG param)) (by simp only [Fo.size];omega)
 rw [← e1] at o1
 refine Ev.bind o1 (Ev.eB rfl ?_)
 have hk:=Hq aD param key g
 have o2:=F3 0 16 (gZ aD param key g) (by omega)
 by_cases hg:g=.nil
 ·subst hg
  refine Ev.ai (by simp [Fo.parts]) ?_
  have e2:(gZ aD param key .nil).parts=[(Fo.cons 0 2 false [0] .nil .nil).flat 0,(Fo.cons 0 16 true [] (.cons 0 6 false (dQ (numsOf aD)) .nil (gG param)) .nil).flat 0,(Fo.cons 0 4 false key .nil .nil).flat 0]:=rfl
  rw [e2] at o2
  exact Ev.bind o2 (Ev.bind h (Ev.now _))
 ·refine Ev.ae (by have:=Fo.TC.2 hg;omega) (Ev.bind (F3 2 0 g (by omega)) (Ev.ae (by simp only [List.length_cons,List.length_nil];omega) ?_))
  have e2:(gZ aD param key g).parts=[(Fo.cons 0 2 false [0] .nil .nil).flat 0,(Fo.cons 0 16 true [] (.cons 0 6 false (dQ (numsOf aD)) .nil (gG param)) .nil).flat 0,(Fo.cons 0 4 false key .nil .nil).flat 0]++[(Fo.cons 2 0 true [] g .nil).flat 0]:=by
   unfold gZ
   rw [IZ hg]
   rfl
  rw [e2] at o2
  exact Ev.bind o2 (Ev.bind h (Ev.now _))
def Gd (aD param:List Int):Prop:=fV aD=true∧(param=[]∨fV param=true)
theorem F6 {aD param key:List Int} {s:ByteArray} {g:Fo} (ha:aD.length≤1000) (hp:param.length≤1000) (hg:Gd aD param) (he:Ev (fun k=>gN.f k s) (g.parts,true)) (hz:g.size≤993) {R:ByteArray × Int}
 (h:Ev (fun k=>ic.f k ((eQ aD param key g).flat 0)) R):Ev (fun k=>iY.f k aD param (strOfNums key) s) R:=by
 refine Ev.congr (fun k=>by rw [iY.f]) ?_
 have n1:=Ur aD ha
 have n2:=SK param hp
 rw [if_pos hg.1] at n1
 rw [if_pos hg.2] at n2
 exact Ev.bind n1 (Ev.bind n2 (Ev.bind he (Ev.ae rfl (Ev.ae rfl (ac6 aD param key g hz h)))))
theorem Gx {aD param:List Int} {key s:ByteArray} {X:List (List Nd)} {b:Bool} (ha:aD.length≤1000) (hp:param.length≤1000) (he:Ev (fun k=>gN.f k s) (X,b)) (hn:¬ (Gd aD param∧b=true)):Ev (fun k=>iY.f k aD param key s) (⟨#[]⟩,1):=by
 refine Ev.congr (fun k=>by rw [iY.f]) ?_
 have n1:=Ur aD ha
 have n2:=SK param hp
 by_cases h1:fV aD=true
 ·rw [if_pos h1] at n1
  by_cases h2:param=[]∨fV param=true
  ·rw [if_pos h2] at n2
   obtain rfl:b=false:=by
    cases b with
    | false=>rfl
    | true=>exact absurd ⟨⟨h1,h2⟩,rfl⟩ hn
   exact Ev.bind n1 (Ev.bind n2 (Ev.bind he (Ev.ae rfl (Ev.ae rfl Iw))))
  ·rw [if_neg h2] at n2
   exact Ev.bind n1 (Ev.bind n2 (Ev.bind he (Ev.ae rfl (Ev.ai (by simp) Iw))))
 ·rw [if_neg h1] at n1
  exact Ev.bind n1 (Ev.bind n2 (Ev.bind he (Ev.ai (by simp) Iw)))
theorem adI {aD param key:List Int} {g:Fo} (hk:aH key) (hg:g.Ok 0):(eQ aD param key g).By:=by
 have h1:(gG param).By:=by
  unfold gG
  split
  ·exact ⟨aH.nil,trivial,trivial⟩
  ·exact ⟨xR _,trivial,trivial⟩
 have h2:(mV g).By:=by
  cases g with
  | nil=>trivial
  | cons=>exact ⟨aH.nil,hg.by,trivial⟩
 exact ⟨aH.nil,⟨aH.cons (by decide) (by decide) aH.nil,trivial,aH.nil,⟨xR _,trivial,h1⟩,hk,trivial,h2⟩,trivial⟩
theorem Us {aD:List Int} (h:fV aD=true):(dQ (numsOf aD)).length≤200:=by
 obtain ⟨a,b,r,rfl,h18,ha0,ha2,hb0,hb1,hb2,hall⟩:=uW h
 have hbd:∀ x∈numsOf (a :: b :: r),0≤x∧x < 4294967296:=by
  intro x hx
  unfold numsOf at hx
  rcases List.mem_cons.1 hx with rfl | hx
  ·omega
  ·have:=hall x hx;omega
 have hl:=FU _ hbd
 have hl2:(numsOf (a :: b :: r)).length=r.length+1:=by simp [numsOf]
 omega
theorem aa7 {aD param key:List Int} {g:Fo} (hG:Gd aD param) (hk:key.length≤2000) (hg:g.enc.length≤2000):(eQ aD param key g).Small 2000:=by
 have h0:=Us hG.1
 have h1:(gG param).Small 2000:=by
  unfold gG
  split
  ·exact ⟨by simp,trivial,trivial⟩
  ·rename_i hp
   have:=Us (hG.2.resolve_left hp)
   exact ⟨by omega,trivial,trivial⟩
 have h2:(mV g).Small 2000:=by
  cases g with
  | nil=>trivial
  | cons=>exact ⟨by simp,Fo.oC _ _ hg,trivial⟩
 exact ⟨by simp,⟨by simp,trivial,by simp,⟨by omega,trivial,h1⟩,hk,trivial,h2⟩,trivial⟩
theorem adJ {aD param key:List Int} {g:Fo} (hG:Gd aD param) (hk:key.length≤2000) (hg:g.enc.length≤1000):TE ((eQ aD param key g).flat 0):=by
 have hz:=g.kG
 have hm:(eQ aD param key g).size≤7+g.size:=by
  have:=Hq aD param key g
  unfold eQ
  simp only [Fo.size]
  omega
 exact Zu _ (Fo.F4 _ _ (aa7 hG hk (by omega))) fun x hx=>by have:=Fo.pz _ _ x hx;omega
theorem adK {aD param key:List Int} {g:Fo} (hk:aH key) (hg:g.Ok 0) {e:ByteArray × Int} (h:∃ (a b:Int) (c:Bool) (d:List Int) (ks:Fo),(eQ aD param key g).flat 0=(Fo.cons a b c d ks .nil).flat 0∧(Fo.cons a b c d ks .nil).Ok 0∧(Fo.cons a b c d ks .nil).enc.length≤65535∧e.1=strOfNums (Fo.cons a b c d ks .nil).enc) :
 (eQ aD param key g).Ok 0∧(eQ aD param key g).enc.length≤65535∧e.1=strOfNums (eQ aD param key g).enc:=by
 obtain ⟨a,b,c,d,ks,h1,h2,h3,h4⟩:=h
 have:eQ aD param key g=Fo.cons a b c d ks .nil:=Fo.BB (adI hk hg) h2.by h1 (by unfold eQ;rw [Fo.roots,Fo.roots,Fo.roots,Fo.roots])
 rw [this]
 exact ⟨h2,h3,h4⟩
def Wr (aD param key attrs:List Int) (e:ByteArray × Int):Prop:=e.2=0→∃ g:Fo,Gd aD param∧g.Ok 0∧g.enc=attrs∧(eQ aD param key g).Ok 0∧(eQ aD param key g).enc.length≤65535∧e.1=strOfNums (eQ aD param key g).enc
theorem ab3 {Y:List (List Int)} (hY:Y.length≤65535) {x4:ByteArray} {x6:List Nd} {s:ByteArray} {Z:List (List Int)} {g:Fo} (h:Gs Z g):∀ (q:Nat) (X:List (List Nd)) {R:List Nd × Bool},Y.drop q=Z→X.length≤q →
 Ev (fun k=>gm.l0 k x4 x6 (Y.map strOfNums) (X++g.parts) ((q+Z.length:Nat):Int) s) R→Ev (fun k=>gm.l0 k x4 x6 (Y.map strOfNums) X (q:Int) s) R:=by
 induction h with
 | nil =>
  intro q X R hq hX hR
  rw [Fo.parts,List.append_nil] at hR
  exact hR
 | @cons z Z a b c d ks g he ho p1 p2 h ih =>
  intro q X R hq hX hR
  obtain ⟨h1,h2,h3⟩:=u7 Y q hq
  refine Ev.step (fun k=>by rw [gm.l0,h2]) ?_
  refine Ev.ae (by rw [List.length_map];omega) (Ev.ae (by omega) (Ev.bind p2 (Ev.ae rfl (Ev.ae (by omega) ?_))))
  rw [aO (x:=(q:Int)+1) (by omega) (by omega)]
  refine ih (q+1) (X++[(Fo.cons a b c d ks .nil).flat 0]) h3 (by rw [List.length_append,List.length_singleton];omega) ?_
  rw [List.append_assoc,List.singleton_append]
  rw [List.length_cons,show q+(Z.length+1)=q+1+Z.length by omega] at hR
  exact hR
theorem ac7 {Y:List (List Int)} (hY:Y.length≤65535) {x4:ByteArray} {x6:List Nd} {s:ByteArray} {Z:List (List Int)} (h:Gb Z):∀ (q:Nat) (X:List (List Nd)),Y.drop q=Z→X.length≤q→Ev (fun k=>gm.l0 k x4 x6 (Y.map strOfNums) X (q:Int) s) ([],false):=by
 induction h with
 | here hc p1 p2 =>
  intro q X hq hX
  obtain ⟨h1,h2,h3⟩:=u7 Y q hq
  refine Ev.step (fun k=>by rw [gm.l0,h2]) ?_
  exact Ev.ae (by rw [List.length_map];omega) (Ev.ae (by omega) (Ev.bind p2 (Ev.ai hc (Ev.now _))))
 | there p1 p2 h ih =>
  intro q X hq hX
  obtain ⟨h1,h2,h3⟩:=u7 Y q hq
  refine Ev.step (fun k=>by rw [gm.l0,h2]) ?_
  refine Ev.ae (by rw [List.length_map];omega) (Ev.ae (by omega) (Ev.bind p2 (Ev.ae rfl (Ev.ae (by omega) ?_))))
  rw [aO (x:=(q:Int)+1) (by omega) (by omega)]
  exact ih (q+1) _ h3 (by rw [List.length_append,List.length_singleton];omega)
theorem ac8 {Y:List ByteArray} (aD param key:List Int) (g:Fo) (hz:g.size≤993) {b:Bool} (h:Ev (fun k=>ja.f k ((eQ aD param key g).flat 0)) b) :
 Ev (fun k=>gm.l0 k (strOfNums (dQ (numsOf aD))) ((gG param).flat 0) Y g.parts (Y.length:Int) (strOfNums key)) ((eQ aD param key g).flat 0,b):=by
 refine Ev.step (fun k=>by rw [gm.l0]) ?_
 have hp:=BC param
 have e1:[(Fo.cons 0 6 false (dQ (numsOf aD)) .nil .nil).flat 0,(gG param).flat 0]=(Fo.cons 0 6 false (dQ (numsOf aD)) .nil (gG param)).parts:=by
  unfold gG
  split<;>rfl
 have o1:=Gw 0 16 (Fo.cons 0 6 false (dQ (numsOf aD)) .nil (gG param)) (by simp only [Fo.size];omega)
 rw [← e1] at o1
 refine Ev.ai (by omega) (Ev.eB rfl (Ev.eB rfl (Ev.bind o1 (Ev.eB rfl ?_))))
 have hk:=Hq aD param key g
 have o2:=Gw 0 16 (gZ aD param key g) (by omega)
 by_cases hg:g=.nil
 ·subst hg
  refine Ev.ai (by simp [Fo.parts]) ?_
  have e2:(gZ aD param key .nil).parts=[(Fo.cons 0 2 false [0] .nil .nil).flat 0,(Fo.cons 0 16 true [] (.cons 0 6 false (dQ (numsOf aD)) .nil (gG param)) .nil).flat 0,(Fo.cons 0 4 false key .nil .nil).flat 0]:=rfl
  rw [e2] at o2
  exact Ev.bind o2 (Ev.bind h (Ev.now _))
 ·refine Ev.ae (by have:=Fo.TC.2 hg;omega) (Ev.bind (Gw 2 0 g (by omega)) (Ev.ae (by simp only [List.length_cons,List.length_nil];omega) ?_))
  have e2:(gZ aD param key g).parts=[(Fo.cons 0 2 false [0] .nil .nil).flat 0,(Fo.cons 0 16 true [] (.cons 0 6 false (dQ (numsOf aD)) .nil (gG param)) .nil).flat 0,(Fo.cons 0 4 false key .nil .nil).flat 0]++[(Fo.cons 2 0 true [] g .nil).flat 0]:=by
   unfold gZ
   rw [IZ hg]
   rfl
  rw [e2] at o2
  exact Ev.bind o2 (Ev.bind h (Ev.now _))
theorem Ut {aD param:List Int} (ha:aD.length≤1000) (hp:param.length≤1000) (hG:Gd aD param) {key s:ByteArray} {R:List Nd × Bool} (h:Ev (fun k=>gm.j0 k (strOfNums (dQ (numsOf aD))) ((gG param).flat 0) key s) R):Ev (fun k=>gm.f k aD param key s) R:=by
 have n1:=xm aD ha
 have n2:=xm param hp
 rw [if_pos hG.1] at n1
 refine Ev.congr (fun k=>by rw [gm.f]) ?_
 refine Ev.bind n1 (Ev.ae rfl (Ev.eB rfl ?_))
 by_cases h0:param=[]
 ·subst h0
  exact Ev.ai (by simp) h
 ·rw [if_pos (hG.2.resolve_left h0)] at n2
  have hl:(param.length:Int) > 0:=by
   have:param.length≠0:=fun e=>h0 (List.eq_nil_of_length_eq_zero e)
   omega
  refine Ev.ae hl (Ev.bind n2 (Ev.ae rfl (Ev.eB rfl ?_)))
  unfold gG at h
  rw [if_neg h0] at h
  exact h
theorem U5 {aD param:List Int} (ha:aD.length≤1000) (hp:param.length≤1000) (hG:¬ Gd aD param) {key s:ByteArray}:Ev (fun k=>gm.f k aD param key s) ([],false):=by
 have n1:=xm aD ha
 have n2:=xm param hp
 refine Ev.congr (fun k=>by rw [gm.f]) ?_
 by_cases h1:fV aD=true
 ·rw [if_pos h1] at n1
  refine Ev.bind n1 (Ev.ae rfl (Ev.eB rfl ?_))
  have h2:param≠[]∧¬ fV param=true:=⟨fun e=>hG ⟨h1,.inl e⟩,fun e=>hG ⟨h1,.inr e⟩⟩
  rw [if_neg h2.2] at n2
  have hl:(param.length:Int) > 0:=by
   have:param.length≠0:=fun e=>h2.1 (List.eq_nil_of_length_eq_zero e)
   omega
  exact Ev.ae hl (Ev.bind n2 (Ev.ai (by simp) (Ev.now _)))
 ·rw [if_neg h1] at n1
  exact Ev.bind n1 (Ev.ai (by simp) (Ev.now _))
theorem Bh {aD param:List Int} {key s:ByteArray} {t:List Nd} (h:Ev (fun k=>gm.f k aD param key s) (t,false)):Ev (fun k=>mD.f k aD param key s) (⟨#[]⟩,1):=by
 refine Ev.congr (fun k=>by rw [mD.f]) ?_
 exact Ev.bind h (Ev.ai (by simp) (Ev.now _))
theorem WB (aD param key attrs:List Int) (ha:aD.length≤1000) (hp:param.length≤1000) (hk:aH key) (hkl:key.length≤1000) (hs:aH attrs) (hsl:attrs.length≤1000) :
 ∃ e,Ev (fun k=>iY.f k aD param (strOfNums key) (strOfNums attrs)) e∧Ev (fun k=>mD.f k aD param (strOfNums key) (strOfNums attrs)) e∧Wr aD param key attrs e:=by
 by_cases hG:Gd aD param
 case neg =>
  cases Sd attrs hs (by omega) with
  | bad Y c q p1 p2 hb e=>exact ⟨_,Gx ha hp e (by simp),Bh (U5 ha hp hG),fun h=>by cases h⟩
  | ok g Z q p1 p2 hZ hg he e=>exact ⟨_,Gx ha hp e (by simp [hG]),Bh (U5 ha hp hG),fun h=>by cases h⟩
 cases Sd attrs hs (by omega) with
 | bad Y c q p1 p2 hb e =>
  refine ⟨_,Gx ha hp e (by simp),Bh (t:=[]) (Ut ha hp hG ?_),fun h=>by cases h⟩
  refine Ev.step (fun k=>by rw [gm.j0]) ?_
  rcases hb with hc | ⟨Z,rfl,rfl,hZ,hb⟩
  ·exact Ev.bind p2 (Ev.ai hc (Ev.now _))
  ·exact Ev.bind p2 (Ev.ae rfl (ac7 hZ hb 0 [] List.drop_zero (Nat.zero_le _)))
 | ok g Z q p1 p2 hZ hg he e =>
  have hz:=g.kG
  rw [he] at hz
  have run:∀ {b},Ev (fun k=>ja.f k ((eQ aD param key g).flat 0)) b→Ev (fun k=>gm.f k aD param (strOfNums key) (strOfNums attrs)) ((eQ aD param key g).flat 0,b):=fun h=>by
   refine Ut ha hp hG ?_
   refine Ev.step (fun k=>by rw [gm.j0]) ?_
   refine Ev.bind p2 (Ev.ae rfl (ab3 hZ hg 0 [] List.drop_zero (Nat.zero_le _) ?_))
   have:=ac8 (Y:=Z.map strOfNums) aD param key g (by omega) h
   rw [List.length_map] at this
   rw [List.nil_append,Nat.zero_add]
   exact this
  cases adJ hG (key:=key) (g:=g) (by omega) (by rw [he];omega) with
  | no h1 h2=>exact ⟨_,F6 ha hp hG e (by omega) h1,Bh (run h2),fun h=>by cases h⟩
  | yes e' h1 h2 h3 h4 =>
   refine ⟨e',F6 ha hp hG e (by omega) h1,?_,fun h=>?_⟩
   ·refine Ev.congr (fun k=>by rw [mD.f]) ?_
    exact Ev.bind (run h2) (Ev.ae rfl (Ev.bind h3 (Ev.now _)))
   ·obtain ⟨g1,g2,g3⟩:=adK hk hg.ok (h4 h)
    exact ⟨g,hG,hg.ok,he,g1,g2,g3⟩
theorem Fo.Ok.less:∀ {f:Fo} {dep QO:Nat},f.Ok dep→QO≤dep→f.Ok QO
 | .nil,_,_,_,_=>trivial
 | .cons a b c d ks r,dep,QO,h,hd=>⟨h.1,h.2.1,by have:=h.2.2.1;omega,h.2.2.2.1,h.2.2.2.2.1,h.2.2.2.2.2.1,h.2.2.2.2.2.2.1,Fo.Ok.less h.2.2.2.2.2.2.2.1 (by omega),Fo.Ok.less h.2.2.2.2.2.2.2.2 hd⟩
theorem Fo.Ok.one {a b:Int} {c:Bool} {d:List Int} {ks r:Fo} {dep:Nat} (h:(Fo.cons a b c d ks r).Ok dep):(Fo.cons a b c d ks .nil).Ok 0:=Fo.Ok.less (dep:=dep) ⟨h.1,h.2.1,h.2.2.1,h.2.2.2.1,h.2.2.2.2.1,h.2.2.2.2.2.1,h.2.2.2.2.2.2.1,h.2.2.2.2.2.2.2.1,trivial⟩ (Nat.zero_le _)
theorem Fo.Ok.rest {a b:Int} {c:Bool} {d:List Int} {ks r:Fo} {dep:Nat} (h:(Fo.cons a b c d ks r).Ok dep):r.Ok dep:=h.2.2.2.2.2.2.2.2
theorem Fo.Ok.kids {a b:Int} {c:Bool} {d:List Int} {ks r:Fo} {dep:Nat} (h:(Fo.cons a b c d ks r).Ok dep):ks.Ok (dep+1):=h.2.2.2.2.2.2.2.1
theorem Fo.jX (a b:Int) (c:Bool) (d:List Int) (ks r:Fo):(Fo.cons a b c d ks .nil).enc.length≤(Fo.cons a b c d ks r).enc.length∧r.enc.length≤(Fo.cons a b c d ks r).enc.length∧ks.enc.length≤(Fo.cons a b c d ks r).enc.length∧d.length≤(Fo.cons a b c d ks r).enc.length:=by
 rw [Fo.jv,Fo.jv,List.length_append]
 simp only [Fo.enc,List.length_nil]
 omega
theorem toList_inj {x y:ByteArray} (h:x.toList=y.toList):x=y:=by
 rw [ByteArray.toList_eq,ByteArray.toList_eq] at h
 exact ByteArray.ext (Array.toList_inj.1 h)
theorem U6 {l:List Int} {y:Int} {i:Nat} (h:l.length=i):Ev (fun k=>jQ.l0 k l y (l.length:Int) (i:Int)) (-1):=by
 refine Ev.step (fun k=>by rw [jQ.l0]) ?_
 exact Ev.ai (by omega) (Ev.now _)
theorem I1 {l:List Int} {y:Int} {i:Nat} (h:i < l.length) (hl:l.length≤100) (hy:y=rd l (i:Int)):Ev (fun k=>jQ.l0 k l y (l.length:Int) (i:Int)) (i:Int):=by
 refine Ev.step (fun k=>by rw [jQ.l0]) ?_
 exact Ev.ae (by omega) (Ev.ae (by omega) (Ev.ae (by omega) (Ev.ae hy (Ev.now _))))
theorem BS {l:List Int} {y r:Int} {i:Nat} (h:i < l.length) (hl:l.length≤100) (hy:¬ y=rd l (i:Int)) (k:Ev (fun k=>jQ.l0 k l y (l.length:Int) ((i+1:Nat):Int)) r):Ev (fun k=>jQ.l0 k l y (l.length:Int) (i:Int)) r:=by
 refine Ev.step (fun k=>by rw [jQ.l0]) ?_
 rw [aO (x:=(i:Int)+1) (by omega) (by omega)]
 exact Ev.ae (by omega) (Ev.ae (by omega) (Ev.ae (by omega) (Ev.ai hy k)))
theorem xX {l:List Int} {y r:Int} {b:Bool} (h:Ev (fun k=>jQ.l0 k l y (l.length:Int) ((0:Nat):Int)) r) (hb:decide (r≥0)=b):Ev (fun k=>qb.f k l y) b:=by
 refine Ev.congr (fun k=>by rw [qb.f,jQ.f]) ?_
 exact Ev.bind h ((Ev.now _).eq hb)
theorem ac9 (x y:Int):Ev (fun k=>qb.f k [x] y) (decide (y=x)):=by
 by_cases h:y=x
 ·exact xX (I1 (Nat.zero_lt_one) (by simp) h) (by simp [h])
 ·exact xX (BS (Nat.zero_lt_one) (by simp) h (U6 rfl)) (by simp [h])
theorem ada (x z y:Int):Ev (fun k=>qb.f k [x,z] y) (decide (y=x∨y=z)):=by
 by_cases h:y=x
 ·exact xX (I1 (by simp) (by simp) h) (by simp [h])
 by_cases h2:y=z
 ·exact xX (BS (by simp) (by simp) h (I1 (by simp) (by simp) h2)) (by simp [h2])
 ·exact xX (BS (by simp) (by simp) h (BS (by simp) (by simp) h2 (U6 rfl))) (by simp [h,h2])
theorem vz (a b:Int) (c:Bool) (d:List Int) (ks:Fo) (x:Int):Ev (fun k=>gH.f k ((Fo.cons a b c d ks .nil).flat 0) [x]) (decide (a=0∧b=x)):=by
 refine Ev.congr (fun k=>by rw [gH.f]) ?_
 refine Ev.ae (by rw [Fo.fD,Fo.size];omega) ?_
 rw [Fo.xu]
 by_cases h:a=0
 ·refine Ev.ae h (Ev.bind (ac9 x b) ((Ev.now _).eq (by simp [h])))
 ·exact Ev.ai h ((Ev.now _).eq (by simp [h]))
theorem adL (a b:Int) (c:Bool) (d:List Int) (ks:Fo) (x z:Int):Ev (fun k=>gH.f k ((Fo.cons a b c d ks .nil).flat 0) [x,z]) (decide (a=0∧(b=x∨b=z))):=by
 refine Ev.congr (fun k=>by rw [gH.f]) ?_
 refine Ev.ae (by rw [Fo.fD,Fo.size];omega) ?_
 rw [Fo.xu]
 by_cases h:a=0
 ·refine Ev.ae h (Ev.bind (ada x z b) ((Ev.now _).eq (by simp [h])))
 ·exact Ev.ai h ((Ev.now _).eq (by simp [h]))
theorem YO {d:List Int} (hd:aH d) (hl:d.length≤65535) (h:Rt 6 d):∃ aD,zb d aD∧eD d=(aD,true):=by
 have h1:Ev (fun k=>jV.f k 6 (strOfNums d)) (eD d).2:=by
  refine Ev.congr (fun k=>by rw [jV.f]) ?_
  exact Ev.ai (by decide) (Ev.ai (by decide) (Ev.ai (by decide) (Ev.ai (by decide) (Ev.ai (by decide) (Ev.ae rfl (Ev.bind (Bc d hd (by omega)) (Ev.now _)))))))
 have h2:(eD d).2=true:=Ev.uniq h1 h.1
 have h3:eD d=((eD d).1,true):=by rw [← h2]
 exact ⟨_,SG hd h3,h3⟩
theorem rt5 {d:List Int} (hd:aH d) (h:Rt 5 d):d=[]:=by
 have h1:Ev (fun k=>jV.f k 5 (strOfNums d)) ((strOfNums d).toList == ([]:List UInt8)):=by
  refine Ev.congr (fun k=>by rw [jV.f]) ?_
  exact Ev.ai (by decide) (Ev.ai (by decide) (Ev.ai (by decide) (Ev.ai (by decide) (Ev.ae rfl (Ev.now _)))))
 have h2:=Ev.uniq h1 h.1
 have h3:(strOfNums d).toList=[]:=eq_of_beq h2
 have h4:=dW d
 have h5:(strOfNums d).size=0:=by
  have:(strOfNums d).toList.length=(strOfNums d).size:=by rw [ByteArray.toList_eq];simp
  rw [← this,h3]
  rfl
 exact List.eq_nil_of_length_eq_zero (by omega)
theorem Av {a b:Int} {c:Bool} {d:List Int} {ks r:Fo} {dep:Nat} (h:(Fo.cons a b c d ks r).Ok dep) (ha:a=0) (h16:b≠16) (Fe:b≠17):c=false∧ks=.nil∧Rt b d:=by
 obtain ⟨_,_,_,hm,_,_,hk,_⟩:=h
 have:=hm ha
 cases c with
 | true=>rcases this.1 rfl with h | h<;>contradiction
 | false=>exact ⟨rfl,hk rfl,this.2 rfl⟩
theorem Iy {a b:Int} {c:Bool} {d:List Int} {ks r:Fo} {dep:Nat} (h:(Fo.cons a b c d ks r).Ok dep) (hk:ks≠.nil):c=true∧d=[]:=by
 obtain ⟨_,_,_,_,_,hd,hk',_⟩:=h
 cases c with
 | true=>exact ⟨rfl,hd rfl⟩
 | false=>exact absurd (hk' rfl) hk
def Ba (a b:Int) (ks:Fo) (aD param:List Int):Prop:=a=0∧b=16∧ks=.cons 0 6 false (dQ (numsOf aD)) .nil (gG param)∧Gd aD param
theorem I4 {L:List (List Nd)} {x y:List Int} {u v:ByteArray}:Ev (fun k=>ib.j0 k L true x y u v) (false,x,y,u,v):=by
 refine Ev.step (fun k=>by rw [ib.j0]) ?_
 exact Ev.ae rfl (Ev.now _)
theorem adM (a b:Int) (c:Bool) (d:List Int) (ks:Fo) (ho:(Fo.cons a b c d ks .nil).Ok 0) (hs:(Fo.cons a b c d ks .nil).enc.length≤2000) (u v:ByteArray) :
 (∃ aD param,Ba a b ks aD param∧Ev (fun k=>ib.f k ((Fo.cons a b c d ks .nil).flat 0) [] [] u v) (true,aD,param,u,v)) ∨
 ((¬ ∃ aD param,Ba a b ks aD param)∧∃ x y,Ev (fun k=>ib.f k ((Fo.cons a b c d ks .nil).flat 0) [] [] u v) (false,x,y,u,v)):=by
 have hz:=Fo.kG (Fo.cons a b c d ks .nil)
 have kids:=FB a b c d ks ho (by omega) (Fo.oC _ _ (by omega))
 have h16:=vz a b c d ks 16
 have run:∀ {R},Ev (fun k=>if decide (a=0∧b=16)=true then (if (ks.parts.length:Int)=2 then (if 0 < (ks.parts.length:Int) then ((gH.f k (bC ks.parts 0) ([6]:List Int)).bind fun wF=>(ib.j0 k ks.parts (!wF) [] [] u v)) else (none)) else (ib.j0 k ks.parts true [] [] u v)) else (ib.j0 k ks.parts true [] [] u v)) R→Ev (fun k=>ib.f k ((Fo.cons a b c d ks .nil).flat 0) [] [] u v) R:=fun h=>by
  refine Ev.congr (fun k=>by rw [ib.f]) ?_
  exact Ev.bind kids (Ev.bind h16 h)
 by_cases hab:a=0∧b=16
 case neg=>exact .inr ⟨fun ⟨_,_,h1,h2,_⟩=>hab ⟨h1,h2⟩,_,_,run (Ev.ai (by simpa using hab) I4)⟩
 have hab':decide (a=0∧b=16)=true:=decide_eq_true hab
 have two:∀ {R},(¬ (ks.parts.length:Int)=2)→(∀ aD param,¬ Ba a b ks aD param)∧(Ev (fun k=>ib.j0 k ks.parts true [] [] u v) R→Ev (fun k=>ib.f k ((Fo.cons a b c d ks .nil).flat 0) [] [] u v) R):=fun h=>by
  refine ⟨fun aD param ⟨_,_,h3,_⟩=>h ?_,fun hj=>run (Ev.ae hab' (Ev.ai h hj))⟩
  rw [h3]
  unfold gG
  split<;>rfl
 have bad:(¬ (ks.parts.length:Int)=2)→(∃ aD param,Ba a b ks aD param∧Ev (fun k=>ib.f k ((Fo.cons a b c d ks .nil).flat 0) [] [] u v) (true,aD,param,u,v)) ∨
  ((¬ ∃ aD param,Ba a b ks aD param)∧∃ x y,Ev (fun k=>ib.f k ((Fo.cons a b c d ks .nil).flat 0) [] [] u v) (false,x,y,u,v)):=fun h=>.inr ⟨fun ⟨x,y,hA⟩=>(two (R:=(false,[],[],u,v)) h).1 x y hA,_,_,(two h).2 I4⟩
 have hle:=Fo.jX a b c d ks .nil
 rcases ks with _ | ⟨a0,b0,c0,d0,k0,_ | ⟨a1,b1,c1,d1,k1,_ | ⟨a2,b2,c2,d2,k2,r⟩⟩⟩
 ·exact bad (by simp [Fo.parts])
 ·exact bad (by simp [Fo.parts])
 ·clear bad two
  have o0:=ho.kids
  have o1:=o0.rest
  have l0:=Fo.jX a0 b0 c0 d0 k0 (.cons a1 b1 c1 d1 k1 .nil)
  have l1:=Fo.jX a1 b1 c1 d1 k1 .nil
  have i0:=vz a0 b0 c0 d0 k0 6
  by_cases h0:a0=0∧b0=6
  case neg =>
   refine .inr ⟨fun ⟨aD,param,_,_,h3,_⟩=>h0 (by injection h3 with e1 e2;exact ⟨e1,e2⟩),[],[],run (Ev.ae hab' (Ev.ae rfl (Ev.ae (by simp [Fo.parts]) (Ev.bind i0 ?_))))⟩
   rw [decide_eq_false h0]
   exact I4
  obtain ⟨rfl,rfl⟩:=h0
  obtain ⟨rfl,rfl,r0⟩:=Av o0 rfl (by decide) (by decide)
  obtain ⟨aD,g0,e0⟩:=YO o0.2.2.2.2.1 (by omega) r0
  have D0:Ev (fun k=>mE.f k ((aa (bC (Fo.cons 0 6 false d0 .nil (.cons a1 b1 c1 d1 k1 .nil)).parts 0) 0).f3)) (eD d0):=Bc d0 o0.2.2.2.2.1 (by omega)
  rw [e0] at D0
  have go:∀ {R},Ev (fun k=>(gH.f k ((Fo.cons a1 b1 c1 d1 k1 .nil).flat 0) ([6]:List Int)).bind fun zQ=>(if zQ=true then (if 0 < (((Fo.cons a1 b1 c1 d1 k1 .nil).flat 0).length:Int) then ((mE.f k ((aa ((Fo.cons a1 b1 c1 d1 k1 .nil).flat 0) 0).f3)).bind fun wE=>((gH.f k ((Fo.cons a1 b1 c1 d1 k1 .nil).flat 0) ([6,5]:List Int)).bind fun zR=>(some (zR,aD,wE.1,u,v)))) else (none)) else ((gH.f k ((Fo.cons a1 b1 c1 d1 k1 .nil).flat 0) ([6,5]:List Int)).bind fun zS=>(some (zS,aD,([]:List Int),u,v))))) R →
   Ev (fun k=>ib.f k ((Fo.cons a b c d (.cons 0 6 false d0 .nil (.cons a1 b1 c1 d1 k1 .nil)) .nil).flat 0) [] [] u v) R:=fun h=>by
   refine run (Ev.ae hab' (Ev.ae rfl (Ev.ae (by simp [Fo.parts]) (Ev.bind i0 ?_))))
   refine Ev.step (fun k=>by rw [ib.j0]) ?_
   refine Ev.ai (by simp) (Ev.ae (by simp [Fo.parts]) (Ev.ae (by simp [Fo.parts,Fo.flat,bC]) (Ev.bind D0 (Ev.ae (by simp [Fo.parts]) ?_))))
   exact h
  have i1:=vz a1 b1 c1 d1 k1 6
  have i2:=adL a1 b1 c1 d1 k1 6 5
  by_cases h1:a1=0∧b1=6
  ·obtain ⟨rfl,rfl⟩:=h1
   obtain ⟨rfl,rfl,r1⟩:=Av o1 rfl (by decide) (by decide)
   obtain ⟨param,g1,e1⟩:=YO o1.2.2.2.2.1 (by omega) r1
   have D1:Ev (fun k=>mE.f k ((aa ((Fo.cons 0 6 false d1 .nil .nil).flat 0) 0).f3)) (eD d1):=Bc d1 o1.2.2.2.2.1 (by omega)
   rw [e1] at D1
   have hp:param≠[]:=fun e=>by
    subst e
    exact absurd g1.1 (by decide)
   refine .inl ⟨aD,param,⟨hab.1,hab.2,?_,g0.1,.inr g1.1⟩,go (Ev.bind i1 (Ev.ae rfl (Ev.ae (by simp [Fo.flat]) (Ev.bind D1 (Ev.bind i2 (Ev.now _))))))⟩
   rw [gG,if_neg hp,← g0.2,← g1.2]
  by_cases h2:a1=0∧b1=5
  ·obtain ⟨rfl,rfl⟩:=h2
   obtain ⟨rfl,rfl,r1⟩:=Av o1 rfl (by decide) (by decide)
   obtain rfl:=rt5 o1.2.2.2.2.1 r1
   refine .inl ⟨aD,[],⟨hab.1,hab.2,?_,g0.1,.inl rfl⟩,go (Ev.bind i1 (Ev.ai (by decide) (Ev.bind i2 (Ev.now _))))⟩
   rw [gG,if_pos rfl,← g0.2]
  ·refine .inr ⟨fun ⟨afQ,adN,_,_,h3,_⟩=>?_,aD,[],go (Ev.bind i1 (Ev.ai (by simpa using h1) (Ev.bind i2 ((Ev.now _).eq ?_))))⟩
   ·unfold gG at h3
    split at h3
    ·injection h3 with _ _ _ _ _ h3
     injection h3 with e1 e2
     exact h2 ⟨e1,e2⟩
    ·injection h3 with _ _ _ _ _ h3
     injection h3 with e1 e2
     exact h1 ⟨e1,e2⟩
   ·rw [decide_eq_false]
    rintro ⟨e0,e | e⟩
    ·exact h1 ⟨e0,e⟩
    ·exact h2 ⟨e0,e⟩
 ·exact bad (by simp [Fo.parts];omega)
theorem Fo.SN (g:Fo) (n:Nat):((g.roots n).length:Int)=0↔g=.nil:=by
 cases g with
 | nil=>simp [Fo.roots]
 | cons=>simp [Fo.roots];omega
theorem ab4 (LL:List (List Nd)) (YN:LL.length≤1000) (x y:List Int) (u:ByteArray):∀ (g:Fo) (q:Nat) (v:List Int),LL.drop q=g.parts→g.Ok 0→g.enc.length≤2000→v.length+g.enc.length≤200000→q≤LL.length →
 Ev (fun k=>gJ.l0 k LL (LL.length:Int) (q:Int) x y u (strOfNums v)) (true,x,y,u,strOfNums (v++g.enc)):=by
 intro g
 induction g with
 | nil =>
  intro q v hq ho hg hv oZ
  have:LL.length≤q:=drop_nil hq
  refine Ev.step (fun k=>by rw [gJ.l0]) ?_
  rw [Fo.enc,List.append_nil]
  exact Ev.ai (by omega) (Ev.now _)
 | cons a b c d ks r _ ih =>
  intro q v hq ho hg hv oZ
  obtain ⟨hlt,e1,e2⟩:=Ho hq
  have hl:=Fo.jX a b c d ks r
  have hz:=Fo.kG (Fo.cons a b c d ks .nil)
  have ee:(Fo.cons a b c d ks r).enc=(Fo.cons a b c d ks .nil).enc++r.enc:=by rw [Fo.enc,Fo.enc,Fo.enc,List.append_nil]
  have hel:=congrArg List.length ee
  rw [List.length_append] at hel
  obtain ⟨_,_,_,_,T,_⟩:=FZ a b c d ks ho.one (by omega) (Fo.oC _ _ (by omega)) (by omega)
  have hv':bC LL (q:Int)=(Fo.cons a b c d ks .nil).flat 0:=by rw [← e1];unfold bC;simp [List.getD_eq_getElem?_getD,hlt]
  refine Ev.step (fun k=>by rw [gJ.l0,hv']) ?_
  refine Ev.ae (by omega) (Ev.ae (by omega) (Ev.ae (by omega) (Ev.bind T (Ev.ae (by rw [dW,dW];omega) ?_))))
  rw [aO (x:=(q:Int)+1) (by omega) (by omega),lZ]
  have:=ih (q+1) (v++(Fo.cons a b c d ks .nil).enc) e2 ho.rest (by omega) (by rw [List.length_append];omega) (by omega)
  rw [List.append_assoc,← ee] at this
  exact this
theorem adO (a b:Int) (c:Bool) (d:List Int) (ks:Fo) (ho:(Fo.cons a b c d ks .nil).Ok 0) (hs:(Fo.cons a b c d ks .nil).enc.length≤2000) (x y:List Int) (u:ByteArray) :
 ((a=2∧b=0∧ks≠.nil)∧Ev (fun k=>gJ.f k ((Fo.cons a b c d ks .nil).flat 0) x y u ⟨#[]⟩) (true,x,y,u,strOfNums ks.enc)) ∨
 (¬ (a=2∧b=0∧ks≠.nil)∧Ev (fun k=>gJ.f k ((Fo.cons a b c d ks .nil).flat 0) x y u ⟨#[]⟩) (false,x,y,u,⟨#[]⟩)):=by
 have hz:=Fo.kG (Fo.cons a b c d ks .nil)
 have hle:=Fo.jX a b c d ks .nil
 have kids:=FB a b c d ks ho (by omega) (Fo.oC _ _ (by omega))
 have no:∀ {t:List Nd},Ev (fun k=>gJ.j0 k t true x y u ⟨#[]⟩) (false,x,y,u,⟨#[]⟩):=by
  intro t
  refine Ev.step (fun k=>by rw [gJ.j0]) ?_
  exact Ev.ae rfl (Ev.now _)
 have run:∀ {R},Ev (fun k=>if a=2 then (if b=0 then (gJ.j0 k ((Fo.cons a b c d ks .nil).flat 0) (((ks.roots 1).length:Int) == 0) x y u ⟨#[]⟩) else (gJ.j0 k ((Fo.cons a b c d ks .nil).flat 0) true x y u ⟨#[]⟩)) else (gJ.j0 k ((Fo.cons a b c d ks .nil).flat 0) true x y u ⟨#[]⟩)) R→Ev (fun k=>gJ.f k ((Fo.cons a b c d ks .nil).flat 0) x y u ⟨#[]⟩) R:=fun h=>by
  refine Ev.congr (fun k=>by rw [gJ.f]) ?_
  refine Ev.ae (by rw [Fo.fD,Fo.size];omega) ?_
  rw [Fo.xu] at h ⊢
  exact h
 by_cases ha:a=2
 case neg=>exact .inr ⟨fun h=>ha h.1,run (Ev.ai ha no)⟩
 by_cases hb:b=0
 case neg=>exact .inr ⟨fun h=>hb h.2.1,run (Ev.ae ha (Ev.ai hb no))⟩
 by_cases hk:ks=.nil
 ·refine .inr ⟨fun h=>h.2.2 hk,run (Ev.ae ha (Ev.ae hb ?_))⟩
  rw [show (((ks.roots 1).length:Int) == 0)=true from beq_iff_eq.2 ((Fo.SN ks 1).2 hk)]
  exact no
 ·refine .inl ⟨⟨ha,hb,hk⟩,run (Ev.ae ha (Ev.ae hb ?_))⟩
  rw [show (((ks.roots 1).length:Int) == 0)=false from beq_eq_false_iff_ne.2 (fun e=>hk ((Fo.SN ks 1).1 e))]
  refine Ev.step (fun k=>by rw [gJ.j0]) ?_
  refine Ev.ai (by simp) (Ev.bind kids ?_)
  have hp:=ks.Bq
  have hz2:ks.size≤(Fo.cons a b c d ks .nil).size:=by simp only [Fo.size];omega
  have:=ab4 ks.parts (by omega) x y u ks 0 [] List.drop_zero (ho.kids.less (Nat.zero_le _)) (by omega) (by simp;omega) (Nat.zero_le _)
  rw [List.nil_append] at this
  exact this
def N5:List Int × List Int × ByteArray × ByteArray × Int:=([],[],⟨#[]⟩,⟨#[]⟩,5)
theorem Ci {L:List (List Nd)} {x y:List Int} {u v:ByteArray}:Ev (fun k=>dV.j1 k L true x y u v) N5:=by
 refine Ev.step (fun k=>by rw [dV.j1]) ?_
 exact Ev.ae rfl (Ev.now _)
theorem I5 {L:List (List Nd)} {u v:ByteArray}:Ev (fun k=>dV.j0 k L true u v) N5:=by
 refine Ev.step (fun k=>by rw [dV.j0]) ?_
 exact Ev.ae rfl (Ev.now _)
def Shp (T:Fo):Prop:=∃ aD param key g,Gd aD param∧T=eQ aD param key g
def DS (T:Fo) (s:ByteArray):Prop:=(∃ aD param key g,Gd aD param∧T=eQ aD param key g∧Ev (fun k=>dV.f k s) (aD,param,strOfNums key,strOfNums g.enc,0))∨(¬ Shp T∧Ev (fun k=>dV.f k s) N5)
theorem ab5 (a0 b0:Int) (c0:Bool) (d0:List Int) (k0:Fo) (a1 b1:Int) (c1:Bool) (d1:List Int) (k1:Fo) (a2 b2:Int) (c2:Bool) (d2:List Int) (k2 r:Fo)
 (ho:(Fo.cons a0 b0 c0 d0 k0 (.cons a1 b1 c1 d1 k1 (.cons a2 b2 c2 d2 k2 r))).Ok 1) (hs:(Fo.cons a0 b0 c0 d0 k0 (.cons a1 b1 c1 d1 k1 (.cons a2 b2 c2 d2 k2 r))).enc.length≤2000) (hr:r=.nil∨∃ a b c d ks,r=.cons a b c d ks .nil) :
 (∃ aD param key g,Gd aD param∧Fo.cons a0 b0 c0 d0 k0 (.cons a1 b1 c1 d1 k1 (.cons a2 b2 c2 d2 k2 r))=gZ aD param key g ∧
  Ev (fun k=>dV.j0 k (Fo.cons a0 b0 c0 d0 k0 (.cons a1 b1 c1 d1 k1 (.cons a2 b2 c2 d2 k2 r))).parts false ⟨#[]⟩ ⟨#[]⟩) (aD,param,strOfNums key,strOfNums g.enc,0)) ∨
 ((¬ ∃ aD param key g,Gd aD param∧Fo.cons a0 b0 c0 d0 k0 (.cons a1 b1 c1 d1 k1 (.cons a2 b2 c2 d2 k2 r))=gZ aD param key g) ∧
  Ev (fun k=>dV.j0 k (Fo.cons a0 b0 c0 d0 k0 (.cons a1 b1 c1 d1 k1 (.cons a2 b2 c2 d2 k2 r))).parts false ⟨#[]⟩ ⟨#[]⟩) N5):=by
 have o1:=ho.rest
 have o2:=o1.rest
 have o3:=o2.rest
 have l0:=Fo.jX a0 b0 c0 d0 k0 (.cons a1 b1 c1 d1 k1 (.cons a2 b2 c2 d2 k2 r))
 have l1:=Fo.jX a1 b1 c1 d1 k1 (.cons a2 b2 c2 d2 k2 r)
 have l2:=Fo.jX a2 b2 c2 d2 k2 r
 have i0:=vz a0 b0 c0 d0 k0 2
 have i2:=vz a2 b2 c2 d2 k2 4
 have AL:=adM a1 b1 c1 d1 k1 o1.one (by omega) ⟨#[]⟩ ⟨#[]⟩
 have hL:(Fo.cons a0 b0 c0 d0 k0 (.cons a1 b1 c1 d1 k1 (.cons a2 b2 c2 d2 k2 r))).parts=(Fo.cons a0 b0 c0 d0 k0 .nil).flat 0 :: (Fo.cons a1 b1 c1 d1 k1 .nil).flat 0 :: (Fo.cons a2 b2 c2 d2 k2 .nil).flat 0 :: r.parts:=rfl
 have hlen:((Fo.cons a0 b0 c0 d0 k0 (.cons a1 b1 c1 d1 k1 (.cons a2 b2 c2 d2 k2 r))).parts.length:Int)=3+(r.parts.length:Int):=by rw [hL];simp only [List.length_cons];omega
 have hr0:bC (Fo.cons a0 b0 c0 d0 k0 (.cons a1 b1 c1 d1 k1 (.cons a2 b2 c2 d2 k2 r))).parts 0=(Fo.cons a0 b0 c0 d0 k0 .nil).flat 0:=rfl
 have hr1:bC (Fo.cons a0 b0 c0 d0 k0 (.cons a1 b1 c1 d1 k1 (.cons a2 b2 c2 d2 k2 r))).parts 1=(Fo.cons a1 b1 c1 d1 k1 .nil).flat 0:=rfl
 have hr2:bC (Fo.cons a0 b0 c0 d0 k0 (.cons a1 b1 c1 d1 k1 (.cons a2 b2 c2 d2 k2 r))).parts 2=(Fo.cons a2 b2 c2 d2 k2 .nil).flat 0:=rfl
 have hr3:bC (Fo.cons a0 b0 c0 d0 k0 (.cons a1 b1 c1 d1 k1 (.cons a2 b2 c2 d2 k2 r))).parts 3=bC r.parts 0:=rfl
 have hf0:(aa ((Fo.cons a0 b0 c0 d0 k0 .nil).flat 0) 0).f3=strOfNums d0:=rfl
 have hf2:(aa ((Fo.cons a2 b2 c2 d2 k2 .nil).flat 0) 0).f3=strOfNums d2:=rfl
 generalize hLg:(Fo.cons a0 b0 c0 d0 k0 (.cons a1 b1 c1 d1 k1 (.cons a2 b2 c2 d2 k2 r))).parts=L at *
 have hle0:(0:Int) < (((Fo.cons a0 b0 c0 d0 k0 .nil).flat 0).length:Int):=by rw [Fo.fD,Fo.size];omega
 have hle2:(0:Int) < (((Fo.cons a2 b2 c2 d2 k2 .nil).flat 0).length:Int):=by rw [Fo.fD,Fo.size];omega
 by_cases h0:a0=0∧b0=2
 case neg =>
  refine .inr ⟨fun ⟨aD,param,key,g,_,h3⟩=>h0 (by unfold gZ at h3;injection h3 with e1 e2;exact ⟨e1,e2⟩),?_⟩
  refine Ev.step (fun k=>by rw [dV.j0,hr0]) ?_
  refine Ev.ai (by simp) (Ev.ae (by omega) (Ev.bind i0 (Ev.ai (by simpa using h0) ?_)))
  rw [decide_eq_false h0]
  exact Ci
 obtain ⟨rfl,rfl⟩:=h0
 obtain ⟨rfl,rfl,_⟩:=Av ho rfl (by decide) (by decide)
 by_cases hd:d0=[0]
 case neg =>
  refine .inr ⟨fun ⟨aD,param,key,g,_,h3⟩=>hd (by unfold gZ at h3;injection h3),?_⟩
  have hne:¬ (strOfNums d0).toList=((⟨#[0]⟩:ByteArray)).toList:=fun e=>hd (by
   have h1:=xK (l:=d0) (m:=[0]) ho.2.2.2.2.1 (aH.cons (by decide) (by decide) aH.nil) (toList_inj e)
   exact h1)
  refine Ev.step (fun k=>by rw [dV.j0,hr0]) ?_
  refine Ev.ai (by simp) (Ev.ae (by omega) (Ev.bind i0 (Ev.ae rfl (Ev.ae hle0 (Ev.bind F5 (Ev.ai hne ?_))))))
  rw [hf0,show ((strOfNums d0).toList != ((⟨#[0]⟩:ByteArray)).toList)=true from bne_iff_ne.2 hne]
  exact Ci
 subst hd
 have run:∀ {ok:Bool} {x y:List Int} {u v:ByteArray} {R},Ev (fun k=>ib.f k ((Fo.cons a1 b1 c1 d1 k1 .nil).flat 0) [] [] ⟨#[]⟩ ⟨#[]⟩) (ok,x,y,u,v) →
  Ev (fun k=>if ok=true then (if 2 < (L.length:Int) then ((gH.f k (bC L 2) ([4]:List Int)).bind fun wI=>(dV.j1 k L (!wI) x y u v)) else (none)) else (dV.j1 k L (!ok) x y u v)) R →
  Ev (fun k=>dV.j0 k L false ⟨#[]⟩ ⟨#[]⟩) R:=fun h1 h=>by
  refine Ev.step (fun k=>by rw [dV.j0,hr0]) ?_
  refine Ev.ai (by simp) (Ev.ae (by omega) (Ev.bind i0 (Ev.ae rfl (Ev.ae hle0 (Ev.bind F5 (Ev.ae rfl (Ev.ae (by omega) ?_)))))))
  rw [hr1]
  exact Ev.bind h1 h
 rcases AL with ⟨aD,param,⟨rfl,rfl,rfl,hG⟩,hA⟩ | ⟨hA,x,y,hx⟩
 rotate_left
 ·refine .inr ⟨fun ⟨aD,param,key,g,hG,h3⟩=>hA ⟨aD,param,?_⟩,run hx (Ev.ai (by simp) Ci)⟩
  unfold gZ at h3
  injection h3 with _ _ _ _ _ h3
  injection h3 with e1 e2 e3 e4 e5
  exact ⟨e1,e2,e5,hG⟩
 obtain ⟨rfl,rfl⟩:=Iy o1 (by simp)
 by_cases h2:a2=0∧b2=4
 case neg =>
  refine .inr ⟨fun ⟨aD,param,key,g,_,h3⟩=>h2 (by unfold gZ at h3;injection h3 with _ _ _ _ _ h3;injection h3 with _ _ _ _ _ h3;injection h3 with e1 e2;exact ⟨e1,e2⟩),run hA (Ev.ae rfl (Ev.ae (by omega) ?_))⟩
  rw [hr2]
  refine Ev.bind i2 ?_
  rw [decide_eq_false h2]
  exact Ci
 obtain ⟨rfl,rfl⟩:=h2
 obtain ⟨rfl,rfl,_⟩:=Av o2 rfl (by decide) (by decide)
 have qI:∀ {R},Ev (fun k=>dV.j1 k L false aD param ⟨#[]⟩ ⟨#[]⟩) R→Ev (fun k=>dV.j0 k L false ⟨#[]⟩ ⟨#[]⟩) R:=fun h=>by
  refine run hA (Ev.ae rfl (Ev.ae (by omega) ?_))
  rw [hr2]
  exact Ev.bind i2 h
 rcases hr with rfl | ⟨a3,b3,c3,d3,k3,rfl⟩
 ·refine .inl ⟨aD,param,d2,.nil,hG,rfl,qI ?_⟩
  refine Ev.step (fun k=>by rw [dV.j1,hr2]) ?_
  exact Ev.ai (by simp) (Ev.ai (by rw [hlen];simp [Fo.parts]) (Ev.ae (by omega) (Ev.ae hle2 (Ev.now _))))
 have l3:=Fo.jX a3 b3 c3 d3 k3 .nil
 have h4:(L.length:Int)=4:=by rw [hlen];rfl
 have Yo:bC L 3=(Fo.cons a3 b3 c3 d3 k3 .nil).flat 0:=hr3
 rcases adO a3 b3 c3 d3 k3 o3.one (by omega) aD param ⟨#[]⟩ with ⟨⟨rfl,rfl,hk⟩,hT⟩ | ⟨hn,hT⟩
 ·obtain ⟨rfl,rfl⟩:=Iy o3 hk
  refine .inl ⟨aD,param,d2,k3,hG,by unfold gZ;rw [IZ hk],qI ?_⟩
  refine Ev.step (fun k=>by rw [dV.j1,Yo,hr2]) ?_
  exact Ev.ai (by simp) (Ev.ae h4 (Ev.ae (by omega) (Ev.bind hT (Ev.ae rfl (Ev.ae (by omega) (Ev.ae hle2 (Ev.now _)))))))
 ·refine .inr ⟨fun ⟨afQ,adN,key,g,_,h3⟩=>hn ?_,qI ?_⟩
  ·unfold gZ at h3
   injection h3 with _ _ _ _ _ h3
   injection h3 with _ _ _ _ _ h3
   injection h3 with _ _ _ _ _ h3
   cases g with
   | nil=>cases h3
   | cons =>
    injection h3 with e1 e2 e3 e4 e5
    exact ⟨e1,e2,by rw [e5];simp⟩
  ·refine Ev.step (fun k=>by rw [dV.j1,Yo]) ?_
   exact Ev.ai (by simp) (Ev.ae h4 (Ev.ae (by omega) (Ev.bind hT (Ev.ai (by simp) (Ev.now _)))))
theorem aa8 (a b:Int) (c:Bool) (d:List Int) (ks:Fo) (l:List Int) (hl:aH l) (he:l=(Fo.cons a b c d ks .nil).enc) (ho:(Fo.cons a b c d ks .nil).Ok 0) (hs:l.length≤2000):DS (Fo.cons a b c d ks .nil) (strOfNums l):=by
 rw [he] at hs
 have hz:=Fo.kG (Fo.cons a b c d ks .nil)
 have hle:=Fo.jX a b c d ks .nil
 obtain ⟨p1,_⟩:=xV l hl (by rw [he];omega) a b c d ks he ho (by omega)
 have kids:=FB a b c d ks ho (by omega) (Fo.oC _ _ (by omega))
 have h16:=vz a b c d ks 16
 have run:∀ {R},Ev (fun k=>if decide (a=0∧b=16)=true then (if (ks.parts.length:Int) < 3 then (dV.j0 k ks.parts (decide ((ks.parts.length:Int) < 3)) ⟨#[]⟩ ⟨#[]⟩) else (dV.j0 k ks.parts (decide ((ks.parts.length:Int) > 4)) ⟨#[]⟩ ⟨#[]⟩)) else (dV.j0 k ks.parts (!(decide (a=0∧b=16))) ⟨#[]⟩ ⟨#[]⟩)) R→Ev (fun k=>dV.f k (strOfNums l)) R:=fun h=>by
  refine Ev.congr (fun k=>by rw [dV.f]) ?_
  exact Ev.bind p1 (Ev.ae rfl (Ev.bind kids (Ev.bind h16 h)))
 by_cases hab:a=0∧b=16
 case neg =>
  refine .inr ⟨fun ⟨_,_,_,_,_,h3⟩=>hab (by unfold eQ at h3;injection h3 with e1 e2;exact ⟨e1,e2⟩),run (Ev.ai (by simpa using hab) ?_)⟩
  rw [decide_eq_false hab]
  exact I5
 have hab':decide (a=0∧b=16)=true:=decide_eq_true hab
 have lens:∀ {aD param key g},ks=gZ aD param key g→ks.parts.length=3∨ks.parts.length=4:=fun {aD param key g} e=>by
  rw [e]
  unfold gZ
  cases g with
  | nil=>exact .inl rfl
  | cons=>exact .inr rfl
 by_cases h3:(ks.parts.length:Int) < 3
 ·refine .inr ⟨fun ⟨_,_,_,_,_,e⟩=>?_,run (Ev.ae hab' (Ev.ae h3 ?_))⟩
  ·unfold eQ at e
   injection e with _ _ _ _ e
   rcases lens e with h | h<;>omega
  ·rw [decide_eq_true h3]
   exact I5
 by_cases h4:(ks.parts.length:Int) > 4
 ·refine .inr ⟨fun ⟨_,_,_,_,_,e⟩=>?_,run (Ev.ae hab' (Ev.ai h3 ?_))⟩
  ·unfold eQ at e
   injection e with _ _ _ _ e
   rcases lens e with h | h<;>omega
  ·rw [decide_eq_true h4]
   exact I5
 have qI:∀ {R},Ev (fun k=>dV.j0 k ks.parts false ⟨#[]⟩ ⟨#[]⟩) R→Ev (fun k=>dV.f k (strOfNums l)) R:=fun h=>by
  refine run (Ev.ae hab' (Ev.ai h3 ?_))
  rw [decide_eq_false h4]
  exact h
 obtain ⟨rfl,rfl⟩:=hab
 have fin:ks.parts.length=3∨ks.parts.length=4→DS (Fo.cons 0 16 c d ks .nil) (strOfNums l):=fun hp=>by
  have hks:ks≠.nil:=fun e=>by subst e;simp [Fo.parts] at hp
  obtain ⟨rfl,rfl⟩:=Iy ho hks
  have ok:=ho.kids
  rcases ks with _ | ⟨a0,b0,c0,d0,k0,_ | ⟨a1,b1,c1,d1,k1,_ | ⟨a2,b2,c2,d2,k2,r⟩⟩⟩
  ·exact absurd rfl hks
  ·simp [Fo.parts] at hp
  ·simp [Fo.parts] at hp
  have hr:r=.nil∨∃ a b c d ks,r=.cons a b c d ks .nil:=by
   rcases r with _ | ⟨a,b,c,d,k,_ | ⟨⟩⟩
   ·exact .inl rfl
   ·exact .inr ⟨_,_,_,_,_,rfl⟩
   ·simp only [Fo.parts,List.length_cons] at hp
    omega
  rcases ab5 a0 b0 c0 d0 k0 a1 b1 c1 d1 k1 a2 b2 c2 d2 k2 r ok (by omega) hr with ⟨aD,param,key,g,hG,e,h⟩ | ⟨hn,h⟩
  ·exact .inl ⟨aD,param,key,g,hG,by unfold eQ;rw [e],qI h⟩
  ·refine .inr ⟨fun ⟨aD,param,key,g,hG,e⟩=>hn ⟨aD,param,key,g,hG,?_⟩,qI h⟩
   unfold eQ at e
   injection e
 exact fin (by omega)
theorem afR {aD param key:List Int} {g:Fo} (h:(eQ aD param key g).Ok 0):g.Ok 0∧aH key:=by
 have h1:=(Fo.Ok.kids h).rest.rest
 refine ⟨?_,h1.2.2.2.2.1⟩
 have h2:=h1.rest
 cases g with
 | nil=>trivial
 | cons=>exact (Fo.Ok.kids h2).less (Nat.zero_le _)
theorem ab6 (aD param key:List Int) (g:Fo):g.enc.length≤(eQ aD param key g).enc.length∧key.length≤(eQ aD param key g).enc.length:=by
 unfold eQ gZ
 have h1:g.enc.length≤(mV g).enc.length:=by
  cases g with
  | nil=>exact Nat.le_refl _
  | cons a b c d ks r=>exact (Fo.jX 2 0 true [] (.cons a b c d ks r) .nil).2.2.1
 rw [Fo.jv,List.length_append,Fo.jv,Fo.jv,Fo.jv]
 simp only [List.length_append]
 omega
theorem Gy {aD:List Int} (h:fV aD=true):aD.length≤20:=by
 obtain ⟨a,b,r,rfl,h18,_⟩:=uW h
 simp only [List.length_cons]
 omega
theorem Gd.lens {aD param:List Int} (h:Gd aD param):aD.length≤20∧param.length≤20:=by
 refine ⟨Gy h.1,?_⟩
 rcases h.2 with rfl | h
 ·simp
 ·exact Gy h
theorem adb {aD param key:List Int} {g:Fo} (hG:Gd aD param) (ho:(eQ aD param key g).Ok 0) (hs:(eQ aD param key g).enc.length≤2000):Ev (fun k=>iY.f k aD param (strOfNums key) (strOfNums g.enc)) (strOfNums (eQ aD param key g).enc,0):=by
 obtain ⟨hg,hk⟩:=afR ho
 have hl:=ab6 aD param key g
 have hz:=g.kG
 have hzz:=(eQ aD param key g).kG
 have hb:=g.tQ 0 hg
 obtain ⟨_,_,_,_,T,_⟩:=FZ 0 16 true [] (gZ aD param key g) ho (by unfold eQ at hzz hs;omega) (Fo.oC _ _ hs) (by unfold eQ at hs;omega)
 have hsz:g.size≤993:=by
  cases g with
  | nil=>simp [Fo.size]
  | cons=>unfold eQ gZ at hzz;simp only [Fo.size,mV,BC] at hzz ⊢;unfold eQ gZ at hs;simp only [mV] at hs;omega
 exact F6 (by have:=hG.lens;omega) (by have:=hG.lens;omega) hG (ZR g hg hb (by omega)) hsz T
theorem adP (x y:List Int) (u v:ByteArray) (hx:x.length≤1000) (hy:y.length≤1000):Ev (fun k=>qc.f k x y u v x y u v) true:=by
 refine Ev.congr (fun k=>by rw [qc.f]) ?_
 refine Ev.bind (UZ x x hx) (Ev.ae (by simp) (Ev.bind (UZ y y hy) (Ev.ae (by simp) (Ev.ae rfl ((Ev.now _).eq ?_)))))
 simp
theorem Yp:Ev (fun k=>qP.f k) true:=Ev.from_ 60 (fun n=>by kernel_rfl)
theorem rO {t:List Nd} {n:Nat} {a b:Int} {c:Bool} {d:List Int} {ks r:Fo} (h:FW t n (.cons a b c d ks r)):n < t.length∧aa t (n:Int)=nd a b c (strOfNums d) (ks.roots (n+1))∧FW t (n+1) ks∧FW t (n+1+ks.size) r:=by
 obtain ⟨h1,h2,h3,h4⟩:=oD.1 h
 exact ⟨h1,by rw [jw t n h1,h2],h3,h4⟩
def qJ:Fo→Option (List Int × List Int × List Int × List Int)
 | .cons _ _ _ _ _ (.cons _ _ _ _ (.cons _ _ _ e0 _ (.cons _ _ _ e1 _ .nil)) (.cons _ _ _ d2 _ .nil))=>some ((eD e0).1,(eD e1).1,d2,[])
 | .cons _ _ _ _ _ (.cons _ _ _ _ (.cons _ _ _ e0 _ (.cons _ _ _ e1 _ .nil)) (.cons _ _ _ d2 _ (.cons _ _ _ _ k3 .nil)))=>some ((eD e0).1,(eD e1).1,d2,k3.enc)
 | _=>none
def EW (s:ByteArray) (x y:List Int) (u v:ByteArray) (k:Nat):Option (List Int × List Int × ByteArray × ByteArray × Int):=(mD.f k x y u v).bind fun t=>(if t.2=0 then (if t.1.toList=s.toList then (some (x,y,u,v,0)) else (some N5)) else (some N5))
theorem TF (l:List Int) (hl:aH l) (hs:l.length≤1000000):Ev (fun k=>gu.f k (strOfNums l)) (eD l):=by
 rw [← UU l hl]
 exact RI l hl hs
theorem Cj (c:List Int) (hc:aH c):(eD c).1.length≤20:=by
 unfold eD
 split
 ·split
  ·rename_i h;exact Gy h
  ·simp
 ·simp
theorem afS {l:List Int} {q:Nat} {x:Int} {m:List Int} (h:l.drop q=x :: m):q < l.length∧rd l (q:Int)=x∧l.drop (q+1)=m:=by
 have hq:q < l.length:=by
  rcases Nat.lt_or_ge q l.length with g | g
  ·exact g
  ·rw [List.drop_eq_nil_of_le g] at h;cases h
 rw [List.drop_eq_getElem_cons hq] at h
 obtain ⟨h1,h2⟩:=List.cons.inj h
 exact ⟨hq,by rw [jZ q hq,h1],h2⟩
theorem afT (a b:Int) (c:Bool) (d:List Int) (ks:Fo) (ho:(Fo.cons a b c d ks .nil).Ok 0) (hs:(Fo.cons a b c d ks .nil).enc.length≤2000) (s:ByteArray) (x6:List Int) (p:Int) (L:List Int) (h3:3 < (x6.length:Int)) (hp:rd x6 3=p) (hp0:0≤p) (hp1:p < (((Fo.cons a b c d ks .nil).flat 0).length:Int))
 (hL:(aa ((Fo.cons a b c d ks .nil).flat 0) p).f4=L) (x y:List Int) (u:ByteArray) {R:List Int × List Int × ByteArray × ByteArray × Int} (dep:Nat) (hd:dep < 16):∀ (g:Fo) (q m:Nat) (v:List Int),L.drop q=g.roots m→FW ((Fo.cons a b c d ks .nil).flat 0) m g→g.Ok dep→g.enc.length≤2000→v.length+g.enc.length≤200000→q≤3000 →
 Ev (EW s x y u (strOfNums (v++g.enc))) R→m≤((Fo.cons a b c d ks .nil).flat 0).length→q+g.size≤3000→Ev (fun k=>eG.l0 k s ((Fo.cons a b c d ks .nil).flat 0) x6 (q:Int) x y u (strOfNums v)) R:=by
 intro g
 induction g with
 | nil =>
  intro q m v hq hf hg hgl hv hq3 hR hm hqz
  have:=drop_nil hq
  refine Ev.step (fun k=>by rw [eG.l0,hp,hL]) ?_
  rw [Fo.enc,List.append_nil] at hR
  exact Ev.ae h3 (Ev.ae hp0 (Ev.ae hp1 (Ev.ai (by omega) hR)))
 | cons a' b' c' d' k' r _ ih =>
  intro q m v hq hf hg hgl hv hq3 hR hm hqz
  rw [Fo.roots] at hq
  obtain ⟨hlt,e1,e2⟩:=afS hq
  have hl:=Fo.jX a' b' c' d' k' r
  have hz:=Fo.kG (Fo.cons a' b' c' d' k' .nil)
  have hzT:=Fo.kG (Fo.cons a b c d ks .nil)
  have ee:(Fo.cons a' b' c' d' k' r).enc=(Fo.cons a' b' c' d' k' .nil).enc++r.enc:=by rw [Fo.enc,Fo.enc,Fo.enc,List.append_nil]
  have hel:=congrArg List.length ee
  rw [List.length_append] at hel
  have o1:(Fo.cons a' b' c' d' k' .nil).Ok dep:=⟨hg.1,hg.2.1,hg.2.2.1,hg.2.2.2.1,hg.2.2.2.2.1,hg.2.2.2.2.2.1,hg.2.2.2.2.2.2.1,hg.2.2.2.2.2.2.2.1,trivial⟩
  have S:=aaw a b c d ks ho (by omega) (Fo.oC _ _ (by omega)) m dep a' b' c' d' k' (TA hf) hd o1 (Fo.oC _ _ (by omega))
  obtain ⟨_,_,_,_,_,T⟩:=FZ a' b' c' d' k' hg.one (by omega) (Fo.oC _ _ (by omega)) (by omega)
  have hle:=KL hf hm
  simp only [Fo.size] at hle hqz
  obtain ⟨_,_,_,f4⟩:=rO hf
  refine Ev.step (fun k=>by rw [eG.l0,hp,hL,e1]) ?_
  refine Ev.ae h3 (Ev.ae hp0 (Ev.ae hp1 (Ev.ae (by omega) (Ev.ae (by omega) (Ev.bind S (Ev.bind T (Ev.ae (by rw [dW,dW];omega) ?_)))))))
  rw [aO (x:=(q:Int)+1) (by omega) (by omega),lZ]
  refine ih (q+1) (m+1+k'.size) (v++(Fo.cons a' b' c' d' k' .nil).enc) e2 f4 hg.rest (by omega) (by rw [List.length_append];omega) (by omega) ?_ (by omega) (by omega)
  rw [List.append_assoc,← ee]
  exact hR
theorem adQ (s:ByteArray) (t:List Nd) (x6:List Int) (p1 p2 q0 q1:Int) (e0 e1 d2:List Int) (n6:2 < (x6.length:Int)) (h1:rd x6 1=p1) (h2:rd x6 2=p2) (b1:0≤p1∧p1 < (t.length:Int)) (b2:0≤p2∧p2 < (t.length:Int))
 (hL:(aa t p1).f4=[q0,q1]) (c0:0≤q0∧q0 < (t.length:Int)) (c1:0≤q1∧q1 < (t.length:Int)) (f0:(aa t q0).f3=strOfNums e0) (f1:(aa t q1).f3=strOfNums e1) (f2:(aa t p2).f3=strOfNums d2)
 (k0:aH e0) (l0:e0.length≤1000000) (k1:aH e1) (l1:e1.length≤1000000) {R:List Int × List Int × ByteArray × ByteArray × Int}
 (h:Ev (fun k=>if (x6.length:Int)=4 then eG.l0 k s t x6 0 (eD e0).1 (eD e1).1 (strOfNums d2) ⟨#[]⟩ else EW s (eD e0).1 (eD e1).1 (strOfNums d2) ⟨#[]⟩ k) R):Ev (fun k=>eG.j0 k s t x6 false) R:=by
 refine Ev.step (fun k=>by rw [eG.j0,h1,h2,hL,f2]) ?_
 have g0:rd [q0,q1] 0=q0:=rfl
 have g1:rd [q0,q1] 1=q1:=rfl
 refine Ev.ai (by simp) (Ev.ae (by omega) (Ev.ae b1.1 (Ev.ae b1.2 (Ev.ae n6 (Ev.ae b2.1 (Ev.ae b2.2 (Ev.ae (by simp) (Ev.ae c0.1 (Ev.ae c0.2 ?_)))))))))
 refine Ev.bind (a:=eD e0) ?_ (Ev.ae (by simp) (Ev.ae c1.1 (Ev.ae c1.2 (Ev.bind (a:=eD e1) ?_ h))))
 ·rw [g0,f0];exact TF e0 k0 l0
 ·rw [g1,f1];exact TF e1 k1 l1
theorem ab7 (a b:Int) (c:Bool) (d:List Int) (ks:Fo) (l:List Int) (hl:aH l) (he:l=(Fo.cons a b c d ks .nil).enc) (ho:(Fo.cons a b c d ks .nil).Ok 0) (hs:l.length≤2000) :
 (qJ ks=none∧Ev (fun k=>eG.f k (strOfNums l)) N5)∨∃ x y u v,qJ ks=some (x,y,u,v)∧x.length≤20∧y.length≤20∧aH u∧aH v∧u.length≤l.length∧v.length≤l.length∧∀ {R},Ev (EW (strOfNums l) x y (strOfNums u) (strOfNums v)) R→Ev (fun k=>eG.f k (strOfNums l)) R:=by
 have hll:=congrArg List.length he
 rw [he] at hs
 have hz:=Fo.kG (Fo.cons a b c d ks .nil)
 have hle:=Fo.jX a b c d ks .nil
 obtain ⟨_,p2⟩:=xV l hl (by rw [he];omega) a b c d ks he ho (by omega)
 have hfw:=BR (Fo.cons a b c d ks .nil)
 have hlen:((Fo.cons a b c d ks .nil).flat 0).length=1+ks.size:=by rw [Fo.fD];simp only [Fo.size];omega
 obtain ⟨h0,r0,f0,_⟩:=rO hfw
 rw [show ((0:Nat):Int)=0 from rfl] at r0
 have lost:∀ {t:List Nd} {x6:List Int},Ev (fun k=>eG.j0 k (strOfNums l) t x6 true) N5:=by
  intro t x6
  refine Ev.step (fun k=>by rw [eG.j0]) ?_
  exact Ev.ae rfl (Ev.now _)
 have run:∀ {R},Ev (fun k=>(if ((ks.roots (0+1)).length:Int)=3 then (if 1 < ((ks.roots (0+1)).length:Int) then (if 0≤(rd (ks.roots (0+1)) 1) then (if (rd (ks.roots (0+1)) 1) < (((Fo.cons a b c d ks .nil).flat 0).length:Int) then (eG.j0 k (strOfNums l) ((Fo.cons a b c d ks .nil).flat 0) (ks.roots (0+1)) ((((aa ((Fo.cons a b c d ks .nil).flat 0) (rd (ks.roots (0+1)) 1)).f4).length:Int) != 2)) else (none)) else (none)) else (none)) else (if ((ks.roots (0+1)).length:Int)=4 then (if 1 < ((ks.roots (0+1)).length:Int) then (if 0≤(rd (ks.roots (0+1)) 1) then (if (rd (ks.roots (0+1)) 1) < (((Fo.cons a b c d ks .nil).flat 0).length:Int) then (eG.j0 k (strOfNums l) ((Fo.cons a b c d ks .nil).flat 0) (ks.roots (0+1)) ((((aa ((Fo.cons a b c d ks .nil).flat 0) (rd (ks.roots (0+1)) 1)).f4).length:Int) != 2)) else (none)) else (none)) else (none)) else (eG.j0 k (strOfNums l) ((Fo.cons a b c d ks .nil).flat 0) (ks.roots (0+1)) true)))) R→Ev (fun k=>eG.f k (strOfNums l)) R:=fun h=>by
  refine Ev.congr (fun k=>by rw [eG.f]) ?_
  refine Ev.bind p2 (Ev.ae rfl (Ev.ae (by rw [hlen];omega) ?_))
  show Ev (fun k=>_) _
  simp only [r0]
  exact h
 have few:¬ ((ks.roots (0+1)).length:Int)=3→¬ ((ks.roots (0+1)).length:Int)=4→Ev (fun k=>eG.f k (strOfNums l)) N5:=fun h3 h4=>run (Ev.ai h3 (Ev.ai h4 lost))
 have qI:∀ {R} {n:Int},((ks.roots (0+1)).length:Int)=3∨((ks.roots (0+1)).length:Int)=4→rd (ks.roots (0+1)) 1=n→0≤n→n < (((Fo.cons a b c d ks .nil).flat 0).length:Int)→Ev (fun k=>eG.j0 k (strOfNums l) ((Fo.cons a b c d ks .nil).flat 0) (ks.roots (0+1)) ((((aa ((Fo.cons a b c d ks .nil).flat 0) n).f4).length:Int) != 2)) R→Ev (fun k=>eG.f k (strOfNums l)) R:=fun h34 hn h0 h1 h=>by
  refine run ?_
  rw [hn]
  rcases h34 with h3 | h4
  ·exact Ev.ae h3 (Ev.ae (by omega) (Ev.ae h0 (Ev.ae h1 h)))
  ·exact Ev.ai (by omega) (Ev.ae h4 (Ev.ae (by omega) (Ev.ae h0 (Ev.ae h1 h))))
 rcases ks with _ | ⟨a0,b0,c0,d0,k0,_ | ⟨a1,b1,c1,d1,k1,_ | ⟨a2,b2,c2,d2,k2,r⟩⟩⟩
 ·exact .inl ⟨rfl,few (by simp [Fo.roots]) (by simp [Fo.roots])⟩
 ·exact .inl ⟨rfl,few (by simp [Fo.roots]) (by simp [Fo.roots])⟩
 ·exact .inl ⟨by rcases k1 with _ | ⟨_,_,_,_,_,_ | ⟨_,_,_,_,_,_ | _⟩⟩<;>rfl,few (by simp [Fo.roots]) (by simp [Fo.roots])⟩
 obtain ⟨n0,rr0,_,f1⟩:=rO f0
 obtain ⟨n1,rr1,fk1,f2⟩:=rO f1
 obtain ⟨n2,rr2,_,f3⟩:=rO f2
 have o1:=ho.kids.rest
 have o2:=o1.rest
 have l0:=Fo.jX a0 b0 c0 d0 k0 (.cons a1 b1 c1 d1 k1 (.cons a2 b2 c2 d2 k2 r))
 have l1:=Fo.jX a1 b1 c1 d1 k1 (.cons a2 b2 c2 d2 k2 r)
 have l2:=Fo.jX a2 b2 c2 d2 k2 r
 have hlr:((((Fo.cons a0 b0 c0 d0 k0 (.cons a1 b1 c1 d1 k1 (.cons a2 b2 c2 d2 k2 r))).roots (0+1)).length:Nat):Int)=3+((r.roots (0+1+1+k0.size+1+k1.size+1+k2.size)).length:Int):=by simp only [Fo.roots,List.length_cons];omega
 have hq1:rd ((Fo.cons a0 b0 c0 d0 k0 (.cons a1 b1 c1 d1 k1 (.cons a2 b2 c2 d2 k2 r))).roots (0+1)) 1=((0+1+1+k0.size:Nat):Int):=rfl
 have hq2:rd ((Fo.cons a0 b0 c0 d0 k0 (.cons a1 b1 c1 d1 k1 (.cons a2 b2 c2 d2 k2 r))).roots (0+1)) 2=((0+1+1+k0.size+1+k1.size:Nat):Int):=rfl
 have hq3:rd ((Fo.cons a0 b0 c0 d0 k0 (.cons a1 b1 c1 d1 k1 (.cons a2 b2 c2 d2 k2 r))).roots (0+1)) 3=rd (r.roots (0+1+1+k0.size+1+k1.size+1+k2.size)) 0:=rfl
 generalize hrr:(Fo.cons a0 b0 c0 d0 k0 (.cons a1 b1 c1 d1 k1 (.cons a2 b2 c2 d2 k2 r))).roots (0+1)=rr at *
 have main:(((r.roots (0+1+1+k0.size+1+k1.size+1+k2.size)).length:Int)=0∨((r.roots (0+1+1+k0.size+1+k1.size+1+k2.size)).length:Int)=1) →
  ((∀ e0 e1:List Int,∀ x0 y0 z0 w0 x1 y1 z1 w1,k1≠.cons x0 y0 z0 e0 w0 (.cons x1 y1 z1 e1 w1 .nil))∧Ev (fun k=>eG.f k (strOfNums l)) N5) ∨
  ∃ (e0 e1:List Int) (x0 y0:Int) (z0:Bool) (w0:Fo) (x1 y1:Int) (z1:Bool) (w1:Fo),k1=.cons x0 y0 z0 e0 w0 (.cons x1 y1 z1 e1 w1 .nil)∧aH e0∧aH e1∧∀ {R},Ev (fun k=>if (rr.length:Int)=4 then eG.l0 k (strOfNums l) ((Fo.cons a b c d (.cons a0 b0 c0 d0 k0 (.cons a1 b1 c1 d1 k1 (.cons a2 b2 c2 d2 k2 r))) .nil).flat 0) rr 0 (eD e0).1 (eD e1).1 (strOfNums d2) ⟨#[]⟩ else EW (strOfNums l) (eD e0).1 (eD e1).1 (strOfNums d2) ⟨#[]⟩ k) R→Ev (fun k=>eG.f k (strOfNums l)) R:=by
  intro hr
  have AY:(aa ((Fo.cons a b c d (.cons a0 b0 c0 d0 k0 (.cons a1 b1 c1 d1 k1 (.cons a2 b2 c2 d2 k2 r))) .nil).flat 0) ((0+1+1+k0.size:Nat):Int)).f4=k1.roots (0+1+1+k0.size+1):=by rw [rr1];rfl
  have RG:¬ ((k1.roots (0+1+1+k0.size+1)).length:Int)=2→Ev (fun k=>eG.f k (strOfNums l)) N5:=fun h2=>by
   refine qI (by omega) hq1 (by omega) (by omega) ?_
   rw [AY,show (((k1.roots (0+1+1+k0.size+1)).length:Int) != 2)=true from bne_iff_ne.2 h2]
   exact lost
  rcases k1 with _ | ⟨x0,y0,z0,e0,w0,_ | ⟨x1,y1,z1,e1,w1,_ | ⟨x2,y2,z2,e2,w2,r2⟩⟩⟩
  ·exact .inl ⟨(fun _ _ _ _ _ _ _ _ _ _ h=>by cases h),RG (by simp [Fo.roots])⟩
  ·exact .inl ⟨(fun _ _ _ _ _ _ _ _ _ _ h=>by cases h),RG (by simp [Fo.roots])⟩
  ·have og:=o1.kids
   obtain ⟨m0,s0,_,g1⟩:=rO fk1
   obtain ⟨m1,s1,_,_⟩:=rO g1
   have j0:=Fo.jX x0 y0 z0 e0 w0 (.cons x1 y1 z1 e1 w1 .nil)
   have j1:=Fo.jX x1 y1 z1 e1 w1 .nil
   refine .inr ⟨e0,e1,x0,y0,z0,w0,x1,y1,z1,w1,rfl,og.2.2.2.2.1,og.rest.2.2.2.2.1,fun {R} h=>?_⟩
   refine qI (by omega) hq1 (by omega) (by omega) ?_
   rw [AY,show ((((Fo.cons x0 y0 z0 e0 w0 (.cons x1 y1 z1 e1 w1 .nil)).roots (0+1+1+k0.size+1)).length:Int) != 2)=false from rfl]
   exact adQ _ _ _ _ _ _ _ e0 e1 d2 (by omega) hq1 hq2 ⟨by omega,by omega⟩ ⟨by omega,by omega⟩ AY ⟨by omega,by omega⟩ ⟨by omega,by omega⟩ (by rw [s0];rfl) (by rw [s1];rfl) (by rw [rr2];rfl) og.2.2.2.2.1 (by omega) og.rest.2.2.2.2.1 (by omega) h
  ·exact .inl ⟨(fun _ _ _ _ _ _ _ _ _ _ h=>by cases h),RG (by simp [Fo.roots];omega)⟩
 rcases r with _ | ⟨a3,b3,c3,d3,k3,_ | ⟨a4,b4,c4,d4,k4,r4⟩⟩
 ·rcases main (.inl rfl) with ⟨hn,h⟩ | ⟨e0,e1,x0,y0,z0,w0,x1,y1,z1,w1,rfl,g0,g1,h⟩
  ·refine .inl ⟨?_,h⟩
   unfold qJ
   split
   ·rename_i e;injection e with _ _ _ _ _ e;injection e with _ _ _ _ e _;exact absurd e (hn _ _ _ _ _ _ _ _ _ _)
   ·rename_i e;injection e with _ _ _ _ _ e;injection e with _ _ _ _ e _;exact absurd e (hn _ _ _ _ _ _ _ _ _ _)
   ·rfl
  ·refine .inr ⟨_,_,d2,[],rfl,Cj e0 g0,Cj e1 g1,o2.2.2.2.2.1,aH.nil,by omega,by simp,fun {R} hR=>h ?_⟩
   refine Ev.ai (by rw [hlr];simp [Fo.roots]) hR
 ·rcases main (.inr rfl) with ⟨hn,h⟩ | ⟨e0,e1,x0,y0,z0,w0,x1,y1,z1,w1,rfl,g0,g1,h⟩
  ·refine .inl ⟨?_,h⟩
   unfold qJ
   split
   ·rename_i e;injection e with _ _ _ _ _ e;injection e with _ _ _ _ e _;exact absurd e (hn _ _ _ _ _ _ _ _ _ _)
   ·rename_i e;injection e with _ _ _ _ _ e;injection e with _ _ _ _ e _;exact absurd e (hn _ _ _ _ _ _ _ _ _ _)
   ·rfl
  ·obtain ⟨n3,rr3,fk3,_⟩:=rO f3
   have o3:=o2.rest
   have l3:=Fo.jX a3 b3 c3 d3 k3 .nil
   have ze:=k3.kG
   refine .inr ⟨_,_,d2,k3.enc,rfl,Cj e0 g0,Cj e1 g1,o2.2.2.2.2.1,k3.tQ _ o3.kids,by omega,by omega,fun {R} hR=>h ?_⟩
   refine Ev.ae (by rw [hlr];simp [Fo.roots]) ?_
   have:=afT a b c d _ ho (by omega) (strOfNums l) rr ((0+1+1+k0.size+1+(Fo.cons x0 y0 z0 e0 w0 (.cons x1 y1 z1 e1 w1 .nil)).size+1+k2.size:Nat):Int) (k3.roots (0+1+1+k0.size+1+(Fo.cons x0 y0 z0 e0 w0 (.cons x1 y1 z1 e1 w1 .nil)).size+1+k2.size+1)) (by rw [hlr];simp [Fo.roots]) hq3 (by omega) (by omega) (by rw [rr3];rfl) (eD e0).1 (eD e1).1 (strOfNums d2) (R:=R) 2 (by decide) k3 0 _ [] List.drop_zero fk3 o3.kids (by omega) (by simp;omega) (by omega) hR (by omega) (by omega)
   exact this
 ·refine .inl ⟨by rcases k1 with _ | ⟨_,_,_,_,_,_ | ⟨_,_,_,_,_,_ | _⟩⟩<;>rfl,few ?_ ?_⟩
  ·rw [hlr];simp only [Fo.roots,List.length_cons];omega
  ·rw [hlr];simp only [Fo.roots,List.length_cons];omega
theorem Uu {aD param key:List Int} {g:Fo} (hG:Gd aD param):qJ (gZ aD param key g)=some (aD,param,key,g.enc):=by
 have h1:eD (dQ (numsOf aD))=(aD,true):=Fv ⟨hG.1,rfl⟩
 have h2:(eD ([]:List Int)).1=[]:=by decide
 unfold gZ gG
 by_cases hp:param=[]
 ·rw [if_pos hp]
  cases g with
  | nil=>rw [mV,qJ,h1,h2,hp];rfl
  | cons=>rw [mV,qJ,h1,h2,hp]
 ·rw [if_neg hp]
  have h3:eD (dQ (numsOf param))=(param,true):=Fv ⟨hG.2.resolve_left hp,rfl⟩
  cases g with
  | nil=>rw [mV,qJ,h1,h3];rfl
  | cons=>rw [mV,qJ,h1,h3]
theorem ade {a b a' b':Int} {c c':Bool} {d d':List Int} {ks ks':Fo} (h:(Fo.cons a b c d ks .nil).Ok 0) (h':(Fo.cons a' b' c' d' ks' .nil).Ok 0) (e:(Fo.cons a b c d ks .nil).enc=(Fo.cons a' b' c' d' ks' .nil).enc) (hs:(Fo.cons a b c d ks .nil).enc.length≤2000):Fo.cons a b c d ks .nil=Fo.cons a' b' c' d' ks' .nil:=by
 have z1:=Fo.kG (Fo.cons a b c d ks .nil)
 have z2:=Fo.kG (Fo.cons a' b' c' d' ks' .nil)
 obtain ⟨p1,_⟩:=xV _ (Fo.tQ _ 0 h) (by omega) a b c d ks rfl h (by omega)
 obtain ⟨p2,_⟩:=xV _ (Fo.tQ _ 0 h) (by omega) a' b' c' d' ks' e h' (by rw [e] at hs;omega)
 have:=Ev.jP p1 p2
 injection this with this _
 exact Fo.BB h.by h'.by this (by rw [Fo.roots,Fo.roots,Fo.roots,Fo.roots])
theorem afU (l:List Int) (hl:aH l) (hs:l.length≤1000):∃ R,Ev (fun k=>dV.f k (strOfNums l)) R∧Ev (fun k=>eG.f k (strOfNums l)) R∧R.1.length≤1000∧R.2.1.length≤1000:=by
 cases IV l hl (by omega) with
 | bad code q hc hq p1 p2 _ _ =>
  refine ⟨([],[],⟨#[]⟩,⟨#[]⟩,code),?_,?_,by simp,by simp⟩
  ·refine Ev.congr (fun k=>by rw [dV.f]) ?_
   exact Ev.bind p1 (Ev.ai hc (Ev.now _))
  ·refine Ev.congr (fun k=>by rw [eG.f]) ?_
   exact Ev.bind p2 (Ev.ai hc (Ev.now _))
 | ok a b c d ks he ho hz p1 p2 _ _ =>
  have ds:=aa8 a b c d ks l hl he ho (by omega)
  rcases ab7 a b c d ks l hl he ho (by omega) with ⟨hn,hr⟩ | ⟨x,y,u,v,hrd,hx,hy,hu,hv,QR,hvl,hr⟩
  ·rcases ds with ⟨aD,param,key,g,hG,e,_⟩ | ⟨_,hd⟩
   ·unfold eQ at e
    injection e with _ _ _ _ e
    rw [e,Uu hG] at hn
    cases hn
   ·exact ⟨_,hd,hr,by simp [N5],by simp [N5]⟩
  ·obtain ⟨e,e1,e2,hw⟩:=WB x y u v (by omega) (by omega) hu (by omega) hv (by omega)
   have no:¬ (e.2=0∧e.1=strOfNums l)→Ev (fun k=>eG.f k (strOfNums l)) N5:=fun h=>hr (Ev.bind e2 (by
    by_cases h0:e.2=0
    ·exact Ev.ae h0 (Ev.ai (fun h1=>h ⟨h0,toList_inj h1⟩) (Ev.now _))
    ·exact Ev.ai h0 (Ev.now _)))
   rcases ds with ⟨aD,param,key,g,hG,eT,hd⟩ | ⟨hn,hd⟩
   ·unfold eQ at eT
    injection eT with q1 q2 q3 q4 eT
    subst q1 q2 q3 q4 eT
    rw [Uu hG] at hrd
    simp only [Option.some.injEq,Prod.mk.injEq] at hrd
    obtain ⟨rfl,rfl,rfl,rfl⟩:=hrd
    have ag:=adb (key:=key) hG ho (by show (Fo.cons 0 16 true [] (gZ aD param key g) .nil).enc.length≤2000;rw [← he];omega)
    have ee:=Ev.jP e1 ag
    have hL:=hG.lens
    refine ⟨_,hd,hr (Ev.bind e2 ?_),by show aD.length≤1000;omega,by show param.length≤1000;omega⟩
    rw [ee]
    refine Ev.ae rfl (Ev.ae ?_ (Ev.now _))
    rw [he]
    rfl
   ·refine ⟨_,hd,no ?_,by simp [N5],by simp [N5]⟩
    rintro ⟨h0,h1⟩
    obtain ⟨g,hG,_,_,hm,xg,hm1⟩:=hw h0
    rw [h1] at hm1
    have hh:=xK hl (Fo.tQ _ 0 hm) hm1
    rw [he] at hh
    exact hn ⟨x,y,u,g,hG,ade ho hm hh (by rw [← he];omega)⟩
theorem Pkcs8Tells (l0 l1:List Int) (a2 a3 a1:ByteArray) (_:Dx ⟨l0,l1,a2,a3⟩) (_:a1.size≤140737488351232):∃ k,kP.f k l0 l1 a2 a3 a1=some true:=by
 obtain ⟨key,hk,rfl⟩:=Bw a2
 obtain ⟨attrs,hs,rfl⟩:=Bw a3
 obtain ⟨l,hl,rfl⟩:=Bw a1
 refine Ev.rounds (r:=true) ?_
 refine Ev.congr (fun k=>by rw [kP.f,dA,dA,dA]) ?_
 have hnone:Ev (fun k=>kP.j0 k (strOfNums l) true l0 l1 (strOfNums key) (strOfNums attrs)) true:=by
  refine Ev.step (fun k=>by rw [kP.j0]) ?_
  exact Ev.ae rfl (Ev.bind Yp (Ev.now _))
 by_cases c0:(l0.length:Int) > 60
 ·exact Ev.ae c0 hnone
 by_cases c1:(l1.length:Int) > 60
 ·exact Ev.ai c0 (Ev.ae c1 hnone)
 by_cases c2:(key.length:Int) > 500
 ·exact Ev.ai c0 (Ev.ai c1 (Ev.ae c2 hnone))
 by_cases c3:(attrs.length:Int) > 500
 ·exact Ev.ai c0 (Ev.ai c1 (Ev.ai c2 (Ev.ae c3 hnone)))
 refine Ev.ai c0 (Ev.ai c1 (Ev.ai c2 (Ev.ai c3 ?_)))
 by_cases c4:(l.length:Int) > 1000
 ·rw [decide_eq_true c4];exact hnone
 rw [decide_eq_false c4]
 obtain ⟨e,e1,e2,_⟩:=WB l0 l1 key attrs (by omega) (by omega) hk (by omega) hs (by omega)
 obtain ⟨R,r1,r2,b1,b2⟩:=afU l hl (by omega)
 refine Ev.step (fun k=>by rw [kP.j0]) ?_
 exact Ev.ai (by simp) (Ev.bind e1 (Ev.bind e2 (Ev.bind r1 (Ev.bind r2 (Ev.ae rfl (Ev.ae rfl (Ev.bind (adP _ _ _ _ b1 b2) (Ev.ae rfl (Ev.ae rfl (Ev.bind Yp (Ev.now _)))))))))))
end Go.Proofs.YtfcdabhalahieaaGreatDoor.Pure
